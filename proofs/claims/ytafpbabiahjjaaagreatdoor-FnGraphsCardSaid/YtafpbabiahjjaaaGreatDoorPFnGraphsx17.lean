-- written by a copy of the print that takes contracts by hand (stubprint.py)
import Derived.Test.YtafpbabiahjjaaaGreatDoorWSpanB
import Derived.Test.YtafpbabiahjjaaaGreatDoorPFnGraphsx0
import Derived.Test.YtafpbabiahjjaaaGreatDoorPFnGraphsx1
import Derived.Test.YtafpbabiahjjaaaGreatDoorPFnGraphsx4
import Derived.Test.YtafpbabiahjjaaaGreatDoorPFnGraphsx13
import Derived.Test.YtafpbabiahjjaaaGreatDoorPFnGraphsx14
import Derived.Test.YtafpbabiahjjaaaGreatDoorPFnGraphsx15
import Derived.Test.YtafpbabiahjjaaaGreatDoorPFnGraphsx16
namespace Go.Proofs.YtafpbabiahjjaaaGreatDoor.PFnGraphs
open Go.RowKit Go.Proofs.YtafpbabiahjjaaaGreatDoorW.PrintWords Go.Proofs.YtafpbabiahjjaaaGreatDoorW.PrintLast Go.Proofs.YtafpbabiahjjaaaGreatDoorW.PrintMore
attribute [local go_sem] max2_int min2_int max_two min_two max_three min_three max_four min_four   -- for this text's walks alone
set_option linter.unusedVariables false
set_option linter.unusedSimpArgs false

/-! ### spec_GenusRow: function 15 -/
/-- one more of genus n -/
def spec_GenusRow.bump (row : List Int) (n : Int) : Option (List Int) :=
  if 0 ≤ n ∧ n < 1000000 ∧ row.length < 1000000 then some ((row ++ List.replicate (n.toNat + 1 - row.length) 0).set n.toNat (wrap64 (rd (row ++ List.replicate (n.toNat + 1 - row.length) 0) n + 1))) else none
def spec_GenusRow.cL (ring : List Int → List Int → Option (List Int)) (run : List Int → List Int → Option (List Int × List Int)) (os : List (List Int)) : Nat → Nat → List Int → List Int → Option (List Int × List Int)
  | 0, _, m, row => some (m, row)
  | c + 1, i, m, row => (ring m (rd_L2 os (i : Int))).bind fun m' => (run m' row).bind fun st => spec_GenusRow.cL ring run os c (i + 1) st.1 st.2
def spec_GenusRow.cF (k : Nat) (g : List (List Int)) : Nat → Int → List Int → List Int → Option (List Int × List Int)
  | 0, _, m, row => (spec_l6Genus.f k m).bind fun n => (spec_GenusRow.bump row n).bind fun row' => some (m, row')
  | c + 1, v, m, row => (spec_l7Darts.f k g v).bind fun ds => (spec_l7Orders.f k ds).bind fun os => if os.length < 1000000 then spec_GenusRow.cL (spec_l7Ring.f k) (fun m row => spec_GenusRow.cF k g c (v + 1) m row) os os.length 0 m row else none
def spec_GenusRow.f (k : Nat) (l0 : List (List Int)) : Option (List Int) := (spec_CountRotations.f k l0).bind fun n => (spec_l1In.f n 1 2000).bind fun t => if t = true then (if l0.length < 1000000 then (spec_GenusRow.cF k l0 7 0 (List.replicate (2 * l0.length) 0) []).bind fun st => some st.2 else none) else some []
/-- the memory while rotations are counted: m at block mb, the row apart; D: blocks that are not touched -/
structure spec_GenusRow.SI (w0 : World) (mb : Nat) (D : Nat → Prop) (vm : Value) (m : List Int) (vr : Value) (row : List Int) (W : World) : Prop where
  bel : Below w0.heap.size w0 W
  dom : ∀ b, D b → b < W.heap.size ∧ w0.heap.size ≤ b
  nd : ¬ D mb
  lo : w0.heap.size ≤ mb
  hi : mb < W.heap.size
  hM : Kd.R (Kd.int .i64) 3 W w0.heap.size (fun b => b = mb) vm m
  hR : Kd.R (Kd.int .i64) 3 W w0.heap.size (fun b => ¬ D b ∧ b ≠ mb) vr row
theorem spec_GenusRow.SI.step {w0 : World} {mb : Nat} {D : Nat → Prop} {vm : Value} {m : List Int} {vr : Value} {row : List Int} {W W' : World} (h : spec_GenusRow.SI w0 mb D vm m vr row W) (hb : Below W.heap.size W W') : spec_GenusRow.SI w0 mb D vm m vr row W' :=
  { bel := below_step h.bel hb
    dom := fun b q => ⟨Nat.lt_of_lt_of_le (h.dom b q).1 hb.size, (h.dom b q).2⟩
    nd := h.nd
    lo := h.lo
    hi := Nat.lt_of_lt_of_le h.hi hb.size
    hM := Kd.R_below h.hM hb
    hR := Kd.R_below h.hR hb }
theorem spec_GenusRow.SI.gr {w0 : World} {mb : Nat} {D D' : Nat → Prop} {vm : Value} {m : List Int} {vr : Value} {row : List Int} {W W' : World} (h : spec_GenusRow.SI w0 mb D vm m vr row W) (hb : Below W.heap.size W W') (hd : ∀ b, D' b → D b ∨ (W.heap.size ≤ b ∧ b < W'.heap.size)) : spec_GenusRow.SI w0 mb D' vm m vr row W' :=
  { bel := below_step h.bel hb
    dom := fun b q => by
      rcases hd b q with q | ⟨q1, q2⟩
      · exact ⟨Nat.lt_of_lt_of_le (h.dom b q).1 hb.size, (h.dom b q).2⟩
      · exact ⟨q2, Nat.le_trans h.bel.size q1⟩
    nd := fun q => by
      rcases hd _ q with q | ⟨q1, _⟩
      · exact h.nd q
      · have := h.hi; omega
    lo := h.lo
    hi := Nat.lt_of_lt_of_le h.hi hb.size
    hM := Kd.R_below h.hM hb
    hR := Kd.R_below (Kd.R_mono (Kd.R_bound h.hR) (fun k hk => ⟨fun q => by
      rcases hd _ q with q | ⟨q1, _⟩
      · exact hk.1.1 q
      · have := hk.2.2.1; omega, hk.1.2⟩)) hb }
theorem spec_GenusRow.SI.grown {w0 : World} {mb : Nat} {D : Nat → Prop} {vm : Value} {m : List Int} {vr vr' : Value} {row row' : List Int} {W W' : World} (h : spec_GenusRow.SI w0 mb D vm m vr row W) (hg : W.grownBy W' vr.ownBlock) (hb : Below w0.heap.size w0 W') (hR : Kd.R (Kd.int .i64) 3 W' w0.heap.size (fun b => ¬ D b ∧ b ≠ mb) vr' row') : spec_GenusRow.SI w0 mb D vm m vr' row' W' ∧ W.heap.size ≤ W'.heap.size ∧ ∀ b, D b → b < W.heap.size → W'.heap[b]? = W.heap[b]? :=
  ⟨{ bel := hb
     dom := fun b q => ⟨Nat.lt_of_lt_of_le (h.dom b q).1 hg.size, (h.dom b q).2⟩
     nd := h.nd
     lo := h.lo
     hi := Nat.lt_of_lt_of_le h.hi hg.size
     hM := Kd.R_grown h.hM hg (fun k hk e => (h.hR.1 k e.symm).2 hk)
     hR := hR }, hg.size, fun b hd hb => hg.block b hb (fun e => (h.hR.1 b e.symm).1 hd)⟩
theorem spec_GenusRow.SI.putRow {w0 : World} {mb : Nat} {D : Nat → Prop} {vm : Value} {m : List Int} {g L cap : Nat} {row : List Int} {W : World} (h : spec_GenusRow.SI w0 mb D vm m (.slice (some ⟨g, 0, none⟩) L cap) row W) (hL : L = row.length) (i : Nat) (x : Int) : spec_GenusRow.SI w0 mb D vm m (.slice (some ⟨g, 0, none⟩) L cap) (row.set i x) (W.setCell ⟨g, i, none⟩ (.int .i64 x)) ∧ W.heap.size ≤ (W.setCell ⟨g, i, none⟩ (.int .i64 x)).heap.size ∧ ∀ b, D b → b < W.heap.size → (W.setCell ⟨g, i, none⟩ (.int .i64 x)).heap[b]? = W.heap[b]? := by
  subst hL
  have hp := (Kd.R_put (enc := Value.int .i64) (h1 := fun _ => rfl) h.hR (i : Int) x)
  rw [Int.toNat_natCast] at hp
  have hg : w0.heap.size ≤ g := Kd.R_base h.hR g rfl
  exact h.grown hp.2 (below_set h.bel hg) hp.1
theorem spec_GenusRow.SI.setM {w0 : World} {mb : Nat} {D : Nat → Prop} {vm : Value} {m m' : List Int} {vr : Value} {row : List Int} {W W' : World} (h : spec_GenusRow.SI w0 mb D vm m vr row W) (hb : Below w0.heap.size w0 W') (hk : Kept W W' (fun b => b = mb)) (hM : Kd.R (Kd.int .i64) 3 W' w0.heap.size (fun b => b = mb) vm m') : spec_GenusRow.SI w0 mb D vm m' vr row W' ∧ W.heap.size ≤ W'.heap.size ∧ ∀ b, D b → b < W.heap.size → W'.heap[b]? = W.heap[b]? :=
  ⟨{ bel := hb
     dom := fun b q => ⟨Nat.lt_of_lt_of_le (h.dom b q).1 hk.1, (h.dom b q).2⟩
     nd := h.nd
     lo := h.lo
     hi := Nat.lt_of_lt_of_le h.hi hk.1
     hM := hM
     hR := Kd.R_step h.hR (fun k q hlt => hk.2 k hlt q.2) }, hk.1, fun b hd hb => hk.2 b hb (fun e => h.nd (e ▸ hd))⟩
/-- what counting owes -/
def spec_GenusRow.Po (w0 : World) (mb : Nat) (D : Nat → Prop) (vm : Value) (m' row' : List Int) (W : World) (e : Ending) (W' : World) : Prop :=
  ∃ vr', e = .returned vr' ∧ spec_GenusRow.SI w0 mb D vm m' vr' row' W' ∧ W.heap.size ≤ W'.heap.size ∧ ∀ b, D b → b < W.heap.size → W'.heap[b]? = W.heap[b]?
set_option maxHeartbeats 16000000 in
set_option maxRecDepth 100000 in
theorem spec_GenusRow.count (k : Nat) (w0 : World) (mb : Nat) (A0 : Option Addr) (c0 : Nat) (l0 : List (List Int)) (hr0 : Kd.C (Kd.slice 3 (Kd.int .i64)) w0 A0 l0.length l0) (hc0 : l0.length ≤ c0) : ∀ (c : Nat) (v : Int) (D : Nat → Prop) (vm vr : Value) (m row m' row' : List Int) (W : World), v + (c : Int) = 7 → 0 ≤ v →
    spec_GenusRow.cF k l0 c v m row = some (m', row') → spec_GenusRow.SI w0 mb D vm m vr row W →
    Calls Tryz.prog 50 #[.slice A0 l0.length c0, .int .i64 v, vm, vr] W (spec_GenusRow.Po w0 mb D vm m' row' W) := by
  have HR0 := Aside0.mk hr0
  have HC0 := Aside0.mk hc0
  clear hr0 hc0
  intro c
  induction c with
  | zero =>
    intro v D vm vr m row m' row' W hv h0 h H
    obtain rfl : v = 7 := by omega
    rw [spec_GenusRow.cF] at h
    obtain ⟨n, hn, h⟩ := Option.bind_eq_some_iff.mp h
    obtain ⟨row2, hb, h⟩ := Option.bind_eq_some_iff.mp h
    obtain ⟨rfl, rfl⟩ := Prod.mk.inj (Option.some.inj h)
    obtain ⟨Am, cm, rfl⟩ := Kd.R_slice H.hM
    obtain ⟨Ar, cr, rfl⟩ := Kd.R_slice H.hR
    have HN := Aside0.mk hn
    have HB := Aside0.mk hb
    have HS := Aside0.mk H
    clear hn hb h H
    go_enter Tryz.func50, Tryz.ntmps50
    go_wp2_with fail
    (go_at_call 63; (with_reducible refine (spec_l6Genus.calls k Am cm m n _ (Kd.R_reads' HS.out.hM).2.2 (Kd.R_reads' HS.out.hM).2.1 HN.out).mono ?_))
    rintro e w1 ⟨rfl, hb⟩
    have HB1 := Aside0.mk hb
    have HS1 := Aside0.mk (HS.out.step hb)
    clear hb HN
    have hbm := HB.out
    unfold spec_GenusRow.bump at hbm
    by_cases hc : 0 ≤ n ∧ n < 1000000 ∧ row.length < 1000000
    · rw [if_pos hc] at hbm
      have hbm := Option.some.inj hbm
      have HC := Aside0.mk hc
      have HBM := Aside0.mk hbm
      clear hbm hc HB
      go_wp2
      go_loopg [3] (n.toNat + 2) (fun kq v3 w' => ∃ (i : Nat), Aside0 (i ≤ n.toNat + 1 - row.length ∧ n.toNat + 1 - row.length - i < kq) ∧ Aside0 (spec_GenusRow.SI w0 mb D (.slice Am m.length cm) m v3 (row ++ List.replicate i 0) w') ∧ Aside0 (W.heap.size ≤ w'.heap.size ∧ ∀ b, D b → b < W.heap.size → w'.heap[b]? = W.heap[b]?))
      case atStart => exact ⟨0, ⟨by omega⟩, by rw [List.replicate_zero, List.append_nil]; exact HS1, ⟨HB1.out.size, fun b _ hb => HB1.out.block b hb⟩⟩
      case round =>
        clear HS1
        obtain ⟨i, HI, HS1, HK⟩ := hrel
        obtain ⟨y, hy⟩ : ∃ y, y = row ++ List.replicate i 0 := ⟨_, rfl⟩
        have hyl : y.length = row.length + i := by rw [hy]; simp
        have HY := Aside0.mk hy
        have HYL := Aside0.mk hyl
        have HS2 := Aside0.mk (show spec_GenusRow.SI w0 mb D (.slice Am m.length cm) m u3 y wr by rw [hy]; exact HS1.out)
        clear HS1 hy
        obtain ⟨Av, cv, hv3⟩ := Kd.R_slice HS2.out.hR
        subst hv3
        by_cases c1 : i < n.toNat + 1 - row.length
        · have c1b0 : decide ((y.length : Int) ≤ n) = true := decide_eq_true (by have := HC.out; omega)
          clear hyl
          have hl8 : (y.length + 1) * 8 ≤ 140737488355328 := by have := HYL.out; have := HC.out; omega
          have HF : Aside0 (∀ k, wr.heap.size ≤ k → ¬ D k ∧ k ≠ mb) := ⟨fun k hk => ⟨fun q => by have := (HS2.out.dom k q).1; omega, by have := HS2.out.hi; omega⟩⟩
          go_wp2_with (first | ((with_reducible refine gate_builtin (b := .append) (xs := #[.tmp 20, .tmp 21]) rfl ?_); at_builtin; refine Kd.R_append (Kd.int .i64) (w0 := w0) w0.heap.size rfl (.tmp 20) (.tmp 21) 26 3 (.int .i64 0) 8 rfl Tryz.underlying26 info3 rfl (by decide) (by omega) (.slice Av y.length cv) y 0 [.int .i64 0] (fun b => ¬ D b ∧ b ≠ mb) (fun _ => False) rfl rfl rfl (fun _ hk => hk.elim) HF.out HS2.out.hR HS2.out.bel HS2.out.bel.size hl8 ?_; intro v4 w4 hR4 hB4 hG4 _; have HS4 := Aside0.mk (HS2.out.grown hG4 hB4 hR4); clear hR4 hB4 hG4))
          go_roundg (n.toNat + 1 - row.length - i)
          case measure => have := HI.out; omega
          case rel => exact ⟨i + 1, ⟨by omega⟩, ⟨by rw [List.replicate_succ', ← List.append_assoc, ← HY.out]; exact HS4.out.1⟩, ⟨Nat.le_trans HK.out.1 HS4.out.2.1, fun b hd hb => (HS4.out.2.2 b hd (Nat.lt_of_lt_of_le hb HK.out.1)).trans (HK.out.2 b hd hb)⟩⟩
        · have c1b0 : decide ((y.length : Int) ≤ n) = false := decide_eq_false (by have := HC.out; omega)
          obtain rfl : i = n.toNat + 1 - row.length := by have := HI.out; omega
          have hny : n.toNat < y.length := by omega
          obtain ⟨g, capg, e0, -, -, -⟩ := Kd.R_form HS2.out.hR (by omega)
          injection e0 with e1 _ e3
          subst e1 e3
          have hrow2 : row2 = y.set n.toNat (wrap64 (rd y n + 1)) := by rw [← HBM.out, ← HY.out]
          have HR2 := Aside0.mk hrow2
          obtain ⟨hx, hf⟩ := Kd.R_celln 0 HS2.out.hR n HC.out.1 (by have := HC.out; omega)
          replace hx : wr.cell? ⟨g, n.toNat, none⟩ = some (.int .i64 (rd y n)) := hx
          have HS3 := Aside0.mk (HS2.out.putRow rfl n.toNat (wrap64 (rd y n + 1)))
          have p1 : (0 ≤ n) = True := eq_true HC.out.1
          have q1 : (n < (y.length : Int)) = True := eq_true (by have := HC.out; omega)
          clear hyl hrow2 c1 hny
          go_wp2
          go_ret
          exact ⟨_, rfl, by rw [HR2.out]; exact HS3.out.1, Nat.le_trans HK.out.1 HS3.out.2.1, fun b hd hb => (HS3.out.2.2 b hd (Nat.lt_of_lt_of_le hb HK.out.1)).trans (HK.out.2 b hd hb)⟩
    · rw [if_neg hc] at hbm
      exact absurd hbm (by simp)
  | succ c ih =>
    intro v D vm vr m row m' row' W hv h0 h H
    rw [spec_GenusRow.cF] at h
    obtain ⟨ds, hd, h⟩ := Option.bind_eq_some_iff.mp h
    obtain ⟨os, ho, h⟩ := Option.bind_eq_some_iff.mp h
    by_cases hl : os.length < 1000000
    · rw [if_pos hl] at h
      obtain ⟨Am, cm, rfl⟩ := Kd.R_slice H.hM
      obtain ⟨Ar, cr, rfl⟩ := Kd.R_slice H.hR
      have HD := Aside0.mk hd
      have HO := Aside0.mk ho
      have HH := Aside0.mk h
      have HS := Aside0.mk H
      have HL := Aside0.mk hl
      have IH := Aside0.mk ih
      have hv7 : (v == 7) = false := beq_eq_false_iff_ne.2 (by omega)
      clear hd ho h H hl ih
      go_enter Tryz.func50, Tryz.ntmps50
      go_wp2_with fail
      (go_at_call 55; (with_reducible refine (spec_l7Darts.calls k A0 c0 l0 v ds _ (Kd.C_below HR0.out HS.out.bel) HC0.out HD.out).mono ?_))
      rintro e w1 ⟨vd, rfl, hd1, hb1⟩
      obtain ⟨Ad, cd, rfl⟩ := Kd.R_slice hd1
      have HD1 := Aside0.mk hd1
      have HB1 := Aside0.mk hb1
      clear hd1 hb1 HD
      go_wp2_with fail
      (go_at_call 73; (with_reducible refine (spec_l7Orders.calls k Ad cd ds os _ (Kd.R_reads' HD1.out).2.2 (Kd.R_reads' HD1.out).2.1 HO.out).mono ?_))
      rintro e w2 ⟨vo, rfl, ho2, hb2⟩
      obtain ⟨Ao, co, rfl⟩ := Kd.S_slice ho2
      have hb12 := below_step HB1.out hb2
      have HS2 := Aside0.mk (HS.out.gr (D' := fun b => D b ∨ (W.heap.size ≤ b ∧ b < w2.heap.size)) hb12 (fun b q => q))
      have HO2 := Aside0.mk (show Kd.R (Kd.slice 3 (Kd.int .i64)) 26 w2 w0.heap.size (fun b => D b ∨ (W.heap.size ≤ b ∧ b < w2.heap.size)) (.slice Ao os.length co) os from Kd.R_lower (Kd.R_mono (Kd.R_bound (Kd.S_R ho2)) (fun q hq => .inr ⟨Nat.le_trans HB1.out.size hq.2.1, hq.2.2.1⟩)) (Nat.le_trans HS.out.bel.size HB1.out.size))
      have HK2 := Aside0.mk (show W.heap.size ≤ w2.heap.size ∧ ∀ b, D b → b < W.heap.size → w2.heap[b]? = W.heap[b]? from ⟨hb12.size, fun b _ hb => hb12.block b hb⟩)
      clear ho2 hb2 hb12 HB1 HD1 HO
      go_wp2
      go_loopg [3, 11] (os.length + 1) (fun kq v3 v11 w' => ∃ (i : Nat) (m1 row1 : List Int), v11 = .int .i64 (i : Int) ∧ Aside0 (spec_GenusRow.cL (spec_l7Ring.f k) (fun m row => spec_GenusRow.cF k l0 c (v + 1) m row) os (os.length - i) i m1 row1 = some (m', row')) ∧ Aside0 (i ≤ os.length ∧ os.length - i < kq) ∧ Aside0 (spec_GenusRow.SI w0 mb (fun b => D b ∨ (W.heap.size ≤ b ∧ b < w2.heap.size)) (.slice Am m.length cm) m1 v3 row1 w') ∧ Aside0 (Kd.R (Kd.slice 3 (Kd.int .i64)) 26 w' w0.heap.size (fun b => D b ∨ (W.heap.size ≤ b ∧ b < w2.heap.size)) (.slice Ao os.length co) os) ∧ Aside0 (W.heap.size ≤ w'.heap.size ∧ ∀ b, D b → b < W.heap.size → w'.heap[b]? = W.heap[b]?))
      case atStart => exact ⟨0, m, row, rfl, HH, ⟨by omega⟩, HS2, HO2, HK2⟩
      case round =>
        clear HH HS2 HO2 HK2
        obtain ⟨i, m1, row1, rfl, HA, HI, HS3, HO3, HK3⟩ := hrel
        by_cases c1 : i < os.length
        · have c1b0 : decide ((i : Int) < (os.length : Int)) = true := decide_eq_true (by omega)
          obtain ⟨m2, A10, h2⟩ : ∃ m2, spec_l7Ring.f k m1 (rd_L2 os (i : Int)) = some m2 ∧ ((spec_GenusRow.cF k l0 c (v + 1) m2 row1).bind fun st => spec_GenusRow.cL (spec_l7Ring.f k) (fun m row => spec_GenusRow.cF k l0 c (v + 1) m row) os (os.length - (i + 1)) (i + 1) st.1 st.2) = some (m', row') := by
            have h := HA.out
            rw [show os.length - i = (os.length - (i + 1)) + 1 by omega] at h
            exact Option.bind_eq_some_iff.mp h
          obtain ⟨⟨m3, row3⟩, A20, A30⟩ := Option.bind_eq_some_iff.mp h2
          have A1 := Aside0.mk A10
          have A2 := Aside0.mk A20
          have A3 := Aside0.mk (show spec_GenusRow.cL (spec_l7Ring.f k) (fun m row => spec_GenusRow.cF k l0 c (v + 1) m row) os (os.length - (i + 1)) (i + 1) m3 row3 = some (m', row') from A30)
          clear A10 A20 A30 HA h2
          have pi : (0 : Int) ≤ (i : Int) := by omega
          have qi : (i : Int) < (os.length : Int) := by omega
          have ei : ((i : Int)).toNat = i := Int.toNat_natCast i
          have wi : wrap64 ((i : Int) + 1) = ((i + 1 : Nat) : Int) := by have := HL.out; unfold wrap64; omega
          have wv : wrap64 (v + 1) = v + 1 := by unfold wrap64; omega
          obtain ⟨g, cg, e0, -, hgl, -⟩ := Kd.R_form HO3.out (by omega)
          injection e0 with e1 _ e3
          subst e1 e3
          obtain ⟨ad, A5, k5, e5, hx5, hl5, hi5⟩ := at_L2 (Kd.R_reads' HO3.out).2.2 (i : Int) pi qi
          have e5' := Option.some.inj e5
          subst e5'
          have hDg := HO3.out.1 g rfl
          have hgm : g ≠ mb := fun e => HS3.out.nd (e ▸ hDg)
          have HRW : Aside0 (∀ W_, Kept wr W_ (fun b => b = mb) → Kd.C (Kd.int .i64) W_ A5 (rd_L2 os (i : Int)).length (rd_L2 os (i : Int))) := ⟨fun W_ hk => by
            have hR := Kd.R_step HO3.out (fun q hq hlt => hk.2 q hlt (fun e => HS3.out.nd (e ▸ hq)))
            obtain ⟨ad', A5', k5', e5', hx5', _, hi5'⟩ := at_L2 (Kd.R_reads' hR).2.2 (i : Int) pi qi
            have e6 := Option.some.inj e5'
            subst e6
            have hc : W_.cell? ((⟨g, 0, none⟩ : Addr).add ((i : Int)).toNat) = wr.cell? ((⟨g, 0, none⟩ : Addr).add ((i : Int)).toNat) := World.cell?_of_block (by rw [add_block]; exact hk.2 g hgl hgm)
            rw [hc, hx5] at hx5'
            have e7 := Option.some.inj hx5'
            injection e7 with e8 _ _
            rw [e8]
            exact hi5'⟩
          have HC5 := Aside0.mk hl5
          have hx := hx5
          rw [ei] at hx
          (try rw [add_plain] at hx)
          obtain ⟨A3r, c3r, hv3⟩ := Kd.R_slice HS3.out.hR
          subst hv3
          clear hx5 hl5 hi5 hDg hgm e5 hgl
          go_wp2_with fail
          (go_at_call 54; (with_reducible refine (spec_l7Ring.calls k (fun b => b = mb) _ m1 A5 k5 (rd_L2 os (i : Int)) m2 w0 wr HS3.out.bel HS3.out.hM HRW.out HC5.out A1.out).mono ?_))
          rintro e w3 ⟨rfl, hm3, hb3, hk3⟩
          have HS4 := Aside0.mk (HS3.out.setM hb3 hk3 (Kd.R_of_own (Kd.own_of_R hm3) HS3.out.hM.1))
          have HO4 := Aside0.mk (Kd.R_step HO3.out (fun q hq hlt => HS4.out.2.2 q hq hlt))
          have HK4 := Aside0.mk (show W.heap.size ≤ w3.heap.size ∧ ∀ b, D b → b < W.heap.size → w3.heap[b]? = W.heap[b]? from ⟨Nat.le_trans HK3.out.1 HS4.out.2.1, fun b hd hb => (HS4.out.2.2 b (.inl hd) (Nat.lt_of_lt_of_le hb HK3.out.1)).trans (HK3.out.2 b hd hb)⟩)
          clear hm3 hb3 hk3 HS3 HO3 HK3 HRW hx A1
          go_wp2_with fail
          have hcall := IH.out (v + 1) (fun b => D b ∨ (W.heap.size ≤ b ∧ b < w2.heap.size)) (.slice Am m.length cm) (.slice A3r row1.length c3r) m2 row1 m3 row3 w3 (by omega) (by omega) A2.out HS4.out.1
          (go_at_call 50; (with_reducible refine hcall.mono ?_))
          clear hcall
          rintro e w4 ⟨vr4, rfl, hs4, hz4, hk4⟩
          have HS5 := Aside0.mk hs4
          have HO5 := Aside0.mk (Kd.R_step HO4.out (fun q hq hlt => hk4 q hq hlt))
          have HK5 := Aside0.mk (show W.heap.size ≤ w4.heap.size ∧ ∀ b, D b → b < W.heap.size → w4.heap[b]? = W.heap[b]? from ⟨Nat.le_trans HK4.out.1 hz4, fun b hd hb => (hk4 b (.inl hd) (Nat.lt_of_lt_of_le hb HK4.out.1)).trans (HK4.out.2 b hd hb)⟩)
          clear hs4 hz4 hk4 HS4 HO4 HK4 A2 IH
          go_wp2
          go_roundg (os.length - i)
          case measure => have := HI.out; omega
          case rel => exact ⟨i + 1, m3, row3, by first | rfl | (rw [wi]), A3, ⟨by have := HI.out; omega⟩, HS5, HO5, HK5⟩
        · have c1b0 : decide ((i : Int) < (os.length : Int)) = false := decide_eq_false (by omega)
          have hs' : m1 = m' ∧ row1 = row' := by
            have h := HA.out
            rw [show os.length - i = 0 by omega] at h
            exact Prod.mk.inj (Option.some.inj h)
          obtain ⟨rfl, rfl⟩ := hs'
          clear HA
          go_wp2
          go_ret
          exact ⟨_, rfl, HS3.out.gr (Below.refl _ _) (fun b q => .inl (.inl q)), HK3.out⟩
    · rw [if_neg hl] at h
      exact absurd h (by simp)
set_option maxHeartbeats 8000000 in
set_option maxRecDepth 100000 in
theorem spec_GenusRow.calls (k : Nat) (A0 : Option Addr) (c0 : Nat) (l0 : List (List Int)) (r : List Int) (w : World) (hr0 : Kd.C (Kd.slice 3 (Kd.int .i64)) w A0 l0.length l0) (hc0 : l0.length ≤ c0) (h : spec_GenusRow.f k l0 = some r) :
    Calls Tryz.prog 15 #[.slice A0 l0.length c0] w fun e w' => ∃ v0_ : Value, e = .returned (v0_) ∧ Kd.R (Kd.int .i64) 3 w' w.heap.size (fun _ => True) v0_ r ∧ Below w.heap.size w w' := by
  have HR0 := Aside0.mk hr0
  have HC0 := Aside0.mk hc0
  clear hr0 hc0
  unfold spec_GenusRow.f at h
  obtain ⟨n, hn, h⟩ := Option.bind_eq_some_iff.mp h
  obtain ⟨t, ht, h⟩ := Option.bind_eq_some_iff.mp h
  have HN := Aside0.mk hn
  have HT := Aside0.mk ht
  have HH := Aside0.mk h
  clear hn ht h
  go_enter Tryz.func15, Tryz.ntmps15
  go_wp2_with fail
  (go_at_call 29; (with_reducible refine (spec_CountRotations.calls k A0 c0 l0 n _ HR0.out HC0.out HN.out).mono ?_))
  rintro e w1 ⟨rfl, hb⟩
  have HB1 := Aside0.mk hb
  clear hb HN
  go_wp2_with fail
  (go_at_call 49; (with_reducible refine (spec_l1In.calls n 1 2000 t _ HT.out).mono ?_))
  rintro e w2 ⟨rfl, hd⟩
  obtain ⟨n2, rfl⟩ := hd.out
  have HB2 := Aside0.mk (pw_below_drewN HB1.out n2)
  clear hd HT HB1
  generalize w1.drewN n2 = w2 at HB2 ⊢
  cases t with
  | false =>
    have h := HH.out
    rw [if_neg (by decide)] at h
    obtain rfl := Option.some.inj h
    clear h HH
    go_wp2
    go_ret
    exact ⟨_, rfl, spec_l7Orders.lit0 (heap_alloc_new w2 _) HB2.out.size trivial, below_alloc HB2.out _⟩
  | true =>
    have h := HH.out
    rw [if_pos rfl] at h
    by_cases hl : l0.length < 1000000
    · rw [if_pos hl] at h
      obtain ⟨⟨m', row'⟩, h1, h2⟩ := Option.bind_eq_some_iff.mp h
      obtain rfl := Option.some.inj h2
      have H1 := Aside0.mk h1
      have HL := Aside0.mk hl
      obtain ⟨m0, hm0⟩ : ∃ y, y = List.replicate (2 * l0.length) (0 : Int) := ⟨_, rfl⟩
      have wl : wrap64 (2 * (l0.length : Int)) = 2 * (l0.length : Int) := by unfold wrap64; omega
      have et : (2 * (l0.length : Int)).toNat = 2 * l0.length := by omega
      have H1 := Aside0.mk (show spec_GenusRow.cF k l0 7 0 m0 [] = some (m', row') by rw [hm0]; exact h1)
      have HM0 := Aside0.mk hm0
      have HE := Aside0.mk et
      have HW := Aside0.mk wl
      clear h h1 h2 HH hl hm0 et
      go_wp2_with (first | ((with_reducible refine gate_dst (N := 12) rfl ?_); refine Kd.R_make (Kd.int .i64) (w0 := w) w.heap.size 3 rfl (N := 12) rfl 26 _ _ rfl (wrap64 (2 * (l0.length : Int))) rfl rfl Tryz.underlying26 (.int .i64 0) 8 info3 rfl (by decide) (by omega) 0 (ok := fun b => b = w2.heap.size) (okp := fun b => b = w2.heap.size) rfl (fun _ hk => hk) rfl (by rw [HW.out]; omega) (by rw [HW.out]; have := HL.out; omega) HB2.out HB2.out.size ?_; intro v3 w3 hM3 hB3 hG3 hv3; rw [HW.out, HE.out, ← HM0.out] at hM3; obtain ⟨A3, c3, rfl⟩ := Kd.R_slice hM3; have HM3 := Aside0.mk hM3; have HB3 := Aside0.mk hB3; have HV3 := Aside0.mk hv3; clear hM3 hB3 hG3 hv3))
      obtain ⟨b3, hb3, -⟩ := HV3.out
      obtain rfl := HM3.out.1 b3 hb3
      have hlt := Kd.R_lt HM3.out _ hb3
      have HS := Aside0.mk (show spec_GenusRow.SI w w2.heap.size (fun _ => False) (.slice A3 m0.length c3) m0 (.slice (some ⟨w3.heap.size, 0, none⟩) 0 0) [] (w3.alloc (.cells #[] 3)) from
        { bel := below_alloc HB3.out _
          dom := fun _ q => q.elim
          nd := fun q => q
          lo := HB2.out.size
          hi := Nat.lt_of_lt_of_le hlt (below_alloc (Below.refl w3.heap.size w3) _).size
          hM := Kd.R_alloc HM3.out _
          hR := spec_l7Orders.lit0 (heap_alloc_new w3 _) HB3.out.size ⟨fun q => q, by omega⟩ })
      have hcall := spec_GenusRow.count k w _ A0 c0 l0 HR0.out HC0.out 7 0 (fun _ => False) _ _ m0 [] m' row' _ (by omega) (by omega) H1.out HS.out
      (go_at_call 50; (with_reducible refine hcall.mono ?_))
      clear hcall
      rintro e w5 ⟨vr5, rfl, hs5, -, -⟩
      have HS5 := Aside0.mk hs5
      clear hs5 HS H1
      obtain ⟨A5, c5, rfl⟩ := Kd.R_slice HS5.out.hR
      go_wp2
      go_ret
      exact ⟨_, rfl, Kd.R_mono HS5.out.hR (fun _ _ => trivial), HS5.out.bel⟩
    · rw [if_neg hl] at h
      exact absurd h (by simp)

/-! ### laws_sameLists: function 16 -/
def laws_sameLists.l0 : Nat → List (List Int) → List (List Int) → Int → Option (Bool)
  | 0, _, _, _ => none
  | k + 1, x0, x1, x5 => if x5 < (x0.length : Int) then (if 0 ≤ x5 then (if x5 < (x1.length : Int) then ((laws_sameInts.f k (rd_L2 x0 x5) (rd_L2 x1 x5)).bind fun t576 => (if t576 = true then (laws_sameLists.l0 k x0 x1 (wrap64 (x5 + 1))) else (some false))) else (none)) else (none)) else (some true)
def laws_sameLists.f (k : Nat) (l0 : List (List Int)) (l1 : List (List Int)) : Option (Bool) := if (l0.length : Int) = (l1.length : Int) then (laws_sameLists.l0 k l0 l1 0) else (some false)
set_option maxHeartbeats 8000000 in
set_option maxRecDepth 100000 in
theorem laws_sameLists.calls (k : Nat) (A0 : Option Addr) (c0 : Nat) (l0 : List (List Int)) (A1 : Option Addr) (c1 : Nat) (l1 : List (List Int)) (r : Bool) (w : World) (hr0 : Kd.C (Kd.slice 3 (Kd.int .i64)) w A0 l0.length l0) (hc0 : l0.length ≤ c0) (hr1 : Kd.C (Kd.slice 3 (Kd.int .i64)) w A1 l1.length l1) (hc1 : l1.length ≤ c1) (h : laws_sameLists.f k l0 l1 = some r) :
    Calls Tryz.prog 16 #[.slice A0 l0.length c0, .slice A1 l1.length c1] w fun e w' => e = .returned (.bool r) ∧ Drawn0 w w' := by
  have HR0 := Aside0.mk hr0
  have HC0 := Aside0.mk hc0
  clear hr0 hc0
  have HR1 := Aside0.mk hr1
  have HC1 := Aside0.mk hc1
  clear hr1 hc1
  have H : (if (l0.length : Int) = (l1.length : Int) then (laws_sameLists.l0 k l0 l1 0) else (some false)) = some r := h
  clear h
  by_cases c3 : (l0.length : Int) = (l1.length : Int)
  · rw [if_pos c3] at H
    have c3b0 : ((l0.length : Int) == (l1.length : Int)) = true := beq_iff_eq.mpr c3
    have c3b1 : ((l0.length : Int) != (l1.length : Int)) = false := bne_eq_false_iff_eq.mpr c3
    have c3b2 : (l0.length == l1.length) = true := by first | simpa using c3 | (simp at c3 ⊢; omega)
    clear c3
    have H' := Aside0.mk H
    clear H
    go_enter Tryz.func16, Tryz.ntmps16
    go_wp2
    repeat (go_quiet (fail); try go_wp2)
    go_loopg [5] k (fun kq v5 w' => ∃ (x5_1 : Int), v5 = .int .i64 x5_1 ∧ Aside0 (laws_sameLists.l0 kq l0 l1 x5_1 = some r) ∧ Aside0 (kq ≤ k) ∧ Drawn0 w w')
    case atStart => exact ⟨(0), rS, H', ⟨Nat.le_refl _⟩, tD⟩
    case round =>
      clear H'
      try clear c1
      try clear p2
      try clear c3
      try clear c3b0
      try clear c3b1
      try clear c3b2
      obtain ⟨x5_1, rfl, HA, HK1, ⟨m1, rfl⟩⟩ := hrel
      cases gk with
      | zero => exact absurd HA.out (by simp [laws_sameLists.l0])
      | succ k1 =>
        have H := HA.out
        clear HA
        simp only [laws_sameLists.l0] at H
        obtain ⟨c4b0, H⟩ | ⟨c4b0, H⟩ := gi H
        · obtain ⟨c5b0, H⟩ := gdt H
          obtain ⟨c6b0, H⟩ := gdt H
          obtain ⟨t576, A7, H⟩ := bs H
          by_cases c8 : t576 = true
          · subst c8
            rw [if_pos rfl] at H
            have H' := Aside0.mk H
            clear H
            have p574 : 0 ≤ (x5_1 : Int) := dT
            have q574 : x5_1 < (l0.length : Int) := dT
            obtain ⟨ad574, A574_0, c574_0, e574, hx574_0, hl574_0, hi574_0⟩ := at_L2 HR0.out x5_1 p574 q574
            cases e574
            have HR574_0 := Aside0.mk hi574_0
            have HC574_0 := Aside0.mk hl574_0
            clear hi574_0 hl574_0
            replace p574 := eq_true p574
            replace q574 := eq_true q574
            have p575 : 0 ≤ (x5_1 : Int) := dT
            have q575 : x5_1 < (l1.length : Int) := dT
            obtain ⟨ad575, A575_0, c575_0, e575, hx575_0, hl575_0, hi575_0⟩ := at_L2 HR1.out x5_1 p575 q575
            cases e575
            have HR575_0 := Aside0.mk hi575_0
            have HC575_0 := Aside0.mk hl575_0
            clear hi575_0 hl575_0
            replace p575 := eq_true p575
            replace q575 := eq_true q575
            go_wp2_with (first | (go_at_call 14; (with_reducible refine (laws_sameInts.calls k1 _ _ (rd_L2 l0 x5_1) _ _ (rd_L2 l1 x5_1) true _ ?side1 ?side2 ?side3 ?side4 A7.out).mono ?_); (case side1 => exact C_l HR574_0.out); (case side2 => exact HC574_0.out); (case side3 => exact C_l HR575_0.out); (case side4 => exact HC575_0.out); rintro e w' ⟨rfl, ⟨nd, rfl⟩⟩; (try first | exact ⟨rfl, _, World.drewN_drewN _ _ _⟩ | exact ⟨rfl, _, Eq.trans (World.drewN_drewN _ _ _) (congrArg (World.drewN _) (Nat.add_assoc _ _ _))⟩)))
            repeat (go_quiet (first | (go_at_call 14; (with_reducible refine (laws_sameInts.calls k1 _ _ (rd_L2 l0 x5_1) _ _ (rd_L2 l1 x5_1) true _ ?side1 ?side2 ?side3 ?side4 A7.out).mono ?_); (case side1 => exact C_l HR574_0.out); (case side2 => exact HC574_0.out); (case side3 => exact C_l HR575_0.out); (case side4 => exact HC575_0.out); rintro e w' ⟨rfl, ⟨nd, rfl⟩⟩; (try first | exact ⟨rfl, _, World.drewN_drewN _ _ _⟩ | exact ⟨rfl, _, Eq.trans (World.drewN_drewN _ _ _) (congrArg (World.drewN _) (Nat.add_assoc _ _ _))⟩))); try go_wp2_with (first | (go_at_call 14; (with_reducible refine (laws_sameInts.calls k1 _ _ (rd_L2 l0 x5_1) _ _ (rd_L2 l1 x5_1) true _ ?side1 ?side2 ?side3 ?side4 A7.out).mono ?_); (case side1 => exact C_l HR574_0.out); (case side2 => exact HC574_0.out); (case side3 => exact C_l HR575_0.out); (case side4 => exact HC575_0.out); rintro e w' ⟨rfl, ⟨nd, rfl⟩⟩; (try first | exact ⟨rfl, _, World.drewN_drewN _ _ _⟩ | exact ⟨rfl, _, Eq.trans (World.drewN_drewN _ _ _) (congrArg (World.drewN _) (Nat.add_assoc _ _ _))⟩))))
            go_roundg k1
            case measure => exact oK
            case rel => exact ⟨(wrap64 (x5_1 + 1)), rS, H', ⟨oK⟩, tD⟩
          · replace c8 := Bool.eq_false_iff.mpr c8
            subst c8
            rw [if_neg (show ¬ (false = true) by decide)] at H
            obtain rfl := Option.some.inj H
            have p574 : 0 ≤ (x5_1 : Int) := dT
            have q574 : x5_1 < (l0.length : Int) := dT
            obtain ⟨ad574, A574_0, c574_0, e574, hx574_0, hl574_0, hi574_0⟩ := at_L2 HR0.out x5_1 p574 q574
            cases e574
            have HR574_0 := Aside0.mk hi574_0
            have HC574_0 := Aside0.mk hl574_0
            clear hi574_0 hl574_0
            replace p574 := eq_true p574
            replace q574 := eq_true q574
            have p575 : 0 ≤ (x5_1 : Int) := dT
            have q575 : x5_1 < (l1.length : Int) := dT
            obtain ⟨ad575, A575_0, c575_0, e575, hx575_0, hl575_0, hi575_0⟩ := at_L2 HR1.out x5_1 p575 q575
            cases e575
            have HR575_0 := Aside0.mk hi575_0
            have HC575_0 := Aside0.mk hl575_0
            clear hi575_0 hl575_0
            replace p575 := eq_true p575
            replace q575 := eq_true q575
            go_wp2_with (first | (go_at_call 14; (with_reducible refine (laws_sameInts.calls k1 _ _ (rd_L2 l0 x5_1) _ _ (rd_L2 l1 x5_1) false _ ?side1 ?side2 ?side3 ?side4 A7.out).mono ?_); (case side1 => exact C_l HR574_0.out); (case side2 => exact HC574_0.out); (case side3 => exact C_l HR575_0.out); (case side4 => exact HC575_0.out); rintro e w' ⟨rfl, ⟨nd, rfl⟩⟩; (try first | exact ⟨rfl, _, World.drewN_drewN _ _ _⟩ | exact ⟨rfl, _, Eq.trans (World.drewN_drewN _ _ _) (congrArg (World.drewN _) (Nat.add_assoc _ _ _))⟩)))
            repeat (go_quiet (first | (go_at_call 14; (with_reducible refine (laws_sameInts.calls k1 _ _ (rd_L2 l0 x5_1) _ _ (rd_L2 l1 x5_1) false _ ?side1 ?side2 ?side3 ?side4 A7.out).mono ?_); (case side1 => exact C_l HR574_0.out); (case side2 => exact HC574_0.out); (case side3 => exact C_l HR575_0.out); (case side4 => exact HC575_0.out); rintro e w' ⟨rfl, ⟨nd, rfl⟩⟩; (try first | exact ⟨rfl, _, World.drewN_drewN _ _ _⟩ | exact ⟨rfl, _, Eq.trans (World.drewN_drewN _ _ _) (congrArg (World.drewN _) (Nat.add_assoc _ _ _))⟩))); try go_wp2_with (first | (go_at_call 14; (with_reducible refine (laws_sameInts.calls k1 _ _ (rd_L2 l0 x5_1) _ _ (rd_L2 l1 x5_1) false _ ?side1 ?side2 ?side3 ?side4 A7.out).mono ?_); (case side1 => exact C_l HR574_0.out); (case side2 => exact HC574_0.out); (case side3 => exact C_l HR575_0.out); (case side4 => exact HC575_0.out); rintro e w' ⟨rfl, ⟨nd, rfl⟩⟩; (try first | exact ⟨rfl, _, World.drewN_drewN _ _ _⟩ | exact ⟨rfl, _, Eq.trans (World.drewN_drewN _ _ _) (congrArg (World.drewN _) (Nat.add_assoc _ _ _))⟩))))
            go_ret
            exact ⟨rS, tD⟩
        · obtain rfl := Option.some.inj H
          go_wp2
          repeat (go_quiet (fail); try go_wp2)
          go_ret
          exact ⟨rS, tD⟩
  · rw [if_neg c3] at H
    have c3b0 : ((l0.length : Int) == (l1.length : Int)) = false := beq_eq_false_iff_ne.mpr c3
    have c3b1 : ((l0.length : Int) != (l1.length : Int)) = true := bne_iff_ne.mpr c3
    have c3b2 : (l0.length == l1.length) = false := by first | simpa using c3 | (simp at c3 ⊢; omega)
    obtain rfl := Option.some.inj H
    go_enter Tryz.func16, Tryz.ntmps16
    go_wp2
    repeat (go_quiet (fail); try go_wp2)
    go_ret
    exact ⟨rS, tD⟩

/-! ### impl_graphOf: function 51 -/
def impl_graphOf.f (k : Nat) (l0 : List (List Int)) : Option ((List (List Int))) := (impl_IsGraph.f k l0).bind fun t577 => (if t577 = true then (some l0) else (some ([] : List (List Int))))
theorem impl_graphOf.mono : ∀ a0 k, LeO (impl_graphOf.f k a0) (impl_graphOf.f (k + 1) a0) := by
  intro a0 k
  unfold impl_graphOf.f
  exact mM1 impl_IsGraph.mono
set_option maxHeartbeats 8000000 in
set_option maxRecDepth 100000 in
theorem impl_graphOf.calls (k : Nat) (P0_ : Nat → Prop) (A0 : Option Addr) (c0 : Nat) (l0 : List (List Int)) (r : List (List Int)) (w : World) (b0_ : Nat) (hb0_ : b0_ ≤ w.heap.size) (hs0 : Kd.S (Kd.slice 3 (Kd.int .i64)) 26 w b0_ (fun k_ => P0_ k_) (.slice A0 l0.length c0) l0) (h : impl_graphOf.f k l0 = some r) :
    Calls Tryz.prog 51 #[.slice A0 l0.length c0] w fun e w' => ∃ v0_ : Value, e = .returned (v0_) ∧ Kd.S (Kd.slice 3 (Kd.int .i64)) 26 w' b0_ (fun k_ => (P0_ k_ ∨ w.heap.size ≤ k_)) v0_ r ∧ Below w.heap.size w w' := by
  have HO0 := Aside0.mk (show Kd.S (Kd.slice 3 (Kd.int .i64)) 26 w b0_ (fun k_ => (P0_ k_ ∨ w.heap.size ≤ k_)) (.slice A0 l0.length c0) l0 from Kd.S_mono hs0 (fun k_ hk => .inl hk))
  have HB := Aside0.mk (Below.refl w.heap.size w)
  have H : ((impl_IsGraph.f k l0).bind fun t577 => (if t577 = true then (some l0) else (some ([] : List (List Int))))) = some r := h
  clear h
  obtain ⟨t577, A2, H⟩ := bs H
  by_cases c3 : t577 = true
  · subst c3
    rw [if_pos rfl] at H
    obtain rfl := Option.some.inj H
    go_enter Tryz.func51, Tryz.ntmps51
    go_wp2_with (first | ((with_reducible refine gate_callee (f := 24) rfl ?_); refine goesL_ (some 4) rfl rfl Tryz.func24 (by kernel_rfl) rfl #[.slice A0 l0.length c0] rfl mp_ ?_; (with_reducible refine (impl_IsGraph.calls k _ _ l0 true _ ?side1 ?side2 A2.out).mono ?_); (case side1 => exact C_l ((Kd.S_reads' HO0.out).2.2)); (case side2 => exact (Kd.S_reads' HO0.out).2.1); rintro e w' ⟨rfl, ⟨nd, rfl⟩⟩; refine ⟨_, rfl, ?_⟩))
    go_ret
    exact ⟨_, rE, S_l HO0.out, tb⟩
  · replace c3 := Bool.eq_false_iff.mpr c3
    subst c3
    rw [if_neg (show ¬ (false = true) by decide)] at H
    obtain rfl := Option.some.inj H
    go_enter Tryz.func51, Tryz.ntmps51
    go_wp2_with (first | ((with_reducible refine gate_callee (f := 24) rfl ?_); refine goesL_ (some 4) rfl rfl Tryz.func24 (by kernel_rfl) rfl #[.slice A0 l0.length c0] rfl mp_ ?_; (with_reducible refine (impl_IsGraph.calls k _ _ l0 false _ ?side1 ?side2 A2.out).mono ?_); (case side1 => exact C_l ((Kd.S_reads' HO0.out).2.2)); (case side2 => exact (Kd.S_reads' HO0.out).2.1); rintro e w' ⟨rfl, ⟨nd, rfl⟩⟩; refine ⟨_, rfl, ?_⟩))
    go_ret
    exact ⟨_, rE, Kd.S_nil _ _ _ _ _, tb⟩

/-! ### impl_CompleteGraph: function 17 -/
mutual
def impl_CompleteGraph.l0 : Nat → Int → List (List Int) → Int → Option ((List (List Int)))
  | 0, _, _, _ => none
  | k + 1, x0, x3, x4 => if x4 < x0 then (impl_CompleteGraph.j1 k x0 x3 x4 (decide (x4 < 9))) else (impl_CompleteGraph.j1 k x0 x3 x4 false)
def impl_CompleteGraph.j1 : Nat → Int → List (List Int) → Int → Bool → Option ((List (List Int)))
  | 0, _, _, _, _ => none
  | k + 1, x0, x3, x4, x13 => if x13 = true then (impl_CompleteGraph.l1 k x0 x3 x4 (wrap64 (x4 + 1))) else ((impl_graphOf.f k x3).bind fun t581 => (some t581))
def impl_CompleteGraph.l1 : Nat → Int → List (List Int) → Int → Int → Option ((List (List Int)))
  | 0, _, _, _, _ => none
  | k + 1, x0, x3, x4, x5 => if x5 < x0 then (if x5 < 9 then (if x3.length < 5864062014805 then (impl_CompleteGraph.l1 k x0 (x3 ++ [(([x4, x5] : List Int))]) x4 (wrap64 (x5 + 1))) else (none)) else (impl_CompleteGraph.l0 k x0 x3 (wrap64 (x4 + 1)))) else (impl_CompleteGraph.l0 k x0 x3 (wrap64 (x4 + 1)))
end
def impl_CompleteGraph.f (k : Nat) (a0 : Int) : Option ((List (List Int))) := impl_CompleteGraph.l0 k a0 (([] : List (List Int))) 0
set_option maxHeartbeats 8000000 in
set_option maxRecDepth 100000 in
theorem impl_CompleteGraph.calls (k : Nat) (a0 : Int) (r : List (List Int)) (w : World) (h : impl_CompleteGraph.f k a0 = some r) :
    Calls Tryz.prog 17 #[.int .i64 a0] w fun e w' => ∃ v0_ : Value, e = .returned (v0_) ∧ Kd.S (Kd.slice 3 (Kd.int .i64)) 26 w' w.heap.size (fun k_ => (w.heap.size ≤ k_)) v0_ r ∧ Below w.heap.size w w' := by
  have HB := Aside0.mk (Below.refl w.heap.size w)
  have H : (impl_CompleteGraph.l0 k a0 (([] : List (List Int))) 0) = some r := h
  clear h
  generalize hy578 : (([] : List (List Int)) : List (List Int)) = y578 at H
  have Ny578 := Aside0.mk hy578.symm; clear hy578
  have H' := Aside0.mk H
  clear H
  go_enter Tryz.func17, Tryz.ntmps17
  go_wp2_with (first | ((with_reducible refine gate_dst (N := 6) rfl ?_); refine Kd.S_lit (Kd.slice 3 (Kd.int .i64)) _ 26 ?hg (N := 6) ?hd (xs := ([] : List (List Int))) (inner := []) (ok := fun _ => True) (okp := fun _ => True) ?hr ?hp (fun _ hk => hk) trivial (Below.refl _ _) (Nat.le_refl _) (by simp) ?_; (case hd => rfl); (case hg => rfl); (case hr => exact gS); (case hp => exact (Reps.none _ _)); intro v579 w2 ho3 hb hg_ hnew_; clear hg_ hnew_; (first | rw [← Ny578.out] at ho3 | (simp only [Int.reduceToNat] at ho3; rw [← Ny578.out] at ho3)); have HO580 := Aside0.mk (Kd.S_lower (Kd.S_newM (M := fun k_ => (w.heap.size ≤ k_)) ho3 (below_size tb) (fun k_ h_ => h_)) (below_size tb)); replace HB := Aside0.mk (below_step tb hb); clear hb ho3))
  go_loopg [3, 4] k (fun kq v3 v4 w' => ∃ (x3_1 : List (List Int)) (x4_1 : Int), v4 = .int .i64 x4_1 ∧ Aside0 (impl_CompleteGraph.l0 kq a0 x3_1 x4_1 = some r) ∧ Aside0 (kq ≤ k) ∧ Aside0 (Kd.S (Kd.slice 3 (Kd.int .i64)) 26 w' w.heap.size (fun k_ => (w.heap.size ≤ k_)) v3 x3_1) ∧ Aside0 (Below w.heap.size w w'))
  case atStart => exact ⟨(y578), (0), rS, H', ⟨Nat.le_refl _⟩, ⟨S_l (Kd.S_mono HO580.out (fun _ hk => hk.1))⟩, ⟨tb⟩⟩
  case round =>
    clear H'
    try clear c1
    try clear p2
    obtain ⟨x3_1, x4_1, rfl, HA, HK1, HO_3, HB⟩ := hrel
    cases gk with
    | zero => exact absurd HA.out (by simp [impl_CompleteGraph.l0])
    | succ k1 =>
      have H := HA.out
      clear HA
      simp only [impl_CompleteGraph.l0] at H
      have HC4 := Aside0.mk H
      clear H
      go_upto_region 3 with (fail)
      go_cut [13] (fun v13 wc => ∃ (kq : Nat) (x13_3 : Bool), v13 = .bool x13_3 ∧ Aside0 (impl_CompleteGraph.j1 kq a0 x3_1 x4_1 x13_3 = some r) ∧ Aside0 (kq ≤ k1) ∧ Aside0 (Kd.S (Kd.slice 3 (Kd.int .i64)) 26 wc w.heap.size (fun k_ => (w.heap.size ≤ k_)) u3 x3_1) ∧ Aside0 (Below w.heap.size w wc))
      case first =>
        have H := HC4.out
        clear HC4
        obtain ⟨c5b0, H⟩ | ⟨c5b0, H⟩ := gi H
        · (first | rw [c5b0] | (simp only [i64_w, i32_w]; rw [c5b0]) | skip)
          have H' := Aside0.mk H
          clear H
          go_wp2
          go_meet
          case rel => exact ⟨_, (decide (x4_1 < 9)), rS, H', ⟨by have := HK1.out; first | omega | exact Nat.le_refl _⟩, ⟨S_l HO_3.out⟩, ⟨tb⟩⟩
        · (first | rw [c5b0] | (simp only [i64_w, i32_w]; rw [c5b0]) | skip)
          have H' := Aside0.mk H
          clear H
          go_wp2
          go_meet
          case rel => exact ⟨_, (false), rS, H', ⟨by have := HK1.out; first | omega | exact Nat.le_refl _⟩, ⟨S_l HO_3.out⟩, ⟨tb⟩⟩
      case rest =>
        clear HC4
        try clear c1
        try clear p2
        try clear c5
        try clear c5b0
        try clear p2
        obtain ⟨kq, x13_3, rfl, HA, HJ3, HO_3, HB⟩ := hcut
        cases kq with
        | zero => exact absurd HA.out (by simp [impl_CompleteGraph.j1])
        | succ kj3 =>
          have H := HA.out
          clear HA
          simp only [impl_CompleteGraph.j1] at H
          by_cases c6 : x13_3 = true
          · subst c6
            rw [if_pos rfl] at H
            have H' := Aside0.mk H
            clear H
            go_wp2
            go_loopg [3, 5] kj3 (fun kq v3 v5 w' => ∃ (x3_3 : List (List Int)) (x5_3 : Int), v5 = .int .i64 x5_3 ∧ Aside0 (impl_CompleteGraph.l1 kq a0 x3_3 x4_1 x5_3 = some r) ∧ Aside0 (kq ≤ kj3) ∧ Aside0 (Kd.S (Kd.slice 3 (Kd.int .i64)) 26 w' w.heap.size (fun k_ => (w.heap.size ≤ k_)) v3 x3_3) ∧ Aside0 (Below w.heap.size w w'))
            case atStart => exact ⟨(x3_1), (wrap64 (x4_1 + 1)), rS, H', ⟨Nat.le_refl _⟩, ⟨S_l HO_3.out⟩, ⟨tb⟩⟩
            case round =>
              clear H'
              try clear c1
              try clear p2
              try clear c5
              try clear c5b0
              try clear c6
              try clear p6
              try clear p2
              obtain ⟨x3_3, x5_3, rfl, HA, HK3, HO_3, HB⟩ := hrel
              cases gk with
              | zero => exact absurd HA.out (by simp [impl_CompleteGraph.l1])
              | succ k3 =>
                have H := HA.out
                clear HA
                simp only [impl_CompleteGraph.l1] at H
                obtain ⟨c7b0, H⟩ | ⟨c7b0, H⟩ := gi H
                · obtain ⟨c8b0, H⟩ | ⟨c8b0, H⟩ := gi H
                  · obtain ⟨y584, hy584⟩ : ∃ y_ : List Int, y_ = (([x4_1, x5_3] : List Int)) := ⟨_, rfl⟩
                    replace H : (if x3_3.length < 5864062014805 then (impl_CompleteGraph.l1 k3 a0 (x3_3 ++ [y584]) x4_1 (wrap64 (x5_3 + 1))) else (none)) = some r := by first | (rw [hy584]; with_reducible exact H) | (have H2_ := (Option.bind_some _ _).symm.trans H; rw [hy584]; with_reducible exact H2_) | (have H2_ := (Option.bind_some _ _).symm.trans H; with_reducible exact H2_) | with_reducible exact H | (rw [hy584]; exact H) | exact H
                    have Ny584 := Aside0.mk hy584
                    clear hy584
                    obtain ⟨LMc9, H⟩ := gda H
                    generalize hy587 : (x3_3 ++ [y584] : List (List Int)) = y587 at H
                    have Ny587 := Aside0.mk hy587.symm; clear hy587
                    have H' := Aside0.mk H
                    clear H
                    go_wp2_with (first | ((with_reducible refine gate_dst (N := 30) rfl ?_); refine Kd.R_lit (Kd.int .i64) _ 3 ?hg (N := 30) ?hd (xs := ([x4_1, x5_3] : List Int)) (inner := [.int .i64 x4_1, .int .i64 x5_3]) (ok := fun _ => True) (okp := fun _ => True) ?hr ?hp (fun _ hk => hk) trivial (Below.refl _ _) (Nat.le_refl _) (by simp) ?_; (case hd => rfl); (case hg => rfl); (case hr => exact gS); (case hp => exact (Reps.one (show Kd.M (Kd.int .i64) _ _ _ x4_1 [.int .i64 x4_1] from rfl) (Reps.one (show Kd.M (Kd.int .i64) _ _ _ x5_3 [.int .i64 x5_3] from rfl) (Reps.none _ _)))); intro v585 w10 ho11 hb hg_ hnew_; clear hg_ hnew_; (first | rw [← Ny584.out] at ho11 | (simp only [Int.reduceToNat] at ho11; rw [← Ny584.out] at ho11)); replace HO_3 := Aside0.mk (Kd.S_elder' (S_l HO_3.out) (Kd.R_base ho11) hb); have HO586 := Aside0.mk (Kd.R_lower (Kd.R_newM (M := fun k_ => (w.heap.size ≤ k_)) ho11 (below_size tb) (fun k_ h_ => h_)) (below_size tb)); replace HB := Aside0.mk (below_step tb hb); clear hb ho11; obtain ⟨Ao13, co13, eo13⟩ := Kd.R_slice HO586.out; subst eo13) | ((with_reducible refine gate_builtin (b := .append) (xs := #[.tmp 27, .tmp 31]) rfl ?_); at_builtin; refine Kd.S_append (Kd.slice 3 (Kd.int .i64)) (w0 := w) w.heap.size rfl (.tmp 27) (.tmp 31) 24 26 (.slice none 0 0) 24 rfl Tryz.underlying24 info26 rfl (by decide) (by omega) u3 x3_3 y584 [.slice Ao13 y584.length co13] (fun k_ => (w.heap.size ≤ k_)) (fun k_ => some k_ = (.slice Ao13 y584.length co13 : Value).ownBlock) rfl rfl ?aP (fun k_ hk_ => ((Kd.R_mono (ok' := fun k_ => ((fun k_ => (w.heap.size ≤ k_))) k_ ∧ some k_ ≠ (u3 : Value).ownBlock) (Kd.R_apart' (HO586.out) (Kd.S_typed HO_3.out) (by decide)) (fun k_ hk => ⟨hk.1.1, hk.2⟩))).1 k_ hk_.symm) ?aF ?aO ?aB ?aS ?aL ?_; (case aP => exact Kd.M_row (Kd.R_mono (Kd.R_tight rfl (Kd.R_mono (ok' := fun k_ => ((fun k_ => (w.heap.size ≤ k_))) k_ ∧ some k_ ≠ (u3 : Value).ownBlock) (Kd.R_apart' (HO586.out) (Kd.S_typed HO_3.out) (by decide)) (fun k_ hk => ⟨hk.1.1, hk.2⟩))) (fun _ h_ => h_))); (case aB => exact tb); (case aF => exact (fun k_ hk => (Nat.le_trans (below_size tb) hk))); (case aO => exact (S_l (Kd.S_mono HO_3.out (fun k_ hk => ⟨hk.1, fun e_ => hk.2 e_⟩)))); (case aS => exact (below_size tb)); (case aL => have := LMc9.out; omega); intro v588 w12 ho hb hg hat; rw [← Ny587.out] at ho; replace HB := Aside0.mk (hb); have HO589 := Aside0.mk (ho); clear HO_3 HO586; clear ho hb hg hat))
                    go_roundg k3
                    case measure => have := HK1.out; have := HJ3.out; have := HK3.out; omega
                    case rel => exact ⟨(y587), (wrap64 (x5_3 + 1)), rS, H', ⟨by have := HK1.out; have := HJ3.out; have := HK3.out; omega⟩, ⟨S_l HO589.out⟩, ⟨tb⟩⟩
                  · have H' := Aside0.mk H
                    clear H
                    go_wp2
                    go_roundg k3
                    case measure => have := HK1.out; have := HJ3.out; have := HK3.out; omega
                    case rel => exact ⟨(x3_3), (wrap64 (x4_1 + 1)), rS, H', ⟨by have := HK1.out; have := HJ3.out; have := HK3.out; omega⟩, ⟨S_l HO_3.out⟩, ⟨tb⟩⟩
                · have H' := Aside0.mk H
                  clear H
                  go_wp2
                  go_roundg k3
                  case measure => have := HK1.out; have := HJ3.out; have := HK3.out; omega
                  case rel => exact ⟨(x3_3), (wrap64 (x4_1 + 1)), rS, H', ⟨by have := HK1.out; have := HJ3.out; have := HK3.out; omega⟩, ⟨S_l HO_3.out⟩, ⟨tb⟩⟩
          · replace c6 := Bool.eq_false_iff.mpr c6
            subst c6
            rw [if_neg (show ¬ (false = true) by decide)] at H
            obtain ⟨t581, A14, H⟩ := bs H
            obtain rfl := Option.some.inj H
            obtain ⟨Ao15, co15, eo15⟩ := Kd.S_slice HO_3.out
            subst eo15
            go_wp2_with (first | ((with_reducible refine gate_callee (f := 51) rfl ?_); refine goesL_ (some 34) rfl rfl Tryz.func51 (by kernel_rfl) rfl #[.slice Ao15 x3_1.length co15] rfl mp_ ?_; (with_reducible refine (impl_graphOf.calls kj3 (fun k_ => (w.heap.size ≤ k_)) _ _ x3_1 t581 _ w.heap.size ?side0 ?side1 A14.out).mono ?_); (case side0 => exact (below_size tb)); (case side1 => exact HO_3.out); rintro e w16 ⟨v582, rfl, ho0, hb⟩; refine ⟨_, rfl, ?_⟩; replace HO_3 := Aside0.mk (sB HO_3.out hb); have HO583 := Aside0.mk (Kd.S_mono (ok' := fun k_ => (w.heap.size ≤ k_)) ho0 (fun k_ hk_ => Or.elim hk_ (fun hs_ => hs_) (fun hn_ => (Nat.le_trans (below_size tb) hn_)))); replace HB := Aside0.mk (below_step tb hb)))
            go_ret
            exact ⟨_, rE, S_l HO583.out, tb⟩

end Go.Proofs.YtafpbabiahjjaaaGreatDoor.PFnGraphs
