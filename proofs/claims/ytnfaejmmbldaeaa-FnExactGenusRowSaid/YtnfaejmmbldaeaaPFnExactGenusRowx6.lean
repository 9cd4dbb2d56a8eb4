-- written by a copy of the print that takes contracts by hand (stubprint.py)
import Derived.Test.YtnfaejmmbldaeaaPFnExactGenusRowx0
import Derived.Test.YtnfaejmmbldaeaaPFnExactGenusRowx1
import Derived.Test.YtnfaejmmbldaeaaPFnExactGenusRowx3
import Derived.Test.YtnfaejmmbldaeaaPFnExactGenusRowx5
namespace Go.Proofs.Ytnfaejmmbldaeaa.PFnExactGenusRow
open Go.RowKit Go.Proofs.YtnfaejmmbldaeaaW.PrintWords Go.Proofs.YtnfaejmmbldaeaaW.PrintLast Go.Proofs.YtnfaejmmbldaeaaW.PrintMore
attribute [local go_sem] max2_int min2_int max_two min_two max_three min_three max_four min_four   -- for this text's walks alone
set_option linter.unusedVariables false
set_option linter.unusedSimpArgs false

/-! ### spec_GenusRow: function 6 -/
/-- one more of genus n -/
def spec_GenusRow.bump (row : List Int) (n : Int) : Option (List Int) :=
  if 0 ≤ n ∧ n < 1000000 ∧ row.length < 1000000 then some ((row ++ List.replicate (n.toNat + 1 - row.length) 0).set n.toNat (wrap64 (rd (row ++ List.replicate (n.toNat + 1 - row.length) 0) n + 1))) else none
def spec_GenusRow.cL (ring : List Int → List Int → Option (List Int)) (run : List Int → List Int → Option (List Int × List Int)) (os : List (List Int)) : Nat → Nat → List Int → List Int → Option (List Int × List Int)
  | 0, _, m, row => some (m, row)
  | c + 1, i, m, row => (ring m (rd_L1 os (i : Int))).bind fun m' => (run m' row).bind fun st => spec_GenusRow.cL ring run os c (i + 1) st.1 st.2
def spec_GenusRow.cF (k : Nat) (g : List (List Int)) : Nat → Int → List Int → List Int → Option (List Int × List Int)
  | 0, _, m, row => (spec_l6Genus.f k m).bind fun n => (spec_GenusRow.bump row n).bind fun row' => some (m, row')
  | c + 1, v, m, row => (spec_l7Darts.f k g v).bind fun ds => (spec_l7Orders.f k ds).bind fun os => if os.length < 1000000 then spec_GenusRow.cL (spec_l7Ring.f k) (fun m row => spec_GenusRow.cF k g c (v + 1) m row) os os.length 0 m row else none
def spec_GenusRow.f (k : Nat) (l0 : List (List Int)) : Option (List Int) := (spec_CountRotations.f k l0).bind fun n => (spec_l1In.f n 1 2000).bind fun t => if t = true then (if l0.length < 1000000 then (spec_GenusRow.cF k l0 7 0 (List.replicate (2 * l0.length) 0) []).bind fun st => some st.2 else none) else some []
theorem spec_GenusRow.mono_cL {ring ring' : List Int → List Int → Option (List Int)} {run run' : List Int → List Int → Option (List Int × List Int)} (h : ∀ a b, LeO (ring a b) (ring' a b)) (h' : ∀ a b, LeO (run a b) (run' a b)) (os : List (List Int)) : ∀ c i m row, LeO (spec_GenusRow.cL ring run os c i m row) (spec_GenusRow.cL ring' run' os c i m row)
  | 0, _, _, _ => LeO.refl _
  | c + 1, i, m, row => LeO.bind (h _ _) fun _ => LeO.bind (h' _ _) fun _ => spec_GenusRow.mono_cL h h' os c _ _ _
theorem spec_GenusRow.mono_cF (k : Nat) (g : List (List Int)) : ∀ c v m row, LeO (spec_GenusRow.cF k g c v m row) (spec_GenusRow.cF (k + 1) g c v m row)
  | 0, v, m, row => by
    rw [spec_GenusRow.cF, spec_GenusRow.cF]
    exact LeO.bind (spec_l6Genus.mono _ _) fun _ => LeO.refl _
  | c + 1, v, m, row => by
    rw [spec_GenusRow.cF, spec_GenusRow.cF]
    exact LeO.bind (spec_l7Darts.mono _ _ _) fun _ => LeO.bind (spec_l7Orders.mono _ _) fun _ => LeO.ite (spec_GenusRow.mono_cL (fun _ _ => spec_l7Ring.mono _ _ _) (fun _ _ => spec_GenusRow.mono_cF k g c _ _ _) _ _ _ _ _) (LeO.refl _)
theorem spec_GenusRow.mono : ∀ a0 k, LeO (spec_GenusRow.f k a0) (spec_GenusRow.f (k + 1) a0) := by
  intro a0 k
  unfold spec_GenusRow.f
  exact LeO.bind (spec_CountRotations.mono _ _) fun _ => LeO.bind (LeO.refl _) fun _ => LeO.ite (LeO.ite (LeO.bind (spec_GenusRow.mono_cF _ _ _ _ _ _) fun _ => LeO.refl _) (LeO.refl _)) (LeO.refl _)
/-- the memory while rotations are counted: m at block mb, the row apart; D: blocks that are not touched -/
structure spec_GenusRow.SI (w0 : World) (mb : Nat) (D : Nat → Prop) (vm : Value) (m : List Int) (vr : Value) (row : List Int) (W : World) : Prop where
  bel : Below w0.heap.size w0 W
  dom : ∀ b, D b → b < W.heap.size ∧ w0.heap.size ≤ b
  nd : ¬ D mb
  lo : w0.heap.size ≤ mb
  hi : mb < W.heap.size
  hM : Kd.R (Kd.int .i64) 3 W w0.heap.size (fun b => b = mb) vm m
  hR : Kd.R (Kd.int .i64) 3 W w0.heap.size (fun b => ¬ D b ∧ b ≠ mb) vr row
theorem spec_GenusRow.SI.step {w0 : World} {mb : Nat} {D : Nat → Prop} {vm : Value} {m : List Int} {vr : Value} {row : List Int} {W W' : World} (h : spec_GenusRow.SI w0 mb D vm m vr row W) (hb : Below W.heap.size W W') : spec_GenusRow.SI w0 mb D vm m vr row W' :=
  { bel := below_step h.bel hb
    dom := fun b q => ⟨Nat.lt_of_lt_of_le (h.dom b q).1 hb.size, (h.dom b q).2⟩
    nd := h.nd
    lo := h.lo
    hi := Nat.lt_of_lt_of_le h.hi hb.size
    hM := Kd.R_below h.hM hb
    hR := Kd.R_below h.hR hb }
theorem spec_GenusRow.SI.gr {w0 : World} {mb : Nat} {D D' : Nat → Prop} {vm : Value} {m : List Int} {vr : Value} {row : List Int} {W W' : World} (h : spec_GenusRow.SI w0 mb D vm m vr row W) (hb : Below W.heap.size W W') (hd : ∀ b, D' b → D b ∨ (W.heap.size ≤ b ∧ b < W'.heap.size)) : spec_GenusRow.SI w0 mb D' vm m vr row W' :=
  { bel := below_step h.bel hb
    dom := fun b q => by
      rcases hd b q with q | ⟨q1, q2⟩
      · exact ⟨Nat.lt_of_lt_of_le (h.dom b q).1 hb.size, (h.dom b q).2⟩
      · exact ⟨q2, Nat.le_trans h.bel.size q1⟩
    nd := fun q => by
      rcases hd _ q with q | ⟨q1, _⟩
      · exact h.nd q
      · have := h.hi; omega
    lo := h.lo
    hi := Nat.lt_of_lt_of_le h.hi hb.size
    hM := Kd.R_below h.hM hb
    hR := Kd.R_below (Kd.R_mono (Kd.R_bound h.hR) (fun k hk => ⟨fun q => by
      rcases hd _ q with q | ⟨q1, _⟩
      · exact hk.1.1 q
      · have := hk.2.2.1; omega, hk.1.2⟩)) hb }
theorem spec_GenusRow.SI.grown {w0 : World} {mb : Nat} {D : Nat → Prop} {vm : Value} {m : List Int} {vr vr' : Value} {row row' : List Int} {W W' : World} (h : spec_GenusRow.SI w0 mb D vm m vr row W) (hg : W.grownBy W' vr.ownBlock) (hb : Below w0.heap.size w0 W') (hR : Kd.R (Kd.int .i64) 3 W' w0.heap.size (fun b => ¬ D b ∧ b ≠ mb) vr' row') : spec_GenusRow.SI w0 mb D vm m vr' row' W' ∧ W.heap.size ≤ W'.heap.size ∧ ∀ b, D b → b < W.heap.size → W'.heap[b]? = W.heap[b]? :=
  ⟨{ bel := hb
     dom := fun b q => ⟨Nat.lt_of_lt_of_le (h.dom b q).1 hg.size, (h.dom b q).2⟩
     nd := h.nd
     lo := h.lo
     hi := Nat.lt_of_lt_of_le h.hi hg.size
     hM := Kd.R_grown h.hM hg (fun k hk e => (h.hR.1 k e.symm).2 hk)
     hR := hR }, hg.size, fun b hd hb => hg.block b hb (fun e => (h.hR.1 b e.symm).1 hd)⟩
theorem spec_GenusRow.SI.putRow {w0 : World} {mb : Nat} {D : Nat → Prop} {vm : Value} {m : List Int} {g L cap : Nat} {row : List Int} {W : World} (h : spec_GenusRow.SI w0 mb D vm m (.slice (some ⟨g, 0, none⟩) L cap) row W) (hL : L = row.length) (i : Nat) (x : Int) : spec_GenusRow.SI w0 mb D vm m (.slice (some ⟨g, 0, none⟩) L cap) (row.set i x) (W.setCell ⟨g, i, none⟩ (.int .i64 x)) ∧ W.heap.size ≤ (W.setCell ⟨g, i, none⟩ (.int .i64 x)).heap.size ∧ ∀ b, D b → b < W.heap.size → (W.setCell ⟨g, i, none⟩ (.int .i64 x)).heap[b]? = W.heap[b]? := by
  subst hL
  have hp := (Kd.R_put (enc := Value.int .i64) (h1 := fun _ => rfl) h.hR (i : Int) x)
  rw [Int.toNat_natCast] at hp
  have hg : w0.heap.size ≤ g := Kd.R_base h.hR g rfl
  exact h.grown hp.2 (below_set h.bel hg) hp.1
theorem spec_GenusRow.SI.setM {w0 : World} {mb : Nat} {D : Nat → Prop} {vm : Value} {m m' : List Int} {vr : Value} {row : List Int} {W W' : World} (h : spec_GenusRow.SI w0 mb D vm m vr row W) (hb : Below w0.heap.size w0 W') (hk : Kept W W' (fun b => b = mb)) (hM : Kd.R (Kd.int .i64) 3 W' w0.heap.size (fun b => b = mb) vm m') : spec_GenusRow.SI w0 mb D vm m' vr row W' ∧ W.heap.size ≤ W'.heap.size ∧ ∀ b, D b → b < W.heap.size → W'.heap[b]? = W.heap[b]? :=
  ⟨{ bel := hb
     dom := fun b q => ⟨Nat.lt_of_lt_of_le (h.dom b q).1 hk.1, (h.dom b q).2⟩
     nd := h.nd
     lo := h.lo
     hi := Nat.lt_of_lt_of_le h.hi hk.1
     hM := hM
     hR := Kd.R_step h.hR (fun k q hlt => hk.2 k hlt q.2) }, hk.1, fun b hd hb => hk.2 b hb (fun e => h.nd (e ▸ hd))⟩
/-- what counting owes -/
def spec_GenusRow.Po (w0 : World) (mb : Nat) (D : Nat → Prop) (vm : Value) (m' row' : List Int) (W : World) (e : Ending) (W' : World) : Prop :=
  ∃ vr', e = .returned vr' ∧ spec_GenusRow.SI w0 mb D vm m' vr' row' W' ∧ W.heap.size ≤ W'.heap.size ∧ ∀ b, D b → b < W.heap.size → W'.heap[b]? = W.heap[b]?
set_option maxHeartbeats 16000000 in
set_option maxRecDepth 100000 in
theorem spec_GenusRow.count (k : Nat) (w0 : World) (mb : Nat) (A0 : Option Addr) (c0 : Nat) (l0 : List (List Int)) (hr0 : Kd.C (Kd.slice 3 (Kd.int .i64)) w0 A0 l0.length l0) (hc0 : l0.length ≤ c0) : ∀ (c : Nat) (v : Int) (D : Nat → Prop) (vm vr : Value) (m row m' row' : List Int) (W : World), v + (c : Int) = 7 → 0 ≤ v →
    spec_GenusRow.cF k l0 c v m row = some (m', row') → spec_GenusRow.SI w0 mb D vm m vr row W →
    Calls Try.prog 19 #[.slice A0 l0.length c0, .int .i64 v, vm, vr] W (spec_GenusRow.Po w0 mb D vm m' row' W) := by
  have HR0 := Aside0.mk hr0
  have HC0 := Aside0.mk hc0
  clear hr0 hc0
  intro c
  induction c with
  | zero =>
    intro v D vm vr m row m' row' W hv h0 h H
    obtain rfl : v = 7 := by omega
    rw [spec_GenusRow.cF] at h
    obtain ⟨n, hn, h⟩ := Option.bind_eq_some_iff.mp h
    obtain ⟨row2, hb, h⟩ := Option.bind_eq_some_iff.mp h
    obtain ⟨rfl, rfl⟩ := Prod.mk.inj (Option.some.inj h)
    obtain ⟨Am, cm, rfl⟩ := Kd.R_slice H.hM
    obtain ⟨Ar, cr, rfl⟩ := Kd.R_slice H.hR
    have HN := Aside0.mk hn
    have HB := Aside0.mk hb
    have HS := Aside0.mk H
    clear hn hb h H
    go_enter Try.func19, Try.ntmps19
    go_wp2_with fail
    (go_at_call 31; (with_reducible refine (spec_l6Genus.calls k Am cm m n _ (Kd.R_reads' HS.out.hM).2.2 (Kd.R_reads' HS.out.hM).2.1 HN.out).mono ?_))
    rintro e w1 ⟨rfl, hb⟩
    have HB1 := Aside0.mk hb
    have HS1 := Aside0.mk (HS.out.step hb)
    clear hb HN
    have hbm := HB.out
    unfold spec_GenusRow.bump at hbm
    by_cases hc : 0 ≤ n ∧ n < 1000000 ∧ row.length < 1000000
    · rw [if_pos hc] at hbm
      have hbm := Option.some.inj hbm
      have HC := Aside0.mk hc
      have HBM := Aside0.mk hbm
      clear hbm hc HB
      go_wp2
      go_loopg [3] (n.toNat + 2) (fun kq v3 w' => ∃ (i : Nat), Aside0 (i ≤ n.toNat + 1 - row.length ∧ n.toNat + 1 - row.length - i < kq) ∧ Aside0 (spec_GenusRow.SI w0 mb D (.slice Am m.length cm) m v3 (row ++ List.replicate i 0) w') ∧ Aside0 (W.heap.size ≤ w'.heap.size ∧ ∀ b, D b → b < W.heap.size → w'.heap[b]? = W.heap[b]?))
      case atStart => exact ⟨0, ⟨by omega⟩, by rw [List.replicate_zero, List.append_nil]; exact HS1, ⟨HB1.out.size, fun b _ hb => HB1.out.block b hb⟩⟩
      case round =>
        clear HS1
        obtain ⟨i, HI, HS1, HK⟩ := hrel
        obtain ⟨y, hy⟩ : ∃ y, y = row ++ List.replicate i 0 := ⟨_, rfl⟩
        have hyl : y.length = row.length + i := by rw [hy]; simp
        have HY := Aside0.mk hy
        have HYL := Aside0.mk hyl
        have HS2 := Aside0.mk (show spec_GenusRow.SI w0 mb D (.slice Am m.length cm) m u3 y wr by rw [hy]; exact HS1.out)
        clear HS1 hy
        obtain ⟨Av, cv, hv3⟩ := Kd.R_slice HS2.out.hR
        subst hv3
        by_cases c1 : i < n.toNat + 1 - row.length
        · have c1b0 : decide ((y.length : Int) ≤ n) = true := decide_eq_true (by have := HC.out; omega)
          clear hyl
          have hl8 : (y.length + 1) * 8 ≤ 140737488355328 := by have := HYL.out; have := HC.out; omega
          have HF : Aside0 (∀ k, wr.heap.size ≤ k → ¬ D k ∧ k ≠ mb) := ⟨fun k hk => ⟨fun q => by have := (HS2.out.dom k q).1; omega, by have := HS2.out.hi; omega⟩⟩
          go_wp2_with (first | ((with_reducible refine gate_builtin (b := .append) (xs := #[.tmp 20, .tmp 21]) rfl ?_); at_builtin; refine Kd.R_append (Kd.int .i64) (w0 := w0) w0.heap.size rfl (.tmp 20) (.tmp 21) 24 3 (.int .i64 0) 8 rfl Try.underlying24 info3 rfl (by decide) (by omega) (.slice Av y.length cv) y 0 [.int .i64 0] (fun b => ¬ D b ∧ b ≠ mb) (fun _ => False) rfl rfl rfl (fun _ hk => hk.elim) HF.out HS2.out.hR HS2.out.bel HS2.out.bel.size hl8 ?_; intro v4 w4 hR4 hB4 hG4 _; have HS4 := Aside0.mk (HS2.out.grown hG4 hB4 hR4); clear hR4 hB4 hG4))
          go_roundg (n.toNat + 1 - row.length - i)
          case measure => have := HI.out; omega
          case rel => exact ⟨i + 1, ⟨by omega⟩, ⟨by rw [List.replicate_succ', ← List.append_assoc, ← HY.out]; exact HS4.out.1⟩, ⟨Nat.le_trans HK.out.1 HS4.out.2.1, fun b hd hb => (HS4.out.2.2 b hd (Nat.lt_of_lt_of_le hb HK.out.1)).trans (HK.out.2 b hd hb)⟩⟩
        · have c1b0 : decide ((y.length : Int) ≤ n) = false := decide_eq_false (by have := HC.out; omega)
          obtain rfl : i = n.toNat + 1 - row.length := by have := HI.out; omega
          have hny : n.toNat < y.length := by omega
          obtain ⟨g, capg, e0, -, -, -⟩ := Kd.R_form HS2.out.hR (by omega)
          injection e0 with e1 _ e3
          subst e1 e3
          have hrow2 : row2 = y.set n.toNat (wrap64 (rd y n + 1)) := by rw [← HBM.out, ← HY.out]
          have HR2 := Aside0.mk hrow2
          obtain ⟨hx, hf⟩ := Kd.R_celln 0 HS2.out.hR n HC.out.1 (by have := HC.out; omega)
          replace hx : wr.cell? ⟨g, n.toNat, none⟩ = some (.int .i64 (rd y n)) := hx
          have HS3 := Aside0.mk (HS2.out.putRow rfl n.toNat (wrap64 (rd y n + 1)))
          have p1 : (0 ≤ n) = True := eq_true HC.out.1
          have q1 : (n < (y.length : Int)) = True := eq_true (by have := HC.out; omega)
          clear hyl hrow2 c1 hny
          go_wp2
          go_ret
          exact ⟨_, rfl, by rw [HR2.out]; exact HS3.out.1, Nat.le_trans HK.out.1 HS3.out.2.1, fun b hd hb => (HS3.out.2.2 b hd (Nat.lt_of_lt_of_le hb HK.out.1)).trans (HK.out.2 b hd hb)⟩
    · rw [if_neg hc] at hbm
      exact absurd hbm (by simp)
  | succ c ih =>
    intro v D vm vr m row m' row' W hv h0 h H
    rw [spec_GenusRow.cF] at h
    obtain ⟨ds, hd, h⟩ := Option.bind_eq_some_iff.mp h
    obtain ⟨os, ho, h⟩ := Option.bind_eq_some_iff.mp h
    by_cases hl : os.length < 1000000
    · rw [if_pos hl] at h
      obtain ⟨Am, cm, rfl⟩ := Kd.R_slice H.hM
      obtain ⟨Ar, cr, rfl⟩ := Kd.R_slice H.hR
      have HD := Aside0.mk hd
      have HO := Aside0.mk ho
      have HH := Aside0.mk h
      have HS := Aside0.mk H
      have HL := Aside0.mk hl
      have IH := Aside0.mk ih
      have hv7 : (v == 7) = false := beq_eq_false_iff_ne.2 (by omega)
      clear hd ho h H hl ih
      go_enter Try.func19, Try.ntmps19
      go_wp2_with fail
      (go_at_call 33; (with_reducible refine (spec_l7Darts.calls k A0 c0 l0 v ds _ (Kd.C_below HR0.out HS.out.bel) HC0.out HD.out).mono ?_))
      rintro e w1 ⟨vd, rfl, hd1, hb1⟩
      obtain ⟨Ad, cd, rfl⟩ := Kd.R_slice hd1
      have HD1 := Aside0.mk hd1
      have HB1 := Aside0.mk hb1
      clear hd1 hb1 HD
      go_wp2_with fail
      (go_at_call 32; (with_reducible refine (spec_l7Orders.calls k Ad cd ds os _ (Kd.R_reads' HD1.out).2.2 (Kd.R_reads' HD1.out).2.1 HO.out).mono ?_))
      rintro e w2 ⟨vo, rfl, ho2, hb2⟩
      obtain ⟨Ao, co, rfl⟩ := Kd.S_slice ho2
      have hb12 := below_step HB1.out hb2
      have HS2 := Aside0.mk (HS.out.gr (D' := fun b => D b ∨ (W.heap.size ≤ b ∧ b < w2.heap.size)) hb12 (fun b q => q))
      have HO2 := Aside0.mk (show Kd.R (Kd.slice 3 (Kd.int .i64)) 24 w2 w0.heap.size (fun b => D b ∨ (W.heap.size ≤ b ∧ b < w2.heap.size)) (.slice Ao os.length co) os from Kd.R_lower (Kd.R_mono (Kd.R_bound (Kd.S_R ho2)) (fun q hq => .inr ⟨Nat.le_trans HB1.out.size hq.2.1, hq.2.2.1⟩)) (Nat.le_trans HS.out.bel.size HB1.out.size))
      have HK2 := Aside0.mk (show W.heap.size ≤ w2.heap.size ∧ ∀ b, D b → b < W.heap.size → w2.heap[b]? = W.heap[b]? from ⟨hb12.size, fun b _ hb => hb12.block b hb⟩)
      clear ho2 hb2 hb12 HB1 HD1 HO
      go_wp2
      go_loopg [3, 11] (os.length + 1) (fun kq v3 v11 w' => ∃ (i : Nat) (m1 row1 : List Int), v11 = .int .i64 (i : Int) ∧ Aside0 (spec_GenusRow.cL (spec_l7Ring.f k) (fun m row => spec_GenusRow.cF k l0 c (v + 1) m row) os (os.length - i) i m1 row1 = some (m', row')) ∧ Aside0 (i ≤ os.length ∧ os.length - i < kq) ∧ Aside0 (spec_GenusRow.SI w0 mb (fun b => D b ∨ (W.heap.size ≤ b ∧ b < w2.heap.size)) (.slice Am m.length cm) m1 v3 row1 w') ∧ Aside0 (Kd.R (Kd.slice 3 (Kd.int .i64)) 24 w' w0.heap.size (fun b => D b ∨ (W.heap.size ≤ b ∧ b < w2.heap.size)) (.slice Ao os.length co) os) ∧ Aside0 (W.heap.size ≤ w'.heap.size ∧ ∀ b, D b → b < W.heap.size → w'.heap[b]? = W.heap[b]?))
      case atStart => exact ⟨0, m, row, rfl, HH, ⟨by omega⟩, HS2, HO2, HK2⟩
      case round =>
        clear HH HS2 HO2 HK2
        obtain ⟨i, m1, row1, rfl, HA, HI, HS3, HO3, HK3⟩ := hrel
        by_cases c1 : i < os.length
        · have c1b0 : decide ((i : Int) < (os.length : Int)) = true := decide_eq_true (by omega)
          obtain ⟨m2, A10, h2⟩ : ∃ m2, spec_l7Ring.f k m1 (rd_L1 os (i : Int)) = some m2 ∧ ((spec_GenusRow.cF k l0 c (v + 1) m2 row1).bind fun st => spec_GenusRow.cL (spec_l7Ring.f k) (fun m row => spec_GenusRow.cF k l0 c (v + 1) m row) os (os.length - (i + 1)) (i + 1) st.1 st.2) = some (m', row') := by
            have h := HA.out
            rw [show os.length - i = (os.length - (i + 1)) + 1 by omega] at h
            exact Option.bind_eq_some_iff.mp h
          obtain ⟨⟨m3, row3⟩, A20, A30⟩ := Option.bind_eq_some_iff.mp h2
          have A1 := Aside0.mk A10
          have A2 := Aside0.mk A20
          have A3 := Aside0.mk (show spec_GenusRow.cL (spec_l7Ring.f k) (fun m row => spec_GenusRow.cF k l0 c (v + 1) m row) os (os.length - (i + 1)) (i + 1) m3 row3 = some (m', row') from A30)
          clear A10 A20 A30 HA h2
          have pi : (0 : Int) ≤ (i : Int) := by omega
          have qi : (i : Int) < (os.length : Int) := by omega
          have ei : ((i : Int)).toNat = i := Int.toNat_natCast i
          have wi : wrap64 ((i : Int) + 1) = ((i + 1 : Nat) : Int) := by have := HL.out; unfold wrap64; omega
          have wv : wrap64 (v + 1) = v + 1 := by unfold wrap64; omega
          obtain ⟨g, cg, e0, -, hgl, -⟩ := Kd.R_form HO3.out (by omega)
          injection e0 with e1 _ e3
          subst e1 e3
          obtain ⟨ad, A5, k5, e5, hx5, hl5, hi5⟩ := at_L1 (Kd.R_reads' HO3.out).2.2 (i : Int) pi qi
          have e5' := Option.some.inj e5
          subst e5'
          have hDg := HO3.out.1 g rfl
          have hgm : g ≠ mb := fun e => HS3.out.nd (e ▸ hDg)
          have HRW : Aside0 (∀ W_, Kept wr W_ (fun b => b = mb) → Kd.C (Kd.int .i64) W_ A5 (rd_L1 os (i : Int)).length (rd_L1 os (i : Int))) := ⟨fun W_ hk => by
            have hR := Kd.R_step HO3.out (fun q hq hlt => hk.2 q hlt (fun e => HS3.out.nd (e ▸ hq)))
            obtain ⟨ad', A5', k5', e5', hx5', _, hi5'⟩ := at_L1 (Kd.R_reads' hR).2.2 (i : Int) pi qi
            have e6 := Option.some.inj e5'
            subst e6
            have hc : W_.cell? ((⟨g, 0, none⟩ : Addr).add ((i : Int)).toNat) = wr.cell? ((⟨g, 0, none⟩ : Addr).add ((i : Int)).toNat) := World.cell?_of_block (by rw [add_block]; exact hk.2 g hgl hgm)
            rw [hc, hx5] at hx5'
            have e7 := Option.some.inj hx5'
            injection e7 with e8 _ _
            rw [e8]
            exact hi5'⟩
          have HC5 := Aside0.mk hl5
          have hx := hx5
          rw [ei] at hx
          (try rw [add_plain] at hx)
          obtain ⟨A3r, c3r, hv3⟩ := Kd.R_slice HS3.out.hR
          subst hv3
          clear hx5 hl5 hi5 hDg hgm e5 hgl
          go_wp2_with fail
          (go_at_call 34; (with_reducible refine (spec_l7Ring.calls k (fun b => b = mb) _ m1 A5 k5 (rd_L1 os (i : Int)) m2 w0 wr HS3.out.bel HS3.out.hM HRW.out HC5.out A1.out).mono ?_))
          rintro e w3 ⟨rfl, hm3, hb3, hk3⟩
          have HS4 := Aside0.mk (HS3.out.setM hb3 hk3 (Kd.R_of_own (Kd.own_of_R hm3) HS3.out.hM.1))
          have HO4 := Aside0.mk (Kd.R_step HO3.out (fun q hq hlt => HS4.out.2.2 q hq hlt))
          have HK4 := Aside0.mk (show W.heap.size ≤ w3.heap.size ∧ ∀ b, D b → b < W.heap.size → w3.heap[b]? = W.heap[b]? from ⟨Nat.le_trans HK3.out.1 HS4.out.2.1, fun b hd hb => (HS4.out.2.2 b (.inl hd) (Nat.lt_of_lt_of_le hb HK3.out.1)).trans (HK3.out.2 b hd hb)⟩)
          clear hm3 hb3 hk3 HS3 HO3 HK3 HRW hx A1
          go_wp2_with fail
          have hcall := IH.out (v + 1) (fun b => D b ∨ (W.heap.size ≤ b ∧ b < w2.heap.size)) (.slice Am m.length cm) (.slice A3r row1.length c3r) m2 row1 m3 row3 w3 (by omega) (by omega) A2.out HS4.out.1
          (go_at_call 19; (with_reducible refine hcall.mono ?_))
          clear hcall
          rintro e w4 ⟨vr4, rfl, hs4, hz4, hk4⟩
          have HS5 := Aside0.mk hs4
          have HO5 := Aside0.mk (Kd.R_step HO4.out (fun q hq hlt => hk4 q hq hlt))
          have HK5 := Aside0.mk (show W.heap.size ≤ w4.heap.size ∧ ∀ b, D b → b < W.heap.size → w4.heap[b]? = W.heap[b]? from ⟨Nat.le_trans HK4.out.1 hz4, fun b hd hb => (hk4 b (.inl hd) (Nat.lt_of_lt_of_le hb HK4.out.1)).trans (HK4.out.2 b hd hb)⟩)
          clear hs4 hz4 hk4 HS4 HO4 HK4 A2 IH
          go_wp2
          go_roundg (os.length - i)
          case measure => have := HI.out; omega
          case rel => exact ⟨i + 1, m3, row3, by first | rfl | (rw [wi]), A3, ⟨by have := HI.out; omega⟩, HS5, HO5, HK5⟩
        · have c1b0 : decide ((i : Int) < (os.length : Int)) = false := decide_eq_false (by omega)
          have hs' : m1 = m' ∧ row1 = row' := by
            have h := HA.out
            rw [show os.length - i = 0 by omega] at h
            exact Prod.mk.inj (Option.some.inj h)
          obtain ⟨rfl, rfl⟩ := hs'
          clear HA
          go_wp2
          go_ret
          exact ⟨_, rfl, HS3.out.gr (Below.refl _ _) (fun b q => .inl (.inl q)), HK3.out⟩
    · rw [if_neg hl] at h
      exact absurd h (by simp)
set_option maxHeartbeats 8000000 in
set_option maxRecDepth 100000 in
theorem spec_GenusRow.calls (k : Nat) (A0 : Option Addr) (c0 : Nat) (l0 : List (List Int)) (r : List Int) (w : World) (hr0 : Kd.C (Kd.slice 3 (Kd.int .i64)) w A0 l0.length l0) (hc0 : l0.length ≤ c0) (h : spec_GenusRow.f k l0 = some r) :
    Calls Try.prog 6 #[.slice A0 l0.length c0] w fun e w' => ∃ v0_ : Value, e = .returned (v0_) ∧ Kd.R (Kd.int .i64) 3 w' w.heap.size (fun _ => True) v0_ r ∧ Below w.heap.size w w' := by
  have HR0 := Aside0.mk hr0
  have HC0 := Aside0.mk hc0
  clear hr0 hc0
  unfold spec_GenusRow.f at h
  obtain ⟨n, hn, h⟩ := Option.bind_eq_some_iff.mp h
  obtain ⟨t, ht, h⟩ := Option.bind_eq_some_iff.mp h
  have HN := Aside0.mk hn
  have HT := Aside0.mk ht
  have HH := Aside0.mk h
  clear hn ht h
  go_enter Try.func6, Try.ntmps6
  go_wp2_with fail
  (go_at_call 18; (with_reducible refine (spec_CountRotations.calls k A0 c0 l0 n _ HR0.out HC0.out HN.out).mono ?_))
  rintro e w1 ⟨rfl, hb⟩
  have HB1 := Aside0.mk hb
  clear hb HN
  go_wp2_with fail
  (go_at_call 17; (with_reducible refine (spec_l1In.calls n 1 2000 t _ HT.out).mono ?_))
  rintro e w2 ⟨rfl, hd⟩
  obtain ⟨n2, rfl⟩ := hd.out
  have HB2 := Aside0.mk (pw_below_drewN HB1.out n2)
  clear hd HT HB1
  generalize w1.drewN n2 = w2 at HB2 ⊢
  cases t with
  | false =>
    have h := HH.out
    rw [if_neg (by decide)] at h
    obtain rfl := Option.some.inj h
    clear h HH
    go_wp2
    go_ret
    exact ⟨_, rfl, spec_l7Orders.lit0 (heap_alloc_new w2 _) HB2.out.size trivial, below_alloc HB2.out _⟩
  | true =>
    have h := HH.out
    rw [if_pos rfl] at h
    by_cases hl : l0.length < 1000000
    · rw [if_pos hl] at h
      obtain ⟨⟨m', row'⟩, h1, h2⟩ := Option.bind_eq_some_iff.mp h
      obtain rfl := Option.some.inj h2
      have H1 := Aside0.mk h1
      have HL := Aside0.mk hl
      obtain ⟨m0, hm0⟩ : ∃ y, y = List.replicate (2 * l0.length) (0 : Int) := ⟨_, rfl⟩
      have wl : wrap64 (2 * (l0.length : Int)) = 2 * (l0.length : Int) := by unfold wrap64; omega
      have et : (2 * (l0.length : Int)).toNat = 2 * l0.length := by omega
      have H1 := Aside0.mk (show spec_GenusRow.cF k l0 7 0 m0 [] = some (m', row') by rw [hm0]; exact h1)
      have HM0 := Aside0.mk hm0
      have HE := Aside0.mk et
      have HW := Aside0.mk wl
      clear h h1 h2 HH hl hm0 et
      go_wp2_with (first | ((with_reducible refine gate_dst (N := 12) rfl ?_); refine Kd.R_make (Kd.int .i64) (w0 := w) w.heap.size 3 rfl (N := 12) rfl 24 _ _ rfl (wrap64 (2 * (l0.length : Int))) rfl rfl Try.underlying24 (.int .i64 0) 8 info3 rfl (by decide) (by omega) 0 (ok := fun b => b = w2.heap.size) (okp := fun b => b = w2.heap.size) rfl (fun _ hk => hk) rfl (by rw [HW.out]; omega) (by rw [HW.out]; have := HL.out; omega) HB2.out HB2.out.size ?_; intro v3 w3 hM3 hB3 hG3 hv3; rw [HW.out, HE.out, ← HM0.out] at hM3; obtain ⟨A3, c3, rfl⟩ := Kd.R_slice hM3; have HM3 := Aside0.mk hM3; have HB3 := Aside0.mk hB3; have HV3 := Aside0.mk hv3; clear hM3 hB3 hG3 hv3))
      obtain ⟨b3, hb3, -⟩ := HV3.out
      obtain rfl := HM3.out.1 b3 hb3
      have hlt := Kd.R_lt HM3.out _ hb3
      have HS := Aside0.mk (show spec_GenusRow.SI w w2.heap.size (fun _ => False) (.slice A3 m0.length c3) m0 (.slice (some ⟨w3.heap.size, 0, none⟩) 0 0) [] (w3.alloc (.cells #[] 3)) from
        { bel := below_alloc HB3.out _
          dom := fun _ q => q.elim
          nd := fun q => q
          lo := HB2.out.size
          hi := Nat.lt_of_lt_of_le hlt (below_alloc (Below.refl w3.heap.size w3) _).size
          hM := Kd.R_alloc HM3.out _
          hR := spec_l7Orders.lit0 (heap_alloc_new w3 _) HB3.out.size ⟨fun q => q, by omega⟩ })
      have hcall := spec_GenusRow.count k w _ A0 c0 l0 HR0.out HC0.out 7 0 (fun _ => False) _ _ m0 [] m' row' _ (by omega) (by omega) H1.out HS.out
      (go_at_call 19; (with_reducible refine hcall.mono ?_))
      clear hcall
      rintro e w5 ⟨vr5, rfl, hs5, -, -⟩
      have HS5 := Aside0.mk hs5
      clear hs5 HS H1
      obtain ⟨A5, c5, rfl⟩ := Kd.R_slice HS5.out.hR
      go_wp2
      go_ret
      exact ⟨_, rfl, Kd.R_mono HS5.out.hR (fun _ _ => trivial), HS5.out.bel⟩
    · rw [if_neg hl] at h
      exact absurd h (by simp)

/-! ### laws_toIntS: function 20 -/
def laws_toIntS.l0 : Nat → List Int → List Int → Int → Option (List Int)
  | 0, _, _, _ => none
  | k + 1, x0, x3, x4 => if x4 < (x0.length : Int) then (if 0 ≤ x4 then (if x4 < (x3.length : Int) then (laws_toIntS.l0 k x0 (x3.set (x4 : Int).toNat (rd x0 x4)) (wrap64 (x4 + 1))) else (none)) else (none)) else (some x3)
def laws_toIntS.f (k : Nat) (l0 : List Int) : Option (List Int) := if 0 ≤ (l0.length : Int) then (if ((l0.length : Int) : Int).toNat ≤ 35184372088832 then (laws_toIntS.l0 k l0 (List.replicate ((l0.length : Int) : Int).toNat 0) 0) else (none)) else (none)
theorem laws_toIntS.mono_l : ∀ k, (∀ y0 y1 y2, LeO (laws_toIntS.l0 k y0 y1 y2) (laws_toIntS.l0 (k + 1) y0 y1 y2))
  | 0 => fun _ _ _ r h => by simp [laws_toIntS.l0] at h
  | k + 1 => by
    have ih0 := laws_toIntS.mono_l k
    · intro y0 y1 y2
      unfold laws_toIntS.l0
      repeat' first
      | (with_reducible exact ih0 _ _ _)
      | (with_reducible exact LeO.refl _)
      | (with_reducible exact LeO.none _)
      | (with_reducible refine LeO.ite ?_ ?_)
      | (with_reducible refine LeO.bind ?_ (fun _ => ?_))
      | exact ih0 _ _ _
      | exact LeO.none _
      | refine LeO.ite ?_ ?_
      | refine LeO.bind ?_ (fun _ => ?_)
theorem laws_toIntS.mono : ∀ a0 k, LeO (laws_toIntS.f k a0) (laws_toIntS.f (k + 1) a0) := by
  intro a0 k
  have ih0 := laws_toIntS.mono_l k
  unfold laws_toIntS.f
  repeat' first
      | (with_reducible exact ih0 _ _ _)
      | (with_reducible exact LeO.refl _)
      | (with_reducible exact LeO.none _)
      | (with_reducible refine LeO.ite ?_ ?_)
      | (with_reducible refine LeO.bind ?_ (fun _ => ?_))
      | exact ih0 _ _ _
      | exact LeO.none _
      | refine LeO.ite ?_ ?_
      | refine LeO.bind ?_ (fun _ => ?_)
set_option maxHeartbeats 8000000 in
set_option maxRecDepth 100000 in
theorem laws_toIntS.calls (k : Nat) (A0 : Option Addr) (c0 : Nat) (l0 : List Int) (r : List Int) (w : World) (hr0 : Kd.C (Kd.int .i64) w A0 l0.length l0) (hc0 : l0.length ≤ c0) (h : laws_toIntS.f k l0 = some r) :
    Calls Try.prog 20 #[.slice A0 l0.length c0] w fun e w' => ∃ v0_ : Value, e = .returned (v0_) ∧ Kd.R (Kd.int .i64) 3 w' w.heap.size (fun _ => True) v0_ r ∧ Below w.heap.size w w' := by
  have HR0 := Aside0.mk hr0
  have HC0 := Aside0.mk hc0
  clear hr0 hc0
  have HB := Aside0.mk (Below.refl w.heap.size w)
  have H : (if 0 ≤ (l0.length : Int) then (if ((l0.length : Int) : Int).toNat ≤ 35184372088832 then (laws_toIntS.l0 k l0 (List.replicate ((l0.length : Int) : Int).toNat 0) 0) else (none)) else (none)) = some r := h
  clear h
  by_cases c2 : 0 ≤ (l0.length : Int)
  · rw [if_pos c2] at H
    have c2b0 := eq_true c2
    have c2b1 : decide (0 ≤ (l0.length : Int)) = true := decide_eq_true c2
    clear c2
    by_cases c3 : ((l0.length : Int) : Int).toNat ≤ 35184372088832
    · rw [if_pos c3] at H
      have c3b0 := eq_true c3
      have c3b1 : decide (((l0.length : Int) : Int).toNat ≤ 35184372088832) = true := decide_eq_true c3
      clear c3
      obtain ⟨y215, hy215⟩ : ∃ y_ : List Int, y_ = (List.replicate ((l0.length : Int) : Int).toNat 0) := ⟨_, rfl⟩
      replace H : (laws_toIntS.l0 k l0 y215 0) = some r := by first | (rw [hy215]; with_reducible exact H) | (have H2_ := (Option.bind_some _ _).symm.trans H; rw [hy215]; with_reducible exact H2_) | (have H2_ := (Option.bind_some _ _).symm.trans H; with_reducible exact H2_) | with_reducible exact H | (rw [hy215]; exact H) | exact H
      have Ny215 := Aside0.mk hy215
      clear hy215
      have H' := Aside0.mk H
      clear H
      go_enter Try.func20, Try.ntmps20
      go_wp2_with (first | ((with_reducible refine gate_dst (N := 7) rfl ?_); refine Kd.R_make (Kd.int .i64) _ 3 rfl (N := 7) rfl 24 _ _ rfl (l0.length : Int) rfl rfl Try.underlying24 (.int .i64 0) 8 info3 rfl (by decide) (by omega) 0 (ok := fun _ => True) (okp := fun _ => True) rfl (fun _ hk => hk) trivial (of_decide_eq_true (by first | (with_reducible assumption) | assumption)) (Nat.le_trans (Nat.mul_le_mul_right _ (of_decide_eq_true (by first | (with_reducible assumption) | assumption) : (l0.length : Int).toNat ≤ 35184372088832)) (by omega)) (Below.refl _ _) (Nat.le_refl _) ?_; intro v216 w4 ho5 hb hg_ hnew_; clear hg_ hnew_; (first | rw [← Ny215.out] at ho5 | (simp only [Int.reduceToNat] at ho5; rw [← Ny215.out] at ho5)); have n0_ := Aside0.mk (Kd.R_lower ho5 (below_size (by repeat (first | (with_reducible first | exact HB.out | apply below_alloc | apply pw_below_drewN | apply below_drew1) | exact HB.out)))); have n1_ := Aside0.mk (below_step (by repeat (first | (with_reducible first | exact HB.out | apply below_alloc | apply pw_below_drewN | apply below_drew1) | exact HB.out)) hb); clear HB; have HO217 := n0_; have HB := n1_; clear n0_ n1_; clear hb ho5))
      go_loopg [4] k (fun kq v4 w' => ∃ (x3_1 : List Int) (x4_1 : Int), v4 = .int .i64 x4_1 ∧ Aside0 (laws_toIntS.l0 kq l0 x3_1 x4_1 = some r) ∧ Aside0 (kq ≤ k) ∧ Aside0 (Kd.R (Kd.int .i64) 3 w' w.heap.size (fun _ => True) v216 x3_1) ∧ Aside0 (Below w.heap.size w w'))
      case atStart => exact ⟨(y215), (0), (by first | rfl | (simp; done) | (simp [*]; done)), H', ⟨Nat.le_refl _⟩, ⟨by (with_reducible repeat (first | apply Kd.R_alloc | apply Kd.R_drewN | apply Kd.R_drew)); exact HO217.out⟩, ⟨by repeat (first | (with_reducible first | exact HB.out | apply below_alloc | apply pw_below_drewN | apply below_drew1) | exact HB.out)⟩⟩
      case round =>
        clear H'
        try clear c2
        try clear c2b0
        try clear c2b1
        try clear p2
        try clear c3
        try clear c3b0
        try clear c3b1
        obtain ⟨x3_1, x4_1, rfl, HA, HK1, HO_3, HB⟩ := hrel
        cases gk with
        | zero => exact absurd HA.out (by simp [laws_toIntS.l0])
        | succ k1 =>
          have H := HA.out
          clear HA
          simp only [laws_toIntS.l0] at H
          by_cases c6 : x4_1 < (l0.length : Int)
          · rw [if_pos c6] at H
            have c6b0 : decide (x4_1 < (l0.length : Int)) = true := decide_eq_true c6
            clear c6
            by_cases c7 : 0 ≤ x4_1
            · rw [if_pos c7] at H
              have c7b0 : decide (0 ≤ x4_1) = true := decide_eq_true c7
              clear c7
              by_cases c8 : x4_1 < (x3_1.length : Int)
              · rw [if_pos c8] at H
                have c8b0 : decide (x4_1 < (x3_1.length : Int)) = true := decide_eq_true c8
                clear c8
                obtain ⟨y219, hy219⟩ : ∃ y_ : List Int, y_ = (x3_1.set (x4_1 : Int).toNat (rd l0 x4_1)) := ⟨_, rfl⟩
                replace H : (laws_toIntS.l0 k1 l0 y219 (wrap64 (x4_1 + 1))) = some r := by first | (rw [hy219]; with_reducible exact H) | (have H2_ := (Option.bind_some _ _).symm.trans H; rw [hy219]; with_reducible exact H2_) | (have H2_ := (Option.bind_some _ _).symm.trans H; with_reducible exact H2_) | with_reducible exact H | (rw [hy219]; exact H) | exact H
                have Ny219 := Aside0.mk hy219
                clear hy219
                have H' := Aside0.mk H
                clear H
                have p218 : 0 ≤ (x4_1 : Int) := of_decide_eq_true (by first | (with_reducible assumption) | assumption)
                have q218 : x4_1 < (l0.length : Int) := of_decide_eq_true (by first | (with_reducible assumption) | assumption)
                obtain ⟨ad218, e218, hx218_0⟩ := Kd.at_int HR0.out x4_1 p218 q218
                cases e218
                replace hx218_0 := (HB.out.cell (World.block_lt_of_cell? w _ hx218_0)).trans hx218_0
                replace p218 := eq_true p218
                replace q218 := eq_true q218
                have p9 : 0 ≤ (x4_1 : Int) := of_decide_eq_true (by first | (with_reducible assumption) | assumption)
                have q9 : (x4_1 : Int) < ((x3_1.length : Int) : Int) := of_decide_eq_true (by first | (with_reducible assumption) | assumption)
                obtain ⟨go9, co9, eo9, gb9, gl9, cl9, HG9⟩ := Kd.R_form HO_3.out (by omega)
                (first | cases eo9 | (injection eo9 with ea_ en_ ec_; (first | subst ea_ | (injection ea_ with ea_; subst ea_)); subst ec_; clear en_))
                have GB9 := Aside0.mk gb9
                have GG9 := Aside0.mk HG9
                clear gb9 gl9 HG9
                obtain ⟨hx9_0, hf9_0⟩ := Kd.R_celln 0 HO_3.out (x4_1 : Int) p9 q9
                replace p9 := eq_true p9
                replace q9 := eq_true q9
                have HP10 := Kd.R_putg HO_3.out (x4_1 : Int) (rd l0 x4_1)
                go_wp2_with (first | ((with_reducible refine gate_store (t := 3) (p := 20) rfl ?_); refine store_event (t := 3) (p := 20) (v := ?vo_w11) (w1 := (wr.setCell ⟨go9, (x4_1 : Int).toNat, none⟩ (.int .i64 (rd l0 x4_1)))) ?hg ?ho ?hn ?hr ?_; (case ho => rfl); (case hg => rfl); (case hn => rfl); (case hr => first | (go_simp; done) | (go_simp; rfl)); intro w11 hw; have hg : wr.grownBy w11 (some go9) := (by rw [hw]; exact HP10.2); have hp_ : Kd.R (Kd.int .i64) 3 w11 w.heap.size (fun _ => True) (.slice (some ⟨go9, 0, none⟩) x3_1.length co9) y219 := (by rw [hw, Ny219.out]; exact HP10.1); clear HP10; have n0_ := Aside0.mk (hp_); have n1_ := Aside0.mk ((by rw [hw]; exact below_set (HB.out) GB9.out : Below w.heap.size w w11)); clear HO_3; clear HB; have HO_3 := n0_; have HB := n1_; clear n0_ n1_; clear hg hw hp_))
                go_roundg k1
                case measure => have := HK1.out; omega
                case rel => exact ⟨(y219), (wrap64 (x4_1 + 1)), (by first | rfl | (simp; done) | (simp [*]; done)), H', ⟨by have := HK1.out; omega⟩, ⟨by (with_reducible repeat (first | apply Kd.R_alloc | apply Kd.R_drewN | apply Kd.R_drew)); exact HO_3.out⟩, ⟨by repeat (first | (with_reducible first | exact HB.out | apply below_alloc | apply pw_below_drewN | apply below_drew1) | exact HB.out)⟩⟩
              · rw [if_neg c8] at H
                exact absurd H (by simp)
            · rw [if_neg c7] at H
              exact absurd H (by simp)
          · rw [if_neg c6] at H
            have c6b0 : decide (x4_1 < (l0.length : Int)) = false := decide_eq_false c6
            clear c6
            obtain rfl := Option.some.inj H
            go_wp2
            go_ret
            exact ⟨_, by first | rfl | (simp [errW_none, errW_some] <;> rfl) | (simp [*, errW_none, errW_some] <;> rfl), by (with_reducible repeat (first | apply Kd.R_alloc | apply Kd.R_drewN | apply Kd.R_drew)); exact HO_3.out, by repeat (first | (with_reducible first | exact HB.out | apply below_alloc | apply pw_below_drewN | apply below_drew1) | exact HB.out)⟩
    · rw [if_neg c3] at H
      exact absurd H (by simp)
  · rw [if_neg c2] at H
    exact absurd H (by simp)

/-! ### laws_toIntSS: function 7 -/
def laws_toIntSS.l0 : Nat → List (List Int) → List (List Int) → Int → Option ((List (List Int)))
  | 0, _, _, _ => none
  | k + 1, x0, x3, x4 => if x4 < (x0.length : Int) then (if 0 ≤ x4 then ((laws_toIntS.f k (rd_L1 x0 x4)).bind fun t224 => (if x4 < (x3.length : Int) then (laws_toIntSS.l0 k x0 (x3.set (x4 : Int).toNat t224) (wrap64 (x4 + 1))) else (none))) else (none)) else (some x3)
def laws_toIntSS.f (k : Nat) (l0 : List (List Int)) : Option ((List (List Int))) := if 0 ≤ (l0.length : Int) then (if ((l0.length : Int) : Int).toNat ≤ 11728124029610 then (laws_toIntSS.l0 k l0 (List.replicate ((l0.length : Int) : Int).toNat []) 0) else (none)) else (none)
theorem laws_toIntSS.mono_l : ∀ k, (∀ y0 y1 y2, LeO (laws_toIntSS.l0 k y0 y1 y2) (laws_toIntSS.l0 (k + 1) y0 y1 y2))
  | 0 => fun _ _ _ r h => by simp [laws_toIntSS.l0] at h
  | k + 1 => by
    have ih0 := laws_toIntSS.mono_l k
    · intro y0 y1 y2
      unfold laws_toIntSS.l0
      repeat' first
      | (with_reducible exact ih0 _ _ _)
      | (with_reducible exact laws_toIntS.mono _ _)
      | (with_reducible exact LeO.refl _)
      | (with_reducible exact LeO.none _)
      | (with_reducible refine LeO.ite ?_ ?_)
      | (with_reducible refine LeO.bind ?_ (fun _ => ?_))
      | exact ih0 _ _ _
      | exact laws_toIntS.mono _ _
      | exact LeO.none _
      | refine LeO.ite ?_ ?_
      | refine LeO.bind ?_ (fun _ => ?_)
theorem laws_toIntSS.mono : ∀ a0 k, LeO (laws_toIntSS.f k a0) (laws_toIntSS.f (k + 1) a0) := by
  intro a0 k
  have ih0 := laws_toIntSS.mono_l k
  unfold laws_toIntSS.f
  repeat' first
      | (with_reducible exact ih0 _ _ _)
      | (with_reducible exact laws_toIntS.mono _ _)
      | (with_reducible exact LeO.refl _)
      | (with_reducible exact LeO.none _)
      | (with_reducible refine LeO.ite ?_ ?_)
      | (with_reducible refine LeO.bind ?_ (fun _ => ?_))
      | exact ih0 _ _ _
      | exact laws_toIntS.mono _ _
      | exact LeO.none _
      | refine LeO.ite ?_ ?_
      | refine LeO.bind ?_ (fun _ => ?_)
set_option maxHeartbeats 8000000 in
set_option maxRecDepth 100000 in
theorem laws_toIntSS.calls (k : Nat) (A0 : Option Addr) (c0 : Nat) (l0 : List (List Int)) (r : List (List Int)) (w : World) (hr0 : Kd.C (Kd.slice 3 (Kd.int .i64)) w A0 l0.length l0) (hc0 : l0.length ≤ c0) (h : laws_toIntSS.f k l0 = some r) :
    Calls Try.prog 7 #[.slice A0 l0.length c0] w fun e w' => ∃ v0_ : Value, e = .returned (v0_) ∧ Kd.S (Kd.slice 3 (Kd.int .i64)) 24 w' w.heap.size (fun _ => True) v0_ r ∧ Below w.heap.size w w' := by
  have HR0 := Aside0.mk hr0
  have HC0 := Aside0.mk hc0
  clear hr0 hc0
  have HB := Aside0.mk (Below.refl w.heap.size w)
  have H : (if 0 ≤ (l0.length : Int) then (if ((l0.length : Int) : Int).toNat ≤ 11728124029610 then (laws_toIntSS.l0 k l0 (List.replicate ((l0.length : Int) : Int).toNat []) 0) else (none)) else (none)) = some r := h
  clear h
  by_cases c2 : 0 ≤ (l0.length : Int)
  · rw [if_pos c2] at H
    have c2b0 := eq_true c2
    have c2b1 : decide (0 ≤ (l0.length : Int)) = true := decide_eq_true c2
    clear c2
    by_cases c3 : ((l0.length : Int) : Int).toNat ≤ 11728124029610
    · rw [if_pos c3] at H
      have c3b0 := eq_true c3
      have c3b1 : decide (((l0.length : Int) : Int).toNat ≤ 11728124029610) = true := decide_eq_true c3
      clear c3
      obtain ⟨y220, hy220⟩ : ∃ y_ : List (List Int), y_ = (List.replicate ((l0.length : Int) : Int).toNat []) := ⟨_, rfl⟩
      replace H : (laws_toIntSS.l0 k l0 y220 0) = some r := by first | (rw [hy220]; with_reducible exact H) | (have H2_ := (Option.bind_some _ _).symm.trans H; rw [hy220]; with_reducible exact H2_) | (have H2_ := (Option.bind_some _ _).symm.trans H; with_reducible exact H2_) | with_reducible exact H | (rw [hy220]; exact H) | exact H
      have Ny220 := Aside0.mk hy220
      clear hy220
      have H' := Aside0.mk H
      clear H
      go_enter Try.func7, Try.ntmps7
      go_wp2_with (first | ((with_reducible refine gate_dst (N := 7) rfl ?_); refine Kd.S_make (Kd.slice 3 (Kd.int .i64)) _ 24 rfl (N := 7) rfl 22 _ _ rfl (l0.length : Int) rfl rfl Try.underlying22 (.slice none 0 0) 24 info24 rfl (by decide) (by omega) [] (ok := fun _ => True) (okp := fun _ => True) ⟨_, rfl, Kd.R_nil _ _ _ _ _⟩ (fun _ hk => hk) trivial (of_decide_eq_true (by first | (with_reducible assumption) | assumption)) (Nat.le_trans (Nat.mul_le_mul_right _ (of_decide_eq_true (by first | (with_reducible assumption) | assumption) : (l0.length : Int).toNat ≤ 11728124029610)) (by omega)) (Below.refl _ _) (Nat.le_refl _) ?_; intro v221 w4 ho5 hb hg_ hnew_; clear hg_ hnew_; (first | rw [← Ny220.out] at ho5 | (simp only [Int.reduceToNat] at ho5; rw [← Ny220.out] at ho5)); have n0_ := Aside0.mk (Kd.S_lower ho5 (below_size (by repeat (first | (with_reducible first | exact HB.out | apply below_alloc | apply pw_below_drewN | apply below_drew1) | exact HB.out)))); have n1_ := Aside0.mk (below_step (by repeat (first | (with_reducible first | exact HB.out | apply below_alloc | apply pw_below_drewN | apply below_drew1) | exact HB.out)) hb); clear HB; have HO222 := n0_; have HB := n1_; clear n0_ n1_; clear hb ho5))
      go_loopg [4] k (fun kq v4 w' => ∃ (x3_1 : List (List Int)) (x4_1 : Int), v4 = .int .i64 x4_1 ∧ Aside0 (laws_toIntSS.l0 kq l0 x3_1 x4_1 = some r) ∧ Aside0 (kq ≤ k) ∧ Aside0 (Kd.S (Kd.slice 3 (Kd.int .i64)) 24 w' w.heap.size (fun _ => True) v221 x3_1) ∧ Aside0 (Below w.heap.size w w'))
      case atStart => exact ⟨(y220), (0), (by first | rfl | (simp; done) | (simp [*]; done)), H', ⟨Nat.le_refl _⟩, ⟨by (with_reducible repeat (first | apply Kd.S_alloc | apply Kd.S_drewN | apply Kd.S_drew)); exact HO222.out⟩, ⟨by repeat (first | (with_reducible first | exact HB.out | apply below_alloc | apply pw_below_drewN | apply below_drew1) | exact HB.out)⟩⟩
      case round =>
        clear H'
        try clear c2
        try clear c2b0
        try clear c2b1
        try clear p2
        try clear c3
        try clear c3b0
        try clear c3b1
        obtain ⟨x3_1, x4_1, rfl, HA, HK1, HO_3, HB⟩ := hrel
        cases gk with
        | zero => exact absurd HA.out (by simp [laws_toIntSS.l0])
        | succ k1 =>
          have H := HA.out
          clear HA
          simp only [laws_toIntSS.l0] at H
          by_cases c6 : x4_1 < (l0.length : Int)
          · rw [if_pos c6] at H
            have c6b0 : decide (x4_1 < (l0.length : Int)) = true := decide_eq_true c6
            clear c6
            by_cases c7 : 0 ≤ x4_1
            · rw [if_pos c7] at H
              have c7b0 : decide (0 ≤ x4_1) = true := decide_eq_true c7
              clear c7
              replace H := Option.bind_eq_some_iff.mp H
              obtain ⟨t224, A80, H⟩ := H
              replace H : (if x4_1 < (x3_1.length : Int) then (laws_toIntSS.l0 k1 l0 (x3_1.set (x4_1 : Int).toNat t224) (wrap64 (x4_1 + 1))) else (none)) = some r := H
              have A8 := Aside0.mk A80
              clear A80
              by_cases c9 : x4_1 < (x3_1.length : Int)
              · rw [if_pos c9] at H
                have c9b0 : decide (x4_1 < (x3_1.length : Int)) = true := decide_eq_true c9
                clear c9
                obtain ⟨y227, hy227⟩ : ∃ y_ : List (List Int), y_ = (x3_1.set (x4_1 : Int).toNat t224) := ⟨_, rfl⟩
                replace H : (laws_toIntSS.l0 k1 l0 y227 (wrap64 (x4_1 + 1))) = some r := by first | (rw [hy227]; with_reducible exact H) | (have H2_ := (Option.bind_some _ _).symm.trans H; rw [hy227]; with_reducible exact H2_) | (have H2_ := (Option.bind_some _ _).symm.trans H; with_reducible exact H2_) | with_reducible exact H | (rw [hy227]; exact H) | exact H
                have Ny227 := Aside0.mk hy227
                clear hy227
                have H' := Aside0.mk H
                clear H
                have p223 : 0 ≤ (x4_1 : Int) := of_decide_eq_true (by first | (with_reducible assumption) | assumption)
                have q223 : x4_1 < (l0.length : Int) := of_decide_eq_true (by first | (with_reducible assumption) | assumption)
                obtain ⟨ad223, A223_0, c223_0, e223, hx223_0, hl223_0, hi223_0⟩ := at_L1 HR0.out x4_1 p223 q223
                cases e223
                replace hx223_0 := (HB.out.cell (World.block_lt_of_cell? w _ hx223_0)).trans hx223_0
                have HR223_0 := Aside0.mk hi223_0
                have HC223_0 := Aside0.mk hl223_0
                clear hi223_0 hl223_0
                replace p223 := eq_true p223
                replace q223 := eq_true q223
                go_wp2_with (first | ((with_reducible refine gate_callee (f := 20) rfl ?_); refine goesL_ (some 20) rfl rfl Try.func20 (by kernel_rfl) rfl #[.slice A223_0 (rd_L1 l0 x4_1).length c223_0] rfl (by (try simp only [List.map_toArray, List.map_cons, List.map_nil]); first | done | rfl | (simp only [List.length_drop, List.length_take]; rfl)) ?_; (with_reducible refine (laws_toIntS.calls k1 _ _ (rd_L1 l0 x4_1) t224 _ ?side1 ?side2 A8.out).mono ?_); (case side1 => repeat (first | exact (Kd.C_below HR223_0.out HB.out) | (with_reducible refine Kd.C_alloc ?_ _) | (with_reducible refine Kd.C_drewN ?_ _) | (with_reducible refine Kd.C_drew ?_))); (case side2 => exact HC223_0.out); rintro e w11 ⟨v225, rfl, ho0, hb⟩; obtain ⟨Aq_, cq_, eq_⟩ := Kd.R_slice ho0; subst eq_; refine ⟨_, rfl, ?_⟩; have n0_ := Aside0.mk (Kd.S_elder' (by (with_reducible repeat (first | apply Kd.S_alloc | apply Kd.S_drewN | apply Kd.S_drew)); exact HO_3.out) (Kd.R_base ho0) hb); have n1_ := Aside0.mk (Kd.R_lower ho0 (below_size (by repeat (first | (with_reducible first | exact HB.out | apply below_alloc | apply pw_below_drewN | apply below_drew1) | exact HB.out)))); have n2_ := Aside0.mk (below_step (by repeat (first | (with_reducible first | exact HB.out | apply below_alloc | apply pw_below_drewN | apply below_drew1) | exact HB.out)) hb); clear HO_3; clear HB; have HO_3 := n0_; have HO226 := n1_; have HB := n2_; clear n0_ n1_ n2_; (try clear hb); (try clear hb2); (try clear hk); (try clear hi); (try clear ho0); have p10 : 0 ≤ (x4_1 : Int) := of_decide_eq_true (by first | (with_reducible assumption) | assumption); have q10 : (x4_1 : Int) < ((x3_1.length : Int) : Int) := of_decide_eq_true (by first | (with_reducible assumption) | assumption); obtain ⟨go10, co10, eo10, gb10, gl10, cl10, HG10⟩ := Kd.S_form HO_3.out (by omega); (first | cases eo10 | (injection eo10 with ea_ en_ ec_; (first | subst ea_ | (injection ea_ with ea_; subst ea_)); subst ec_; clear en_)); have GB10 := Aside0.mk gb10; have GG10 := Aside0.mk HG10; clear gb10 gl10 HG10; obtain ⟨_, ce10, hcl10, hM10, hcc10, hfr10, _, _⟩ := Kd.S_elem HO_3.out [] (x4_1 : Int) p10 q10; obtain ⟨ve10_0, rfl, ge10_0⟩ := hM10; have hx10_0 := hcc10 0 _ rfl; have hf10_0 := hfr10 0; (try simp only [show ((Kd.slice 3 (Kd.int .i64))).sz = 1 from rfl, Nat.mul_one, Nat.add_zero] at hx10_0); (try simp only [show ((Kd.slice 3 (Kd.int .i64))).sz = 1 from rfl, Nat.mul_one, Nat.add_zero] at hf10_0); clear hcl10 hcc10 hfr10; (try clear hM10); replace p10 := eq_true p10; replace q10 := eq_true q10; have n_ := Aside0.mk (Kd.S_mono (ok' := (fun k_ => some k_ ≠ ((.slice Aq_ t224.length cq_ : Value) : Value).ownBlock)) HO_3.out (fun k_ hk => hk.2)); clear HO_3; have HO_3 := n_; clear n_; have HX12 := Aside0.mk (show Kd.S (Kd.slice 3 (Kd.int .i64)) 24 w11 w.heap.size (fun k_ => ((fun _ => True)) k_ ∧ ¬ ((fun k_ => some k_ = ((.slice Aq_ t224.length cq_ : Value) : Value).ownBlock)) k_) (.slice (some ⟨go10, 0, none⟩) x3_1.length co10) x3_1 from (by (with_reducible repeat (first | apply Kd.S_alloc | apply Kd.S_drewN | apply Kd.S_drew)); exact Kd.S_mono HO_3.out (fun k_ hk => ⟨trivial, fun e_ => hk e_⟩))); obtain ⟨oki12, ce12, hcl12, hM12, hcc12, hfr12, hoki12, hH12⟩ := Kd.S_elem HX12.out [] (x4_1 : Int) (of_decide_eq_true (by first | (with_reducible assumption) | assumption)) (by have h_ : (x4_1 : Int) < ((x3_1.length : Int) : Int) := of_decide_eq_true (by first | (with_reducible assumption) | assumption); first | exact h_ | (have e_ := (Kd.S_reads' HO_3.out).1; omega) | simpa using h_); obtain ⟨ve12_0, rfl, ge12_0⟩ := hM12; have HP12 := Kd.S_seg hH12 (of_decide_eq_true (by first | (with_reducible assumption) | assumption)) (by have h_ : (x4_1 : Int) < ((x3_1.length : Int) : Int) := of_decide_eq_true (by first | (with_reducible assumption) | assumption); first | exact h_ | (have e_ := (Kd.S_reads' HO_3.out).1; omega) | simpa using h_) (seg := [(.slice Aq_ t224.length cq_ : Value)]) (j := 0) (show 1 ≤ 1 from by decide) (x' := t224) (Kd.M_row (Kd.R_mono (Kd.R_tight rfl (Kd.R_mono (ok' := fun k_ => ((fun _ => True)) k_ ∧ k_ ≠ go10) (Kd.R_apart' (HO226.out) (Kd.S_typed HO_3.out) (by decide)) (fun k_ hk => ⟨trivial, fun e_ => (hk.2) (by rw [e_]; rfl)⟩))) (fun _ h_ => Or.inr (h_)))) (fun _ hk => hk) (fun k_ hk_ => ((Kd.R_mono (ok' := fun k_ => ((fun _ => True)) k_ ∧ k_ ≠ go10) (Kd.R_apart' (HO226.out) (Kd.S_typed HO_3.out) (by decide)) (fun k_ hk => ⟨trivial, fun e_ => (hk.2) (by rw [e_]; rfl)⟩))).1 k_ hk_.symm); have hx12_0 := hcc12 0 _ rfl; (try simp only [show ((Kd.slice 3 (Kd.int .i64))).sz = 1 from rfl, Nat.mul_one, Nat.add_zero] at hx12_0); have hf12_0 := hfr12 0; (try simp only [show ((Kd.slice 3 (Kd.int .i64))).sz = 1 from rfl, Nat.mul_one, Nat.add_zero] at hf12_0); clear hcl12 hcc12 hfr12 hoki12 hH12; (try clear hM12); (try simp only [show ((Kd.slice 3 (Kd.int .i64))).sz = 1 from rfl, Nat.mul_one, Nat.add_zero] at HP12)) | ((with_reducible refine gate_store (t := 24) (p := 21) rfl ?_); refine store_event (t := 24) (p := 21) (v := ?vo_w13) (w1 := (w11.setCell ⟨go10, (x4_1 : Int).toNat, none⟩ ((.slice Aq_ t224.length cq_ : Value)))) ?hg ?ho ?hn ?hr ?_; (case ho => rfl); (case hg => rfl); (case hn => rfl); (case hr => first | (go_simp; done) | (go_simp; rfl)); intro w13 hw; have hg : w11.grownBy w13 (some go10) := (by rw [hw]; exact HP12.2); have hp_ : Kd.S (Kd.slice 3 (Kd.int .i64)) 24 w13 w.heap.size (fun _ => True) (.slice (some ⟨go10, 0, none⟩) x3_1.length co10) y227 := (by rw [hw, Ny227.out]; exact HP12.1); clear HP12; have n0_ := Aside0.mk (hp_); have n1_ := Aside0.mk ((by rw [hw]; exact below_set (HB.out) GB10.out : Below w.heap.size w w13)); clear HO_3; clear HB; clear HO226; have HO_3 := n0_; have HB := n1_; clear n0_ n1_; clear hg hw hp_))
                go_roundg k1
                case measure => have := HK1.out; omega
                case rel => exact ⟨(y227), (wrap64 (x4_1 + 1)), (by first | rfl | (simp; done) | (simp [*]; done)), H', ⟨by have := HK1.out; omega⟩, ⟨by (with_reducible repeat (first | apply Kd.S_alloc | apply Kd.S_drewN | apply Kd.S_drew)); exact HO_3.out⟩, ⟨by repeat (first | (with_reducible first | exact HB.out | apply below_alloc | apply pw_below_drewN | apply below_drew1) | exact HB.out)⟩⟩
              · rw [if_neg c9] at H
                exact absurd H (by simp)
            · rw [if_neg c7] at H
              exact absurd H (by simp)
          · rw [if_neg c6] at H
            have c6b0 : decide (x4_1 < (l0.length : Int)) = false := decide_eq_false c6
            clear c6
            obtain rfl := Option.some.inj H
            go_wp2
            go_ret
            exact ⟨_, by first | rfl | (simp [errW_none, errW_some] <;> rfl) | (simp [*, errW_none, errW_some] <;> rfl), by (with_reducible repeat (first | apply Kd.S_alloc | apply Kd.S_drewN | apply Kd.S_drew)); exact HO_3.out, by repeat (first | (with_reducible first | exact HB.out | apply below_alloc | apply pw_below_drewN | apply below_drew1) | exact HB.out)⟩
    · rw [if_neg c3] at H
      exact absurd H (by simp)
  · rw [if_neg c2] at H
    exact absurd H (by simp)

/-! ### impl_within: function 35 -/
def impl_within.f (a0 : Int) (a1 : Int) (a2 : Int) : Option (Bool) := if a0 ≥ a1 then (some (decide (a0 ≤ a2))) else (some false)
set_option maxHeartbeats 8000000 in
set_option maxRecDepth 100000 in
theorem impl_within.calls (a0 : Int) (a1 : Int) (a2 : Int) (r : Bool) (w : World) (h : impl_within.f a0 a1 a2 = some r) :
    Calls Try.prog 35 #[.int .i64 a0, .int .i64 a1, .int .i64 a2] w fun e w' => e = .returned (.bool r) ∧ Drawn0 w w' := by
  have H : (if a0 ≥ a1 then (some (decide (a0 ≤ a2))) else (some false)) = some r := h
  clear h
  by_cases c4 : a0 ≥ a1
  · rw [if_pos c4] at H
    have c4b0 : decide (a1 ≤ a0) = true := decide_eq_true c4
    clear c4
    obtain rfl := Option.some.inj H
    go_enter Try.func35, Try.ntmps35
    go_wp2
    go_ret
    exact ⟨by first | rfl | (simp; done) | (simp [*]; done), by repeat (first | exact Drawn0.refl _ | apply Drawn0.step)⟩
  · rw [if_neg c4] at H
    have c4b0 : decide (a1 ≤ a0) = false := decide_eq_false c4
    clear c4
    obtain rfl := Option.some.inj H
    go_enter Try.func35, Try.ntmps35
    go_wp2
    go_ret
    exact ⟨by first | rfl | (simp; done) | (simp [*]; done), by repeat (first | exact Drawn0.refl _ | apply Drawn0.step)⟩

end Go.Proofs.Ytnfaejmmbldaeaa.PFnExactGenusRow
