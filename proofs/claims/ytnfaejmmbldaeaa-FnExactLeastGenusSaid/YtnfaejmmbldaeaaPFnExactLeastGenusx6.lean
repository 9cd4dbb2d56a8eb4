-- written by a copy of the print that takes contracts by hand (stubprint.py)
import Derived.Test.YtnfaejmmbldaeaaPFnExactLeastGenusx0
import Derived.Test.YtnfaejmmbldaeaaPFnExactLeastGenusx1
import Derived.Test.YtnfaejmmbldaeaaPFnExactLeastGenusx3
import Derived.Test.YtnfaejmmbldaeaaPFnExactLeastGenusx5
namespace Go.Proofs.Ytnfaejmmbldaeaa.PFnExactLeastGenus
open Go.RowKit Go.Proofs.YtnfaejmmbldaeaaW.PrintWords Go.Proofs.YtnfaejmmbldaeaaW.PrintLast Go.Proofs.YtnfaejmmbldaeaaW.PrintMore
attribute [local go_sem] max2_int min2_int max_two min_two max_three min_three max_four min_four   -- for this text's walks alone
set_option linter.unusedVariables false
set_option linter.unusedSimpArgs false

/-! ### spec_GenusRow: function 6 -/
/-- one more of genus n -/
def spec_GenusRow.bump (row : List Int) (n : Int) : Option (List Int) :=
  if 0 ≤ n ∧ n < 1000000 ∧ row.length < 1000000 then some ((row ++ List.replicate (n.toNat + 1 - row.length) 0).set n.toNat (wrap64 (rd (row ++ List.replicate (n.toNat + 1 - row.length) 0) n + 1))) else none
def spec_GenusRow.cL (ring : List Int → List Int → Option (List Int)) (run : List Int → List Int → Option (List Int × List Int)) (os : List (List Int)) : Nat → Nat → List Int → List Int → Option (List Int × List Int)
  | 0, _, m, row => some (m, row)
  | c + 1, i, m, row => (ring m (rd_L1 os (i : Int))).bind fun m' => (run m' row).bind fun st => spec_GenusRow.cL ring run os c (i + 1) st.1 st.2
def spec_GenusRow.cF (k : Nat) (g : List (List Int)) : Nat → Int → List Int → List Int → Option (List Int × List Int)
  | 0, _, m, row => (spec_l6Genus.f k m).bind fun n => (spec_GenusRow.bump row n).bind fun row' => some (m, row')
  | c + 1, v, m, row => (spec_l7Darts.f k g v).bind fun ds => (spec_l7Orders.f k ds).bind fun os => if os.length < 1000000 then spec_GenusRow.cL (spec_l7Ring.f k) (fun m row => spec_GenusRow.cF k g c (v + 1) m row) os os.length 0 m row else none
def spec_GenusRow.f (k : Nat) (l0 : List (List Int)) : Option (List Int) := (spec_CountRotations.f k l0).bind fun n => (spec_l1In.f n 1 2000).bind fun t => if t = true then (if l0.length < 1000000 then (spec_GenusRow.cF k l0 7 0 (List.replicate (2 * l0.length) 0) []).bind fun st => some st.2 else none) else some []
theorem spec_GenusRow.mono_cL {ring ring' : List Int → List Int → Option (List Int)} {run run' : List Int → List Int → Option (List Int × List Int)} (h : ∀ a b, LeO (ring a b) (ring' a b)) (h' : ∀ a b, LeO (run a b) (run' a b)) (os : List (List Int)) : ∀ c i m row, LeO (spec_GenusRow.cL ring run os c i m row) (spec_GenusRow.cL ring' run' os c i m row)
  | 0, _, _, _ => LeO.refl _
  | c + 1, i, m, row => LeO.bind (h _ _) fun _ => LeO.bind (h' _ _) fun _ => spec_GenusRow.mono_cL h h' os c _ _ _
theorem spec_GenusRow.mono_cF (k : Nat) (g : List (List Int)) : ∀ c v m row, LeO (spec_GenusRow.cF k g c v m row) (spec_GenusRow.cF (k + 1) g c v m row)
  | 0, v, m, row => by
    rw [spec_GenusRow.cF, spec_GenusRow.cF]
    exact LeO.bind (spec_l6Genus.mono _ _) fun _ => LeO.refl _
  | c + 1, v, m, row => by
    rw [spec_GenusRow.cF, spec_GenusRow.cF]
    exact LeO.bind (spec_l7Darts.mono _ _ _) fun _ => LeO.bind (spec_l7Orders.mono _ _) fun _ => LeO.ite (spec_GenusRow.mono_cL (fun _ _ => spec_l7Ring.mono _ _ _) (fun _ _ => spec_GenusRow.mono_cF k g c _ _ _) _ _ _ _ _) (LeO.refl _)
theorem spec_GenusRow.mono : ∀ a0 k, LeO (spec_GenusRow.f k a0) (spec_GenusRow.f (k + 1) a0) := by
  intro a0 k
  unfold spec_GenusRow.f
  exact LeO.bind (spec_CountRotations.mono _ _) fun _ => LeO.bind (LeO.refl _) fun _ => LeO.ite (LeO.ite (LeO.bind (spec_GenusRow.mono_cF _ _ _ _ _ _) fun _ => LeO.refl _) (LeO.refl _)) (LeO.refl _)
/-- the memory while rotations are counted: m at block mb, the row apart; D: blocks that are not touched -/
structure spec_GenusRow.SI (w0 : World) (mb : Nat) (D : Nat → Prop) (vm : Value) (m : List Int) (vr : Value) (row : List Int) (W : World) : Prop where
  bel : Below w0.heap.size w0 W
  dom : ∀ b, D b → b < W.heap.size ∧ w0.heap.size ≤ b
  nd : ¬ D mb
  lo : w0.heap.size ≤ mb
  hi : mb < W.heap.size
  hM : Kd.R (Kd.int .i64) 3 W w0.heap.size (fun b => b = mb) vm m
  hR : Kd.R (Kd.int .i64) 3 W w0.heap.size (fun b => ¬ D b ∧ b ≠ mb) vr row
theorem spec_GenusRow.SI.step {w0 : World} {mb : Nat} {D : Nat → Prop} {vm : Value} {m : List Int} {vr : Value} {row : List Int} {W W' : World} (h : spec_GenusRow.SI w0 mb D vm m vr row W) (hb : Below W.heap.size W W') : spec_GenusRow.SI w0 mb D vm m vr row W' :=
  { bel := below_step h.bel hb
    dom := fun b q => ⟨Nat.lt_of_lt_of_le (h.dom b q).1 hb.size, (h.dom b q).2⟩
    nd := h.nd
    lo := h.lo
    hi := Nat.lt_of_lt_of_le h.hi hb.size
    hM := Kd.R_below h.hM hb
    hR := Kd.R_below h.hR hb }
theorem spec_GenusRow.SI.gr {w0 : World} {mb : Nat} {D D' : Nat → Prop} {vm : Value} {m : List Int} {vr : Value} {row : List Int} {W W' : World} (h : spec_GenusRow.SI w0 mb D vm m vr row W) (hb : Below W.heap.size W W') (hd : ∀ b, D' b → D b ∨ (W.heap.size ≤ b ∧ b < W'.heap.size)) : spec_GenusRow.SI w0 mb D' vm m vr row W' :=
  { bel := below_step h.bel hb
    dom := fun b q => by
      rcases hd b q with q | ⟨q1, q2⟩
      · exact ⟨Nat.lt_of_lt_of_le (h.dom b q).1 hb.size, (h.dom b q).2⟩
      · exact ⟨q2, Nat.le_trans h.bel.size q1⟩
    nd := fun q => by
      rcases hd _ q with q | ⟨q1, _⟩
      · exact h.nd q
      · have := h.hi; omega
    lo := h.lo
    hi := Nat.lt_of_lt_of_le h.hi hb.size
    hM := Kd.R_below h.hM hb
    hR := Kd.R_below (Kd.R_mono (Kd.R_bound h.hR) (fun k hk => ⟨fun q => by
      rcases hd _ q with q | ⟨q1, _⟩
      · exact hk.1.1 q
      · have := hk.2.2.1; omega, hk.1.2⟩)) hb }
theorem spec_GenusRow.SI.grown {w0 : World} {mb : Nat} {D : Nat → Prop} {vm : Value} {m : List Int} {vr vr' : Value} {row row' : List Int} {W W' : World} (h : spec_GenusRow.SI w0 mb D vm m vr row W) (hg : W.grownBy W' vr.ownBlock) (hb : Below w0.heap.size w0 W') (hR : Kd.R (Kd.int .i64) 3 W' w0.heap.size (fun b => ¬ D b ∧ b ≠ mb) vr' row') : spec_GenusRow.SI w0 mb D vm m vr' row' W' ∧ W.heap.size ≤ W'.heap.size ∧ ∀ b, D b → b < W.heap.size → W'.heap[b]? = W.heap[b]? :=
  ⟨{ bel := hb
     dom := fun b q => ⟨Nat.lt_of_lt_of_le (h.dom b q).1 hg.size, (h.dom b q).2⟩
     nd := h.nd
     lo := h.lo
     hi := Nat.lt_of_lt_of_le h.hi hg.size
     hM := Kd.R_grown h.hM hg (fun k hk e => (h.hR.1 k e.symm).2 hk)
     hR := hR }, hg.size, fun b hd hb => hg.block b hb (fun e => (h.hR.1 b e.symm).1 hd)⟩
theorem spec_GenusRow.SI.putRow {w0 : World} {mb : Nat} {D : Nat → Prop} {vm : Value} {m : List Int} {g L cap : Nat} {row : List Int} {W : World} (h : spec_GenusRow.SI w0 mb D vm m (.slice (some ⟨g, 0, none⟩) L cap) row W) (hL : L = row.length) (i : Nat) (x : Int) : spec_GenusRow.SI w0 mb D vm m (.slice (some ⟨g, 0, none⟩) L cap) (row.set i x) (W.setCell ⟨g, i, none⟩ (.int .i64 x)) ∧ W.heap.size ≤ (W.setCell ⟨g, i, none⟩ (.int .i64 x)).heap.size ∧ ∀ b, D b → b < W.heap.size → (W.setCell ⟨g, i, none⟩ (.int .i64 x)).heap[b]? = W.heap[b]? := by
  subst hL
  have hp := (Kd.R_put (enc := Value.int .i64) (h1 := fun _ => rfl) h.hR (i : Int) x)
  rw [Int.toNat_natCast] at hp
  have hg : w0.heap.size ≤ g := Kd.R_base h.hR g rfl
  exact h.grown hp.2 (below_set h.bel hg) hp.1
theorem spec_GenusRow.SI.setM {w0 : World} {mb : Nat} {D : Nat → Prop} {vm : Value} {m m' : List Int} {vr : Value} {row : List Int} {W W' : World} (h : spec_GenusRow.SI w0 mb D vm m vr row W) (hb : Below w0.heap.size w0 W') (hk : Kept W W' (fun b => b = mb)) (hM : Kd.R (Kd.int .i64) 3 W' w0.heap.size (fun b => b = mb) vm m') : spec_GenusRow.SI w0 mb D vm m' vr row W' ∧ W.heap.size ≤ W'.heap.size ∧ ∀ b, D b → b < W.heap.size → W'.heap[b]? = W.heap[b]? :=
  ⟨{ bel := hb
     dom := fun b q => ⟨Nat.lt_of_lt_of_le (h.dom b q).1 hk.1, (h.dom b q).2⟩
     nd := h.nd
     lo := h.lo
     hi := Nat.lt_of_lt_of_le h.hi hk.1
     hM := hM
     hR := Kd.R_step h.hR (fun k q hlt => hk.2 k hlt q.2) }, hk.1, fun b hd hb => hk.2 b hb (fun e => h.nd (e ▸ hd))⟩
/-- what counting owes -/
def spec_GenusRow.Po (w0 : World) (mb : Nat) (D : Nat → Prop) (vm : Value) (m' row' : List Int) (W : World) (e : Ending) (W' : World) : Prop :=
  ∃ vr', e = .returned vr' ∧ spec_GenusRow.SI w0 mb D vm m' vr' row' W' ∧ W.heap.size ≤ W'.heap.size ∧ ∀ b, D b → b < W.heap.size → W'.heap[b]? = W.heap[b]?
set_option maxHeartbeats 16000000 in
set_option maxRecDepth 100000 in
theorem spec_GenusRow.count (k : Nat) (w0 : World) (mb : Nat) (A0 : Option Addr) (c0 : Nat) (l0 : List (List Int)) (hr0 : Kd.C (Kd.slice 3 (Kd.int .i64)) w0 A0 l0.length l0) (hc0 : l0.length ≤ c0) : ∀ (c : Nat) (v : Int) (D : Nat → Prop) (vm vr : Value) (m row m' row' : List Int) (W : World), v + (c : Int) = 7 → 0 ≤ v →
    spec_GenusRow.cF k l0 c v m row = some (m', row') → spec_GenusRow.SI w0 mb D vm m vr row W →
    Calls Try.prog 19 #[.slice A0 l0.length c0, .int .i64 v, vm, vr] W (spec_GenusRow.Po w0 mb D vm m' row' W) := by
  have HR0 := Aside0.mk hr0
  have HC0 := Aside0.mk hc0
  clear hr0 hc0
  intro c
  induction c with
  | zero =>
    intro v D vm vr m row m' row' W hv h0 h H
    obtain rfl : v = 7 := by omega
    rw [spec_GenusRow.cF] at h
    obtain ⟨n, hn, h⟩ := Option.bind_eq_some_iff.mp h
    obtain ⟨row2, hb, h⟩ := Option.bind_eq_some_iff.mp h
    obtain ⟨rfl, rfl⟩ := Prod.mk.inj (Option.some.inj h)
    obtain ⟨Am, cm, rfl⟩ := Kd.R_slice H.hM
    obtain ⟨Ar, cr, rfl⟩ := Kd.R_slice H.hR
    have HN := Aside0.mk hn
    have HB := Aside0.mk hb
    have HS := Aside0.mk H
    clear hn hb h H
    go_enter Try.func19, Try.ntmps19
    go_wp2_with fail
    (go_at_call 31; (with_reducible refine (spec_l6Genus.calls k Am cm m n _ (Kd.R_reads' HS.out.hM).2.2 (Kd.R_reads' HS.out.hM).2.1 HN.out).mono ?_))
    rintro e w1 ⟨rfl, hb⟩
    have HB1 := Aside0.mk hb
    have HS1 := Aside0.mk (HS.out.step hb)
    clear hb HN
    have hbm := HB.out
    unfold spec_GenusRow.bump at hbm
    by_cases hc : 0 ≤ n ∧ n < 1000000 ∧ row.length < 1000000
    · rw [if_pos hc] at hbm
      have hbm := Option.some.inj hbm
      have HC := Aside0.mk hc
      have HBM := Aside0.mk hbm
      clear hbm hc HB
      go_wp2
      go_loopg [3] (n.toNat + 2) (fun kq v3 w' => ∃ (i : Nat), Aside0 (i ≤ n.toNat + 1 - row.length ∧ n.toNat + 1 - row.length - i < kq) ∧ Aside0 (spec_GenusRow.SI w0 mb D (.slice Am m.length cm) m v3 (row ++ List.replicate i 0) w') ∧ Aside0 (W.heap.size ≤ w'.heap.size ∧ ∀ b, D b → b < W.heap.size → w'.heap[b]? = W.heap[b]?))
      case atStart => exact ⟨0, ⟨by omega⟩, by rw [List.replicate_zero, List.append_nil]; exact HS1, ⟨HB1.out.size, fun b _ hb => HB1.out.block b hb⟩⟩
      case round =>
        clear HS1
        obtain ⟨i, HI, HS1, HK⟩ := hrel
        obtain ⟨y, hy⟩ : ∃ y, y = row ++ List.replicate i 0 := ⟨_, rfl⟩
        have hyl : y.length = row.length + i := by rw [hy]; simp
        have HY := Aside0.mk hy
        have HYL := Aside0.mk hyl
        have HS2 := Aside0.mk (show spec_GenusRow.SI w0 mb D (.slice Am m.length cm) m u3 y wr by rw [hy]; exact HS1.out)
        clear HS1 hy
        obtain ⟨Av, cv, hv3⟩ := Kd.R_slice HS2.out.hR
        subst hv3
        by_cases c1 : i < n.toNat + 1 - row.length
        · have c1b0 : decide ((y.length : Int) ≤ n) = true := decide_eq_true (by have := HC.out; omega)
          clear hyl
          have hl8 : (y.length + 1) * 8 ≤ 140737488355328 := by have := HYL.out; have := HC.out; omega
          have HF : Aside0 (∀ k, wr.heap.size ≤ k → ¬ D k ∧ k ≠ mb) := ⟨fun k hk => ⟨fun q => by have := (HS2.out.dom k q).1; omega, by have := HS2.out.hi; omega⟩⟩
          go_wp2_with (first | ((with_reducible refine gate_builtin (b := .append) (xs := #[.tmp 20, .tmp 21]) rfl ?_); at_builtin; refine Kd.R_append (Kd.int .i64) (w0 := w0) w0.heap.size rfl (.tmp 20) (.tmp 21) 24 3 (.int .i64 0) 8 rfl Try.underlying24 info3 rfl (by decide) (by omega) (.slice Av y.length cv) y 0 [.int .i64 0] (fun b => ¬ D b ∧ b ≠ mb) (fun _ => False) rfl rfl rfl (fun _ hk => hk.elim) HF.out HS2.out.hR HS2.out.bel HS2.out.bel.size hl8 ?_; intro v4 w4 hR4 hB4 hG4 _; have HS4 := Aside0.mk (HS2.out.grown hG4 hB4 hR4); clear hR4 hB4 hG4))
          go_roundg (n.toNat + 1 - row.length - i)
          case measure => have := HI.out; omega
          case rel => exact ⟨i + 1, ⟨by omega⟩, ⟨by rw [List.replicate_succ', ← List.append_assoc, ← HY.out]; exact HS4.out.1⟩, ⟨Nat.le_trans HK.out.1 HS4.out.2.1, fun b hd hb => (HS4.out.2.2 b hd (Nat.lt_of_lt_of_le hb HK.out.1)).trans (HK.out.2 b hd hb)⟩⟩
        · have c1b0 : decide ((y.length : Int) ≤ n) = false := decide_eq_false (by have := HC.out; omega)
          obtain rfl : i = n.toNat + 1 - row.length := by have := HI.out; omega
          have hny : n.toNat < y.length := by omega
          obtain ⟨g, capg, e0, -, -, -⟩ := Kd.R_form HS2.out.hR (by omega)
          injection e0 with e1 _ e3
          subst e1 e3
          have hrow2 : row2 = y.set n.toNat (wrap64 (rd y n + 1)) := by rw [← HBM.out, ← HY.out]
          have HR2 := Aside0.mk hrow2
          obtain ⟨hx, hf⟩ := Kd.R_celln 0 HS2.out.hR n HC.out.1 (by have := HC.out; omega)
          replace hx : wr.cell? ⟨g, n.toNat, none⟩ = some (.int .i64 (rd y n)) := hx
          have HS3 := Aside0.mk (HS2.out.putRow rfl n.toNat (wrap64 (rd y n + 1)))
          have p1 : (0 ≤ n) = True := eq_true HC.out.1
          have q1 : (n < (y.length : Int)) = True := eq_true (by have := HC.out; omega)
          clear hyl hrow2 c1 hny
          go_wp2
          go_ret
          exact ⟨_, rfl, by rw [HR2.out]; exact HS3.out.1, Nat.le_trans HK.out.1 HS3.out.2.1, fun b hd hb => (HS3.out.2.2 b hd (Nat.lt_of_lt_of_le hb HK.out.1)).trans (HK.out.2 b hd hb)⟩
    · rw [if_neg hc] at hbm
      exact absurd hbm (by simp)
  | succ c ih =>
    intro v D vm vr m row m' row' W hv h0 h H
    rw [spec_GenusRow.cF] at h
    obtain ⟨ds, hd, h⟩ := Option.bind_eq_some_iff.mp h
    obtain ⟨os, ho, h⟩ := Option.bind_eq_some_iff.mp h
    by_cases hl : os.length < 1000000
    · rw [if_pos hl] at h
      obtain ⟨Am, cm, rfl⟩ := Kd.R_slice H.hM
      obtain ⟨Ar, cr, rfl⟩ := Kd.R_slice H.hR
      have HD := Aside0.mk hd
      have HO := Aside0.mk ho
      have HH := Aside0.mk h
      have HS := Aside0.mk H
      have HL := Aside0.mk hl
      have IH := Aside0.mk ih
      have hv7 : (v == 7) = false := beq_eq_false_iff_ne.2 (by omega)
      clear hd ho h H hl ih
      go_enter Try.func19, Try.ntmps19
      go_wp2_with fail
      (go_at_call 33; (with_reducible refine (spec_l7Darts.calls k A0 c0 l0 v ds _ (Kd.C_below HR0.out HS.out.bel) HC0.out HD.out).mono ?_))
      rintro e w1 ⟨vd, rfl, hd1, hb1⟩
      obtain ⟨Ad, cd, rfl⟩ := Kd.R_slice hd1
      have HD1 := Aside0.mk hd1
      have HB1 := Aside0.mk hb1
      clear hd1 hb1 HD
      go_wp2_with fail
      (go_at_call 32; (with_reducible refine (spec_l7Orders.calls k Ad cd ds os _ (Kd.R_reads' HD1.out).2.2 (Kd.R_reads' HD1.out).2.1 HO.out).mono ?_))
      rintro e w2 ⟨vo, rfl, ho2, hb2⟩
      obtain ⟨Ao, co, rfl⟩ := Kd.S_slice ho2
      have hb12 := below_step HB1.out hb2
      have HS2 := Aside0.mk (HS.out.gr (D' := fun b => D b ∨ (W.heap.size ≤ b ∧ b < w2.heap.size)) hb12 (fun b q => q))
      have HO2 := Aside0.mk (show Kd.R (Kd.slice 3 (Kd.int .i64)) 24 w2 w0.heap.size (fun b => D b ∨ (W.heap.size ≤ b ∧ b < w2.heap.size)) (.slice Ao os.length co) os from Kd.R_lower (Kd.R_mono (Kd.R_bound (Kd.S_R ho2)) (fun q hq => .inr ⟨Nat.le_trans HB1.out.size hq.2.1, hq.2.2.1⟩)) (Nat.le_trans HS.out.bel.size HB1.out.size))
      have HK2 := Aside0.mk (show W.heap.size ≤ w2.heap.size ∧ ∀ b, D b → b < W.heap.size → w2.heap[b]? = W.heap[b]? from ⟨hb12.size, fun b _ hb => hb12.block b hb⟩)
      clear ho2 hb2 hb12 HB1 HD1 HO
      go_wp2
      go_loopg [3, 11] (os.length + 1) (fun kq v3 v11 w' => ∃ (i : Nat) (m1 row1 : List Int), v11 = .int .i64 (i : Int) ∧ Aside0 (spec_GenusRow.cL (spec_l7Ring.f k) (fun m row => spec_GenusRow.cF k l0 c (v + 1) m row) os (os.length - i) i m1 row1 = some (m', row')) ∧ Aside0 (i ≤ os.length ∧ os.length - i < kq) ∧ Aside0 (spec_GenusRow.SI w0 mb (fun b => D b ∨ (W.heap.size ≤ b ∧ b < w2.heap.size)) (.slice Am m.length cm) m1 v3 row1 w') ∧ Aside0 (Kd.R (Kd.slice 3 (Kd.int .i64)) 24 w' w0.heap.size (fun b => D b ∨ (W.heap.size ≤ b ∧ b < w2.heap.size)) (.slice Ao os.length co) os) ∧ Aside0 (W.heap.size ≤ w'.heap.size ∧ ∀ b, D b → b < W.heap.size → w'.heap[b]? = W.heap[b]?))
      case atStart => exact ⟨0, m, row, rfl, HH, ⟨by omega⟩, HS2, HO2, HK2⟩
      case round =>
        clear HH HS2 HO2 HK2
        obtain ⟨i, m1, row1, rfl, HA, HI, HS3, HO3, HK3⟩ := hrel
        by_cases c1 : i < os.length
        · have c1b0 : decide ((i : Int) < (os.length : Int)) = true := decide_eq_true (by omega)
          obtain ⟨m2, A10, h2⟩ : ∃ m2, spec_l7Ring.f k m1 (rd_L1 os (i : Int)) = some m2 ∧ ((spec_GenusRow.cF k l0 c (v + 1) m2 row1).bind fun st => spec_GenusRow.cL (spec_l7Ring.f k) (fun m row => spec_GenusRow.cF k l0 c (v + 1) m row) os (os.length - (i + 1)) (i + 1) st.1 st.2) = some (m', row') := by
            have h := HA.out
            rw [show os.length - i = (os.length - (i + 1)) + 1 by omega] at h
            exact Option.bind_eq_some_iff.mp h
          obtain ⟨⟨m3, row3⟩, A20, A30⟩ := Option.bind_eq_some_iff.mp h2
          have A1 := Aside0.mk A10
          have A2 := Aside0.mk A20
          have A3 := Aside0.mk (show spec_GenusRow.cL (spec_l7Ring.f k) (fun m row => spec_GenusRow.cF k l0 c (v + 1) m row) os (os.length - (i + 1)) (i + 1) m3 row3 = some (m', row') from A30)
          clear A10 A20 A30 HA h2
          have pi : (0 : Int) ≤ (i : Int) := by omega
          have qi : (i : Int) < (os.length : Int) := by omega
          have ei : ((i : Int)).toNat = i := Int.toNat_natCast i
          have wi : wrap64 ((i : Int) + 1) = ((i + 1 : Nat) : Int) := by have := HL.out; unfold wrap64; omega
          have wv : wrap64 (v + 1) = v + 1 := by unfold wrap64; omega
          obtain ⟨g, cg, e0, -, hgl, -⟩ := Kd.R_form HO3.out (by omega)
          injection e0 with e1 _ e3
          subst e1 e3
          obtain ⟨ad, A5, k5, e5, hx5, hl5, hi5⟩ := at_L1 (Kd.R_reads' HO3.out).2.2 (i : Int) pi qi
          have e5' := Option.some.inj e5
          subst e5'
          have hDg := HO3.out.1 g rfl
          have hgm : g ≠ mb := fun e => HS3.out.nd (e ▸ hDg)
          have HRW : Aside0 (∀ W_, Kept wr W_ (fun b => b = mb) → Kd.C (Kd.int .i64) W_ A5 (rd_L1 os (i : Int)).length (rd_L1 os (i : Int))) := ⟨fun W_ hk => by
            have hR := Kd.R_step HO3.out (fun q hq hlt => hk.2 q hlt (fun e => HS3.out.nd (e ▸ hq)))
            obtain ⟨ad', A5', k5', e5', hx5', _, hi5'⟩ := at_L1 (Kd.R_reads' hR).2.2 (i : Int) pi qi
            have e6 := Option.some.inj e5'
            subst e6
            have hc : W_.cell? ((⟨g, 0, none⟩ : Addr).add ((i : Int)).toNat) = wr.cell? ((⟨g, 0, none⟩ : Addr).add ((i : Int)).toNat) := World.cell?_of_block (by rw [add_block]; exact hk.2 g hgl hgm)
            rw [hc, hx5] at hx5'
            have e7 := Option.some.inj hx5'
            injection e7 with e8 _ _
            rw [e8]
            exact hi5'⟩
          have HC5 := Aside0.mk hl5
          have hx := hx5
          rw [ei] at hx
          (try rw [add_plain] at hx)
          obtain ⟨A3r, c3r, hv3⟩ := Kd.R_slice HS3.out.hR
          subst hv3
          clear hx5 hl5 hi5 hDg hgm e5 hgl
          go_wp2_with fail
          (go_at_call 34; (with_reducible refine (spec_l7Ring.calls k (fun b => b = mb) _ m1 A5 k5 (rd_L1 os (i : Int)) m2 w0 wr HS3.out.bel HS3.out.hM HRW.out HC5.out A1.out).mono ?_))
          rintro e w3 ⟨rfl, hm3, hb3, hk3⟩
          have HS4 := Aside0.mk (HS3.out.setM hb3 hk3 (Kd.R_of_own (Kd.own_of_R hm3) HS3.out.hM.1))
          have HO4 := Aside0.mk (Kd.R_step HO3.out (fun q hq hlt => HS4.out.2.2 q hq hlt))
          have HK4 := Aside0.mk (show W.heap.size ≤ w3.heap.size ∧ ∀ b, D b → b < W.heap.size → w3.heap[b]? = W.heap[b]? from ⟨Nat.le_trans HK3.out.1 HS4.out.2.1, fun b hd hb => (HS4.out.2.2 b (.inl hd) (Nat.lt_of_lt_of_le hb HK3.out.1)).trans (HK3.out.2 b hd hb)⟩)
          clear hm3 hb3 hk3 HS3 HO3 HK3 HRW hx A1
          go_wp2_with fail
          have hcall := IH.out (v + 1) (fun b => D b ∨ (W.heap.size ≤ b ∧ b < w2.heap.size)) (.slice Am m.length cm) (.slice A3r row1.length c3r) m2 row1 m3 row3 w3 (by omega) (by omega) A2.out HS4.out.1
          (go_at_call 19; (with_reducible refine hcall.mono ?_))
          clear hcall
          rintro e w4 ⟨vr4, rfl, hs4, hz4, hk4⟩
          have HS5 := Aside0.mk hs4
          have HO5 := Aside0.mk (Kd.R_step HO4.out (fun q hq hlt => hk4 q hq hlt))
          have HK5 := Aside0.mk (show W.heap.size ≤ w4.heap.size ∧ ∀ b, D b → b < W.heap.size → w4.heap[b]? = W.heap[b]? from ⟨Nat.le_trans HK4.out.1 hz4, fun b hd hb => (hk4 b (.inl hd) (Nat.lt_of_lt_of_le hb HK4.out.1)).trans (HK4.out.2 b hd hb)⟩)
          clear hs4 hz4 hk4 HS4 HO4 HK4 A2 IH
          go_wp2
          go_roundg (os.length - i)
          case measure => have := HI.out; omega
          case rel => exact ⟨i + 1, m3, row3, by first | rfl | (rw [wi]), A3, ⟨by have := HI.out; omega⟩, HS5, HO5, HK5⟩
        · have c1b0 : decide ((i : Int) < (os.length : Int)) = false := decide_eq_false (by omega)
          have hs' : m1 = m' ∧ row1 = row' := by
            have h := HA.out
            rw [show os.length - i = 0 by omega] at h
            exact Prod.mk.inj (Option.some.inj h)
          obtain ⟨rfl, rfl⟩ := hs'
          clear HA
          go_wp2
          go_ret
          exact ⟨_, rfl, HS3.out.gr (Below.refl _ _) (fun b q => .inl (.inl q)), HK3.out⟩
    · rw [if_neg hl] at h
      exact absurd h (by simp)
set_option maxHeartbeats 8000000 in
set_option maxRecDepth 100000 in
theorem spec_GenusRow.calls (k : Nat) (A0 : Option Addr) (c0 : Nat) (l0 : List (List Int)) (r : List Int) (w : World) (hr0 : Kd.C (Kd.slice 3 (Kd.int .i64)) w A0 l0.length l0) (hc0 : l0.length ≤ c0) (h : spec_GenusRow.f k l0 = some r) :
    Calls Try.prog 6 #[.slice A0 l0.length c0] w fun e w' => ∃ v0_ : Value, e = .returned (v0_) ∧ Kd.R (Kd.int .i64) 3 w' w.heap.size (fun _ => True) v0_ r ∧ Below w.heap.size w w' := by
  have HR0 := Aside0.mk hr0
  have HC0 := Aside0.mk hc0
  clear hr0 hc0
  unfold spec_GenusRow.f at h
  obtain ⟨n, hn, h⟩ := Option.bind_eq_some_iff.mp h
  obtain ⟨t, ht, h⟩ := Option.bind_eq_some_iff.mp h
  have HN := Aside0.mk hn
  have HT := Aside0.mk ht
  have HH := Aside0.mk h
  clear hn ht h
  go_enter Try.func6, Try.ntmps6
  go_wp2_with fail
  (go_at_call 18; (with_reducible refine (spec_CountRotations.calls k A0 c0 l0 n _ HR0.out HC0.out HN.out).mono ?_))
  rintro e w1 ⟨rfl, hb⟩
  have HB1 := Aside0.mk hb
  clear hb HN
  go_wp2_with fail
  (go_at_call 17; (with_reducible refine (spec_l1In.calls n 1 2000 t _ HT.out).mono ?_))
  rintro e w2 ⟨rfl, hd⟩
  obtain ⟨n2, rfl⟩ := hd.out
  have HB2 := Aside0.mk (pw_below_drewN HB1.out n2)
  clear hd HT HB1
  generalize w1.drewN n2 = w2 at HB2 ⊢
  cases t with
  | false =>
    have h := HH.out
    rw [if_neg (by decide)] at h
    obtain rfl := Option.some.inj h
    clear h HH
    go_wp2
    go_ret
    exact ⟨_, rfl, spec_l7Orders.lit0 (heap_alloc_new w2 _) HB2.out.size trivial, below_alloc HB2.out _⟩
  | true =>
    have h := HH.out
    rw [if_pos rfl] at h
    by_cases hl : l0.length < 1000000
    · rw [if_pos hl] at h
      obtain ⟨⟨m', row'⟩, h1, h2⟩ := Option.bind_eq_some_iff.mp h
      obtain rfl := Option.some.inj h2
      have H1 := Aside0.mk h1
      have HL := Aside0.mk hl
      obtain ⟨m0, hm0⟩ : ∃ y, y = List.replicate (2 * l0.length) (0 : Int) := ⟨_, rfl⟩
      have wl : wrap64 (2 * (l0.length : Int)) = 2 * (l0.length : Int) := by unfold wrap64; omega
      have et : (2 * (l0.length : Int)).toNat = 2 * l0.length := by omega
      have H1 := Aside0.mk (show spec_GenusRow.cF k l0 7 0 m0 [] = some (m', row') by rw [hm0]; exact h1)
      have HM0 := Aside0.mk hm0
      have HE := Aside0.mk et
      have HW := Aside0.mk wl
      clear h h1 h2 HH hl hm0 et
      go_wp2_with (first | ((with_reducible refine gate_dst (N := 12) rfl ?_); refine Kd.R_make (Kd.int .i64) (w0 := w) w.heap.size 3 rfl (N := 12) rfl 24 _ _ rfl (wrap64 (2 * (l0.length : Int))) rfl rfl Try.underlying24 (.int .i64 0) 8 info3 rfl (by decide) (by omega) 0 (ok := fun b => b = w2.heap.size) (okp := fun b => b = w2.heap.size) rfl (fun _ hk => hk) rfl (by rw [HW.out]; omega) (by rw [HW.out]; have := HL.out; omega) HB2.out HB2.out.size ?_; intro v3 w3 hM3 hB3 hG3 hv3; rw [HW.out, HE.out, ← HM0.out] at hM3; obtain ⟨A3, c3, rfl⟩ := Kd.R_slice hM3; have HM3 := Aside0.mk hM3; have HB3 := Aside0.mk hB3; have HV3 := Aside0.mk hv3; clear hM3 hB3 hG3 hv3))
      obtain ⟨b3, hb3, -⟩ := HV3.out
      obtain rfl := HM3.out.1 b3 hb3
      have hlt := Kd.R_lt HM3.out _ hb3
      have HS := Aside0.mk (show spec_GenusRow.SI w w2.heap.size (fun _ => False) (.slice A3 m0.length c3) m0 (.slice (some ⟨w3.heap.size, 0, none⟩) 0 0) [] (w3.alloc (.cells #[] 3)) from
        { bel := below_alloc HB3.out _
          dom := fun _ q => q.elim
          nd := fun q => q
          lo := HB2.out.size
          hi := Nat.lt_of_lt_of_le hlt (below_alloc (Below.refl w3.heap.size w3) _).size
          hM := Kd.R_alloc HM3.out _
          hR := spec_l7Orders.lit0 (heap_alloc_new w3 _) HB3.out.size ⟨fun q => q, by omega⟩ })
      have hcall := spec_GenusRow.count k w _ A0 c0 l0 HR0.out HC0.out 7 0 (fun _ => False) _ _ m0 [] m' row' _ (by omega) (by omega) H1.out HS.out
      (go_at_call 19; (with_reducible refine hcall.mono ?_))
      clear hcall
      rintro e w5 ⟨vr5, rfl, hs5, -, -⟩
      have HS5 := Aside0.mk hs5
      clear hs5 HS H1
      obtain ⟨A5, c5, rfl⟩ := Kd.R_slice HS5.out.hR
      go_wp2
      go_ret
      exact ⟨_, rfl, Kd.R_mono HS5.out.hR (fun _ _ => trivial), HS5.out.bel⟩
    · rw [if_neg hl] at h
      exact absurd h (by simp)

/-! ### spec_LeastGenus: function 14 -/
def spec_LeastGenus.l0 : Nat → List Int → Int → Option (Int)
  | 0, _, _ => none
  | k + 1, x3, x4 => if x4 < (x3.length : Int) then (if 0 ≤ x4 then (if (rd x3 x4) > 0 then (some x4) else (spec_LeastGenus.l0 k x3 (wrap64 (x4 + 1)))) else (none)) else (some (-1))
def spec_LeastGenus.f (k : Nat) (l0 : List (List Int)) : Option (Int) := (spec_GenusRow.f k l0).bind fun t233 => (spec_LeastGenus.l0 k t233 0)
theorem spec_LeastGenus.mono_l : ∀ k, (∀ y0 y1, LeO (spec_LeastGenus.l0 k y0 y1) (spec_LeastGenus.l0 (k + 1) y0 y1))
  | 0 => fun _ _ r h => by simp [spec_LeastGenus.l0] at h
  | k + 1 => by
    have ih0 := spec_LeastGenus.mono_l k
    · intro y0 y1
      unfold spec_LeastGenus.l0
      repeat' first
      | (with_reducible exact ih0 _ _)
      | (with_reducible exact spec_GenusRow.mono _ _)
      | (with_reducible exact LeO.refl _)
      | (with_reducible exact LeO.none _)
      | (with_reducible refine LeO.ite ?_ ?_)
      | (with_reducible refine LeO.bind ?_ (fun _ => ?_))
      | exact ih0 _ _
      | exact spec_GenusRow.mono _ _
      | exact LeO.none _
      | refine LeO.ite ?_ ?_
      | refine LeO.bind ?_ (fun _ => ?_)
theorem spec_LeastGenus.mono : ∀ a0 k, LeO (spec_LeastGenus.f k a0) (spec_LeastGenus.f (k + 1) a0) := by
  intro a0 k
  have ih0 := spec_LeastGenus.mono_l k
  unfold spec_LeastGenus.f
  repeat' first
      | (with_reducible exact ih0 _ _)
      | (with_reducible exact spec_GenusRow.mono _ _)
      | (with_reducible exact LeO.refl _)
      | (with_reducible exact LeO.none _)
      | (with_reducible refine LeO.ite ?_ ?_)
      | (with_reducible refine LeO.bind ?_ (fun _ => ?_))
      | exact ih0 _ _
      | exact spec_GenusRow.mono _ _
      | exact LeO.none _
      | refine LeO.ite ?_ ?_
      | refine LeO.bind ?_ (fun _ => ?_)
set_option maxHeartbeats 8000000 in
set_option maxRecDepth 100000 in
theorem spec_LeastGenus.calls (k : Nat) (A0 : Option Addr) (c0 : Nat) (l0 : List (List Int)) (r : Int) (w : World) (hr0 : Kd.C (Kd.slice 3 (Kd.int .i64)) w A0 l0.length l0) (hc0 : l0.length ≤ c0) (h : spec_LeastGenus.f k l0 = some r) :
    Calls Try.prog 14 #[.slice A0 l0.length c0] w fun e w' => e = .returned (.int .i64 r) ∧ Below w.heap.size w w' := by
  have HR0 := Aside0.mk hr0
  have HC0 := Aside0.mk hc0
  clear hr0 hc0
  have HB := Aside0.mk (Below.refl w.heap.size w)
  have H : ((spec_GenusRow.f k l0).bind fun t233 => (spec_LeastGenus.l0 k t233 0)) = some r := h
  clear h
  replace H := Option.bind_eq_some_iff.mp H
  obtain ⟨t233, A20, H⟩ := H
  replace H : (spec_LeastGenus.l0 k t233 0) = some r := H
  have A2 := Aside0.mk A20
  clear A20
  have H' := Aside0.mk H
  clear H
  go_enter Try.func14, Try.ntmps14
  go_wp2_with (first | ((with_reducible refine gate_callee (f := 6) rfl ?_); refine goesL_ (some 6) rfl rfl Try.func6 (by kernel_rfl) rfl #[.slice A0 l0.length c0] rfl (by (try simp only [List.map_toArray, List.map_cons, List.map_nil]); first | done | rfl | (simp only [List.length_drop, List.length_take]; rfl)) ?_; (with_reducible refine (spec_GenusRow.calls k _ _ l0 t233 _ ?side1 ?side2 A2.out).mono ?_); (case side1 => repeat (first | exact HR0.out | (with_reducible refine Kd.C_alloc ?_ _) | (with_reducible refine Kd.C_drewN ?_ _) | (with_reducible refine Kd.C_drew ?_))); (case side2 => exact HC0.out); rintro e w3 ⟨v234, rfl, ho0, hb⟩; refine ⟨_, rfl, ?_⟩; have n0_ := Aside0.mk (Kd.R_lower ho0 (below_size (by repeat (first | (with_reducible first | exact HB.out | apply below_alloc | apply pw_below_drewN | apply below_drew1) | exact HB.out)))); have n1_ := Aside0.mk (below_step (by repeat (first | (with_reducible first | exact HB.out | apply below_alloc | apply pw_below_drewN | apply below_drew1) | exact HB.out)) hb); clear HB; have HO235 := n0_; have HB := n1_; clear n0_ n1_; (try clear hb); (try clear hb2); (try clear hk); (try clear hi); (try clear ho0)))
  go_loopg [4] k (fun kq v4 w' => ∃ (x4_1 : Int), v4 = .int .i64 x4_1 ∧ Aside0 (spec_LeastGenus.l0 kq t233 x4_1 = some r) ∧ Aside0 (kq ≤ k) ∧ Aside0 (Kd.R (Kd.int .i64) 3 w' w.heap.size (fun _ => True) v234 t233) ∧ Aside0 (Below w.heap.size w w'))
  case atStart => exact ⟨(0), (by first | rfl | (simp; done) | (simp [*]; done)), H', ⟨Nat.le_refl _⟩, ⟨by (with_reducible repeat (first | apply Kd.R_alloc | apply Kd.R_drewN | apply Kd.R_drew)); exact HO235.out⟩, ⟨by repeat (first | (with_reducible first | exact HB.out | apply below_alloc | apply pw_below_drewN | apply below_drew1) | exact HB.out)⟩⟩
  case round =>
    clear H'
    try clear c1
    try clear p2
    obtain ⟨x4_1, rfl, HA, HK1, HO_3, HB⟩ := hrel
    cases gk with
    | zero => exact absurd HA.out (by simp [spec_LeastGenus.l0])
    | succ k1 =>
      have H := HA.out
      clear HA
      simp only [spec_LeastGenus.l0] at H
      by_cases c4 : x4_1 < (t233.length : Int)
      · rw [if_pos c4] at H
        have c4b0 : decide (x4_1 < (t233.length : Int)) = true := decide_eq_true c4
        clear c4
        by_cases c5 : 0 ≤ x4_1
        · rw [if_pos c5] at H
          have c5b0 : decide (0 ≤ x4_1) = true := decide_eq_true c5
          clear c5
          by_cases c6 : (rd t233 x4_1) > 0
          · rw [if_pos c6] at H
            have c6b0 : decide (0 < (rd t233 x4_1)) = true := decide_eq_true c6
            clear c6
            obtain rfl := Option.some.inj H
            obtain ⟨Ao7, co7, eo7⟩ := Kd.R_slice HO_3.out
            subst eo7
            have p236 : 0 ≤ (x4_1 : Int) := of_decide_eq_true (by first | (with_reducible assumption) | assumption)
            have q236 : x4_1 < (t233.length : Int) := of_decide_eq_true (by first | (with_reducible assumption) | assumption)
            obtain ⟨ad236, e236, hx236_0⟩ := Kd.at_int (Kd.R_reads' HO_3.out).2.2 x4_1 p236 q236
            cases e236
            replace p236 := eq_true p236
            replace q236 := eq_true q236
            go_wp2
            go_ret
            exact ⟨by first | rfl | (simp [errW_none, errW_some] <;> rfl) | (simp [*, errW_none, errW_some] <;> rfl), by repeat (first | (with_reducible first | exact HB.out | apply below_alloc | apply pw_below_drewN | apply below_drew1) | exact HB.out)⟩
          · rw [if_neg c6] at H
            have c6b0 : decide (0 < (rd t233 x4_1)) = false := decide_eq_false c6
            clear c6
            have H' := Aside0.mk H
            clear H
            obtain ⟨Ao8, co8, eo8⟩ := Kd.R_slice HO_3.out
            subst eo8
            have p236 : 0 ≤ (x4_1 : Int) := of_decide_eq_true (by first | (with_reducible assumption) | assumption)
            have q236 : x4_1 < (t233.length : Int) := of_decide_eq_true (by first | (with_reducible assumption) | assumption)
            obtain ⟨ad236, e236, hx236_0⟩ := Kd.at_int (Kd.R_reads' HO_3.out).2.2 x4_1 p236 q236
            cases e236
            replace p236 := eq_true p236
            replace q236 := eq_true q236
            go_wp2
            go_roundg k1
            case measure => have := HK1.out; omega
            case rel => exact ⟨(wrap64 (x4_1 + 1)), (by first | rfl | (simp; done) | (simp [*]; done)), H', ⟨by have := HK1.out; omega⟩, ⟨by (with_reducible repeat (first | apply Kd.R_alloc | apply Kd.R_drewN | apply Kd.R_drew)); exact HO_3.out⟩, ⟨by repeat (first | (with_reducible first | exact HB.out | apply below_alloc | apply pw_below_drewN | apply below_drew1) | exact HB.out)⟩⟩
        · rw [if_neg c5] at H
          exact absurd H (by simp)
      · rw [if_neg c4] at H
        have c4b0 : decide (x4_1 < (t233.length : Int)) = false := decide_eq_false c4
        clear c4
        obtain rfl := Option.some.inj H
        obtain ⟨Ao9, co9, eo9⟩ := Kd.R_slice HO_3.out
        subst eo9
        go_wp2
        go_ret
        exact ⟨by first | rfl | (simp [errW_none, errW_some] <;> rfl) | (simp [*, errW_none, errW_some] <;> rfl), by repeat (first | (with_reducible first | exact HB.out | apply below_alloc | apply pw_below_drewN | apply below_drew1) | exact HB.out)⟩

/-! ### impl_within: function 35 -/
def impl_within.f (a0 : Int) (a1 : Int) (a2 : Int) : Option (Bool) := if a0 ≥ a1 then (some (decide (a0 ≤ a2))) else (some false)
set_option maxHeartbeats 8000000 in
set_option maxRecDepth 100000 in
theorem impl_within.calls (a0 : Int) (a1 : Int) (a2 : Int) (r : Bool) (w : World) (h : impl_within.f a0 a1 a2 = some r) :
    Calls Try.prog 35 #[.int .i64 a0, .int .i64 a1, .int .i64 a2] w fun e w' => e = .returned (.bool r) ∧ Drawn0 w w' := by
  have H : (if a0 ≥ a1 then (some (decide (a0 ≤ a2))) else (some false)) = some r := h
  clear h
  by_cases c4 : a0 ≥ a1
  · rw [if_pos c4] at H
    have c4b0 : decide (a1 ≤ a0) = true := decide_eq_true c4
    clear c4
    obtain rfl := Option.some.inj H
    go_enter Try.func35, Try.ntmps35
    go_wp2
    go_ret
    exact ⟨by first | rfl | (simp; done) | (simp [*]; done), by repeat (first | exact Drawn0.refl _ | apply Drawn0.step)⟩
  · rw [if_neg c4] at H
    have c4b0 : decide (a1 ≤ a0) = false := decide_eq_false c4
    clear c4
    obtain rfl := Option.some.inj H
    go_enter Try.func35, Try.ntmps35
    go_wp2
    go_ret
    exact ⟨by first | rfl | (simp; done) | (simp [*]; done), by repeat (first | exact Drawn0.refl _ | apply Drawn0.step)⟩

/-! ### impl_IsGraph: function 21 -/
def impl_IsGraph.l0 : Nat → List (List Int) → List (List Int) → Int → Int → Option (Bool)
  | 0, _, _, _, _ => none
  | k + 1, x0, x5, x6, x7 => if x7 < x6 then (if 0 ≤ x7 then (if x7 < (x5.length : Int) then (if ((rd_L1 x5 x7).length : Int) = 2 then (if 0 < ((rd_L1 x5 x7).length : Int) then ((impl_within.f (rd (rd_L1 x5 x7) 0) 0 6).bind fun t240 => (if t240 = true then (if 1 < ((rd_L1 x5 x7).length : Int) then ((impl_within.f (rd (rd_L1 x5 x7) 1) 0 6).bind fun t242 => (if t242 = true then (if (rd (rd_L1 x5 x7) 0) = (rd (rd_L1 x5 x7) 1) then (some false) else (impl_IsGraph.l0 k x0 x5 x6 (wrap64 (x7 + 1)))) else (some false))) else (none)) else (some false))) else (none)) else (some false)) else (none)) else (none)) else ((impl_within.f (x0.length : Int) 1 10).bind fun t237 => (some t237))
def impl_IsGraph.f (k : Nat) (l0 : List (List Int)) : Option (Bool) := impl_IsGraph.l0 k l0 l0 (l0.length : Int) 0
theorem impl_IsGraph.mono_l : ∀ k, (∀ y0 y1 y2 y3, LeO (impl_IsGraph.l0 k y0 y1 y2 y3) (impl_IsGraph.l0 (k + 1) y0 y1 y2 y3))
  | 0 => fun _ _ _ _ r h => by simp [impl_IsGraph.l0] at h
  | k + 1 => by
    have ih0 := impl_IsGraph.mono_l k
    · intro y0 y1 y2 y3
      unfold impl_IsGraph.l0
      repeat' first
      | (with_reducible exact ih0 _ _ _ _)
      | (with_reducible exact LeO.refl _)
      | (with_reducible exact LeO.none _)
      | (with_reducible refine LeO.ite ?_ ?_)
      | (with_reducible refine LeO.bind ?_ (fun _ => ?_))
      | exact ih0 _ _ _ _
      | exact LeO.none _
      | refine LeO.ite ?_ ?_
      | refine LeO.bind ?_ (fun _ => ?_)
theorem impl_IsGraph.mono : ∀ a0 k, LeO (impl_IsGraph.f k a0) (impl_IsGraph.f (k + 1) a0) := by
  intro a0 k
  have ih0 := impl_IsGraph.mono_l k
  unfold impl_IsGraph.f
  repeat' first
      | (with_reducible exact ih0 _ _ _ _)
      | (with_reducible exact LeO.refl _)
      | (with_reducible exact LeO.none _)
      | (with_reducible refine LeO.ite ?_ ?_)
      | (with_reducible refine LeO.bind ?_ (fun _ => ?_))
      | exact ih0 _ _ _ _
      | exact LeO.none _
      | refine LeO.ite ?_ ?_
      | refine LeO.bind ?_ (fun _ => ?_)
set_option maxHeartbeats 8000000 in
set_option maxRecDepth 100000 in
theorem impl_IsGraph.calls (k : Nat) (A0 : Option Addr) (c0 : Nat) (l0 : List (List Int)) (r : Bool) (w : World) (hr0 : Kd.C (Kd.slice 3 (Kd.int .i64)) w A0 l0.length l0) (hc0 : l0.length ≤ c0) (h : impl_IsGraph.f k l0 = some r) :
    Calls Try.prog 21 #[.slice A0 l0.length c0] w fun e w' => e = .returned (.bool r) ∧ Drawn0 w w' := by
  have HR0 := Aside0.mk hr0
  have HC0 := Aside0.mk hc0
  clear hr0 hc0
  have H : (impl_IsGraph.l0 k l0 l0 (l0.length : Int) 0) = some r := h
  clear h
  have H' := Aside0.mk H
  clear H
  go_enter Try.func21, Try.ntmps21
  go_wp2
  repeat (go_quiet (fail); try go_wp2)
  go_loopg [7] k (fun kq v7 w' => ∃ (x7_1 : Int), v7 = .int .i64 x7_1 ∧ Aside0 (impl_IsGraph.l0 kq l0 l0 (l0.length : Int) x7_1 = some r) ∧ Aside0 (kq ≤ k) ∧ Drawn0 w w')
  case atStart => exact ⟨(0), (by first | rfl | (simp; done) | (simp [*]; done)), H', ⟨Nat.le_refl _⟩, by repeat (first | exact Drawn0.refl _ | apply Drawn0.step)⟩
  case round =>
    clear H'
    obtain ⟨x7_1, rfl, HA, HK1, ⟨m1, rfl⟩⟩ := hrel
    cases gk with
    | zero => exact absurd HA.out (by simp [impl_IsGraph.l0])
    | succ k1 =>
      have H := HA.out
      clear HA
      simp only [impl_IsGraph.l0] at H
      by_cases c2 : x7_1 < (l0.length : Int)
      · rw [if_pos c2] at H
        have c2b0 : decide (x7_1 < (l0.length : Int)) = true := decide_eq_true c2
        clear c2
        by_cases c3 : 0 ≤ x7_1
        · rw [if_pos c3] at H
          have c3b0 : decide (0 ≤ x7_1) = true := decide_eq_true c3
          clear c3
          by_cases c4 : x7_1 < (l0.length : Int)
          · rw [if_pos c4] at H
            have c4b0 : decide (x7_1 < (l0.length : Int)) = true := decide_eq_true c4
            clear c4
            by_cases c5 : ((rd_L1 l0 x7_1).length : Int) = 2
            · rw [if_pos c5] at H
              have c5b0 : (((rd_L1 l0 x7_1).length : Int) == 2) = true := beq_iff_eq.mpr c5
              have c5b1 : (((rd_L1 l0 x7_1).length : Int) != 2) = false := bne_eq_false_iff_eq.mpr c5
              clear c5
              by_cases c6 : 0 < ((rd_L1 l0 x7_1).length : Int)
              · rw [if_pos c6] at H
                have c6b0 : decide (0 < ((rd_L1 l0 x7_1).length : Int)) = true := decide_eq_true c6
                have c6b1 : decide (0 < (rd_L1 l0 x7_1).length) = true := decide_eq_true (by omega)
                clear c6
                replace H := Option.bind_eq_some_iff.mp H
                obtain ⟨t240, A70, H⟩ := H
                replace H : (if t240 = true then (if 1 < ((rd_L1 l0 x7_1).length : Int) then ((impl_within.f (rd (rd_L1 l0 x7_1) 1) 0 6).bind fun t242 => (if t242 = true then (if (rd (rd_L1 l0 x7_1) 0) = (rd (rd_L1 l0 x7_1) 1) then (some false) else (impl_IsGraph.l0 k1 l0 l0 (l0.length : Int) (wrap64 (x7_1 + 1)))) else (some false))) else (none)) else (some false)) = some r := H
                have A7 := Aside0.mk A70
                clear A70
                by_cases c8 : t240 = true
                · subst c8
                  have H1 : (if 1 < ((rd_L1 l0 x7_1).length : Int) then ((impl_within.f (rd (rd_L1 l0 x7_1) 1) 0 6).bind fun t242 => (if t242 = true then (if (rd (rd_L1 l0 x7_1) 0) = (rd (rd_L1 l0 x7_1) 1) then (some false) else (impl_IsGraph.l0 k1 l0 l0 (l0.length : Int) (wrap64 (x7_1 + 1)))) else (some false))) else (none)) = some r := by rw [if_pos rfl] at H; exact H
                  clear H
                  have H := H1
                  clear H1
                  by_cases c9 : 1 < ((rd_L1 l0 x7_1).length : Int)
                  · rw [if_pos c9] at H
                    have c9b0 : decide (1 < ((rd_L1 l0 x7_1).length : Int)) = true := decide_eq_true c9
                    have c9b1 : decide (1 < (rd_L1 l0 x7_1).length) = true := decide_eq_true (by omega)
                    clear c9
                    replace H := Option.bind_eq_some_iff.mp H
                    obtain ⟨t242, A100, H⟩ := H
                    replace H : (if t242 = true then (if (rd (rd_L1 l0 x7_1) 0) = (rd (rd_L1 l0 x7_1) 1) then (some false) else (impl_IsGraph.l0 k1 l0 l0 (l0.length : Int) (wrap64 (x7_1 + 1)))) else (some false)) = some r := H
                    have A10 := Aside0.mk A100
                    clear A100
                    by_cases c11 : t242 = true
                    · subst c11
                      have H1 : (if (rd (rd_L1 l0 x7_1) 0) = (rd (rd_L1 l0 x7_1) 1) then (some false) else (impl_IsGraph.l0 k1 l0 l0 (l0.length : Int) (wrap64 (x7_1 + 1)))) = some r := by rw [if_pos rfl] at H; exact H
                      clear H
                      have H := H1
                      clear H1
                      by_cases c12 : (rd (rd_L1 l0 x7_1) 0) = (rd (rd_L1 l0 x7_1) 1)
                      · rw [if_pos c12] at H
                        have c12b0 : ((rd (rd_L1 l0 x7_1) 0) == (rd (rd_L1 l0 x7_1) 1)) = true := beq_iff_eq.mpr c12
                        have c12b1 : ((rd (rd_L1 l0 x7_1) 0) != (rd (rd_L1 l0 x7_1) 1)) = false := bne_eq_false_iff_eq.mpr c12
                        clear c12
                        obtain rfl := Option.some.inj H
                        have p238 : 0 ≤ (x7_1 : Int) := of_decide_eq_true (by first | (with_reducible assumption) | assumption)
                        have q238 : x7_1 < (l0.length : Int) := of_decide_eq_true (by first | (with_reducible assumption) | assumption)
                        obtain ⟨ad238, A238_0, c238_0, e238, hx238_0, hl238_0, hi238_0⟩ := at_L1 HR0.out x7_1 p238 q238
                        cases e238
                        have HR238_0 := Aside0.mk hi238_0
                        have HC238_0 := Aside0.mk hl238_0
                        clear hi238_0 hl238_0
                        replace p238 := eq_true p238
                        replace q238 := eq_true q238
                        have p239 : 0 ≤ (0 : Int) := (by omega)
                        have q239 : 0 < ((rd_L1 l0 x7_1).length : Int) := of_decide_eq_true (by first | (with_reducible assumption) | assumption)
                        obtain ⟨ad239, e239, hx239_0⟩ := Kd.at_int HR238_0.out 0 p239 q239
                        cases e239
                        have qi239 : (0 < (rd_L1 l0 x7_1).length) = True := eq_true (by omega)
                        (try rw [show ((0 : Int)).toNat = 0 from rfl] at hx239_0)
                        (try rw [Addr.add_zero'] at hx239_0)
                        replace p239 := eq_true p239
                        replace q239 := eq_true q239
                        go_wp2_with (first | (go_at_call 35; (with_reducible refine (impl_within.calls (rd (rd_L1 l0 x7_1) 0) 0 6 true _ A7.out).mono ?_); rintro e w' ⟨rfl, ⟨nd, rfl⟩⟩; (try first | exact ⟨rfl, _, World.drewN_drewN _ _ _⟩ | exact ⟨rfl, _, Eq.trans (World.drewN_drewN _ _ _) (congrArg (World.drewN _) (Nat.add_assoc _ _ _))⟩); have p241 : 0 ≤ (1 : Int) := (by omega); have q241 : 1 < ((rd_L1 l0 x7_1).length : Int) := of_decide_eq_true (by first | (with_reducible assumption) | assumption); obtain ⟨ad241, e241, hx241_0⟩ := Kd.at_int HR238_0.out 1 p241 q241; obtain rfl : ad239 = ad241 := (by injection e241); (try simp only [show (1 : Int).toNat = 1 from rfl, Nat.reduceMul, Nat.reduceEqDiff, Go.Addr.add, ↓reduceIte] at hx241_0); have qi241 : (1 < (rd_L1 l0 x7_1).length) = True := eq_true (by omega); (try rw [show ((1 : Int)).toNat = 1 from rfl] at hx241_0); replace p241 := eq_true p241; replace q241 := eq_true q241) | (go_at_call 35; (with_reducible refine (impl_within.calls (rd (rd_L1 l0 x7_1) 1) 0 6 true _ A10.out).mono ?_); rintro e w' ⟨rfl, ⟨nd, rfl⟩⟩; (try first | exact ⟨rfl, _, World.drewN_drewN _ _ _⟩ | exact ⟨rfl, _, Eq.trans (World.drewN_drewN _ _ _) (congrArg (World.drewN _) (Nat.add_assoc _ _ _))⟩); have p243 : 0 ≤ (0 : Int) := (by omega); have q243 : 0 < ((rd_L1 l0 x7_1).length : Int) := of_decide_eq_true (by first | (with_reducible assumption) | assumption); obtain ⟨ad243, e243, hx243_0⟩ := Kd.at_int HR238_0.out 0 p243 q243; obtain rfl : ad239 = ad243 := (by injection e243); have qi243 : (0 < (rd_L1 l0 x7_1).length) = True := eq_true (by omega); (try rw [show ((0 : Int)).toNat = 0 from rfl] at hx243_0); (try rw [Addr.add_zero'] at hx243_0); replace p243 := eq_true p243; replace q243 := eq_true q243; have p244 : 0 ≤ (1 : Int) := (by omega); have q244 : 1 < ((rd_L1 l0 x7_1).length : Int) := of_decide_eq_true (by first | (with_reducible assumption) | assumption); obtain ⟨ad244, e244, hx244_0⟩ := Kd.at_int HR238_0.out 1 p244 q244; obtain rfl : ad239 = ad244 := (by injection e244); (try simp only [show (1 : Int).toNat = 1 from rfl, Nat.reduceMul, Nat.reduceEqDiff, Go.Addr.add, ↓reduceIte] at hx244_0); have qi244 : (1 < (rd_L1 l0 x7_1).length) = True := eq_true (by omega); (try rw [show ((1 : Int)).toNat = 1 from rfl] at hx244_0); replace p244 := eq_true p244; replace q244 := eq_true q244))
                        repeat (go_quiet (first | (go_at_call 35; (with_reducible refine (impl_within.calls (rd (rd_L1 l0 x7_1) 0) 0 6 true _ A7.out).mono ?_); rintro e w' ⟨rfl, ⟨nd, rfl⟩⟩; (try first | exact ⟨rfl, _, World.drewN_drewN _ _ _⟩ | exact ⟨rfl, _, Eq.trans (World.drewN_drewN _ _ _) (congrArg (World.drewN _) (Nat.add_assoc _ _ _))⟩); have p241 : 0 ≤ (1 : Int) := (by omega); have q241 : 1 < ((rd_L1 l0 x7_1).length : Int) := of_decide_eq_true (by first | (with_reducible assumption) | assumption); obtain ⟨ad241, e241, hx241_0⟩ := Kd.at_int HR238_0.out 1 p241 q241; obtain rfl : ad239 = ad241 := (by injection e241); (try simp only [show (1 : Int).toNat = 1 from rfl, Nat.reduceMul, Nat.reduceEqDiff, Go.Addr.add, ↓reduceIte] at hx241_0); have qi241 : (1 < (rd_L1 l0 x7_1).length) = True := eq_true (by omega); (try rw [show ((1 : Int)).toNat = 1 from rfl] at hx241_0); replace p241 := eq_true p241; replace q241 := eq_true q241) | (go_at_call 35; (with_reducible refine (impl_within.calls (rd (rd_L1 l0 x7_1) 1) 0 6 true _ A10.out).mono ?_); rintro e w' ⟨rfl, ⟨nd, rfl⟩⟩; (try first | exact ⟨rfl, _, World.drewN_drewN _ _ _⟩ | exact ⟨rfl, _, Eq.trans (World.drewN_drewN _ _ _) (congrArg (World.drewN _) (Nat.add_assoc _ _ _))⟩); have p243 : 0 ≤ (0 : Int) := (by omega); have q243 : 0 < ((rd_L1 l0 x7_1).length : Int) := of_decide_eq_true (by first | (with_reducible assumption) | assumption); obtain ⟨ad243, e243, hx243_0⟩ := Kd.at_int HR238_0.out 0 p243 q243; obtain rfl : ad239 = ad243 := (by injection e243); have qi243 : (0 < (rd_L1 l0 x7_1).length) = True := eq_true (by omega); (try rw [show ((0 : Int)).toNat = 0 from rfl] at hx243_0); (try rw [Addr.add_zero'] at hx243_0); replace p243 := eq_true p243; replace q243 := eq_true q243; have p244 : 0 ≤ (1 : Int) := (by omega); have q244 : 1 < ((rd_L1 l0 x7_1).length : Int) := of_decide_eq_true (by first | (with_reducible assumption) | assumption); obtain ⟨ad244, e244, hx244_0⟩ := Kd.at_int HR238_0.out 1 p244 q244; obtain rfl : ad239 = ad244 := (by injection e244); (try simp only [show (1 : Int).toNat = 1 from rfl, Nat.reduceMul, Nat.reduceEqDiff, Go.Addr.add, ↓reduceIte] at hx244_0); have qi244 : (1 < (rd_L1 l0 x7_1).length) = True := eq_true (by omega); (try rw [show ((1 : Int)).toNat = 1 from rfl] at hx244_0); replace p244 := eq_true p244; replace q244 := eq_true q244)); try go_wp2_with (first | (go_at_call 35; (with_reducible refine (impl_within.calls (rd (rd_L1 l0 x7_1) 0) 0 6 true _ A7.out).mono ?_); rintro e w' ⟨rfl, ⟨nd, rfl⟩⟩; (try first | exact ⟨rfl, _, World.drewN_drewN _ _ _⟩ | exact ⟨rfl, _, Eq.trans (World.drewN_drewN _ _ _) (congrArg (World.drewN _) (Nat.add_assoc _ _ _))⟩); have p241 : 0 ≤ (1 : Int) := (by omega); have q241 : 1 < ((rd_L1 l0 x7_1).length : Int) := of_decide_eq_true (by first | (with_reducible assumption) | assumption); obtain ⟨ad241, e241, hx241_0⟩ := Kd.at_int HR238_0.out 1 p241 q241; obtain rfl : ad239 = ad241 := (by injection e241); (try simp only [show (1 : Int).toNat = 1 from rfl, Nat.reduceMul, Nat.reduceEqDiff, Go.Addr.add, ↓reduceIte] at hx241_0); have qi241 : (1 < (rd_L1 l0 x7_1).length) = True := eq_true (by omega); (try rw [show ((1 : Int)).toNat = 1 from rfl] at hx241_0); replace p241 := eq_true p241; replace q241 := eq_true q241) | (go_at_call 35; (with_reducible refine (impl_within.calls (rd (rd_L1 l0 x7_1) 1) 0 6 true _ A10.out).mono ?_); rintro e w' ⟨rfl, ⟨nd, rfl⟩⟩; (try first | exact ⟨rfl, _, World.drewN_drewN _ _ _⟩ | exact ⟨rfl, _, Eq.trans (World.drewN_drewN _ _ _) (congrArg (World.drewN _) (Nat.add_assoc _ _ _))⟩); have p243 : 0 ≤ (0 : Int) := (by omega); have q243 : 0 < ((rd_L1 l0 x7_1).length : Int) := of_decide_eq_true (by first | (with_reducible assumption) | assumption); obtain ⟨ad243, e243, hx243_0⟩ := Kd.at_int HR238_0.out 0 p243 q243; obtain rfl : ad239 = ad243 := (by injection e243); have qi243 : (0 < (rd_L1 l0 x7_1).length) = True := eq_true (by omega); (try rw [show ((0 : Int)).toNat = 0 from rfl] at hx243_0); (try rw [Addr.add_zero'] at hx243_0); replace p243 := eq_true p243; replace q243 := eq_true q243; have p244 : 0 ≤ (1 : Int) := (by omega); have q244 : 1 < ((rd_L1 l0 x7_1).length : Int) := of_decide_eq_true (by first | (with_reducible assumption) | assumption); obtain ⟨ad244, e244, hx244_0⟩ := Kd.at_int HR238_0.out 1 p244 q244; obtain rfl : ad239 = ad244 := (by injection e244); (try simp only [show (1 : Int).toNat = 1 from rfl, Nat.reduceMul, Nat.reduceEqDiff, Go.Addr.add, ↓reduceIte] at hx244_0); have qi244 : (1 < (rd_L1 l0 x7_1).length) = True := eq_true (by omega); (try rw [show ((1 : Int)).toNat = 1 from rfl] at hx244_0); replace p244 := eq_true p244; replace q244 := eq_true q244)))
                        go_ret
                        exact ⟨by first | rfl | (simp; done) | (simp [*]; done), by repeat (first | exact Drawn0.refl _ | apply Drawn0.step)⟩
                      · rw [if_neg c12] at H
                        have c12b0 : ((rd (rd_L1 l0 x7_1) 0) == (rd (rd_L1 l0 x7_1) 1)) = false := beq_eq_false_iff_ne.mpr c12
                        have c12b1 : ((rd (rd_L1 l0 x7_1) 0) != (rd (rd_L1 l0 x7_1) 1)) = true := bne_iff_ne.mpr c12
                        have H' := Aside0.mk H
                        clear H
                        have p238 : 0 ≤ (x7_1 : Int) := of_decide_eq_true (by first | (with_reducible assumption) | assumption)
                        have q238 : x7_1 < (l0.length : Int) := of_decide_eq_true (by first | (with_reducible assumption) | assumption)
                        obtain ⟨ad238, A238_0, c238_0, e238, hx238_0, hl238_0, hi238_0⟩ := at_L1 HR0.out x7_1 p238 q238
                        cases e238
                        have HR238_0 := Aside0.mk hi238_0
                        have HC238_0 := Aside0.mk hl238_0
                        clear hi238_0 hl238_0
                        replace p238 := eq_true p238
                        replace q238 := eq_true q238
                        have p239 : 0 ≤ (0 : Int) := (by omega)
                        have q239 : 0 < ((rd_L1 l0 x7_1).length : Int) := of_decide_eq_true (by first | (with_reducible assumption) | assumption)
                        obtain ⟨ad239, e239, hx239_0⟩ := Kd.at_int HR238_0.out 0 p239 q239
                        cases e239
                        have qi239 : (0 < (rd_L1 l0 x7_1).length) = True := eq_true (by omega)
                        (try rw [show ((0 : Int)).toNat = 0 from rfl] at hx239_0)
                        (try rw [Addr.add_zero'] at hx239_0)
                        replace p239 := eq_true p239
                        replace q239 := eq_true q239
                        go_wp2_with (first | (go_at_call 35; (with_reducible refine (impl_within.calls (rd (rd_L1 l0 x7_1) 0) 0 6 true _ A7.out).mono ?_); rintro e w' ⟨rfl, ⟨nd, rfl⟩⟩; (try first | exact ⟨rfl, _, World.drewN_drewN _ _ _⟩ | exact ⟨rfl, _, Eq.trans (World.drewN_drewN _ _ _) (congrArg (World.drewN _) (Nat.add_assoc _ _ _))⟩); have p241 : 0 ≤ (1 : Int) := (by omega); have q241 : 1 < ((rd_L1 l0 x7_1).length : Int) := of_decide_eq_true (by first | (with_reducible assumption) | assumption); obtain ⟨ad241, e241, hx241_0⟩ := Kd.at_int HR238_0.out 1 p241 q241; obtain rfl : ad239 = ad241 := (by injection e241); (try simp only [show (1 : Int).toNat = 1 from rfl, Nat.reduceMul, Nat.reduceEqDiff, Go.Addr.add, ↓reduceIte] at hx241_0); have qi241 : (1 < (rd_L1 l0 x7_1).length) = True := eq_true (by omega); (try rw [show ((1 : Int)).toNat = 1 from rfl] at hx241_0); replace p241 := eq_true p241; replace q241 := eq_true q241) | (go_at_call 35; (with_reducible refine (impl_within.calls (rd (rd_L1 l0 x7_1) 1) 0 6 true _ A10.out).mono ?_); rintro e w' ⟨rfl, ⟨nd, rfl⟩⟩; (try first | exact ⟨rfl, _, World.drewN_drewN _ _ _⟩ | exact ⟨rfl, _, Eq.trans (World.drewN_drewN _ _ _) (congrArg (World.drewN _) (Nat.add_assoc _ _ _))⟩); have p243 : 0 ≤ (0 : Int) := (by omega); have q243 : 0 < ((rd_L1 l0 x7_1).length : Int) := of_decide_eq_true (by first | (with_reducible assumption) | assumption); obtain ⟨ad243, e243, hx243_0⟩ := Kd.at_int HR238_0.out 0 p243 q243; obtain rfl : ad239 = ad243 := (by injection e243); have qi243 : (0 < (rd_L1 l0 x7_1).length) = True := eq_true (by omega); (try rw [show ((0 : Int)).toNat = 0 from rfl] at hx243_0); (try rw [Addr.add_zero'] at hx243_0); replace p243 := eq_true p243; replace q243 := eq_true q243; have p244 : 0 ≤ (1 : Int) := (by omega); have q244 : 1 < ((rd_L1 l0 x7_1).length : Int) := of_decide_eq_true (by first | (with_reducible assumption) | assumption); obtain ⟨ad244, e244, hx244_0⟩ := Kd.at_int HR238_0.out 1 p244 q244; obtain rfl : ad239 = ad244 := (by injection e244); (try simp only [show (1 : Int).toNat = 1 from rfl, Nat.reduceMul, Nat.reduceEqDiff, Go.Addr.add, ↓reduceIte] at hx244_0); have qi244 : (1 < (rd_L1 l0 x7_1).length) = True := eq_true (by omega); (try rw [show ((1 : Int)).toNat = 1 from rfl] at hx244_0); replace p244 := eq_true p244; replace q244 := eq_true q244))
                        repeat (go_quiet (first | (go_at_call 35; (with_reducible refine (impl_within.calls (rd (rd_L1 l0 x7_1) 0) 0 6 true _ A7.out).mono ?_); rintro e w' ⟨rfl, ⟨nd, rfl⟩⟩; (try first | exact ⟨rfl, _, World.drewN_drewN _ _ _⟩ | exact ⟨rfl, _, Eq.trans (World.drewN_drewN _ _ _) (congrArg (World.drewN _) (Nat.add_assoc _ _ _))⟩); have p241 : 0 ≤ (1 : Int) := (by omega); have q241 : 1 < ((rd_L1 l0 x7_1).length : Int) := of_decide_eq_true (by first | (with_reducible assumption) | assumption); obtain ⟨ad241, e241, hx241_0⟩ := Kd.at_int HR238_0.out 1 p241 q241; obtain rfl : ad239 = ad241 := (by injection e241); (try simp only [show (1 : Int).toNat = 1 from rfl, Nat.reduceMul, Nat.reduceEqDiff, Go.Addr.add, ↓reduceIte] at hx241_0); have qi241 : (1 < (rd_L1 l0 x7_1).length) = True := eq_true (by omega); (try rw [show ((1 : Int)).toNat = 1 from rfl] at hx241_0); replace p241 := eq_true p241; replace q241 := eq_true q241) | (go_at_call 35; (with_reducible refine (impl_within.calls (rd (rd_L1 l0 x7_1) 1) 0 6 true _ A10.out).mono ?_); rintro e w' ⟨rfl, ⟨nd, rfl⟩⟩; (try first | exact ⟨rfl, _, World.drewN_drewN _ _ _⟩ | exact ⟨rfl, _, Eq.trans (World.drewN_drewN _ _ _) (congrArg (World.drewN _) (Nat.add_assoc _ _ _))⟩); have p243 : 0 ≤ (0 : Int) := (by omega); have q243 : 0 < ((rd_L1 l0 x7_1).length : Int) := of_decide_eq_true (by first | (with_reducible assumption) | assumption); obtain ⟨ad243, e243, hx243_0⟩ := Kd.at_int HR238_0.out 0 p243 q243; obtain rfl : ad239 = ad243 := (by injection e243); have qi243 : (0 < (rd_L1 l0 x7_1).length) = True := eq_true (by omega); (try rw [show ((0 : Int)).toNat = 0 from rfl] at hx243_0); (try rw [Addr.add_zero'] at hx243_0); replace p243 := eq_true p243; replace q243 := eq_true q243; have p244 : 0 ≤ (1 : Int) := (by omega); have q244 : 1 < ((rd_L1 l0 x7_1).length : Int) := of_decide_eq_true (by first | (with_reducible assumption) | assumption); obtain ⟨ad244, e244, hx244_0⟩ := Kd.at_int HR238_0.out 1 p244 q244; obtain rfl : ad239 = ad244 := (by injection e244); (try simp only [show (1 : Int).toNat = 1 from rfl, Nat.reduceMul, Nat.reduceEqDiff, Go.Addr.add, ↓reduceIte] at hx244_0); have qi244 : (1 < (rd_L1 l0 x7_1).length) = True := eq_true (by omega); (try rw [show ((1 : Int)).toNat = 1 from rfl] at hx244_0); replace p244 := eq_true p244; replace q244 := eq_true q244)); try go_wp2_with (first | (go_at_call 35; (with_reducible refine (impl_within.calls (rd (rd_L1 l0 x7_1) 0) 0 6 true _ A7.out).mono ?_); rintro e w' ⟨rfl, ⟨nd, rfl⟩⟩; (try first | exact ⟨rfl, _, World.drewN_drewN _ _ _⟩ | exact ⟨rfl, _, Eq.trans (World.drewN_drewN _ _ _) (congrArg (World.drewN _) (Nat.add_assoc _ _ _))⟩); have p241 : 0 ≤ (1 : Int) := (by omega); have q241 : 1 < ((rd_L1 l0 x7_1).length : Int) := of_decide_eq_true (by first | (with_reducible assumption) | assumption); obtain ⟨ad241, e241, hx241_0⟩ := Kd.at_int HR238_0.out 1 p241 q241; obtain rfl : ad239 = ad241 := (by injection e241); (try simp only [show (1 : Int).toNat = 1 from rfl, Nat.reduceMul, Nat.reduceEqDiff, Go.Addr.add, ↓reduceIte] at hx241_0); have qi241 : (1 < (rd_L1 l0 x7_1).length) = True := eq_true (by omega); (try rw [show ((1 : Int)).toNat = 1 from rfl] at hx241_0); replace p241 := eq_true p241; replace q241 := eq_true q241) | (go_at_call 35; (with_reducible refine (impl_within.calls (rd (rd_L1 l0 x7_1) 1) 0 6 true _ A10.out).mono ?_); rintro e w' ⟨rfl, ⟨nd, rfl⟩⟩; (try first | exact ⟨rfl, _, World.drewN_drewN _ _ _⟩ | exact ⟨rfl, _, Eq.trans (World.drewN_drewN _ _ _) (congrArg (World.drewN _) (Nat.add_assoc _ _ _))⟩); have p243 : 0 ≤ (0 : Int) := (by omega); have q243 : 0 < ((rd_L1 l0 x7_1).length : Int) := of_decide_eq_true (by first | (with_reducible assumption) | assumption); obtain ⟨ad243, e243, hx243_0⟩ := Kd.at_int HR238_0.out 0 p243 q243; obtain rfl : ad239 = ad243 := (by injection e243); have qi243 : (0 < (rd_L1 l0 x7_1).length) = True := eq_true (by omega); (try rw [show ((0 : Int)).toNat = 0 from rfl] at hx243_0); (try rw [Addr.add_zero'] at hx243_0); replace p243 := eq_true p243; replace q243 := eq_true q243; have p244 : 0 ≤ (1 : Int) := (by omega); have q244 : 1 < ((rd_L1 l0 x7_1).length : Int) := of_decide_eq_true (by first | (with_reducible assumption) | assumption); obtain ⟨ad244, e244, hx244_0⟩ := Kd.at_int HR238_0.out 1 p244 q244; obtain rfl : ad239 = ad244 := (by injection e244); (try simp only [show (1 : Int).toNat = 1 from rfl, Nat.reduceMul, Nat.reduceEqDiff, Go.Addr.add, ↓reduceIte] at hx244_0); have qi244 : (1 < (rd_L1 l0 x7_1).length) = True := eq_true (by omega); (try rw [show ((1 : Int)).toNat = 1 from rfl] at hx244_0); replace p244 := eq_true p244; replace q244 := eq_true q244)))
                        go_roundg k1
                        case measure => have := HK1.out; omega
                        case rel => exact ⟨(wrap64 (x7_1 + 1)), (by first | rfl | (simp; done) | (simp [*]; done)), H', ⟨by have := HK1.out; omega⟩, by repeat (first | exact Drawn0.refl _ | apply Drawn0.step)⟩
                    · replace c11 := Bool.eq_false_iff.mpr c11
                      subst c11
                      have H1 : (some false) = some r := by rw [if_neg (show ¬ (false = true) by decide)] at H; exact H
                      clear H
                      have H := H1
                      clear H1
                      obtain rfl := Option.some.inj H
                      have p238 : 0 ≤ (x7_1 : Int) := of_decide_eq_true (by first | (with_reducible assumption) | assumption)
                      have q238 : x7_1 < (l0.length : Int) := of_decide_eq_true (by first | (with_reducible assumption) | assumption)
                      obtain ⟨ad238, A238_0, c238_0, e238, hx238_0, hl238_0, hi238_0⟩ := at_L1 HR0.out x7_1 p238 q238
                      cases e238
                      have HR238_0 := Aside0.mk hi238_0
                      have HC238_0 := Aside0.mk hl238_0
                      clear hi238_0 hl238_0
                      replace p238 := eq_true p238
                      replace q238 := eq_true q238
                      have p239 : 0 ≤ (0 : Int) := (by omega)
                      have q239 : 0 < ((rd_L1 l0 x7_1).length : Int) := of_decide_eq_true (by first | (with_reducible assumption) | assumption)
                      obtain ⟨ad239, e239, hx239_0⟩ := Kd.at_int HR238_0.out 0 p239 q239
                      cases e239
                      have qi239 : (0 < (rd_L1 l0 x7_1).length) = True := eq_true (by omega)
                      (try rw [show ((0 : Int)).toNat = 0 from rfl] at hx239_0)
                      (try rw [Addr.add_zero'] at hx239_0)
                      replace p239 := eq_true p239
                      replace q239 := eq_true q239
                      go_wp2_with (first | (go_at_call 35; (with_reducible refine (impl_within.calls (rd (rd_L1 l0 x7_1) 0) 0 6 true _ A7.out).mono ?_); rintro e w' ⟨rfl, ⟨nd, rfl⟩⟩; (try first | exact ⟨rfl, _, World.drewN_drewN _ _ _⟩ | exact ⟨rfl, _, Eq.trans (World.drewN_drewN _ _ _) (congrArg (World.drewN _) (Nat.add_assoc _ _ _))⟩); have p241 : 0 ≤ (1 : Int) := (by omega); have q241 : 1 < ((rd_L1 l0 x7_1).length : Int) := of_decide_eq_true (by first | (with_reducible assumption) | assumption); obtain ⟨ad241, e241, hx241_0⟩ := Kd.at_int HR238_0.out 1 p241 q241; obtain rfl : ad239 = ad241 := (by injection e241); (try simp only [show (1 : Int).toNat = 1 from rfl, Nat.reduceMul, Nat.reduceEqDiff, Go.Addr.add, ↓reduceIte] at hx241_0); have qi241 : (1 < (rd_L1 l0 x7_1).length) = True := eq_true (by omega); (try rw [show ((1 : Int)).toNat = 1 from rfl] at hx241_0); replace p241 := eq_true p241; replace q241 := eq_true q241) | (go_at_call 35; (with_reducible refine (impl_within.calls (rd (rd_L1 l0 x7_1) 1) 0 6 false _ A10.out).mono ?_); rintro e w' ⟨rfl, ⟨nd, rfl⟩⟩; (try first | exact ⟨rfl, _, World.drewN_drewN _ _ _⟩ | exact ⟨rfl, _, Eq.trans (World.drewN_drewN _ _ _) (congrArg (World.drewN _) (Nat.add_assoc _ _ _))⟩)))
                      repeat (go_quiet (first | (go_at_call 35; (with_reducible refine (impl_within.calls (rd (rd_L1 l0 x7_1) 0) 0 6 true _ A7.out).mono ?_); rintro e w' ⟨rfl, ⟨nd, rfl⟩⟩; (try first | exact ⟨rfl, _, World.drewN_drewN _ _ _⟩ | exact ⟨rfl, _, Eq.trans (World.drewN_drewN _ _ _) (congrArg (World.drewN _) (Nat.add_assoc _ _ _))⟩); have p241 : 0 ≤ (1 : Int) := (by omega); have q241 : 1 < ((rd_L1 l0 x7_1).length : Int) := of_decide_eq_true (by first | (with_reducible assumption) | assumption); obtain ⟨ad241, e241, hx241_0⟩ := Kd.at_int HR238_0.out 1 p241 q241; obtain rfl : ad239 = ad241 := (by injection e241); (try simp only [show (1 : Int).toNat = 1 from rfl, Nat.reduceMul, Nat.reduceEqDiff, Go.Addr.add, ↓reduceIte] at hx241_0); have qi241 : (1 < (rd_L1 l0 x7_1).length) = True := eq_true (by omega); (try rw [show ((1 : Int)).toNat = 1 from rfl] at hx241_0); replace p241 := eq_true p241; replace q241 := eq_true q241) | (go_at_call 35; (with_reducible refine (impl_within.calls (rd (rd_L1 l0 x7_1) 1) 0 6 false _ A10.out).mono ?_); rintro e w' ⟨rfl, ⟨nd, rfl⟩⟩; (try first | exact ⟨rfl, _, World.drewN_drewN _ _ _⟩ | exact ⟨rfl, _, Eq.trans (World.drewN_drewN _ _ _) (congrArg (World.drewN _) (Nat.add_assoc _ _ _))⟩))); try go_wp2_with (first | (go_at_call 35; (with_reducible refine (impl_within.calls (rd (rd_L1 l0 x7_1) 0) 0 6 true _ A7.out).mono ?_); rintro e w' ⟨rfl, ⟨nd, rfl⟩⟩; (try first | exact ⟨rfl, _, World.drewN_drewN _ _ _⟩ | exact ⟨rfl, _, Eq.trans (World.drewN_drewN _ _ _) (congrArg (World.drewN _) (Nat.add_assoc _ _ _))⟩); have p241 : 0 ≤ (1 : Int) := (by omega); have q241 : 1 < ((rd_L1 l0 x7_1).length : Int) := of_decide_eq_true (by first | (with_reducible assumption) | assumption); obtain ⟨ad241, e241, hx241_0⟩ := Kd.at_int HR238_0.out 1 p241 q241; obtain rfl : ad239 = ad241 := (by injection e241); (try simp only [show (1 : Int).toNat = 1 from rfl, Nat.reduceMul, Nat.reduceEqDiff, Go.Addr.add, ↓reduceIte] at hx241_0); have qi241 : (1 < (rd_L1 l0 x7_1).length) = True := eq_true (by omega); (try rw [show ((1 : Int)).toNat = 1 from rfl] at hx241_0); replace p241 := eq_true p241; replace q241 := eq_true q241) | (go_at_call 35; (with_reducible refine (impl_within.calls (rd (rd_L1 l0 x7_1) 1) 0 6 false _ A10.out).mono ?_); rintro e w' ⟨rfl, ⟨nd, rfl⟩⟩; (try first | exact ⟨rfl, _, World.drewN_drewN _ _ _⟩ | exact ⟨rfl, _, Eq.trans (World.drewN_drewN _ _ _) (congrArg (World.drewN _) (Nat.add_assoc _ _ _))⟩))))
                      go_ret
                      exact ⟨by first | rfl | (simp; done) | (simp [*]; done), by repeat (first | exact Drawn0.refl _ | apply Drawn0.step)⟩
                  · rw [if_neg c9] at H
                    exact absurd H (by simp)
                · replace c8 := Bool.eq_false_iff.mpr c8
                  subst c8
                  have H1 : (some false) = some r := by rw [if_neg (show ¬ (false = true) by decide)] at H; exact H
                  clear H
                  have H := H1
                  clear H1
                  obtain rfl := Option.some.inj H
                  have p238 : 0 ≤ (x7_1 : Int) := of_decide_eq_true (by first | (with_reducible assumption) | assumption)
                  have q238 : x7_1 < (l0.length : Int) := of_decide_eq_true (by first | (with_reducible assumption) | assumption)
                  obtain ⟨ad238, A238_0, c238_0, e238, hx238_0, hl238_0, hi238_0⟩ := at_L1 HR0.out x7_1 p238 q238
                  cases e238
                  have HR238_0 := Aside0.mk hi238_0
                  have HC238_0 := Aside0.mk hl238_0
                  clear hi238_0 hl238_0
                  replace p238 := eq_true p238
                  replace q238 := eq_true q238
                  have p239 : 0 ≤ (0 : Int) := (by omega)
                  have q239 : 0 < ((rd_L1 l0 x7_1).length : Int) := of_decide_eq_true (by first | (with_reducible assumption) | assumption)
                  obtain ⟨ad239, e239, hx239_0⟩ := Kd.at_int HR238_0.out 0 p239 q239
                  cases e239
                  have qi239 : (0 < (rd_L1 l0 x7_1).length) = True := eq_true (by omega)
                  (try rw [show ((0 : Int)).toNat = 0 from rfl] at hx239_0)
                  (try rw [Addr.add_zero'] at hx239_0)
                  replace p239 := eq_true p239
                  replace q239 := eq_true q239
                  go_wp2_with (first | (go_at_call 35; (with_reducible refine (impl_within.calls (rd (rd_L1 l0 x7_1) 0) 0 6 false _ A7.out).mono ?_); rintro e w' ⟨rfl, ⟨nd, rfl⟩⟩; (try first | exact ⟨rfl, _, World.drewN_drewN _ _ _⟩ | exact ⟨rfl, _, Eq.trans (World.drewN_drewN _ _ _) (congrArg (World.drewN _) (Nat.add_assoc _ _ _))⟩)))
                  repeat (go_quiet (first | (go_at_call 35; (with_reducible refine (impl_within.calls (rd (rd_L1 l0 x7_1) 0) 0 6 false _ A7.out).mono ?_); rintro e w' ⟨rfl, ⟨nd, rfl⟩⟩; (try first | exact ⟨rfl, _, World.drewN_drewN _ _ _⟩ | exact ⟨rfl, _, Eq.trans (World.drewN_drewN _ _ _) (congrArg (World.drewN _) (Nat.add_assoc _ _ _))⟩))); try go_wp2_with (first | (go_at_call 35; (with_reducible refine (impl_within.calls (rd (rd_L1 l0 x7_1) 0) 0 6 false _ A7.out).mono ?_); rintro e w' ⟨rfl, ⟨nd, rfl⟩⟩; (try first | exact ⟨rfl, _, World.drewN_drewN _ _ _⟩ | exact ⟨rfl, _, Eq.trans (World.drewN_drewN _ _ _) (congrArg (World.drewN _) (Nat.add_assoc _ _ _))⟩))))
                  go_ret
                  exact ⟨by first | rfl | (simp; done) | (simp [*]; done), by repeat (first | exact Drawn0.refl _ | apply Drawn0.step)⟩
              · rw [if_neg c6] at H
                exact absurd H (by simp)
            · rw [if_neg c5] at H
              have c5b0 : (((rd_L1 l0 x7_1).length : Int) == 2) = false := beq_eq_false_iff_ne.mpr c5
              have c5b1 : (((rd_L1 l0 x7_1).length : Int) != 2) = true := bne_iff_ne.mpr c5
              obtain rfl := Option.some.inj H
              have p238 : 0 ≤ (x7_1 : Int) := of_decide_eq_true (by first | (with_reducible assumption) | assumption)
              have q238 : x7_1 < (l0.length : Int) := of_decide_eq_true (by first | (with_reducible assumption) | assumption)
              obtain ⟨ad238, A238_0, c238_0, e238, hx238_0, hl238_0, hi238_0⟩ := at_L1 HR0.out x7_1 p238 q238
              cases e238
              have HR238_0 := Aside0.mk hi238_0
              have HC238_0 := Aside0.mk hl238_0
              clear hi238_0 hl238_0
              replace p238 := eq_true p238
              replace q238 := eq_true q238
              go_wp2
              repeat (go_quiet (fail); try go_wp2)
              go_ret
              exact ⟨by first | rfl | (simp; done) | (simp [*]; done), by repeat (first | exact Drawn0.refl _ | apply Drawn0.step)⟩
          · rw [if_neg c4] at H
            exact absurd H (by simp)
        · rw [if_neg c3] at H
          exact absurd H (by simp)
      · rw [if_neg c2] at H
        have c2b0 : decide (x7_1 < (l0.length : Int)) = false := decide_eq_false c2
        clear c2
        replace H := Option.bind_eq_some_iff.mp H
        obtain ⟨t237, A130, H⟩ := H
        replace H : (some t237) = some r := H
        have A13 := Aside0.mk A130
        clear A130
        obtain rfl := Option.some.inj H
        go_wp2_with (first | (go_at_call 35; (with_reducible refine (impl_within.calls (l0.length : Int) 1 10 t237 _ A13.out).mono ?_); rintro e w' ⟨rfl, ⟨nd, rfl⟩⟩; (try first | exact ⟨rfl, _, World.drewN_drewN _ _ _⟩ | exact ⟨rfl, _, Eq.trans (World.drewN_drewN _ _ _) (congrArg (World.drewN _) (Nat.add_assoc _ _ _))⟩)))
        repeat (go_quiet (first | (go_at_call 35; (with_reducible refine (impl_within.calls (l0.length : Int) 1 10 t237 _ A13.out).mono ?_); rintro e w' ⟨rfl, ⟨nd, rfl⟩⟩; (try first | exact ⟨rfl, _, World.drewN_drewN _ _ _⟩ | exact ⟨rfl, _, Eq.trans (World.drewN_drewN _ _ _) (congrArg (World.drewN _) (Nat.add_assoc _ _ _))⟩))); try go_wp2_with (first | (go_at_call 35; (with_reducible refine (impl_within.calls (l0.length : Int) 1 10 t237 _ A13.out).mono ?_); rintro e w' ⟨rfl, ⟨nd, rfl⟩⟩; (try first | exact ⟨rfl, _, World.drewN_drewN _ _ _⟩ | exact ⟨rfl, _, Eq.trans (World.drewN_drewN _ _ _) (congrArg (World.drewN _) (Nat.add_assoc _ _ _))⟩))))
        go_ret
        exact ⟨by first | rfl | (simp; done) | (simp [*]; done), by repeat (first | exact Drawn0.refl _ | apply Drawn0.step)⟩

end Go.Proofs.Ytnfaejmmbldaeaa.PFnExactLeastGenus
