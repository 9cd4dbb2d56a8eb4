-- written by a copy of the print that takes contracts by hand (stubprint.py)
import Derived.Test.YtlbjgdkmkdpopaaPFnExactCountCoversx0
import Derived.Test.YtlbjgdkmkdpopaaPFnExactCountCoversx1
import Derived.Test.YtlbjgdkmkdpopaaPFnExactCountCoversx3
import Derived.Test.YtlbjgdkmkdpopaaPFnExactCountCoversx4
namespace Go.Proofs.Ytlbjgdkmkdpopaa.PFnExactCountCovers
open Go.RowKit Go.Proofs.YtlbjgdkmkdpopaaW.PrintWords Go.Proofs.YtlbjgdkmkdpopaaW.PrintLast Go.Proofs.YtlbjgdkmkdpopaaW.PrintMore
attribute [local go_sem] max2_int min2_int max_two min_two max_three min_three max_four min_four   -- for this text's walks alone
set_option linter.unusedVariables false
set_option linter.unusedSimpArgs false

/-! ### spec_l9Parts: function 35 -/
mutual
def spec_l9Parts.l0 : Nat → List (List Int) → List Int → Int → Option ((List (List Int)))
  | 0, _, _, _ => none
  | k + 1, x0, x3, x4 => if 0 < (x0.length : Int) then (if x4 < ((rd_L1 x0 0).length : Int) then (if x3.length < 17592186044416 then (spec_l9Parts.l0 k x0 (x3 ++ [x4]) (wrap64 (x4 + 1))) else (none)) else (spec_l9Parts.l1 k x0 x3 0)) else (none)
def spec_l9Parts.l1 : Nat → List (List Int) → List Int → Int → Option ((List (List Int)))
  | 0, _, _, _ => none
  | k + 1, x0, x3, x5 => if x5 < (x0.length : Int) then (spec_l9Parts.l2 k x0 x3 x5 0) else (spec_l9Parts.l3 k x3 (([] : List (List Int))) 0)
def spec_l9Parts.l2 : Nat → List (List Int) → List Int → Int → Int → Option ((List (List Int)))
  | 0, _, _, _, _ => none
  | k + 1, x0, x3, x5, x6 => if x6 < (x3.length : Int) then ((spec_l3Find.f k x3 x6).bind fun t226 => (if 0 ≤ x5 then (if x5 < (x0.length : Int) then (if 0 ≤ x6 then (if x6 < ((rd_L1 x0 x5).length : Int) then ((spec_l3Find.f k x3 (rd (rd_L1 x0 x5) x6)).bind fun t229 => ((spec_l1Max.f t226 t229).bind fun t230 => ((spec_l1Min.f t226 t229).bind fun t231 => (if 0 ≤ t230 then (if t230 < (x3.length : Int) then (spec_l9Parts.l2 k x0 (x3.set (t230 : Int).toNat t231) x5 (wrap64 (x6 + 1))) else (none)) else (none))))) else (none)) else (none)) else (none)) else (none))) else (spec_l9Parts.l1 k x0 x3 (wrap64 (x5 + 1)))
def spec_l9Parts.l3 : Nat → List Int → List (List Int) → Int → Option ((List (List Int)))
  | 0, _, _, _ => none
  | k + 1, x3, x9, x10 => if x10 < (x3.length : Int) then (if 0 ≤ x10 then (if (rd x3 x10) = x10 then (spec_l9Parts.l4 k x3 x9 x10 (([] : List Int)) 0) else (spec_l9Parts.l3 k x3 x9 (wrap64 (x10 + 1)))) else (none)) else (some x9)
def spec_l9Parts.l4 : Nat → List Int → List (List Int) → Int → List Int → Int → Option ((List (List Int)))
  | 0, _, _, _, _, _ => none
  | k + 1, x3, x9, x10, x11, x12 => if x12 < (x3.length : Int) then ((spec_l3Find.f k x3 x12).bind fun t240 => (if t240 = x10 then (if x11.length < 17592186044416 then (spec_l9Parts.l4 k x3 x9 x10 (x11 ++ [x12]) (wrap64 (x12 + 1))) else (none)) else (spec_l9Parts.l4 k x3 x9 x10 x11 (wrap64 (x12 + 1))))) else (if x9.length < 5864062014805 then (spec_l9Parts.l3 k x3 (x9 ++ [x11]) (wrap64 (x10 + 1))) else (none))
end
def spec_l9Parts.f (k : Nat) (l0 : List (List Int)) : Option ((List (List Int))) := spec_l9Parts.l0 k l0 (([] : List Int)) 0
theorem spec_l9Parts.mono_l : ∀ k, (∀ y0 y1 y2, LeO (spec_l9Parts.l0 k y0 y1 y2) (spec_l9Parts.l0 (k + 1) y0 y1 y2)) ∧ (∀ y0 y1 y2, LeO (spec_l9Parts.l1 k y0 y1 y2) (spec_l9Parts.l1 (k + 1) y0 y1 y2)) ∧ (∀ y0 y1 y2 y3, LeO (spec_l9Parts.l2 k y0 y1 y2 y3) (spec_l9Parts.l2 (k + 1) y0 y1 y2 y3)) ∧ (∀ y0 y1 y2, LeO (spec_l9Parts.l3 k y0 y1 y2) (spec_l9Parts.l3 (k + 1) y0 y1 y2)) ∧ (∀ y0 y1 y2 y3 y4, LeO (spec_l9Parts.l4 k y0 y1 y2 y3 y4) (spec_l9Parts.l4 (k + 1) y0 y1 y2 y3 y4))
  | 0 => ⟨fun _ _ _ r h => by simp [spec_l9Parts.l0] at h, fun _ _ _ r h => by simp [spec_l9Parts.l1] at h, fun _ _ _ _ r h => by simp [spec_l9Parts.l2] at h, fun _ _ _ r h => by simp [spec_l9Parts.l3] at h, fun _ _ _ _ _ r h => by simp [spec_l9Parts.l4] at h⟩
  | k + 1 => by
    obtain ⟨ih0, ih1, ih2, ih3, ih4⟩ := spec_l9Parts.mono_l k
    refine ⟨?_, ?_, ?_, ?_, ?_⟩
    · intro y0 y1 y2
      unfold spec_l9Parts.l0
      repeat' first
      | (with_reducible exact ih0 _ _ _)
      | (with_reducible exact ih1 _ _ _)
      | (with_reducible exact ih2 _ _ _ _)
      | (with_reducible exact ih3 _ _ _)
      | (with_reducible exact ih4 _ _ _ _ _)
      | (with_reducible exact spec_l3Find.mono _ _ _)
      | (with_reducible exact LeO.refl _)
      | (with_reducible exact LeO.none _)
      | (with_reducible refine LeO.ite ?_ ?_)
      | (with_reducible refine LeO.bind ?_ (fun _ => ?_))
      | exact ih0 _ _ _
      | exact ih1 _ _ _
      | exact ih2 _ _ _ _
      | exact ih3 _ _ _
      | exact ih4 _ _ _ _ _
      | exact spec_l3Find.mono _ _ _
      | exact LeO.none _
      | refine LeO.ite ?_ ?_
      | refine LeO.bind ?_ (fun _ => ?_)
    · intro y0 y1 y2
      unfold spec_l9Parts.l1
      repeat' first
      | (with_reducible exact ih0 _ _ _)
      | (with_reducible exact ih1 _ _ _)
      | (with_reducible exact ih2 _ _ _ _)
      | (with_reducible exact ih3 _ _ _)
      | (with_reducible exact ih4 _ _ _ _ _)
      | (with_reducible exact spec_l3Find.mono _ _ _)
      | (with_reducible exact LeO.refl _)
      | (with_reducible exact LeO.none _)
      | (with_reducible refine LeO.ite ?_ ?_)
      | (with_reducible refine LeO.bind ?_ (fun _ => ?_))
      | exact ih0 _ _ _
      | exact ih1 _ _ _
      | exact ih2 _ _ _ _
      | exact ih3 _ _ _
      | exact ih4 _ _ _ _ _
      | exact spec_l3Find.mono _ _ _
      | exact LeO.none _
      | refine LeO.ite ?_ ?_
      | refine LeO.bind ?_ (fun _ => ?_)
    · intro y0 y1 y2 y3
      unfold spec_l9Parts.l2
      repeat' first
      | (with_reducible exact ih0 _ _ _)
      | (with_reducible exact ih1 _ _ _)
      | (with_reducible exact ih2 _ _ _ _)
      | (with_reducible exact ih3 _ _ _)
      | (with_reducible exact ih4 _ _ _ _ _)
      | (with_reducible exact spec_l3Find.mono _ _ _)
      | (with_reducible exact LeO.refl _)
      | (with_reducible exact LeO.none _)
      | (with_reducible refine LeO.ite ?_ ?_)
      | (with_reducible refine LeO.bind ?_ (fun _ => ?_))
      | exact ih0 _ _ _
      | exact ih1 _ _ _
      | exact ih2 _ _ _ _
      | exact ih3 _ _ _
      | exact ih4 _ _ _ _ _
      | exact spec_l3Find.mono _ _ _
      | exact LeO.none _
      | refine LeO.ite ?_ ?_
      | refine LeO.bind ?_ (fun _ => ?_)
    · intro y0 y1 y2
      unfold spec_l9Parts.l3
      repeat' first
      | (with_reducible exact ih0 _ _ _)
      | (with_reducible exact ih1 _ _ _)
      | (with_reducible exact ih2 _ _ _ _)
      | (with_reducible exact ih3 _ _ _)
      | (with_reducible exact ih4 _ _ _ _ _)
      | (with_reducible exact spec_l3Find.mono _ _ _)
      | (with_reducible exact LeO.refl _)
      | (with_reducible exact LeO.none _)
      | (with_reducible refine LeO.ite ?_ ?_)
      | (with_reducible refine LeO.bind ?_ (fun _ => ?_))
      | exact ih0 _ _ _
      | exact ih1 _ _ _
      | exact ih2 _ _ _ _
      | exact ih3 _ _ _
      | exact ih4 _ _ _ _ _
      | exact spec_l3Find.mono _ _ _
      | exact LeO.none _
      | refine LeO.ite ?_ ?_
      | refine LeO.bind ?_ (fun _ => ?_)
    · intro y0 y1 y2 y3 y4
      unfold spec_l9Parts.l4
      repeat' first
      | (with_reducible exact ih0 _ _ _)
      | (with_reducible exact ih1 _ _ _)
      | (with_reducible exact ih2 _ _ _ _)
      | (with_reducible exact ih3 _ _ _)
      | (with_reducible exact ih4 _ _ _ _ _)
      | (with_reducible exact spec_l3Find.mono _ _ _)
      | (with_reducible exact LeO.refl _)
      | (with_reducible exact LeO.none _)
      | (with_reducible refine LeO.ite ?_ ?_)
      | (with_reducible refine LeO.bind ?_ (fun _ => ?_))
      | exact ih0 _ _ _
      | exact ih1 _ _ _
      | exact ih2 _ _ _ _
      | exact ih3 _ _ _
      | exact ih4 _ _ _ _ _
      | exact spec_l3Find.mono _ _ _
      | exact LeO.none _
      | refine LeO.ite ?_ ?_
      | refine LeO.bind ?_ (fun _ => ?_)
theorem spec_l9Parts.mono : ∀ a0 k, LeO (spec_l9Parts.f k a0) (spec_l9Parts.f (k + 1) a0) := by
  intro a0 k
  obtain ⟨ih0, ih1, ih2, ih3, ih4⟩ := spec_l9Parts.mono_l k
  unfold spec_l9Parts.f
  repeat' first
      | (with_reducible exact ih0 _ _ _)
      | (with_reducible exact ih1 _ _ _)
      | (with_reducible exact ih2 _ _ _ _)
      | (with_reducible exact ih3 _ _ _)
      | (with_reducible exact ih4 _ _ _ _ _)
      | (with_reducible exact spec_l3Find.mono _ _ _)
      | (with_reducible exact LeO.refl _)
      | (with_reducible exact LeO.none _)
      | (with_reducible refine LeO.ite ?_ ?_)
      | (with_reducible refine LeO.bind ?_ (fun _ => ?_))
      | exact ih0 _ _ _
      | exact ih1 _ _ _
      | exact ih2 _ _ _ _
      | exact ih3 _ _ _
      | exact ih4 _ _ _ _ _
      | exact spec_l3Find.mono _ _ _
      | exact LeO.none _
      | refine LeO.ite ?_ ?_
      | refine LeO.bind ?_ (fun _ => ?_)
set_option maxHeartbeats 8000000 in
set_option maxRecDepth 100000 in
theorem spec_l9Parts.calls (k : Nat) (A0 : Option Addr) (c0 : Nat) (l0 : List (List Int)) (r : List (List Int)) (w : World) (hr0 : Kd.C (Kd.slice 3 (Kd.int .i64)) w A0 l0.length l0) (hc0 : l0.length ≤ c0) (h : spec_l9Parts.f k l0 = some r) :
    Calls Try.prog 35 #[.slice A0 l0.length c0] w fun e w' => ∃ v0_ : Value, e = .returned (v0_) ∧ Kd.S (Kd.slice 3 (Kd.int .i64)) 37 w' w.heap.size (fun _ => True) v0_ r ∧ Below w.heap.size w w' := by
  have HR0 := Aside0.mk hr0
  have HC0 := Aside0.mk hc0
  clear hr0 hc0
  have HB := Aside0.mk (Below.refl w.heap.size w)
  have H : (spec_l9Parts.l0 k l0 (([] : List Int)) 0) = some r := h
  clear h
  obtain ⟨y219, hy219⟩ : ∃ y_ : List Int, y_ = (([] : List Int)) := ⟨_, rfl⟩
  replace H : (spec_l9Parts.l0 k l0 y219 0) = some r := by first | (rw [hy219]; with_reducible exact H) | (have H2_ := (Option.bind_some _ _).symm.trans H; rw [hy219]; with_reducible exact H2_) | (have H2_ := (Option.bind_some _ _).symm.trans H; with_reducible exact H2_) | with_reducible exact H | (rw [hy219]; exact H) | exact H
  have Ny219 := Aside0.mk hy219
  clear hy219
  have H' := Aside0.mk H
  clear H
  go_enter Try.func35, Try.ntmps35
  go_wp2_with (first | ((with_reducible refine gate_dst (N := 13) rfl ?_); refine Kd.R_lit (Kd.int .i64) _ 3 ?hg (N := 13) ?hd (xs := ([] : List Int)) (inner := []) (ok := fun _ => True) (okp := fun _ => True) ?hr ?hp (fun _ hk => hk) trivial (Below.refl _ _) (Nat.le_refl _) (by simp) ?_; (case hd => rfl); (case hg => rfl); (case hr => first | (go_simp; done) | (go_simp; rfl)); (case hp => exact (Reps.none _ _)); intro v220 w2 ho3 hb hg_ hnew_; clear hg_ hnew_; (first | rw [← Ny219.out] at ho3 | (simp only [Int.reduceToNat] at ho3; rw [← Ny219.out] at ho3)); have n0_ := Aside0.mk (Kd.R_lower ho3 (below_size (by repeat (first | (with_reducible first | exact HB.out | apply below_alloc | apply pw_below_drewN | apply below_drew1) | exact HB.out)))); have n1_ := Aside0.mk (below_step (by repeat (first | (with_reducible first | exact HB.out | apply below_alloc | apply pw_below_drewN | apply below_drew1) | exact HB.out)) hb); clear HB; have HO221 := n0_; have HB := n1_; clear n0_ n1_; clear hb ho3))
  go_loopg [3, 4] k (fun kq v3 v4 w' => ∃ (x3_1 : List Int) (x4_1 : Int), v4 = .int .i64 x4_1 ∧ Aside0 (spec_l9Parts.l0 kq l0 x3_1 x4_1 = some r) ∧ Aside0 (kq ≤ k) ∧ Aside0 (Kd.R (Kd.int .i64) 3 w' w.heap.size (fun _ => True) v3 x3_1) ∧ Aside0 (Below w.heap.size w w'))
  case atStart => exact ⟨(y219), (0), (by first | rfl | (simp; done) | (simp [*]; done)), H', ⟨Nat.le_refl _⟩, ⟨by (with_reducible repeat (first | apply Kd.R_alloc | apply Kd.R_drewN | apply Kd.R_drew)); exact HO221.out⟩, ⟨by repeat (first | (with_reducible first | exact HB.out | apply below_alloc | apply pw_below_drewN | apply below_drew1) | exact HB.out)⟩⟩
  case round =>
    clear H'
    try clear p2
    try clear c3
    obtain ⟨x3_1, x4_1, rfl, HA, HK1, HO_3, HB⟩ := hrel
    cases gk with
    | zero => exact absurd HA.out (by simp [spec_l9Parts.l0])
    | succ k1 =>
      have H := HA.out
      clear HA
      simp only [spec_l9Parts.l0] at H
      by_cases c4 : 0 < (l0.length : Int)
      · rw [if_pos c4] at H
        have c4b0 : decide (0 < (l0.length : Int)) = true := decide_eq_true c4
        have c4b1 : decide (0 < l0.length) = true := decide_eq_true (by omega)
        clear c4
        by_cases c5 : x4_1 < ((rd_L1 l0 0).length : Int)
        · rw [if_pos c5] at H
          have c5b0 : decide (x4_1 < ((rd_L1 l0 0).length : Int)) = true := decide_eq_true c5
          clear c5
          by_cases c6 : x3_1.length < 17592186044416
          · rw [if_pos c6] at H
            have LMc6 := Aside0.mk c6
            clear c6
            obtain ⟨y223, hy223⟩ : ∃ y_ : List Int, y_ = (x3_1 ++ [x4_1]) := ⟨_, rfl⟩
            replace H : (spec_l9Parts.l0 k1 l0 y223 (wrap64 (x4_1 + 1))) = some r := by first | (rw [hy223]; with_reducible exact H) | (have H2_ := (Option.bind_some _ _).symm.trans H; rw [hy223]; with_reducible exact H2_) | (have H2_ := (Option.bind_some _ _).symm.trans H; with_reducible exact H2_) | with_reducible exact H | (rw [hy223]; exact H) | exact H
            have Ny223 := Aside0.mk hy223
            clear hy223
            have H' := Aside0.mk H
            clear H
            have p222 : 0 ≤ (0 : Int) := (by omega)
            have q222 : 0 < (l0.length : Int) := of_decide_eq_true (by first | (with_reducible assumption) | assumption)
            obtain ⟨ad222, A222_0, c222_0, e222, hx222_0, hl222_0, hi222_0⟩ := at_L1 HR0.out 0 p222 q222
            cases e222
            have qi222 : (0 < l0.length) = True := eq_true (by omega)
            (try rw [show ((0 : Int)).toNat = 0 from rfl] at hx222_0)
            (try rw [Addr.add_zero'] at hx222_0)
            replace hx222_0 := (HB.out.cell (World.block_lt_of_cell? w _ hx222_0)).trans hx222_0
            have HR222_0 := Aside0.mk hi222_0
            have HC222_0 := Aside0.mk hl222_0
            clear hi222_0 hl222_0
            replace p222 := eq_true p222
            replace q222 := eq_true q222
            go_wp2_with (first | ((with_reducible refine gate_builtin (b := .append) (xs := #[.tmp 22, .tmp 24]) rfl ?_); at_builtin; refine Kd.R_append (Kd.int .i64) (w0 := w) w.heap.size rfl (.tmp 22) (.tmp 24) 37 3 (.int .i64 0) 8 rfl Try.underlying37 info3 rfl (by decide) (by omega) u3 x3_1 x4_1 [.int .i64 x4_1] (fun _ => True) (fun _ => False) rfl rfl ?aP (fun _ hk => hk.elim) ?aF ?aO ?aB ?aS ?aL ?_; (case aP => exact rfl); (case aB => exact (by repeat (first | (with_reducible first | exact HB.out | apply below_alloc | apply pw_below_drewN | apply below_drew1) | exact HB.out))); (case aF => exact (fun _ _ => trivial)); (case aO => exact (by (with_reducible repeat (first | apply Kd.R_alloc | apply Kd.R_drewN | apply Kd.R_drew)); exact HO_3.out)); (case aS => exact (below_size (by repeat (first | (with_reducible first | exact HB.out | apply below_alloc | apply pw_below_drewN | apply below_drew1) | exact HB.out)))); (case aL => have := LMc6.out; omega); intro v224 w7 ho hb hg hat; rw [← Ny223.out] at ho; have n0_ := Aside0.mk (hb); have n1_ := Aside0.mk (ho); clear HB; clear HO_3; have HB := n0_; have HO225 := n1_; clear n0_ n1_; clear ho hb hg hat))
            go_roundg k1
            case measure => have := HK1.out; omega
            case rel => exact ⟨(y223), (wrap64 (x4_1 + 1)), (by first | rfl | (simp; done) | (simp [*]; done)), H', ⟨by have := HK1.out; omega⟩, ⟨by (with_reducible repeat (first | apply Kd.R_alloc | apply Kd.R_drewN | apply Kd.R_drew)); exact HO225.out⟩, ⟨by repeat (first | (with_reducible first | exact HB.out | apply below_alloc | apply pw_below_drewN | apply below_drew1) | exact HB.out)⟩⟩
          · rw [if_neg c6] at H
            exact absurd H (by simp)
        · rw [if_neg c5] at H
          have c5b0 : decide (x4_1 < ((rd_L1 l0 0).length : Int)) = false := decide_eq_false c5
          clear c5
          have H' := Aside0.mk H
          clear H
          have p222 : 0 ≤ (0 : Int) := (by omega)
          have q222 : 0 < (l0.length : Int) := of_decide_eq_true (by first | (with_reducible assumption) | assumption)
          obtain ⟨ad222, A222_0, c222_0, e222, hx222_0, hl222_0, hi222_0⟩ := at_L1 HR0.out 0 p222 q222
          cases e222
          have qi222 : (0 < l0.length) = True := eq_true (by omega)
          (try rw [show ((0 : Int)).toNat = 0 from rfl] at hx222_0)
          (try rw [Addr.add_zero'] at hx222_0)
          replace hx222_0 := (HB.out.cell (World.block_lt_of_cell? w _ hx222_0)).trans hx222_0
          have HR222_0 := Aside0.mk hi222_0
          have HC222_0 := Aside0.mk hl222_0
          clear hi222_0 hl222_0
          replace p222 := eq_true p222
          replace q222 := eq_true q222
          go_wp2
          go_loopg [5] k1 (fun kq v5 w' => ∃ (x3_2 : List Int) (x5_2 : Int), v5 = .int .i64 x5_2 ∧ Aside0 (spec_l9Parts.l1 kq l0 x3_2 x5_2 = some r) ∧ Aside0 (kq ≤ k1) ∧ Aside0 (Kd.R (Kd.int .i64) 3 w' w.heap.size (fun _ => True) u3 x3_2) ∧ Aside0 (Below w.heap.size w w'))
          case atStart => exact ⟨(x3_1), (0), (by first | rfl | (simp; done) | (simp [*]; done)), H', ⟨Nat.le_refl _⟩, ⟨by (with_reducible repeat (first | apply Kd.R_alloc | apply Kd.R_drewN | apply Kd.R_drew)); exact HO_3.out⟩, ⟨by repeat (first | (with_reducible first | exact HB.out | apply below_alloc | apply pw_below_drewN | apply below_drew1) | exact HB.out)⟩⟩
          case round =>
            clear H'
            try clear c2
            try clear p2
            try clear q2
            try clear hx2
            try clear qi2
            try clear c3
            try clear c4
            try clear c4b0
            try clear c4b1
            try clear c5
            try clear c5b0
            try clear c6
            try clear p6
            try clear hx222_0
            try clear p2
            try clear p222
            try clear q222
            obtain ⟨x3_2, x5_2, rfl, HA, HK2, HO_3, HB⟩ := hrel
            cases gk with
            | zero => exact absurd HA.out (by simp [spec_l9Parts.l1])
            | succ k2 =>
              have H := HA.out
              clear HA
              simp only [spec_l9Parts.l1] at H
              by_cases c8 : x5_2 < (l0.length : Int)
              · rw [if_pos c8] at H
                have c8b0 : decide (x5_2 < (l0.length : Int)) = true := decide_eq_true c8
                clear c8
                have H' := Aside0.mk H
                clear H
                go_wp2
                go_loopg [6] k2 (fun kq v6 w' => ∃ (x3_3 : List Int) (x6_3 : Int), v6 = .int .i64 x6_3 ∧ Aside0 (spec_l9Parts.l2 kq l0 x3_3 x5_2 x6_3 = some r) ∧ Aside0 (kq ≤ k2) ∧ Aside0 (Kd.R (Kd.int .i64) 3 w' w.heap.size (fun _ => True) u3 x3_3) ∧ Aside0 (Below w.heap.size w w'))
                case atStart => exact ⟨(x3_2), (0), (by first | rfl | (simp; done) | (simp [*]; done)), H', ⟨Nat.le_refl _⟩, ⟨by (with_reducible repeat (first | apply Kd.R_alloc | apply Kd.R_drewN | apply Kd.R_drew)); exact HO_3.out⟩, ⟨by repeat (first | (with_reducible first | exact HB.out | apply below_alloc | apply pw_below_drewN | apply below_drew1) | exact HB.out)⟩⟩
                case round =>
                  clear H'
                  try clear c2
                  try clear p2
                  try clear q2
                  try clear hx2
                  try clear qi2
                  try clear c3
                  try clear c4
                  try clear c4b0
                  try clear c4b1
                  try clear c5
                  try clear c5b0
                  try clear c6
                  try clear p6
                  try clear c8
                  try clear c8b0
                  try clear hx222_0
                  try clear p2
                  try clear p222
                  try clear p6
                  try clear q2
                  try clear q222
                  obtain ⟨x3_3, x6_3, rfl, HA, HK3, HO_3, HB⟩ := hrel
                  cases gk with
                  | zero => exact absurd HA.out (by simp [spec_l9Parts.l2])
                  | succ k3 =>
                    have H := HA.out
                    clear HA
                    simp only [spec_l9Parts.l2] at H
                    by_cases c9 : x6_3 < (x3_3.length : Int)
                    · rw [if_pos c9] at H
                      have c9b0 : decide (x6_3 < (x3_3.length : Int)) = true := decide_eq_true c9
                      clear c9
                      replace H := Option.bind_eq_some_iff.mp H
                      obtain ⟨t226, A100, H⟩ := H
                      replace H : (if 0 ≤ x5_2 then (if x5_2 < (l0.length : Int) then (if 0 ≤ x6_3 then (if x6_3 < ((rd_L1 l0 x5_2).length : Int) then ((spec_l3Find.f k3 x3_3 (rd (rd_L1 l0 x5_2) x6_3)).bind fun t229 => ((spec_l1Max.f t226 t229).bind fun t230 => ((spec_l1Min.f t226 t229).bind fun t231 => (if 0 ≤ t230 then (if t230 < (x3_3.length : Int) then (spec_l9Parts.l2 k3 l0 (x3_3.set (t230 : Int).toNat t231) x5_2 (wrap64 (x6_3 + 1))) else (none)) else (none))))) else (none)) else (none)) else (none)) else (none)) = some r := H
                      have A10 := Aside0.mk A100
                      clear A100
                      by_cases c11 : 0 ≤ x5_2
                      · rw [if_pos c11] at H
                        have c11b0 : decide (0 ≤ x5_2) = true := decide_eq_true c11
                        clear c11
                        by_cases c12 : x5_2 < (l0.length : Int)
                        · rw [if_pos c12] at H
                          have c12b0 : decide (x5_2 < (l0.length : Int)) = true := decide_eq_true c12
                          clear c12
                          by_cases c13 : 0 ≤ x6_3
                          · rw [if_pos c13] at H
                            have c13b0 : decide (0 ≤ x6_3) = true := decide_eq_true c13
                            clear c13
                            by_cases c14 : x6_3 < ((rd_L1 l0 x5_2).length : Int)
                            · rw [if_pos c14] at H
                              have c14b0 : decide (x6_3 < ((rd_L1 l0 x5_2).length : Int)) = true := decide_eq_true c14
                              clear c14
                              replace H := Option.bind_eq_some_iff.mp H
                              obtain ⟨t229, A150, H⟩ := H
                              replace H : ((spec_l1Max.f t226 t229).bind fun t230 => ((spec_l1Min.f t226 t229).bind fun t231 => (if 0 ≤ t230 then (if t230 < (x3_3.length : Int) then (spec_l9Parts.l2 k3 l0 (x3_3.set (t230 : Int).toNat t231) x5_2 (wrap64 (x6_3 + 1))) else (none)) else (none)))) = some r := H
                              have A15 := Aside0.mk A150
                              clear A150
                              replace H := Option.bind_eq_some_iff.mp H
                              obtain ⟨t230, A160, H⟩ := H
                              replace H : ((spec_l1Min.f t226 t229).bind fun t231 => (if 0 ≤ t230 then (if t230 < (x3_3.length : Int) then (spec_l9Parts.l2 k3 l0 (x3_3.set (t230 : Int).toNat t231) x5_2 (wrap64 (x6_3 + 1))) else (none)) else (none))) = some r := H
                              have A16 := Aside0.mk A160
                              clear A160
                              replace H := Option.bind_eq_some_iff.mp H
                              obtain ⟨t231, A170, H⟩ := H
                              replace H : (if 0 ≤ t230 then (if t230 < (x3_3.length : Int) then (spec_l9Parts.l2 k3 l0 (x3_3.set (t230 : Int).toNat t231) x5_2 (wrap64 (x6_3 + 1))) else (none)) else (none)) = some r := H
                              have A17 := Aside0.mk A170
                              clear A170
                              by_cases c18 : 0 ≤ t230
                              · rw [if_pos c18] at H
                                have c18b0 : decide (0 ≤ t230) = true := decide_eq_true c18
                                clear c18
                                by_cases c19 : t230 < (x3_3.length : Int)
                                · rw [if_pos c19] at H
                                  have c19b0 : decide (t230 < (x3_3.length : Int)) = true := decide_eq_true c19
                                  clear c19
                                  obtain ⟨y232, hy232⟩ : ∃ y_ : List Int, y_ = (x3_3.set (t230 : Int).toNat t231) := ⟨_, rfl⟩
                                  replace H : (spec_l9Parts.l2 k3 l0 y232 x5_2 (wrap64 (x6_3 + 1))) = some r := by first | (rw [hy232]; with_reducible exact H) | (have H2_ := (Option.bind_some _ _).symm.trans H; rw [hy232]; with_reducible exact H2_) | (have H2_ := (Option.bind_some _ _).symm.trans H; with_reducible exact H2_) | with_reducible exact H | (rw [hy232]; exact H) | exact H
                                  have Ny232 := Aside0.mk hy232
                                  clear hy232
                                  have H' := Aside0.mk H
                                  clear H
                                  obtain ⟨Ao21, co21, eo21⟩ := Kd.R_slice HO_3.out
                                  subst eo21
                                  go_wp2_with (first | ((with_reducible refine gate_callee (f := 60) rfl ?_); refine goesL_ (some 40) rfl rfl Try.func60 (by kernel_rfl) rfl #[.slice Ao21 x3_3.length co21, .int .i64 x6_3] rfl (by (try simp only [List.map_toArray, List.map_cons, List.map_nil]); first | done | rfl | (simp only [List.length_drop, List.length_take]; rfl)) ?_; (with_reducible refine (spec_l3Find.calls k3 _ _ x3_3 x6_3 t226 _ ?side1 ?side2 A10.out).mono ?_); (case side1 => repeat (first | exact (Kd.R_reads' HO_3.out).2.2 | (with_reducible refine Kd.C_alloc ?_ _) | (with_reducible refine Kd.C_drewN ?_ _) | (with_reducible refine Kd.C_drew ?_))); (case side2 => exact (Kd.R_reads' HO_3.out).2.1); rintro e w' ⟨rfl, ⟨nd, rfl⟩⟩; refine ⟨_, rfl, ?_⟩; (try (rw [drewN_self wr]; generalize hq_ : World.drewN wr _ = wr; have n0_ : Aside0 (Kd.R (Kd.int .i64) 3 wr w.heap.size (fun _ => True) (.slice Ao21 x3_3.length co21) x3_3) := ⟨by rw [← hq_]; exact (by (with_reducible repeat (first | apply Kd.R_alloc | apply Kd.R_drewN | apply Kd.R_drew)); exact HO_3.out)⟩; have n1_ : Aside0 (Below w.heap.size w wr) := ⟨by rw [← hq_]; exact (by repeat (first | (with_reducible first | exact HB.out | apply below_alloc | apply pw_below_drewN | apply below_drew1) | exact HB.out))⟩; clear HO_3 HB hq_; have HO_3 := n0_; have HB := n1_; clear n0_ n1_)); have p227 : 0 ≤ (x5_2 : Int) := of_decide_eq_true (by first | (with_reducible assumption) | assumption); have q227 : x5_2 < (l0.length : Int) := of_decide_eq_true (by first | (with_reducible assumption) | assumption); obtain ⟨ad227, A227_0, c227_0, e227, hx227_0, hl227_0, hi227_0⟩ := at_L1 HR0.out x5_2 p227 q227; obtain rfl : ad222 = ad227 := (by injection e227); replace hx227_0 := (HB.out.cell (World.block_lt_of_cell? w _ hx227_0)).trans hx227_0; have HR227_0 := Aside0.mk hi227_0; have HC227_0 := Aside0.mk hl227_0; clear hi227_0 hl227_0; replace p227 := eq_true p227; replace q227 := eq_true q227; have p228 : 0 ≤ (x6_3 : Int) := of_decide_eq_true (by first | (with_reducible assumption) | assumption); have q228 : x6_3 < ((rd_L1 l0 x5_2).length : Int) := of_decide_eq_true (by first | (with_reducible assumption) | assumption); obtain ⟨ad228, e228, hx228_0⟩ := Kd.at_int HR227_0.out x6_3 p228 q228; cases e228; replace hx228_0 := (HB.out.cell (World.block_lt_of_cell? w _ hx228_0)).trans hx228_0; replace p228 := eq_true p228; replace q228 := eq_true q228) | ((with_reducible refine gate_callee (f := 60) rfl ?_); refine goesL_ (some 49) rfl rfl Try.func60 (by kernel_rfl) rfl #[.slice Ao21 x3_3.length co21, .int .i64 (rd (rd_L1 l0 x5_2) x6_3)] rfl (by (try simp only [List.map_toArray, List.map_cons, List.map_nil]); first | done | rfl | (simp only [List.length_drop, List.length_take]; rfl)) ?_; (with_reducible refine (spec_l3Find.calls k3 _ _ x3_3 (rd (rd_L1 l0 x5_2) x6_3) t229 _ ?side1 ?side2 A15.out).mono ?_); (case side1 => repeat (first | exact (Kd.R_reads' HO_3.out).2.2 | (with_reducible refine Kd.C_alloc ?_ _) | (with_reducible refine Kd.C_drewN ?_ _) | (with_reducible refine Kd.C_drew ?_))); (case side2 => exact (Kd.R_reads' HO_3.out).2.1); rintro e w' ⟨rfl, ⟨nd, rfl⟩⟩; refine ⟨_, rfl, ?_⟩; (try (rw [drewN_self wr]; generalize hq_ : World.drewN wr _ = wr; have n0_ : Aside0 (Kd.R (Kd.int .i64) 3 wr w.heap.size (fun _ => True) (.slice Ao21 x3_3.length co21) x3_3) := ⟨by rw [← hq_]; exact (by (with_reducible repeat (first | apply Kd.R_alloc | apply Kd.R_drewN | apply Kd.R_drew)); exact HO_3.out)⟩; have n1_ : Aside0 (Below w.heap.size w wr) := ⟨by rw [← hq_]; exact (by repeat (first | (with_reducible first | exact HB.out | apply below_alloc | apply pw_below_drewN | apply below_drew1) | exact HB.out))⟩; clear HO_3 HB hq_; have HO_3 := n0_; have HB := n1_; clear n0_ n1_))) | ((with_reducible refine gate_callee (f := 58) rfl ?_); refine goesL_ (some 53) rfl rfl Try.func58 (by kernel_rfl) rfl #[.int .i64 t226, .int .i64 t229] rfl (by (try simp only [List.map_toArray, List.map_cons, List.map_nil]); first | done | rfl | (simp only [List.length_drop, List.length_take]; rfl)) ?_; (with_reducible refine (spec_l1Max.calls t226 t229 t230 _ A16.out).mono ?_); rintro e w' ⟨rfl, ⟨nd, rfl⟩⟩; refine ⟨_, rfl, ?_⟩; (try (rw [drewN_self wr]; generalize hq_ : World.drewN wr _ = wr; have n0_ : Aside0 (Kd.R (Kd.int .i64) 3 wr w.heap.size (fun _ => True) (.slice Ao21 x3_3.length co21) x3_3) := ⟨by rw [← hq_]; exact (by (with_reducible repeat (first | apply Kd.R_alloc | apply Kd.R_drewN | apply Kd.R_drew)); exact HO_3.out)⟩; have n1_ : Aside0 (Below w.heap.size w wr) := ⟨by rw [← hq_]; exact (by repeat (first | (with_reducible first | exact HB.out | apply below_alloc | apply pw_below_drewN | apply below_drew1) | exact HB.out))⟩; clear HO_3 HB hq_; have HO_3 := n0_; have HB := n1_; clear n0_ n1_))) | ((with_reducible refine gate_callee (f := 61) rfl ?_); refine goesL_ (some 56) rfl rfl Try.func61 (by kernel_rfl) rfl #[.int .i64 t226, .int .i64 t229] rfl (by (try simp only [List.map_toArray, List.map_cons, List.map_nil]); first | done | rfl | (simp only [List.length_drop, List.length_take]; rfl)) ?_; (with_reducible refine (spec_l1Min.calls t226 t229 t231 _ A17.out).mono ?_); rintro e w' ⟨rfl, ⟨nd, rfl⟩⟩; refine ⟨_, rfl, ?_⟩; (try (rw [drewN_self wr]; generalize hq_ : World.drewN wr _ = wr; have n0_ : Aside0 (Kd.R (Kd.int .i64) 3 wr w.heap.size (fun _ => True) (.slice Ao21 x3_3.length co21) x3_3) := ⟨by rw [← hq_]; exact (by (with_reducible repeat (first | apply Kd.R_alloc | apply Kd.R_drewN | apply Kd.R_drew)); exact HO_3.out)⟩; have n1_ : Aside0 (Below w.heap.size w wr) := ⟨by rw [← hq_]; exact (by repeat (first | (with_reducible first | exact HB.out | apply below_alloc | apply pw_below_drewN | apply below_drew1) | exact HB.out))⟩; clear HO_3 HB hq_; have HO_3 := n0_; have HB := n1_; clear n0_ n1_)); have p20 : 0 ≤ (t230 : Int) := of_decide_eq_true (by first | (with_reducible assumption) | assumption); have q20 : (t230 : Int) < ((x3_3.length : Int) : Int) := of_decide_eq_true (by first | (with_reducible assumption) | assumption); obtain ⟨go20, co20, eo20, gb20, gl20, cl20, HG20⟩ := Kd.R_form HO_3.out (by omega); (first | cases eo20 | (injection eo20 with ea_ en_ ec_; (first | subst ea_ | (injection ea_ with ea_; subst ea_)); subst ec_; clear en_)); have GB20 := Aside0.mk gb20; have GG20 := Aside0.mk HG20; clear gb20 gl20 HG20; obtain ⟨hx20_0, hf20_0⟩ := Kd.R_celln 0 HO_3.out (t230 : Int) p20 q20; replace p20 := eq_true p20; replace q20 := eq_true q20; obtain ⟨hy22_, hz22_⟩ := Kd.R_celln 0 HO_3.out (t230 : Int) (of_decide_eq_true (by first | (with_reducible assumption) | assumption)) (of_decide_eq_true (by first | (with_reducible assumption) | assumption)); have HP22 := Kd.R_putg HO_3.out (t230 : Int) t231) | ((with_reducible refine gate_store (t := 3) (p := 57) rfl ?_); refine store_event (t := 3) (p := 57) (v := ?vo_w23) (w1 := (wr.setCell ⟨go20, (t230 : Int).toNat, none⟩ (.int .i64 t231))) ?hg ?ho ?hn ?hr ?_; (case ho => rfl); (case hg => rfl); (case hn => rfl); (case hr => first | (go_simp; done) | (go_simp; rfl)); intro w23 hw; have hg : wr.grownBy w23 (some go20) := (by rw [hw]; exact HP22.2); have hp_ : Kd.R (Kd.int .i64) 3 w23 w.heap.size (fun _ => True) (.slice (some ⟨go20, 0, none⟩) x3_3.length co21) y232 := (by rw [hw, Ny232.out]; exact HP22.1); clear HP22; have n0_ := Aside0.mk (hp_); have n1_ := Aside0.mk ((by rw [hw]; exact below_set (HB.out) GB20.out : Below w.heap.size w w23)); clear HO_3; clear HB; have HO_3 := n0_; have HB := n1_; clear n0_ n1_; clear hg hw hp_))
                                  go_roundg k3
                                  case measure => have := HK1.out; have := HK2.out; have := HK3.out; omega
                                  case rel => exact ⟨(y232), (wrap64 (x6_3 + 1)), (by first | rfl | (simp; done) | (simp [*]; done)), H', ⟨by have := HK1.out; have := HK2.out; have := HK3.out; omega⟩, ⟨by (with_reducible repeat (first | apply Kd.R_alloc | apply Kd.R_drewN | apply Kd.R_drew)); exact HO_3.out⟩, ⟨by repeat (first | (with_reducible first | exact HB.out | apply below_alloc | apply pw_below_drewN | apply below_drew1) | exact HB.out)⟩⟩
                                · rw [if_neg c19] at H
                                  exact absurd H (by simp)
                              · rw [if_neg c18] at H
                                exact absurd H (by simp)
                            · rw [if_neg c14] at H
                              exact absurd H (by simp)
                          · rw [if_neg c13] at H
                            exact absurd H (by simp)
                        · rw [if_neg c12] at H
                          exact absurd H (by simp)
                      · rw [if_neg c11] at H
                        exact absurd H (by simp)
                    · rw [if_neg c9] at H
                      have c9b0 : decide (x6_3 < (x3_3.length : Int)) = false := decide_eq_false c9
                      clear c9
                      have H' := Aside0.mk H
                      clear H
                      obtain ⟨Ao24, co24, eo24⟩ := Kd.R_slice HO_3.out
                      subst eo24
                      go_wp2
                      go_roundg k3
                      case measure => have := HK1.out; have := HK2.out; have := HK3.out; omega
                      case rel => exact ⟨(x3_3), (wrap64 (x5_2 + 1)), (by first | rfl | (simp; done) | (simp [*]; done)), H', ⟨by have := HK1.out; have := HK2.out; have := HK3.out; omega⟩, ⟨by (with_reducible repeat (first | apply Kd.R_alloc | apply Kd.R_drewN | apply Kd.R_drew)); exact HO_3.out⟩, ⟨by repeat (first | (with_reducible first | exact HB.out | apply below_alloc | apply pw_below_drewN | apply below_drew1) | exact HB.out)⟩⟩
              · rw [if_neg c8] at H
                have c8b0 : decide (x5_2 < (l0.length : Int)) = false := decide_eq_false c8
                clear c8
                obtain ⟨y233, hy233⟩ : ∃ y_ : List (List Int), y_ = (([] : List (List Int))) := ⟨_, rfl⟩
                replace H : (spec_l9Parts.l3 k2 x3_2 y233 0) = some r := by first | (rw [hy233]; with_reducible exact H) | (have H2_ := (Option.bind_some _ _).symm.trans H; rw [hy233]; with_reducible exact H2_) | (have H2_ := (Option.bind_some _ _).symm.trans H; with_reducible exact H2_) | with_reducible exact H | (rw [hy233]; exact H) | exact H
                have Ny233 := Aside0.mk hy233
                clear hy233
                have H' := Aside0.mk H
                clear H
                go_wp2_with (first | ((with_reducible refine gate_dst (N := 58) rfl ?_); refine Kd.S_lit (Kd.slice 3 (Kd.int .i64)) _ 37 ?hg (N := 58) ?hd (xs := ([] : List (List Int))) (inner := []) (ok := fun _ => True) (okp := fun _ => True) ?hr ?hp (fun _ hk => hk) trivial (Below.refl _ _) (Nat.le_refl _) (by simp) ?_; (case hd => rfl); (case hg => rfl); (case hr => first | (go_simp; done) | (go_simp; rfl)); (case hp => exact (Reps.none _ _)); intro v234 w25 ho26 hb hg_ hnew_; clear hg_ hnew_; (first | rw [← Ny233.out] at ho26 | (simp only [Int.reduceToNat] at ho26; rw [← Ny233.out] at ho26)); have n0_ := Aside0.mk (Kd.R_below (by (with_reducible repeat (first | apply Kd.R_alloc | apply Kd.R_drewN | apply Kd.R_drew)); exact HO_3.out) hb); have n1_ := Aside0.mk (Kd.S_lower (Kd.S_new' ho26 (Kd.R_lt (by (with_reducible repeat (first | apply Kd.R_alloc | apply Kd.R_drewN | apply Kd.R_drew)); exact HO_3.out))) (below_size (by repeat (first | (with_reducible first | exact HB.out | apply below_alloc | apply pw_below_drewN | apply below_drew1) | exact HB.out)))); have n2_ := Aside0.mk (below_step (by repeat (first | (with_reducible first | exact HB.out | apply below_alloc | apply pw_below_drewN | apply below_drew1) | exact HB.out)) hb); clear HO_3; clear HB; have HO_3 := n0_; have HO235 := n1_; have HB := n2_; clear n0_ n1_ n2_; clear hb ho26))
                go_loopg [9, 10] k2 (fun kq v9 v10 w' => ∃ (x9_3 : List (List Int)) (x10_3 : Int), v10 = .int .i64 x10_3 ∧ Aside0 (spec_l9Parts.l3 kq x3_2 x9_3 x10_3 = some r) ∧ Aside0 (kq ≤ k2) ∧ Aside0 (Kd.R (Kd.int .i64) 3 w' w.heap.size (fun _ => True) u3 x3_2) ∧ Aside0 (Kd.S (Kd.slice 3 (Kd.int .i64)) 37 w' w.heap.size (fun k_ => some k_ ≠ (u3 : Value).ownBlock) v9 x9_3) ∧ Aside0 (Below w.heap.size w w'))
                case atStart => exact ⟨(y233), (0), (by first | rfl | (simp; done) | (simp [*]; done)), H', ⟨Nat.le_refl _⟩, ⟨by (with_reducible repeat (first | apply Kd.R_alloc | apply Kd.R_drewN | apply Kd.R_drew)); exact HO_3.out⟩, ⟨by (with_reducible repeat (first | apply Kd.S_alloc | apply Kd.S_drewN | apply Kd.S_drew)); exact Kd.S_mono HO235.out (fun _ hk => hk.2)⟩, ⟨by repeat (first | (with_reducible first | exact HB.out | apply below_alloc | apply pw_below_drewN | apply below_drew1) | exact HB.out)⟩⟩
                case round =>
                  clear H'
                  try clear c1
                  try clear c2
                  try clear p2
                  try clear q2
                  try clear hx2
                  try clear qi2
                  try clear hf2
                  try clear c3
                  try clear c4
                  try clear c4b0
                  try clear c4b1
                  try clear c5
                  try clear c5b0
                  try clear c6
                  try clear p6
                  try clear c8
                  try clear c8b0
                  try clear c9
                  try clear c9b0
                  try clear c11
                  try clear c11b0
                  try clear c12
                  try clear c12b0
                  try clear c13
                  try clear c13b0
                  try clear c14
                  try clear c14b0
                  try clear c18
                  try clear c18b0
                  try clear c19
                  try clear c19b0
                  try clear p20
                  try clear q20
                  try clear hx20
                  try clear hf20
                  try clear c22
                  try clear p22
                  try clear q22
                  try clear hx22
                  try clear qi22
                  try clear hx20_0
                  try clear hx222_0
                  try clear hx227_0
                  try clear hx228_0
                  try clear p2
                  try clear p20
                  try clear p222
                  try clear p227
                  try clear p228
                  try clear p6
                  try clear q2
                  try clear q20
                  try clear q222
                  try clear q227
                  try clear q228
                  obtain ⟨x9_3, x10_3, rfl, HA, HK3, HO_3, HO_9, HB⟩ := hrel
                  cases gk with
                  | zero => exact absurd HA.out (by simp [spec_l9Parts.l3])
                  | succ k3 =>
                    have H := HA.out
                    clear HA
                    simp only [spec_l9Parts.l3] at H
                    by_cases c27 : x10_3 < (x3_2.length : Int)
                    · rw [if_pos c27] at H
                      have c27b0 : decide (x10_3 < (x3_2.length : Int)) = true := decide_eq_true c27
                      clear c27
                      by_cases c28 : 0 ≤ x10_3
                      · rw [if_pos c28] at H
                        have c28b0 : decide (0 ≤ x10_3) = true := decide_eq_true c28
                        clear c28
                        by_cases c29 : (rd x3_2 x10_3) = x10_3
                        · rw [if_pos c29] at H
                          have c29b0 : ((rd x3_2 x10_3) == x10_3) = true := beq_iff_eq.mpr c29
                          have c29b1 : ((rd x3_2 x10_3) != x10_3) = false := bne_eq_false_iff_eq.mpr c29
                          clear c29
                          obtain ⟨y237, hy237⟩ : ∃ y_ : List Int, y_ = (([] : List Int)) := ⟨_, rfl⟩
                          replace H : (spec_l9Parts.l4 k3 x3_2 x9_3 x10_3 y237 0) = some r := by first | (rw [hy237]; with_reducible exact H) | (have H2_ := (Option.bind_some _ _).symm.trans H; rw [hy237]; with_reducible exact H2_) | (have H2_ := (Option.bind_some _ _).symm.trans H; with_reducible exact H2_) | with_reducible exact H | (rw [hy237]; exact H) | exact H
                          have Ny237 := Aside0.mk hy237
                          clear hy237
                          have H' := Aside0.mk H
                          clear H
                          obtain ⟨Ao30, co30, eo30⟩ := Kd.R_slice HO_3.out
                          subst eo30
                          have p236 : 0 ≤ (x10_3 : Int) := of_decide_eq_true (by first | (with_reducible assumption) | assumption)
                          have q236 : x10_3 < (x3_2.length : Int) := of_decide_eq_true (by first | (with_reducible assumption) | assumption)
                          obtain ⟨ad236, e236, hx236_0⟩ := Kd.at_int (Kd.R_reads' HO_3.out).2.2 x10_3 p236 q236
                          cases e236
                          replace p236 := eq_true p236
                          replace q236 := eq_true q236
                          go_wp2_with (first | ((with_reducible refine gate_dst (N := 71) rfl ?_); refine Kd.R_lit (Kd.int .i64) _ 3 ?hg (N := 71) ?hd (xs := ([] : List Int)) (inner := []) (ok := fun _ => True) (okp := fun _ => True) ?hr ?hp (fun _ hk => hk) trivial (Below.refl _ _) (Nat.le_refl _) (by simp) ?_; (case hd => rfl); (case hg => rfl); (case hr => first | (go_simp; done) | (go_simp; rfl)); (case hp => exact (Reps.none _ _)); intro v238 w31 ho32 hb hg_ hnew_; clear hg_ hnew_; (first | rw [← Ny237.out] at ho32 | (simp only [Int.reduceToNat] at ho32; rw [← Ny237.out] at ho32)); have n0_ := Aside0.mk (Kd.R_elder' (by (with_reducible repeat (first | apply Kd.R_alloc | apply Kd.R_drewN | apply Kd.R_drew)); exact HO_3.out) (Kd.R_base ho32) hb); have n1_ := Aside0.mk (Kd.S_elder' (by (with_reducible repeat (first | apply Kd.S_alloc | apply Kd.S_drewN | apply Kd.S_drew)); exact HO_9.out) (Kd.R_base ho32) hb); have n2_ := Aside0.mk (Kd.R_lower (Kd.R_new' ho32 (Kd.R_lt (by (with_reducible repeat (first | apply Kd.R_alloc | apply Kd.R_drewN | apply Kd.R_drew)); exact HO_3.out))) (below_size (by repeat (first | (with_reducible first | exact HB.out | apply below_alloc | apply pw_below_drewN | apply below_drew1) | exact HB.out)))); have n3_ := Aside0.mk (below_step (by repeat (first | (with_reducible first | exact HB.out | apply below_alloc | apply pw_below_drewN | apply below_drew1) | exact HB.out)) hb); clear HO_3; clear HO_9; clear HB; have HO_3 := n0_; have HO_9 := n1_; have HO239 := n2_; have HB := n3_; clear n0_ n1_ n2_ n3_; clear hb ho32))
                          go_loopg [11, 12] k3 (fun kq v11 v12 w' => ∃ (x11_4 : List Int) (x12_4 : Int), v12 = .int .i64 x12_4 ∧ Aside0 (spec_l9Parts.l4 kq x3_2 x9_3 x10_3 x11_4 x12_4 = some r) ∧ Aside0 (kq ≤ k3) ∧ Aside0 (Kd.R (Kd.int .i64) 3 w' w.heap.size (fun k_ => some k_ ≠ (v11 : Value).ownBlock) (.slice (some ad236) x3_2.length co30) x3_2) ∧ Aside0 (Kd.S (Kd.slice 3 (Kd.int .i64)) 37 w' w.heap.size (fun k_ => some k_ ≠ ((.slice (some ad236) x3_2.length co30) : Value).ownBlock ∧ some k_ ≠ (v11 : Value).ownBlock) u9 x9_3) ∧ Aside0 (Kd.R (Kd.int .i64) 3 w' w.heap.size (fun k_ => some k_ ≠ ((.slice (some ad236) x3_2.length co30) : Value).ownBlock) v11 x11_4) ∧ Aside0 (Below w.heap.size w w'))
                          case atStart => exact ⟨(y237), (0), (by first | rfl | (simp; done) | (simp [*]; done)), H', ⟨Nat.le_refl _⟩, ⟨by (with_reducible repeat (first | apply Kd.R_alloc | apply Kd.R_drewN | apply Kd.R_drew)); exact Kd.R_mono HO_3.out (fun _ hk => hk.2)⟩, ⟨by (with_reducible repeat (first | apply Kd.S_alloc | apply Kd.S_drewN | apply Kd.S_drew)); exact HO_9.out⟩, ⟨by (with_reducible repeat (first | apply Kd.R_alloc | apply Kd.R_drewN | apply Kd.R_drew)); exact Kd.R_mono HO239.out (fun _ hk => hk.2)⟩, ⟨by repeat (first | (with_reducible first | exact HB.out | apply below_alloc | apply pw_below_drewN | apply below_drew1) | exact HB.out)⟩⟩
                          case round =>
                            clear H'
                            try clear c1
                            try clear c2
                            try clear p2
                            try clear q2
                            try clear hx2
                            try clear qi2
                            try clear hf2
                            try clear c3
                            try clear c4
                            try clear c4b0
                            try clear c4b1
                            try clear c5
                            try clear c5b0
                            try clear c6
                            try clear p6
                            try clear c8
                            try clear c8b0
                            try clear c9
                            try clear c9b0
                            try clear c11
                            try clear c11b0
                            try clear c12
                            try clear c12b0
                            try clear c13
                            try clear c13b0
                            try clear c14
                            try clear c14b0
                            try clear c18
                            try clear c18b0
                            try clear c19
                            try clear c19b0
                            try clear p20
                            try clear q20
                            try clear hx20
                            try clear hf20
                            try clear c22
                            try clear p22
                            try clear q22
                            try clear hx22
                            try clear qi22
                            try clear p23
                            try clear q23
                            try clear hx23
                            try clear c27
                            try clear c27b0
                            try clear c28
                            try clear c28b0
                            try clear c29
                            try clear c29b0
                            try clear c29b1
                            try clear hx20_0
                            try clear hx222_0
                            try clear hx227_0
                            try clear hx228_0
                            try clear hx236_0
                            try clear p2
                            try clear p20
                            try clear p22
                            try clear p222
                            try clear p227
                            try clear p228
                            try clear p236
                            try clear p6
                            try clear q2
                            try clear q20
                            try clear q22
                            try clear q222
                            try clear q227
                            try clear q228
                            try clear q236
                            obtain ⟨x11_4, x12_4, rfl, HA, HK4, HO_3, HO_9, HO_11, HB⟩ := hrel
                            cases gk with
                            | zero => exact absurd HA.out (by simp [spec_l9Parts.l4])
                            | succ k4 =>
                              have H := HA.out
                              clear HA
                              simp only [spec_l9Parts.l4] at H
                              by_cases c33 : x12_4 < (x3_2.length : Int)
                              · rw [if_pos c33] at H
                                have c33b0 : decide (x12_4 < (x3_2.length : Int)) = true := decide_eq_true c33
                                clear c33
                                replace H := Option.bind_eq_some_iff.mp H
                                obtain ⟨t240, A340, H⟩ := H
                                replace H : (if t240 = x10_3 then (if x11_4.length < 17592186044416 then (spec_l9Parts.l4 k4 x3_2 x9_3 x10_3 (x11_4 ++ [x12_4]) (wrap64 (x12_4 + 1))) else (none)) else (spec_l9Parts.l4 k4 x3_2 x9_3 x10_3 x11_4 (wrap64 (x12_4 + 1)))) = some r := H
                                have A34 := Aside0.mk A340
                                clear A340
                                by_cases c35 : t240 = x10_3
                                · rw [if_pos c35] at H
                                  have c35b0 : (t240 == x10_3) = true := beq_iff_eq.mpr c35
                                  have c35b1 : (t240 != x10_3) = false := bne_eq_false_iff_eq.mpr c35
                                  clear c35
                                  by_cases c36 : x11_4.length < 17592186044416
                                  · rw [if_pos c36] at H
                                    have LMc36 := Aside0.mk c36
                                    clear c36
                                    obtain ⟨y241, hy241⟩ : ∃ y_ : List Int, y_ = (x11_4 ++ [x12_4]) := ⟨_, rfl⟩
                                    replace H : (spec_l9Parts.l4 k4 x3_2 x9_3 x10_3 y241 (wrap64 (x12_4 + 1))) = some r := by first | (rw [hy241]; with_reducible exact H) | (have H2_ := (Option.bind_some _ _).symm.trans H; rw [hy241]; with_reducible exact H2_) | (have H2_ := (Option.bind_some _ _).symm.trans H; with_reducible exact H2_) | with_reducible exact H | (rw [hy241]; exact H) | exact H
                                    have Ny241 := Aside0.mk hy241
                                    clear hy241
                                    have H' := Aside0.mk H
                                    clear H
                                    go_wp2_with (first | ((with_reducible refine gate_callee (f := 60) rfl ?_); refine goesL_ (some 80) rfl rfl Try.func60 (by kernel_rfl) rfl #[.slice (some ad236) x3_2.length co30, .int .i64 x12_4] rfl (by (try simp only [List.map_toArray, List.map_cons, List.map_nil]); first | done | rfl | (simp only [List.length_drop, List.length_take]; rfl)) ?_; (with_reducible refine (spec_l3Find.calls k4 _ _ x3_2 x12_4 t240 _ ?side1 ?side2 A34.out).mono ?_); (case side1 => repeat (first | exact (Kd.R_reads' HO_3.out).2.2 | (with_reducible refine Kd.C_alloc ?_ _) | (with_reducible refine Kd.C_drewN ?_ _) | (with_reducible refine Kd.C_drew ?_))); (case side2 => exact (Kd.R_reads' HO_3.out).2.1); rintro e w' ⟨rfl, ⟨nd, rfl⟩⟩; refine ⟨_, rfl, ?_⟩) | ((with_reducible refine gate_builtin (b := .append) (xs := #[.tmp 83, .tmp 85]) rfl ?_); at_builtin; refine Kd.R_append (Kd.int .i64) (w0 := w) w.heap.size rfl (.tmp 83) (.tmp 85) 37 3 (.int .i64 0) 8 rfl Try.underlying37 info3 rfl (by decide) (by omega) u11 x11_4 x12_4 [.int .i64 x12_4] (fun k_ => some k_ ≠ (.slice (some ad236) x3_2.length co30 : Value).ownBlock) (fun _ => False) rfl rfl ?aP (fun _ hk => hk.elim) ?aF ?aO ?aB ?aS ?aL ?_; (case aP => exact rfl); (case aB => exact (by repeat (first | (with_reducible first | exact HB.out | apply below_alloc | apply pw_below_drewN | apply below_drew1) | exact HB.out))); (case aF => exact (fun k_ hk => Kd.fresh' (Kd.R_lt (by (with_reducible repeat (first | apply Kd.R_alloc | apply Kd.R_drewN | apply Kd.R_drew)); exact HO_3.out)) k_ hk)); (case aO => exact (by (with_reducible repeat (first | apply Kd.R_alloc | apply Kd.R_drewN | apply Kd.R_drew)); exact HO_11.out)); (case aS => exact (below_size (by repeat (first | (with_reducible first | exact HB.out | apply below_alloc | apply pw_below_drewN | apply below_drew1) | exact HB.out)))); (case aL => have := LMc36.out; omega); intro v242 w37 ho hb hg hat; rw [← Ny241.out] at ho; have n0_ := Aside0.mk (Kd.R_after (ok := (fun _ => True)) (by (with_reducible repeat (first | apply Kd.R_alloc | apply Kd.R_drewN | apply Kd.R_drew)); exact Kd.R_mono HO_3.out (fun _ hk => ⟨trivial, hk⟩)) hg hat); have n1_ := Aside0.mk (Kd.S_after (ok := (fun k_ => some k_ ≠ (.slice (some ad236) x3_2.length co30 : Value).ownBlock)) (by (with_reducible repeat (first | apply Kd.S_alloc | apply Kd.S_drewN | apply Kd.S_drew)); exact HO_9.out) hg hat); have n2_ := Aside0.mk (hb); have n3_ := Aside0.mk (ho); clear HO_3; clear HO_9; clear HB; clear HO_11; have HO_3 := n0_; have HO_9 := n1_; have HB := n2_; have HO243 := n3_; clear n0_ n1_ n2_ n3_; clear ho hb hg hat))
                                    go_roundg k4
                                    case measure => have := HK1.out; have := HK2.out; have := HK3.out; have := HK4.out; omega
                                    case rel => exact ⟨(y241), (wrap64 (x12_4 + 1)), (by first | rfl | (simp; done) | (simp [*]; done)), H', ⟨by have := HK1.out; have := HK2.out; have := HK3.out; have := HK4.out; omega⟩, ⟨by (with_reducible repeat (first | apply Kd.R_alloc | apply Kd.R_drewN | apply Kd.R_drew)); exact Kd.R_mono HO_3.out (fun _ hk => hk.2)⟩, ⟨by (with_reducible repeat (first | apply Kd.S_alloc | apply Kd.S_drewN | apply Kd.S_drew)); exact HO_9.out⟩, ⟨by (with_reducible repeat (first | apply Kd.R_alloc | apply Kd.R_drewN | apply Kd.R_drew)); exact HO243.out⟩, ⟨by repeat (first | (with_reducible first | exact HB.out | apply below_alloc | apply pw_below_drewN | apply below_drew1) | exact HB.out)⟩⟩
                                  · rw [if_neg c36] at H
                                    exact absurd H (by simp)
                                · rw [if_neg c35] at H
                                  have c35b0 : (t240 == x10_3) = false := beq_eq_false_iff_ne.mpr c35
                                  have c35b1 : (t240 != x10_3) = true := bne_iff_ne.mpr c35
                                  have H' := Aside0.mk H
                                  clear H
                                  go_wp2_with (first | ((with_reducible refine gate_callee (f := 60) rfl ?_); refine goesL_ (some 80) rfl rfl Try.func60 (by kernel_rfl) rfl #[.slice (some ad236) x3_2.length co30, .int .i64 x12_4] rfl (by (try simp only [List.map_toArray, List.map_cons, List.map_nil]); first | done | rfl | (simp only [List.length_drop, List.length_take]; rfl)) ?_; (with_reducible refine (spec_l3Find.calls k4 _ _ x3_2 x12_4 t240 _ ?side1 ?side2 A34.out).mono ?_); (case side1 => repeat (first | exact (Kd.R_reads' HO_3.out).2.2 | (with_reducible refine Kd.C_alloc ?_ _) | (with_reducible refine Kd.C_drewN ?_ _) | (with_reducible refine Kd.C_drew ?_))); (case side2 => exact (Kd.R_reads' HO_3.out).2.1); rintro e w' ⟨rfl, ⟨nd, rfl⟩⟩; refine ⟨_, rfl, ?_⟩))
                                  go_roundg k4
                                  case measure => have := HK1.out; have := HK2.out; have := HK3.out; have := HK4.out; omega
                                  case rel => exact ⟨(x11_4), (wrap64 (x12_4 + 1)), (by first | rfl | (simp; done) | (simp [*]; done)), H', ⟨by have := HK1.out; have := HK2.out; have := HK3.out; have := HK4.out; omega⟩, ⟨by (with_reducible repeat (first | apply Kd.R_alloc | apply Kd.R_drewN | apply Kd.R_drew)); exact HO_3.out⟩, ⟨by (with_reducible repeat (first | apply Kd.S_alloc | apply Kd.S_drewN | apply Kd.S_drew)); exact HO_9.out⟩, ⟨by (with_reducible repeat (first | apply Kd.R_alloc | apply Kd.R_drewN | apply Kd.R_drew)); exact HO_11.out⟩, ⟨by repeat (first | (with_reducible first | exact HB.out | apply below_alloc | apply pw_below_drewN | apply below_drew1) | exact HB.out)⟩⟩
                              · rw [if_neg c33] at H
                                have c33b0 : decide (x12_4 < (x3_2.length : Int)) = false := decide_eq_false c33
                                clear c33
                                by_cases c38 : x9_3.length < 5864062014805
                                · rw [if_pos c38] at H
                                  have LMc38 := Aside0.mk c38
                                  clear c38
                                  obtain ⟨y244, hy244⟩ : ∃ y_ : List (List Int), y_ = (x9_3 ++ [x11_4]) := ⟨_, rfl⟩
                                  replace H : (spec_l9Parts.l3 k4 x3_2 y244 (wrap64 (x10_3 + 1))) = some r := by first | (rw [hy244]; with_reducible exact H) | (have H2_ := (Option.bind_some _ _).symm.trans H; rw [hy244]; with_reducible exact H2_) | (have H2_ := (Option.bind_some _ _).symm.trans H; with_reducible exact H2_) | with_reducible exact H | (rw [hy244]; exact H) | exact H
                                  have Ny244 := Aside0.mk hy244
                                  clear hy244
                                  have H' := Aside0.mk H
                                  clear H
                                  obtain ⟨Ao40, co40, eo40⟩ := Kd.R_slice HO_11.out
                                  subst eo40
                                  go_wp2_with (first | ((with_reducible refine gate_builtin (b := .append) (xs := #[.tmp 87, .tmp 89]) rfl ?_); at_builtin; refine Kd.S_append (Kd.slice 3 (Kd.int .i64)) (w0 := w) w.heap.size rfl (.tmp 87) (.tmp 89) 22 37 (.slice none 0 0) 24 rfl Try.underlying22 info37 rfl (by decide) (by omega) u9 x9_3 x11_4 [.slice Ao40 x11_4.length co40] (fun k_ => some k_ ≠ (.slice (some ad236) x3_2.length co30 : Value).ownBlock) (fun k_ => some k_ = (.slice Ao40 x11_4.length co40 : Value).ownBlock) rfl rfl ?aP (fun k_ hk_ => ((Kd.R_mono (ok' := fun k_ => ((fun k_ => some k_ ≠ (.slice (some ad236) x3_2.length co30 : Value).ownBlock)) k_ ∧ some k_ ≠ (u9 : Value).ownBlock) (Kd.R_apart' (HO_11.out) (Kd.S_typed HO_9.out) (by decide)) (fun k_ hk => ⟨hk.1, hk.2⟩))).1 k_ hk_.symm) ?aF ?aO ?aB ?aS ?aL ?_; (case aP => exact Kd.M_row (Kd.R_mono (Kd.R_tight rfl (Kd.R_mono (ok' := fun k_ => ((fun k_ => some k_ ≠ (.slice (some ad236) x3_2.length co30 : Value).ownBlock)) k_ ∧ some k_ ≠ (u9 : Value).ownBlock) (Kd.R_apart' (HO_11.out) (Kd.S_typed HO_9.out) (by decide)) (fun k_ hk => ⟨hk.1, hk.2⟩))) (fun _ h_ => h_))); (case aB => exact (by repeat (first | (with_reducible first | exact HB.out | apply below_alloc | apply pw_below_drewN | apply below_drew1) | exact HB.out))); (case aF => exact (fun k_ hk => Kd.fresh' (Kd.R_lt (by (with_reducible repeat (first | apply Kd.R_alloc | apply Kd.R_drewN | apply Kd.R_drew)); exact HO_3.out)) k_ hk)); (case aO => exact (by (with_reducible repeat (first | apply Kd.S_alloc | apply Kd.S_drewN | apply Kd.S_drew)); exact Kd.S_mono HO_9.out (fun k_ hk => ⟨hk.1, fun e_ => hk.2 e_⟩))); (case aS => exact (below_size (by repeat (first | (with_reducible first | exact HB.out | apply below_alloc | apply pw_below_drewN | apply below_drew1) | exact HB.out)))); (case aL => have := LMc38.out; omega); intro v245 w39 ho hb hg hat; rw [← Ny244.out] at ho; have n0_ := Aside0.mk (Kd.R_over' (by (with_reducible repeat (first | apply Kd.R_alloc | apply Kd.R_drewN | apply Kd.R_drew)); exact HO_3.out) (Kd.S_typed (by (with_reducible repeat (first | apply Kd.S_alloc | apply Kd.S_drewN | apply Kd.S_drew)); exact HO_9.out)) (by decide) hg); have n1_ := Aside0.mk (hb); have n2_ := Aside0.mk (ho); clear HO_3; clear HB; clear HO_9; clear HO_11; have HO_3 := n0_; have HB := n1_; have HO246 := n2_; clear n0_ n1_ n2_; clear ho hb hg hat))
                                  go_roundg k4
                                  case measure => have := HK1.out; have := HK2.out; have := HK3.out; have := HK4.out; omega
                                  case rel => exact ⟨(y244), (wrap64 (x10_3 + 1)), (by first | rfl | (simp; done) | (simp [*]; done)), H', ⟨by have := HK1.out; have := HK2.out; have := HK3.out; have := HK4.out; omega⟩, ⟨by (with_reducible repeat (first | apply Kd.R_alloc | apply Kd.R_drewN | apply Kd.R_drew)); exact Kd.R_mono HO_3.out (fun _ hk => trivial)⟩, ⟨by (with_reducible repeat (first | apply Kd.S_alloc | apply Kd.S_drewN | apply Kd.S_drew)); exact HO246.out⟩, ⟨by repeat (first | (with_reducible first | exact HB.out | apply below_alloc | apply pw_below_drewN | apply below_drew1) | exact HB.out)⟩⟩
                                · rw [if_neg c38] at H
                                  exact absurd H (by simp)
                        · rw [if_neg c29] at H
                          have c29b0 : ((rd x3_2 x10_3) == x10_3) = false := beq_eq_false_iff_ne.mpr c29
                          have c29b1 : ((rd x3_2 x10_3) != x10_3) = true := bne_iff_ne.mpr c29
                          have H' := Aside0.mk H
                          clear H
                          obtain ⟨Ao41, co41, eo41⟩ := Kd.R_slice HO_3.out
                          subst eo41
                          have p236 : 0 ≤ (x10_3 : Int) := of_decide_eq_true (by first | (with_reducible assumption) | assumption)
                          have q236 : x10_3 < (x3_2.length : Int) := of_decide_eq_true (by first | (with_reducible assumption) | assumption)
                          obtain ⟨ad236, e236, hx236_0⟩ := Kd.at_int (Kd.R_reads' HO_3.out).2.2 x10_3 p236 q236
                          cases e236
                          replace p236 := eq_true p236
                          replace q236 := eq_true q236
                          go_wp2
                          go_roundg k3
                          case measure => have := HK1.out; have := HK2.out; have := HK3.out; omega
                          case rel => exact ⟨(x9_3), (wrap64 (x10_3 + 1)), (by first | rfl | (simp; done) | (simp [*]; done)), H', ⟨by have := HK1.out; have := HK2.out; have := HK3.out; omega⟩, ⟨by (with_reducible repeat (first | apply Kd.R_alloc | apply Kd.R_drewN | apply Kd.R_drew)); exact HO_3.out⟩, ⟨by (with_reducible repeat (first | apply Kd.S_alloc | apply Kd.S_drewN | apply Kd.S_drew)); exact HO_9.out⟩, ⟨by repeat (first | (with_reducible first | exact HB.out | apply below_alloc | apply pw_below_drewN | apply below_drew1) | exact HB.out)⟩⟩
                      · rw [if_neg c28] at H
                        exact absurd H (by simp)
                    · rw [if_neg c27] at H
                      have c27b0 : decide (x10_3 < (x3_2.length : Int)) = false := decide_eq_false c27
                      clear c27
                      obtain rfl := Option.some.inj H
                      obtain ⟨Ao42, co42, eo42⟩ := Kd.R_slice HO_3.out
                      subst eo42
                      go_wp2
                      go_ret
                      exact ⟨_, by first | rfl | (simp [errW_none, errW_some] <;> rfl) | (simp [*, errW_none, errW_some] <;> rfl), by (with_reducible repeat (first | apply Kd.S_alloc | apply Kd.S_drewN | apply Kd.S_drew)); exact Kd.S_mono HO_9.out (fun _ hk => trivial), by repeat (first | (with_reducible first | exact HB.out | apply below_alloc | apply pw_below_drewN | apply below_drew1) | exact HB.out)⟩
      · rw [if_neg c4] at H
        exact absurd H (by simp)

/-! ### spec_l9Count: function 50 -/
mutual
/-- how many actions continue a list -/
def spec_l9Count.f : Nat → Int → List (List Int) → List (List Int) → Bool → Option Int
  | 0, _, _, _, _ => none
  | k + 1, g, all, list, whole => (spec_l1Max.f 1 g).bind fun m => (if (list.length : Int) = wrap64 (2 * m) then ((spec_IsAction.f k g list).bind fun t => (if t = true then (if whole = true then ((spec_l9Parts.f k list).bind fun ps => spec_l1Bit.f ((ps.length : Int) == 1)) else spec_l1Bit.f true) else spec_l1Bit.f false)) else spec_l9Count.l0 k g all list whole 0 0)
def spec_l9Count.l0 : Nat → Int → List (List Int) → List (List Int) → Bool → Int → Int → Option Int
  | 0, _, _, _, _, _, _ => none
  | k + 1, g, all, list, whole, s, i => if i < (all.length : Int) then (if 0 ≤ i then (if list.length < 1000000 then ((spec_l9Count.f k g all (list ++ [rd_L1 all i]) whole).bind fun t => spec_l9Count.l0 k g all list whole (wrap64 (s + t)) (wrap64 (i + 1))) else none) else none) else some s
end
theorem spec_l9Count.mono_l : ∀ k, (∀ g all list whole, LeO (spec_l9Count.f k g all list whole) (spec_l9Count.f (k + 1) g all list whole)) ∧ (∀ g all list whole s i, LeO (spec_l9Count.l0 k g all list whole s i) (spec_l9Count.l0 (k + 1) g all list whole s i))
  | 0 => ⟨fun _ _ _ _ r h => by simp [spec_l9Count.f] at h, fun _ _ _ _ _ _ r h => by simp [spec_l9Count.l0] at h⟩
  | k + 1 => by
    have ih := spec_l9Count.mono_l k
    refine ⟨fun g all list whole => ?_, fun g all list whole s i => ?_⟩
    · rw [spec_l9Count.f, spec_l9Count.f]
      exact LeO.bind (LeO.refl _) fun _ => LeO.ite (LeO.bind (spec_IsAction.mono _ _ _) fun _ => LeO.ite (LeO.ite (LeO.bind (spec_l9Parts.mono _ _) fun _ => LeO.refl _) (LeO.refl _)) (LeO.refl _)) (ih.2 _ _ _ _ _ _)
    · rw [spec_l9Count.l0, spec_l9Count.l0]
      exact LeO.ite (LeO.ite (LeO.ite (LeO.bind (ih.1 _ _ _ _) fun _ => ih.2 _ _ _ _ _ _) (LeO.refl _)) (LeO.refl _)) (LeO.refl _)
theorem spec_l9Count.mono : ∀ a0 l1 l2 a3 k, LeO (spec_l9Count.f k a0 l1 l2 a3) (spec_l9Count.f (k + 1) a0 l1 l2 a3) := fun a0 l1 l2 a3 k => (spec_l9Count.mono_l k).1 a0 l1 l2 a3
section
variable {ops : Array Oper} {o : Oper} {a : Act} {W : World} {Q : Exit → Act → World → Prop} {Kc : Act → World → Prop}
/-- a row without members, as it was laid -/
theorem spec_l9Count.lit0 {w : World} {b : Nat} (hb : W.heap[b]? = some (.cells #[] 37 (0, 0))) (hlb : w.heap.size ≤ b) : Kd.R (Kd.fixed (Kd.slice 3 (Kd.int .i64)) w) 37 W w.heap.size (fun _ => True) (.slice (some ⟨b, 0, none⟩) 0 0) ([] : List (List Int)) :=
  ⟨fun _ _ => trivial, [], ⟨by simp, .inr ⟨b, 0, #[], rfl, hlb, hb, by simp, by simp, by simp, by simp⟩⟩, Reps.none _ _⟩
/-- a row of one row that came in, as it was laid -/
theorem spec_l9Count.lit1 {w : World} {b : Nat} {x : List Int} {A5 : Option Addr} {c5 : Nat} (hb : W.heap[b]? = some (.cells #[.slice A5 x.length c5] 37 (0, 0))) (hl : x.length ≤ c5) (hx : Kd.C (Kd.int .i64) w A5 x.length x) (hlb : w.heap.size ≤ b) : Kd.R (Kd.fixed (Kd.slice 3 (Kd.int .i64)) w) 37 W w.heap.size (fun _ => True) (.slice (some ⟨b, 0, none⟩) 1 1) [x] :=
  ⟨fun _ _ => trivial, [.slice A5 x.length c5], ⟨rfl, .inr ⟨b, 1, #[.slice A5 x.length c5], rfl, hlb, hb, by simp, by simp [maxLen], rfl, rfl⟩⟩, by
    refine ⟨rfl, fun j p hj => ?_⟩
    rcases j with _ | j
    · obtain rfl : x = p := by simpa using hj
      exact ⟨A5, c5, rfl, hl, hx⟩
    · simp at hj⟩
theorem spec_l9Count.gate (y z : Operand) {p : Prop} (_ : o.op = .call { callee := .builtin .append, args := #[y, z], argTypes := #[22, 22] }) (h : if Region.wanted o (yielded ops a.tmps) = true then Oper.wp Try.prog o a W Kc Q else p) : if Region.wanted o (yielded ops a.tmps) = true then Oper.wp Try.prog o a W Kc Q else p := h
/-- a row that came in is appended to one of the call's own -/
theorem spec_l9Count.app {w : World} (hgd : o.guard = none) (s x : Operand) (ho : o.op = .call { callee := .builtin .append, args := #[s, x], argTypes := #[22, 22] }) (v : Value) (A : Option Addr) (m c : Nat) (xs ys : List (List Int))
    (hs : a.eval s = v) (hx : a.eval x = .slice A m c) (HO : Kd.R (Kd.fixed (Kd.slice 3 (Kd.int .i64)) w) 37 W w.heap.size (fun _ => True) v xs) (HR : ReadsRow ((Kd.slice 3 (Kd.int .i64)).K w) 1 W A m ys) (HB : Below w.heap.size w W) (hl : xs.length + m < 2000000)
    (h : ∀ v1 w1, Kd.R (Kd.fixed (Kd.slice 3 (Kd.int .i64)) w) 37 w1 w.heap.size (fun _ => True) v1 (xs ++ ys) → Below w.heap.size w w1 → W.grownBy w1 v.ownBlock → Kc (a.put o.dst v1) w1) :
    if Region.wanted o (yielded ops a.tmps) = true then Oper.wp Try.prog o a W Kc Q else Kc (a.put o.dst undef) W := by
  refine Kd.R_append_rows_step (Kd.fixed (Kd.slice 3 (Kd.int .i64)) w) (Rr := (Kd.slice 3 (Kd.int .i64)).K w) (w0 := w) w.heap.size (by simp [Region.wanted, hgd]) s x 22 37 (.slice none 0 0) 24 ho Try.underlying22 info37 rfl (show (0 : Nat) < 1 by omega) (by omega) v xs ys A m c (fun _ => True) (fun _ => False) hs hx HO HR (fun _ _ hp => hp) (fun _ hk => hk.elim) (fun _ _ => trivial) HB (by have := HB.size; omega) (by omega) (fun v1 w1 h1 h2 h3 _ => h v1 w1 h1 h2 h3)
theorem spec_l9Count.keep {w : World} {p : Addr} {v : Value} (h : w.cell? p = some v) (hb : Below w.heap.size w W) : W.cell? p = some v ∧ Below w.heap.size w W := ⟨(hb.cell (World.block_lt_of_cell? w _ h)).trans h, hb⟩
theorem spec_l9Count.hp0 (W : World) (o : Obj) : (W.alloc o).drew.heap[W.heap.size]? = some o := heap_alloc_new W o
theorem spec_l9Count.hp1 (W : World) (o o' : Obj) : ((W.alloc o).alloc o').drew.heap[W.heap.size]? = some o := ((below_alloc (Below.refl _ _) o').block _ (by show _ < (W.heap.push _).size; simp)).trans (heap_alloc_new W o)
theorem spec_l9Count.hp2 (W : World) (o o' : Obj) : ((W.alloc o).alloc o').drew.heap[W.heap.size + 1]? = some o' := by
  have := heap_alloc_new (W.alloc o) o'
  have e : (W.alloc o).heap.size = W.heap.size + 1 := by show (W.heap.push _).size = _; simp
  rw [e] at this
  exact this
theorem spec_l9Count.read {w : World} {base : Nat} {A : Option Addr} {n c : Nat} {xs : List (List Int)} (h : Kd.R (Kd.fixed (Kd.slice 3 (Kd.int .i64)) w) 37 W base (fun _ => True) (.slice A n c) xs) (hb : Below w.heap.size w W) : Kd.C (Kd.slice 3 (Kd.int .i64)) W A xs.length xs :=
  Kd.C_read (d := Kd.slice 3 (Kd.int .i64)) (dm := Kd.fixed (Kd.slice 3 (Kd.int .i64)) w) (w := W) rfl (fun x cs hk => (Kd.slice 3 (Kd.int .i64)).K_below (w := w) (w1 := W) hb hk) (Kd.R_reads' h).2.2
end
set_option maxHeartbeats 8000000 in
set_option maxRecDepth 100000 in
theorem spec_l9Count.rec_ : ∀ (k : Nat) (a0 : Int) (A1 : Option Addr) (c1 : Nat) (l1 : List (List Int)) (a3 : Bool) (A2 : Option Addr) (c2 : Nat) (l2 : List (List Int)) (r : Int) (w : World), Kd.C (Kd.slice 3 (Kd.int .i64)) w A1 l1.length l1 → l1.length ≤ c1 → Kd.C (Kd.slice 3 (Kd.int .i64)) w A2 l2.length l2 → l2.length ≤ c2 → spec_l9Count.f k a0 l1 l2 a3 = some r →
    Calls Try.prog 50 #[.int .i64 a0, .slice A1 l1.length c1, .slice A2 l2.length c2, .bool a3] w fun e w' => e = .returned (.int .i64 r) ∧ Below w.heap.size w w' := by
  intro k
  induction k with
  | zero => intro a0 A1 c1 l1 a3 A2 c2 l2 r w _ _ _ _ h; exact absurd h (by simp [spec_l9Count.f])
  | succ k ih =>
    intro a0 A1 c1 l1 a3 A2 c2 l2 r w hr1 hc1 hr2 hc2 h
    rw [spec_l9Count.f] at h
    obtain ⟨m, hm, h⟩ := Option.bind_eq_some_iff.mp h
    have IH := Aside0.mk ih
    have HR1 := Aside0.mk hr1
    have HC1 := Aside0.mk hc1
    have HR2 := Aside0.mk hr2
    have HC2 := Aside0.mk hc2
    have HM := Aside0.mk hm
    have HH := Aside0.mk h
    clear ih hr1 hc1 hr2 hc2 hm h
    by_cases e1 : (l2.length : Int) = wrap64 (2 * m)
    · have h := HH.out
      rw [if_pos e1] at h
      obtain ⟨t, ht, h⟩ := Option.bind_eq_some_iff.mp h
      have HT := Aside0.mk ht
      have H := Aside0.mk h
      have b1 : ((l2.length : Int) == wrap64 (2 * m)) = true := beq_iff_eq.2 e1
      clear ht h HH e1 IH
      go_enter Try.func50, Try.ntmps50
      go_wp2_with fail
      (go_at_call 58; (with_reducible refine (spec_l1Max.calls 1 a0 m _ HM.out).mono ?_))
      rintro e w1 ⟨rfl, hd⟩
      obtain ⟨n1, rfl⟩ := hd.out
      have hb1 := Aside0.mk (pw_below_drewN (Below.refl w.heap.size w) n1)
      generalize w.drewN n1 = w1 at hb1 ⊢
      go_wp2_with fail
      (go_at_call 34; (with_reducible refine (spec_IsAction.calls k a0 _ _ l2 t _ (Kd.C_below HR2.out hb1.out) HC2.out HT.out).mono ?_))
      rintro e w2 ⟨rfl, hb⟩
      have hb2 := Aside0.mk (below_step hb1.out hb)
      clear hb hd hb1
      cases t with
      | false =>
        have h := H.out
        rw [if_neg (by decide)] at h
        have HF := Aside0.mk h
        clear h H
        go_wp2_with fail
        (go_at_call 25; (with_reducible refine (spec_l1Bit.calls false r _ HF.out).mono ?_))
        rintro e w3 ⟨rfl, hd⟩
        obtain ⟨n3, rfl⟩ := hd.out
        have hb3 := Aside0.mk (pw_below_drewN hb2.out n3)
        clear hd hb2
        go_wp2
        go_ret
        exact ⟨rfl, hb3.out⟩
      | true =>
        have h := H.out
        rw [if_pos rfl] at h
        cases a3 with
        | false =>
          rw [if_neg (by decide)] at h
          have HF := Aside0.mk h
          clear h H
          go_wp2_with fail
          (go_at_call 25; (with_reducible refine (spec_l1Bit.calls true r _ HF.out).mono ?_))
          rintro e w3 ⟨rfl, hd⟩
          obtain ⟨n3, rfl⟩ := hd.out
          have hb3 := Aside0.mk (pw_below_drewN hb2.out n3)
          clear hd hb2
          go_wp2
          go_ret
          exact ⟨rfl, hb3.out⟩
        | true =>
          rw [if_pos rfl] at h
          obtain ⟨ps, hp, h⟩ := Option.bind_eq_some_iff.mp h
          have HP := Aside0.mk hp
          have HF := Aside0.mk h
          clear h H hp
          go_wp2_with fail
          (go_at_call 35; (with_reducible refine (spec_l9Parts.calls k _ _ l2 ps _ (Kd.C_below HR2.out hb2.out) HC2.out HP.out).mono ?_))
          rintro e w3 ⟨v3, rfl, ho, hb⟩
          obtain ⟨A3, c3, rfl⟩ := Kd.S_slice ho
          have hb3 := Aside0.mk (below_step hb2.out hb)
          clear ho hb hb2
          go_wp2_with fail
          (go_at_call 25; (with_reducible refine (spec_l1Bit.calls ((ps.length : Int) == 1) r _ HF.out).mono ?_))
          rintro e w4 ⟨rfl, hd⟩
          obtain ⟨n4, rfl⟩ := hd.out
          have hb4 := Aside0.mk (pw_below_drewN hb3.out n4)
          clear hd hb3
          go_wp2
          go_ret
          exact ⟨rfl, hb4.out⟩
    · have h := HH.out
      rw [if_neg e1] at h
      have H := Aside0.mk h
      have b1 : ((l2.length : Int) == wrap64 (2 * m)) = false := beq_eq_false_iff_ne.2 e1
      clear h HH e1
      go_enter Try.func50, Try.ntmps50
      go_wp2_with fail
      (go_at_call 58; (with_reducible refine (spec_l1Max.calls 1 a0 m _ HM.out).mono ?_))
      rintro e w1 ⟨rfl, hd⟩
      obtain ⟨n1, rfl⟩ := hd.out
      have hb1 := Aside0.mk (pw_below_drewN (Below.refl w.heap.size w) n1)
      generalize w.drewN n1 = w1 at hb1 ⊢
      clear hd
      go_wp2
      go_loopg [9, 10] k (fun kq v9 v10 w' => ∃ s i : Int, v9 = .int .i64 s ∧ v10 = .int .i64 i ∧ Aside0 (spec_l9Count.l0 kq a0 l1 l2 a3 s i = some r) ∧ Aside0 (kq ≤ k) ∧ Aside0 (Below w.heap.size w w'))
      case atStart => exact ⟨0, 0, rfl, rfl, H, ⟨Nat.le_refl _⟩, hb1⟩
      case round =>
        clear H hb1 b1
        obtain ⟨s, i, rfl, rfl, HA, HK, HB⟩ := hrel
        cases gk with
        | zero => exact absurd HA.out (by simp [spec_l9Count.l0])
        | succ k1 =>
          have h := HA.out
          rw [spec_l9Count.l0] at h
          clear HA
          by_cases c1 : i < (l1.length : Int)
          · rw [if_pos c1] at h
            have c1b0 : decide (i < (l1.length : Int)) = true := decide_eq_true c1
            by_cases c2 : 0 ≤ i
            · rw [if_pos c2] at h
              by_cases c3 : l2.length < 1000000
              · rw [if_pos c3] at h
                obtain ⟨t, ht, h⟩ := Option.bind_eq_some_iff.mp h
                have HT := Aside0.mk (at_rounds (fun q => spec_l9Count.mono a0 l1 (l2 ++ [rd_L1 l1 i]) a3 q) (show k1 ≤ k by have := HK.out; omega) ht)
                have H := Aside0.mk h
                have LM := Aside0.mk c3
                clear ht h
                obtain ⟨ad, A5, c5, e5, hx5, hl5, hi5⟩ := at_L1 HR1.out i c2 c1
                subst e5
                have hx := (HB.out.cell (World.block_lt_of_cell? w _ hx5)).trans hx5
                have HR5 := Aside0.mk hi5
                have HC5 := Aside0.mk hl5
                have HX := Aside0.mk hx5
                clear hx5 hi5 hl5 c3
                have p5 := eq_true c2
                have q5 := eq_true c1
                clear c1 c2
                go_wp2_with fail
                have sz1 : w.heap.size ≤ wr.heap.size := HB.out.size
                have sz2 : w.heap.size ≤ wr.heap.size + 1 := by omega
                have HR2' : ∀ W', Below w.heap.size w W' → ReadsRow ((Kd.slice 3 (Kd.int .i64)).K w) 1 W' A2 l2.length l2 := fun W' hb => ReadsRow.imp_ HR2.out hb (fun _ _ hp => hp)
                have LM' : ([] : List (List Int)).length + l2.length < 2000000 := by have := LM.out; simp; omega
                have LM2 : l2.length + 1 < 2000000 := by have := LM.out; omega
                go_region_held3 (fun W' => W'.cell? (ad.add i.toNat) = some (.slice A5 (rd_L1 l1 i).length c5) ∧ Below w.heap.size w W')
                  ((refine spec_l9Count.keep HX.out ?_; repeat (first | assumption | exact HB.out | apply below_drew | apply below_alloc)))
                  (first
                    | ((with_reducible refine spec_l9Count.gate (.tmp 40) (.tmp 41) rfl ?_); refine spec_l9Count.app (w := w) (by rfl) (.tmp 40) (.tmp 41) (by rfl) _ A2 l2.length c2 [] l2 (by rfl) (by rfl) (spec_l9Count.lit0 (spec_l9Count.hp0 _ _) sz1) (HR2' _ (below_drew (below_alloc HB.out _))) (below_drew (below_alloc HB.out _)) LM' ?_; intro v1 w1 hR1 hB1 hG1)
                    | ((with_reducible refine spec_l9Count.gate (.tmp 40) (.tmp 41) rfl ?_); refine spec_l9Count.app (w := w) (by rfl) (.tmp 40) (.tmp 41) (by rfl) _ A2 l2.length c2 [] l2 (by rfl) (by rfl) (spec_l9Count.lit0 (spec_l9Count.hp2 _ _ _) sz2) (HR2' _ (below_drew (below_alloc (below_alloc HB.out _) _))) (below_drew (below_alloc (below_alloc HB.out _) _)) LM' ?_; intro v1 w1 hR1 hB1 hG1; have hq := (hG1.block wr.heap.size (by show _ < ((wr.heap.push _).push _).size; simp only [Array.size_push]; omega) (by simp [Value.ownBlock])).trans (spec_l9Count.hp1 _ _ _); have hz := sz1)
                    | ((with_reducible refine spec_l9Count.gate (.tmp 40) (.tmp 41) rfl ?_); refine spec_l9Count.app (w := w) (by rfl) (.tmp 40) (.tmp 41) (by rfl) _ A2 l2.length c2 [] l2 (by rfl) (by rfl) (spec_l9Count.lit0 (spec_l9Count.hp1 _ _ _) sz1) (HR2' _ (below_drew (below_alloc (below_alloc HB.out _) _))) (below_drew (below_alloc (below_alloc HB.out _) _)) LM' ?_; intro v1 w1 hR1 hB1 hG1; have hq := (hG1.block (wr.heap.size + 1) (by show _ < ((wr.heap.push _).push _).size; simp only [Array.size_push]; omega) (by simp [Value.ownBlock])).trans (spec_l9Count.hp2 _ _ _); have hz := sz2)
                    | ((with_reducible refine spec_l9Count.gate (.tmp 42) (.tmp 47) rfl ?_); refine spec_l9Count.app (w := w) (by rfl) (.tmp 42) (.tmp 47) (by rfl) v1 _ 1 1 l2 [rd_L1 l1 i] (by rfl) (by rfl) (Kd.R_alloc hR1 _) (Kd.R_reads' (spec_l9Count.lit1 (heap_alloc_new _ _) HC5.out HR5.out hB1.size)).2.2 (below_alloc hB1 _) LM2 ?_; intro v2 w2 hR2 hB2 hG2; obtain ⟨A3, c3, rfl⟩ := Kd.R_slice hR2)
                    | ((with_reducible refine spec_l9Count.gate (.tmp 42) (.tmp 47) rfl ?_); refine spec_l9Count.app (w := w) (by rfl) (.tmp 42) (.tmp 47) (by rfl) v1 _ 1 1 l2 [rd_L1 l1 i] (by rfl) (by rfl) (hR1) (Kd.R_reads' (spec_l9Count.lit1 (hq) HC5.out HR5.out hz)).2.2 (hB1) LM2 ?_; intro v2 w2 hR2 hB2 hG2; obtain ⟨A3, c3, rfl⟩ := Kd.R_slice hR2)
                    | (have hcall := IH.out a0 _ c1 l1 a3 _ c3 (l2 ++ [rd_L1 l1 i]) t _ (Kd.C_below HR1.out hB2) HC1.out (spec_l9Count.read hR2 hB2) (Kd.R_reads' hR2).2.1 HT.out; rw [show (l2 ++ [rd_L1 l1 i]).length = l2.length + 1 by simp] at hcall; (go_at_call 50; (with_reducible refine hcall.mono ?_)); clear hcall; rintro e w3 ⟨rfl, hb3⟩; have hB3 := below_step hB2 hb3))
                all_goals as_aux_lemma =>
                  go_wp2
                  go_roundg k1
                  case measure => have := HK.out; omega
                  case rel => exact ⟨_, _, rfl, rfl, ⟨by rw [show IntKind.i64.wrap (s + t) = wrap64 (s + t) from by rw [IntKind.wrap_i64]; unfold wrap64; omega]; exact H.out⟩, ⟨by have := HK.out; omega⟩, ⟨hB3⟩⟩
              · rw [if_neg c3] at h
                exact absurd h (by simp)
            · rw [if_neg c2] at h
              exact absurd h (by simp)
          · rw [if_neg c1] at h
            have c1b0 : decide (i < (l1.length : Int)) = false := decide_eq_false c1
            obtain rfl := Option.some.inj h
            clear h c1
            go_wp2
            go_ret
            exact ⟨rfl, HB.out⟩
set_option maxHeartbeats 8000000 in
set_option maxRecDepth 100000 in
theorem spec_l9Count.calls (k : Nat) (a0 : Int) (A1 : Option Addr) (c1 : Nat) (l1 : List (List Int)) (A2 : Option Addr) (c2 : Nat) (l2 : List (List Int)) (a3 : Bool) (r : Int) (w : World) (hr1 : Kd.C (Kd.slice 3 (Kd.int .i64)) w A1 l1.length l1) (hc1 : l1.length ≤ c1) (hr2 : Kd.C (Kd.slice 3 (Kd.int .i64)) w A2 l2.length l2) (hc2 : l2.length ≤ c2) (h : spec_l9Count.f k a0 l1 l2 a3 = some r) :
    Calls Try.prog 50 #[.int .i64 a0, .slice A1 l1.length c1, .slice A2 l2.length c2, .bool a3] w fun e w' => e = .returned (.int .i64 r) ∧ Below w.heap.size w w' := by
  exact spec_l9Count.rec_ k a0 A1 c1 l1 a3 A2 c2 l2 r w hr1 hc1 hr2 hc2 h

end Go.Proofs.Ytlbjgdkmkdpopaa.PFnExactCountCovers
