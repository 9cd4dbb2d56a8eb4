import Derived.Test.YtomjfejacjphnaaDoorWSpanB
import Derived.Test.YtomjfejacjphnaaDoorPFnSlopesx0
import Derived.Test.YtomjfejacjphnaaDoorPFnSlopesx2
import Derived.Test.YtomjfejacjphnaaDoorPFnSlopesx5
namespace Go.Proofs.YtomjfejacjphnaaDoor.PFnSlopes
open Go.RowKit Go.Proofs.YtomjfejacjphnaaDoorW.PrintWords Go.Proofs.YtomjfejacjphnaaDoorW.PrintLast Go.Proofs.YtomjfejacjphnaaDoorW.PrintMore
attribute [local go_sem] max2_int min2_int max_two min_two max_three min_three max_four min_four   -- for this text's walks alone
set_option linter.unusedVariables false
set_option linter.unusedSimpArgs false

/-! ### impl_SlopeWord: function 18 -/
mutual
def impl_SlopeWord.j0 : Nat → Int → Bool → Int → Int → Option (List Int × Bool)
 | 0, _, _, _, _ => none
 | k + 1, x4, x21, x429000, x429001 => if x21 = true then (some (([] : List Int), false)) else ((some (([] : List Int) : List Int)).bind fun y431 => (if x429000 < 0 then (impl_SlopeWord.j1 k x4 (wrap64 (x4 + x429001)) (-2) y431) else (impl_SlopeWord.j1 k x4 (wrap64 (x4 + x429001)) 2 y431)))
def impl_SlopeWord.j1 : Nat → Int → Int → Int → List Int → Option (List Int × Bool)
 | 0, _, _, _, _ => none
 | k + 1, x4, x5, x6, x7 => impl_SlopeWord.l0 k x4 x5 x6 x7 x5 0
def impl_SlopeWord.l0 : Nat → Int → Int → Int → List Int → Int → Int → Option (List Int × Bool)
 | 0, _, _, _, _, _, _ => none
 | k + 1, x4, x5, x6, x7, x30, x31 => if x31 < x30 then (if x5 = 0 then (none) else (if (Int.tmod (wrap64 (x31 * x4)) x5) ≥ (wrap64 (x5 - x4)) then (if x7.length < 17592186044416 then (impl_SlopeWord.l0 k x4 x5 x6 (x7 ++ [x6]) x30 (wrap64 (x31 + 1))) else (none)) else (if x7.length < 17592186044416 then (impl_SlopeWord.l0 k x4 x5 x6 (x7 ++ [1]) x30 (wrap64 (x31 + 1))) else (none)))) else (some (x7, true))
end
def impl_SlopeWord.f (k : Nat) (a0_0 : Int) (a0_1 : Int) : Option (List Int × Bool) := (impl_size.f a0_0).bind fun t429 => ((impl_IsSlope.f k a0_0 a0_1).bind fun t430 => (if t430 = true then (impl_SlopeWord.j0 k t429 (decide ((wrap64 (t429 + a0_1)) > 24)) a0_0 a0_1) else (impl_SlopeWord.j0 k t429 true a0_0 a0_1)))
set_option maxHeartbeats 8000000 in
set_option maxRecDepth 100000 in
theorem impl_SlopeWord.calls (k : Nat) (a0_0 : Int) (a0_1 : Int) (r1 : List Int) (r2 : Bool) (w : World) (h : impl_SlopeWord.f k a0_0 a0_1 = some (r1, r2)) :
  Calls Tryd.prog 18 #[.agg #[.int .i64 a0_0, .int .i64 a0_1]] w fun e w' => ∃ v0_ : Value, e = .returned (.tuple #[v0_, .bool r2]) ∧ Kd.R (Kd.int .i64) 3 w' w.heap.size (fun _ => True) v0_ r1 ∧ Below w.heap.size w w' := by
 have hu25 := Tryd.underlying25
 have HB := Aside0.mk (Below.refl w.heap.size w)
 have H : ((impl_size.f a0_0).bind fun t429 => ((impl_IsSlope.f k a0_0 a0_1).bind fun t430 => (if t430 = true then (impl_SlopeWord.j0 k t429 (decide ((wrap64 (t429 + a0_1)) > 24)) a0_0 a0_1) else (impl_SlopeWord.j0 k t429 true a0_0 a0_1)))) = some (r1, r2) := h
 clear h
 obtain ⟨t429, A2, H⟩ := bs H
 have HC3 := Aside0.mk H
 clear H
 go_enter Tryd.func18, Tryd.ntmps18
 go_upto_region 2 with (first | ((with_reducible refine gate_dst (N := 1) rfl ?_); refine box_event ?hg (N := 1) ?hd (cs := #[.int .i64 a0_0, .int .i64 a0_1]) (t := 25) ?hr ?_; (case hd => rfl); (case hg => rfl); (case hr => exact gS); intro gb428 hg w4 hbox hb; have BK428 := Aside0.mk (hbox); have GW428 := Aside0.mk (gW hg tb); have GE428 := Aside0.mk (gW hg tb); replace HB := Aside0.mk (below_step tb hb); clear hb hbox hg; have hcz5_0 : w4.cell? ⟨gb428, 0, none⟩ = some (.int .i64 a0_0) := (blk_cell BK428.out 0).trans rfl; have hcz5_1 : w4.cell? ⟨gb428, 1, none⟩ = some (.int .i64 a0_1) := (blk_cell BK428.out 1).trans rfl; have hfz5_0 := blk_frozen BK428.out 0; have hfz5_1 := blk_frozen BK428.out 1) | ((with_reducible refine gate_callee (f := 47) rfl ?_); refine goesL_ (some 11) rfl rfl Tryd.func47 (by kernel_rfl) rfl #[.int .i64 a0_0] rfl mp_ ?_; (with_reducible refine (impl_size.calls a0_0 t429 _ A2.out).mono ?_); rintro e w6 ⟨rfl, hb⟩; refine ⟨_, rfl, ?_⟩; replace BK428 := Aside0.mk (bB BK428 hb); replace HB := Aside0.mk (below_step (tG1 GE428.out) hb)))
 (try simp only [Act.put, List.setIfInBounds_toArray, List.set_cons_zero, List.set_cons_succ])
 go_cut [21] (fun v21 wc => ∃ (kq : Nat) (x21_2 : Bool), v21 = .bool x21_2 ∧ Aside0 (impl_SlopeWord.j0 kq t429 x21_2 a0_0 a0_1 = some (r1, r2)) ∧ Aside0 (kq ≤ k) ∧ Aside0 (wc.heap[gb428]? = some (.cells #[.int .i64 a0_0, .int .i64 a0_1] 25 (0, 0))) ∧ Aside0 (Below w.heap.size w wc))
 case first =>
  have H := HC3.out
  clear HC3
  obtain ⟨t430, A7, H⟩ := bs H
  by_cases c8 : t430 = true
  ·subst c8
   rw [if_pos rfl] at H
   have H' := Aside0.mk H
   clear H
   have hcz9_0 : w6.cell? ⟨gb428, 0, none⟩ = some (.int .i64 a0_0) := (blk_cell BK428.out 0).trans rfl
   have hcz9_1 : w6.cell? ⟨gb428, 1, none⟩ = some (.int .i64 a0_1) := (blk_cell BK428.out 1).trans rfl
   have hfz9_0 := blk_frozen BK428.out 0
   have hfz9_1 := blk_frozen BK428.out 1
   go_wp2_with (first | ((with_reducible refine gate_callee (f := 22) rfl ?_); refine goesL_ (some 13) rfl rfl Tryd.func22 (by kernel_rfl) rfl #[.agg #[.int .i64 a0_0, .int .i64 a0_1]] rfl mp_ ?_; (with_reducible refine (impl_IsSlope.calls k a0_0 a0_1 true _ A7.out).mono ?_); rintro e w10 ⟨rfl, hb⟩; refine ⟨_, rfl, ?_⟩; replace BK428 := Aside0.mk (bB BK428 hb); replace HB := Aside0.mk (below_step (tG1 GE428.out) hb); have hcz11_0 : w10.cell? ⟨gb428, 0, none⟩ = some (.int .i64 a0_0) := (blk_cell BK428.out 0).trans rfl; have hcz11_1 : w10.cell? ⟨gb428, 1, none⟩ = some (.int .i64 a0_1) := (blk_cell BK428.out 1).trans rfl; have hfz11_0 := blk_frozen BK428.out 0; have hfz11_1 := blk_frozen BK428.out 1))
   go_meet
   case rel => exact ⟨_, (decide ((wrap64 (t429 + a0_1)) > 24)), rS, H', ⟨by first | omega | exact Nat.le_refl _⟩, ⟨by (with_reducible repeat (first | refine blk_drewN ?_ _ | refine blk_drew ?_ | refine blk_alloc ?_ _)); exact BK428.out⟩, ⟨tG1 GE428.out⟩⟩
  ·replace c8 := Bool.eq_false_iff.mpr c8
   subst c8
   rw [if_neg (show ¬ (false = true) by decide)] at H
   have H' := Aside0.mk H
   clear H
   have hcz12_0 : w6.cell? ⟨gb428, 0, none⟩ = some (.int .i64 a0_0) := (blk_cell BK428.out 0).trans rfl
   have hcz12_1 : w6.cell? ⟨gb428, 1, none⟩ = some (.int .i64 a0_1) := (blk_cell BK428.out 1).trans rfl
   have hfz12_0 := blk_frozen BK428.out 0
   have hfz12_1 := blk_frozen BK428.out 1
   go_wp2_with (first | ((with_reducible refine gate_callee (f := 22) rfl ?_); refine goesL_ (some 13) rfl rfl Tryd.func22 (by kernel_rfl) rfl #[.agg #[.int .i64 a0_0, .int .i64 a0_1]] rfl mp_ ?_; (with_reducible refine (impl_IsSlope.calls k a0_0 a0_1 false _ A7.out).mono ?_); rintro e w13 ⟨rfl, hb⟩; refine ⟨_, rfl, ?_⟩; replace BK428 := Aside0.mk (bB BK428 hb); replace HB := Aside0.mk (below_step (tG1 GE428.out) hb)))
   go_meet
   case rel => exact ⟨_, (true), rS, H', ⟨by first | omega | exact Nat.le_refl _⟩, ⟨by (with_reducible repeat (first | refine blk_drewN ?_ _ | refine blk_drew ?_ | refine blk_alloc ?_ _)); exact BK428.out⟩, ⟨tG1 GE428.out⟩⟩
 case rest =>
  clear HC3
  try clear c1
  try clear c2
  try clear p2
  try clear c4
  try clear p6
  try clear c8
  try clear hcz11_0
  try clear hcz11_1
  try clear hcz12_0
  try clear hcz12_1
  try clear hcz5_0
  try clear hcz5_1
  try clear hcz9_0
  try clear hcz9_1
  try clear hfz11_0
  try clear hfz11_1
  try clear hfz12_0
  try clear hfz12_1
  try clear hfz5_0
  try clear hfz5_1
  try clear hfz9_0
  try clear hfz9_1
  obtain ⟨kq, x21_2, rfl, HA, HJ2, BK428, HB⟩ := hcut
  cases kq with
  | zero => exact absurd HA.out (by simp [impl_SlopeWord.j0])
  | succ kj2 =>
   have H := HA.out
   clear HA
   simp only [impl_SlopeWord.j0] at H
   by_cases c14 : x21_2 = true
   ·subst c14
    rw [if_pos rfl] at H
    simp only [Option.some.injEq, Prod.mk.injEq] at H
    obtain ⟨rfl, rfl⟩ := H
    go_wp2
    go_ret2
    exact ⟨_, rE, by first | exact Kd.R_nil _ _ _ _ _ | exact Kd.N_nil _ _ _ _ _ | exact Kd.V_nil _ _ _ _ _ | exact Kd.Q_nil _ _ _ _ _ | exact Kd.S_nil _ _ _ _ _, tG1 GE428.out⟩
   ·replace c14 := Bool.eq_false_iff.mpr c14
    subst c14
    rw [if_neg (show ¬ (false = true) by decide)] at H
    generalize hy431 : (([] : List Int) : List Int) = y431 at H
    have Ny431 := Aside0.mk hy431.symm; clear hy431
    have HC15 := Aside0.mk H
    clear H
    have hcz16_0 : wc.cell? ⟨gb428, 0, none⟩ = some (.int .i64 a0_0) := (blk_cell BK428.out 0).trans rfl
    have hcz16_1 : wc.cell? ⟨gb428, 1, none⟩ = some (.int .i64 a0_1) := (blk_cell BK428.out 1).trans rfl
    have hfz16_0 := blk_frozen BK428.out 0
    have hfz16_1 := blk_frozen BK428.out 1
    go_upto_if 29 with (first | ((with_reducible refine gate_dst (N := 26) rfl ?_); refine Kd.R_lit (Kd.int .i64) _ 3 ?hg (N := 26) ?hd (xs := ([] : List Int)) (inner := []) (ok := fun _ => True) (okp := fun _ => True) ?hr ?hp (fun _ hk => hk) trivial (Below.refl _ _) (Nat.le_refl _) (by simp) ?_; (case hd => rfl); (case hg => rfl); (case hr => exact gS); (case hp => exact (Reps.none _ _)); intro v432 w17 ho18 hb hg_ hnew_; clear hg_ hnew_; (first | rw [← Ny431.out] at ho18 | (simp only [Int.reduceToNat] at ho18; rw [← Ny431.out] at ho18)); have HO433 := Aside0.mk (Kd.R_lower ho18 (below_size (tG1 GE428.out))); replace BK428 := Aside0.mk (bB BK428 hb); replace HB := Aside0.mk (below_step (tG1 GE428.out) hb); clear hb ho18; have hcz19_0 : w17.cell? ⟨gb428, 0, none⟩ = some (.int .i64 a0_0) := (blk_cell BK428.out 0).trans rfl; have hcz19_1 : w17.cell? ⟨gb428, 1, none⟩ = some (.int .i64 a0_1) := (blk_cell BK428.out 1).trans rfl; have hfz19_0 := blk_frozen BK428.out 0; have hfz19_1 := blk_frozen BK428.out 1))
    (try simp only [Act.put, List.setIfInBounds_toArray, List.set_cons_zero, List.set_cons_succ])
    go_cut [6] (fun v6 wc => ∃ (kq : Nat) (x6_14 : Int), v6 = .int .i64 x6_14 ∧ Aside0 (impl_SlopeWord.j1 kq t429 (wrap64 (t429 + a0_1)) x6_14 y431 = some (r1, r2)) ∧ Aside0 (kq ≤ kj2) ∧ Aside0 (Kd.R (Kd.int .i64) 3 wc w.heap.size (fun _ => True) v432 y431) ∧ Aside0 (wc.heap[gb428]? = some (.cells #[.int .i64 a0_0, .int .i64 a0_1] 25 (0, 0))) ∧ Aside0 (Below w.heap.size w wc))
    case first =>
     have H := HC15.out
     clear HC15
     obtain ⟨c20b0, H⟩ | ⟨c20b0, H⟩ := gi H
     ·(first | rw [c20b0] | (simp only [i64_w, i32_w]; rw [c20b0]) | skip)
      have H' := Aside0.mk H
      clear H
      go_wp2
      go_meet
      case rel => exact ⟨_, ((-2)), rS, H', ⟨by have := HJ2.out; first | omega | exact Nat.le_refl _⟩, ⟨R_l HO433.out⟩, ⟨by (with_reducible repeat (first | refine blk_drewN ?_ _ | refine blk_drew ?_ | refine blk_alloc ?_ _)); exact BK428.out⟩, ⟨tG1 GE428.out⟩⟩
     ·(first | rw [c20b0] | (simp only [i64_w, i32_w]; rw [c20b0]) | skip)
      have H' := Aside0.mk H
      clear H
      go_wp2
      go_meet
      case rel => exact ⟨_, (2), rS, H', ⟨by have := HJ2.out; first | omega | exact Nat.le_refl _⟩, ⟨R_l HO433.out⟩, ⟨by (with_reducible repeat (first | refine blk_drewN ?_ _ | refine blk_drew ?_ | refine blk_alloc ?_ _)); exact BK428.out⟩, ⟨tG1 GE428.out⟩⟩
    case rest =>
     clear HC15
     try clear c1
     try clear c2
     try clear p2
     try clear c4
     try clear p6
     try clear c8
     try clear c14
     try clear c18
     try clear c20
     try clear c20b0
     try clear hcz11_0
     try clear hcz11_1
     try clear hcz12_0
     try clear hcz12_1
     try clear hcz16_0
     try clear hcz16_1
     try clear hcz19_0
     try clear hcz19_1
     try clear hcz5_0
     try clear hcz5_1
     try clear hcz9_0
     try clear hcz9_1
     try clear hfz11_0
     try clear hfz11_1
     try clear hfz12_0
     try clear hfz12_1
     try clear hfz16_0
     try clear hfz16_1
     try clear hfz19_0
     try clear hfz19_1
     try clear hfz5_0
     try clear hfz5_1
     try clear hfz9_0
     try clear hfz9_1
     try clear p2
     try clear p6
     obtain ⟨kq, x6_14, rfl, HA, HJ14, HO_7, BK428, HB⟩ := hcut
     cases kq with
     | zero => exact absurd HA.out (by simp [impl_SlopeWord.j1])
     | succ kj14 =>
      have H := HA.out
      clear HA
      simp only [impl_SlopeWord.j1] at H
      have H' := Aside0.mk H
      clear H
      go_wp2
      go_loopg [7, 31] kj14 (fun kq v7 v31 w' => ∃ (x7_3 : List Int) (x31_3 : Int), v31 = .int .i64 x31_3 ∧ Aside0 (impl_SlopeWord.l0 kq t429 (wrap64 (t429 + a0_1)) x6_14 x7_3 (wrap64 (t429 + a0_1)) x31_3 = some (r1, r2)) ∧ Aside0 (kq ≤ kj14) ∧ Aside0 (Kd.R (Kd.int .i64) 3 w' w.heap.size (fun _ => True) v7 x7_3) ∧ Aside0 (w'.heap[gb428]? = some (.cells #[.int .i64 a0_0, .int .i64 a0_1] 25 (0, 0))) ∧ Aside0 (Below w.heap.size w w'))
      case atStart => exact ⟨(y431), (0), rS, H', ⟨Nat.le_refl _⟩, ⟨R_l HO_7.out⟩, ⟨by (with_reducible repeat (first | refine blk_drewN ?_ _ | refine blk_drew ?_ | refine blk_alloc ?_ _)); exact BK428.out⟩, ⟨tG1 GE428.out⟩⟩
      case round =>
       clear H'
       try clear c1
       try clear c2
       try clear p2
       try clear c4
       try clear p6
       try clear c8
       try clear c14
       try clear c18
       try clear c20
       try clear c20b0
       try clear hcz11_0
       try clear hcz11_1
       try clear hcz12_0
       try clear hcz12_1
       try clear hcz16_0
       try clear hcz16_1
       try clear hcz19_0
       try clear hcz19_1
       try clear hcz5_0
       try clear hcz5_1
       try clear hcz9_0
       try clear hcz9_1
       try clear hfz11_0
       try clear hfz11_1
       try clear hfz12_0
       try clear hfz12_1
       try clear hfz16_0
       try clear hfz16_1
       try clear hfz19_0
       try clear hfz19_1
       try clear hfz5_0
       try clear hfz5_1
       try clear hfz9_0
       try clear hfz9_1
       try clear p2
       try clear p6
       obtain ⟨x7_3, x31_3, rfl, HA, HK3, HO_7, BK428, HB⟩ := hrel
       cases gk with
       | zero => exact absurd HA.out (by simp [impl_SlopeWord.l0])
       | succ k3 =>
        have H := HA.out
        clear HA
        simp only [impl_SlopeWord.l0] at H
        obtain ⟨c21b0, H⟩ | ⟨c21b0, H⟩ := gi H
        ·by_cases c22 : (wrap64 (t429 + a0_1)) = 0
         ·rw [if_pos c22] at H
          exact absurd H (by simp)
         ·rw [if_neg c22] at H
          have c22b0 : ((wrap64 (t429 + a0_1)) == 0) = false := beq_eq_false_iff_ne.mpr c22
          have c22b1 : ((wrap64 (t429 + a0_1)) != 0) = true := bne_iff_ne.mpr c22
          by_cases c23 : (Int.tmod (wrap64 (x31_3 * t429)) (wrap64 (t429 + a0_1))) ≥ (wrap64 ((wrap64 (t429 + a0_1)) - t429))
          ·rw [if_pos c23] at H
           have c23b0 : decide ((wrap64 ((wrap64 (t429 + a0_1)) - t429)) ≤ (Int.tmod (wrap64 (x31_3 * t429)) (wrap64 (t429 + a0_1)))) = true := decide_eq_true c23
           clear c23
           obtain ⟨LMc24, H⟩ := gda H
           generalize hy434 : (x7_3 ++ [x6_14] : List Int) = y434 at H
           have Ny434 := Aside0.mk hy434.symm; clear hy434
           have H' := Aside0.mk H
           clear H
           go_wp2_with (first | ((with_reducible refine gate_builtin (b := .append) (xs := #[.tmp 43, .tmp 45]) rfl ?_); at_builtin; refine Kd.R_append (Kd.int .i64) (w0 := w) w.heap.size rfl (.tmp 43) (.tmp 45) 39 3 (.int .i64 0) 8 rfl Tryd.underlying39 info3 rfl (by decide) (by omega) u7 x7_3 x6_14 [.int .i64 x6_14] (fun _ => True) (fun _ => False) rfl rfl ?aP (fun _ hk => hk.elim) ?aF ?aO ?aB ?aS ?aL ?_; (case aP => exact rfl); (case aB => exact (tG1 GE428.out)); (case aF => exact (fun _ _ => trivial)); (case aO => exact (R_l HO_7.out)); (case aS => exact (below_size (tG1 GE428.out))); (case aL => have := LMc24.out; omega); intro v435 w25 ho hb hg hat; rw [← Ny434.out] at ho; replace BK428 := Aside0.mk (blk_grown (g := gb428) (o := .cells #[.int .i64 a0_0, .int .i64 a0_1] 25 (0, 0)) (blk_l BK428.out) hg (Kd.R_ne HO_7.out BK428.out (by decide))); replace HB := Aside0.mk (hb); have HO436 := Aside0.mk (ho); clear HO_7; clear ho hb hg hat))
           go_roundg k3
           case measure => have := HJ2.out; have := HJ14.out; have := HK3.out; omega
           case rel => exact ⟨(y434), (wrap64 (x31_3 + 1)), rS, H', ⟨by have := HJ2.out; have := HJ14.out; have := HK3.out; omega⟩, ⟨R_l HO436.out⟩, ⟨by (with_reducible repeat (first | refine blk_drewN ?_ _ | refine blk_drew ?_ | refine blk_alloc ?_ _)); exact BK428.out⟩, ⟨tG1 GE428.out⟩⟩
          ·rw [if_neg c23] at H
           have c23b0 : decide ((wrap64 ((wrap64 (t429 + a0_1)) - t429)) ≤ (Int.tmod (wrap64 (x31_3 * t429)) (wrap64 (t429 + a0_1)))) = false := decide_eq_false c23
           clear c23
           obtain ⟨LMc26, H⟩ := gda H
           generalize hy437 : (x7_3 ++ [1] : List Int) = y437 at H
           have Ny437 := Aside0.mk hy437.symm; clear hy437
           have H' := Aside0.mk H
           clear H
           go_wp2_with (first | ((with_reducible refine gate_builtin (b := .append) (xs := #[.tmp 47, .tmp 48]) rfl ?_); at_builtin; refine Kd.R_append (Kd.int .i64) (w0 := w) w.heap.size rfl (.tmp 47) (.tmp 48) 39 3 (.int .i64 0) 8 rfl Tryd.underlying39 info3 rfl (by decide) (by omega) u7 x7_3 1 [.int .i64 1] (fun _ => True) (fun _ => False) rfl rfl ?aP (fun _ hk => hk.elim) ?aF ?aO ?aB ?aS ?aL ?_; (case aP => exact rfl); (case aB => exact (tG1 GE428.out)); (case aF => exact (fun _ _ => trivial)); (case aO => exact (R_l HO_7.out)); (case aS => exact (below_size (tG1 GE428.out))); (case aL => have := LMc26.out; omega); intro v438 w27 ho hb hg hat; rw [← Ny437.out] at ho; replace BK428 := Aside0.mk (blk_grown (g := gb428) (o := .cells #[.int .i64 a0_0, .int .i64 a0_1] 25 (0, 0)) (blk_l BK428.out) hg (Kd.R_ne HO_7.out BK428.out (by decide))); replace HB := Aside0.mk (hb); have HO439 := Aside0.mk (ho); clear HO_7; clear ho hb hg hat))
           go_roundg k3
           case measure => have := HJ2.out; have := HJ14.out; have := HK3.out; omega
           case rel => exact ⟨(y437), (wrap64 (x31_3 + 1)), rS, H', ⟨by have := HJ2.out; have := HJ14.out; have := HK3.out; omega⟩, ⟨R_l HO439.out⟩, ⟨by (with_reducible repeat (first | refine blk_drewN ?_ _ | refine blk_drew ?_ | refine blk_alloc ?_ _)); exact BK428.out⟩, ⟨tG1 GE428.out⟩⟩
        ·simp only [Option.some.injEq, Prod.mk.injEq] at H
         obtain ⟨rfl, rfl⟩ := H
         go_wp2
         go_ret2
         exact ⟨_, rE, R_l HO_7.out, tG1 GE428.out⟩

/-! ### spec_SlopeWord: function 19 -/
mutual
def spec_SlopeWord.j0 : Nat → Bool → Int → Int → Option (List Int × Bool)
 | 0, _, _, _ => none
 | k + 1, x19, x441000, x441001 => if x19 = true then (some ((([] : List Int)), false)) else ((spec_l3Abs.f x441000).bind fun t446 => (spec_SlopeWord.l0 k t446 (wrap64 (t446 + x441001)) (([] : List Int)) 0 x441000 x441001))
def spec_SlopeWord.l0 : Nat → Int → Int → List Int → Int → Int → Int → Option (List Int × Bool)
 | 0, _, _, _, _, _, _ => none
 | k + 1, x4, x5, x6, x7, x441000, x441001 => if x7 < x5 then (if x5 = 0 then (none) else (if (Int.tmod (wrap64 (x7 * x4)) x5) < (wrap64 (x5 - x4)) then (if x6.length < 17592186044416 then (spec_SlopeWord.l0 k x4 x5 (x6 ++ [1]) (wrap64 (x7 + 1)) x441000 x441001) else (none)) else (if x441000 < 0 then (if x6.length < 17592186044416 then (spec_SlopeWord.l0 k x4 x5 (x6 ++ [(-2)]) (wrap64 (x7 + 1)) x441000 x441001) else (none)) else (if x6.length < 17592186044416 then (spec_SlopeWord.l0 k x4 x5 (x6 ++ [2]) (wrap64 (x7 + 1)) x441000 x441001) else (none))))) else (some (x6, true))
end
def spec_SlopeWord.f (k : Nat) (a0_0 : Int) (a0_1 : Int) : Option (List Int × Bool) := (spec_IsSlope.f k a0_0 a0_1).bind fun t441 => (if t441 = true then ((spec_l3Abs.f a0_0).bind fun t442 => (spec_SlopeWord.j0 k (decide ((wrap64 (t442 + a0_1)) > 24)) a0_0 a0_1)) else (spec_SlopeWord.j0 k true a0_0 a0_1))
def spec_SlopeWord.T1 : Bool × List (List Nat × List Nat) := (true, [([], []), ([0], [0]), ([1], [1]), ([2, 1], [2]), ([3], [3]), ([4, 3], [3, 4]), ([5, 3, 3], [3, 5]), ([3], [3]), ([7, 3], [3, 7]), ([6, 8, 3], [3, 6, 8]), ([9, 3], [3, 9]), ([3, 10], [3, 10])])
def spec_SlopeWord.B1 : List Nat := [0, 1, 3, 7, 15, 31, 63, 15, 143, 511, 1023, 2047]
theorem spec_SlopeWord.tab1 : rtab .any (opsOf Tryd.f19 1) = spec_SlopeWord.T1 := by kernel_rfl
theorem spec_SlopeWord.bits1 : waitsOk spec_SlopeWord.T1.2 spec_SlopeWord.B1 = true := by kernel_rfl
set_option maxHeartbeats 8000000 in
set_option maxRecDepth 100000 in
theorem spec_SlopeWord.calls (k : Nat) (a0_0 : Int) (a0_1 : Int) (r1 : List Int) (r2 : Bool) (w : World) (h : spec_SlopeWord.f k a0_0 a0_1 = some (r1, r2)) :
  Calls Tryd.prog 19 #[.agg #[.int .i64 a0_0, .int .i64 a0_1]] w fun e w' => ∃ v0_ : Value, e = .returned (.tuple #[v0_, .bool r2]) ∧ Kd.R (Kd.int .i64) 3 w' w.heap.size (fun _ => True) v0_ r1 ∧ Below w.heap.size w w' := by
 have hu25 := Tryd.underlying25
 have HB := Aside0.mk (Below.refl w.heap.size w)
 have H : ((spec_IsSlope.f k a0_0 a0_1).bind fun t441 => (if t441 = true then ((spec_l3Abs.f a0_0).bind fun t442 => (spec_SlopeWord.j0 k (decide ((wrap64 (t442 + a0_1)) > 24)) a0_0 a0_1)) else (spec_SlopeWord.j0 k true a0_0 a0_1))) = some (r1, r2) := h
 clear h
 have HC2 := Aside0.mk H
 clear H
 go_enter Tryd.func19, Tryd.ntmps19
 go_upto_region 1 with (first | ((with_reducible refine gate_dst (N := 1) rfl ?_); refine box_event ?hg (N := 1) ?hd (cs := #[.int .i64 a0_0, .int .i64 a0_1]) (t := 25) ?hr ?_; (case hd => rfl); (case hg => rfl); (case hr => exact gS); intro gb440 hg w3 hbox hb; have BK440 := Aside0.mk (hbox); have GW440 := Aside0.mk (gW hg tb); have GE440 := Aside0.mk (gW hg tb); replace HB := Aside0.mk (below_step tb hb); clear hb hbox hg))
 (try simp only [Act.put, List.setIfInBounds_toArray, List.set_cons_zero, List.set_cons_succ])
 go_cut [19] (fun v19 wc => ∃ (kq : Nat) (x19_1 : Bool), v19 = .bool x19_1 ∧ Aside0 (spec_SlopeWord.j0 kq x19_1 a0_0 a0_1 = some (r1, r2)) ∧ Aside0 (kq ≤ k) ∧ Aside0 (wc.heap[gb440]? = some (.cells #[.int .i64 a0_0, .int .i64 a0_1] 25 (0, 0))) ∧ Aside0 (Below w.heap.size w wc))
 case first =>
  have H := HC2.out
  clear HC2
  obtain ⟨t441, A4, H⟩ := bs H
  by_cases c5 : t441 = true
  ·subst c5
   rw [if_pos rfl] at H
   obtain ⟨t442, A6, H⟩ := bs H
   have H' := Aside0.mk H
   clear H
   try go_wp2
   replace BK440 := Aside0.mk (blk_drew BK440.out); replace HB := Aside0.mk (below_drew1 HB.out)
   refine start_ (n := 12) (S := fun w' => w'.cell? ⟨gb440, 0, none⟩ = some (.int .i64 a0_0) ∧ w'.cell? ⟨gb440, 1, none⟩ = some (.int .i64 a0_1)) (ds := []) #[false, false, false, false, false, false, false, false, false, false, false, false] (by kernel_rfl) rfl rfl ⟨(blk_cell BK440.out 0).trans rfl, (blk_cell BK440.out 1).trans rfl⟩ (fun hHeld => ?_); refine with_tabW spec_SlopeWord.tab1 spec_SlopeWord.bits1 (fun HT_ HW_ => ?_)
   generalize w3.drew = w7 at BK440 HB hHeld ⊢
   refine take_ (i := 0) (N := some 8) (v := ?_) (a' := ?_) #[true, false, false, false, false, false, false, false, false, false, false, false] rfl rfl (take_ofW HT_.out HW_.out (by kernel_rfl)) (fun _ _ _ h => h) (Or.inl ⟨by rfl, ?_⟩) hHeld ?_ ?_
   rotate_left
   ·rintro w' ⟨s0, s1⟩
    go_simp
    with_reducible rfl
   rotate_left
   ·simp only [Act.put, List.setIfInBounds_toArray, List.set_cons_zero, List.set_cons_succ, i64_w, i32_w]
    rfl
   refine one_ (i := 1) (N := some 9) #[true, true, false, false, false, false, false, false, false, false, false, false] rfl rfl (one_of HT_.out (by kernel_rfl)) (by decide) (fun K hK => ?_)
   refine goes_ Tryd.func23 (by kernel_rfl) rfl #[.agg #[.int .i64 a0_0, .int .i64 a0_1]] (by rfl) rfl rfl mp_ ?_
   with_reducible refine (spec_IsSlope.calls k a0_0 a0_1 true _ A4.out).mono ?_
   rintro e w8 ⟨rfl, hb⟩
   refine ⟨_, rfl, ?_⟩
   replace BK440 := Aside0.mk (bB BK440 hb); replace HB := Aside0.mk (below_step (tG1 GE440.out) hb)
   (try clear hb)
   (try clear hb2)
   (try clear hk)
   (try clear hi)
   refine hK.out _ _ ⟨(blk_cell BK440.out 0).trans rfl, (blk_cell BK440.out 1).trans rfl⟩ (fun hHeld => ?_)
   clear hK K
   refine norm_ (a' := ?_) ?_ ?_
   rotate_left
   ·show Act.put _ (some 9) _ = _
    simp only [Act.put, List.setIfInBounds_toArray, List.set_cons_zero, List.set_cons_succ, i64_w, i32_w]
    rfl
   refine pu_ 2 (some 10) ?_
   refine pu_ 3 (some 11) ?_
   refine pu_ 4 (some 12) ?_
   refine pu_ 7 (some 15) ?_
   refine take_ (i := 5) (N := some 13) (v := ?_) (a' := ?_) #[true, true, true, true, true, true, false, true, false, false, false, false] rfl rfl (take_ofW HT_.out HW_.out (by kernel_rfl)) (fun _ _ _ h => h) (Or.inl ⟨by rfl, ?_⟩) hHeld ?_ ?_
   rotate_left
   ·rintro w' ⟨s0, s1⟩
    go_simp
    with_reducible rfl
   rotate_left
   ·simp only [Act.put, List.setIfInBounds_toArray, List.set_cons_zero, List.set_cons_succ, i64_w, i32_w]
    rfl
   refine take_ (i := 8) (N := some 16) (v := ?_) (a' := ?_) #[true, true, true, true, true, true, false, true, true, false, false, false] rfl rfl (take_ofW HT_.out HW_.out (by kernel_rfl)) (fun _ _ _ h => h) (Or.inl ⟨by rfl, ?_⟩) hHeld ?_ ?_
   rotate_left
   ·rintro w' ⟨s0, s1⟩
    go_simp
    with_reducible rfl
   rotate_left
   ·simp only [Act.put, List.setIfInBounds_toArray, List.set_cons_zero, List.set_cons_succ, i64_w, i32_w]
    rfl
   refine one_ (i := 6) (N := some 14) #[true, true, true, true, true, true, true, true, true, false, false, false] rfl rfl (one_of HT_.out (by kernel_rfl)) (by decide) (fun K hK => ?_)
   refine goes_ Tryd.func48 (by kernel_rfl) rfl #[.int .i64 a0_0] (by rfl) rfl rfl mp_ ?_
   with_reducible refine (spec_l3Abs.calls a0_0 t442 _ A6.out).mono ?_
   rintro e w' ⟨rfl, ⟨nd, rfl⟩⟩
   refine ⟨_, rfl, ?_⟩
   refine hK.out _ _ ⟨(blk_cell BK440.out 0).trans rfl, (blk_cell BK440.out 1).trans rfl⟩ (fun hHeld => ?_)
   clear hK K
   refine norm_ (a' := ?_) ?_ ?_
   rotate_left
   ·show Act.put _ (some 14) _ = _
    simp only [Act.put, List.setIfInBounds_toArray, List.set_cons_zero, List.set_cons_succ, i64_w, i32_w]
    rfl
   refine pu_ 9 (some 17) ?_
   refine pu_ 10 (some 18) ?_
   refine pu_ 11 (some 19) ?_
   refine done_ (done_of HT_.out (by kernel_rfl)) ?_
   try go_wp2
   go_meet
   case rel => exact ⟨_, (decide ((wrap64 (t442 + a0_1)) > 24)), rS, H', ⟨by first | omega | exact Nat.le_refl _⟩, ⟨by (with_reducible repeat (first | refine blk_drewN ?_ _ | refine blk_drew ?_ | refine blk_alloc ?_ _)); exact BK440.out⟩, ⟨tG1 GE440.out⟩⟩
  ·replace c5 := Bool.eq_false_iff.mpr c5
   subst c5
   rw [if_neg (show ¬ (false = true) by decide)] at H
   have H' := Aside0.mk H
   clear H
   try go_wp2
   replace BK440 := Aside0.mk (blk_drew BK440.out); replace HB := Aside0.mk (below_drew1 HB.out)
   refine start_ (n := 12) (S := fun w' => w'.cell? ⟨gb440, 0, none⟩ = some (.int .i64 a0_0) ∧ w'.cell? ⟨gb440, 1, none⟩ = some (.int .i64 a0_1)) (ds := []) #[false, false, false, false, false, false, false, false, false, false, false, false] (by kernel_rfl) rfl rfl ⟨(blk_cell BK440.out 0).trans rfl, (blk_cell BK440.out 1).trans rfl⟩ (fun hHeld => ?_); refine with_tabW spec_SlopeWord.tab1 spec_SlopeWord.bits1 (fun HT_ HW_ => ?_)
   generalize w3.drew = w9 at BK440 HB hHeld ⊢
   refine take_ (i := 0) (N := some 8) (v := ?_) (a' := ?_) #[true, false, false, false, false, false, false, false, false, false, false, false] rfl rfl (take_ofW HT_.out HW_.out (by kernel_rfl)) (fun _ _ _ h => h) (Or.inl ⟨by rfl, ?_⟩) hHeld ?_ ?_
   rotate_left
   ·rintro w' ⟨s0, s1⟩
    go_simp
    with_reducible rfl
   rotate_left
   ·simp only [Act.put, List.setIfInBounds_toArray, List.set_cons_zero, List.set_cons_succ, i64_w, i32_w]
    rfl
   refine one_ (i := 1) (N := some 9) #[true, true, false, false, false, false, false, false, false, false, false, false] rfl rfl (one_of HT_.out (by kernel_rfl)) (by decide) (fun K hK => ?_)
   refine goes_ Tryd.func23 (by kernel_rfl) rfl #[.agg #[.int .i64 a0_0, .int .i64 a0_1]] (by rfl) rfl rfl mp_ ?_
   with_reducible refine (spec_IsSlope.calls k a0_0 a0_1 false _ A4.out).mono ?_
   rintro e w10 ⟨rfl, hb⟩
   refine ⟨_, rfl, ?_⟩
   replace BK440 := Aside0.mk (bB BK440 hb); replace HB := Aside0.mk (below_step (tG1 GE440.out) hb)
   (try clear hb)
   (try clear hb2)
   (try clear hk)
   (try clear hi)
   refine hK.out _ _ ⟨(blk_cell BK440.out 0).trans rfl, (blk_cell BK440.out 1).trans rfl⟩ (fun hHeld => ?_)
   clear hK K
   refine norm_ (a' := ?_) ?_ ?_
   rotate_left
   ·show Act.put _ (some 9) _ = _
    simp only [Act.put, List.setIfInBounds_toArray, List.set_cons_zero, List.set_cons_succ, i64_w, i32_w]
    rfl
   refine pu_ 2 (some 10) ?_
   refine pu_ 3 (some 11) ?_
   refine pv_ 4 (some 12) ?_
   refine pv_ 5 (some 13) ?_
   refine pv_ 6 (some 14) ?_
   refine pv_ 7 (some 15) ?_
   refine pv_ 8 (some 16) ?_
   refine pv_ 9 (some 17) ?_
   refine pv_ 10 (some 18) ?_
   refine pu_ 11 (some 19) ?_
   refine done_ (done_of HT_.out (by kernel_rfl)) ?_
   try go_wp2
   go_meet
   case rel => exact ⟨_, (true), rS, H', ⟨by first | omega | exact Nat.le_refl _⟩, ⟨by (with_reducible repeat (first | refine blk_drewN ?_ _ | refine blk_drew ?_ | refine blk_alloc ?_ _)); exact BK440.out⟩, ⟨tG1 GE440.out⟩⟩
 case rest =>
  clear HC2
  try clear c1
  try clear c2
  try clear p2
  try clear c4
  try clear c5
  try clear p6
  obtain ⟨kq, x19_1, rfl, HA, HJ1, BK440, HB⟩ := hcut
  cases kq with
  | zero => exact absurd HA.out (by simp [spec_SlopeWord.j0])
  | succ kj1 =>
   have H := HA.out
   clear HA
   simp only [spec_SlopeWord.j0] at H
   by_cases c11 : x19_1 = true
   ·subst c11
    rw [if_pos rfl] at H
    generalize hy443 : (([] : List Int) : List Int) = y443 at H
    have Ny443 := Aside0.mk hy443.symm; clear hy443
    simp only [Option.some.injEq, Prod.mk.injEq] at H
    obtain ⟨rfl, rfl⟩ := H
    go_wp2_with (first | ((with_reducible refine gate_dst (N := 20) rfl ?_); refine Kd.R_lit (Kd.int .i64) _ 3 ?hg (N := 20) ?hd (xs := ([] : List Int)) (inner := []) (ok := fun _ => True) (okp := fun _ => True) ?hr ?hp (fun _ hk => hk) trivial (Below.refl _ _) (Nat.le_refl _) (by simp) ?_; (case hd => rfl); (case hg => rfl); (case hr => exact gS); (case hp => exact (Reps.none _ _)); intro v444 w12 ho13 hb hg_ hnew_; clear hg_ hnew_; (first | rw [← Ny443.out] at ho13 | (simp only [Int.reduceToNat] at ho13; rw [← Ny443.out] at ho13)); have HO445 := Aside0.mk (Kd.R_lower ho13 (below_size (tG1 GE440.out))); replace BK440 := Aside0.mk (bB BK440 hb); replace HB := Aside0.mk (below_step (tG1 GE440.out) hb); clear hb ho13))
    go_ret2
    exact ⟨_, rE, R_l HO445.out, tG1 GE440.out⟩
   ·replace c11 := Bool.eq_false_iff.mpr c11
    subst c11
    rw [if_neg (show ¬ (false = true) by decide)] at H
    obtain ⟨t446, A14, H⟩ := bs H
    generalize hy447 : (([] : List Int) : List Int) = y447 at H
    have Ny447 := Aside0.mk hy447.symm; clear hy447
    have H' := Aside0.mk H
    clear H
    have hcz15_0 : wc.cell? ⟨gb440, 0, none⟩ = some (.int .i64 a0_0) := (blk_cell BK440.out 0).trans rfl
    have hcz15_1 : wc.cell? ⟨gb440, 1, none⟩ = some (.int .i64 a0_1) := (blk_cell BK440.out 1).trans rfl
    have hfz15_0 := blk_frozen BK440.out 0
    have hfz15_1 := blk_frozen BK440.out 1
    go_wp2_with (first | ((with_reducible refine gate_callee (f := 48) rfl ?_); refine goesL_ (some 23) rfl rfl Tryd.func48 (by kernel_rfl) rfl #[.int .i64 a0_0] rfl mp_ ?_; (with_reducible refine (spec_l3Abs.calls a0_0 t446 _ A14.out).mono ?_); rintro e w' ⟨rfl, ⟨nd, rfl⟩⟩; refine ⟨_, rfl, ?_⟩) | ((with_reducible refine gate_dst (N := 28) rfl ?_); refine Kd.R_lit (Kd.int .i64) _ 3 ?hg (N := 28) ?hd (xs := ([] : List Int)) (inner := []) (ok := fun _ => True) (okp := fun _ => True) ?hr ?hp (fun _ hk => hk) trivial (Below.refl _ _) (Nat.le_refl _) (by simp) ?_; (case hd => rfl); (case hg => rfl); (case hr => exact gS); (case hp => exact (Reps.none _ _)); intro v448 w16 ho17 hb hg_ hnew_; clear hg_ hnew_; (first | rw [← Ny447.out] at ho17 | (simp only [Int.reduceToNat] at ho17; rw [← Ny447.out] at ho17)); have HO449 := Aside0.mk (Kd.R_lower ho17 (below_size (tG1 GE440.out))); replace BK440 := Aside0.mk (bB BK440 hb); replace HB := Aside0.mk (below_step (tG1 GE440.out) hb); clear hb ho17))
    go_loopg [6, 7] kj1 (fun kq v6 v7 w' => ∃ (x6_2 : List Int) (x7_2 : Int), v7 = .int .i64 x7_2 ∧ Aside0 (spec_SlopeWord.l0 kq t446 (wrap64 (t446 + a0_1)) x6_2 x7_2 a0_0 a0_1 = some (r1, r2)) ∧ Aside0 (kq ≤ kj1) ∧ Aside0 (Kd.R (Kd.int .i64) 3 w' w.heap.size (fun _ => True) v6 x6_2) ∧ Aside0 (w'.heap[gb440]? = some (.cells #[.int .i64 a0_0, .int .i64 a0_1] 25 (0, 0))) ∧ Aside0 (Below w.heap.size w w'))
    case atStart => exact ⟨(y447), (0), rS, H', ⟨Nat.le_refl _⟩, ⟨R_l HO449.out⟩, ⟨by (with_reducible repeat (first | refine blk_drewN ?_ _ | refine blk_drew ?_ | refine blk_alloc ?_ _)); exact BK440.out⟩, ⟨tG1 GE440.out⟩⟩
    case round =>
     clear H'
     try clear c1
     try clear c2
     try clear p2
     try clear c4
     try clear c5
     try clear p6
     try clear c11
     try clear hcz15_0
     try clear hcz15_1
     try clear hfz15_0
     try clear hfz15_1
     try clear p2
     try clear p6
     obtain ⟨x6_2, x7_2, rfl, HA, HK2, HO_6, BK440, HB⟩ := hrel
     cases gk with
     | zero => exact absurd HA.out (by simp [spec_SlopeWord.l0])
     | succ k2 =>
      have H := HA.out
      clear HA
      simp only [spec_SlopeWord.l0] at H
      obtain ⟨c18b0, H⟩ | ⟨c18b0, H⟩ := gi H
      ·by_cases c19 : (wrap64 (t446 + a0_1)) = 0
       ·rw [if_pos c19] at H
        exact absurd H (by simp)
       ·rw [if_neg c19] at H
        have c19b0 : ((wrap64 (t446 + a0_1)) == 0) = false := beq_eq_false_iff_ne.mpr c19
        have c19b1 : ((wrap64 (t446 + a0_1)) != 0) = true := bne_iff_ne.mpr c19
        obtain ⟨c20b0, H⟩ | ⟨c20b0, H⟩ := gi H
        ·obtain ⟨LMc21, H⟩ := gda H
         generalize hy450 : (x6_2 ++ [1] : List Int) = y450 at H
         have Ny450 := Aside0.mk hy450.symm; clear hy450
         have H' := Aside0.mk H
         clear H
         go_wp2_with (first | ((with_reducible refine gate_builtin (b := .append) (xs := #[.tmp 47, .tmp 48]) rfl ?_); at_builtin; refine Kd.R_append (Kd.int .i64) (w0 := w) w.heap.size rfl (.tmp 47) (.tmp 48) 39 3 (.int .i64 0) 8 rfl Tryd.underlying39 info3 rfl (by decide) (by omega) u6 x6_2 1 [.int .i64 1] (fun _ => True) (fun _ => False) rfl rfl ?aP (fun _ hk => hk.elim) ?aF ?aO ?aB ?aS ?aL ?_; (case aP => exact rfl); (case aB => exact (tG1 GE440.out)); (case aF => exact (fun _ _ => trivial)); (case aO => exact (R_l HO_6.out)); (case aS => exact (below_size (tG1 GE440.out))); (case aL => have := LMc21.out; omega); intro v451 w22 ho hb hg hat; rw [← Ny450.out] at ho; replace BK440 := Aside0.mk (blk_grown (g := gb440) (o := .cells #[.int .i64 a0_0, .int .i64 a0_1] 25 (0, 0)) (blk_l BK440.out) hg (Kd.R_ne HO_6.out BK440.out (by decide))); replace HB := Aside0.mk (hb); have HO452 := Aside0.mk (ho); clear HO_6; clear ho hb hg hat))
         go_roundg k2
         case measure => have := HJ1.out; have := HK2.out; omega
         case rel => exact ⟨(y450), (wrap64 (x7_2 + 1)), rS, H', ⟨by have := HJ1.out; have := HK2.out; omega⟩, ⟨R_l HO452.out⟩, ⟨by (with_reducible repeat (first | refine blk_drewN ?_ _ | refine blk_drew ?_ | refine blk_alloc ?_ _)); exact BK440.out⟩, ⟨tG1 GE440.out⟩⟩
        ·obtain ⟨c23b0, H⟩ | ⟨c23b0, H⟩ := gi H
         ·obtain ⟨LMc24, H⟩ := gda H
          generalize hy453 : (x6_2 ++ [(-2)] : List Int) = y453 at H
          have Ny453 := Aside0.mk hy453.symm; clear hy453
          have H' := Aside0.mk H
          clear H
          have hcz25_0 : wr.cell? ⟨gb440, 0, none⟩ = some (.int .i64 a0_0) := (blk_cell BK440.out 0).trans rfl
          have hcz25_1 : wr.cell? ⟨gb440, 1, none⟩ = some (.int .i64 a0_1) := (blk_cell BK440.out 1).trans rfl
          have hfz25_0 := blk_frozen BK440.out 0
          have hfz25_1 := blk_frozen BK440.out 1
          go_wp2_with (first | ((with_reducible refine gate_builtin (b := .append) (xs := #[.tmp 54, .tmp 55]) rfl ?_); at_builtin; refine Kd.R_append (Kd.int .i64) (w0 := w) w.heap.size rfl (.tmp 54) (.tmp 55) 39 3 (.int .i64 0) 8 rfl Tryd.underlying39 info3 rfl (by decide) (by omega) u6 x6_2 (-2) [.int .i64 (-2)] (fun _ => True) (fun _ => False) rfl rfl ?aP (fun _ hk => hk.elim) ?aF ?aO ?aB ?aS ?aL ?_; (case aP => exact rfl); (case aB => exact (tG1 GE440.out)); (case aF => exact (fun _ _ => trivial)); (case aO => exact (R_l HO_6.out)); (case aS => exact (below_size (tG1 GE440.out))); (case aL => have := LMc24.out; omega); intro v454 w26 ho hb hg hat; rw [← Ny453.out] at ho; replace BK440 := Aside0.mk (blk_grown (g := gb440) (o := .cells #[.int .i64 a0_0, .int .i64 a0_1] 25 (0, 0)) (blk_l BK440.out) hg (Kd.R_ne HO_6.out BK440.out (by decide))); replace HB := Aside0.mk (hb); have HO455 := Aside0.mk (ho); clear HO_6; clear ho hb hg hat))
          go_roundg k2
          case measure => have := HJ1.out; have := HK2.out; omega
          case rel => exact ⟨(y453), (wrap64 (x7_2 + 1)), rS, H', ⟨by have := HJ1.out; have := HK2.out; omega⟩, ⟨R_l HO455.out⟩, ⟨by (with_reducible repeat (first | refine blk_drewN ?_ _ | refine blk_drew ?_ | refine blk_alloc ?_ _)); exact BK440.out⟩, ⟨tG1 GE440.out⟩⟩
         ·obtain ⟨LMc27, H⟩ := gda H
          generalize hy456 : (x6_2 ++ [2] : List Int) = y456 at H
          have Ny456 := Aside0.mk hy456.symm; clear hy456
          have H' := Aside0.mk H
          clear H
          have hcz28_0 : wr.cell? ⟨gb440, 0, none⟩ = some (.int .i64 a0_0) := (blk_cell BK440.out 0).trans rfl
          have hcz28_1 : wr.cell? ⟨gb440, 1, none⟩ = some (.int .i64 a0_1) := (blk_cell BK440.out 1).trans rfl
          have hfz28_0 := blk_frozen BK440.out 0
          have hfz28_1 := blk_frozen BK440.out 1
          go_wp2_with (first | ((with_reducible refine gate_builtin (b := .append) (xs := #[.tmp 34, .tmp 35]) rfl ?_); at_builtin; refine Kd.R_append (Kd.int .i64) (w0 := w) w.heap.size rfl (.tmp 34) (.tmp 35) 39 3 (.int .i64 0) 8 rfl Tryd.underlying39 info3 rfl (by decide) (by omega) u6 x6_2 2 [.int .i64 2] (fun _ => True) (fun _ => False) rfl rfl ?aP (fun _ hk => hk.elim) ?aF ?aO ?aB ?aS ?aL ?_; (case aP => exact rfl); (case aB => exact (tG1 GE440.out)); (case aF => exact (fun _ _ => trivial)); (case aO => exact (R_l HO_6.out)); (case aS => exact (below_size (tG1 GE440.out))); (case aL => have := LMc27.out; omega); intro v457 w29 ho hb hg hat; rw [← Ny456.out] at ho; replace BK440 := Aside0.mk (blk_grown (g := gb440) (o := .cells #[.int .i64 a0_0, .int .i64 a0_1] 25 (0, 0)) (blk_l BK440.out) hg (Kd.R_ne HO_6.out BK440.out (by decide))); replace HB := Aside0.mk (hb); have HO458 := Aside0.mk (ho); clear HO_6; clear ho hb hg hat))
          go_roundg k2
          case measure => have := HJ1.out; have := HK2.out; omega
          case rel => exact ⟨(y456), (wrap64 (x7_2 + 1)), rS, H', ⟨by have := HJ1.out; have := HK2.out; omega⟩, ⟨R_l HO458.out⟩, ⟨by (with_reducible repeat (first | refine blk_drewN ?_ _ | refine blk_drew ?_ | refine blk_alloc ?_ _)); exact BK440.out⟩, ⟨tG1 GE440.out⟩⟩
      ·simp only [Option.some.injEq, Prod.mk.injEq] at H
       obtain ⟨rfl, rfl⟩ := H
       go_wp2
       go_ret2
       exact ⟨_, rE, R_l HO_6.out, tG1 GE440.out⟩

end Go.Proofs.YtomjfejacjphnaaDoor.PFnSlopes
