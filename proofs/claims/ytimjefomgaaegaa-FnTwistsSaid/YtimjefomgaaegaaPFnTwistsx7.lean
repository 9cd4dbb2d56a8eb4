import Derived.Test.YtimjefomgaaegaaWLater
import Derived.Test.YtimjefomgaaegaaPFnTwistsx0
import Derived.Test.YtimjefomgaaegaaPFnTwistsx2
import Derived.Test.YtimjefomgaaegaaPFnTwistsx3
import Derived.Test.YtimjefomgaaegaaPFnTwistsx5
import Derived.Test.YtimjefomgaaegaaPFnTwistsx6
namespace Go.Proofs.Ytimjefomgaaegaa.PFnTwists
open Go.RowKit Go.Proofs.YtimjefomgaaegaaW.PrintWords Go.Proofs.YtimjefomgaaegaaW.PrintLast Go.Proofs.YtimjefomgaaegaaW.PrintMore
attribute [local go_sem] max2_int min2_int max_two min_two max_three min_three max_four min_four   -- for this text's walks alone
set_option linter.unusedVariables false
set_option linter.unusedSimpArgs false

/-! ### spec_ApplyTable: function 81 -/
mutual
def spec_ApplyTable.j0 : Nat → List (List Int) → List Int → Bool → Option (List Int × Bool)
 | 0, _, _, _ => none
 | k + 1, x0, x1, x24 => if x24 = true then (some ((([] : List Int)), false)) else (spec_ApplyTable.l0 k x0 x1 (([] : List Int)) 0)
def spec_ApplyTable.l0 : Nat → List (List Int) → List Int → List Int → Int → Option (List Int × Bool)
 | 0, _, _, _, _ => none
 | k + 1, x0, x1, x6, x7 => if x7 < (x0.length : Int) then (spec_ApplyTable.l1 k x0 x1 x6 x7 0 0) else ((spec_l11Fits.f k x6).bind fun t353 => (if t353 = true then (some (x6, true)) else (some ((([] : List Int)), false))))
def spec_ApplyTable.l1 : Nat → List (List Int) → List Int → List Int → Int → Int → Int → Option (List Int × Bool)
 | 0, _, _, _, _, _, _ => none
 | k + 1, x0, x1, x6, x7, x8, x9 => if x9 < (x1.length : Int) then (if 0 ≤ x7 then (if x7 < (x0.length : Int) then (if 0 ≤ x9 then (if x9 < ((rd_L2 x0 x7).length : Int) then (spec_ApplyTable.l1 k x0 x1 x6 x7 (wrap64 (x8 + (wrap64 ((rd (rd_L2 x0 x7) x9) * (rd x1 x9))))) (wrap64 (x9 + 1))) else (none)) else (none)) else (none)) else (none)) else (if x6.length < 17592186044416 then (spec_ApplyTable.l0 k x0 x1 (x6 ++ [x8]) (wrap64 (x7 + 1))) else (none))
end
def spec_ApplyTable.f (k : Nat) (l0 : List (List Int)) (l1 : List Int) : Option (List Int × Bool) := (spec_l11Table.f k l0).bind fun t345 => (if t345 = true then (if (l1.length : Int) = (l0.length : Int) then ((spec_l11Fits.f k l1).bind fun t346 => (spec_ApplyTable.j0 k l0 l1 (!t346))) else (spec_ApplyTable.j0 k l0 l1 true)) else (spec_ApplyTable.j0 k l0 l1 true))
set_option maxHeartbeats 8000000 in
set_option maxRecDepth 100000 in
theorem spec_ApplyTable.calls (k : Nat) (A0 : Option Addr) (c0 : Nat) (l0 : List (List Int)) (A1 : Option Addr) (c1 : Nat) (l1 : List Int) (r1 : List Int) (r2 : Bool) (w : World) (hr0 : Kd.C (Kd.slice 3 (Kd.int .i64)) w A0 l0.length l0) (hc0 : l0.length ≤ c0) (hr1 : Kd.C (Kd.int .i64) w A1 l1.length l1) (hc1 : l1.length ≤ c1) (h : spec_ApplyTable.f k l0 l1 = some (r1, r2)) :
  Calls Try.prog 81 #[.slice A0 l0.length c0, .slice A1 l1.length c1] w fun e w' => ∃ v0_ : Value, e = .returned (.tuple #[v0_, .bool r2]) ∧ Kd.R (Kd.int .i64) 3 w' w.heap.size (fun _ => True) v0_ r1 ∧ Below w.heap.size w w' := by
 have HR0 := Aside0.mk hr0
 have HC0 := Aside0.mk hc0
 clear hr0 hc0
 have HR1 := Aside0.mk hr1
 have HC1 := Aside0.mk hc1
 clear hr1 hc1
 have HB := Aside0.mk (Below.refl w.heap.size w)
 have H : ((spec_l11Table.f k l0).bind fun t345 => (if t345 = true then (if (l1.length : Int) = (l0.length : Int) then ((spec_l11Fits.f k l1).bind fun t346 => (spec_ApplyTable.j0 k l0 l1 (!t346))) else (spec_ApplyTable.j0 k l0 l1 true)) else (spec_ApplyTable.j0 k l0 l1 true))) = some (r1, r2) := h
 clear h
 have HC3 := Aside0.mk H
 clear H
 go_enter Try.func81, Try.ntmps81
 go_upto_region 1 with (fail)
 repeat (go_quiet (fail); go_upto_region 1 with (fail))
 go_cut [24] (fun v24 wc => ∃ (kq : Nat) (x24_2 : Bool), v24 = .bool x24_2 ∧ Aside0 (spec_ApplyTable.j0 kq l0 l1 x24_2 = some (r1, r2)) ∧ Aside0 (kq ≤ k) ∧ Aside0 (Below w.heap.size w wc))
 case first =>
  have H := HC3.out
  clear HC3
  replace H := Option.bind_eq_some_iff.mp H
  obtain ⟨t345, A40, H⟩ := H
  have A4 := Aside0.mk A40
  clear A40
  by_cases c5 : t345 = true
  ·subst c5
   rw [if_pos rfl] at H
   by_cases c6 : (l1.length : Int) = (l0.length : Int)
   ·rw [if_pos c6] at H
    have c6b0 : ((l1.length : Int) == (l0.length : Int)) = true := beq_iff_eq.mpr c6
    have c6b1 : ((l1.length : Int) != (l0.length : Int)) = false := bne_eq_false_iff_eq.mpr c6
    have c6b2 : (l1.length == l0.length) = true := by first | simpa using c6 | (simp at c6 ⊢; omega)
    clear c6
    (first | rw [c6b0] | (simp only [i64_w, i32_w]; rw [c6b0]) | skip)
    replace H := Option.bind_eq_some_iff.mp H
    obtain ⟨t346, A70, H⟩ := H
    have A7 := Aside0.mk A70
    clear A70
    have H' := Aside0.mk H
    clear H
    go_wp2_with (first | (go_at_call 175; (with_reducible refine (spec_l11Table.calls k _ _ l0 true _ ?side1 ?side2 A4.out).mono ?_); (case side1 => exact C_l (Kd.C_below HR0.out HB.out)); (case side2 => exact HC0.out); rintro e w' ⟨rfl, ⟨nd, rfl⟩⟩; (try first | exact ⟨rfl, _, World.drewN_drewN _ _ _⟩ | exact ⟨rfl, _, Eq.trans (World.drewN_drewN _ _ _) (congrArg (World.drewN _) (Nat.add_assoc _ _ _))⟩)) | (go_at_call 172; (with_reducible refine (spec_l11Fits.calls k _ _ l1 t346 _ ?side1 ?side2 A7.out).mono ?_); (case side1 => exact C_l (Kd.C_below HR1.out HB.out)); (case side2 => exact HC1.out); rintro e w' ⟨rfl, ⟨nd, rfl⟩⟩; (try first | exact ⟨rfl, _, World.drewN_drewN _ _ _⟩ | exact ⟨rfl, _, Eq.trans (World.drewN_drewN _ _ _) (congrArg (World.drewN _) (Nat.add_assoc _ _ _))⟩)))
    repeat (go_quiet (fail); try go_wp2_with fail)
    go_meet
    case rel => exact ⟨_, (!t346), (by first | rfl | (simp; done) | (simp [*]; done)), H', ⟨by first | omega | exact Nat.le_refl _⟩, ⟨B_l HB.out⟩⟩
   ·rw [if_neg c6] at H
    have c6b0 : ((l1.length : Int) == (l0.length : Int)) = false := beq_eq_false_iff_ne.mpr c6
    have c6b1 : ((l1.length : Int) != (l0.length : Int)) = true := bne_iff_ne.mpr c6
    have c6b2 : (l1.length == l0.length) = false := by first | simpa using c6 | (simp at c6 ⊢; omega)
    (first | rw [c6b0] | (simp only [i64_w, i32_w]; rw [c6b0]) | skip)
    have H' := Aside0.mk H
    clear H
    go_wp2_with (first | (go_at_call 175; (with_reducible refine (spec_l11Table.calls k _ _ l0 true _ ?side1 ?side2 A4.out).mono ?_); (case side1 => exact C_l (Kd.C_below HR0.out HB.out)); (case side2 => exact HC0.out); rintro e w' ⟨rfl, ⟨nd, rfl⟩⟩; (try first | exact ⟨rfl, _, World.drewN_drewN _ _ _⟩ | exact ⟨rfl, _, Eq.trans (World.drewN_drewN _ _ _) (congrArg (World.drewN _) (Nat.add_assoc _ _ _))⟩)))
    repeat (go_quiet (fail); try go_wp2_with fail)
    go_meet
    case rel => exact ⟨_, (true), (by first | rfl | (simp; done) | (simp [*]; done)), H', ⟨by first | omega | exact Nat.le_refl _⟩, ⟨B_l HB.out⟩⟩
  ·replace c5 := Bool.eq_false_iff.mpr c5
   subst c5
   rw [if_neg (show ¬ (false = true) by decide)] at H
   have H' := Aside0.mk H
   clear H
   go_wp2_with (first | (go_at_call 175; (with_reducible refine (spec_l11Table.calls k _ _ l0 false _ ?side1 ?side2 A4.out).mono ?_); (case side1 => exact C_l (Kd.C_below HR0.out HB.out)); (case side2 => exact HC0.out); rintro e w' ⟨rfl, ⟨nd, rfl⟩⟩; (try first | exact ⟨rfl, _, World.drewN_drewN _ _ _⟩ | exact ⟨rfl, _, Eq.trans (World.drewN_drewN _ _ _) (congrArg (World.drewN _) (Nat.add_assoc _ _ _))⟩)))
   repeat (go_quiet (fail); try go_wp2_with fail)
   go_meet
   case rel => exact ⟨_, (true), (by first | rfl | (simp; done) | (simp [*]; done)), H', ⟨by first | omega | exact Nat.le_refl _⟩, ⟨B_l HB.out⟩⟩
 case rest =>
  clear HC3
  try clear c1
  try clear p2
  try clear c5
  try clear c6
  try clear c6b0
  try clear c6b1
  try clear c6b2
  obtain ⟨kq, x24_2, rfl, HA, HJ2, HB⟩ := hcut
  cases kq with
  | zero => exact absurd HA.out (by simp [spec_ApplyTable.j0])
  | succ kj2 =>
   have H := HA.out
   clear HA
   simp only [spec_ApplyTable.j0] at H
   by_cases c8 : x24_2 = true
   ·subst c8
    rw [if_pos rfl] at H
    obtain ⟨y347, hy347⟩ : ∃ y_ : List Int, y_ = (([] : List Int)) := ⟨_, rfl⟩
    replace H : (some (y347, false)) = some (r1, r2) := by first | (rw [hy347]; with_reducible exact H) | (have H2_ := (Option.bind_some _ _).symm.trans H; rw [hy347]; with_reducible exact H2_) | (have H2_ := (Option.bind_some _ _).symm.trans H; with_reducible exact H2_) | with_reducible exact H | (rw [hy347]; exact H) | exact H
    have Ny347 := Aside0.mk hy347
    clear hy347
    simp only [Option.some.injEq, Prod.mk.injEq] at H
    obtain ⟨rfl, rfl⟩ := H
    go_wp2_with (first | ((with_reducible refine gate_dst (N := 25) rfl ?_); (try (refine gate_guard (by rfl) ?_; dsimp only)); refine Kd.R_lit (Kd.int .i64) _ 3 ?hg (N := 25) ?hd (xs := ([] : List Int)) (inner := []) (ok := fun _ => True) (okp := fun _ => True) ?hr ?hp (fun _ hk => hk) trivial (Below.refl _ _) (Nat.le_refl _) (by simp) ?_; (case hd => rfl); (case hg => rfl); (case hr => first | (go_simp; done) | (go_simp; rfl)); (case hp => exact (Reps.none _ _)); intro v348 w9 ho10 hb hg_ hnew_; clear hg_ hnew_; (first | rw [← Ny347.out] at ho10 | (simp only [Int.reduceToNat] at ho10; rw [← Ny347.out] at ho10)); have n0_ := Aside0.mk (Kd.R_lower ho10 (below_size (B_l HB.out))); have n1_ := Aside0.mk (below_step (B_l HB.out) hb); clear HB; have HO349 := n0_; have HB := n1_; clear n0_ n1_; clear hb ho10))
    repeat (go_quiet (fail); try go_wp2_with fail)
    go_ret2
    exact ⟨_, by first | rfl | (simp [errW_none, errW_some] <;> rfl) | (simp [*, errW_none, errW_some] <;> rfl), R_l HO349.out, B_l HB.out⟩
   ·replace c8 := Bool.eq_false_iff.mpr c8
    subst c8
    rw [if_neg (show ¬ (false = true) by decide)] at H
    obtain ⟨y350, hy350⟩ : ∃ y_ : List Int, y_ = (([] : List Int)) := ⟨_, rfl⟩
    replace H : (spec_ApplyTable.l0 kj2 l0 l1 y350 0) = some (r1, r2) := by first | (rw [hy350]; with_reducible exact H) | (have H2_ := (Option.bind_some _ _).symm.trans H; rw [hy350]; with_reducible exact H2_) | (have H2_ := (Option.bind_some _ _).symm.trans H; with_reducible exact H2_) | with_reducible exact H | (rw [hy350]; exact H) | exact H
    have Ny350 := Aside0.mk hy350
    clear hy350
    have H' := Aside0.mk H
    clear H
    go_wp2_with (first | ((with_reducible refine gate_dst (N := 26) rfl ?_); (try (refine gate_guard (by rfl) ?_; dsimp only)); refine Kd.R_lit (Kd.int .i64) _ 3 ?hg (N := 26) ?hd (xs := ([] : List Int)) (inner := []) (ok := fun _ => True) (okp := fun _ => True) ?hr ?hp (fun _ hk => hk) trivial (Below.refl _ _) (Nat.le_refl _) (by simp) ?_; (case hd => rfl); (case hg => rfl); (case hr => first | (go_simp; done) | (go_simp; rfl)); (case hp => exact (Reps.none _ _)); intro v351 w11 ho12 hb hg_ hnew_; clear hg_ hnew_; (first | rw [← Ny350.out] at ho12 | (simp only [Int.reduceToNat] at ho12; rw [← Ny350.out] at ho12)); have n0_ := Aside0.mk (Kd.R_lower ho12 (below_size (B_l HB.out))); have n1_ := Aside0.mk (below_step (B_l HB.out) hb); clear HB; have HO352 := n0_; have HB := n1_; clear n0_ n1_; clear hb ho12))
    repeat (go_quiet (fail); try go_wp2_with fail)
    go_loopg [6, 7] kj2 (fun kq v6 v7 w' => ∃ (x6_2 : List Int) (x7_2 : Int), v7 = .int .i64 x7_2 ∧ Aside0 (spec_ApplyTable.l0 kq l0 l1 x6_2 x7_2 = some (r1, r2)) ∧ Aside0 (kq ≤ kj2) ∧ Aside0 (Kd.R (Kd.int .i64) 3 w' w.heap.size (fun _ => True) v6 x6_2) ∧ Aside0 (Below w.heap.size w w'))
    case atStart => exact ⟨(y350), (0), (by first | rfl | (simp; done) | (simp [*]; done)), H', ⟨Nat.le_refl _⟩, ⟨R_l HO352.out⟩, ⟨B_l HB.out⟩⟩
    case round =>
     clear H'
     try clear c1
     try clear p2
     try clear c5
     try clear c6
     try clear c6b0
     try clear c6b1
     try clear c6b2
     try clear c8
     try clear p2
     obtain ⟨x6_2, x7_2, rfl, HA, HK2, HO_6, HB⟩ := hrel
     cases gk with
     | zero => exact absurd HA.out (by simp [spec_ApplyTable.l0])
     | succ k2 =>
      have H := HA.out
      clear HA
      simp only [spec_ApplyTable.l0] at H
      by_cases c13 : x7_2 < (l0.length : Int)
      ·rw [if_pos c13] at H
       have c13b0 : decide (x7_2 < (l0.length : Int)) = true := decide_eq_true c13
       clear c13
       have H' := Aside0.mk H
       clear H
       go_wp2
       repeat (go_quiet (fail); try go_wp2)
       go_loopg [8, 9] k2 (fun kq v8 v9 w' => ∃ (x8_3 : Int) (x9_3 : Int), v8 = .int .i64 x8_3 ∧ v9 = .int .i64 x9_3 ∧ Aside0 (spec_ApplyTable.l1 kq l0 l1 x6_2 x7_2 x8_3 x9_3 = some (r1, r2)) ∧ Aside0 (kq ≤ k2) ∧ Aside0 (Kd.R (Kd.int .i64) 3 w' w.heap.size (fun _ => True) u6 x6_2) ∧ Aside0 (Below w.heap.size w w'))
       case atStart => exact ⟨(0), (0), (by first | rfl | (simp; done) | (simp [*]; done)), (by first | rfl | (simp; done) | (simp [*]; done)), H', ⟨Nat.le_refl _⟩, ⟨R_l HO_6.out⟩, ⟨B_l HB.out⟩⟩
       case round =>
        clear H'
        try clear c1
        try clear p2
        try clear c5
        try clear c6
        try clear c6b0
        try clear c6b1
        try clear c6b2
        try clear c8
        try clear c13
        try clear c13b0
        try clear p2
        obtain ⟨x8_3, x9_3, rfl, rfl, HA, HK3, HO_6, HB⟩ := hrel
        cases gk with
        | zero => exact absurd HA.out (by simp [spec_ApplyTable.l1])
        | succ k3 =>
         have H := HA.out
         clear HA
         simp only [spec_ApplyTable.l1] at H
         by_cases c14 : x9_3 < (l1.length : Int)
         ·rw [if_pos c14] at H
          have c14b0 : decide (x9_3 < (l1.length : Int)) = true := decide_eq_true c14
          clear c14
          by_cases c15 : 0 ≤ x7_2
          ·rw [if_pos c15] at H
           have c15b0 : decide (0 ≤ x7_2) = true := decide_eq_true c15
           clear c15
           by_cases c16 : x7_2 < (l0.length : Int)
           ·rw [if_pos c16] at H
            have c16b0 : decide (x7_2 < (l0.length : Int)) = true := decide_eq_true c16
            clear c16
            by_cases c17 : 0 ≤ x9_3
            ·rw [if_pos c17] at H
             have c17b0 : decide (0 ≤ x9_3) = true := decide_eq_true c17
             clear c17
             by_cases c18 : x9_3 < ((rd_L2 l0 x7_2).length : Int)
             ·rw [if_pos c18] at H
              have c18b0 : decide (x9_3 < ((rd_L2 l0 x7_2).length : Int)) = true := decide_eq_true c18
              clear c18
              have H' := Aside0.mk H
              clear H
              have p357 : 0 ≤ (x7_2 : Int) := of_decide_eq_true (by first | (with_reducible assumption) | assumption)
              have q357 : x7_2 < (l0.length : Int) := of_decide_eq_true (by first | (with_reducible assumption) | assumption)
              obtain ⟨ad357, A357_0, c357_0, e357, hx357_0, hl357_0, hi357_0⟩ := at_L2 HR0.out x7_2 p357 q357
              cases e357
              replace hx357_0 := (HB.out.cell (World.block_lt_of_cell? w _ hx357_0)).trans hx357_0
              have HR357_0 := Aside0.mk hi357_0
              have HC357_0 := Aside0.mk hl357_0
              clear hi357_0 hl357_0
              replace p357 := eq_true p357
              replace q357 := eq_true q357
              have p358 : 0 ≤ (x9_3 : Int) := of_decide_eq_true (by first | (with_reducible assumption) | assumption)
              have q358 : x9_3 < ((rd_L2 l0 x7_2).length : Int) := of_decide_eq_true (by first | (with_reducible assumption) | assumption)
              obtain ⟨ad358, e358, hx358_0⟩ := Kd.at_int HR357_0.out x9_3 p358 q358
              cases e358
              replace hx358_0 := (HB.out.cell (World.block_lt_of_cell? w _ hx358_0)).trans hx358_0
              replace p358 := eq_true p358
              replace q358 := eq_true q358
              have p359 : 0 ≤ (x9_3 : Int) := of_decide_eq_true (by first | (with_reducible assumption) | assumption)
              have q359 : x9_3 < (l1.length : Int) := of_decide_eq_true (by first | (with_reducible assumption) | assumption)
              obtain ⟨ad359, e359, hx359_0⟩ := Kd.at_int HR1.out x9_3 p359 q359
              cases e359
              replace hx359_0 := (HB.out.cell (World.block_lt_of_cell? w _ hx359_0)).trans hx359_0
              replace p359 := eq_true p359
              replace q359 := eq_true q359
              go_wp2
              repeat (go_quiet (fail); try go_wp2)
              go_roundg k3
              case measure => have := HJ2.out; have := HK2.out; have := HK3.out; omega
              case rel => exact ⟨(wrap64 (x8_3 + (wrap64 ((rd (rd_L2 l0 x7_2) x9_3) * (rd l1 x9_3))))), (wrap64 (x9_3 + 1)), (by first | rfl | (simp; done) | (simp [*]; done)), (by first | rfl | (simp; done) | (simp [*]; done)), H', ⟨by have := HJ2.out; have := HK2.out; have := HK3.out; omega⟩, ⟨R_l HO_6.out⟩, ⟨B_l HB.out⟩⟩
             ·rw [if_neg c18] at H
              exact absurd H (by simp)
            ·rw [if_neg c17] at H
             exact absurd H (by simp)
           ·rw [if_neg c16] at H
            exact absurd H (by simp)
          ·rw [if_neg c15] at H
           exact absurd H (by simp)
         ·rw [if_neg c14] at H
          have c14b0 : decide (x9_3 < (l1.length : Int)) = false := decide_eq_false c14
          clear c14
          by_cases c19 : x6_2.length < 17592186044416
          ·rw [if_pos c19] at H
           have LMc19 := Aside0.mk c19
           clear c19
           obtain ⟨y360, hy360⟩ : ∃ y_ : List Int, y_ = (x6_2 ++ [x8_3]) := ⟨_, rfl⟩
           replace H : (spec_ApplyTable.l0 k3 l0 l1 y360 (wrap64 (x7_2 + 1))) = some (r1, r2) := by first | (rw [hy360]; with_reducible exact H) | (have H2_ := (Option.bind_some _ _).symm.trans H; rw [hy360]; with_reducible exact H2_) | (have H2_ := (Option.bind_some _ _).symm.trans H; with_reducible exact H2_) | with_reducible exact H | (rw [hy360]; exact H) | exact H
           have Ny360 := Aside0.mk hy360
           clear hy360
           have H' := Aside0.mk H
           clear H
           go_wp2_with (first | ((with_reducible refine gate_builtin (b := .append) (xs := #[.tmp 53, .tmp 55]) rfl ?_); (try (refine gate_guard (by rfl) ?_; dsimp only)); at_builtin; refine Kd.R_append (Kd.int .i64) (w0 := w) w.heap.size rfl (.tmp 53) (.tmp 55) 35 3 (.int .i64 0) 8 rfl Try.underlying35 info3 rfl (by decide) (by omega) u6 x6_2 x8_3 [.int .i64 x8_3] (fun _ => True) (fun _ => False) rfl rfl ?aP (fun _ hk => hk.elim) ?aF ?aO ?aB ?aS ?aL ?_; (case aP => exact rfl); (case aB => exact (B_l HB.out)); (case aF => exact (fun _ _ => trivial)); (case aO => exact (R_l HO_6.out)); (case aS => exact (below_size (B_l HB.out))); (case aL => have := LMc19.out; omega); intro v361 w20 ho hb hg hat; rw [← Ny360.out] at ho; have n0_ := Aside0.mk (hb); have n1_ := Aside0.mk (ho); clear HB; clear HO_6; have HB := n0_; have HO362 := n1_; clear n0_ n1_; clear ho hb hg hat))
           repeat (go_quiet (fail); try go_wp2_with fail)
           go_roundg k3
           case measure => have := HJ2.out; have := HK2.out; have := HK3.out; omega
           case rel => exact ⟨(y360), (wrap64 (x7_2 + 1)), (by first | rfl | (simp; done) | (simp [*]; done)), H', ⟨by have := HJ2.out; have := HK2.out; have := HK3.out; omega⟩, ⟨R_l HO362.out⟩, ⟨B_l HB.out⟩⟩
          ·rw [if_neg c19] at H
           exact absurd H (by simp)
      ·rw [if_neg c13] at H
       have c13b0 : decide (x7_2 < (l0.length : Int)) = false := decide_eq_false c13
       clear c13
       replace H := Option.bind_eq_some_iff.mp H
       obtain ⟨t353, A210, H⟩ := H
       have A21 := Aside0.mk A210
       clear A210
       by_cases c22 : t353 = true
       ·subst c22
        rw [if_pos rfl] at H
        simp only [Option.some.injEq, Prod.mk.injEq] at H
        obtain ⟨rfl, rfl⟩ := H
        obtain ⟨Ao23, co23, eo23⟩ := Kd.R_slice HO_6.out
        subst eo23
        go_wp2_with (first | (go_at_call 172; (with_reducible refine (spec_l11Fits.calls k2 _ _ x6_2 true _ ?side1 ?side2 A21.out).mono ?_); (case side1 => exact C_l ((Kd.R_reads' HO_6.out).2.2)); (case side2 => exact (Kd.R_reads' HO_6.out).2.1); rintro e w' ⟨rfl, ⟨nd, rfl⟩⟩; (try first | exact ⟨rfl, _, World.drewN_drewN _ _ _⟩ | exact ⟨rfl, _, Eq.trans (World.drewN_drewN _ _ _) (congrArg (World.drewN _) (Nat.add_assoc _ _ _))⟩)))
        repeat (go_quiet (fail); try go_wp2_with fail)
        go_ret2
        exact ⟨_, by first | rfl | (simp [errW_none, errW_some] <;> rfl) | (simp [*, errW_none, errW_some] <;> rfl), R_l HO_6.out, B_l HB.out⟩
       ·replace c22 := Bool.eq_false_iff.mpr c22
        subst c22
        rw [if_neg (show ¬ (false = true) by decide)] at H
        obtain ⟨y354, hy354⟩ : ∃ y_ : List Int, y_ = (([] : List Int)) := ⟨_, rfl⟩
        replace H : (some (y354, false)) = some (r1, r2) := by first | (rw [hy354]; with_reducible exact H) | (have H2_ := (Option.bind_some _ _).symm.trans H; rw [hy354]; with_reducible exact H2_) | (have H2_ := (Option.bind_some _ _).symm.trans H; with_reducible exact H2_) | with_reducible exact H | (rw [hy354]; exact H) | exact H
        have Ny354 := Aside0.mk hy354
        clear hy354
        simp only [Option.some.injEq, Prod.mk.injEq] at H
        obtain ⟨rfl, rfl⟩ := H
        obtain ⟨Ao24, co24, eo24⟩ := Kd.R_slice HO_6.out
        subst eo24
        go_wp2_with (first | (go_at_call 172; (with_reducible refine (spec_l11Fits.calls k2 _ _ x6_2 false _ ?side1 ?side2 A21.out).mono ?_); (case side1 => exact C_l ((Kd.R_reads' HO_6.out).2.2)); (case side2 => exact (Kd.R_reads' HO_6.out).2.1); rintro e w' ⟨rfl, ⟨nd, rfl⟩⟩; (try first | exact ⟨rfl, _, World.drewN_drewN _ _ _⟩ | exact ⟨rfl, _, Eq.trans (World.drewN_drewN _ _ _) (congrArg (World.drewN _) (Nat.add_assoc _ _ _))⟩)) | ((with_reducible refine gate_dst (N := 60) rfl ?_); (try (refine gate_guard (by rfl) ?_; dsimp only)); refine Kd.R_lit (Kd.int .i64) _ 3 ?hg (N := 60) ?hd (xs := ([] : List Int)) (inner := []) (ok := fun _ => True) (okp := fun _ => True) ?hr ?hp (fun _ hk => hk) trivial (Below.refl _ _) (Nat.le_refl _) (by simp) ?_; (case hd => rfl); (case hg => rfl); (case hr => first | (go_simp; done) | (go_simp; rfl)); (case hp => exact (Reps.none _ _)); intro v355 w25 ho26 hb hg_ hnew_; clear hg_ hnew_; (first | rw [← Ny354.out] at ho26 | (simp only [Int.reduceToNat] at ho26; rw [← Ny354.out] at ho26)); have n0_ := Aside0.mk (Kd.R_elder' (R_l HO_6.out) (Kd.R_base ho26) hb); have n1_ := Aside0.mk (Kd.R_lower (Kd.R_new' ho26 (Kd.R_lt (R_l HO_6.out))) (below_size (B_l HB.out))); have n2_ := Aside0.mk (below_step (B_l HB.out) hb); clear HO_6; clear HB; have HO_6 := n0_; have HO356 := n1_; have HB := n2_; clear n0_ n1_ n2_; clear hb ho26))
        repeat (go_quiet (fail); try go_wp2_with fail)
        go_ret2
        exact ⟨_, by first | rfl | (simp [errW_none, errW_some] <;> rfl) | (simp [*, errW_none, errW_some] <;> rfl), R_l (Kd.R_mono HO356.out (fun _ hk => trivial)), B_l HB.out⟩

/-! ### spec_DrawTimesTable: function 82 -/
def spec_DrawTimesTable.f (k : Nat) (l0 : List Int) : Option ((List (List Int)) × (List (List Int))) := (spec_l11Two.f k l0).bind fun bt363 => ((spec_TwistMatrix.f k bt363.1 bt363.2.1).bind fun bt370 => ((spec_TwistMatrix.f k bt363.1 bt363.2.2).bind fun bt374 => (some (bt370.1, bt374.1))))
set_option maxHeartbeats 8000000 in
set_option maxRecDepth 100000 in
theorem spec_DrawTimesTable.calls (k : Nat) (A0 : Option Addr) (c0 : Nat) (l0 : List Int) (r1 : List (List Int)) (r2 : List (List Int)) (w : World) (hr0 : Kd.C (Kd.int .u8) w A0 l0.length l0) (hc0 : l0.length ≤ c0) (h : spec_DrawTimesTable.f k l0 = some (r1, r2)) :
  Calls Try.prog 82 #[.slice A0 l0.length c0] w fun e w' => ∃ v0_ v1_ : Value, e = .returned (.tuple #[v0_, v1_]) ∧ Kd.S (Kd.slice 3 (Kd.int .i64)) 35 w' w.heap.size (fun k_ => some k_ ≠ (v1_ : Value).ownBlock) v0_ r1 ∧ Kd.S (Kd.slice 3 (Kd.int .i64)) 35 w' w.heap.size (fun k_ => some k_ ≠ (v0_ : Value).ownBlock) v1_ r2 ∧ Below w.heap.size w w' := by
 have HR0 := Aside0.mk hr0
 have HC0 := Aside0.mk hc0
 clear hr0 hc0
 have HB := Aside0.mk (Below.refl w.heap.size w)
 have H : ((spec_l11Two.f k l0).bind fun bt363 => ((spec_TwistMatrix.f k bt363.1 bt363.2.1).bind fun bt370 => ((spec_TwistMatrix.f k bt363.1 bt363.2.2).bind fun bt374 => (some (bt370.1, bt374.1))))) = some (r1, r2) := h
 clear h
 replace H := Option.bind_eq_some_iff.mp H
 obtain ⟨⟨t363, t364, t365⟩, A20, H⟩ := H
 replace H : ((spec_TwistMatrix.f k t363 t364).bind fun bt370 => ((spec_TwistMatrix.f k t363 t365).bind fun bt374 => (some (bt370.1, bt374.1)))) = some (r1, r2) := H
 have A2 := Aside0.mk A20
 clear A20
 replace H := Option.bind_eq_some_iff.mp H
 obtain ⟨⟨t370, t371⟩, A30, H⟩ := H
 replace H : ((spec_TwistMatrix.f k t363 t365).bind fun bt374 => (some (t370, bt374.1))) = some (r1, r2) := H
 have A3 := Aside0.mk A30
 clear A30
 replace H := Option.bind_eq_some_iff.mp H
 obtain ⟨⟨t374, t375⟩, A40, H⟩ := H
 replace H : (some (t370, t374)) = some (r1, r2) := H
 have A4 := Aside0.mk A40
 clear A40
 simp only [Option.some.injEq, Prod.mk.injEq] at H
 obtain ⟨rfl, rfl⟩ := H
 go_enter Try.func82, Try.ntmps82
 go_wp2_with (first | (refine gL 167 (some 13) Try.func167 #[.slice A0 l0.length c0] ?_; (with_reducible refine (spec_l11Two.calls k _ _ l0 t363 t364 t365 _ ?side1 ?side2 A2.out).mono ?_); (case side1 => exact C_l HR0.out); (case side2 => exact HC0.out); rintro e w5 ⟨v366, v368, rfl, ho0, ho1, hb⟩; refine ⟨_, rfl, ?_⟩; have n0_ := Aside0.mk (Kd.R_lower ho0 (below_size (B_l HB.out))); have n1_ := Aside0.mk (Kd.R_lower ho1 (below_size (B_l HB.out))); have n2_ := Aside0.mk (below_step (B_l HB.out) hb); clear HB; have HO367 := n0_; have HO369 := n1_; have HB := n2_; clear n0_ n1_ n2_; obtain ⟨Ao6, co6, eo6⟩ := Kd.R_slice HO367.out; subst eo6) | (refine gL 78 (some 20) Try.func78 #[.int .i64 t363, .slice Ao6 t364.length co6] ?_; (with_reducible refine (spec_TwistMatrix.calls k t363 _ _ t364 t370 t371 _ ?side1 ?side2 A3.out).mono ?_); (case side1 => exact C_l ((Kd.R_reads' HO367.out).2.2)); (case side2 => exact (Kd.R_reads' HO367.out).2.1); rintro e w7 ⟨v372, rfl, ho0, hb⟩; refine ⟨_, rfl, ?_⟩; have n0_ := Aside0.mk (Kd.R_below (R_l HO367.out) hb); have n1_ := Aside0.mk (Kd.R_below (R_l HO369.out) hb); have n2_ := Aside0.mk (Kd.S_lower (Kd.S_new' (Kd.S_new' ho0 (Kd.R_lt (R_l HO367.out))) (Kd.R_lt (R_l HO369.out))) (below_size (B_l HB.out))); have n3_ := Aside0.mk (below_step (B_l HB.out) hb); clear HO367; clear HO369; clear HB; have HO367 := n0_; have HO369 := n1_; have HO373 := n2_; have HB := n3_; clear n0_ n1_ n2_ n3_; obtain ⟨Ao8, co8, eo8⟩ := Kd.R_slice HO369.out; subst eo8) | (refine gL 78 (some 26) Try.func78 #[.int .i64 t363, .slice Ao8 t365.length co8] ?_; (with_reducible refine (spec_TwistMatrix.calls k t363 _ _ t365 t374 t375 _ ?side1 ?side2 A4.out).mono ?_); (case side1 => exact C_l ((Kd.R_reads' HO369.out).2.2)); (case side2 => exact (Kd.R_reads' HO369.out).2.1); rintro e w9 ⟨v376, rfl, ho0, hb⟩; refine ⟨_, rfl, ?_⟩; have n0_ := Aside0.mk (Kd.R_below (R_l HO367.out) hb); have n1_ := Aside0.mk (Kd.R_below (R_l HO369.out) hb); have n2_ := Aside0.mk (Kd.S_elder' (S_l HO373.out) (Kd.S_base ho0) hb); have n3_ := Aside0.mk (Kd.S_lower (Kd.S_new' (Kd.S_new' (Kd.S_new' ho0 (Kd.R_lt (R_l HO367.out))) (Kd.R_lt (R_l HO369.out))) (Kd.S_lt (S_l HO373.out))) (below_size (B_l HB.out))); have n4_ := Aside0.mk (below_step (B_l HB.out) hb); clear HO367; clear HO369; clear HO373; clear HB; have HO367 := n0_; have HO369 := n1_; have HO373 := n2_; have HO377 := n3_; have HB := n4_; clear n0_ n1_ n2_ n3_ n4_))
 go_ret2
 exact ⟨_, _, by first | rfl | (simp [errW_none, errW_some] <;> rfl) | (simp [*, errW_none, errW_some] <;> rfl), S_l (Kd.S_mono HO373.out (fun _ hk => hk.2)), S_l (Kd.S_mono HO377.out (fun _ hk => hk.2)), B_l HB.out⟩

end Go.Proofs.Ytimjefomgaaegaa.PFnTwists
