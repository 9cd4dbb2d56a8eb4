import Derived.Test.YtimjefomgaaegaaWLater
import Derived.Test.YtimjefomgaaegaaPFnTwistsx0
import Derived.Test.YtimjefomgaaegaaPFnTwistsx2
import Derived.Test.YtimjefomgaaegaaPFnTwistsx3
import Derived.Test.YtimjefomgaaegaaPFnTwistsx4
import Derived.Test.YtimjefomgaaegaaPFnTwistsx6
namespace Go.Proofs.Ytimjefomgaaegaa.PFnTwists
open Go.RowKit Go.Proofs.YtimjefomgaaegaaW.PrintWords Go.Proofs.YtimjefomgaaegaaW.PrintLast Go.Proofs.YtimjefomgaaegaaW.PrintMore
attribute [local go_sem] max2_int min2_int max_two min_two max_three min_three max_four min_four   -- for this text's walks alone
set_option linter.unusedVariables false
set_option linter.unusedSimpArgs false

/-! ### spec_IsSymplectic: function 88 -/
mutual
def spec_IsSymplectic.j0 : Nat → Int → List (List Int) → Bool → Option (Bool)
 | 0, _, _, _ => none
 | k + 1, x0, x1, x24 => if x24 = true then (some false) else (spec_IsSymplectic.l0 k x0 x1 0)
def spec_IsSymplectic.l0 : Nat → Int → List (List Int) → Int → Option (Bool)
 | 0, _, _, _ => none
 | k + 1, x0, x1, x5 => if x5 < (wrap64 (2 * x0)) then (spec_IsSymplectic.l1 k x0 x1 x5 0) else (some true)
def spec_IsSymplectic.l1 : Nat → Int → List (List Int) → Int → Int → Option (Bool)
 | 0, _, _, _, _ => none
 | k + 1, x0, x1, x5, x6 => if x6 < (wrap64 (2 * x0)) then (spec_IsSymplectic.l2 k x0 x1 x5 x6 (([] : List Int)) (([] : List Int)) 0) else (spec_IsSymplectic.l0 k x0 x1 (wrap64 (x5 + 1)))
def spec_IsSymplectic.l2 : Nat → Int → List (List Int) → Int → Int → List Int → List Int → Int → Option (Bool)
 | 0, _, _, _, _, _, _, _ => none
 | k + 1, x0, x1, x5, x6, x7, x8, x9 => if x9 < (wrap64 (2 * x0)) then (if 0 ≤ x9 then (if x9 < (x1.length : Int) then (if 0 ≤ x5 then (if x5 < ((rd_L2 x1 x9).length : Int) then (if x7.length < 17592186044416 then (if 0 ≤ x6 then (if x6 < ((rd_L2 x1 x9).length : Int) then (if x8.length < 17592186044416 then (spec_IsSymplectic.l2 k x0 x1 x5 x6 (x7 ++ [rd (rd_L2 x1 x9) x5]) (x8 ++ [rd (rd_L2 x1 x9) x6]) (wrap64 (x9 + 1))) else (none)) else (none)) else (none)) else (none)) else (none)) else (none)) else (none)) else (none)) else ((spec_l11Form.f k x7 x8).bind fun t516 => ((spec_l11Unit.f (wrap64 (2 * x0)) x5).bind fun t517 => ((spec_l11Unit.f (wrap64 (2 * x0)) x6).bind fun t520 => ((spec_l11Form.f k t517 t520).bind fun t523 => (if t516 = t523 then (spec_IsSymplectic.l1 k x0 x1 x5 (wrap64 (x6 + 1))) else (some false))))))
end
def spec_IsSymplectic.f (k : Nat) (a0 : Int) (l1 : List (List Int)) : Option (Bool) := (spec_l1In.f a0 1 3).bind fun t498 => (if t498 = true then (if (l1.length : Int) = (wrap64 (2 * a0)) then ((spec_l11Table.f k l1).bind fun t499 => (spec_IsSymplectic.j0 k a0 l1 (!t499))) else (spec_IsSymplectic.j0 k a0 l1 true)) else (spec_IsSymplectic.j0 k a0 l1 true))
set_option maxHeartbeats 8000000 in
set_option maxRecDepth 100000 in
theorem spec_IsSymplectic.calls (k : Nat) (a0 : Int) (A1 : Option Addr) (c1 : Nat) (l1 : List (List Int)) (r : Bool) (w : World) (hr1 : Kd.C (Kd.slice 3 (Kd.int .i64)) w A1 l1.length l1) (hc1 : l1.length ≤ c1) (h : spec_IsSymplectic.f k a0 l1 = some r) :
  Calls Try.prog 88 #[.int .i64 a0, .slice A1 l1.length c1] w fun e w' => e = .returned (.bool r) ∧ Below w.heap.size w w' := by
 have HR1 := Aside0.mk hr1
 have HC1 := Aside0.mk hc1
 clear hr1 hc1
 have HB := Aside0.mk (Below.refl w.heap.size w)
 have H : ((spec_l1In.f a0 1 3).bind fun t498 => (if t498 = true then (if (l1.length : Int) = (wrap64 (2 * a0)) then ((spec_l11Table.f k l1).bind fun t499 => (spec_IsSymplectic.j0 k a0 l1 (!t499))) else (spec_IsSymplectic.j0 k a0 l1 true)) else (spec_IsSymplectic.j0 k a0 l1 true))) = some r := h
 clear h
 have HC3 := Aside0.mk H
 clear H
 go_enter Try.func88, Try.ntmps88
 go_upto_region 1 with (fail)
 go_cut [24] (fun v24 wc => ∃ (kq : Nat) (x24_2 : Bool), v24 = .bool x24_2 ∧ Aside0 (spec_IsSymplectic.j0 kq a0 l1 x24_2 = some r) ∧ Aside0 (kq ≤ k) ∧ Aside0 (Below w.heap.size w wc))
 case first =>
  have H := HC3.out
  clear HC3
  replace H := Option.bind_eq_some_iff.mp H
  obtain ⟨t498, A40, H⟩ := H
  have A4 := Aside0.mk A40
  clear A40
  by_cases c5 : t498 = true
  ·subst c5
   rw [if_pos rfl] at H
   by_cases c6 : (l1.length : Int) = (wrap64 (2 * a0))
   ·rw [if_pos c6] at H
    have c6b0 : ((l1.length : Int) == (wrap64 (2 * a0))) = true := beq_iff_eq.mpr c6
    have c6b1 : ((l1.length : Int) != (wrap64 (2 * a0))) = false := bne_eq_false_iff_eq.mpr c6
    clear c6
    (first | rw [c6b0] | (simp only [i64_w, i32_w]; rw [c6b0]) | skip)
    replace H := Option.bind_eq_some_iff.mp H
    obtain ⟨t499, A70, H⟩ := H
    have A7 := Aside0.mk A70
    clear A70
    have H' := Aside0.mk H
    clear H
    go_wp2_with (first | (refine gL 110 (some 11) Try.func110 #[.int .i64 a0, .int .i64 1, .int .i64 3] ?_; (with_reducible refine (spec_l1In.calls a0 1 3 true _ A4.out).mono ?_); rintro e w' ⟨rfl, ⟨nd, rfl⟩⟩; refine ⟨_, rfl, ?_⟩) | (go_at_call 175; (with_reducible refine (spec_l11Table.calls k _ _ l1 t499 _ ?side1 ?side2 A7.out).mono ?_); (case side1 => exact C_l (Kd.C_below HR1.out HB.out)); (case side2 => exact HC1.out); rintro e w' ⟨rfl, ⟨nd, rfl⟩⟩))
    go_meet
    case rel => exact ⟨_, (!t499), (by first | rfl | (simp; done) | (simp [*]; done)), H', ⟨by first | omega | exact Nat.le_refl _⟩, ⟨B_l HB.out⟩⟩
   ·rw [if_neg c6] at H
    have c6b0 : ((l1.length : Int) == (wrap64 (2 * a0))) = false := beq_eq_false_iff_ne.mpr c6
    have c6b1 : ((l1.length : Int) != (wrap64 (2 * a0))) = true := bne_iff_ne.mpr c6
    (first | rw [c6b0] | (simp only [i64_w, i32_w]; rw [c6b0]) | skip)
    have H' := Aside0.mk H
    clear H
    go_wp2_with (first | (refine gL 110 (some 11) Try.func110 #[.int .i64 a0, .int .i64 1, .int .i64 3] ?_; (with_reducible refine (spec_l1In.calls a0 1 3 true _ A4.out).mono ?_); rintro e w' ⟨rfl, ⟨nd, rfl⟩⟩; refine ⟨_, rfl, ?_⟩))
    go_meet
    case rel => exact ⟨_, (true), (by first | rfl | (simp; done) | (simp [*]; done)), H', ⟨by first | omega | exact Nat.le_refl _⟩, ⟨B_l HB.out⟩⟩
  ·replace c5 := Bool.eq_false_iff.mpr c5
   subst c5
   rw [if_neg (show ¬ (false = true) by decide)] at H
   have H' := Aside0.mk H
   clear H
   go_wp2_with (first | (refine gL 110 (some 11) Try.func110 #[.int .i64 a0, .int .i64 1, .int .i64 3] ?_; (with_reducible refine (spec_l1In.calls a0 1 3 false _ A4.out).mono ?_); rintro e w' ⟨rfl, ⟨nd, rfl⟩⟩; refine ⟨_, rfl, ?_⟩))
   go_meet
   case rel => exact ⟨_, (true), (by first | rfl | (simp; done) | (simp [*]; done)), H', ⟨by first | omega | exact Nat.le_refl _⟩, ⟨B_l HB.out⟩⟩
 case rest =>
  clear HC3
  try clear c1
  try clear p2
  try clear c5
  try clear c6
  try clear c6b0
  try clear c6b1
  try clear p6
  obtain ⟨kq, x24_2, rfl, HA, HJ2, HB⟩ := hcut
  cases kq with
  | zero => exact absurd HA.out (by simp [spec_IsSymplectic.j0])
  | succ kj2 =>
   have H := HA.out
   clear HA
   simp only [spec_IsSymplectic.j0] at H
   by_cases c8 : x24_2 = true
   ·subst c8
    rw [if_pos rfl] at H
    obtain rfl := Option.some.inj H
    go_wp2
    go_ret
    exact ⟨by first | rfl | (simp [errW_none, errW_some] <;> rfl) | (simp [*, errW_none, errW_some] <;> rfl), B_l HB.out⟩
   ·replace c8 := Bool.eq_false_iff.mpr c8
    subst c8
    rw [if_neg (show ¬ (false = true) by decide)] at H
    have H' := Aside0.mk H
    clear H
    go_wp2
    go_loopg [5] kj2 (fun kq v5 w' => ∃ (x5_2 : Int), v5 = .int .i64 x5_2 ∧ Aside0 (spec_IsSymplectic.l0 kq a0 l1 x5_2 = some r) ∧ Aside0 (kq ≤ kj2) ∧ Aside0 (Below w.heap.size w w'))
    case atStart => exact ⟨(0), (by first | rfl | (simp; done) | (simp [*]; done)), H', ⟨Nat.le_refl _⟩, ⟨B_l HB.out⟩⟩
    case round =>
     clear H'
     try clear c1
     try clear p2
     try clear c5
     try clear c6
     try clear c6b0
     try clear c6b1
     try clear p6
     try clear c8
     try clear p2
     try clear p6
     obtain ⟨x5_2, rfl, HA, HK2, HB⟩ := hrel
     cases gk with
     | zero => exact absurd HA.out (by simp [spec_IsSymplectic.l0])
     | succ k2 =>
      have H := HA.out
      clear HA
      simp only [spec_IsSymplectic.l0] at H
      by_cases c9 : x5_2 < (wrap64 (2 * a0))
      ·rw [if_pos c9] at H
       have c9b0 : decide (x5_2 < (wrap64 (2 * a0))) = true := decide_eq_true c9
       clear c9
       have H' := Aside0.mk H
       clear H
       go_wp2
       go_loopg [6] k2 (fun kq v6 w' => ∃ (x6_3 : Int), v6 = .int .i64 x6_3 ∧ Aside0 (spec_IsSymplectic.l1 kq a0 l1 x5_2 x6_3 = some r) ∧ Aside0 (kq ≤ k2) ∧ Aside0 (Below w.heap.size w w'))
       case atStart => exact ⟨(0), (by first | rfl | (simp; done) | (simp [*]; done)), H', ⟨Nat.le_refl _⟩, ⟨B_l HB.out⟩⟩
       case round =>
        clear H'
        try clear c1
        try clear p2
        try clear c5
        try clear c6
        try clear c6b0
        try clear c6b1
        try clear p6
        try clear c8
        try clear c9
        try clear c9b0
        try clear p2
        try clear p6
        obtain ⟨x6_3, rfl, HA, HK3, HB⟩ := hrel
        cases gk with
        | zero => exact absurd HA.out (by simp [spec_IsSymplectic.l1])
        | succ k3 =>
         have H := HA.out
         clear HA
         simp only [spec_IsSymplectic.l1] at H
         by_cases c10 : x6_3 < (wrap64 (2 * a0))
         ·rw [if_pos c10] at H
          have c10b0 : decide (x6_3 < (wrap64 (2 * a0))) = true := decide_eq_true c10
          clear c10
          obtain ⟨y500, hy500⟩ : ∃ y_ : List Int, y_ = (([] : List Int)) := ⟨_, rfl⟩
          replace H : (spec_IsSymplectic.l2 k3 a0 l1 x5_2 x6_3 y500 (([] : List Int)) 0) = some r := by first | (rw [hy500]; with_reducible exact H) | (have H2_ := (Option.bind_some _ _).symm.trans H; rw [hy500]; with_reducible exact H2_) | (have H2_ := (Option.bind_some _ _).symm.trans H; with_reducible exact H2_) | with_reducible exact H | (rw [hy500]; exact H) | exact H
          have Ny500 := Aside0.mk hy500
          clear hy500
          obtain ⟨y503, hy503⟩ : ∃ y_ : List Int, y_ = (([] : List Int)) := ⟨_, rfl⟩
          replace H : (spec_IsSymplectic.l2 k3 a0 l1 x5_2 x6_3 y500 y503 0) = some r := by first | (rw [hy503]; with_reducible exact H) | (have H2_ := (Option.bind_some _ _).symm.trans H; rw [hy503]; with_reducible exact H2_) | (have H2_ := (Option.bind_some _ _).symm.trans H; with_reducible exact H2_) | with_reducible exact H | (rw [hy503]; exact H) | exact H
          have Ny503 := Aside0.mk hy503
          clear hy503
          have H' := Aside0.mk H
          clear H
          go_wp2_with (first | ((with_reducible refine gate_dst (N := 37) rfl ?_); (try (refine gate_guard (by rfl) ?_; dsimp only)); refine Kd.R_lit (Kd.int .i64) _ 3 ?hg (N := 37) ?hd (xs := ([] : List Int)) (inner := []) (ok := fun _ => True) (okp := fun _ => True) ?hr ?hp (fun _ hk => hk) trivial (Below.refl _ _) (Nat.le_refl _) (by simp) ?_; (case hd => rfl); (case hg => rfl); (case hr => first | (go_simp; done) | (go_simp; rfl)); (case hp => exact (Reps.none _ _)); intro v501 w11 ho12 hb hg_ hnew_; clear hg_ hnew_; (first | rw [← Ny500.out] at ho12 | (simp only [Int.reduceToNat] at ho12; rw [← Ny500.out] at ho12)); have n0_ := Aside0.mk (Kd.R_lower ho12 (below_size (B_l HB.out))); have n1_ := Aside0.mk (below_step (B_l HB.out) hb); clear HB; have HO502 := n0_; have HB := n1_; clear n0_ n1_; clear hb ho12) | ((with_reducible refine gate_dst (N := 38) rfl ?_); (try (refine gate_guard (by rfl) ?_; dsimp only)); refine Kd.R_lit (Kd.int .i64) _ 3 ?hg (N := 38) ?hd (xs := ([] : List Int)) (inner := []) (ok := fun _ => True) (okp := fun _ => True) ?hr ?hp (fun _ hk => hk) trivial (Below.refl _ _) (Nat.le_refl _) (by simp) ?_; (case hd => rfl); (case hg => rfl); (case hr => first | (go_simp; done) | (go_simp; rfl)); (case hp => exact (Reps.none _ _)); intro v504 w13 ho14 hb hg_ hnew_; clear hg_ hnew_; (first | rw [← Ny503.out] at ho14 | (simp only [Int.reduceToNat] at ho14; rw [← Ny503.out] at ho14)); have n0_ := Aside0.mk (Kd.R_elder' (R_l HO502.out) (Kd.R_base ho14) hb); have n1_ := Aside0.mk (Kd.R_lower (Kd.R_new' ho14 (Kd.R_lt (R_l HO502.out))) (below_size (B_l HB.out))); have n2_ := Aside0.mk (below_step (B_l HB.out) hb); clear HO502; clear HB; have HO502 := n0_; have HO505 := n1_; have HB := n2_; clear n0_ n1_ n2_; clear hb ho14))
          go_loopg [7, 8, 9] k3 (fun kq v7 v8 v9 w' => ∃ (x7_4 : List Int) (x8_4 : List Int) (x9_4 : Int), v9 = .int .i64 x9_4 ∧ Aside0 (spec_IsSymplectic.l2 kq a0 l1 x5_2 x6_3 x7_4 x8_4 x9_4 = some r) ∧ Aside0 (kq ≤ k3) ∧ Aside0 (Kd.R (Kd.int .i64) 3 w' w.heap.size (fun k_ => some k_ ≠ (v8 : Value).ownBlock) v7 x7_4) ∧ Aside0 (Kd.R (Kd.int .i64) 3 w' w.heap.size (fun k_ => some k_ ≠ (v7 : Value).ownBlock) v8 x8_4) ∧ Aside0 (Below w.heap.size w w'))
          case atStart => exact ⟨(y500), (y503), (0), (by first | rfl | (simp; done) | (simp [*]; done)), H', ⟨Nat.le_refl _⟩, ⟨R_l (Kd.R_mono HO502.out (fun _ hk => hk.2))⟩, ⟨R_l (Kd.R_mono HO505.out (fun _ hk => hk.2))⟩, ⟨B_l HB.out⟩⟩
          case round =>
           clear H'
           try clear c1
           try clear p2
           try clear c5
           try clear c6
           try clear c6b0
           try clear c6b1
           try clear p6
           try clear c8
           try clear c9
           try clear c9b0
           try clear c10
           try clear c10b0
           try clear c11
           try clear p2
           try clear p6
           obtain ⟨x7_4, x8_4, x9_4, rfl, HA, HK4, HO_7, HO_8, HB⟩ := hrel
           cases gk with
           | zero => exact absurd HA.out (by simp [spec_IsSymplectic.l2])
           | succ k4 =>
            have H := HA.out
            clear HA
            simp only [spec_IsSymplectic.l2] at H
            by_cases c15 : x9_4 < (wrap64 (2 * a0))
            ·rw [if_pos c15] at H
             have c15b0 : decide (x9_4 < (wrap64 (2 * a0))) = true := decide_eq_true c15
             clear c15
             by_cases c16 : 0 ≤ x9_4
             ·rw [if_pos c16] at H
              have c16b0 : decide (0 ≤ x9_4) = true := decide_eq_true c16
              clear c16
              by_cases c17 : x9_4 < (l1.length : Int)
              ·rw [if_pos c17] at H
               have c17b0 : decide (x9_4 < (l1.length : Int)) = true := decide_eq_true c17
               clear c17
               by_cases c18 : 0 ≤ x5_2
               ·rw [if_pos c18] at H
                have c18b0 : decide (0 ≤ x5_2) = true := decide_eq_true c18
                clear c18
                by_cases c19 : x5_2 < ((rd_L2 l1 x9_4).length : Int)
                ·rw [if_pos c19] at H
                 have c19b0 : decide (x5_2 < ((rd_L2 l1 x9_4).length : Int)) = true := decide_eq_true c19
                 clear c19
                 by_cases c20 : x7_4.length < 17592186044416
                 ·rw [if_pos c20] at H
                  have LMc20 := Aside0.mk c20
                  clear c20
                  obtain ⟨y508, hy508⟩ : ∃ y_ : List Int, y_ = (x7_4 ++ [rd (rd_L2 l1 x9_4) x5_2]) := ⟨_, rfl⟩
                  replace H : (if 0 ≤ x6_3 then (if x6_3 < ((rd_L2 l1 x9_4).length : Int) then (if x8_4.length < 17592186044416 then (spec_IsSymplectic.l2 k4 a0 l1 x5_2 x6_3 y508 (x8_4 ++ [rd (rd_L2 l1 x9_4) x6_3]) (wrap64 (x9_4 + 1))) else (none)) else (none)) else (none)) = some r := by first | (rw [hy508]; with_reducible exact H) | (have H2_ := (Option.bind_some _ _).symm.trans H; rw [hy508]; with_reducible exact H2_) | (have H2_ := (Option.bind_some _ _).symm.trans H; with_reducible exact H2_) | with_reducible exact H | (rw [hy508]; exact H) | exact H
                  have Ny508 := Aside0.mk hy508
                  clear hy508
                  by_cases c21 : 0 ≤ x6_3
                  ·rw [if_pos c21] at H
                   have c21b0 : decide (0 ≤ x6_3) = true := decide_eq_true c21
                   clear c21
                   by_cases c22 : x6_3 < ((rd_L2 l1 x9_4).length : Int)
                   ·rw [if_pos c22] at H
                    have c22b0 : decide (x6_3 < ((rd_L2 l1 x9_4).length : Int)) = true := decide_eq_true c22
                    clear c22
                    by_cases c23 : x8_4.length < 17592186044416
                    ·rw [if_pos c23] at H
                     have LMc23 := Aside0.mk c23
                     clear c23
                     obtain ⟨y513, hy513⟩ : ∃ y_ : List Int, y_ = (x8_4 ++ [rd (rd_L2 l1 x9_4) x6_3]) := ⟨_, rfl⟩
                     replace H : (spec_IsSymplectic.l2 k4 a0 l1 x5_2 x6_3 y508 y513 (wrap64 (x9_4 + 1))) = some r := by first | (rw [hy513]; with_reducible exact H) | (have H2_ := (Option.bind_some _ _).symm.trans H; rw [hy513]; with_reducible exact H2_) | (have H2_ := (Option.bind_some _ _).symm.trans H; with_reducible exact H2_) | with_reducible exact H | (rw [hy513]; exact H) | exact H
                     have Ny513 := Aside0.mk hy513
                     clear hy513
                     have H' := Aside0.mk H
                     clear H
                     have p506 : 0 ≤ (x9_4 : Int) := of_decide_eq_true (by first | (with_reducible assumption) | assumption)
                     have q506 : x9_4 < (l1.length : Int) := of_decide_eq_true (by first | (with_reducible assumption) | assumption)
                     obtain ⟨ad506, A506_0, c506_0, e506, hx506_0, hl506_0, hi506_0⟩ := at_L2 HR1.out x9_4 p506 q506
                     cases e506
                     replace hx506_0 := (HB.out.cell (World.block_lt_of_cell? w _ hx506_0)).trans hx506_0
                     have HR506_0 := Aside0.mk hi506_0
                     have HC506_0 := Aside0.mk hl506_0
                     clear hi506_0 hl506_0
                     replace p506 := eq_true p506
                     replace q506 := eq_true q506
                     have p507 : 0 ≤ (x5_2 : Int) := of_decide_eq_true (by first | (with_reducible assumption) | assumption)
                     have q507 : x5_2 < ((rd_L2 l1 x9_4).length : Int) := of_decide_eq_true (by first | (with_reducible assumption) | assumption)
                     obtain ⟨ad507, e507, hx507_0⟩ := Kd.at_int HR506_0.out x5_2 p507 q507
                     cases e507
                     replace hx507_0 := (HB.out.cell (World.block_lt_of_cell? w _ hx507_0)).trans hx507_0
                     replace p507 := eq_true p507
                     replace q507 := eq_true q507
                     go_wp2_with (first | ((with_reducible refine gate_builtin (b := .append) (xs := #[.tmp 45, .tmp 53]) rfl ?_); (try (refine gate_guard (by rfl) ?_; dsimp only)); at_builtin; refine Kd.R_append (Kd.int .i64) (w0 := w) w.heap.size rfl (.tmp 45) (.tmp 53) 35 3 (.int .i64 0) 8 rfl Try.underlying35 info3 rfl (by decide) (by omega) u7 x7_4 (rd (rd_L2 l1 x9_4) x5_2) [.int .i64 (rd (rd_L2 l1 x9_4) x5_2)] (fun k_ => some k_ ≠ (u8 : Value).ownBlock) (fun _ => False) rfl rfl ?aP (fun _ hk => hk.elim) ?aF ?aO ?aB ?aS ?aL ?_; (case aP => exact rfl); (case aB => exact (B_l HB.out)); (case aF => exact (fun k_ hk => Kd.fresh' (Kd.R_lt (R_l HO_8.out)) k_ hk)); (case aO => exact (R_l HO_7.out)); (case aS => exact (below_size (B_l HB.out))); (case aL => have := LMc20.out; omega); intro v509 w24 ho hb hg hat; rw [← Ny508.out] at ho; have n0_ := Aside0.mk (Kd.R_after (ok := (fun _ => True)) (R_l (Kd.R_mono HO_8.out (fun _ hk => ⟨trivial, hk⟩))) hg hat); have n1_ := Aside0.mk (hb); have n2_ := Aside0.mk (ho); clear HO_8; clear HB; clear HO_7; have HO_8 := n0_; have HB := n1_; have HO510 := n2_; clear n0_ n1_ n2_; clear ho hb hg hat; have p511 : 0 ≤ (x9_4 : Int) := of_decide_eq_true (by first | (with_reducible assumption) | assumption); have q511 : x9_4 < (l1.length : Int) := of_decide_eq_true (by first | (with_reducible assumption) | assumption); obtain ⟨ad511, A511_0, c511_0, e511, hx511_0, hl511_0, hi511_0⟩ := at_L2 HR1.out x9_4 p511 q511; obtain rfl : ad506 = ad511 := (by injection e511); replace hx511_0 := (HB.out.cell (World.block_lt_of_cell? w _ hx511_0)).trans hx511_0; have HR511_0 := Aside0.mk hi511_0; have HC511_0 := Aside0.mk hl511_0; clear hi511_0 hl511_0; replace p511 := eq_true p511; replace q511 := eq_true q511; have p512 : 0 ≤ (x6_3 : Int) := of_decide_eq_true (by first | (with_reducible assumption) | assumption); have q512 : x6_3 < ((rd_L2 l1 x9_4).length : Int) := of_decide_eq_true (by first | (with_reducible assumption) | assumption); obtain ⟨ad512, e512, hx512_0⟩ := Kd.at_int HR511_0.out x6_3 p512 q512; cases e512; replace hx512_0 := (HB.out.cell (World.block_lt_of_cell? w _ hx512_0)).trans hx512_0; replace p512 := eq_true p512; replace q512 := eq_true q512) | ((with_reducible refine gate_builtin (b := .append) (xs := #[.tmp 55, .tmp 63]) rfl ?_); (try (refine gate_guard (by rfl) ?_; dsimp only)); at_builtin; refine Kd.R_append (Kd.int .i64) (w0 := w) w.heap.size rfl (.tmp 55) (.tmp 63) 35 3 (.int .i64 0) 8 rfl Try.underlying35 info3 rfl (by decide) (by omega) u8 x8_4 (rd (rd_L2 l1 x9_4) x6_3) [.int .i64 (rd (rd_L2 l1 x9_4) x6_3)] (fun k_ => some k_ ≠ (v509 : Value).ownBlock) (fun _ => False) rfl rfl ?aP (fun _ hk => hk.elim) ?aF ?aO ?aB ?aS ?aL ?_; (case aP => exact rfl); (case aB => exact (B_l HB.out)); (case aF => exact (fun k_ hk => Kd.fresh' (Kd.R_lt (R_l HO510.out)) k_ hk)); (case aO => exact (R_l (Kd.R_mono HO_8.out (fun _ hk => hk.2)))); (case aS => exact (below_size (B_l HB.out))); (case aL => have := LMc23.out; omega); intro v514 w25 ho hb hg hat; rw [← Ny513.out] at ho; have n0_ := Aside0.mk (Kd.R_after (ok := (fun _ => True)) (R_l (Kd.R_mono HO510.out (fun _ hk => ⟨trivial, hk⟩))) hg hat); have n1_ := Aside0.mk (hb); have n2_ := Aside0.mk (ho); clear HO510; clear HB; clear HO_8; have HO510 := n0_; have HB := n1_; have HO515 := n2_; clear n0_ n1_ n2_; clear ho hb hg hat))
                     go_roundg k4
                     case measure => have := HJ2.out; have := HK2.out; have := HK3.out; have := HK4.out; omega
                     case rel => exact ⟨(y508), (y513), (wrap64 (x9_4 + 1)), (by first | rfl | (simp; done) | (simp [*]; done)), H', ⟨by have := HJ2.out; have := HK2.out; have := HK3.out; have := HK4.out; omega⟩, ⟨R_l (Kd.R_mono HO510.out (fun _ hk => hk.2))⟩, ⟨R_l HO515.out⟩, ⟨B_l HB.out⟩⟩
                    ·rw [if_neg c23] at H
                     exact absurd H (by simp)
                   ·rw [if_neg c22] at H
                    exact absurd H (by simp)
                  ·rw [if_neg c21] at H
                   exact absurd H (by simp)
                 ·rw [if_neg c20] at H
                  exact absurd H (by simp)
                ·rw [if_neg c19] at H
                 exact absurd H (by simp)
               ·rw [if_neg c18] at H
                exact absurd H (by simp)
              ·rw [if_neg c17] at H
               exact absurd H (by simp)
             ·rw [if_neg c16] at H
              exact absurd H (by simp)
            ·rw [if_neg c15] at H
             have c15b0 : decide (x9_4 < (wrap64 (2 * a0))) = false := decide_eq_false c15
             clear c15
             replace H := Option.bind_eq_some_iff.mp H
             obtain ⟨t516, A260, H⟩ := H
             have A26 := Aside0.mk A260
             clear A260
             replace H := Option.bind_eq_some_iff.mp H
             obtain ⟨t517, A270, H⟩ := H
             have A27 := Aside0.mk A270
             clear A270
             replace H := Option.bind_eq_some_iff.mp H
             obtain ⟨t520, A280, H⟩ := H
             have A28 := Aside0.mk A280
             clear A280
             replace H := Option.bind_eq_some_iff.mp H
             obtain ⟨t523, A290, H⟩ := H
             have A29 := Aside0.mk A290
             clear A290
             by_cases c30 : t516 = t523
             ·rw [if_pos c30] at H
              have c30b0 : (t516 == t523) = true := beq_iff_eq.mpr c30
              have c30b1 : (t516 != t523) = false := bne_eq_false_iff_eq.mpr c30
              clear c30
              have H' := Aside0.mk H
              clear H
              obtain ⟨Ao31, co31, eo31⟩ := Kd.R_slice HO_7.out
              subst eo31
              obtain ⟨Ao32, co32, eo32⟩ := Kd.R_slice HO_8.out
              subst eo32
              go_wp2_with (first | (refine gL 171 (some 67) Try.func171 #[.slice Ao31 x7_4.length co31, .slice Ao32 x8_4.length co32] ?_; (with_reducible refine (spec_l11Form.calls k4 _ _ x7_4 _ _ x8_4 t516 _ ?side1 ?side2 ?side3 ?side4 A26.out).mono ?_); (case side1 => exact C_l ((Kd.R_reads' HO_7.out).2.2)); (case side2 => exact (Kd.R_reads' HO_7.out).2.1); (case side3 => exact C_l ((Kd.R_reads' HO_8.out).2.2)); (case side4 => exact (Kd.R_reads' HO_8.out).2.1); rintro e w' ⟨rfl, ⟨nd, rfl⟩⟩; refine ⟨_, rfl, ?_⟩) | (refine gL 174 (some 71) Try.func174 #[.int .i64 (wrap64 (2 * a0)), .int .i64 x5_2] ?_; (with_reducible refine (spec_l11Unit.calls (wrap64 (2 * a0)) x5_2 t517 _ A27.out).mono ?_); rintro e w33 ⟨v518, rfl, ho0, hb⟩; refine ⟨_, rfl, ?_⟩; have n0_ := Aside0.mk (Kd.R_elder' (R_l HO_7.out) (Kd.R_base ho0) hb); have n1_ := Aside0.mk (Kd.R_elder' (R_l HO_8.out) (Kd.R_base ho0) hb); have n2_ := Aside0.mk (Kd.R_lower (Kd.R_new' (Kd.R_new' ho0 (Kd.R_lt (R_l HO_7.out))) (Kd.R_lt (R_l HO_8.out))) (below_size (B_l HB.out))); have n3_ := Aside0.mk (below_step (B_l HB.out) hb); clear HO_7; clear HO_8; clear HB; have HO_7 := n0_; have HO_8 := n1_; have HO519 := n2_; have HB := n3_; clear n0_ n1_ n2_ n3_) | (refine gL 174 (some 75) Try.func174 #[.int .i64 (wrap64 (2 * a0)), .int .i64 x6_3] ?_; (with_reducible refine (spec_l11Unit.calls (wrap64 (2 * a0)) x6_3 t520 _ A28.out).mono ?_); rintro e w34 ⟨v521, rfl, ho0, hb⟩; refine ⟨_, rfl, ?_⟩; have n0_ := Aside0.mk (Kd.R_elder' (R_l HO_7.out) (Kd.R_base ho0) hb); have n1_ := Aside0.mk (Kd.R_elder' (R_l HO_8.out) (Kd.R_base ho0) hb); have n2_ := Aside0.mk (Kd.R_elder' (R_l HO519.out) (Kd.R_base ho0) hb); have n3_ := Aside0.mk (Kd.R_lower (Kd.R_new' (Kd.R_new' (Kd.R_new' ho0 (Kd.R_lt (R_l HO_7.out))) (Kd.R_lt (R_l HO_8.out))) (Kd.R_lt (R_l HO519.out))) (below_size (B_l HB.out))); have n4_ := Aside0.mk (below_step (B_l HB.out) hb); clear HO_7; clear HO_8; clear HO519; clear HB; have HO_7 := n0_; have HO_8 := n1_; have HO519 := n2_; have HO522 := n3_; have HB := n4_; clear n0_ n1_ n2_ n3_ n4_; obtain ⟨Ao35, co35, eo35⟩ := Kd.R_slice HO519.out; subst eo35; obtain ⟨Ao36, co36, eo36⟩ := Kd.R_slice HO522.out; subst eo36) | (refine gL 171 (some 76) Try.func171 #[.slice Ao35 t517.length co35, .slice Ao36 t520.length co36] ?_; (with_reducible refine (spec_l11Form.calls k4 _ _ t517 _ _ t520 t523 _ ?side1 ?side2 ?side3 ?side4 A29.out).mono ?_); (case side1 => exact C_l ((Kd.R_reads' HO519.out).2.2)); (case side2 => exact (Kd.R_reads' HO519.out).2.1); (case side3 => exact C_l ((Kd.R_reads' HO522.out).2.2)); (case side4 => exact (Kd.R_reads' HO522.out).2.1); rintro e w' ⟨rfl, ⟨nd, rfl⟩⟩; refine ⟨_, rfl, ?_⟩))
              go_roundg k4
              case measure => have := HJ2.out; have := HK2.out; have := HK3.out; have := HK4.out; omega
              case rel => exact ⟨(wrap64 (x6_3 + 1)), (by first | rfl | (simp; done) | (simp [*]; done)), H', ⟨by have := HJ2.out; have := HK2.out; have := HK3.out; have := HK4.out; omega⟩, ⟨B_l HB.out⟩⟩
             ·rw [if_neg c30] at H
              have c30b0 : (t516 == t523) = false := beq_eq_false_iff_ne.mpr c30
              have c30b1 : (t516 != t523) = true := bne_iff_ne.mpr c30
              obtain rfl := Option.some.inj H
              obtain ⟨Ao37, co37, eo37⟩ := Kd.R_slice HO_7.out
              subst eo37
              obtain ⟨Ao38, co38, eo38⟩ := Kd.R_slice HO_8.out
              subst eo38
              go_wp2_with (first | (refine gL 171 (some 67) Try.func171 #[.slice Ao37 x7_4.length co37, .slice Ao38 x8_4.length co38] ?_; (with_reducible refine (spec_l11Form.calls k4 _ _ x7_4 _ _ x8_4 t516 _ ?side1 ?side2 ?side3 ?side4 A26.out).mono ?_); (case side1 => exact C_l ((Kd.R_reads' HO_7.out).2.2)); (case side2 => exact (Kd.R_reads' HO_7.out).2.1); (case side3 => exact C_l ((Kd.R_reads' HO_8.out).2.2)); (case side4 => exact (Kd.R_reads' HO_8.out).2.1); rintro e w' ⟨rfl, ⟨nd, rfl⟩⟩; refine ⟨_, rfl, ?_⟩) | (refine gL 174 (some 71) Try.func174 #[.int .i64 (wrap64 (2 * a0)), .int .i64 x5_2] ?_; (with_reducible refine (spec_l11Unit.calls (wrap64 (2 * a0)) x5_2 t517 _ A27.out).mono ?_); rintro e w39 ⟨v518, rfl, ho0, hb⟩; refine ⟨_, rfl, ?_⟩; have n0_ := Aside0.mk (Kd.R_elder' (R_l HO_7.out) (Kd.R_base ho0) hb); have n1_ := Aside0.mk (Kd.R_elder' (R_l HO_8.out) (Kd.R_base ho0) hb); have n2_ := Aside0.mk (Kd.R_lower (Kd.R_new' (Kd.R_new' ho0 (Kd.R_lt (R_l HO_7.out))) (Kd.R_lt (R_l HO_8.out))) (below_size (B_l HB.out))); have n3_ := Aside0.mk (below_step (B_l HB.out) hb); clear HO_7; clear HO_8; clear HB; have HO_7 := n0_; have HO_8 := n1_; have HO519 := n2_; have HB := n3_; clear n0_ n1_ n2_ n3_) | (refine gL 174 (some 75) Try.func174 #[.int .i64 (wrap64 (2 * a0)), .int .i64 x6_3] ?_; (with_reducible refine (spec_l11Unit.calls (wrap64 (2 * a0)) x6_3 t520 _ A28.out).mono ?_); rintro e w40 ⟨v521, rfl, ho0, hb⟩; refine ⟨_, rfl, ?_⟩; have n0_ := Aside0.mk (Kd.R_elder' (R_l HO_7.out) (Kd.R_base ho0) hb); have n1_ := Aside0.mk (Kd.R_elder' (R_l HO_8.out) (Kd.R_base ho0) hb); have n2_ := Aside0.mk (Kd.R_elder' (R_l HO519.out) (Kd.R_base ho0) hb); have n3_ := Aside0.mk (Kd.R_lower (Kd.R_new' (Kd.R_new' (Kd.R_new' ho0 (Kd.R_lt (R_l HO_7.out))) (Kd.R_lt (R_l HO_8.out))) (Kd.R_lt (R_l HO519.out))) (below_size (B_l HB.out))); have n4_ := Aside0.mk (below_step (B_l HB.out) hb); clear HO_7; clear HO_8; clear HO519; clear HB; have HO_7 := n0_; have HO_8 := n1_; have HO519 := n2_; have HO522 := n3_; have HB := n4_; clear n0_ n1_ n2_ n3_ n4_; obtain ⟨Ao41, co41, eo41⟩ := Kd.R_slice HO519.out; subst eo41; obtain ⟨Ao42, co42, eo42⟩ := Kd.R_slice HO522.out; subst eo42) | (refine gL 171 (some 76) Try.func171 #[.slice Ao41 t517.length co41, .slice Ao42 t520.length co42] ?_; (with_reducible refine (spec_l11Form.calls k4 _ _ t517 _ _ t520 t523 _ ?side1 ?side2 ?side3 ?side4 A29.out).mono ?_); (case side1 => exact C_l ((Kd.R_reads' HO519.out).2.2)); (case side2 => exact (Kd.R_reads' HO519.out).2.1); (case side3 => exact C_l ((Kd.R_reads' HO522.out).2.2)); (case side4 => exact (Kd.R_reads' HO522.out).2.1); rintro e w' ⟨rfl, ⟨nd, rfl⟩⟩; refine ⟨_, rfl, ?_⟩))
              go_ret
              exact ⟨by first | rfl | (simp [errW_none, errW_some] <;> rfl) | (simp [*, errW_none, errW_some] <;> rfl), B_l HB.out⟩
         ·rw [if_neg c10] at H
          have c10b0 : decide (x6_3 < (wrap64 (2 * a0))) = false := decide_eq_false c10
          clear c10
          have H' := Aside0.mk H
          clear H
          go_wp2
          go_roundg k3
          case measure => have := HJ2.out; have := HK2.out; have := HK3.out; omega
          case rel => exact ⟨(wrap64 (x5_2 + 1)), (by first | rfl | (simp; done) | (simp [*]; done)), H', ⟨by have := HJ2.out; have := HK2.out; have := HK3.out; omega⟩, ⟨B_l HB.out⟩⟩
      ·rw [if_neg c9] at H
       have c9b0 : decide (x5_2 < (wrap64 (2 * a0))) = false := decide_eq_false c9
       clear c9
       obtain rfl := Option.some.inj H
       go_wp2
       go_ret
       exact ⟨by first | rfl | (simp [errW_none, errW_some] <;> rfl) | (simp [*, errW_none, errW_some] <;> rfl), B_l HB.out⟩

/-! ### spec_FormOf: function 89 -/
def spec_FormOf.f (k : Nat) (a0 : Int) (l1 : List Int) (l2 : List Int) : Option (Int) := (spec_IsClass.f k a0 l1).bind fun t524 => (if t524 = true then ((spec_IsClass.f k a0 l2).bind fun t525 => (if t525 = true then ((spec_l11Form.f k l1 l2).bind fun t526 => (some t526)) else (some 0))) else (some 0))
set_option maxHeartbeats 8000000 in
set_option maxRecDepth 100000 in
theorem spec_FormOf.calls (k : Nat) (a0 : Int) (A1 : Option Addr) (c1 : Nat) (l1 : List Int) (A2 : Option Addr) (c2 : Nat) (l2 : List Int) (r : Int) (w : World) (hr1 : Kd.C (Kd.int .i64) w A1 l1.length l1) (hc1 : l1.length ≤ c1) (hr2 : Kd.C (Kd.int .i64) w A2 l2.length l2) (hc2 : l2.length ≤ c2) (h : spec_FormOf.f k a0 l1 l2 = some r) :
  Calls Try.prog 89 #[.int .i64 a0, .slice A1 l1.length c1, .slice A2 l2.length c2] w fun e w' => e = .returned (.int .i64 r) ∧ Drawn0 w w' := by
 have HR1 := Aside0.mk hr1
 have HC1 := Aside0.mk hc1
 clear hr1 hc1
 have HR2 := Aside0.mk hr2
 have HC2 := Aside0.mk hc2
 clear hr2 hc2
 have H : ((spec_IsClass.f k a0 l1).bind fun t524 => (if t524 = true then ((spec_IsClass.f k a0 l2).bind fun t525 => (if t525 = true then ((spec_l11Form.f k l1 l2).bind fun t526 => (some t526)) else (some 0))) else (some 0))) = some r := h
 clear h
 replace H := Option.bind_eq_some_iff.mp H
 obtain ⟨t524, A40, H⟩ := H
 have A4 := Aside0.mk A40
 clear A40
 by_cases c5 : t524 = true
 ·subst c5
  rw [if_pos rfl] at H
  replace H := Option.bind_eq_some_iff.mp H
  obtain ⟨t525, A60, H⟩ := H
  have A6 := Aside0.mk A60
  clear A60
  by_cases c7 : t525 = true
  ·subst c7
   rw [if_pos rfl] at H
   replace H := Option.bind_eq_some_iff.mp H
   obtain ⟨t526, A80, H⟩ := H
   have A8 := Aside0.mk A80
   clear A80
   obtain rfl := Option.some.inj H
   go_enter Try.func89, Try.ntmps89
   go_wp2_with (first | (refine gL 91 (some 9) Try.func91 #[.int .i64 a0, .slice A1 l1.length c1] ?_; (with_reducible refine (spec_IsClass.calls k a0 _ _ l1 true _ ?side1 ?side2 A4.out).mono ?_); (case side1 => exact C_l HR1.out); (case side2 => exact HC1.out); rintro e w' ⟨rfl, ⟨nd, rfl⟩⟩; refine ⟨_, rfl, ?_⟩) | (go_at_call 91; (with_reducible refine (spec_IsClass.calls k a0 _ _ l2 true _ ?side1 ?side2 A6.out).mono ?_); (case side1 => exact C_l HR2.out); (case side2 => exact HC2.out); rintro e w' ⟨rfl, ⟨nd, rfl⟩⟩) | (refine gL 171 (some 19) Try.func171 #[.slice A1 l1.length c1, .slice A2 l2.length c2] ?_; (with_reducible refine (spec_l11Form.calls k _ _ l1 _ _ l2 t526 _ ?side1 ?side2 ?side3 ?side4 A8.out).mono ?_); (case side1 => exact C_l HR1.out); (case side2 => exact HC1.out); (case side3 => exact C_l HR2.out); (case side4 => exact HC2.out); rintro e w' ⟨rfl, ⟨nd, rfl⟩⟩; refine ⟨_, rfl, ?_⟩))
   go_ret
   exact ⟨by first | rfl | (simp; done) | (simp [*]; done), by repeat (first | exact Drawn0.refl _ | apply Drawn0.step)⟩
  ·replace c7 := Bool.eq_false_iff.mpr c7
   subst c7
   rw [if_neg (show ¬ (false = true) by decide)] at H
   obtain rfl := Option.some.inj H
   go_enter Try.func89, Try.ntmps89
   go_wp2_with (first | (refine gL 91 (some 9) Try.func91 #[.int .i64 a0, .slice A1 l1.length c1] ?_; (with_reducible refine (spec_IsClass.calls k a0 _ _ l1 true _ ?side1 ?side2 A4.out).mono ?_); (case side1 => exact C_l HR1.out); (case side2 => exact HC1.out); rintro e w' ⟨rfl, ⟨nd, rfl⟩⟩; refine ⟨_, rfl, ?_⟩) | (go_at_call 91; (with_reducible refine (spec_IsClass.calls k a0 _ _ l2 false _ ?side1 ?side2 A6.out).mono ?_); (case side1 => exact C_l HR2.out); (case side2 => exact HC2.out); rintro e w' ⟨rfl, ⟨nd, rfl⟩⟩))
   go_ret
   exact ⟨by first | rfl | (simp; done) | (simp [*]; done), by repeat (first | exact Drawn0.refl _ | apply Drawn0.step)⟩
 ·replace c5 := Bool.eq_false_iff.mpr c5
  subst c5
  rw [if_neg (show ¬ (false = true) by decide)] at H
  obtain rfl := Option.some.inj H
  go_enter Try.func89, Try.ntmps89
  go_wp2_with (first | (refine gL 91 (some 9) Try.func91 #[.int .i64 a0, .slice A1 l1.length c1] ?_; (with_reducible refine (spec_IsClass.calls k a0 _ _ l1 false _ ?side1 ?side2 A4.out).mono ?_); (case side1 => exact C_l HR1.out); (case side2 => exact HC1.out); rintro e w' ⟨rfl, ⟨nd, rfl⟩⟩; refine ⟨_, rfl, ?_⟩))
  go_ret
  exact ⟨by first | rfl | (simp; done) | (simp [*]; done), by repeat (first | exact Drawn0.refl _ | apply Drawn0.step)⟩

/-! ### impl_size: function 196 -/
def impl_size.f (a0 : Int) : Option (Int) := some (mx a0 (wrap64 (-a0)))
set_option maxHeartbeats 8000000 in
set_option maxRecDepth 100000 in
theorem impl_size.calls (a0 : Int) (r : Int) (w : World) (h : impl_size.f a0 = some r) :
  Calls Try.prog 196 #[.int .i64 a0] w fun e w' => e = .returned (.int .i64 r) ∧ Below w.heap.size w w' := by
 have HB := Aside0.mk (Below.refl w.heap.size w)
 have H : (some (mx a0 (wrap64 (-a0)))) = some r := h
 clear h
 obtain ⟨ji2, hji2⟩ : ∃ j_ : Int, (mx a0 (wrap64 (-a0))) = j_ := ⟨_, rfl⟩
 replace H : (some ji2) = some r := by first | (rw [hji2] at H; exact H) | (simp only [hji2] at H ⊢; exact H)
 have hji2_ : (if a0 < (wrap64 (-a0)) then (wrap64 (-a0)) else a0) = ji2 := hji2
 obtain rfl := Option.some.inj H
 go_enter Try.func196, Try.ntmps196
 go_wp2
 go_ret
 exact ⟨by first | rfl | (simp [errW_none, errW_some] <;> rfl) | (simp only [← hji2]; first | rfl | (simp [errW_none, errW_some] <;> rfl)) | (simp [*, errW_none, errW_some] <;> rfl), B_l HB.out⟩

/-! ### impl_gcd: function 176 -/
def impl_gcd.l0 : Nat → Int → Int → Option (Int)
 | 0, _, _ => none
 | k + 1, x0, x1 => if x1 = 0 then (some x0) else (impl_gcd.l0 k x1 (Int.tmod x0 x1))
def impl_gcd.f (k : Nat) (a0 : Int) (a1 : Int) : Option (Int) := (impl_size.f a0).bind fun t527 => ((impl_size.f a1).bind fun t528 => (impl_gcd.l0 k t527 t528))
set_option maxHeartbeats 8000000 in
set_option maxRecDepth 100000 in
theorem impl_gcd.calls (k : Nat) (a0 : Int) (a1 : Int) (r : Int) (w : World) (h : impl_gcd.f k a0 a1 = some r) :
  Calls Try.prog 176 #[.int .i64 a0, .int .i64 a1] w fun e w' => e = .returned (.int .i64 r) ∧ Below w.heap.size w w' := by
 have HB := Aside0.mk (Below.refl w.heap.size w)
 have H : ((impl_size.f a0).bind fun t527 => ((impl_size.f a1).bind fun t528 => (impl_gcd.l0 k t527 t528))) = some r := h
 clear h
 replace H := Option.bind_eq_some_iff.mp H
 obtain ⟨t527, A30, H⟩ := H
 have A3 := Aside0.mk A30
 clear A30
 replace H := Option.bind_eq_some_iff.mp H
 obtain ⟨t528, A40, H⟩ := H
 have A4 := Aside0.mk A40
 clear A40
 have H' := Aside0.mk H
 clear H
 go_enter Try.func176, Try.ntmps176
 go_wp2_with (first | (go_at_call 196; (with_reducible refine (impl_size.calls a0 t527 _ A3.out).mono ?_); rintro e w5 ⟨rfl, hb⟩; have n0_ := Aside0.mk (below_step (B_l HB.out) hb); clear HB; have HB := n0_; clear n0_) | (go_at_call 196; (with_reducible refine (impl_size.calls a1 t528 _ A4.out).mono ?_); rintro e w6 ⟨rfl, hb⟩; have n0_ := Aside0.mk (below_step (B_l HB.out) hb); clear HB; have HB := n0_; clear n0_))
 repeat (go_quiet (fail); try go_wp2_with fail)
 go_loopg [0, 1] k (fun kq v0 v1 w' => ∃ (x0_1 : Int) (x1_1 : Int), v0 = .int .i64 x0_1 ∧ v1 = .int .i64 x1_1 ∧ Aside0 (impl_gcd.l0 kq x0_1 x1_1 = some r) ∧ Aside0 (kq ≤ k) ∧ Aside0 (Below w.heap.size w w'))
 case atStart => exact ⟨(t527), (t528), (by first | rfl | (simp; done) | (simp [*]; done)), (by first | rfl | (simp; done) | (simp [*]; done)), H', ⟨Nat.le_refl _⟩, ⟨B_l HB.out⟩⟩
 case round =>
  clear H'
  try clear c1
  try clear p2
  obtain ⟨x0_1, x1_1, rfl, rfl, HA, HK1, HB⟩ := hrel
  cases gk with
  | zero => exact absurd HA.out (by simp [impl_gcd.l0])
  | succ k1 =>
   have H := HA.out
   clear HA
   simp only [impl_gcd.l0] at H
   by_cases c7 : x1_1 = 0
   ·rw [if_pos c7] at H
    have c7b0 : (x1_1 == 0) = true := beq_iff_eq.mpr c7
    have c7b1 : (x1_1 != 0) = false := bne_eq_false_iff_eq.mpr c7
    clear c7
    obtain rfl := Option.some.inj H
    go_wp2
    repeat (go_quiet (fail); try go_wp2)
    go_ret
    exact ⟨by first | rfl | (simp [errW_none, errW_some] <;> rfl) | (simp [*, errW_none, errW_some] <;> rfl), B_l HB.out⟩
   ·rw [if_neg c7] at H
    have c7b0 : (x1_1 == 0) = false := beq_eq_false_iff_ne.mpr c7
    have c7b1 : (x1_1 != 0) = true := bne_iff_ne.mpr c7
    have H' := Aside0.mk H
    clear H
    go_wp2
    repeat (go_quiet (fail); try go_wp2)
    go_roundg k1
    case measure => have := HK1.out; omega
    case rel => exact ⟨(x1_1), (Int.tmod x0_1 x1_1), (by first | rfl | (simp; done) | (simp [*]; done)), (by first | rfl | (simp; done) | (simp [*]; done)), H', ⟨by have := HK1.out; omega⟩, ⟨B_l HB.out⟩⟩

/-! ### impl_IsPrimitiveClass: function 92 -/
def impl_IsPrimitiveClass.l0 : Nat → Int → List Int → Int → List Int → Int → Int → Option (Bool)
 | 0, _, _, _, _, _, _ => none
 | k + 1, x0, x1, x5, x8, x9, x10 => if x10 < x9 then (if 0 ≤ x10 then (if x10 < (x8.length : Int) then ((impl_gcd.f k x5 (rd x8 x10)).bind fun t530 => (impl_IsPrimitiveClass.l0 k x0 x1 t530 x8 x9 (wrap64 (x10 + 1)))) else (none)) else (none)) else ((impl_IsClass.f k x0 x1).bind fun t531 => (if t531 = true then (some (x5 == 1)) else (some false)))
def impl_IsPrimitiveClass.f (k : Nat) (a0 : Int) (l1 : List Int) : Option (Bool) := impl_IsPrimitiveClass.l0 k a0 l1 0 l1 (l1.length : Int) 0
set_option maxHeartbeats 8000000 in
set_option maxRecDepth 100000 in
theorem impl_IsPrimitiveClass.calls (k : Nat) (a0 : Int) (A1 : Option Addr) (c1 : Nat) (l1 : List Int) (r : Bool) (w : World) (hr1 : Kd.C (Kd.int .i64) w A1 l1.length l1) (hc1 : l1.length ≤ c1) (h : impl_IsPrimitiveClass.f k a0 l1 = some r) :
  Calls Try.prog 92 #[.int .i64 a0, .slice A1 l1.length c1] w fun e w' => e = .returned (.bool r) ∧ Below w.heap.size w w' := by
 have HR1 := Aside0.mk hr1
 have HC1 := Aside0.mk hc1
 clear hr1 hc1
 have HB := Aside0.mk (Below.refl w.heap.size w)
 have H : (impl_IsPrimitiveClass.l0 k a0 l1 0 l1 (l1.length : Int) 0) = some r := h
 clear h
 have H' := Aside0.mk H
 clear H
 go_enter Try.func92, Try.ntmps92
 go_wp2
 go_loopg [5, 10] k (fun kq v5 v10 w' => ∃ (x5_1 : Int) (x10_1 : Int), v5 = .int .i64 x5_1 ∧ v10 = .int .i64 x10_1 ∧ Aside0 (impl_IsPrimitiveClass.l0 kq a0 l1 x5_1 l1 (l1.length : Int) x10_1 = some r) ∧ Aside0 (kq ≤ k) ∧ Aside0 (Below w.heap.size w w'))
 case atStart => exact ⟨(0), (0), (by first | rfl | (simp; done) | (simp [*]; done)), (by first | rfl | (simp; done) | (simp [*]; done)), H', ⟨Nat.le_refl _⟩, ⟨B_l HB.out⟩⟩
 case round =>
  clear H'
  try clear c1
  try clear p2
  obtain ⟨x5_1, x10_1, rfl, rfl, HA, HK1, HB⟩ := hrel
  cases gk with
  | zero => exact absurd HA.out (by simp [impl_IsPrimitiveClass.l0])
  | succ k1 =>
   have H := HA.out
   clear HA
   simp only [impl_IsPrimitiveClass.l0] at H
   by_cases c3 : x10_1 < (l1.length : Int)
   ·rw [if_pos c3] at H
    have c3b0 : decide (x10_1 < (l1.length : Int)) = true := decide_eq_true c3
    clear c3
    by_cases c4 : 0 ≤ x10_1
    ·rw [if_pos c4] at H
     have c4b0 : decide (0 ≤ x10_1) = true := decide_eq_true c4
     clear c4
     by_cases c5 : x10_1 < (l1.length : Int)
     ·rw [if_pos c5] at H
      have c5b0 : decide (x10_1 < (l1.length : Int)) = true := decide_eq_true c5
      clear c5
      replace H := Option.bind_eq_some_iff.mp H
      obtain ⟨t530, A60, H⟩ := H
      have A6 := Aside0.mk A60
      clear A60
      have H' := Aside0.mk H
      clear H
      have p529 : 0 ≤ (x10_1 : Int) := of_decide_eq_true (by first | (with_reducible assumption) | assumption)
      have q529 : x10_1 < (l1.length : Int) := of_decide_eq_true (by first | (with_reducible assumption) | assumption)
      obtain ⟨ad529, e529, hx529_0⟩ := Kd.at_int HR1.out x10_1 p529 q529
      cases e529
      replace hx529_0 := (HB.out.cell (World.block_lt_of_cell? w _ hx529_0)).trans hx529_0
      replace p529 := eq_true p529
      replace q529 := eq_true q529
      go_wp2_with (first | (refine gL 176 (some 16) Try.func176 #[.int .i64 x5_1, .int .i64 (rd l1 x10_1)] ?_; (with_reducible refine (impl_gcd.calls k1 x5_1 (rd l1 x10_1) t530 _ A6.out).mono ?_); rintro e w7 ⟨rfl, hb⟩; refine ⟨_, rfl, ?_⟩; have n0_ := Aside0.mk (below_step (B_l HB.out) hb); clear HB; have HB := n0_; clear n0_))
      go_roundg k1
      case measure => have := HK1.out; omega
      case rel => exact ⟨(t530), (wrap64 (x10_1 + 1)), (by first | rfl | (simp; done) | (simp [*]; done)), (by first | rfl | (simp; done) | (simp [*]; done)), H', ⟨by have := HK1.out; omega⟩, ⟨B_l HB.out⟩⟩
     ·rw [if_neg c5] at H
      exact absurd H (by simp)
    ·rw [if_neg c4] at H
     exact absurd H (by simp)
   ·rw [if_neg c3] at H
    have c3b0 : decide (x10_1 < (l1.length : Int)) = false := decide_eq_false c3
    clear c3
    replace H := Option.bind_eq_some_iff.mp H
    obtain ⟨t531, A80, H⟩ := H
    have A8 := Aside0.mk A80
    clear A80
    by_cases c9 : t531 = true
    ·subst c9
     rw [if_pos rfl] at H
     obtain rfl := Option.some.inj H
     go_wp2_with (first | (refine gL 90 (some 20) Try.func90 #[.int .i64 a0, .slice A1 l1.length c1] ?_; (with_reducible refine (impl_IsClass.calls k1 a0 _ _ l1 true _ ?side1 ?side2 A8.out).mono ?_); (case side1 => exact C_l (Kd.C_below HR1.out HB.out)); (case side2 => exact HC1.out); rintro e w' ⟨rfl, ⟨nd, rfl⟩⟩; refine ⟨_, rfl, ?_⟩))
     go_ret
     exact ⟨by first | rfl | (simp [errW_none, errW_some] <;> rfl) | (simp [*, errW_none, errW_some] <;> rfl), B_l HB.out⟩
    ·replace c9 := Bool.eq_false_iff.mpr c9
     subst c9
     rw [if_neg (show ¬ (false = true) by decide)] at H
     obtain rfl := Option.some.inj H
     go_wp2_with (first | (refine gL 90 (some 20) Try.func90 #[.int .i64 a0, .slice A1 l1.length c1] ?_; (with_reducible refine (impl_IsClass.calls k1 a0 _ _ l1 false _ ?side1 ?side2 A8.out).mono ?_); (case side1 => exact C_l (Kd.C_below HR1.out HB.out)); (case side2 => exact HC1.out); rintro e w' ⟨rfl, ⟨nd, rfl⟩⟩; refine ⟨_, rfl, ?_⟩))
     go_ret
     exact ⟨by first | rfl | (simp [errW_none, errW_some] <;> rfl) | (simp [*, errW_none, errW_some] <;> rfl), B_l HB.out⟩

/-! ### spec_l1Max: function 148 -/
def spec_l1Max.f (a0 : Int) (a1 : Int) : Option (Int) := if a0 > a1 then (some a0) else (some a1)
set_option maxHeartbeats 8000000 in
set_option maxRecDepth 100000 in
theorem spec_l1Max.calls (a0 : Int) (a1 : Int) (r : Int) (w : World) (h : spec_l1Max.f a0 a1 = some r) :
  Calls Try.prog 148 #[.int .i64 a0, .int .i64 a1] w fun e w' => e = .returned (.int .i64 r) ∧ Drawn0 w w' := by
 have H : (if a0 > a1 then (some a0) else (some a1)) = some r := h
 clear h
 by_cases c3 : a0 > a1
 ·rw [if_pos c3] at H
  have c3b0 : decide (a1 < a0) = true := decide_eq_true c3
  clear c3
  obtain rfl := Option.some.inj H
  go_enter Try.func148, Try.ntmps148
  go_wp2
  go_ret
  exact ⟨by first | rfl | (simp; done) | (simp [*]; done), by repeat (first | exact Drawn0.refl _ | apply Drawn0.step)⟩
 ·rw [if_neg c3] at H
  have c3b0 : decide (a1 < a0) = false := decide_eq_false c3
  clear c3
  obtain rfl := Option.some.inj H
  go_enter Try.func148, Try.ntmps148
  go_wp2
  go_ret
  exact ⟨by first | rfl | (simp; done) | (simp [*]; done), by repeat (first | exact Drawn0.refl _ | apply Drawn0.step)⟩

/-! ### spec_l3Abs: function 143 -/
def spec_l3Abs.f (a0 : Int) : Option (Int) := (spec_l1Max.f a0 (wrap64 (-a0))).bind fun t532 => (some t532)
set_option maxHeartbeats 8000000 in
set_option maxRecDepth 100000 in
theorem spec_l3Abs.calls (a0 : Int) (r : Int) (w : World) (h : spec_l3Abs.f a0 = some r) :
  Calls Try.prog 143 #[.int .i64 a0] w fun e w' => e = .returned (.int .i64 r) ∧ Drawn0 w w' := by
 have H : ((spec_l1Max.f a0 (wrap64 (-a0))).bind fun t532 => (some t532)) = some r := h
 clear h
 replace H := Option.bind_eq_some_iff.mp H
 obtain ⟨t532, A20, H⟩ := H
 have A2 := Aside0.mk A20
 clear A20
 obtain rfl := Option.some.inj H
 go_enter Try.func143, Try.ntmps143
 go_wp2_with (first | (refine gL 148 (some 6) Try.func148 #[.int .i64 a0, .int .i64 (wrap64 (-a0))] ?_; (with_reducible refine (spec_l1Max.calls a0 (wrap64 (-a0)) t532 _ A2.out).mono ?_); rintro e w' ⟨rfl, ⟨nd, rfl⟩⟩; refine ⟨_, rfl, ?_⟩))
 go_ret
 exact ⟨by first | rfl | (simp; done) | (simp [*]; done), by repeat (first | exact Drawn0.refl _ | apply Drawn0.step)⟩

end Go.Proofs.Ytimjefomgaaegaa.PFnTwists
