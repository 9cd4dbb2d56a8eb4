import Derived.Test.YtimjefomgaaegaaWLater
import Derived.Test.YtimjefomgaaegaaPFnTwistsx0
import Derived.Test.YtimjefomgaaegaaPFnTwistsx2
import Derived.Test.YtimjefomgaaegaaPFnTwistsx4
namespace Go.Proofs.Ytimjefomgaaegaa.PFnTwists
open Go.RowKit Go.Proofs.YtimjefomgaaegaaW.PrintWords Go.Proofs.YtimjefomgaaegaaW.PrintLast Go.Proofs.YtimjefomgaaegaaW.PrintMore
attribute [local go_sem] max2_int min2_int max_two min_two max_three min_three max_four min_four   -- for this text's walks alone
set_option linter.unusedVariables false
set_option linter.unusedSimpArgs false

/-! ### impl_IsSymplectic: function 87 -/
mutual
def impl_IsSymplectic.j0 : Nat → Int → List (List Int) → Bool → Option (Bool)
 | 0, _, _, _ => none
 | k + 1, x0, x1, x21 => if x21 = true then (some false) else (if 0 ≤ (wrap64 (2 * x0)) then (if (wrap64 (2 * x0) : Int).toNat ≤ 11728124029610 then (impl_IsSymplectic.l0 k x0 (List.replicate (wrap64 (2 * x0) : Int).toNat []) x1 (x1.length : Int) 0) else (none)) else (none))
def impl_IsSymplectic.l0 : Nat → Int → List (List Int) → List (List Int) → Int → Int → Option (Bool)
 | 0, _, _, _, _, _ => none
 | k + 1, x0, x5, x25, x26, x27 => if x27 < x26 then (if 0 ≤ x27 then (if x27 < (x25.length : Int) then (if ((rd_L2 x25 x27).length : Int) = (wrap64 (2 * x0)) then ((impl_areSmall.f k (rd_L2 x25 x27)).bind fun t481 => (impl_IsSymplectic.j2 k x0 x5 (rd_L2 x25 x27) x25 x26 x27 (!t481))) else (impl_IsSymplectic.j2 k x0 x5 (rd_L2 x25 x27) x25 x26 x27 true)) else (none)) else (none)) else (impl_IsSymplectic.l2 k x0 x5 (x5.length : Int) 0)
def impl_IsSymplectic.j2 : Nat → Int → List (List Int) → List Int → List (List Int) → Int → Int → Bool → Option (Bool)
 | 0, _, _, _, _, _, _, _ => none
 | k + 1, x0, x5, x7, x25, x26, x27, x40 => if x40 = true then (some false) else (impl_IsSymplectic.l1 k x0 x5 x25 x26 x27 x7 (x7.length : Int) 0)
def impl_IsSymplectic.l1 : Nat → Int → List (List Int) → List (List Int) → Int → Int → List Int → Int → Int → Option (Bool)
 | 0, _, _, _, _, _, _, _, _ => none
 | k + 1, x0, x5, x25, x26, x27, x41, x42, x43 => if x43 < x42 then (if 0 ≤ x43 then (if x43 < (x41.length : Int) then (if x43 < (x5.length : Int) then (if (rd_L2 x5 x43).length < 17592186044416 then (impl_IsSymplectic.l1 k x0 (x5.set (x43 : Int).toNat ((rd_L2 x5 x43) ++ [rd x41 x43])) x25 x26 x27 x41 x42 (wrap64 (x43 + 1))) else (none)) else (none)) else (none)) else (none)) else (impl_IsSymplectic.l0 k x0 x5 x25 x26 (wrap64 (x27 + 1)))
def impl_IsSymplectic.l2 : Nat → Int → List (List Int) → Int → Int → Option (Bool)
 | 0, _, _, _, _ => none
 | k + 1, x0, x5, x61, x62 => if x62 < x61 then (impl_IsSymplectic.l3 k x0 x5 x62 x61 x62 (x5.length : Int) 0) else (some true)
def impl_IsSymplectic.l3 : Nat → Int → List (List Int) → Int → Int → Int → Int → Int → Option (Bool)
 | 0, _, _, _, _, _, _, _ => none
 | k + 1, x0, x5, x10, x61, x62, x66, x67 => if x67 < x66 then (if 0 ≤ x10 then (if x10 < (x5.length : Int) then (if 0 ≤ x67 then (if x67 < (x5.length : Int) then ((impl_form.f k (rd_L2 x5 x10) (rd_L2 x5 x67)).bind fun t490 => ((impl_unit.f (wrap64 (2 * x0)) x10).bind fun t491 => ((impl_unit.f (wrap64 (2 * x0)) x67).bind fun t494 => ((impl_form.f k t491 t494).bind fun t497 => (if t490 = t497 then (impl_IsSymplectic.l3 k x0 x5 x10 x61 x62 x66 (wrap64 (x67 + 1))) else (some false)))))) else (none)) else (none)) else (none)) else (none)) else (impl_IsSymplectic.l2 k x0 x5 x61 (wrap64 (x62 + 1)))
end
def impl_IsSymplectic.f (k : Nat) (a0 : Int) (l1 : List (List Int)) : Option (Bool) := (impl_within.f a0 1 3).bind fun t476 => (if t476 = true then (impl_IsSymplectic.j0 k a0 l1 ((l1.length : Int) != (wrap64 (2 * a0)))) else (impl_IsSymplectic.j0 k a0 l1 true))
def impl_IsSymplectic.T21 : Bool × List (List Nat × List Nat) := (true, [([], []), ([], []), ([0, 1], [0, 1]), ([2], [2]), ([], []), ([], []), ([4, 5], [4, 5]), ([6], [6]), ([3, 7], [3, 7]), ([], []), ([9], [9]), ([], []), ([10, 11, 8], [10, 11]), ([], []), ([13], [13]), ([], []), ([14, 15, 12], [14, 15]), ([12, 16, 16], [12, 16]), ([8, 17], [8, 17])])
def impl_IsSymplectic.B21 : List Nat := [0, 0, 3, 7, 0, 0, 48, 112, 255, 0, 512, 0, 4095, 0, 8192, 0, 65535, 131071, 262143]
theorem impl_IsSymplectic.tab21 : rtab .any (opsOf Try.f87 21) = impl_IsSymplectic.T21 := by kernel_rfl
theorem impl_IsSymplectic.bits21 : waitsOk impl_IsSymplectic.T21.2 impl_IsSymplectic.B21 = true := by kernel_rfl
set_option maxHeartbeats 8000000 in
set_option maxRecDepth 100000 in
theorem impl_IsSymplectic.calls (k : Nat) (a0 : Int) (A1 : Option Addr) (c1 : Nat) (l1 : List (List Int)) (r : Bool) (w : World) (hr1 : Kd.C (Kd.slice 3 (Kd.int .i64)) w A1 l1.length l1) (hc1 : l1.length ≤ c1) (h : impl_IsSymplectic.f k a0 l1 = some r) :
  Calls Try.prog 87 #[.int .i64 a0, .slice A1 l1.length c1] w fun e w' => e = .returned (.bool r) ∧ Below w.heap.size w w' := by
 have HR1 := Aside0.mk hr1
 have HC1 := Aside0.mk hc1
 clear hr1 hc1
 have HB := Aside0.mk (Below.refl w.heap.size w)
 have H : ((impl_within.f a0 1 3).bind fun t476 => (if t476 = true then (impl_IsSymplectic.j0 k a0 l1 ((l1.length : Int) != (wrap64 (2 * a0)))) else (impl_IsSymplectic.j0 k a0 l1 true))) = some r := h
 clear h
 have HC3 := Aside0.mk H
 clear H
 go_enter Try.func87, Try.ntmps87
 go_upto_region 1 with (fail)
 go_cut [21] (fun v21 wc => ∃ (kq : Nat) (x21_2 : Bool), v21 = .bool x21_2 ∧ Aside0 (impl_IsSymplectic.j0 kq a0 l1 x21_2 = some r) ∧ Aside0 (kq ≤ k) ∧ Aside0 (Below w.heap.size w wc))
 case first =>
  have H := HC3.out
  clear HC3
  replace H := Option.bind_eq_some_iff.mp H
  obtain ⟨t476, A40, H⟩ := H
  have A4 := Aside0.mk A40
  clear A40
  by_cases c5 : t476 = true
  ·subst c5
   rw [if_pos rfl] at H
   have H' := Aside0.mk H
   clear H
   go_wp2_with (first | ((with_reducible refine gate_callee (f := 105) rfl ?_); refine goesL_ (some 13) rfl rfl Try.func105 (by kernel_rfl) rfl #[.int .i64 a0, .int .i64 1, .int .i64 3] rfl (by (try simp only [List.map_toArray, List.map_cons, List.map_nil]); first | done | rfl | (simp only [hji7]; done) | (simp only [hji7]; rfl)) ?_; (with_reducible refine (impl_within.calls a0 1 3 true _ A4.out).mono ?_); rintro e w' ⟨rfl, ⟨nd, rfl⟩⟩; refine ⟨_, rfl, ?_⟩))
   go_meet
   case rel => exact ⟨_, (((l1.length : Int) != (wrap64 (2 * a0)))), (by first | rfl | (simp; done) | (simp [*]; done)), H', ⟨by first | omega | exact Nat.le_refl _⟩, ⟨B_l HB.out⟩⟩
  ·replace c5 := Bool.eq_false_iff.mpr c5
   subst c5
   rw [if_neg (show ¬ (false = true) by decide)] at H
   have H' := Aside0.mk H
   clear H
   go_wp2_with (first | ((with_reducible refine gate_callee (f := 105) rfl ?_); refine goesL_ (some 13) rfl rfl Try.func105 (by kernel_rfl) rfl #[.int .i64 a0, .int .i64 1, .int .i64 3] rfl (by (try simp only [List.map_toArray, List.map_cons, List.map_nil]); first | done | rfl | (simp only [hji7]; done) | (simp only [hji7]; rfl)) ?_; (with_reducible refine (impl_within.calls a0 1 3 false _ A4.out).mono ?_); rintro e w' ⟨rfl, ⟨nd, rfl⟩⟩; refine ⟨_, rfl, ?_⟩))
   go_meet
   case rel => exact ⟨_, (true), (by first | rfl | (simp; done) | (simp [*]; done)), H', ⟨by first | omega | exact Nat.le_refl _⟩, ⟨B_l HB.out⟩⟩
 case rest =>
  clear HC3
  try clear c1
  try clear p2
  try clear c5
  obtain ⟨kq, x21_2, rfl, HA, HJ2, HB⟩ := hcut
  cases kq with
  | zero => exact absurd HA.out (by simp [impl_IsSymplectic.j0])
  | succ kj2 =>
   have H := HA.out
   clear HA
   simp only [impl_IsSymplectic.j0] at H
   by_cases c6 : x21_2 = true
   ·subst c6
    rw [if_pos rfl] at H
    obtain rfl := Option.some.inj H
    go_wp2
    go_ret
    exact ⟨by first | rfl | (simp [errW_none, errW_some] <;> rfl) | (simp [*, errW_none, errW_some] <;> rfl), B_l HB.out⟩
   ·replace c6 := Bool.eq_false_iff.mpr c6
    subst c6
    rw [if_neg (show ¬ (false = true) by decide)] at H
    obtain ⟨ji7, hji7⟩ : ∃ j_ : Int, (wrap64 (2 * a0)) = j_ := ⟨_, rfl⟩
    replace H : (if 0 ≤ (ji7) then (if (ji7 : Int).toNat ≤ 11728124029610 then (impl_IsSymplectic.l0 kj2 a0 (List.replicate (ji7 : Int).toNat []) l1 (l1.length : Int) 0) else (none)) else (none)) = some r := by first | (rw [hji7] at H; exact H) | (simp only [hji7] at H ⊢; exact H)
    have hji7w : (IntKind.i64.wrap (2 * a0)) = ji7 := (i64_w _).trans hji7
    by_cases c8 : 0 ≤ (ji7)
    ·rw [if_pos c8] at H
     have c8b0 := eq_true c8
     have c8b1 : decide (0 ≤ (ji7)) = true := decide_eq_true c8
     clear c8
     by_cases c9 : (ji7 : Int).toNat ≤ 11728124029610
     ·rw [if_pos c9] at H
      have c9b0 := eq_true c9
      have c9b1 : decide ((ji7 : Int).toNat ≤ 11728124029610) = true := decide_eq_true c9
      clear c9
      obtain ⟨y477, hy477⟩ : ∃ y_ : List (List Int), y_ = (List.replicate (ji7 : Int).toNat []) := ⟨_, rfl⟩
      replace H : (impl_IsSymplectic.l0 kj2 a0 y477 l1 (l1.length : Int) 0) = some r := by first | (rw [hy477]; with_reducible exact H) | (have H2_ := (Option.bind_some _ _).symm.trans H; rw [hy477]; with_reducible exact H2_) | (have H2_ := (Option.bind_some _ _).symm.trans H; with_reducible exact H2_) | with_reducible exact H | (rw [hy477]; exact H) | exact H
      have Ny477 := Aside0.mk hy477
      clear hy477
      have H' := Aside0.mk H
      clear H
      go_wp2_with (first | ((with_reducible refine gate_dst (N := 24) rfl ?_); (try (refine gate_guard (by rfl) ?_; dsimp only)); refine Kd.S_make (Kd.slice 3 (Kd.int .i64)) _ 35 rfl (N := 24) rfl 24 _ _ rfl ji7 rfl rfl Try.underlying24 (.slice none 0 0) 24 info35 rfl (by decide) (by omega) [] (ok := fun _ => True) (okp := fun _ => True) ⟨_, rfl, Kd.R_nil _ _ _ _ _⟩ (fun _ hk => hk) trivial (of_decide_eq_true (by first | (with_reducible assumption) | assumption)) (Nat.le_trans (Nat.mul_le_mul_right _ (of_decide_eq_true (by first | (with_reducible assumption) | assumption) : ji7.toNat ≤ 11728124029610)) (by omega)) (Below.refl _ _) (Nat.le_refl _) ?_; intro v478 w10 ho11 hb hg_ hnew_; clear hg_ hnew_; (first | rw [← Ny477.out] at ho11 | (simp only [Int.reduceToNat] at ho11; rw [← Ny477.out] at ho11)); have n0_ := Aside0.mk (Kd.S_lower ho11 (below_size (B_l HB.out))); have n1_ := Aside0.mk (below_step (B_l HB.out) hb); clear HB; have HO479 := n0_; have HB := n1_; clear n0_ n1_; clear hb ho11))
      go_loopg [27] kj2 (fun kq v27 w' => ∃ (x5_2 : List (List Int)) (x27_2 : Int), v27 = .int .i64 x27_2 ∧ Aside0 (impl_IsSymplectic.l0 kq a0 x5_2 l1 (l1.length : Int) x27_2 = some r) ∧ Aside0 (kq ≤ kj2) ∧ Aside0 (Kd.S (Kd.slice 3 (Kd.int .i64)) 35 w' w.heap.size (fun _ => True) v478 x5_2) ∧ Aside0 (Below w.heap.size w w'))
      case atStart => exact ⟨(y477), (0), (by first | rfl | (simp; done) | (simp [*]; done)), H', ⟨Nat.le_refl _⟩, ⟨S_l HO479.out⟩, ⟨B_l HB.out⟩⟩
      case round =>
       clear H'
       try clear c1
       try clear p2
       try clear c5
       try clear c6
       try clear p6
       try clear c8
       try clear c8b0
       try clear c8b1
       try clear c9
       try clear c9b0
       try clear c9b1
       try clear c10
       try clear p2
       obtain ⟨x5_2, x27_2, rfl, HA, HK2, HO_5, HB⟩ := hrel
       cases gk with
       | zero => exact absurd HA.out (by simp [impl_IsSymplectic.l0])
       | succ k2 =>
        have H := HA.out
        clear HA
        simp only [impl_IsSymplectic.l0] at H
        by_cases c12 : x27_2 < (l1.length : Int)
        ·rw [if_pos c12] at H
         have c12b0 : decide (x27_2 < (l1.length : Int)) = true := decide_eq_true c12
         clear c12
         by_cases c13 : 0 ≤ x27_2
         ·rw [if_pos c13] at H
          have c13b0 : decide (0 ≤ x27_2) = true := decide_eq_true c13
          clear c13
          by_cases c14 : x27_2 < (l1.length : Int)
          ·rw [if_pos c14] at H
           have c14b0 : decide (x27_2 < (l1.length : Int)) = true := decide_eq_true c14
           clear c14
           have HC15 := Aside0.mk H
           clear H
           have p480 : 0 ≤ (x27_2 : Int) := of_decide_eq_true (by first | (with_reducible assumption) | assumption)
           have q480 : x27_2 < (l1.length : Int) := of_decide_eq_true (by first | (with_reducible assumption) | assumption)
           obtain ⟨ad480, A480_0, c480_0, e480, hx480_0, hl480_0, hi480_0⟩ := at_L2 HR1.out x27_2 p480 q480
           cases e480
           replace hx480_0 := (HB.out.cell (World.block_lt_of_cell? w _ hx480_0)).trans hx480_0
           have HR480_0 := Aside0.mk hi480_0
           have HC480_0 := Aside0.mk hl480_0
           clear hi480_0 hl480_0
           replace p480 := eq_true p480
           replace q480 := eq_true q480
           go_upto_region 7 with (fail)
           go_cut [40] (fun v40 wc => ∃ (kq : Nat) (x40_14 : Bool), v40 = .bool x40_14 ∧ Aside0 (impl_IsSymplectic.j2 kq a0 x5_2 (rd_L2 l1 x27_2) l1 (l1.length : Int) x27_2 x40_14 = some r) ∧ Aside0 (kq ≤ k2) ∧ Aside0 (Kd.S (Kd.slice 3 (Kd.int .i64)) 35 wc w.heap.size (fun _ => True) v478 x5_2) ∧ Aside0 (Below w.heap.size w wc))
           case first =>
            have H := HC15.out
            clear HC15
            by_cases c16 : ((rd_L2 l1 x27_2).length : Int) = (wrap64 (2 * a0))
            ·rw [if_pos c16] at H
             have c16b0 : (((rd_L2 l1 x27_2).length : Int) == (wrap64 (2 * a0))) = true := beq_iff_eq.mpr c16
             have c16b1 : (((rd_L2 l1 x27_2).length : Int) != (wrap64 (2 * a0))) = false := bne_eq_false_iff_eq.mpr c16
             clear c16
             (first | rw [c16b0] | (simp only [i64_w, i32_w]; rw [c16b0]) | (simp only [hji7] at c16b0 c16b1) | skip)
             replace H := Option.bind_eq_some_iff.mp H
             obtain ⟨t481, A170, H⟩ := H
             have A17 := Aside0.mk A170
             clear A170
             have H' := Aside0.mk H
             clear H
             go_wp2_with (first | (go_at_call 170; (with_reducible refine (impl_areSmall.calls k2 _ _ (rd_L2 l1 x27_2) t481 _ ?side1 ?side2 A17.out).mono ?_); (case side1 => exact C_l (Kd.C_below HR480_0.out HB.out)); (case side2 => exact HC480_0.out); rintro e w' ⟨rfl, ⟨nd, rfl⟩⟩))
             go_meet
             case rel => exact ⟨_, (!t481), (by first | rfl | (simp; done) | (simp [*]; done)), H', ⟨by have := HJ2.out; have := HK2.out; first | omega | exact Nat.le_refl _⟩, ⟨S_l HO_5.out⟩, ⟨B_l HB.out⟩⟩
            ·rw [if_neg c16] at H
             have c16b0 : (((rd_L2 l1 x27_2).length : Int) == (wrap64 (2 * a0))) = false := beq_eq_false_iff_ne.mpr c16
             have c16b1 : (((rd_L2 l1 x27_2).length : Int) != (wrap64 (2 * a0))) = true := bne_iff_ne.mpr c16
             (first | rw [c16b0] | (simp only [i64_w, i32_w]; rw [c16b0]) | (simp only [hji7] at c16b0 c16b1) | skip)
             have H' := Aside0.mk H
             clear H
             go_wp2
             go_meet
             case rel => exact ⟨_, (true), (by first | rfl | (simp; done) | (simp [*]; done)), H', ⟨by have := HJ2.out; have := HK2.out; first | omega | exact Nat.le_refl _⟩, ⟨S_l HO_5.out⟩, ⟨B_l HB.out⟩⟩
           case rest =>
            clear HC15
            try clear c1
            try clear p2
            try clear c4
            try clear p4
            try clear q4
            try clear hx4
            try clear c5
            try clear c6
            try clear p6
            try clear c8
            try clear c8b0
            try clear c8b1
            try clear c9
            try clear c9b0
            try clear c9b1
            try clear c10
            try clear c12
            try clear c12b0
            try clear c13
            try clear c13b0
            try clear c14
            try clear c14b0
            try clear c16
            try clear c16b0
            try clear c16b1
            try clear hx480_0
            try clear p2
            try clear p480
            try clear p6
            try clear q480
            obtain ⟨kq, x40_14, rfl, HA, HJ14, HO_5, HB⟩ := hcut
            cases kq with
            | zero => exact absurd HA.out (by simp [impl_IsSymplectic.j2])
            | succ kj14 =>
             have H := HA.out
             clear HA
             simp only [impl_IsSymplectic.j2] at H
             by_cases c18 : x40_14 = true
             ·subst c18
              rw [if_pos rfl] at H
              obtain rfl := Option.some.inj H
              go_wp2
              go_ret
              exact ⟨by first | rfl | (simp [errW_none, errW_some] <;> rfl) | (simp only [← hji7]; first | rfl | (simp [errW_none, errW_some] <;> rfl)) | (simp [*, errW_none, errW_some] <;> rfl), B_l HB.out⟩
             ·replace c18 := Bool.eq_false_iff.mpr c18
              subst c18
              rw [if_neg (show ¬ (false = true) by decide)] at H
              have H' := Aside0.mk H
              clear H
              go_wp2
              go_loopg [43] kj14 (fun kq v43 w' => ∃ (x5_4 : List (List Int)) (x43_4 : Int), v43 = .int .i64 x43_4 ∧ Aside0 (impl_IsSymplectic.l1 kq a0 x5_4 l1 (l1.length : Int) x27_2 (rd_L2 l1 x27_2) ((rd_L2 l1 x27_2).length : Int) x43_4 = some r) ∧ Aside0 (kq ≤ kj14) ∧ Aside0 (Kd.S (Kd.slice 3 (Kd.int .i64)) 35 w' w.heap.size (fun _ => True) v478 x5_4) ∧ Aside0 (Below w.heap.size w w'))
              case atStart => exact ⟨(x5_2), (0), (by first | rfl | (simp; done) | (simp [*]; done)), H', ⟨Nat.le_refl _⟩, ⟨S_l HO_5.out⟩, ⟨B_l HB.out⟩⟩
              case round =>
               clear H'
               try clear c1
               try clear p2
               try clear c4
               try clear p4
               try clear q4
               try clear hx4
               try clear c5
               try clear c6
               try clear p6
               try clear c8
               try clear c8b0
               try clear c8b1
               try clear c9
               try clear c9b0
               try clear c9b1
               try clear c10
               try clear c12
               try clear c12b0
               try clear c13
               try clear c13b0
               try clear c14
               try clear c14b0
               try clear c16
               try clear c16b0
               try clear c16b1
               try clear c18
               try clear hx480_0
               try clear p2
               try clear p4
               try clear p480
               try clear p6
               try clear q4
               try clear q480
               obtain ⟨x5_4, x43_4, rfl, HA, HK4, HO_5, HB⟩ := hrel
               cases gk with
               | zero => exact absurd HA.out (by simp [impl_IsSymplectic.l1])
               | succ k4 =>
                have H := HA.out
                clear HA
                simp only [impl_IsSymplectic.l1] at H
                by_cases c19 : x43_4 < ((rd_L2 l1 x27_2).length : Int)
                ·rw [if_pos c19] at H
                 have c19b0 : decide (x43_4 < ((rd_L2 l1 x27_2).length : Int)) = true := decide_eq_true c19
                 clear c19
                 by_cases c20 : 0 ≤ x43_4
                 ·rw [if_pos c20] at H
                  have c20b0 : decide (0 ≤ x43_4) = true := decide_eq_true c20
                  clear c20
                  by_cases c21 : x43_4 < ((rd_L2 l1 x27_2).length : Int)
                  ·rw [if_pos c21] at H
                   have c21b0 : decide (x43_4 < ((rd_L2 l1 x27_2).length : Int)) = true := decide_eq_true c21
                   clear c21
                   by_cases c22 : x43_4 < (x5_4.length : Int)
                   ·rw [if_pos c22] at H
                    have c22b0 : decide (x43_4 < (x5_4.length : Int)) = true := decide_eq_true c22
                    clear c22
                    by_cases c23 : (rd_L2 x5_4 x43_4).length < 17592186044416
                    ·rw [if_pos c23] at H
                     have LMc23 := Aside0.mk c23
                     clear c23
                     obtain ⟨y484, hy484⟩ : ∃ y_ : List Int, y_ = ((rd_L2 x5_4 x43_4) ++ [rd (rd_L2 l1 x27_2) x43_4]) := ⟨_, rfl⟩
                     replace H : (impl_IsSymplectic.l1 k4 a0 (x5_4.set (x43_4 : Int).toNat y484) l1 (l1.length : Int) x27_2 (rd_L2 l1 x27_2) ((rd_L2 l1 x27_2).length : Int) (wrap64 (x43_4 + 1))) = some r := by first | (rw [hy484]; with_reducible exact H) | (have H2_ := (Option.bind_some _ _).symm.trans H; rw [hy484]; with_reducible exact H2_) | (have H2_ := (Option.bind_some _ _).symm.trans H; with_reducible exact H2_) | with_reducible exact H | (rw [hy484]; exact H) | exact H
                     have Ny484 := Aside0.mk hy484
                     clear hy484
                     obtain ⟨y487, hy487⟩ : ∃ y_ : List (List Int), y_ = (x5_4.set (x43_4 : Int).toNat y484) := ⟨_, rfl⟩
                     replace H : (impl_IsSymplectic.l1 k4 a0 y487 l1 (l1.length : Int) x27_2 (rd_L2 l1 x27_2) ((rd_L2 l1 x27_2).length : Int) (wrap64 (x43_4 + 1))) = some r := by first | (rw [hy487]; with_reducible exact H) | (have H2_ := (Option.bind_some _ _).symm.trans H; rw [hy487]; with_reducible exact H2_) | (have H2_ := (Option.bind_some _ _).symm.trans H; with_reducible exact H2_) | with_reducible exact H | (rw [hy487]; exact H) | exact H
                     have Ny487 := Aside0.mk hy487
                     clear hy487
                     have H' := Aside0.mk H
                     clear H
                     have p482 : 0 ≤ (x43_4 : Int) := of_decide_eq_true (by first | (with_reducible assumption) | assumption)
                     have q482 : x43_4 < ((rd_L2 l1 x27_2).length : Int) := of_decide_eq_true (by first | (with_reducible assumption) | assumption)
                     obtain ⟨ad482, e482, hx482_0⟩ := Kd.at_int HR480_0.out x43_4 p482 q482
                     cases e482
                     replace hx482_0 := (HB.out.cell (World.block_lt_of_cell? w _ hx482_0)).trans hx482_0
                     replace p482 := eq_true p482
                     replace q482 := eq_true q482
                     obtain ⟨Ao25, co25, eo25⟩ := Kd.S_slice HO_5.out
                     subst eo25
                     have p483 : 0 ≤ (x43_4 : Int) := of_decide_eq_true (by first | (with_reducible assumption) | assumption)
                     have q483 : x43_4 < (x5_4.length : Int) := of_decide_eq_true (by first | (with_reducible assumption) | assumption)
                     obtain ⟨ad483, A483_0, c483_0, e483, hx483_0, hl483_0, hi483_0⟩ := at_L2 (Kd.S_reads' HO_5.out).2.2 x43_4 p483 q483
                     cases e483
                     obtain ⟨ce483, hce483, hMe483, hcc483⟩ := Kd.S_get HO_5.out [] x43_4 p483 (by first | exact q483 | exact of_decide_eq_true (by first | (with_reducible assumption) | assumption) | (have e_ := (Kd.S_reads' HO_5.out).1; omega))
                     obtain ⟨ve483_0, rfl, ge483_0⟩ := hMe483
                     have hv483_0 := hcc483 0 _ rfl
                     rw [Nat.add_zero, show ((Kd.slice 3 (Kd.int .i64))).sz = 1 from rfl, Nat.mul_one] at hv483_0
                     replace hv483_0 := Option.some.inj (hv483_0.symm.trans hx483_0)
                     rw [hv483_0] at ge483_0
                     have HL483_0 := Aside0.mk (show Kd.R (Kd.int .i64) 3 _ _ _ _ (rd_L2 x5_4 x43_4) from ge483_0)
                     clear hv483_0 ge483_0
                     have HX483_0 := Aside0.mk hx483_0
                     clear hcc483 hce483
                     have HR483_0 := Aside0.mk hi483_0
                     have HC483_0 := Aside0.mk hl483_0
                     clear hi483_0 hl483_0
                     replace p483 := eq_true p483
                     replace q483 := eq_true q483
                     obtain ⟨go26, co26, eo26, gb26, gl26, cl26, HG26⟩ := Kd.S_form HO_5.out (by have h_ : (x43_4 : Int) < ((x5_4.length : Int) : Int) := of_decide_eq_true (by first | (with_reducible assumption) | assumption); have h2_ : 0 ≤ (x43_4 : Int) := (of_decide_eq_true (by first | (with_reducible assumption) | assumption)); omega)
                     (first | cases eo26 | (injection eo26 with ea_ en_ ec_; (first | subst ea_ | (injection ea_ with ea_; subst ea_)); subst ec_; clear en_))
                     have GB26 := Aside0.mk gb26
                     have GG26 := Aside0.mk HG26
                     clear gb26 gl26 HG26
                     (first | simp only [add_plain] at hx483_0 | skip)
                     obtain ⟨oki26, ce26, hcl26, hM26, hcc26, _, _, hH26⟩ := Kd.S_elem HO_5.out [] (x43_4 : Int) (of_decide_eq_true (by first | (with_reducible assumption) | assumption)) (by have h_ : (x43_4 : Int) < ((x5_4.length : Int) : Int) := of_decide_eq_true (by first | (with_reducible assumption) | assumption); first | exact h_ | (have e_ := (Kd.S_reads' HO_5.out).1; omega) | simpa using h_)
                     obtain ⟨ve26_0, rfl, ge26_0⟩ := hM26
                     have hv26 := hcc26 0 _ rfl
                     have hX26 := HX483_0.out
                     (try simp only [add_plain] at hX26)
                     (try simp only [Nat.add_zero] at hv26)
                     (try rw [show ((Kd.slice 3 (Kd.int .i64))).sz = 1 from rfl, Nat.mul_one] at hv26)
                     replace hv26 := Option.some.inj (hv26.symm.trans hX26)
                     subst hv26
                     clear hX26 hcc26 hcl26
                     have UU26 := Aside0.mk (show Kd.R (Kd.int .i64) 3 _ w.heap.size oki26 (.slice A483_0 (rd_L2 x5_4 x43_4).length c483_0) (rd_L2 x5_4 x43_4) from ge26_0)
                     have HH26 := Aside0.mk hH26
                     have HN26 := Aside0.mk (Kd.S_reads' HO_5.out).1
                     clear hH26 ge26_0
                     go_wp2_with (first | ((with_reducible refine gate_builtin (b := .append) (xs := #[.tmp 53, .tmp 55]) rfl ?_); (try (refine gate_guard (by rfl) ?_; dsimp only)); at_builtin; refine Kd.R_append (Kd.int .i64) (w0 := w) w.heap.size rfl (.tmp 53) (.tmp 55) 35 3 (.int .i64 0) 8 rfl Try.underlying35 info3 rfl (by decide) (by omega) (.slice A483_0 (rd_L2 x5_4 x43_4).length c483_0) (rd_L2 x5_4 x43_4) (rd (rd_L2 l1 x27_2) x43_4) [.int .i64 (rd (rd_L2 l1 x27_2) x43_4)] (fun k_ => oki26 k_ ∨ ((fun _ => True)) k_ ∧ wr.heap.size ≤ k_) (fun _ => False) rfl rfl ?aP (fun _ hk => hk.elim) ?aF ?aO ?aB ?aS ?aL ?_; (case aP => exact rfl); (case aB => exact (B_l HB.out)); (case aF => exact (fun k_ hk => .inr ⟨trivial, hk⟩)); (case aO => exact (R_l (Kd.R_mono UU26.out (fun _ hk => .inl hk)))); (case aS => exact (below_size (B_l HB.out))); (case aL => have := LMc23.out; omega); intro v485 w27 ho hb hg hat; rw [← Ny484.out] at ho; have n0_ := Aside0.mk (hb); have n1_ := Aside0.mk (Kd.H_grown (Kd.H_widen (by repeat (first | exact HH26.out | refine Kd.H_alloc ?_ _ | refine Kd.H_drewN ?_ _ | refine Kd.H_drew ?_))) hg (fun k_ e_ => .inl (UU26.out.1 k_ e_))); have n2_ := Aside0.mk (ho); clear HB; clear HH26; clear HO_5; clear UU26; clear HL483_0; have HB := n0_; have HH26 := n1_; have HO486 := n2_; clear n0_ n1_ n2_; clear ho hb hg hat; have p24 : 0 ≤ (x43_4 : Int) := of_decide_eq_true (by first | (with_reducible assumption) | assumption); have q24 : (x43_4 : Int) < ((x5_4.length : Int) : Int) := of_decide_eq_true (by first | (with_reducible assumption) | assumption); replace p24 := eq_true p24; replace q24 := eq_true q24; obtain ⟨Ao30, co30, eo30⟩ := Kd.R_slice HO486.out; subst eo30; obtain ⟨_, _, hraw28, _, _, hcc28, _⟩ := Kd.H_raw HH26.out (of_decide_eq_true (by first | (with_reducible assumption) | assumption)) (by have h_ : (x43_4 : Int) < ((x5_4.length : Int) : Int) := of_decide_eq_true (by first | (with_reducible assumption) | assumption); first | exact h_ | (have e_ := (HN26.out); omega) | simpa using h_); obtain ⟨_, hfr28⟩ := Kd.H_at HH26.out (of_decide_eq_true (by first | (with_reducible assumption) | assumption)) (by have h_ : (x43_4 : Int) < ((x5_4.length : Int) : Int) := of_decide_eq_true (by first | (with_reducible assumption) | assumption); first | exact h_ | (have e_ := (HN26.out); omega) | simpa using h_); have hx28_0 := hcc28 0 _ rfl; have hf28_0 := hfr28 0; (try simp only [Nat.add_zero] at hx28_0 hf28_0); (try rw [show ((Kd.slice 3 (Kd.int .i64))).sz = 1 from rfl, Nat.mul_one] at hx28_0); (try rw [show ((Kd.slice 3 (Kd.int .i64))).sz = 1 from rfl, Nat.mul_one] at hf28_0); have HP28 := Kd.S_seg0 HH26.out (of_decide_eq_true (by first | (with_reducible assumption) | assumption)) (by have h_ : (x43_4 : Int) < ((x5_4.length : Int) : Int) := of_decide_eq_true (by first | (with_reducible assumption) | assumption); first | exact h_ | (have e_ := (HN26.out); omega) | simpa using h_) (seg := [.slice Ao30 y484.length co30]) (j := 0) (show 1 ≤ 1 from by decide) (x' := y484) (Kd.M_row HO486.out) (fun _ hk => hk); (try simp only [show ((Kd.slice 3 (Kd.int .i64))).sz = 1 from rfl, Nat.mul_one, Nat.add_zero] at HP28); clear hcc28 hfr28) | ((with_reducible refine gate_store (t := 35) (p := 57) rfl ?_); refine store_event (t := 35) (p := 57) (v := ?vo_w29) (w1 := (w27.setCell ⟨go26, (x43_4 : Int).toNat, none⟩ (.slice Ao30 y484.length co30))) ?hg ?ho ?hn ?hr ?_; (case ho => rfl); (case hg => rfl); (case hn => rfl); (case hr => first | (go_simp; done) | (go_simp; rfl)); intro w29 hw; have hg : w27.grownBy w29 (some go26) := (by rw [hw]; exact HP28.2); have hp_ : Kd.S (Kd.slice 3 (Kd.int .i64)) 35 w29 w.heap.size (fun _ => True) (.slice (some ⟨go26, 0, none⟩) x5_4.length co25) y487 := (by rw [hw, Ny487.out]; exact HP28.1); clear HP28; have n0_ := Aside0.mk ((by rw [hw]; exact below_set HB.out GB26.out : Below w.heap.size w w29)); have n1_ := Aside0.mk (hp_); clear HB; clear HO486; clear HH26; have HB := n0_; have HO_5 := n1_; clear n0_ n1_; clear hg hw hp_ hraw28))
                     go_roundg k4
                     case measure => have := HJ2.out; have := HK2.out; have := HJ14.out; have := HK4.out; omega
                     case rel => exact ⟨(y487), (wrap64 (x43_4 + 1)), (by first | rfl | (simp; done) | (simp [*]; done)), H', ⟨by have := HJ2.out; have := HK2.out; have := HJ14.out; have := HK4.out; omega⟩, ⟨S_l HO_5.out⟩, ⟨B_l HB.out⟩⟩
                    ·rw [if_neg c23] at H
                     exact absurd H (by simp)
                   ·rw [if_neg c22] at H
                    exact absurd H (by simp)
                  ·rw [if_neg c21] at H
                   exact absurd H (by simp)
                 ·rw [if_neg c20] at H
                  exact absurd H (by simp)
                ·rw [if_neg c19] at H
                 have c19b0 : decide (x43_4 < ((rd_L2 l1 x27_2).length : Int)) = false := decide_eq_false c19
                 clear c19
                 have H' := Aside0.mk H
                 clear H
                 go_wp2
                 go_roundg k4
                 case measure => have := HJ2.out; have := HK2.out; have := HJ14.out; have := HK4.out; omega
                 case rel => exact ⟨(x5_4), (wrap64 (x27_2 + 1)), (by first | rfl | (simp; done) | (simp [*]; done)), H', ⟨by have := HJ2.out; have := HK2.out; have := HJ14.out; have := HK4.out; omega⟩, ⟨S_l HO_5.out⟩, ⟨B_l HB.out⟩⟩
          ·rw [if_neg c14] at H
           exact absurd H (by simp)
         ·rw [if_neg c13] at H
          exact absurd H (by simp)
        ·rw [if_neg c12] at H
         have c12b0 : decide (x27_2 < (l1.length : Int)) = false := decide_eq_false c12
         clear c12
         have H' := Aside0.mk H
         clear H
         obtain ⟨Ao31, co31, eo31⟩ := Kd.S_slice HO_5.out
         subst eo31
         go_wp2
         go_loopg [62] k2 (fun kq v62 w' => ∃ (x62_3 : Int), v62 = .int .i64 x62_3 ∧ Aside0 (impl_IsSymplectic.l2 kq a0 x5_2 (x5_2.length : Int) x62_3 = some r) ∧ Aside0 (kq ≤ k2) ∧ Aside0 (Kd.S (Kd.slice 3 (Kd.int .i64)) 35 w' w.heap.size (fun _ => True) (.slice Ao31 x5_2.length co31) x5_2) ∧ Aside0 (Below w.heap.size w w'))
         case atStart => exact ⟨(0), (by first | rfl | (simp; done) | (simp [*]; done)), H', ⟨Nat.le_refl _⟩, ⟨S_l HO_5.out⟩, ⟨B_l HB.out⟩⟩
         case round =>
          clear H'
          try clear c1
          try clear c2
          try clear p2
          try clear q2
          try clear hx2
          try clear hf2
          try clear c4
          try clear p4
          try clear q4
          try clear hx4
          try clear c5
          try clear c6
          try clear p6
          try clear c8
          try clear c8b0
          try clear c8b1
          try clear c9
          try clear c9b0
          try clear c9b1
          try clear c10
          try clear c12
          try clear c12b0
          try clear c13
          try clear c13b0
          try clear c14
          try clear c14b0
          try clear c16
          try clear c16b0
          try clear c16b1
          try clear c18
          try clear c19
          try clear c19b0
          try clear c20
          try clear c20b0
          try clear c21
          try clear c21b0
          try clear c22
          try clear c22b0
          try clear c23
          try clear p24
          try clear q24
          try clear c26
          try clear c28
          try clear hx28
          try clear hf28
          try clear hx28_0
          try clear hx480_0
          try clear hx482_0
          try clear hx483_0
          try clear p2
          try clear p24
          try clear p4
          try clear p480
          try clear p482
          try clear p483
          try clear p6
          try clear q24
          try clear q4
          try clear q480
          try clear q482
          try clear q483
          obtain ⟨x62_3, rfl, HA, HK3, HO_5, HB⟩ := hrel
          cases gk with
          | zero => exact absurd HA.out (by simp [impl_IsSymplectic.l2])
          | succ k3 =>
           have H := HA.out
           clear HA
           simp only [impl_IsSymplectic.l2] at H
           by_cases c32 : x62_3 < (x5_2.length : Int)
           ·rw [if_pos c32] at H
            have c32b0 : decide (x62_3 < (x5_2.length : Int)) = true := decide_eq_true c32
            clear c32
            have H' := Aside0.mk H
            clear H
            go_wp2
            go_loopg [67] k3 (fun kq v67 w' => ∃ (x67_4 : Int), v67 = .int .i64 x67_4 ∧ Aside0 (impl_IsSymplectic.l3 kq a0 x5_2 x62_3 (x5_2.length : Int) x62_3 (x5_2.length : Int) x67_4 = some r) ∧ Aside0 (kq ≤ k3) ∧ Aside0 (Kd.S (Kd.slice 3 (Kd.int .i64)) 35 w' w.heap.size (fun _ => True) (.slice Ao31 x5_2.length co31) x5_2) ∧ Aside0 (Below w.heap.size w w'))
            case atStart => exact ⟨(0), (by first | rfl | (simp; done) | (simp [*]; done)), H', ⟨Nat.le_refl _⟩, ⟨S_l HO_5.out⟩, ⟨B_l HB.out⟩⟩
            case round =>
             clear H'
             try clear c1
             try clear c2
             try clear p2
             try clear q2
             try clear hx2
             try clear hf2
             try clear c3
             try clear c4
             try clear p4
             try clear q4
             try clear hx4
             try clear c5
             try clear c6
             try clear p6
             try clear c8
             try clear c8b0
             try clear c8b1
             try clear c9
             try clear c9b0
             try clear c9b1
             try clear c10
             try clear c12
             try clear c12b0
             try clear c13
             try clear c13b0
             try clear c14
             try clear c14b0
             try clear c16
             try clear c16b0
             try clear c16b1
             try clear c18
             try clear c19
             try clear c19b0
             try clear c20
             try clear c20b0
             try clear c21
             try clear c21b0
             try clear c22
             try clear c22b0
             try clear c23
             try clear p24
             try clear q24
             try clear c26
             try clear c28
             try clear hx28
             try clear hf28
             try clear c32
             try clear c32b0
             try clear hx28_0
             try clear hx480_0
             try clear hx482_0
             try clear hx483_0
             try clear p2
             try clear p24
             try clear p4
             try clear p480
             try clear p482
             try clear p483
             try clear p6
             try clear q2
             try clear q24
             try clear q4
             try clear q480
             try clear q482
             try clear q483
             obtain ⟨x67_4, rfl, HA, HK4, HO_5, HB⟩ := hrel
             cases gk with
             | zero => exact absurd HA.out (by simp [impl_IsSymplectic.l3])
             | succ k4 =>
              have H := HA.out
              clear HA
              simp only [impl_IsSymplectic.l3] at H
              by_cases c33 : x67_4 < (x5_2.length : Int)
              ·rw [if_pos c33] at H
               have c33b0 : decide (x67_4 < (x5_2.length : Int)) = true := decide_eq_true c33
               clear c33
               by_cases c34 : 0 ≤ x62_3
               ·rw [if_pos c34] at H
                have c34b0 : decide (0 ≤ x62_3) = true := decide_eq_true c34
                clear c34
                by_cases c35 : x62_3 < (x5_2.length : Int)
                ·rw [if_pos c35] at H
                 have c35b0 : decide (x62_3 < (x5_2.length : Int)) = true := decide_eq_true c35
                 clear c35
                 by_cases c36 : 0 ≤ x67_4
                 ·rw [if_pos c36] at H
                  have c36b0 : decide (0 ≤ x67_4) = true := decide_eq_true c36
                  clear c36
                  by_cases c37 : x67_4 < (x5_2.length : Int)
                  ·rw [if_pos c37] at H
                   have c37b0 : decide (x67_4 < (x5_2.length : Int)) = true := decide_eq_true c37
                   clear c37
                   replace H := Option.bind_eq_some_iff.mp H
                   obtain ⟨t490, A380, H⟩ := H
                   have A38 := Aside0.mk A380
                   clear A380
                   replace H := Option.bind_eq_some_iff.mp H
                   obtain ⟨t491, A390, H⟩ := H
                   have A39 := Aside0.mk A390
                   clear A390
                   replace H := Option.bind_eq_some_iff.mp H
                   obtain ⟨t494, A400, H⟩ := H
                   have A40 := Aside0.mk A400
                   clear A400
                   replace H := Option.bind_eq_some_iff.mp H
                   obtain ⟨t497, A410, H⟩ := H
                   have A41 := Aside0.mk A410
                   clear A410
                   by_cases c42 : t490 = t497
                   ·rw [if_pos c42] at H
                    have c42b0 : (t490 == t497) = true := beq_iff_eq.mpr c42
                    have c42b1 : (t490 != t497) = false := bne_eq_false_iff_eq.mpr c42
                    clear c42
                    have H' := Aside0.mk H
                    clear H
                    try go_wp2
                    have n0_ := Aside0.mk (Kd.S_drew HO_5.out)
                    have n1_ := Aside0.mk (below_drew1 HB.out)
                    clear HO_5
                    clear HB
                    have HO_5 := n0_
                    have HB := n1_
                    clear n0_ n1_
                    have p488 : 0 ≤ (x62_3 : Int) := of_decide_eq_true (by first | (with_reducible assumption) | assumption)
                    have q488 : x62_3 < (x5_2.length : Int) := of_decide_eq_true (by first | (with_reducible assumption) | assumption)
                    obtain ⟨ad488, A488_0, c488_0, e488, hx488_0, hl488_0, hi488_0⟩ := at_L2 (Kd.S_reads' HO_5.out).2.2 x62_3 p488 q488
                    cases e488
                    obtain ⟨ce488, hce488, hMe488, hcc488⟩ := Kd.S_get HO_5.out [] x62_3 p488 (by first | exact q488 | exact of_decide_eq_true (by first | (with_reducible assumption) | assumption) | (have e_ := (Kd.S_reads' HO_5.out).1; omega))
                    obtain ⟨ve488_0, rfl, ge488_0⟩ := hMe488
                    have hv488_0 := hcc488 0 _ rfl
                    rw [Nat.add_zero, show ((Kd.slice 3 (Kd.int .i64))).sz = 1 from rfl, Nat.mul_one] at hv488_0
                    replace hv488_0 := Option.some.inj (hv488_0.symm.trans hx488_0)
                    rw [hv488_0] at ge488_0
                    have HL488_0 := Aside0.mk (show Kd.R (Kd.int .i64) 3 _ _ _ _ (rd_L2 x5_2 x62_3) from ge488_0)
                    clear hv488_0 ge488_0
                    have HX488_0 := Aside0.mk hx488_0
                    clear hcc488 hce488
                    have HR488_0 := Aside0.mk hi488_0
                    have HC488_0 := Aside0.mk hl488_0
                    clear hi488_0 hl488_0
                    replace p488 := eq_true p488
                    replace q488 := eq_true q488
                    have p489 : 0 ≤ (x67_4 : Int) := of_decide_eq_true (by first | (with_reducible assumption) | assumption)
                    have q489 : x67_4 < (x5_2.length : Int) := of_decide_eq_true (by first | (with_reducible assumption) | assumption)
                    obtain ⟨ad489, A489_0, c489_0, e489, hx489_0, hl489_0, hi489_0⟩ := at_L2 (Kd.S_reads' HO_5.out).2.2 x67_4 p489 q489
                    obtain rfl : ad488 = ad489 := (by injection e489)
                    obtain ⟨ce489, hce489, hMe489, hcc489⟩ := Kd.S_get HO_5.out [] x67_4 p489 (by first | exact q489 | exact of_decide_eq_true (by first | (with_reducible assumption) | assumption) | (have e_ := (Kd.S_reads' HO_5.out).1; omega))
                    obtain ⟨ve489_0, rfl, ge489_0⟩ := hMe489
                    have hv489_0 := hcc489 0 _ rfl
                    rw [Nat.add_zero, show ((Kd.slice 3 (Kd.int .i64))).sz = 1 from rfl, Nat.mul_one] at hv489_0
                    replace hv489_0 := Option.some.inj (hv489_0.symm.trans hx489_0)
                    rw [hv489_0] at ge489_0
                    have HL489_0 := Aside0.mk (show Kd.R (Kd.int .i64) 3 _ _ _ _ (rd_L2 x5_2 x67_4) from ge489_0)
                    clear hv489_0 ge489_0
                    have HX489_0 := Aside0.mk hx489_0
                    clear hcc489 hce489
                    have HR489_0 := Aside0.mk hi489_0
                    have HC489_0 := Aside0.mk hl489_0
                    clear hi489_0 hl489_0
                    replace p489 := eq_true p489
                    replace q489 := eq_true q489
                    refine start_ (n := 19) (S := fun w' => w'.cell? (ad488.add (x62_3).toNat) = some (.slice A488_0 (rd_L2 x5_2 x62_3).length c488_0) ∧ w'.cell? (ad488.add (x67_4).toNat) = some (.slice A489_0 (rd_L2 x5_2 x67_4).length c489_0)) (ds := []) #[false, false, false, false, false, false, false, false, false, false, false, false, false, false, false, false, false, false, false] (by kernel_rfl) rfl rfl ⟨hx488_0, hx489_0⟩ (fun hHeld => ?_); refine with_tabW impl_IsSymplectic.tab21 impl_IsSymplectic.bits21 (fun HT_ HW_ => ?_)
                    generalize wr.drew = w43 at HO_5 HB HL488_0 HL489_0 HR488_0 HR489_0 HX488_0 HX489_0 hx488_0 hx489_0 hHeld ⊢
                    refine pure_ (i := 0) (N := some 70) (v := ?_) (a' := ?_) #[true, false, false, false, false, false, false, false, false, false, false, false, false, false, false, false, false, false, false] rfl rfl (any_of HT_.out (by kernel_rfl)) (fun _ _ _ h => h) (Or.inl ⟨by rfl, ?_⟩) ?_ ?_
                    rotate_left
                    ·intro w'
                     go_simp
                     with_reducible rfl
                    rotate_left
                    ·simp only [Act.put, List.setIfInBounds_toArray, List.set_cons_zero, List.set_cons_succ, i64_w, i32_w]
                     rfl
                    refine pure_ (i := 1) (N := some 71) (v := ?_) (a' := ?_) #[true, true, false, false, false, false, false, false, false, false, false, false, false, false, false, false, false, false, false] rfl rfl (any_of HT_.out (by kernel_rfl)) (fun _ _ _ h => h) (Or.inl ⟨by rfl, ?_⟩) ?_ ?_
                    rotate_left
                    ·intro w'
                     go_simp
                     with_reducible rfl
                    rotate_left
                    ·simp only [Act.put, List.setIfInBounds_toArray, List.set_cons_zero, List.set_cons_succ, i64_w, i32_w]
                     rfl
                    refine pure_ (i := 2) (N := some 72) (v := ?_) (a' := ?_) #[true, true, true, false, false, false, false, false, false, false, false, false, false, false, false, false, false, false, false] rfl rfl (any_of HT_.out (by kernel_rfl)) (fun _ _ _ h => h) (Or.inl ⟨by rfl, ?_⟩) ?_ ?_
                    rotate_left
                    ·intro w'
                     go_simp
                     with_reducible rfl
                    rotate_left
                    ·simp only [Act.put, List.setIfInBounds_toArray, List.set_cons_zero, List.set_cons_succ, i64_w, i32_w]
                     rfl
                    refine pure_ (i := 4) (N := some 74) (v := ?_) (a' := ?_) #[true, true, true, false, true, false, false, false, false, false, false, false, false, false, false, false, false, false, false] rfl rfl (any_of HT_.out (by kernel_rfl)) (fun _ _ _ h => h) (Or.inl ⟨by rfl, ?_⟩) ?_ ?_
                    rotate_left
                    ·intro w'
                     go_simp
                     with_reducible rfl
                    rotate_left
                    ·simp only [Act.put, List.setIfInBounds_toArray, List.set_cons_zero, List.set_cons_succ, i64_w, i32_w]
                     rfl
                    refine pure_ (i := 5) (N := some 75) (v := ?_) (a' := ?_) #[true, true, true, false, true, true, false, false, false, false, false, false, false, false, false, false, false, false, false] rfl rfl (any_of HT_.out (by kernel_rfl)) (fun _ _ _ h => h) (Or.inl ⟨by rfl, ?_⟩) ?_ ?_
                    rotate_left
                    ·intro w'
                     go_simp
                     with_reducible rfl
                    rotate_left
                    ·simp only [Act.put, List.setIfInBounds_toArray, List.set_cons_zero, List.set_cons_succ, i64_w, i32_w]
                     rfl
                    refine pure_ (i := 6) (N := some 76) (v := ?_) (a' := ?_) #[true, true, true, false, true, true, true, false, false, false, false, false, false, false, false, false, false, false, false] rfl rfl (any_of HT_.out (by kernel_rfl)) (fun _ _ _ h => h) (Or.inl ⟨by rfl, ?_⟩) ?_ ?_
                    rotate_left
                    ·intro w'
                     go_simp
                     with_reducible rfl
                    rotate_left
                    ·simp only [Act.put, List.setIfInBounds_toArray, List.set_cons_zero, List.set_cons_succ, i64_w, i32_w]
                     rfl
                    refine pure_ (i := 9) (N := some 79) (v := ?_) (a' := ?_) #[true, true, true, false, true, true, true, false, false, true, false, false, false, false, false, false, false, false, false] rfl rfl (any_of HT_.out (by kernel_rfl)) (fun _ _ _ h => h) (Or.inl ⟨by rfl, ?_⟩) ?_ ?_
                    rotate_left
                    ·intro w'
                     go_simp
                     with_reducible rfl
                    rotate_left
                    ·simp only [Act.put, List.setIfInBounds_toArray, List.set_cons_zero, List.set_cons_succ, i64_w, i32_w]
                     rfl
                    refine pure_ (i := 10) (N := some 80) (v := ?_) (a' := ?_) #[true, true, true, false, true, true, true, false, false, true, true, false, false, false, false, false, false, false, false] rfl rfl (any_of HT_.out (by kernel_rfl)) (fun _ _ _ h => h) (Or.inl ⟨by rfl, ?_⟩) ?_ ?_
                    rotate_left
                    ·intro w'
                     go_simp
                     with_reducible rfl
                    rotate_left
                    ·simp only [Act.put, List.setIfInBounds_toArray, List.set_cons_zero, List.set_cons_succ, i64_w, i32_w]
                     rfl
                    refine pure_ (i := 11) (N := some 81) (v := ?_) (a' := ?_) #[true, true, true, false, true, true, true, false, false, true, true, true, false, false, false, false, false, false, false] rfl rfl (any_of HT_.out (by kernel_rfl)) (fun _ _ _ h => h) (Or.inl ⟨by rfl, ?_⟩) ?_ ?_
                    rotate_left
                    ·intro w'
                     go_simp
                     with_reducible rfl
                    rotate_left
                    ·simp only [Act.put, List.setIfInBounds_toArray, List.set_cons_zero, List.set_cons_succ, i64_w, i32_w]
                     rfl
                    refine pure_ (i := 13) (N := some 83) (v := ?_) (a' := ?_) #[true, true, true, false, true, true, true, false, false, true, true, true, false, true, false, false, false, false, false] rfl rfl (any_of HT_.out (by kernel_rfl)) (fun _ _ _ h => h) (Or.inl ⟨by rfl, ?_⟩) ?_ ?_
                    rotate_left
                    ·intro w'
                     go_simp
                     with_reducible rfl
                    rotate_left
                    ·simp only [Act.put, List.setIfInBounds_toArray, List.set_cons_zero, List.set_cons_succ, i64_w, i32_w]
                     rfl
                    refine pure_ (i := 14) (N := some 84) (v := ?_) (a' := ?_) #[true, true, true, false, true, true, true, false, false, true, true, true, false, true, true, false, false, false, false] rfl rfl (any_of HT_.out (by kernel_rfl)) (fun _ _ _ h => h) (Or.inl ⟨by rfl, ?_⟩) ?_ ?_
                    rotate_left
                    ·intro w'
                     go_simp
                     with_reducible rfl
                    rotate_left
                    ·simp only [Act.put, List.setIfInBounds_toArray, List.set_cons_zero, List.set_cons_succ, i64_w, i32_w]
                     rfl
                    refine pure_ (i := 15) (N := some 85) (v := ?_) (a' := ?_) #[true, true, true, false, true, true, true, false, false, true, true, true, false, true, true, true, false, false, false] rfl rfl (any_of HT_.out (by kernel_rfl)) (fun _ _ _ h => h) (Or.inl ⟨by rfl, ?_⟩) ?_ ?_
                    rotate_left
                    ·intro w'
                     go_simp
                     with_reducible rfl
                    rotate_left
                    ·simp only [Act.put, List.setIfInBounds_toArray, List.set_cons_zero, List.set_cons_succ, i64_w, i32_w]
                     rfl
                    refine take_ (i := 3) (N := some 73) (v := ?_) (a' := ?_) #[true, true, true, true, true, true, true, false, false, true, true, true, false, true, true, true, false, false, false] rfl rfl (take_ofW HT_.out HW_.out (by kernel_rfl)) (fun _ _ _ h => h) (Or.inl ⟨by rfl, ?_⟩) hHeld ?_ ?_
                    rotate_left
                    ·rintro w' ⟨s0, s1⟩
                     go_simp
                     with_reducible rfl
                    rotate_left
                    ·simp only [Act.put, List.setIfInBounds_toArray, List.set_cons_zero, List.set_cons_succ, i64_w, i32_w]
                     rfl
                    refine take_ (i := 7) (N := some 77) (v := ?_) (a' := ?_) #[true, true, true, true, true, true, true, true, false, true, true, true, false, true, true, true, false, false, false] rfl rfl (take_ofW HT_.out HW_.out (by kernel_rfl)) (fun _ _ _ h => h) (Or.inl ⟨by rfl, ?_⟩) hHeld ?_ ?_
                    rotate_left
                    ·rintro w' ⟨s0, s1⟩
                     go_simp
                     with_reducible rfl
                    rotate_left
                    ·simp only [Act.put, List.setIfInBounds_toArray, List.set_cons_zero, List.set_cons_succ, i64_w, i32_w]
                     rfl
                    refine one_ (i := 8) (N := some 78) #[true, true, true, true, true, true, true, true, true, true, true, true, false, true, true, true, false, false, false] rfl rfl (one_of HT_.out (by kernel_rfl)) (by decide) (fun K hK => ?_)
                    refine goes_ Try.func169 (by kernel_rfl) rfl #[.slice A488_0 (rd_L2 x5_2 x62_3).length c488_0, .slice A489_0 (rd_L2 x5_2 x67_4).length c489_0] (by rfl) rfl rfl (by (try simp only [List.map_toArray, List.map_cons, List.map_nil]); first | done | rfl | (simp only [hji7]; done) | (simp only [hji7]; rfl)) ?_
                    with_reducible refine (impl_form.calls k4 _ _ (rd_L2 x5_2 x62_3) _ _ (rd_L2 x5_2 x67_4) t490 _ ?side1 ?side2 ?side3 ?side4 A38.out).mono ?_
                    (case side1 => repeat (first | exact (by repeat (first | (with_reducible exact HR488_0.out) | (with_reducible refine Kd.C_alloc ?_ _) | (with_reducible refine Kd.C_drewN ?_ _) | (with_reducible refine Kd.C_drew ?_) | exact HR488_0.out)) | (with_reducible refine Kd.C_alloc ?_ _) | (with_reducible refine Kd.C_drewN ?_ _) | (with_reducible refine Kd.C_drew ?_)))
                    (case side2 => exact HC488_0.out)
                    (case side3 => repeat (first | exact (by repeat (first | (with_reducible exact HR489_0.out) | (with_reducible refine Kd.C_alloc ?_ _) | (with_reducible refine Kd.C_drewN ?_ _) | (with_reducible refine Kd.C_drew ?_) | exact HR489_0.out)) | (with_reducible refine Kd.C_alloc ?_ _) | (with_reducible refine Kd.C_drewN ?_ _) | (with_reducible refine Kd.C_drew ?_)))
                    (case side4 => exact HC489_0.out)
                    rintro e w' ⟨rfl, ⟨nd, rfl⟩⟩
                    refine ⟨_, rfl, ?_⟩
                    refine hK.out _ _ ⟨hHeld.1, hHeld.2⟩ (fun hHeld => ?_)
                    clear hK K
                    refine norm_ (a' := ?_) ?_ ?_
                    rotate_left
                    ·show Act.put _ (some 78) _ = _
                     simp only [Act.put, List.setIfInBounds_toArray, List.set_cons_zero, List.set_cons_succ, i64_w, i32_w]
                     rfl
                    refine one_ (i := 12) (N := some 82) #[true, true, true, true, true, true, true, true, true, true, true, true, true, true, true, true, false, false, false] rfl rfl (one_of HT_.out (by kernel_rfl)) (by decide) (fun K hK => ?_)
                    refine goes_ Try.func173 (by kernel_rfl) rfl #[.int .i64 (wrap64 (2 * a0)), .int .i64 x62_3] (by rfl) rfl rfl (by (try simp only [List.map_toArray, List.map_cons, List.map_nil]); first | done | rfl | (simp only [hji7]; done) | (simp only [hji7]; rfl)) ?_
                    with_reducible refine (impl_unit.calls (wrap64 (2 * a0)) x62_3 t491 _ A39.out).mono ?_
                    rintro e w44 ⟨v492, rfl, ho0, hb⟩
                    have HS0_ := (hb.cell (World.block_lt_of_cell? _ _ (hHeld.1))).trans (hHeld.1)
                    have HS1_ := (hb.cell (World.block_lt_of_cell? _ _ (hHeld.2))).trans (hHeld.2)
                    refine ⟨_, rfl, ?_⟩
                    have n0_ := Aside0.mk (Kd.S_elder' (S_l HO_5.out) (Kd.R_base ho0) hb)
                    have n1_ := Aside0.mk (Kd.R_elder' (R_l HL488_0.out) (Kd.R_base ho0) hb)
                    have n2_ := Aside0.mk (Kd.R_elder' (R_l HL489_0.out) (Kd.R_base ho0) hb)
                    have n3_ := Aside0.mk (Kd.R_lower (Kd.R_new' (Kd.R_new' ho0 (Kd.R_lt (R_l HL488_0.out))) (Kd.R_lt (R_l HL489_0.out))) (below_size (B_l HB.out)))
                    have n4_ := Aside0.mk (Kd.C_below (by repeat (first | (with_reducible exact HR488_0.out) | (with_reducible refine Kd.C_alloc ?_ _) | (with_reducible refine Kd.C_drewN ?_ _) | (with_reducible refine Kd.C_drew ?_) | exact HR488_0.out)) hb)
                    have n5_ := Aside0.mk (pw_cell_below hb HX488_0.out)
                    have n6_ := Aside0.mk (Kd.C_below (by repeat (first | (with_reducible exact HR489_0.out) | (with_reducible refine Kd.C_alloc ?_ _) | (with_reducible refine Kd.C_drewN ?_ _) | (with_reducible refine Kd.C_drew ?_) | exact HR489_0.out)) hb)
                    have n7_ := Aside0.mk (pw_cell_below hb HX489_0.out)
                    have n8_ := Aside0.mk (below_step (B_l HB.out) hb)
                    clear HO_5
                    clear HL488_0
                    clear HL489_0
                    clear HR488_0
                    clear HX488_0
                    clear HR489_0
                    clear HX489_0
                    clear HB
                    have HO_5 := n0_
                    have HL488_0 := n1_
                    have HL489_0 := n2_
                    have HO493 := n3_
                    have HR488_0 := n4_
                    have HX488_0 := n5_
                    have HR489_0 := n6_
                    have HX489_0 := n7_
                    have HB := n8_
                    clear n0_ n1_ n2_ n3_ n4_ n5_ n6_ n7_ n8_
                    (try clear hb)
                    (try clear hb2)
                    (try clear hk)
                    (try clear hi)
                    (try clear ho0)
                    refine hK.out _ _ ⟨HS0_, HS1_⟩ (fun hHeld => ?_)
                    clear hK K
                    refine norm_ (a' := ?_) ?_ ?_
                    rotate_left
                    ·show Act.put _ (some 82) _ = _
                     simp only [Act.put, List.setIfInBounds_toArray, List.set_cons_zero, List.set_cons_succ, i64_w, i32_w]
                     rfl
                    refine one_ (i := 16) (N := some 86) #[true, true, true, true, true, true, true, true, true, true, true, true, true, true, true, true, true, false, false] rfl rfl (one_of HT_.out (by kernel_rfl)) (by decide) (fun K hK => ?_)
                    refine goes_ Try.func173 (by kernel_rfl) rfl #[.int .i64 (wrap64 (2 * a0)), .int .i64 x67_4] (by rfl) rfl rfl (by (try simp only [List.map_toArray, List.map_cons, List.map_nil]); first | done | rfl | (simp only [hji7]; done) | (simp only [hji7]; rfl)) ?_
                    with_reducible refine (impl_unit.calls (wrap64 (2 * a0)) x67_4 t494 _ A40.out).mono ?_
                    rintro e w45 ⟨v495, rfl, ho0, hb⟩
                    have HS0_ := (hb.cell (World.block_lt_of_cell? _ _ (hHeld.1))).trans (hHeld.1)
                    have HS1_ := (hb.cell (World.block_lt_of_cell? _ _ (hHeld.2))).trans (hHeld.2)
                    refine ⟨_, rfl, ?_⟩
                    have n0_ := Aside0.mk (Kd.S_elder' (S_l HO_5.out) (Kd.R_base ho0) hb)
                    have n1_ := Aside0.mk (Kd.R_elder' (R_l HL488_0.out) (Kd.R_base ho0) hb)
                    have n2_ := Aside0.mk (Kd.R_elder' (R_l HL489_0.out) (Kd.R_base ho0) hb)
                    have n3_ := Aside0.mk (Kd.R_elder' (R_l HO493.out) (Kd.R_base ho0) hb)
                    have n4_ := Aside0.mk (Kd.R_lower (Kd.R_new' (Kd.R_new' (Kd.R_new' ho0 (Kd.R_lt (R_l HL488_0.out))) (Kd.R_lt (R_l HL489_0.out))) (Kd.R_lt (R_l HO493.out))) (below_size (B_l HB.out)))
                    have n5_ := Aside0.mk (Kd.C_below (by repeat (first | (with_reducible exact HR488_0.out) | (with_reducible refine Kd.C_alloc ?_ _) | (with_reducible refine Kd.C_drewN ?_ _) | (with_reducible refine Kd.C_drew ?_) | exact HR488_0.out)) hb)
                    have n6_ := Aside0.mk (pw_cell_below hb HX488_0.out)
                    have n7_ := Aside0.mk (Kd.C_below (by repeat (first | (with_reducible exact HR489_0.out) | (with_reducible refine Kd.C_alloc ?_ _) | (with_reducible refine Kd.C_drewN ?_ _) | (with_reducible refine Kd.C_drew ?_) | exact HR489_0.out)) hb)
                    have n8_ := Aside0.mk (pw_cell_below hb HX489_0.out)
                    have n9_ := Aside0.mk (below_step (B_l HB.out) hb)
                    clear HO_5
                    clear HL488_0
                    clear HL489_0
                    clear HO493
                    clear HR488_0
                    clear HX488_0
                    clear HR489_0
                    clear HX489_0
                    clear HB
                    have HO_5 := n0_
                    have HL488_0 := n1_
                    have HL489_0 := n2_
                    have HO493 := n3_
                    have HO496 := n4_
                    have HR488_0 := n5_
                    have HX488_0 := n6_
                    have HR489_0 := n7_
                    have HX489_0 := n8_
                    have HB := n9_
                    clear n0_ n1_ n2_ n3_ n4_ n5_ n6_ n7_ n8_ n9_
                    (try clear hb)
                    (try clear hb2)
                    (try clear hk)
                    (try clear hi)
                    (try clear ho0)
                    obtain ⟨Ao46, co46, eo46⟩ := Kd.R_slice HO493.out
                    (first | subst eo46 | (injection eo46 with f1_ f2_ f3_; have f4_ := f1_.symm; have f5_ := f3_.symm; clear f1_ f2_ f3_; subst f4_; subst f5_))
                    obtain ⟨Ao47, co47, eo47⟩ := Kd.R_slice HO496.out
                    (first | subst eo47 | (injection eo47 with f1_ f2_ f3_; have f4_ := f1_.symm; have f5_ := f3_.symm; clear f1_ f2_ f3_; subst f4_; subst f5_))
                    refine hK.out _ _ ⟨HS0_, HS1_⟩ (fun hHeld => ?_)
                    clear hK K
                    refine norm_ (a' := ?_) ?_ ?_
                    rotate_left
                    ·show Act.put _ (some 86) _ = _
                     simp only [Act.put, List.setIfInBounds_toArray, List.set_cons_zero, List.set_cons_succ, i64_w, i32_w]
                     rfl
                    refine one_ (i := 17) (N := some 87) #[true, true, true, true, true, true, true, true, true, true, true, true, true, true, true, true, true, true, false] rfl rfl (one_of HT_.out (by kernel_rfl)) (by decide) (fun K hK => ?_)
                    refine goes_ Try.func169 (by kernel_rfl) rfl #[.slice Ao46 t491.length co46, .slice Ao47 t494.length co47] (by rfl) rfl rfl (by (try simp only [List.map_toArray, List.map_cons, List.map_nil]); first | done | rfl | (simp only [hji7]; done) | (simp only [hji7]; rfl)) ?_
                    with_reducible refine (impl_form.calls k4 _ _ t491 _ _ t494 t497 _ ?side1 ?side2 ?side3 ?side4 A41.out).mono ?_
                    (case side1 => exact C_l ((Kd.R_reads' HO493.out).2.2))
                    (case side2 => exact (Kd.R_reads' HO493.out).2.1)
                    (case side3 => exact C_l ((Kd.R_reads' HO496.out).2.2))
                    (case side4 => exact (Kd.R_reads' HO496.out).2.1)
                    rintro e w' ⟨rfl, ⟨nd, rfl⟩⟩
                    refine ⟨_, rfl, ?_⟩
                    refine hK.out _ _ ⟨hHeld.1, hHeld.2⟩ (fun hHeld => ?_)
                    clear hK K
                    refine norm_ (a' := ?_) ?_ ?_
                    rotate_left
                    ·show Act.put _ (some 87) _ = _
                     simp only [Act.put, List.setIfInBounds_toArray, List.set_cons_zero, List.set_cons_succ, i64_w, i32_w]
                     rfl
                    refine pure_ (i := 18) (N := some 88) (v := ?_) (a' := ?_) #[true, true, true, true, true, true, true, true, true, true, true, true, true, true, true, true, true, true, true] rfl rfl (any_of HT_.out (by kernel_rfl)) (fun _ _ _ h => h) (Or.inl ⟨by rfl, ?_⟩) ?_ ?_
                    rotate_left
                    ·intro w'
                     go_simp
                     with_reducible rfl
                    rotate_left
                    ·simp only [Act.put, List.setIfInBounds_toArray, List.set_cons_zero, List.set_cons_succ, i64_w, i32_w]
                     rfl
                    refine done_ (done_of HT_.out (by kernel_rfl)) ?_
                    try go_wp2
                    go_roundg k4
                    case measure => have := HJ2.out; have := HK2.out; have := HK3.out; have := HK4.out; omega
                    case rel => exact ⟨(wrap64 (x67_4 + 1)), (by first | rfl | (simp; done) | (simp [*]; done)), H', ⟨by have := HJ2.out; have := HK2.out; have := HK3.out; have := HK4.out; omega⟩, ⟨S_l (Kd.S_mono HO_5.out (fun _ hk => trivial))⟩, ⟨B_l HB.out⟩⟩
                   ·rw [if_neg c42] at H
                    have c42b0 : (t490 == t497) = false := beq_eq_false_iff_ne.mpr c42
                    have c42b1 : (t490 != t497) = true := bne_iff_ne.mpr c42
                    obtain rfl := Option.some.inj H
                    try go_wp2
                    have n0_ := Aside0.mk (Kd.S_drew HO_5.out)
                    have n1_ := Aside0.mk (below_drew1 HB.out)
                    clear HO_5
                    clear HB
                    have HO_5 := n0_
                    have HB := n1_
                    clear n0_ n1_
                    have p488 : 0 ≤ (x62_3 : Int) := of_decide_eq_true (by first | (with_reducible assumption) | assumption)
                    have q488 : x62_3 < (x5_2.length : Int) := of_decide_eq_true (by first | (with_reducible assumption) | assumption)
                    obtain ⟨ad488, A488_0, c488_0, e488, hx488_0, hl488_0, hi488_0⟩ := at_L2 (Kd.S_reads' HO_5.out).2.2 x62_3 p488 q488
                    cases e488
                    obtain ⟨ce488, hce488, hMe488, hcc488⟩ := Kd.S_get HO_5.out [] x62_3 p488 (by first | exact q488 | exact of_decide_eq_true (by first | (with_reducible assumption) | assumption) | (have e_ := (Kd.S_reads' HO_5.out).1; omega))
                    obtain ⟨ve488_0, rfl, ge488_0⟩ := hMe488
                    have hv488_0 := hcc488 0 _ rfl
                    rw [Nat.add_zero, show ((Kd.slice 3 (Kd.int .i64))).sz = 1 from rfl, Nat.mul_one] at hv488_0
                    replace hv488_0 := Option.some.inj (hv488_0.symm.trans hx488_0)
                    rw [hv488_0] at ge488_0
                    have HL488_0 := Aside0.mk (show Kd.R (Kd.int .i64) 3 _ _ _ _ (rd_L2 x5_2 x62_3) from ge488_0)
                    clear hv488_0 ge488_0
                    have HX488_0 := Aside0.mk hx488_0
                    clear hcc488 hce488
                    have HR488_0 := Aside0.mk hi488_0
                    have HC488_0 := Aside0.mk hl488_0
                    clear hi488_0 hl488_0
                    replace p488 := eq_true p488
                    replace q488 := eq_true q488
                    have p489 : 0 ≤ (x67_4 : Int) := of_decide_eq_true (by first | (with_reducible assumption) | assumption)
                    have q489 : x67_4 < (x5_2.length : Int) := of_decide_eq_true (by first | (with_reducible assumption) | assumption)
                    obtain ⟨ad489, A489_0, c489_0, e489, hx489_0, hl489_0, hi489_0⟩ := at_L2 (Kd.S_reads' HO_5.out).2.2 x67_4 p489 q489
                    obtain rfl : ad488 = ad489 := (by injection e489)
                    obtain ⟨ce489, hce489, hMe489, hcc489⟩ := Kd.S_get HO_5.out [] x67_4 p489 (by first | exact q489 | exact of_decide_eq_true (by first | (with_reducible assumption) | assumption) | (have e_ := (Kd.S_reads' HO_5.out).1; omega))
                    obtain ⟨ve489_0, rfl, ge489_0⟩ := hMe489
                    have hv489_0 := hcc489 0 _ rfl
                    rw [Nat.add_zero, show ((Kd.slice 3 (Kd.int .i64))).sz = 1 from rfl, Nat.mul_one] at hv489_0
                    replace hv489_0 := Option.some.inj (hv489_0.symm.trans hx489_0)
                    rw [hv489_0] at ge489_0
                    have HL489_0 := Aside0.mk (show Kd.R (Kd.int .i64) 3 _ _ _ _ (rd_L2 x5_2 x67_4) from ge489_0)
                    clear hv489_0 ge489_0
                    have HX489_0 := Aside0.mk hx489_0
                    clear hcc489 hce489
                    have HR489_0 := Aside0.mk hi489_0
                    have HC489_0 := Aside0.mk hl489_0
                    clear hi489_0 hl489_0
                    replace p489 := eq_true p489
                    replace q489 := eq_true q489
                    refine start_ (n := 19) (S := fun w' => w'.cell? (ad488.add (x62_3).toNat) = some (.slice A488_0 (rd_L2 x5_2 x62_3).length c488_0) ∧ w'.cell? (ad488.add (x67_4).toNat) = some (.slice A489_0 (rd_L2 x5_2 x67_4).length c489_0)) (ds := []) #[false, false, false, false, false, false, false, false, false, false, false, false, false, false, false, false, false, false, false] (by kernel_rfl) rfl rfl ⟨hx488_0, hx489_0⟩ (fun hHeld => ?_); refine with_tabW impl_IsSymplectic.tab21 impl_IsSymplectic.bits21 (fun HT_ HW_ => ?_)
                    generalize wr.drew = w48 at HO_5 HB HL488_0 HL489_0 HR488_0 HR489_0 HX488_0 HX489_0 hx488_0 hx489_0 hHeld ⊢
                    refine pure_ (i := 0) (N := some 70) (v := ?_) (a' := ?_) #[true, false, false, false, false, false, false, false, false, false, false, false, false, false, false, false, false, false, false] rfl rfl (any_of HT_.out (by kernel_rfl)) (fun _ _ _ h => h) (Or.inl ⟨by rfl, ?_⟩) ?_ ?_
                    rotate_left
                    ·intro w'
                     go_simp
                     with_reducible rfl
                    rotate_left
                    ·simp only [Act.put, List.setIfInBounds_toArray, List.set_cons_zero, List.set_cons_succ, i64_w, i32_w]
                     rfl
                    refine pure_ (i := 1) (N := some 71) (v := ?_) (a' := ?_) #[true, true, false, false, false, false, false, false, false, false, false, false, false, false, false, false, false, false, false] rfl rfl (any_of HT_.out (by kernel_rfl)) (fun _ _ _ h => h) (Or.inl ⟨by rfl, ?_⟩) ?_ ?_
                    rotate_left
                    ·intro w'
                     go_simp
                     with_reducible rfl
                    rotate_left
                    ·simp only [Act.put, List.setIfInBounds_toArray, List.set_cons_zero, List.set_cons_succ, i64_w, i32_w]
                     rfl
                    refine pure_ (i := 2) (N := some 72) (v := ?_) (a' := ?_) #[true, true, true, false, false, false, false, false, false, false, false, false, false, false, false, false, false, false, false] rfl rfl (any_of HT_.out (by kernel_rfl)) (fun _ _ _ h => h) (Or.inl ⟨by rfl, ?_⟩) ?_ ?_
                    rotate_left
                    ·intro w'
                     go_simp
                     with_reducible rfl
                    rotate_left
                    ·simp only [Act.put, List.setIfInBounds_toArray, List.set_cons_zero, List.set_cons_succ, i64_w, i32_w]
                     rfl
                    refine pure_ (i := 4) (N := some 74) (v := ?_) (a' := ?_) #[true, true, true, false, true, false, false, false, false, false, false, false, false, false, false, false, false, false, false] rfl rfl (any_of HT_.out (by kernel_rfl)) (fun _ _ _ h => h) (Or.inl ⟨by rfl, ?_⟩) ?_ ?_
                    rotate_left
                    ·intro w'
                     go_simp
                     with_reducible rfl
                    rotate_left
                    ·simp only [Act.put, List.setIfInBounds_toArray, List.set_cons_zero, List.set_cons_succ, i64_w, i32_w]
                     rfl
                    refine pure_ (i := 5) (N := some 75) (v := ?_) (a' := ?_) #[true, true, true, false, true, true, false, false, false, false, false, false, false, false, false, false, false, false, false] rfl rfl (any_of HT_.out (by kernel_rfl)) (fun _ _ _ h => h) (Or.inl ⟨by rfl, ?_⟩) ?_ ?_
                    rotate_left
                    ·intro w'
                     go_simp
                     with_reducible rfl
                    rotate_left
                    ·simp only [Act.put, List.setIfInBounds_toArray, List.set_cons_zero, List.set_cons_succ, i64_w, i32_w]
                     rfl
                    refine pure_ (i := 6) (N := some 76) (v := ?_) (a' := ?_) #[true, true, true, false, true, true, true, false, false, false, false, false, false, false, false, false, false, false, false] rfl rfl (any_of HT_.out (by kernel_rfl)) (fun _ _ _ h => h) (Or.inl ⟨by rfl, ?_⟩) ?_ ?_
                    rotate_left
                    ·intro w'
                     go_simp
                     with_reducible rfl
                    rotate_left
                    ·simp only [Act.put, List.setIfInBounds_toArray, List.set_cons_zero, List.set_cons_succ, i64_w, i32_w]
                     rfl
                    refine pure_ (i := 9) (N := some 79) (v := ?_) (a' := ?_) #[true, true, true, false, true, true, true, false, false, true, false, false, false, false, false, false, false, false, false] rfl rfl (any_of HT_.out (by kernel_rfl)) (fun _ _ _ h => h) (Or.inl ⟨by rfl, ?_⟩) ?_ ?_
                    rotate_left
                    ·intro w'
                     go_simp
                     with_reducible rfl
                    rotate_left
                    ·simp only [Act.put, List.setIfInBounds_toArray, List.set_cons_zero, List.set_cons_succ, i64_w, i32_w]
                     rfl
                    refine pure_ (i := 10) (N := some 80) (v := ?_) (a' := ?_) #[true, true, true, false, true, true, true, false, false, true, true, false, false, false, false, false, false, false, false] rfl rfl (any_of HT_.out (by kernel_rfl)) (fun _ _ _ h => h) (Or.inl ⟨by rfl, ?_⟩) ?_ ?_
                    rotate_left
                    ·intro w'
                     go_simp
                     with_reducible rfl
                    rotate_left
                    ·simp only [Act.put, List.setIfInBounds_toArray, List.set_cons_zero, List.set_cons_succ, i64_w, i32_w]
                     rfl
                    refine pure_ (i := 11) (N := some 81) (v := ?_) (a' := ?_) #[true, true, true, false, true, true, true, false, false, true, true, true, false, false, false, false, false, false, false] rfl rfl (any_of HT_.out (by kernel_rfl)) (fun _ _ _ h => h) (Or.inl ⟨by rfl, ?_⟩) ?_ ?_
                    rotate_left
                    ·intro w'
                     go_simp
                     with_reducible rfl
                    rotate_left
                    ·simp only [Act.put, List.setIfInBounds_toArray, List.set_cons_zero, List.set_cons_succ, i64_w, i32_w]
                     rfl
                    refine pure_ (i := 13) (N := some 83) (v := ?_) (a' := ?_) #[true, true, true, false, true, true, true, false, false, true, true, true, false, true, false, false, false, false, false] rfl rfl (any_of HT_.out (by kernel_rfl)) (fun _ _ _ h => h) (Or.inl ⟨by rfl, ?_⟩) ?_ ?_
                    rotate_left
                    ·intro w'
                     go_simp
                     with_reducible rfl
                    rotate_left
                    ·simp only [Act.put, List.setIfInBounds_toArray, List.set_cons_zero, List.set_cons_succ, i64_w, i32_w]
                     rfl
                    refine pure_ (i := 14) (N := some 84) (v := ?_) (a' := ?_) #[true, true, true, false, true, true, true, false, false, true, true, true, false, true, true, false, false, false, false] rfl rfl (any_of HT_.out (by kernel_rfl)) (fun _ _ _ h => h) (Or.inl ⟨by rfl, ?_⟩) ?_ ?_
                    rotate_left
                    ·intro w'
                     go_simp
                     with_reducible rfl
                    rotate_left
                    ·simp only [Act.put, List.setIfInBounds_toArray, List.set_cons_zero, List.set_cons_succ, i64_w, i32_w]
                     rfl
                    refine pure_ (i := 15) (N := some 85) (v := ?_) (a' := ?_) #[true, true, true, false, true, true, true, false, false, true, true, true, false, true, true, true, false, false, false] rfl rfl (any_of HT_.out (by kernel_rfl)) (fun _ _ _ h => h) (Or.inl ⟨by rfl, ?_⟩) ?_ ?_
                    rotate_left
                    ·intro w'
                     go_simp
                     with_reducible rfl
                    rotate_left
                    ·simp only [Act.put, List.setIfInBounds_toArray, List.set_cons_zero, List.set_cons_succ, i64_w, i32_w]
                     rfl
                    refine take_ (i := 3) (N := some 73) (v := ?_) (a' := ?_) #[true, true, true, true, true, true, true, false, false, true, true, true, false, true, true, true, false, false, false] rfl rfl (take_ofW HT_.out HW_.out (by kernel_rfl)) (fun _ _ _ h => h) (Or.inl ⟨by rfl, ?_⟩) hHeld ?_ ?_
                    rotate_left
                    ·rintro w' ⟨s0, s1⟩
                     go_simp
                     with_reducible rfl
                    rotate_left
                    ·simp only [Act.put, List.setIfInBounds_toArray, List.set_cons_zero, List.set_cons_succ, i64_w, i32_w]
                     rfl
                    refine take_ (i := 7) (N := some 77) (v := ?_) (a' := ?_) #[true, true, true, true, true, true, true, true, false, true, true, true, false, true, true, true, false, false, false] rfl rfl (take_ofW HT_.out HW_.out (by kernel_rfl)) (fun _ _ _ h => h) (Or.inl ⟨by rfl, ?_⟩) hHeld ?_ ?_
                    rotate_left
                    ·rintro w' ⟨s0, s1⟩
                     go_simp
                     with_reducible rfl
                    rotate_left
                    ·simp only [Act.put, List.setIfInBounds_toArray, List.set_cons_zero, List.set_cons_succ, i64_w, i32_w]
                     rfl
                    refine one_ (i := 8) (N := some 78) #[true, true, true, true, true, true, true, true, true, true, true, true, false, true, true, true, false, false, false] rfl rfl (one_of HT_.out (by kernel_rfl)) (by decide) (fun K hK => ?_)
                    refine goes_ Try.func169 (by kernel_rfl) rfl #[.slice A488_0 (rd_L2 x5_2 x62_3).length c488_0, .slice A489_0 (rd_L2 x5_2 x67_4).length c489_0] (by rfl) rfl rfl (by (try simp only [List.map_toArray, List.map_cons, List.map_nil]); first | done | rfl | (simp only [hji7]; done) | (simp only [hji7]; rfl)) ?_
                    with_reducible refine (impl_form.calls k4 _ _ (rd_L2 x5_2 x62_3) _ _ (rd_L2 x5_2 x67_4) t490 _ ?side1 ?side2 ?side3 ?side4 A38.out).mono ?_
                    (case side1 => repeat (first | exact (by repeat (first | (with_reducible exact HR488_0.out) | (with_reducible refine Kd.C_alloc ?_ _) | (with_reducible refine Kd.C_drewN ?_ _) | (with_reducible refine Kd.C_drew ?_) | exact HR488_0.out)) | (with_reducible refine Kd.C_alloc ?_ _) | (with_reducible refine Kd.C_drewN ?_ _) | (with_reducible refine Kd.C_drew ?_)))
                    (case side2 => exact HC488_0.out)
                    (case side3 => repeat (first | exact (by repeat (first | (with_reducible exact HR489_0.out) | (with_reducible refine Kd.C_alloc ?_ _) | (with_reducible refine Kd.C_drewN ?_ _) | (with_reducible refine Kd.C_drew ?_) | exact HR489_0.out)) | (with_reducible refine Kd.C_alloc ?_ _) | (with_reducible refine Kd.C_drewN ?_ _) | (with_reducible refine Kd.C_drew ?_)))
                    (case side4 => exact HC489_0.out)
                    rintro e w' ⟨rfl, ⟨nd, rfl⟩⟩
                    refine ⟨_, rfl, ?_⟩
                    refine hK.out _ _ ⟨hHeld.1, hHeld.2⟩ (fun hHeld => ?_)
                    clear hK K
                    refine norm_ (a' := ?_) ?_ ?_
                    rotate_left
                    ·show Act.put _ (some 78) _ = _
                     simp only [Act.put, List.setIfInBounds_toArray, List.set_cons_zero, List.set_cons_succ, i64_w, i32_w]
                     rfl
                    refine one_ (i := 12) (N := some 82) #[true, true, true, true, true, true, true, true, true, true, true, true, true, true, true, true, false, false, false] rfl rfl (one_of HT_.out (by kernel_rfl)) (by decide) (fun K hK => ?_)
                    refine goes_ Try.func173 (by kernel_rfl) rfl #[.int .i64 (wrap64 (2 * a0)), .int .i64 x62_3] (by rfl) rfl rfl (by (try simp only [List.map_toArray, List.map_cons, List.map_nil]); first | done | rfl | (simp only [hji7]; done) | (simp only [hji7]; rfl)) ?_
                    with_reducible refine (impl_unit.calls (wrap64 (2 * a0)) x62_3 t491 _ A39.out).mono ?_
                    rintro e w49 ⟨v492, rfl, ho0, hb⟩
                    have HS0_ := (hb.cell (World.block_lt_of_cell? _ _ (hHeld.1))).trans (hHeld.1)
                    have HS1_ := (hb.cell (World.block_lt_of_cell? _ _ (hHeld.2))).trans (hHeld.2)
                    refine ⟨_, rfl, ?_⟩
                    have n0_ := Aside0.mk (Kd.S_elder' (S_l HO_5.out) (Kd.R_base ho0) hb)
                    have n1_ := Aside0.mk (Kd.R_elder' (R_l HL488_0.out) (Kd.R_base ho0) hb)
                    have n2_ := Aside0.mk (Kd.R_elder' (R_l HL489_0.out) (Kd.R_base ho0) hb)
                    have n3_ := Aside0.mk (Kd.R_lower (Kd.R_new' (Kd.R_new' ho0 (Kd.R_lt (R_l HL488_0.out))) (Kd.R_lt (R_l HL489_0.out))) (below_size (B_l HB.out)))
                    have n4_ := Aside0.mk (Kd.C_below (by repeat (first | (with_reducible exact HR488_0.out) | (with_reducible refine Kd.C_alloc ?_ _) | (with_reducible refine Kd.C_drewN ?_ _) | (with_reducible refine Kd.C_drew ?_) | exact HR488_0.out)) hb)
                    have n5_ := Aside0.mk (pw_cell_below hb HX488_0.out)
                    have n6_ := Aside0.mk (Kd.C_below (by repeat (first | (with_reducible exact HR489_0.out) | (with_reducible refine Kd.C_alloc ?_ _) | (with_reducible refine Kd.C_drewN ?_ _) | (with_reducible refine Kd.C_drew ?_) | exact HR489_0.out)) hb)
                    have n7_ := Aside0.mk (pw_cell_below hb HX489_0.out)
                    have n8_ := Aside0.mk (below_step (B_l HB.out) hb)
                    clear HO_5
                    clear HL488_0
                    clear HL489_0
                    clear HR488_0
                    clear HX488_0
                    clear HR489_0
                    clear HX489_0
                    clear HB
                    have HO_5 := n0_
                    have HL488_0 := n1_
                    have HL489_0 := n2_
                    have HO493 := n3_
                    have HR488_0 := n4_
                    have HX488_0 := n5_
                    have HR489_0 := n6_
                    have HX489_0 := n7_
                    have HB := n8_
                    clear n0_ n1_ n2_ n3_ n4_ n5_ n6_ n7_ n8_
                    (try clear hb)
                    (try clear hb2)
                    (try clear hk)
                    (try clear hi)
                    (try clear ho0)
                    refine hK.out _ _ ⟨HS0_, HS1_⟩ (fun hHeld => ?_)
                    clear hK K
                    refine norm_ (a' := ?_) ?_ ?_
                    rotate_left
                    ·show Act.put _ (some 82) _ = _
                     simp only [Act.put, List.setIfInBounds_toArray, List.set_cons_zero, List.set_cons_succ, i64_w, i32_w]
                     rfl
                    refine one_ (i := 16) (N := some 86) #[true, true, true, true, true, true, true, true, true, true, true, true, true, true, true, true, true, false, false] rfl rfl (one_of HT_.out (by kernel_rfl)) (by decide) (fun K hK => ?_)
                    refine goes_ Try.func173 (by kernel_rfl) rfl #[.int .i64 (wrap64 (2 * a0)), .int .i64 x67_4] (by rfl) rfl rfl (by (try simp only [List.map_toArray, List.map_cons, List.map_nil]); first | done | rfl | (simp only [hji7]; done) | (simp only [hji7]; rfl)) ?_
                    with_reducible refine (impl_unit.calls (wrap64 (2 * a0)) x67_4 t494 _ A40.out).mono ?_
                    rintro e w50 ⟨v495, rfl, ho0, hb⟩
                    have HS0_ := (hb.cell (World.block_lt_of_cell? _ _ (hHeld.1))).trans (hHeld.1)
                    have HS1_ := (hb.cell (World.block_lt_of_cell? _ _ (hHeld.2))).trans (hHeld.2)
                    refine ⟨_, rfl, ?_⟩
                    have n0_ := Aside0.mk (Kd.S_elder' (S_l HO_5.out) (Kd.R_base ho0) hb)
                    have n1_ := Aside0.mk (Kd.R_elder' (R_l HL488_0.out) (Kd.R_base ho0) hb)
                    have n2_ := Aside0.mk (Kd.R_elder' (R_l HL489_0.out) (Kd.R_base ho0) hb)
                    have n3_ := Aside0.mk (Kd.R_elder' (R_l HO493.out) (Kd.R_base ho0) hb)
                    have n4_ := Aside0.mk (Kd.R_lower (Kd.R_new' (Kd.R_new' (Kd.R_new' ho0 (Kd.R_lt (R_l HL488_0.out))) (Kd.R_lt (R_l HL489_0.out))) (Kd.R_lt (R_l HO493.out))) (below_size (B_l HB.out)))
                    have n5_ := Aside0.mk (Kd.C_below (by repeat (first | (with_reducible exact HR488_0.out) | (with_reducible refine Kd.C_alloc ?_ _) | (with_reducible refine Kd.C_drewN ?_ _) | (with_reducible refine Kd.C_drew ?_) | exact HR488_0.out)) hb)
                    have n6_ := Aside0.mk (pw_cell_below hb HX488_0.out)
                    have n7_ := Aside0.mk (Kd.C_below (by repeat (first | (with_reducible exact HR489_0.out) | (with_reducible refine Kd.C_alloc ?_ _) | (with_reducible refine Kd.C_drewN ?_ _) | (with_reducible refine Kd.C_drew ?_) | exact HR489_0.out)) hb)
                    have n8_ := Aside0.mk (pw_cell_below hb HX489_0.out)
                    have n9_ := Aside0.mk (below_step (B_l HB.out) hb)
                    clear HO_5
                    clear HL488_0
                    clear HL489_0
                    clear HO493
                    clear HR488_0
                    clear HX488_0
                    clear HR489_0
                    clear HX489_0
                    clear HB
                    have HO_5 := n0_
                    have HL488_0 := n1_
                    have HL489_0 := n2_
                    have HO493 := n3_
                    have HO496 := n4_
                    have HR488_0 := n5_
                    have HX488_0 := n6_
                    have HR489_0 := n7_
                    have HX489_0 := n8_
                    have HB := n9_
                    clear n0_ n1_ n2_ n3_ n4_ n5_ n6_ n7_ n8_ n9_
                    (try clear hb)
                    (try clear hb2)
                    (try clear hk)
                    (try clear hi)
                    (try clear ho0)
                    obtain ⟨Ao51, co51, eo51⟩ := Kd.R_slice HO493.out
                    (first | subst eo51 | (injection eo51 with f1_ f2_ f3_; have f4_ := f1_.symm; have f5_ := f3_.symm; clear f1_ f2_ f3_; subst f4_; subst f5_))
                    obtain ⟨Ao52, co52, eo52⟩ := Kd.R_slice HO496.out
                    (first | subst eo52 | (injection eo52 with f1_ f2_ f3_; have f4_ := f1_.symm; have f5_ := f3_.symm; clear f1_ f2_ f3_; subst f4_; subst f5_))
                    refine hK.out _ _ ⟨HS0_, HS1_⟩ (fun hHeld => ?_)
                    clear hK K
                    refine norm_ (a' := ?_) ?_ ?_
                    rotate_left
                    ·show Act.put _ (some 86) _ = _
                     simp only [Act.put, List.setIfInBounds_toArray, List.set_cons_zero, List.set_cons_succ, i64_w, i32_w]
                     rfl
                    refine one_ (i := 17) (N := some 87) #[true, true, true, true, true, true, true, true, true, true, true, true, true, true, true, true, true, true, false] rfl rfl (one_of HT_.out (by kernel_rfl)) (by decide) (fun K hK => ?_)
                    refine goes_ Try.func169 (by kernel_rfl) rfl #[.slice Ao51 t491.length co51, .slice Ao52 t494.length co52] (by rfl) rfl rfl (by (try simp only [List.map_toArray, List.map_cons, List.map_nil]); first | done | rfl | (simp only [hji7]; done) | (simp only [hji7]; rfl)) ?_
                    with_reducible refine (impl_form.calls k4 _ _ t491 _ _ t494 t497 _ ?side1 ?side2 ?side3 ?side4 A41.out).mono ?_
                    (case side1 => exact C_l ((Kd.R_reads' HO493.out).2.2))
                    (case side2 => exact (Kd.R_reads' HO493.out).2.1)
                    (case side3 => exact C_l ((Kd.R_reads' HO496.out).2.2))
                    (case side4 => exact (Kd.R_reads' HO496.out).2.1)
                    rintro e w' ⟨rfl, ⟨nd, rfl⟩⟩
                    refine ⟨_, rfl, ?_⟩
                    refine hK.out _ _ ⟨hHeld.1, hHeld.2⟩ (fun hHeld => ?_)
                    clear hK K
                    refine norm_ (a' := ?_) ?_ ?_
                    rotate_left
                    ·show Act.put _ (some 87) _ = _
                     simp only [Act.put, List.setIfInBounds_toArray, List.set_cons_zero, List.set_cons_succ, i64_w, i32_w]
                     rfl
                    refine pure_ (i := 18) (N := some 88) (v := ?_) (a' := ?_) #[true, true, true, true, true, true, true, true, true, true, true, true, true, true, true, true, true, true, true] rfl rfl (any_of HT_.out (by kernel_rfl)) (fun _ _ _ h => h) (Or.inl ⟨by rfl, ?_⟩) ?_ ?_
                    rotate_left
                    ·intro w'
                     go_simp
                     with_reducible rfl
                    rotate_left
                    ·simp only [Act.put, List.setIfInBounds_toArray, List.set_cons_zero, List.set_cons_succ, i64_w, i32_w]
                     rfl
                    refine done_ (done_of HT_.out (by kernel_rfl)) ?_
                    try go_wp2
                    go_ret
                    exact ⟨by first | rfl | (simp [errW_none, errW_some] <;> rfl) | (simp only [← hji7]; first | rfl | (simp [errW_none, errW_some] <;> rfl)) | (simp [*, errW_none, errW_some] <;> rfl), B_l HB.out⟩
                  ·rw [if_neg c37] at H
                   exact absurd H (by simp)
                 ·rw [if_neg c36] at H
                  exact absurd H (by simp)
                ·rw [if_neg c35] at H
                 exact absurd H (by simp)
               ·rw [if_neg c34] at H
                exact absurd H (by simp)
              ·rw [if_neg c33] at H
               have c33b0 : decide (x67_4 < (x5_2.length : Int)) = false := decide_eq_false c33
               clear c33
               have H' := Aside0.mk H
               clear H
               go_wp2
               go_roundg k4
               case measure => have := HJ2.out; have := HK2.out; have := HK3.out; have := HK4.out; omega
               case rel => exact ⟨(wrap64 (x62_3 + 1)), (by first | rfl | (simp; done) | (simp [*]; done)), H', ⟨by have := HJ2.out; have := HK2.out; have := HK3.out; have := HK4.out; omega⟩, ⟨S_l HO_5.out⟩, ⟨B_l HB.out⟩⟩
           ·rw [if_neg c32] at H
            have c32b0 : decide (x62_3 < (x5_2.length : Int)) = false := decide_eq_false c32
            clear c32
            obtain rfl := Option.some.inj H
            go_wp2
            go_ret
            exact ⟨by first | rfl | (simp [errW_none, errW_some] <;> rfl) | (simp only [← hji7]; first | rfl | (simp [errW_none, errW_some] <;> rfl)) | (simp [*, errW_none, errW_some] <;> rfl), B_l HB.out⟩
     ·rw [if_neg c9] at H
      exact absurd H (by simp)
    ·rw [if_neg c8] at H
     exact absurd H (by simp)

end Go.Proofs.Ytimjefomgaaegaa.PFnTwists
