import Derived.Test.YtimjefomgaaegaaWLater
import Derived.Test.YtimjefomgaaegaaPFnTwistsx0
import Derived.Test.YtimjefomgaaegaaPFnTwistsx2
import Derived.Test.YtimjefomgaaegaaPFnTwistsx3
import Derived.Test.YtimjefomgaaegaaPFnTwistsx4
namespace Go.Proofs.Ytimjefomgaaegaa.PFnTwists
open Go.RowKit Go.Proofs.YtimjefomgaaegaaW.PrintWords Go.Proofs.YtimjefomgaaegaaW.PrintLast Go.Proofs.YtimjefomgaaegaaW.PrintMore
attribute [local go_sem] max2_int min2_int max_two min_two max_three min_three max_four min_four   -- for this text's walks alone
set_option linter.unusedVariables false
set_option linter.unusedSimpArgs false

/-! ### spec_TwistMatrix: function 78 -/
mutual
def spec_TwistMatrix.l0 : Nat → Int → List Int → List (List Int) → Int → Option ((List (List Int)) × Bool)
 | 0, _, _, _, _ => none
 | k + 1, x0, x1, x6, x7 => if x7 < (wrap64 (2 * x0)) then (if 0 ≤ (wrap64 (2 * x0)) then (if (wrap64 (2 * x0) : Int).toNat ≤ 35184372088832 then (if x6.length < 5864062014805 then (spec_TwistMatrix.l0 k x0 x1 (x6 ++ [(List.replicate (wrap64 (2 * x0) : Int).toNat 0)]) (wrap64 (x7 + 1))) else (none)) else (none)) else (none)) else (spec_TwistMatrix.l1 k x0 x1 x6 0)
def spec_TwistMatrix.l1 : Nat → Int → List Int → List (List Int) → Int → Option ((List (List Int)) × Bool)
 | 0, _, _, _, _ => none
 | k + 1, x0, x1, x6, x8 => if x8 < (wrap64 (2 * x0)) then ((spec_l11Unit.f (wrap64 (2 * x0)) x8).bind fun t302 => ((spec_TwistClass.f k x0 x1 t302 1).bind fun bt305 => (if bt305.2 = true then (spec_TwistMatrix.l2 k x0 x1 x6 x8 bt305.1 0) else (some ((([] : List (List Int))), false))))) else (some (x6, true))
def spec_TwistMatrix.l2 : Nat → Int → List Int → List (List Int) → Int → List Int → Int → Option ((List (List Int)) × Bool)
 | 0, _, _, _, _, _, _ => none
 | k + 1, x0, x1, x6, x8, x9, x11 => if x11 < (wrap64 (2 * x0)) then (if 0 ≤ x11 then (if x11 < (x6.length : Int) then (if x11 < (x9.length : Int) then (if 0 ≤ x8 then (if x8 < ((rd_L2 x6 x11).length : Int) then (spec_TwistMatrix.l2 k x0 x1 (x6.set (x11 : Int).toNat ((rd_L2 x6 x11).set (x8 : Int).toNat (rd x9 x11))) x8 x9 (wrap64 (x11 + 1))) else (none)) else (none)) else (none)) else (none)) else (none)) else (spec_TwistMatrix.l1 k x0 x1 x6 (wrap64 (x8 + 1)))
end
def spec_TwistMatrix.f (k : Nat) (a0 : Int) (l1 : List Int) : Option ((List (List Int)) × Bool) := (spec_IsClass.f k a0 l1).bind fun t289 => (if t289 = true then (spec_TwistMatrix.l0 k a0 l1 (([] : List (List Int))) 0) else (some ((([] : List (List Int))), false)))
def spec_TwistMatrix.T17 : Bool × List (List Nat × List Nat) := (true, [([], []), ([], []), ([0, 1], [0, 1]), ([2], [2]), ([], []), ([], []), ([], []), ([5, 6], [5, 6]), ([7], [7]), ([3, 4, 0, 1, 2, 3, 4, 5, 6, 7, 8], [3, 4]), ([9, 8, 0, 1, 2, 3, 4, 5, 6, 7, 8], [8, 9])])
def spec_TwistMatrix.B17 : List Nat := [0, 0, 3, 7, 0, 0, 0, 96, 224, 511, 1023]
theorem spec_TwistMatrix.tab17 : rtab .any (opsOf Try.f78 17) = spec_TwistMatrix.T17 := by kernel_rfl
theorem spec_TwistMatrix.bits17 : waitsOk spec_TwistMatrix.T17.2 spec_TwistMatrix.B17 = true := by kernel_rfl
set_option maxHeartbeats 8000000 in
set_option maxRecDepth 100000 in
theorem spec_TwistMatrix.calls (k : Nat) (a0 : Int) (A1 : Option Addr) (c1 : Nat) (l1 : List Int) (r1 : List (List Int)) (r2 : Bool) (w : World) (hr1 : Kd.C (Kd.int .i64) w A1 l1.length l1) (hc1 : l1.length ≤ c1) (h : spec_TwistMatrix.f k a0 l1 = some (r1, r2)) :
  Calls Try.prog 78 #[.int .i64 a0, .slice A1 l1.length c1] w fun e w' => ∃ v0_ : Value, e = .returned (.tuple #[v0_, .bool r2]) ∧ Kd.S (Kd.slice 3 (Kd.int .i64)) 35 w' w.heap.size (fun _ => True) v0_ r1 ∧ Below w.heap.size w w' := by
 have HR1 := Aside0.mk hr1
 have HC1 := Aside0.mk hc1
 clear hr1 hc1
 have HB := Aside0.mk (Below.refl w.heap.size w)
 have H : ((spec_IsClass.f k a0 l1).bind fun t289 => (if t289 = true then (spec_TwistMatrix.l0 k a0 l1 (([] : List (List Int))) 0) else (some ((([] : List (List Int))), false)))) = some (r1, r2) := h
 clear h
 replace H := Option.bind_eq_some_iff.mp H
 obtain ⟨t289, A30, H⟩ := H
 have A3 := Aside0.mk A30
 clear A30
 by_cases c4 : t289 = true
 ·subst c4
  rw [if_pos rfl] at H
  obtain ⟨y293, hy293⟩ : ∃ y_ : List (List Int), y_ = (([] : List (List Int))) := ⟨_, rfl⟩
  replace H : (spec_TwistMatrix.l0 k a0 l1 y293 0) = some (r1, r2) := by first | (rw [hy293]; with_reducible exact H) | (have H2_ := (Option.bind_some _ _).symm.trans H; rw [hy293]; with_reducible exact H2_) | (have H2_ := (Option.bind_some _ _).symm.trans H; with_reducible exact H2_) | with_reducible exact H | (rw [hy293]; exact H) | exact H
  have Ny293 := Aside0.mk hy293
  clear hy293
  have H' := Aside0.mk H
  clear H
  go_enter Try.func78, Try.ntmps78
  go_wp2_with (first | (refine gL 91 (some 14) Try.func91 #[.int .i64 a0, .slice A1 l1.length c1] ?_; (with_reducible refine (spec_IsClass.calls k a0 _ _ l1 true _ ?side1 ?side2 A3.out).mono ?_); (case side1 => exact C_l HR1.out); (case side2 => exact HC1.out); rintro e w' ⟨rfl, ⟨nd, rfl⟩⟩; refine ⟨_, rfl, ?_⟩) | ((with_reducible refine gate_dst (N := 17) rfl ?_); refine Kd.S_lit (Kd.slice 3 (Kd.int .i64)) _ 35 ?hg (N := 17) ?hd (xs := ([] : List (List Int))) (inner := []) (ok := fun _ => True) (okp := fun _ => True) ?hr ?hp (fun _ hk => hk) trivial (Below.refl _ _) (Nat.le_refl _) (by simp) ?_; (case hd => rfl); (case hg => rfl); (case hr => first | (go_simp; done) | (go_simp; rfl)); (case hp => exact (Reps.none _ _)); intro v294 w5 ho6 hb hg_ hnew_; clear hg_ hnew_; (first | rw [← Ny293.out] at ho6 | (simp only [Int.reduceToNat] at ho6; rw [← Ny293.out] at ho6)); have n0_ := Aside0.mk (Kd.S_lower ho6 (below_size (B_l HB.out))); have n1_ := Aside0.mk (below_step (B_l HB.out) hb); clear HB; have HO295 := n0_; have HB := n1_; clear n0_ n1_; clear hb ho6))
  go_loopg [6, 7] k (fun kq v6 v7 w' => ∃ (x6_1 : List (List Int)) (x7_1 : Int), v7 = .int .i64 x7_1 ∧ Aside0 (spec_TwistMatrix.l0 kq a0 l1 x6_1 x7_1 = some (r1, r2)) ∧ Aside0 (kq ≤ k) ∧ Aside0 (Kd.S (Kd.slice 3 (Kd.int .i64)) 35 w' w.heap.size (fun _ => True) v6 x6_1) ∧ Aside0 (Below w.heap.size w w'))
  case atStart => exact ⟨(y293), (0), (by first | rfl | (simp; done) | (simp [*]; done)), H', ⟨Nat.le_refl _⟩, ⟨S_l HO295.out⟩, ⟨B_l HB.out⟩⟩
  case round =>
   clear H'
   try clear c1
   try clear p2
   try clear c4
   obtain ⟨x6_1, x7_1, rfl, HA, HK1, HO_6, HB⟩ := hrel
   cases gk with
   | zero => exact absurd HA.out (by simp [spec_TwistMatrix.l0])
   | succ k1 =>
    have H := HA.out
    clear HA
    simp only [spec_TwistMatrix.l0] at H
    by_cases c7 : x7_1 < (wrap64 (2 * a0))
    ·rw [if_pos c7] at H
     have c7b0 : decide (x7_1 < (wrap64 (2 * a0))) = true := decide_eq_true c7
     clear c7
     obtain ⟨ji8, hji8⟩ : ∃ j_ : Int, (wrap64 (2 * a0)) = j_ := ⟨_, rfl⟩
     replace H : (if 0 ≤ (ji8) then (if (ji8 : Int).toNat ≤ 35184372088832 then (if x6_1.length < 5864062014805 then (spec_TwistMatrix.l0 k1 a0 l1 (x6_1 ++ [(List.replicate (ji8 : Int).toNat 0)]) (wrap64 (x7_1 + 1))) else (none)) else (none)) else (none)) = some (r1, r2) := by first | (rw [hji8] at H; exact H) | (simp only [hji8] at H ⊢; exact H)
     (try rw [hji8] at c7b0)
     have hji8w : (IntKind.i64.wrap (2 * a0)) = ji8 := (i64_w _).trans hji8
     by_cases c9 : 0 ≤ (ji8)
     ·rw [if_pos c9] at H
      have c9b0 := eq_true c9
      have c9b1 : decide (0 ≤ (ji8)) = true := decide_eq_true c9
      clear c9
      by_cases c10 : (ji8 : Int).toNat ≤ 35184372088832
      ·rw [if_pos c10] at H
       have c10b0 := eq_true c10
       have c10b1 : decide ((ji8 : Int).toNat ≤ 35184372088832) = true := decide_eq_true c10
       clear c10
       obtain ⟨y296, hy296⟩ : ∃ y_ : List Int, y_ = (List.replicate (ji8 : Int).toNat 0) := ⟨_, rfl⟩
       replace H : (if x6_1.length < 5864062014805 then (spec_TwistMatrix.l0 k1 a0 l1 (x6_1 ++ [y296]) (wrap64 (x7_1 + 1))) else (none)) = some (r1, r2) := by first | (rw [hy296]; with_reducible exact H) | (have H2_ := (Option.bind_some _ _).symm.trans H; rw [hy296]; with_reducible exact H2_) | (have H2_ := (Option.bind_some _ _).symm.trans H; with_reducible exact H2_) | with_reducible exact H | (rw [hy296]; exact H) | exact H
       have Ny296 := Aside0.mk hy296
       clear hy296
       by_cases c11 : x6_1.length < 5864062014805
       ·rw [if_pos c11] at H
        have LMc11 := Aside0.mk c11
        clear c11
        obtain ⟨y299, hy299⟩ : ∃ y_ : List (List Int), y_ = (x6_1 ++ [y296]) := ⟨_, rfl⟩
        replace H : (spec_TwistMatrix.l0 k1 a0 l1 y299 (wrap64 (x7_1 + 1))) = some (r1, r2) := by first | (rw [hy299]; with_reducible exact H) | (have H2_ := (Option.bind_some _ _).symm.trans H; rw [hy299]; with_reducible exact H2_) | (have H2_ := (Option.bind_some _ _).symm.trans H; with_reducible exact H2_) | with_reducible exact H | (rw [hy299]; exact H) | exact H
        have Ny299 := Aside0.mk hy299
        clear hy299
        have H' := Aside0.mk H
        clear H
        go_wp2_with (first | ((with_reducible refine gate_dst (N := 27) rfl ?_); refine Kd.R_make (Kd.int .i64) _ 3 rfl (N := 27) rfl 35 _ _ rfl ji8 rfl rfl Try.underlying35 (.int .i64 0) 8 info3 rfl (by decide) (by omega) 0 (ok := fun _ => True) (okp := fun _ => True) rfl (fun _ hk => hk) trivial (of_decide_eq_true (by first | (with_reducible assumption) | assumption)) (Nat.le_trans (Nat.mul_le_mul_right _ (of_decide_eq_true (by first | (with_reducible assumption) | assumption) : ji8.toNat ≤ 35184372088832)) (by omega)) (Below.refl _ _) (Nat.le_refl _) ?_; intro v297 w12 ho13 hb hg_ hnew_; clear hg_ hnew_; (first | rw [← Ny296.out] at ho13 | (simp only [Int.reduceToNat] at ho13; rw [← Ny296.out] at ho13)); have n0_ := Aside0.mk (Kd.S_elder' (S_l HO_6.out) (Kd.R_base ho13) hb); have n1_ := Aside0.mk (Kd.R_lower ho13 (below_size (B_l HB.out))); have n2_ := Aside0.mk (below_step (B_l HB.out) hb); clear HO_6; clear HB; have HO_6 := n0_; have HO298 := n1_; have HB := n2_; clear n0_ n1_ n2_; clear hb ho13; obtain ⟨Ao15, co15, eo15⟩ := Kd.R_slice HO298.out; subst eo15) | ((with_reducible refine gate_builtin (b := .append) (xs := #[.tmp 24, .tmp 28]) rfl ?_); at_builtin; refine Kd.S_append (Kd.slice 3 (Kd.int .i64)) (w0 := w) w.heap.size rfl (.tmp 24) (.tmp 28) 24 35 (.slice none 0 0) 24 rfl Try.underlying24 info35 rfl (by decide) (by omega) u6 x6_1 y296 [.slice Ao15 y296.length co15] (fun _ => True) (fun k_ => some k_ = (.slice Ao15 y296.length co15 : Value).ownBlock) rfl rfl ?aP (fun k_ hk_ => ((Kd.R_mono (ok' := fun k_ => ((fun _ => True)) k_ ∧ some k_ ≠ (u6 : Value).ownBlock) (Kd.R_apart' (HO298.out) (Kd.S_typed HO_6.out) (by decide)) (fun k_ hk => ⟨trivial, hk.2⟩))).1 k_ hk_.symm) ?aF ?aO ?aB ?aS ?aL ?_; (case aP => exact Kd.M_row (Kd.R_mono (Kd.R_tight rfl (Kd.R_mono (ok' := fun k_ => ((fun _ => True)) k_ ∧ some k_ ≠ (u6 : Value).ownBlock) (Kd.R_apart' (HO298.out) (Kd.S_typed HO_6.out) (by decide)) (fun k_ hk => ⟨trivial, hk.2⟩))) (fun _ h_ => h_))); (case aB => exact (B_l HB.out)); (case aF => exact (fun _ _ => trivial)); (case aO => exact (S_l (Kd.S_mono HO_6.out (fun k_ hk => ⟨trivial, fun e_ => hk.2 e_⟩)))); (case aS => exact (below_size (B_l HB.out))); (case aL => have := LMc11.out; omega); intro v300 w14 ho hb hg hat; rw [← Ny299.out] at ho; have n0_ := Aside0.mk (hb); have n1_ := Aside0.mk (ho); clear HB; clear HO_6; clear HO298; have HB := n0_; have HO301 := n1_; clear n0_ n1_; clear ho hb hg hat))
        go_roundg k1
        case measure => have := HK1.out; omega
        case rel => exact ⟨(y299), (wrap64 (x7_1 + 1)), (by first | rfl | (simp; done) | (simp [*]; done)), H', ⟨by have := HK1.out; omega⟩, ⟨S_l HO301.out⟩, ⟨B_l HB.out⟩⟩
       ·rw [if_neg c11] at H
        exact absurd H (by simp)
      ·rw [if_neg c10] at H
       exact absurd H (by simp)
     ·rw [if_neg c9] at H
      exact absurd H (by simp)
    ·rw [if_neg c7] at H
     have c7b0 : decide (x7_1 < (wrap64 (2 * a0))) = false := decide_eq_false c7
     clear c7
     have H' := Aside0.mk H
     clear H
     go_wp2
     go_loopg [8] k1 (fun kq v8 w' => ∃ (x6_2 : List (List Int)) (x8_2 : Int), v8 = .int .i64 x8_2 ∧ Aside0 (spec_TwistMatrix.l1 kq a0 l1 x6_2 x8_2 = some (r1, r2)) ∧ Aside0 (kq ≤ k1) ∧ Aside0 (Kd.S (Kd.slice 3 (Kd.int .i64)) 35 w' w.heap.size (fun _ => True) u6 x6_2) ∧ Aside0 (Below w.heap.size w w'))
     case atStart => exact ⟨(x6_1), (0), (by first | rfl | (simp; done) | (simp [*]; done)), H', ⟨Nat.le_refl _⟩, ⟨S_l HO_6.out⟩, ⟨B_l HB.out⟩⟩
     case round =>
      clear H'
      try clear c1
      try clear p2
      try clear c4
      try clear p6
      try clear c7
      try clear c7b0
      try clear c9
      try clear c9b0
      try clear c9b1
      try clear c10
      try clear c10b0
      try clear c10b1
      try clear c11
      try clear p2
      obtain ⟨x6_2, x8_2, rfl, HA, HK2, HO_6, HB⟩ := hrel
      cases gk with
      | zero => exact absurd HA.out (by simp [spec_TwistMatrix.l1])
      | succ k2 =>
       have H := HA.out
       clear HA
       simp only [spec_TwistMatrix.l1] at H
       by_cases c16 : x8_2 < (wrap64 (2 * a0))
       ·rw [if_pos c16] at H
        have c16b0 : decide (x8_2 < (wrap64 (2 * a0))) = true := decide_eq_true c16
        clear c16
        replace H := Option.bind_eq_some_iff.mp H
        obtain ⟨t302, A170, H⟩ := H
        have A17 := Aside0.mk A170
        clear A170
        replace H := Option.bind_eq_some_iff.mp H
        obtain ⟨⟨t305, t306⟩, A180, H⟩ := H
        replace H : (if t306 = true then (spec_TwistMatrix.l2 k2 a0 l1 x6_2 x8_2 t305 0) else (some ((([] : List (List Int))), false))) = some (r1, r2) := H
        have A18 := Aside0.mk A180
        clear A180
        by_cases c19 : t306 = true
        ·subst c19
         rw [if_pos rfl] at H
         have H' := Aside0.mk H
         clear H
         go_wp2_with (first | (refine gL 174 (some 42) Try.func174 #[.int .i64 (wrap64 (2 * a0)), .int .i64 x8_2] ?_; (with_reducible refine (spec_l11Unit.calls (wrap64 (2 * a0)) x8_2 t302 _ A17.out).mono ?_); rintro e w20 ⟨v303, rfl, ho0, hb⟩; refine ⟨_, rfl, ?_⟩; have n0_ := Aside0.mk (Kd.S_elder' (S_l HO_6.out) (Kd.R_base ho0) hb); have n1_ := Aside0.mk (Kd.R_lower ho0 (below_size (B_l HB.out))); have n2_ := Aside0.mk (below_step (B_l HB.out) hb); clear HO_6; clear HB; have HO_6 := n0_; have HO304 := n1_; have HB := n2_; clear n0_ n1_ n2_; obtain ⟨Ao21, co21, eo21⟩ := Kd.R_slice HO304.out; subst eo21) | (refine gL 76 (some 43) Try.func76 #[.int .i64 a0, .slice A1 l1.length c1, .slice Ao21 t302.length co21, .int .i64 1] ?_; (with_reducible refine (spec_TwistClass.calls k2 a0 _ _ l1 _ _ t302 1 t305 true _ ?side1 ?side2 ?side3 ?side4 A18.out).mono ?_); (case side1 => exact C_l (Kd.C_below HR1.out HB.out)); (case side2 => exact HC1.out); (case side3 => exact C_l ((Kd.R_reads' HO304.out).2.2)); (case side4 => exact (Kd.R_reads' HO304.out).2.1); rintro e w22 ⟨v307, rfl, ho0, hb⟩; refine ⟨_, rfl, ?_⟩; have n0_ := Aside0.mk (Kd.S_elder' (S_l HO_6.out) (Kd.R_base ho0) hb); have n1_ := Aside0.mk (Kd.R_elder' (R_l HO304.out) (Kd.R_base ho0) hb); have n2_ := Aside0.mk (Kd.R_lower (Kd.R_new' ho0 (Kd.R_lt (R_l HO304.out))) (below_size (B_l HB.out))); have n3_ := Aside0.mk (below_step (B_l HB.out) hb); clear HO_6; clear HO304; clear HB; have HO_6 := n0_; have HO304 := n1_; have HO308 := n2_; have HB := n3_; clear n0_ n1_ n2_ n3_))
         go_loopg [11] k2 (fun kq v11 w' => ∃ (x6_3 : List (List Int)) (x9_3 : List Int) (x11_3 : Int), v11 = .int .i64 x11_3 ∧ Aside0 (spec_TwistMatrix.l2 kq a0 l1 x6_3 x8_2 x9_3 x11_3 = some (r1, r2)) ∧ Aside0 (kq ≤ k2) ∧ Aside0 (Kd.S (Kd.slice 3 (Kd.int .i64)) 35 w' w.heap.size (fun k_ => some k_ ≠ (v307 : Value).ownBlock) u6 x6_3) ∧ Aside0 (Kd.R (Kd.int .i64) 3 w' w.heap.size (fun _ => True) v307 x9_3) ∧ Aside0 (Below w.heap.size w w'))
         case atStart => exact ⟨(x6_2), (t305), (0), (by first | rfl | (simp; done) | (simp [*]; done)), H', ⟨Nat.le_refl _⟩, ⟨S_l (Kd.S_mono HO_6.out (fun _ hk => hk.2))⟩, ⟨R_l (Kd.R_mono HO308.out (fun _ hk => trivial))⟩, ⟨B_l HB.out⟩⟩
         case round =>
          clear H'
          try clear c1
          try clear p2
          try clear c4
          try clear p6
          try clear c7
          try clear c7b0
          try clear c9
          try clear c9b0
          try clear c9b1
          try clear c10
          try clear c10b0
          try clear c10b1
          try clear c11
          try clear c16
          try clear c16b0
          try clear c17
          try clear c19
          try clear p2
          try clear p6
          obtain ⟨x6_3, x9_3, x11_3, rfl, HA, HK3, HO_6, HO_9, HB⟩ := hrel
          cases gk with
          | zero => exact absurd HA.out (by simp [spec_TwistMatrix.l2])
          | succ k3 =>
           have H := HA.out
           clear HA
           simp only [spec_TwistMatrix.l2] at H
           by_cases c23 : x11_3 < (wrap64 (2 * a0))
           ·rw [if_pos c23] at H
            have c23b0 : decide (x11_3 < (wrap64 (2 * a0))) = true := decide_eq_true c23
            clear c23
            by_cases c24 : 0 ≤ x11_3
            ·rw [if_pos c24] at H
             have c24b0 : decide (0 ≤ x11_3) = true := decide_eq_true c24
             clear c24
             by_cases c25 : x11_3 < (x6_3.length : Int)
             ·rw [if_pos c25] at H
              have c25b0 : decide (x11_3 < (x6_3.length : Int)) = true := decide_eq_true c25
              clear c25
              by_cases c26 : x11_3 < (x9_3.length : Int)
              ·rw [if_pos c26] at H
               have c26b0 : decide (x11_3 < (x9_3.length : Int)) = true := decide_eq_true c26
               clear c26
               by_cases c27 : 0 ≤ x8_2
               ·rw [if_pos c27] at H
                have c27b0 : decide (0 ≤ x8_2) = true := decide_eq_true c27
                clear c27
                by_cases c28 : x8_2 < ((rd_L2 x6_3 x11_3).length : Int)
                ·rw [if_pos c28] at H
                 have c28b0 : decide (x8_2 < ((rd_L2 x6_3 x11_3).length : Int)) = true := decide_eq_true c28
                 clear c28
                 obtain ⟨y314, hy314⟩ : ∃ y_ : List Int, y_ = ((rd_L2 x6_3 x11_3).set (x8_2 : Int).toNat (rd x9_3 x11_3)) := ⟨_, rfl⟩
                 replace H : (spec_TwistMatrix.l2 k3 a0 l1 (x6_3.set (x11_3 : Int).toNat y314) x8_2 x9_3 (wrap64 (x11_3 + 1))) = some (r1, r2) := by first | (rw [hy314]; with_reducible exact H) | (have H2_ := (Option.bind_some _ _).symm.trans H; rw [hy314]; with_reducible exact H2_) | (have H2_ := (Option.bind_some _ _).symm.trans H; with_reducible exact H2_) | with_reducible exact H | (rw [hy314]; exact H) | exact H
                 have Ny314 := Aside0.mk hy314
                 clear hy314
                 obtain ⟨y316, hy316⟩ : ∃ y_ : List (List Int), y_ = (x6_3.set (x11_3 : Int).toNat y314) := ⟨_, rfl⟩
                 replace H : (spec_TwistMatrix.l2 k3 a0 l1 y316 x8_2 x9_3 (wrap64 (x11_3 + 1))) = some (r1, r2) := by first | (rw [hy316]; with_reducible exact H) | (have H2_ := (Option.bind_some _ _).symm.trans H; rw [hy316]; with_reducible exact H2_) | (have H2_ := (Option.bind_some _ _).symm.trans H; with_reducible exact H2_) | with_reducible exact H | (rw [hy316]; exact H) | exact H
                 have Ny316 := Aside0.mk hy316
                 clear hy316
                 have H' := Aside0.mk H
                 clear H
                 try go_wp2
                 have n0_ := Aside0.mk (Kd.S_drew HO_6.out)
                 have n1_ := Aside0.mk (Kd.R_drew HO_9.out)
                 have n2_ := Aside0.mk (below_drew1 HB.out)
                 clear HO_6
                 clear HO_9
                 clear HB
                 have HO_6 := n0_
                 have HO_9 := n1_
                 have HB := n2_
                 clear n0_ n1_ n2_
                 obtain ⟨Ao31, co31, eo31⟩ := Kd.S_slice HO_6.out
                 (first | subst eo31 | (injection eo31 with f1_ f2_ f3_; have f4_ := f1_.symm; have f5_ := f3_.symm; clear f1_ f2_ f3_; subst f4_; subst f5_))
                 have p312 : 0 ≤ (x11_3 : Int) := of_decide_eq_true (by first | (with_reducible assumption) | assumption)
                 have q312 : x11_3 < (x6_3.length : Int) := of_decide_eq_true (by first | (with_reducible assumption) | assumption)
                 obtain ⟨ad312, A312_0, c312_0, e312, hx312_0, hl312_0, hi312_0⟩ := at_L2 (Kd.S_reads' HO_6.out).2.2 x11_3 p312 q312
                 cases e312
                 obtain ⟨ce312, hce312, hMe312, hcc312⟩ := Kd.S_get HO_6.out [] x11_3 p312 (by first | exact q312 | exact of_decide_eq_true (by first | (with_reducible assumption) | assumption) | (have e_ := (Kd.S_reads' HO_6.out).1; omega))
                 obtain ⟨ve312_0, rfl, ge312_0⟩ := hMe312
                 have hv312_0 := hcc312 0 _ rfl
                 rw [Nat.add_zero, show ((Kd.slice 3 (Kd.int .i64))).sz = 1 from rfl, Nat.mul_one] at hv312_0
                 replace hv312_0 := Option.some.inj (hv312_0.symm.trans hx312_0)
                 rw [hv312_0] at ge312_0
                 have HL312_0 := Aside0.mk (show Kd.R (Kd.int .i64) 3 _ _ _ _ (rd_L2 x6_3 x11_3) from ge312_0)
                 clear hv312_0 ge312_0
                 have HX312_0 := Aside0.mk hx312_0
                 clear hcc312 hce312
                 have HR312_0 := Aside0.mk hi312_0
                 have HC312_0 := Aside0.mk hl312_0
                 clear hi312_0 hl312_0
                 replace p312 := eq_true p312
                 replace q312 := eq_true q312
                 obtain ⟨Ao32, co32, eo32⟩ := Kd.R_slice HO_9.out
                 (first | subst eo32 | (injection eo32 with f1_ f2_ f3_; have f4_ := f1_.symm; have f5_ := f3_.symm; clear f1_ f2_ f3_; subst f4_; subst f5_))
                 have p313 : 0 ≤ (x11_3 : Int) := of_decide_eq_true (by first | (with_reducible assumption) | assumption)
                 have q313 : x11_3 < (x9_3.length : Int) := of_decide_eq_true (by first | (with_reducible assumption) | assumption)
                 obtain ⟨ad313, e313, hx313_0⟩ := Kd.at_int (Kd.R_reads' HO_9.out).2.2 x11_3 p313 q313
                 cases e313
                 replace p313 := eq_true p313
                 replace q313 := eq_true q313
                 have p29 : 0 ≤ (x8_2 : Int) := of_decide_eq_true (by first | (with_reducible assumption) | assumption)
                 have q29 : (x8_2 : Int) < (((rd_L2 x6_3 x11_3).length : Int) : Int) := of_decide_eq_true (by first | (with_reducible assumption) | assumption)
                 obtain ⟨go29, co29, eo29, gb29, gl29, cl29, HG29⟩ := Kd.R_form HL312_0.out (by omega)
                 (first | cases eo29 | (injection eo29 with ea_ en_ ec_; (first | subst ea_ | (injection ea_ with ea_; subst ea_)); subst ec_; clear en_))
                 have GB29 := Aside0.mk gb29
                 have GG29 := Aside0.mk HG29
                 clear gb29 gl29 HG29
                 obtain ⟨hx29_0, hf29_0⟩ := Kd.R_celln 0 HL312_0.out (x8_2 : Int) p29 q29
                 replace p29 := eq_true p29
                 replace q29 := eq_true q29
                 have hq33 : (x11_3 : Int) < (x6_3.length : Int) := (by have h_ : (x11_3 : Int) < ((x6_3.length : Int) : Int) := of_decide_eq_true (by first | (with_reducible assumption) | assumption); first | exact h_ | (have e_ := (Kd.S_reads' HO_6.out).1; omega) | simpa only [List.length_set, List.length_set] using h_)
                 obtain ⟨oki33, ce33, hcl33, hM33, hcc33, hok33, hbk33⟩ := Kd.S_borrow HO_6.out [] (x11_3 : Int) (of_decide_eq_true (by first | (with_reducible assumption) | assumption)) hq33
                 obtain ⟨ve33_0, rfl, ge33_0⟩ := hM33
                 have hv33 := hcc33 0 _ rfl
                 rw [Nat.add_zero, show ((Kd.slice 3 (Kd.int .i64))).sz = 1 from rfl, Nat.mul_one] at hv33
                 replace hv33 := Option.some.inj (hv33.symm.trans HX312_0.out)
                 subst hv33
                 clear hcc33 hcl33
                 replace ge33_0 := (show Kd.R (Kd.int .i64) 3 _ _ _ _ (rd_L2 x6_3 x11_3) from ge33_0)
                 have HP33 := Kd.R_putg ge33_0 (x8_2 : Int) (rd x9_3 x11_3)
                 rw [← Ny314.out] at HP33
                 have HS33 := hbk33 HP33.2 (fun k_ e_ => by injection e_ with e_; subst e_; exact ge33_0.1 _ rfl) (x' := y314) (Kd.M_row HP33.1)
                 rw [← Ny316.out] at HS33
                 have HQ33 := Aside0.mk HS33
                 clear HP33 HS33 hbk33 hok33
                 refine start_ (n := 11) (S := fun w' => w'.cell? (ad312.add (x11_3).toNat) = some (.slice (some ⟨go29, 0, none⟩) (rd_L2 x6_3 x11_3).length c312_0) ∧ w'.cell? (ad313.add (x11_3).toNat) = some (.int .i64 (rd x9_3 x11_3))) (ds := [10]) #[false, false, false, false, false, false, false, false, false, false, false] (by kernel_rfl) rfl rfl ⟨hx312_0, hx313_0⟩ (fun hHeld => ?_); refine with_tabW spec_TwistMatrix.tab17 spec_TwistMatrix.bits17 (fun HT_ HW_ => ?_)
                 generalize wr.drew = w30 at HO_6 HO_9 HB GG29 HL312_0 HQ33 HR312_0 HX312_0 hf29_0 hx29_0 hx312_0 hx313_0 hHeld ⊢
                 refine pure_ (i := 0) (N := some 55) (v := ?_) (a' := ?_) #[true, false, false, false, false, false, false, false, false, false, false] rfl rfl (any_of HT_.out (by kernel_rfl)) (fun _ _ _ h => h) (Or.inl ⟨by rfl, ?_⟩) ?_ ?_
                 rotate_left
                 ·intro w'
                  go_simp
                  with_reducible rfl
                 rotate_left
                 ·simp only [Act.put, List.setIfInBounds_toArray, List.set_cons_zero, List.set_cons_succ, i64_w, i32_w]
                  rfl
                 refine pure_ (i := 1) (N := some 56) (v := ?_) (a' := ?_) #[true, true, false, false, false, false, false, false, false, false, false] rfl rfl (any_of HT_.out (by kernel_rfl)) (fun _ _ _ h => h) (Or.inl ⟨by rfl, ?_⟩) ?_ ?_
                 rotate_left
                 ·intro w'
                  go_simp
                  with_reducible rfl
                 rotate_left
                 ·simp only [Act.put, List.setIfInBounds_toArray, List.set_cons_zero, List.set_cons_succ, i64_w, i32_w]
                  rfl
                 refine pure_ (i := 2) (N := some 57) (v := ?_) (a' := ?_) #[true, true, true, false, false, false, false, false, false, false, false] rfl rfl (any_of HT_.out (by kernel_rfl)) (fun _ _ _ h => h) (Or.inl ⟨by rfl, ?_⟩) ?_ ?_
                 rotate_left
                 ·intro w'
                  go_simp
                  with_reducible rfl
                 rotate_left
                 ·simp only [Act.put, List.setIfInBounds_toArray, List.set_cons_zero, List.set_cons_succ, i64_w, i32_w]
                  rfl
                 refine pure_ (i := 4) (N := some 59) (v := ?_) (a' := ?_) #[true, true, true, false, true, false, false, false, false, false, false] rfl rfl (any_of HT_.out (by kernel_rfl)) (fun _ _ _ h => h) (Or.inl ⟨by rfl, ?_⟩) ?_ ?_
                 rotate_left
                 ·intro w'
                  go_simp
                  with_reducible rfl
                 rotate_left
                 ·simp only [Act.put, List.setIfInBounds_toArray, List.set_cons_zero, List.set_cons_succ, i64_w, i32_w]
                  rfl
                 refine pure_ (i := 5) (N := some 60) (v := ?_) (a' := ?_) #[true, true, true, false, true, true, false, false, false, false, false] rfl rfl (any_of HT_.out (by kernel_rfl)) (fun _ _ _ h => h) (Or.inl ⟨by rfl, ?_⟩) ?_ ?_
                 rotate_left
                 ·intro w'
                  go_simp
                  with_reducible rfl
                 rotate_left
                 ·simp only [Act.put, List.setIfInBounds_toArray, List.set_cons_zero, List.set_cons_succ, i64_w, i32_w]
                  rfl
                 refine pure_ (i := 6) (N := some 61) (v := ?_) (a' := ?_) #[true, true, true, false, true, true, true, false, false, false, false] rfl rfl (any_of HT_.out (by kernel_rfl)) (fun _ _ _ h => h) (Or.inl ⟨by rfl, ?_⟩) ?_ ?_
                 rotate_left
                 ·intro w'
                  go_simp
                  with_reducible rfl
                 rotate_left
                 ·simp only [Act.put, List.setIfInBounds_toArray, List.set_cons_zero, List.set_cons_succ, i64_w, i32_w]
                  rfl
                 refine pure_ (i := 7) (N := some 62) (v := ?_) (a' := ?_) #[true, true, true, false, true, true, true, true, false, false, false] rfl rfl (any_of HT_.out (by kernel_rfl)) (fun _ _ _ h => h) (Or.inl ⟨by rfl, ?_⟩) ?_ ?_
                 rotate_left
                 ·intro w'
                  go_simp
                  with_reducible rfl
                 rotate_left
                 ·simp only [Act.put, List.setIfInBounds_toArray, List.set_cons_zero, List.set_cons_succ, i64_w, i32_w]
                  rfl
                 refine take_ (i := 3) (N := some 58) (v := ?_) (a' := ?_) #[true, true, true, true, true, true, true, true, false, false, false] rfl rfl (take_ofW HT_.out HW_.out (by kernel_rfl)) (fun _ _ _ h => h) (Or.inl ⟨by rfl, ?_⟩) hHeld ?_ ?_
                 rotate_left
                 ·rintro w' ⟨s0, s1⟩
                  go_simp
                  with_reducible rfl
                 rotate_left
                 ·simp only [Act.put, List.setIfInBounds_toArray, List.set_cons_zero, List.set_cons_succ, i64_w, i32_w]
                  rfl
                 refine take_ (i := 8) (N := some 63) (v := ?_) (a' := ?_) #[true, true, true, true, true, true, true, true, true, false, false] rfl rfl (take_ofW HT_.out HW_.out (by kernel_rfl)) (fun _ _ _ h => h) (Or.inl ⟨by rfl, ?_⟩) hHeld ?_ ?_
                 rotate_left
                 ·rintro w' ⟨s0, s1⟩
                  go_simp
                  with_reducible rfl
                 rotate_left
                 ·simp only [Act.put, List.setIfInBounds_toArray, List.set_cons_zero, List.set_cons_succ, i64_w, i32_w]
                  rfl
                 refine pure_ (i := 9) (N := some 64) (v := ?_) (a' := ?_) #[true, true, true, true, true, true, true, true, true, true, false] rfl rfl (any_of HT_.out (by kernel_rfl)) (fun _ _ _ h => h) (Or.inl ⟨by rfl, ?_⟩) ?_ ?_
                 rotate_left
                 ·intro w'
                  go_simp
                  with_reducible rfl
                 rotate_left
                 ·simp only [Act.put, List.setIfInBounds_toArray, List.set_cons_zero, List.set_cons_succ, i64_w, i32_w]
                  rfl
                 refine last_ (i := 10) (N := none) #[true, true, true, true, true, true, true, true, true, true, true] rfl rfl (one_of HT_.out (by kernel_rfl)) (by decide) (fun K hK => ?_)
                 refine skip_ (w1 := ?_) (by rfl) rfl ?_ ?_
                 rotate_left
                 ·go_simp
                  rfl
                 refine hK.out _ _ ?_
                 clear hK K
                 refine done_ (done_of HT_.out (by kernel_rfl)) ?_
                 try go_wp2
                 go_roundg k3
                 case measure => have := HK1.out; have := HK2.out; have := HK3.out; omega
                 case rel => exact ⟨(y316), (x9_3), (wrap64 (x11_3 + 1)), (by first | rfl | (simp; done) | (simp [*]; done)), H', ⟨by have := HK1.out; have := HK2.out; have := HK3.out; omega⟩, ⟨S_l HQ33.out⟩, ⟨R_l (Kd.R_mono (Kd.R_far (p := ⟨go29, (x8_2 : Int).toNat, none⟩) (Kd.R_far1 HO_9.out rfl ((HL312_0.out.1 _ rfl).1)) (fun _ hk => hk.2) (.int .i64 (rd x9_3 x11_3))) (fun _ hk => trivial))⟩, ⟨by repeat (first | (with_reducible first | exact HB.out | apply below_alloc | apply pw_below_drewN | apply below_drew1 | refine below_set ?_ GB29.out) | exact HB.out)⟩⟩
                ·rw [if_neg c28] at H
                 exact absurd H (by simp)
               ·rw [if_neg c27] at H
                exact absurd H (by simp)
              ·rw [if_neg c26] at H
               exact absurd H (by simp)
             ·rw [if_neg c25] at H
              exact absurd H (by simp)
            ·rw [if_neg c24] at H
             exact absurd H (by simp)
           ·rw [if_neg c23] at H
            have c23b0 : decide (x11_3 < (wrap64 (2 * a0))) = false := decide_eq_false c23
            clear c23
            have H' := Aside0.mk H
            clear H
            go_wp2
            go_roundg k3
            case measure => have := HK1.out; have := HK2.out; have := HK3.out; omega
            case rel => exact ⟨(x6_3), (wrap64 (x8_2 + 1)), (by first | rfl | (simp; done) | (simp [*]; done)), H', ⟨by have := HK1.out; have := HK2.out; have := HK3.out; omega⟩, ⟨S_l (Kd.S_mono HO_6.out (fun _ hk => trivial))⟩, ⟨B_l HB.out⟩⟩
        ·replace c19 := Bool.eq_false_iff.mpr c19
         subst c19
         rw [if_neg (show ¬ (false = true) by decide)] at H
         obtain ⟨y309, hy309⟩ : ∃ y_ : List (List Int), y_ = (([] : List (List Int))) := ⟨_, rfl⟩
         replace H : (some (y309, false)) = some (r1, r2) := by first | (rw [hy309]; with_reducible exact H) | (have H2_ := (Option.bind_some _ _).symm.trans H; rw [hy309]; with_reducible exact H2_) | (have H2_ := (Option.bind_some _ _).symm.trans H; with_reducible exact H2_) | with_reducible exact H | (rw [hy309]; exact H) | exact H
         have Ny309 := Aside0.mk hy309
         clear hy309
         simp only [Option.some.injEq, Prod.mk.injEq] at H
         obtain ⟨rfl, rfl⟩ := H
         go_wp2_with (first | (refine gL 174 (some 42) Try.func174 #[.int .i64 (wrap64 (2 * a0)), .int .i64 x8_2] ?_; (with_reducible refine (spec_l11Unit.calls (wrap64 (2 * a0)) x8_2 t302 _ A17.out).mono ?_); rintro e w35 ⟨v303, rfl, ho0, hb⟩; refine ⟨_, rfl, ?_⟩; have n0_ := Aside0.mk (Kd.S_elder' (S_l HO_6.out) (Kd.R_base ho0) hb); have n1_ := Aside0.mk (Kd.R_lower ho0 (below_size (B_l HB.out))); have n2_ := Aside0.mk (below_step (B_l HB.out) hb); clear HO_6; clear HB; have HO_6 := n0_; have HO304 := n1_; have HB := n2_; clear n0_ n1_ n2_; obtain ⟨Ao36, co36, eo36⟩ := Kd.R_slice HO304.out; subst eo36) | (refine gL 76 (some 43) Try.func76 #[.int .i64 a0, .slice A1 l1.length c1, .slice Ao36 t302.length co36, .int .i64 1] ?_; (with_reducible refine (spec_TwistClass.calls k2 a0 _ _ l1 _ _ t302 1 t305 false _ ?side1 ?side2 ?side3 ?side4 A18.out).mono ?_); (case side1 => exact C_l (Kd.C_below HR1.out HB.out)); (case side2 => exact HC1.out); (case side3 => exact C_l ((Kd.R_reads' HO304.out).2.2)); (case side4 => exact (Kd.R_reads' HO304.out).2.1); rintro e w37 ⟨v307, rfl, ho0, hb⟩; refine ⟨_, rfl, ?_⟩; have n0_ := Aside0.mk (Kd.S_elder' (S_l HO_6.out) (Kd.R_base ho0) hb); have n1_ := Aside0.mk (Kd.R_elder' (R_l HO304.out) (Kd.R_base ho0) hb); have n2_ := Aside0.mk (Kd.R_lower (Kd.R_new' ho0 (Kd.R_lt (R_l HO304.out))) (below_size (B_l HB.out))); have n3_ := Aside0.mk (below_step (B_l HB.out) hb); clear HO_6; clear HO304; clear HB; have HO_6 := n0_; have HO304 := n1_; have HO308 := n2_; have HB := n3_; clear n0_ n1_ n2_ n3_) | ((with_reducible refine gate_dst (N := 48) rfl ?_); refine Kd.S_lit (Kd.slice 3 (Kd.int .i64)) _ 35 ?hg (N := 48) ?hd (xs := ([] : List (List Int))) (inner := []) (ok := fun _ => True) (okp := fun _ => True) ?hr ?hp (fun _ hk => hk) trivial (Below.refl _ _) (Nat.le_refl _) (by simp) ?_; (case hd => rfl); (case hg => rfl); (case hr => first | (go_simp; done) | (go_simp; rfl)); (case hp => exact (Reps.none _ _)); intro v310 w38 ho39 hb hg_ hnew_; clear hg_ hnew_; (first | rw [← Ny309.out] at ho39 | (simp only [Int.reduceToNat] at ho39; rw [← Ny309.out] at ho39)); have n0_ := Aside0.mk (Kd.S_elder' (S_l HO_6.out) (Kd.S_base ho39) hb); have n1_ := Aside0.mk (Kd.R_below (R_l HO304.out) hb); have n2_ := Aside0.mk (Kd.R_below (R_l HO308.out) hb); have n3_ := Aside0.mk (Kd.S_lower (Kd.S_new' (Kd.S_new' (Kd.S_new' ho39 (Kd.S_lt (S_l HO_6.out))) (Kd.R_lt (R_l HO304.out))) (Kd.R_lt (R_l HO308.out))) (below_size (B_l HB.out))); have n4_ := Aside0.mk (below_step (B_l HB.out) hb); clear HO_6; clear HO304; clear HO308; clear HB; have HO_6 := n0_; have HO304 := n1_; have HO308 := n2_; have HO311 := n3_; have HB := n4_; clear n0_ n1_ n2_ n3_ n4_; clear hb ho39))
         go_ret2
         exact ⟨_, by first | rfl | (simp [errW_none, errW_some] <;> rfl) | (simp [*, errW_none, errW_some] <;> rfl), S_l (Kd.S_mono HO311.out (fun _ hk => trivial)), B_l HB.out⟩
       ·rw [if_neg c16] at H
        have c16b0 : decide (x8_2 < (wrap64 (2 * a0))) = false := decide_eq_false c16
        clear c16
        simp only [Option.some.injEq, Prod.mk.injEq] at H
        obtain ⟨rfl, rfl⟩ := H
        go_wp2
        go_ret2
        exact ⟨_, by first | rfl | (simp [errW_none, errW_some] <;> rfl) | (simp [*, errW_none, errW_some] <;> rfl), S_l HO_6.out, B_l HB.out⟩
 ·replace c4 := Bool.eq_false_iff.mpr c4
  subst c4
  rw [if_neg (show ¬ (false = true) by decide)] at H
  obtain ⟨y290, hy290⟩ : ∃ y_ : List (List Int), y_ = (([] : List (List Int))) := ⟨_, rfl⟩
  replace H : (some (y290, false)) = some (r1, r2) := by first | (rw [hy290]; with_reducible exact H) | (have H2_ := (Option.bind_some _ _).symm.trans H; rw [hy290]; with_reducible exact H2_) | (have H2_ := (Option.bind_some _ _).symm.trans H; with_reducible exact H2_) | with_reducible exact H | (rw [hy290]; exact H) | exact H
  have Ny290 := Aside0.mk hy290
  clear hy290
  simp only [Option.some.injEq, Prod.mk.injEq] at H
  obtain ⟨rfl, rfl⟩ := H
  go_enter Try.func78, Try.ntmps78
  go_wp2_with (first | (refine gL 91 (some 14) Try.func91 #[.int .i64 a0, .slice A1 l1.length c1] ?_; (with_reducible refine (spec_IsClass.calls k a0 _ _ l1 false _ ?side1 ?side2 A3.out).mono ?_); (case side1 => exact C_l HR1.out); (case side2 => exact HC1.out); rintro e w' ⟨rfl, ⟨nd, rfl⟩⟩; refine ⟨_, rfl, ?_⟩) | ((with_reducible refine gate_dst (N := 16) rfl ?_); refine Kd.S_lit (Kd.slice 3 (Kd.int .i64)) _ 35 ?hg (N := 16) ?hd (xs := ([] : List (List Int))) (inner := []) (ok := fun _ => True) (okp := fun _ => True) ?hr ?hp (fun _ hk => hk) trivial (Below.refl _ _) (Nat.le_refl _) (by simp) ?_; (case hd => rfl); (case hg => rfl); (case hr => first | (go_simp; done) | (go_simp; rfl)); (case hp => exact (Reps.none _ _)); intro v291 w40 ho41 hb hg_ hnew_; clear hg_ hnew_; (first | rw [← Ny290.out] at ho41 | (simp only [Int.reduceToNat] at ho41; rw [← Ny290.out] at ho41)); have n0_ := Aside0.mk (Kd.S_lower ho41 (below_size (B_l HB.out))); have n1_ := Aside0.mk (below_step (B_l HB.out) hb); clear HB; have HO292 := n0_; have HB := n1_; clear n0_ n1_; clear hb ho41))
  go_ret2
  exact ⟨_, by first | rfl | (simp [errW_none, errW_some] <;> rfl) | (simp [*, errW_none, errW_some] <;> rfl), S_l HO292.out, B_l HB.out⟩

/-! ### spec_DrawApplyTable: function 79 -/
def spec_DrawApplyTable.f (k : Nat) (l0 : List Int) : Option ((List (List Int)) × List Int) := (spec_l11Two.f k l0).bind fun bt317 => ((spec_TwistMatrix.f k bt317.1 bt317.2.1).bind fun bt324 => (some (bt324.1, bt317.2.2)))
set_option maxHeartbeats 8000000 in
set_option maxRecDepth 100000 in
theorem spec_DrawApplyTable.calls (k : Nat) (A0 : Option Addr) (c0 : Nat) (l0 : List Int) (r1 : List (List Int)) (r2 : List Int) (w : World) (hr0 : Kd.C (Kd.int .u8) w A0 l0.length l0) (hc0 : l0.length ≤ c0) (h : spec_DrawApplyTable.f k l0 = some (r1, r2)) :
  Calls Try.prog 79 #[.slice A0 l0.length c0] w fun e w' => ∃ v0_ v1_ : Value, e = .returned (.tuple #[v0_, v1_]) ∧ Kd.S (Kd.slice 3 (Kd.int .i64)) 35 w' w.heap.size (fun k_ => some k_ ≠ (v1_ : Value).ownBlock) v0_ r1 ∧ Kd.R (Kd.int .i64) 3 w' w.heap.size (fun _ => True) v1_ r2 ∧ Below w.heap.size w w' := by
 have HR0 := Aside0.mk hr0
 have HC0 := Aside0.mk hc0
 clear hr0 hc0
 have HB := Aside0.mk (Below.refl w.heap.size w)
 have H : ((spec_l11Two.f k l0).bind fun bt317 => ((spec_TwistMatrix.f k bt317.1 bt317.2.1).bind fun bt324 => (some (bt324.1, bt317.2.2)))) = some (r1, r2) := h
 clear h
 replace H := Option.bind_eq_some_iff.mp H
 obtain ⟨⟨t317, t318, t319⟩, A20, H⟩ := H
 replace H : ((spec_TwistMatrix.f k t317 t318).bind fun bt324 => (some (bt324.1, t319))) = some (r1, r2) := H
 have A2 := Aside0.mk A20
 clear A20
 replace H := Option.bind_eq_some_iff.mp H
 obtain ⟨⟨t324, t325⟩, A30, H⟩ := H
 replace H : (some (t324, t319)) = some (r1, r2) := H
 have A3 := Aside0.mk A30
 clear A30
 simp only [Option.some.injEq, Prod.mk.injEq] at H
 obtain ⟨rfl, rfl⟩ := H
 go_enter Try.func79, Try.ntmps79
 go_wp2_with (first | (refine gL 167 (some 11) Try.func167 #[.slice A0 l0.length c0] ?_; (with_reducible refine (spec_l11Two.calls k _ _ l0 t317 t318 t319 _ ?side1 ?side2 A2.out).mono ?_); (case side1 => exact C_l HR0.out); (case side2 => exact HC0.out); rintro e w4 ⟨v320, v322, rfl, ho0, ho1, hb⟩; refine ⟨_, rfl, ?_⟩; have n0_ := Aside0.mk (Kd.R_lower ho0 (below_size (B_l HB.out))); have n1_ := Aside0.mk (Kd.R_lower ho1 (below_size (B_l HB.out))); have n2_ := Aside0.mk (below_step (B_l HB.out) hb); clear HB; have HO321 := n0_; have HO323 := n1_; have HB := n2_; clear n0_ n1_ n2_; obtain ⟨Ao5, co5, eo5⟩ := Kd.R_slice HO321.out; subst eo5) | (refine gL 78 (some 18) Try.func78 #[.int .i64 t317, .slice Ao5 t318.length co5] ?_; (with_reducible refine (spec_TwistMatrix.calls k t317 _ _ t318 t324 t325 _ ?side1 ?side2 A3.out).mono ?_); (case side1 => exact C_l ((Kd.R_reads' HO321.out).2.2)); (case side2 => exact (Kd.R_reads' HO321.out).2.1); rintro e w6 ⟨v326, rfl, ho0, hb⟩; refine ⟨_, rfl, ?_⟩; have n0_ := Aside0.mk (Kd.R_below (R_l HO321.out) hb); have n1_ := Aside0.mk (Kd.R_below (R_l HO323.out) hb); have n2_ := Aside0.mk (Kd.S_lower (Kd.S_new' (Kd.S_new' ho0 (Kd.R_lt (R_l HO321.out))) (Kd.R_lt (R_l HO323.out))) (below_size (B_l HB.out))); have n3_ := Aside0.mk (below_step (B_l HB.out) hb); clear HO321; clear HO323; clear HB; have HO321 := n0_; have HO323 := n1_; have HO327 := n2_; have HB := n3_; clear n0_ n1_ n2_ n3_))
 go_ret2
 exact ⟨_, _, by first | rfl | (simp [errW_none, errW_some] <;> rfl) | (simp [*, errW_none, errW_some] <;> rfl), S_l (Kd.S_mono HO327.out (fun _ hk => hk.2)), R_l (Kd.R_mono HO323.out (fun _ hk => trivial)), B_l HB.out⟩

end Go.Proofs.Ytimjefomgaaegaa.PFnTwists
