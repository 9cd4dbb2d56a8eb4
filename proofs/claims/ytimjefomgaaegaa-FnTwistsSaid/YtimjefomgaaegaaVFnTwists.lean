/- The walk of laws_FnTwists on the ways on which it answers true: lines of the print of this claim, the ways that answer false struck, since the pure fact says true. -/
import Derived.Test.YtimjefomgaaegaaWLater
import Derived.Test.YtimjefomgaaegaaPFnTwistsx0
import Derived.Test.YtimjefomgaaegaaPFnTwistsx1
import Derived.Test.YtimjefomgaaegaaPFnTwistsx2
import Derived.Test.YtimjefomgaaegaaPFnTwistsx3
import Derived.Test.YtimjefomgaaegaaPFnTwistsx4
import Derived.Test.YtimjefomgaaegaaPFnTwistsx5
import Derived.Test.YtimjefomgaaegaaPFnTwistsx6
import Derived.Test.YtimjefomgaaegaaPFnTwistsx7
import Derived.Test.YtimjefomgaaegaaPFnTwistsx8
import Derived.Test.YtimjefomgaaegaaPFnTwistsx9
import Derived.Test.YtimjefomgaaegaaPFnTwistsx10
import Derived.Test.YtimjefomgaaegaaPFnTwistsx11
import Derived.Test.YtimjefomgaaegaaPFnTwistsx12
import Derived.Test.YtimjefomgaaegaaPFnTwistsx13
import Derived.Test.YtimjefomgaaegaaPFnTwistsx14
import Derived.Test.YtimjefomgaaegaaPFnTwistsx15
namespace Go.Proofs.Ytimjefomgaaegaa.PFnTwists
open Go.RowKit Go.Proofs.YtimjefomgaaegaaW.PrintWords Go.Proofs.YtimjefomgaaegaaW.PrintLast Go.Proofs.YtimjefomgaaegaaW.PrintMore
attribute [local go_sem] max2_int min2_int max_two min_two max_three min_three max_four min_four   -- for this text's walks alone
set_option linter.unusedVariables false
set_option linter.unusedSimpArgs false

/-! ### laws_FnTwists: function 6 -/
mutual
def laws_FnTwists.j0 : Nat → Int → List Int → List Int → Int → List Int → List Int → Int → List Int → Bool → List (List Int) → Bool → Int → Bool → Option (Bool)
 | 0, _, _, _, _, _, _, _, _, _, _, _, _, _ => none
 | k + 1, x3, x4, x5, x6, x7, x8, x9, x10, x11, x14, x15, x32, x225 => if x225 = true then (some false) else ((impl_FormOf.f k x3 x5 x4).bind fun t714 => (if x32 = (wrap64 (-t714)) then (if x15 = true then ((impl_IsSymplectic.f k x3 x14).bind fun t715 => (laws_FnTwists.j1 k x3 x4 x5 x6 x7 x8 x9 x10 x11 x14 x32 (!t715))) else (laws_FnTwists.j1 k x3 x4 x5 x6 x7 x8 x9 x10 x11 x14 x32 false)) else (laws_FnTwists.j1 k x3 x4 x5 x6 x7 x8 x9 x10 x11 x14 x32 true)))
def laws_FnTwists.j1 : Nat → Int → List Int → List Int → Int → List Int → List Int → Int → List Int → Bool → List (List Int) → Int → Bool → Option (Bool)
 | 0, _, _, _, _, _, _, _, _, _, _, _, _ => none
 | k + 1, x3, x4, x5, x6, x7, x8, x9, x10, x11, x14, x32, x241 => if x241 = true then (some false) else (if x11 = true then (laws_FnTwists.j2 k x3 x4 x5 x6 x7 x8 x9 x10 x14 x32 (decide (x9 ≥ (-19)))) else (laws_FnTwists.j2 k x3 x4 x5 x6 x7 x8 x9 x10 x14 x32 false))
def laws_FnTwists.j2 : Nat → Int → List Int → List Int → Int → List Int → List Int → Int → List Int → List (List Int) → Int → Bool → Option (Bool)
 | 0, _, _, _, _, _, _, _, _, _, _, _ => none
 | k + 1, x3, x4, x5, x6, x7, x8, x9, x10, x14, x32, x246 => if x246 = true then ((impl_TwistClass.f k x6 x7 x10 (wrap64 (-x9))).bind fun bt716 => (if bt716.2 = true then ((laws_sameInts.f k bt716.1 x8).bind fun t720 => (if t720 = true then ((impl_FormOf.f k x6 x7 x10).bind fun t721 => ((impl_FormOf.f k x6 x7 x8).bind fun t722 => (if t721 = t722 then (laws_FnTwists.j3 k x3 x4 x5 x14 x32) else (some false)))) else (some false))) else ((impl_FormOf.f k x6 x7 x10).bind fun t723 => ((impl_FormOf.f k x6 x7 x8).bind fun t724 => (if t723 = t724 then (laws_FnTwists.j3 k x3 x4 x5 x14 x32) else (some false)))))) else (laws_FnTwists.j3 k x3 x4 x5 x14 x32)
def laws_FnTwists.j3 : Nat → Int → List Int → List Int → List (List Int) → Int → Option (Bool)
 | 0, _, _, _, _, _ => none
 | k + 1, x3, x4, x5, x14, x32 => laws_FnTwists.l0 k x3 x4 x5 x14 x32 true 0
def laws_FnTwists.l0 : Nat → Int → List Int → List Int → List (List Int) → Int → Bool → Int → Option (Bool)
 | 0, _, _, _, _, _, _, _ => none
 | k + 1, x3, x4, x5, x14, x32, x35, x36 => if x36 < (x4.length : Int) then (laws_FnTwists.j5 k x3 x4 x5 x14 x32 x35 x36 (decide (x36 < (x5.length : Int)))) else (laws_FnTwists.j5 k x3 x4 x5 x14 x32 x35 x36 false)
def laws_FnTwists.j5 : Nat → Int → List Int → List Int → List (List Int) → Int → Bool → Int → Bool → Option (Bool)
 | 0, _, _, _, _, _, _, _, _ => none
 | k + 1, x3, x4, x5, x14, x32, x35, x36, x283 => if x283 = true then (if x35 = true then (if 0 ≤ x36 then (if x36 < (x4.length : Int) then ((laws_magnitude.f (rd x4 x36)).bind fun t726 => (if t726 < 3 then (if x36 < (x5.length : Int) then ((laws_magnitude.f (rd x5 x36)).bind fun t728 => (laws_FnTwists.l0 k x3 x4 x5 x14 x32 (decide (t728 < 3)) (wrap64 (x36 + 1)))) else (none)) else (laws_FnTwists.l0 k x3 x4 x5 x14 x32 false (wrap64 (x36 + 1))))) else (none)) else (none)) else (laws_FnTwists.l0 k x3 x4 x5 x14 x32 false (wrap64 (x36 + 1)))) else ((spec_IsClass.f k x3 x4).bind fun t729 => (if t729 = true then ((spec_IsClass.f k x3 x5).bind fun t730 => (if t730 = true then (laws_FnTwists.j6 k x3 x4 x5 x14 x32 (!x35)) else (laws_FnTwists.j6 k x3 x4 x5 x14 x32 true))) else (laws_FnTwists.j6 k x3 x4 x5 x14 x32 true)))
def laws_FnTwists.j6 : Nat → Int → List Int → List Int → List (List Int) → Int → Bool → Option (Bool)
 | 0, _, _, _, _, _, _ => none
 | k + 1, x3, x4, x5, x14, x32, x316 => if x316 = true then (some true) else (if x32 = 0 then ((impl_CommuteHolds.f k x3 x4 x5).bind fun t731 => (if t731 = true then (if x32 = 1 then ((impl_BraidHolds.f k x3 x4 x5).bind fun t732 => (laws_FnTwists.j7 k x3 x4 x5 x14 (!t732))) else (if x32 = (-1) then ((impl_BraidHolds.f k x3 x4 x5).bind fun t733 => (laws_FnTwists.j7 k x3 x4 x5 x14 (!t733))) else (laws_FnTwists.j7 k x3 x4 x5 x14 false))) else (laws_FnTwists.j7 k x3 x4 x5 x14 true))) else (if x32 = 1 then ((impl_BraidHolds.f k x3 x4 x5).bind fun t734 => (laws_FnTwists.j7 k x3 x4 x5 x14 (!t734))) else (if x32 = (-1) then ((impl_BraidHolds.f k x3 x4 x5).bind fun t735 => (laws_FnTwists.j7 k x3 x4 x5 x14 (!t735))) else (laws_FnTwists.j7 k x3 x4 x5 x14 false))))
def laws_FnTwists.j7 : Nat → Int → List Int → List Int → List (List Int) → Bool → Option (Bool)
 | 0, _, _, _, _, _ => none
 | k + 1, x3, x4, x5, x14, x340 => if x340 = true then (some false) else ((impl_TwistClass.f k x3 x4 x5 1).bind fun bt736 => ((impl_ApplyTable.f k x14 x5).bind fun bt740 => (if bt736.2 = true then (if bt740.2 = true then ((laws_sameInts.f k bt740.1 bt736.1).bind fun t744 => (some t744)) else (some false)) else (some true))))
end
def laws_FnTwists.f (k : Nat) (l0 : List Int) : Option (Bool) := (laws_big.f l0).bind fun t634 => (if t634 = true then (some true) else ((spec_DrawFormOf.f k l0).bind fun bt635 => ((spec_DrawTwistClass.f k l0).bind fun bt642 => ((impl_TwistClass.f k bt642.1 bt642.2.1 bt642.2.2.1 bt642.2.2.2).bind fun bt650 => ((spec_TwistClass.f k bt642.1 bt642.2.1 bt642.2.2.1 bt642.2.2.2).bind fun bt654 => ((impl_TwistMatrix.f k bt635.1 bt635.2.1).bind fun bt658 => ((spec_TwistMatrix.f k bt635.1 bt635.2.1).bind fun bt662 => ((spec_DrawApplyTable.f k l0).bind fun bt666 => ((impl_ApplyTable.f k bt666.1 bt666.2).bind fun bt672 => ((spec_ApplyTable.f k bt666.1 bt666.2).bind fun bt676 => ((spec_DrawTimesTable.f k l0).bind fun bt680 => ((impl_TimesTable.f k bt680.1 bt680.2).bind fun bt686 => ((spec_TimesTable.f k bt680.1 bt680.2).bind fun bt690 => ((spec_DrawIsSymplectic.f k l0).bind fun bt694 => ((impl_FormOf.f k bt635.1 bt635.2.1 bt635.2.2).bind fun t698 => (if (bt650.2 != bt654.2) = true then (laws_FnTwists.j0 k bt635.1 bt635.2.1 bt635.2.2 bt642.1 bt642.2.1 bt642.2.2.1 bt642.2.2.2 bt650.1 bt650.2 bt658.1 bt658.2 t698 true) else ((laws_sameInts.f k bt650.1 bt654.1).bind fun t699 => (if t699 = true then (if (bt658.2 != bt662.2) = true then (laws_FnTwists.j0 k bt635.1 bt635.2.1 bt635.2.2 bt642.1 bt642.2.1 bt642.2.2.1 bt642.2.2.2 bt650.1 bt650.2 bt658.1 bt658.2 t698 true) else ((laws_sameLists.f k bt658.1 bt662.1).bind fun t700 => (if t700 = true then (if (bt672.2 != bt676.2) = true then (laws_FnTwists.j0 k bt635.1 bt635.2.1 bt635.2.2 bt642.1 bt642.2.1 bt642.2.2.1 bt642.2.2.2 bt650.1 bt650.2 bt658.1 bt658.2 t698 true) else ((laws_sameInts.f k bt672.1 bt676.1).bind fun t701 => (if t701 = true then (if (bt686.2 != bt690.2) = true then (laws_FnTwists.j0 k bt635.1 bt635.2.1 bt635.2.2 bt642.1 bt642.2.1 bt642.2.2.1 bt642.2.2.2 bt650.1 bt650.2 bt658.1 bt658.2 t698 true) else ((laws_sameLists.f k bt686.1 bt690.1).bind fun t702 => (if t702 = true then ((impl_IsSymplectic.f k bt694.1 bt694.2).bind fun t703 => ((spec_IsSymplectic.f k bt694.1 bt694.2).bind fun t704 => (if (t703 != t704) = true then (laws_FnTwists.j0 k bt635.1 bt635.2.1 bt635.2.2 bt642.1 bt642.2.1 bt642.2.2.1 bt642.2.2.2 bt650.1 bt650.2 bt658.1 bt658.2 t698 true) else ((spec_FormOf.f k bt635.1 bt635.2.1 bt635.2.2).bind fun t705 => (if t698 = t705 then ((impl_IsClass.f k bt635.1 bt635.2.1).bind fun t706 => ((spec_IsClass.f k bt635.1 bt635.2.1).bind fun t707 => (if (t706 != t707) = true then (laws_FnTwists.j0 k bt635.1 bt635.2.1 bt635.2.2 bt642.1 bt642.2.1 bt642.2.2.1 bt642.2.2.2 bt650.1 bt650.2 bt658.1 bt658.2 t698 true) else ((impl_IsPrimitiveClass.f k bt635.1 bt635.2.1).bind fun t708 => ((spec_IsPrimitiveClass.f k bt635.1 bt635.2.1).bind fun t709 => (if (t708 != t709) = true then (laws_FnTwists.j0 k bt635.1 bt635.2.1 bt635.2.2 bt642.1 bt642.2.1 bt642.2.2.1 bt642.2.2.2 bt650.1 bt650.2 bt658.1 bt658.2 t698 true) else ((impl_BraidHolds.f k bt635.1 bt635.2.1 bt635.2.2).bind fun t710 => ((spec_BraidHolds.f k bt635.1 bt635.2.1 bt635.2.2).bind fun t711 => (if (t710 != t711) = true then (laws_FnTwists.j0 k bt635.1 bt635.2.1 bt635.2.2 bt642.1 bt642.2.1 bt642.2.2.1 bt642.2.2.2 bt650.1 bt650.2 bt658.1 bt658.2 t698 true) else ((impl_CommuteHolds.f k bt635.1 bt635.2.1 bt635.2.2).bind fun t712 => ((spec_CommuteHolds.f k bt635.1 bt635.2.1 bt635.2.2).bind fun t713 => (laws_FnTwists.j0 k bt635.1 bt635.2.1 bt635.2.2 bt642.1 bt642.2.1 bt642.2.2.1 bt642.2.2.2 bt650.1 bt650.2 bt658.1 bt658.2 t698 (t712 != t713))))))))))))) else (laws_FnTwists.j0 k bt635.1 bt635.2.1 bt635.2.2 bt642.1 bt642.2.1 bt642.2.2.1 bt642.2.2.2 bt650.1 bt650.2 bt658.1 bt658.2 t698 true)))))) else (laws_FnTwists.j0 k bt635.1 bt635.2.1 bt635.2.2 bt642.1 bt642.2.1 bt642.2.2.1 bt642.2.2.2 bt650.1 bt650.2 bt658.1 bt658.2 t698 true)))) else (laws_FnTwists.j0 k bt635.1 bt635.2.1 bt635.2.2 bt642.1 bt642.2.1 bt642.2.2.1 bt642.2.2.2 bt650.1 bt650.2 bt658.1 bt658.2 t698 true)))) else (laws_FnTwists.j0 k bt635.1 bt635.2.1 bt635.2.2 bt642.1 bt642.2.1 bt642.2.2.1 bt642.2.2.2 bt650.1 bt650.2 bt658.1 bt658.2 t698 true)))) else (laws_FnTwists.j0 k bt635.1 bt635.2.1 bt635.2.2 bt642.1 bt642.2.1 bt642.2.2.1 bt642.2.2.2 bt650.1 bt650.2 bt658.1 bt658.2 t698 true)))))))))))))))))))
theorem laws_FnTwists_no_j0 : ∀ k a0 a1 a2 a3 a4 a5 a6 a7 a8 a9 a10 a11, ¬ (laws_FnTwists.j0 k a0 a1 a2 a3 a4 a5 a6 a7 a8 a9 a10 a11 true = some true) := by
 intro k a0 a1 a2 a3 a4 a5 a6 a7 a8 a9 a10 a11 h
 cases k with
 | zero => simp [laws_FnTwists.j0] at h
 | succ k => rw [laws_FnTwists.j0, if_pos rfl] at h; cases h
theorem laws_FnTwists_no_j1 : ∀ k a0 a1 a2 a3 a4 a5 a6 a7 a8 a9 a10, ¬ (laws_FnTwists.j1 k a0 a1 a2 a3 a4 a5 a6 a7 a8 a9 a10 true = some true) := by
 intro k a0 a1 a2 a3 a4 a5 a6 a7 a8 a9 a10 h
 cases k with
 | zero => simp [laws_FnTwists.j1] at h
 | succ k => rw [laws_FnTwists.j1, if_pos rfl] at h; cases h
theorem laws_FnTwists_no_j7 : ∀ k a0 a1 a2 a3, ¬ (laws_FnTwists.j7 k a0 a1 a2 a3 true = some true) := by
 intro k a0 a1 a2 a3 h
 cases k with
 | zero => simp [laws_FnTwists.j7] at h
 | succ k => rw [laws_FnTwists.j7, if_pos rfl] at h; cases h
set_option maxHeartbeats 400000000 in
set_option maxRecDepth 100000 in
theorem laws_FnTwists.calls (k : Nat) (A0 : Option Addr) (c0 : Nat) (l0 : List Int) (w : World) (hr0 : Kd.C (Kd.int .u8) w A0 l0.length l0) (hc0 : l0.length ≤ c0) (h : laws_FnTwists.f k l0 = some true) :
  Calls Try.prog 6 #[.slice A0 l0.length c0] w fun e w' => e = .returned (.bool true) ∧ Below w.heap.size w w' := by
 have HR0 := Aside0.mk hr0
 have HC0 := Aside0.mk hc0
 clear hr0 hc0
 have HB := Aside0.mk (Below.refl w.heap.size w)
 have H : ((laws_big.f l0).bind fun t634 => (if t634 = true then (some true) else ((spec_DrawFormOf.f k l0).bind fun bt635 => ((spec_DrawTwistClass.f k l0).bind fun bt642 => ((impl_TwistClass.f k bt642.1 bt642.2.1 bt642.2.2.1 bt642.2.2.2).bind fun bt650 => ((spec_TwistClass.f k bt642.1 bt642.2.1 bt642.2.2.1 bt642.2.2.2).bind fun bt654 => ((impl_TwistMatrix.f k bt635.1 bt635.2.1).bind fun bt658 => ((spec_TwistMatrix.f k bt635.1 bt635.2.1).bind fun bt662 => ((spec_DrawApplyTable.f k l0).bind fun bt666 => ((impl_ApplyTable.f k bt666.1 bt666.2).bind fun bt672 => ((spec_ApplyTable.f k bt666.1 bt666.2).bind fun bt676 => ((spec_DrawTimesTable.f k l0).bind fun bt680 => ((impl_TimesTable.f k bt680.1 bt680.2).bind fun bt686 => ((spec_TimesTable.f k bt680.1 bt680.2).bind fun bt690 => ((spec_DrawIsSymplectic.f k l0).bind fun bt694 => ((impl_FormOf.f k bt635.1 bt635.2.1 bt635.2.2).bind fun t698 => (if (bt650.2 != bt654.2) = true then (laws_FnTwists.j0 k bt635.1 bt635.2.1 bt635.2.2 bt642.1 bt642.2.1 bt642.2.2.1 bt642.2.2.2 bt650.1 bt650.2 bt658.1 bt658.2 t698 true) else ((laws_sameInts.f k bt650.1 bt654.1).bind fun t699 => (if t699 = true then (if (bt658.2 != bt662.2) = true then (laws_FnTwists.j0 k bt635.1 bt635.2.1 bt635.2.2 bt642.1 bt642.2.1 bt642.2.2.1 bt642.2.2.2 bt650.1 bt650.2 bt658.1 bt658.2 t698 true) else ((laws_sameLists.f k bt658.1 bt662.1).bind fun t700 => (if t700 = true then (if (bt672.2 != bt676.2) = true then (laws_FnTwists.j0 k bt635.1 bt635.2.1 bt635.2.2 bt642.1 bt642.2.1 bt642.2.2.1 bt642.2.2.2 bt650.1 bt650.2 bt658.1 bt658.2 t698 true) else ((laws_sameInts.f k bt672.1 bt676.1).bind fun t701 => (if t701 = true then (if (bt686.2 != bt690.2) = true then (laws_FnTwists.j0 k bt635.1 bt635.2.1 bt635.2.2 bt642.1 bt642.2.1 bt642.2.2.1 bt642.2.2.2 bt650.1 bt650.2 bt658.1 bt658.2 t698 true) else ((laws_sameLists.f k bt686.1 bt690.1).bind fun t702 => (if t702 = true then ((impl_IsSymplectic.f k bt694.1 bt694.2).bind fun t703 => ((spec_IsSymplectic.f k bt694.1 bt694.2).bind fun t704 => (if (t703 != t704) = true then (laws_FnTwists.j0 k bt635.1 bt635.2.1 bt635.2.2 bt642.1 bt642.2.1 bt642.2.2.1 bt642.2.2.2 bt650.1 bt650.2 bt658.1 bt658.2 t698 true) else ((spec_FormOf.f k bt635.1 bt635.2.1 bt635.2.2).bind fun t705 => (if t698 = t705 then ((impl_IsClass.f k bt635.1 bt635.2.1).bind fun t706 => ((spec_IsClass.f k bt635.1 bt635.2.1).bind fun t707 => (if (t706 != t707) = true then (laws_FnTwists.j0 k bt635.1 bt635.2.1 bt635.2.2 bt642.1 bt642.2.1 bt642.2.2.1 bt642.2.2.2 bt650.1 bt650.2 bt658.1 bt658.2 t698 true) else ((impl_IsPrimitiveClass.f k bt635.1 bt635.2.1).bind fun t708 => ((spec_IsPrimitiveClass.f k bt635.1 bt635.2.1).bind fun t709 => (if (t708 != t709) = true then (laws_FnTwists.j0 k bt635.1 bt635.2.1 bt635.2.2 bt642.1 bt642.2.1 bt642.2.2.1 bt642.2.2.2 bt650.1 bt650.2 bt658.1 bt658.2 t698 true) else ((impl_BraidHolds.f k bt635.1 bt635.2.1 bt635.2.2).bind fun t710 => ((spec_BraidHolds.f k bt635.1 bt635.2.1 bt635.2.2).bind fun t711 => (if (t710 != t711) = true then (laws_FnTwists.j0 k bt635.1 bt635.2.1 bt635.2.2 bt642.1 bt642.2.1 bt642.2.2.1 bt642.2.2.2 bt650.1 bt650.2 bt658.1 bt658.2 t698 true) else ((impl_CommuteHolds.f k bt635.1 bt635.2.1 bt635.2.2).bind fun t712 => ((spec_CommuteHolds.f k bt635.1 bt635.2.1 bt635.2.2).bind fun t713 => (laws_FnTwists.j0 k bt635.1 bt635.2.1 bt635.2.2 bt642.1 bt642.2.1 bt642.2.2.1 bt642.2.2.2 bt650.1 bt650.2 bt658.1 bt658.2 t698 (t712 != t713))))))))))))) else (laws_FnTwists.j0 k bt635.1 bt635.2.1 bt635.2.2 bt642.1 bt642.2.1 bt642.2.2.1 bt642.2.2.2 bt650.1 bt650.2 bt658.1 bt658.2 t698 true)))))) else (laws_FnTwists.j0 k bt635.1 bt635.2.1 bt635.2.2 bt642.1 bt642.2.1 bt642.2.2.1 bt642.2.2.2 bt650.1 bt650.2 bt658.1 bt658.2 t698 true)))) else (laws_FnTwists.j0 k bt635.1 bt635.2.1 bt635.2.2 bt642.1 bt642.2.1 bt642.2.2.1 bt642.2.2.2 bt650.1 bt650.2 bt658.1 bt658.2 t698 true)))) else (laws_FnTwists.j0 k bt635.1 bt635.2.1 bt635.2.2 bt642.1 bt642.2.1 bt642.2.2.1 bt642.2.2.2 bt650.1 bt650.2 bt658.1 bt658.2 t698 true)))) else (laws_FnTwists.j0 k bt635.1 bt635.2.1 bt635.2.2 bt642.1 bt642.2.1 bt642.2.2.1 bt642.2.2.2 bt650.1 bt650.2 bt658.1 bt658.2 t698 true)))))))))))))))))))) = some true := h
 clear h
 replace H := Option.bind_eq_some_iff.mp H
 obtain ⟨t634, A20, H⟩ := H
 have A2 := Aside0.mk A20
 clear A20
 by_cases c3 : t634 = true
 ·subst c3
  have H1 : (some true) = some true := rfl
  clear H
  have H := H1
  clear H1
  go_enter Try.func6, Try.ntmps6
  go_wp2_with (first | ((with_reducible refine gate_callee (f := 7) rfl ?_); refine goesL_ (some 42) rfl rfl Try.func7 (by kernel_rfl) rfl #[.slice A0 l0.length c0] rfl (by (try simp only [List.map_toArray, List.map_cons, List.map_nil]); first | done | rfl | (simp only [List.length_drop, List.length_take]; rfl)) ?_; (with_reducible refine (laws_big.calls _ _ l0 true _ ?side1 ?side2 A2.out).mono ?_); (case side1 => exact C_l HR0.out); (case side2 => exact HC0.out); rintro e w' ⟨rfl, ⟨nd, rfl⟩⟩; refine ⟨_, rfl, ?_⟩))
  go_ret
  exact ⟨by first | rfl | (simp [errW_none, errW_some] <;> rfl) | (simp [*, errW_none, errW_some] <;> rfl), B_l HB.out⟩
 ·replace c3 := Bool.eq_false_iff.mpr c3
  subst c3
  rw [if_neg (show ¬ (false = true) by decide)] at H
  replace H := Option.bind_eq_some_iff.mp H
  obtain ⟨⟨t635, t636, t637⟩, A40, H⟩ := H
  replace H : ((spec_DrawTwistClass.f k l0).bind fun bt642 => ((impl_TwistClass.f k bt642.1 bt642.2.1 bt642.2.2.1 bt642.2.2.2).bind fun bt650 => ((spec_TwistClass.f k bt642.1 bt642.2.1 bt642.2.2.1 bt642.2.2.2).bind fun bt654 => ((impl_TwistMatrix.f k t635 t636).bind fun bt658 => ((spec_TwistMatrix.f k t635 t636).bind fun bt662 => ((spec_DrawApplyTable.f k l0).bind fun bt666 => ((impl_ApplyTable.f k bt666.1 bt666.2).bind fun bt672 => ((spec_ApplyTable.f k bt666.1 bt666.2).bind fun bt676 => ((spec_DrawTimesTable.f k l0).bind fun bt680 => ((impl_TimesTable.f k bt680.1 bt680.2).bind fun bt686 => ((spec_TimesTable.f k bt680.1 bt680.2).bind fun bt690 => ((spec_DrawIsSymplectic.f k l0).bind fun bt694 => ((impl_FormOf.f k t635 t636 t637).bind fun t698 => (if (bt650.2 != bt654.2) = true then (laws_FnTwists.j0 k t635 t636 t637 bt642.1 bt642.2.1 bt642.2.2.1 bt642.2.2.2 bt650.1 bt650.2 bt658.1 bt658.2 t698 true) else ((laws_sameInts.f k bt650.1 bt654.1).bind fun t699 => (if t699 = true then (if (bt658.2 != bt662.2) = true then (laws_FnTwists.j0 k t635 t636 t637 bt642.1 bt642.2.1 bt642.2.2.1 bt642.2.2.2 bt650.1 bt650.2 bt658.1 bt658.2 t698 true) else ((laws_sameLists.f k bt658.1 bt662.1).bind fun t700 => (if t700 = true then (if (bt672.2 != bt676.2) = true then (laws_FnTwists.j0 k t635 t636 t637 bt642.1 bt642.2.1 bt642.2.2.1 bt642.2.2.2 bt650.1 bt650.2 bt658.1 bt658.2 t698 true) else ((laws_sameInts.f k bt672.1 bt676.1).bind fun t701 => (if t701 = true then (if (bt686.2 != bt690.2) = true then (laws_FnTwists.j0 k t635 t636 t637 bt642.1 bt642.2.1 bt642.2.2.1 bt642.2.2.2 bt650.1 bt650.2 bt658.1 bt658.2 t698 true) else ((laws_sameLists.f k bt686.1 bt690.1).bind fun t702 => (if t702 = true then ((impl_IsSymplectic.f k bt694.1 bt694.2).bind fun t703 => ((spec_IsSymplectic.f k bt694.1 bt694.2).bind fun t704 => (if (t703 != t704) = true then (laws_FnTwists.j0 k t635 t636 t637 bt642.1 bt642.2.1 bt642.2.2.1 bt642.2.2.2 bt650.1 bt650.2 bt658.1 bt658.2 t698 true) else ((spec_FormOf.f k t635 t636 t637).bind fun t705 => (if t698 = t705 then ((impl_IsClass.f k t635 t636).bind fun t706 => ((spec_IsClass.f k t635 t636).bind fun t707 => (if (t706 != t707) = true then (laws_FnTwists.j0 k t635 t636 t637 bt642.1 bt642.2.1 bt642.2.2.1 bt642.2.2.2 bt650.1 bt650.2 bt658.1 bt658.2 t698 true) else ((impl_IsPrimitiveClass.f k t635 t636).bind fun t708 => ((spec_IsPrimitiveClass.f k t635 t636).bind fun t709 => (if (t708 != t709) = true then (laws_FnTwists.j0 k t635 t636 t637 bt642.1 bt642.2.1 bt642.2.2.1 bt642.2.2.2 bt650.1 bt650.2 bt658.1 bt658.2 t698 true) else ((impl_BraidHolds.f k t635 t636 t637).bind fun t710 => ((spec_BraidHolds.f k t635 t636 t637).bind fun t711 => (if (t710 != t711) = true then (laws_FnTwists.j0 k t635 t636 t637 bt642.1 bt642.2.1 bt642.2.2.1 bt642.2.2.2 bt650.1 bt650.2 bt658.1 bt658.2 t698 true) else ((impl_CommuteHolds.f k t635 t636 t637).bind fun t712 => ((spec_CommuteHolds.f k t635 t636 t637).bind fun t713 => (laws_FnTwists.j0 k t635 t636 t637 bt642.1 bt642.2.1 bt642.2.2.1 bt642.2.2.2 bt650.1 bt650.2 bt658.1 bt658.2 t698 (t712 != t713))))))))))))) else (laws_FnTwists.j0 k t635 t636 t637 bt642.1 bt642.2.1 bt642.2.2.1 bt642.2.2.2 bt650.1 bt650.2 bt658.1 bt658.2 t698 true)))))) else (laws_FnTwists.j0 k t635 t636 t637 bt642.1 bt642.2.1 bt642.2.2.1 bt642.2.2.2 bt650.1 bt650.2 bt658.1 bt658.2 t698 true)))) else (laws_FnTwists.j0 k t635 t636 t637 bt642.1 bt642.2.1 bt642.2.2.1 bt642.2.2.2 bt650.1 bt650.2 bt658.1 bt658.2 t698 true)))) else (laws_FnTwists.j0 k t635 t636 t637 bt642.1 bt642.2.1 bt642.2.2.1 bt642.2.2.2 bt650.1 bt650.2 bt658.1 bt658.2 t698 true)))) else (laws_FnTwists.j0 k t635 t636 t637 bt642.1 bt642.2.1 bt642.2.2.1 bt642.2.2.2 bt650.1 bt650.2 bt658.1 bt658.2 t698 true))))))))))))))))) = some true := H
  have A4 := Aside0.mk A40
  clear A40
  replace H := Option.bind_eq_some_iff.mp H
  obtain ⟨⟨t642, t643, t644, t645⟩, A50, H⟩ := H
  replace H : ((impl_TwistClass.f k t642 t643 t644 t645).bind fun bt650 => ((spec_TwistClass.f k t642 t643 t644 t645).bind fun bt654 => ((impl_TwistMatrix.f k t635 t636).bind fun bt658 => ((spec_TwistMatrix.f k t635 t636).bind fun bt662 => ((spec_DrawApplyTable.f k l0).bind fun bt666 => ((impl_ApplyTable.f k bt666.1 bt666.2).bind fun bt672 => ((spec_ApplyTable.f k bt666.1 bt666.2).bind fun bt676 => ((spec_DrawTimesTable.f k l0).bind fun bt680 => ((impl_TimesTable.f k bt680.1 bt680.2).bind fun bt686 => ((spec_TimesTable.f k bt680.1 bt680.2).bind fun bt690 => ((spec_DrawIsSymplectic.f k l0).bind fun bt694 => ((impl_FormOf.f k t635 t636 t637).bind fun t698 => (if (bt650.2 != bt654.2) = true then (laws_FnTwists.j0 k t635 t636 t637 t642 t643 t644 t645 bt650.1 bt650.2 bt658.1 bt658.2 t698 true) else ((laws_sameInts.f k bt650.1 bt654.1).bind fun t699 => (if t699 = true then (if (bt658.2 != bt662.2) = true then (laws_FnTwists.j0 k t635 t636 t637 t642 t643 t644 t645 bt650.1 bt650.2 bt658.1 bt658.2 t698 true) else ((laws_sameLists.f k bt658.1 bt662.1).bind fun t700 => (if t700 = true then (if (bt672.2 != bt676.2) = true then (laws_FnTwists.j0 k t635 t636 t637 t642 t643 t644 t645 bt650.1 bt650.2 bt658.1 bt658.2 t698 true) else ((laws_sameInts.f k bt672.1 bt676.1).bind fun t701 => (if t701 = true then (if (bt686.2 != bt690.2) = true then (laws_FnTwists.j0 k t635 t636 t637 t642 t643 t644 t645 bt650.1 bt650.2 bt658.1 bt658.2 t698 true) else ((laws_sameLists.f k bt686.1 bt690.1).bind fun t702 => (if t702 = true then ((impl_IsSymplectic.f k bt694.1 bt694.2).bind fun t703 => ((spec_IsSymplectic.f k bt694.1 bt694.2).bind fun t704 => (if (t703 != t704) = true then (laws_FnTwists.j0 k t635 t636 t637 t642 t643 t644 t645 bt650.1 bt650.2 bt658.1 bt658.2 t698 true) else ((spec_FormOf.f k t635 t636 t637).bind fun t705 => (if t698 = t705 then ((impl_IsClass.f k t635 t636).bind fun t706 => ((spec_IsClass.f k t635 t636).bind fun t707 => (if (t706 != t707) = true then (laws_FnTwists.j0 k t635 t636 t637 t642 t643 t644 t645 bt650.1 bt650.2 bt658.1 bt658.2 t698 true) else ((impl_IsPrimitiveClass.f k t635 t636).bind fun t708 => ((spec_IsPrimitiveClass.f k t635 t636).bind fun t709 => (if (t708 != t709) = true then (laws_FnTwists.j0 k t635 t636 t637 t642 t643 t644 t645 bt650.1 bt650.2 bt658.1 bt658.2 t698 true) else ((impl_BraidHolds.f k t635 t636 t637).bind fun t710 => ((spec_BraidHolds.f k t635 t636 t637).bind fun t711 => (if (t710 != t711) = true then (laws_FnTwists.j0 k t635 t636 t637 t642 t643 t644 t645 bt650.1 bt650.2 bt658.1 bt658.2 t698 true) else ((impl_CommuteHolds.f k t635 t636 t637).bind fun t712 => ((spec_CommuteHolds.f k t635 t636 t637).bind fun t713 => (laws_FnTwists.j0 k t635 t636 t637 t642 t643 t644 t645 bt650.1 bt650.2 bt658.1 bt658.2 t698 (t712 != t713))))))))))))) else (laws_FnTwists.j0 k t635 t636 t637 t642 t643 t644 t645 bt650.1 bt650.2 bt658.1 bt658.2 t698 true)))))) else (laws_FnTwists.j0 k t635 t636 t637 t642 t643 t644 t645 bt650.1 bt650.2 bt658.1 bt658.2 t698 true)))) else (laws_FnTwists.j0 k t635 t636 t637 t642 t643 t644 t645 bt650.1 bt650.2 bt658.1 bt658.2 t698 true)))) else (laws_FnTwists.j0 k t635 t636 t637 t642 t643 t644 t645 bt650.1 bt650.2 bt658.1 bt658.2 t698 true)))) else (laws_FnTwists.j0 k t635 t636 t637 t642 t643 t644 t645 bt650.1 bt650.2 bt658.1 bt658.2 t698 true)))))))))))))))) = some true := H
  have A5 := Aside0.mk A50
  clear A50
  replace H := Option.bind_eq_some_iff.mp H
  obtain ⟨⟨t650, t651⟩, A60, H⟩ := H
  replace H : ((spec_TwistClass.f k t642 t643 t644 t645).bind fun bt654 => ((impl_TwistMatrix.f k t635 t636).bind fun bt658 => ((spec_TwistMatrix.f k t635 t636).bind fun bt662 => ((spec_DrawApplyTable.f k l0).bind fun bt666 => ((impl_ApplyTable.f k bt666.1 bt666.2).bind fun bt672 => ((spec_ApplyTable.f k bt666.1 bt666.2).bind fun bt676 => ((spec_DrawTimesTable.f k l0).bind fun bt680 => ((impl_TimesTable.f k bt680.1 bt680.2).bind fun bt686 => ((spec_TimesTable.f k bt680.1 bt680.2).bind fun bt690 => ((spec_DrawIsSymplectic.f k l0).bind fun bt694 => ((impl_FormOf.f k t635 t636 t637).bind fun t698 => (if (t651 != bt654.2) = true then (laws_FnTwists.j0 k t635 t636 t637 t642 t643 t644 t645 t650 t651 bt658.1 bt658.2 t698 true) else ((laws_sameInts.f k t650 bt654.1).bind fun t699 => (if t699 = true then (if (bt658.2 != bt662.2) = true then (laws_FnTwists.j0 k t635 t636 t637 t642 t643 t644 t645 t650 t651 bt658.1 bt658.2 t698 true) else ((laws_sameLists.f k bt658.1 bt662.1).bind fun t700 => (if t700 = true then (if (bt672.2 != bt676.2) = true then (laws_FnTwists.j0 k t635 t636 t637 t642 t643 t644 t645 t650 t651 bt658.1 bt658.2 t698 true) else ((laws_sameInts.f k bt672.1 bt676.1).bind fun t701 => (if t701 = true then (if (bt686.2 != bt690.2) = true then (laws_FnTwists.j0 k t635 t636 t637 t642 t643 t644 t645 t650 t651 bt658.1 bt658.2 t698 true) else ((laws_sameLists.f k bt686.1 bt690.1).bind fun t702 => (if t702 = true then ((impl_IsSymplectic.f k bt694.1 bt694.2).bind fun t703 => ((spec_IsSymplectic.f k bt694.1 bt694.2).bind fun t704 => (if (t703 != t704) = true then (laws_FnTwists.j0 k t635 t636 t637 t642 t643 t644 t645 t650 t651 bt658.1 bt658.2 t698 true) else ((spec_FormOf.f k t635 t636 t637).bind fun t705 => (if t698 = t705 then ((impl_IsClass.f k t635 t636).bind fun t706 => ((spec_IsClass.f k t635 t636).bind fun t707 => (if (t706 != t707) = true then (laws_FnTwists.j0 k t635 t636 t637 t642 t643 t644 t645 t650 t651 bt658.1 bt658.2 t698 true) else ((impl_IsPrimitiveClass.f k t635 t636).bind fun t708 => ((spec_IsPrimitiveClass.f k t635 t636).bind fun t709 => (if (t708 != t709) = true then (laws_FnTwists.j0 k t635 t636 t637 t642 t643 t644 t645 t650 t651 bt658.1 bt658.2 t698 true) else ((impl_BraidHolds.f k t635 t636 t637).bind fun t710 => ((spec_BraidHolds.f k t635 t636 t637).bind fun t711 => (if (t710 != t711) = true then (laws_FnTwists.j0 k t635 t636 t637 t642 t643 t644 t645 t650 t651 bt658.1 bt658.2 t698 true) else ((impl_CommuteHolds.f k t635 t636 t637).bind fun t712 => ((spec_CommuteHolds.f k t635 t636 t637).bind fun t713 => (laws_FnTwists.j0 k t635 t636 t637 t642 t643 t644 t645 t650 t651 bt658.1 bt658.2 t698 (t712 != t713))))))))))))) else (laws_FnTwists.j0 k t635 t636 t637 t642 t643 t644 t645 t650 t651 bt658.1 bt658.2 t698 true)))))) else (laws_FnTwists.j0 k t635 t636 t637 t642 t643 t644 t645 t650 t651 bt658.1 bt658.2 t698 true)))) else (laws_FnTwists.j0 k t635 t636 t637 t642 t643 t644 t645 t650 t651 bt658.1 bt658.2 t698 true)))) else (laws_FnTwists.j0 k t635 t636 t637 t642 t643 t644 t645 t650 t651 bt658.1 bt658.2 t698 true)))) else (laws_FnTwists.j0 k t635 t636 t637 t642 t643 t644 t645 t650 t651 bt658.1 bt658.2 t698 true))))))))))))))) = some true := H
  have A6 := Aside0.mk A60
  clear A60
  replace H := Option.bind_eq_some_iff.mp H
  obtain ⟨⟨t654, t655⟩, A70, H⟩ := H
  replace H : ((impl_TwistMatrix.f k t635 t636).bind fun bt658 => ((spec_TwistMatrix.f k t635 t636).bind fun bt662 => ((spec_DrawApplyTable.f k l0).bind fun bt666 => ((impl_ApplyTable.f k bt666.1 bt666.2).bind fun bt672 => ((spec_ApplyTable.f k bt666.1 bt666.2).bind fun bt676 => ((spec_DrawTimesTable.f k l0).bind fun bt680 => ((impl_TimesTable.f k bt680.1 bt680.2).bind fun bt686 => ((spec_TimesTable.f k bt680.1 bt680.2).bind fun bt690 => ((spec_DrawIsSymplectic.f k l0).bind fun bt694 => ((impl_FormOf.f k t635 t636 t637).bind fun t698 => (if (t651 != t655) = true then (laws_FnTwists.j0 k t635 t636 t637 t642 t643 t644 t645 t650 t651 bt658.1 bt658.2 t698 true) else ((laws_sameInts.f k t650 t654).bind fun t699 => (if t699 = true then (if (bt658.2 != bt662.2) = true then (laws_FnTwists.j0 k t635 t636 t637 t642 t643 t644 t645 t650 t651 bt658.1 bt658.2 t698 true) else ((laws_sameLists.f k bt658.1 bt662.1).bind fun t700 => (if t700 = true then (if (bt672.2 != bt676.2) = true then (laws_FnTwists.j0 k t635 t636 t637 t642 t643 t644 t645 t650 t651 bt658.1 bt658.2 t698 true) else ((laws_sameInts.f k bt672.1 bt676.1).bind fun t701 => (if t701 = true then (if (bt686.2 != bt690.2) = true then (laws_FnTwists.j0 k t635 t636 t637 t642 t643 t644 t645 t650 t651 bt658.1 bt658.2 t698 true) else ((laws_sameLists.f k bt686.1 bt690.1).bind fun t702 => (if t702 = true then ((impl_IsSymplectic.f k bt694.1 bt694.2).bind fun t703 => ((spec_IsSymplectic.f k bt694.1 bt694.2).bind fun t704 => (if (t703 != t704) = true then (laws_FnTwists.j0 k t635 t636 t637 t642 t643 t644 t645 t650 t651 bt658.1 bt658.2 t698 true) else ((spec_FormOf.f k t635 t636 t637).bind fun t705 => (if t698 = t705 then ((impl_IsClass.f k t635 t636).bind fun t706 => ((spec_IsClass.f k t635 t636).bind fun t707 => (if (t706 != t707) = true then (laws_FnTwists.j0 k t635 t636 t637 t642 t643 t644 t645 t650 t651 bt658.1 bt658.2 t698 true) else ((impl_IsPrimitiveClass.f k t635 t636).bind fun t708 => ((spec_IsPrimitiveClass.f k t635 t636).bind fun t709 => (if (t708 != t709) = true then (laws_FnTwists.j0 k t635 t636 t637 t642 t643 t644 t645 t650 t651 bt658.1 bt658.2 t698 true) else ((impl_BraidHolds.f k t635 t636 t637).bind fun t710 => ((spec_BraidHolds.f k t635 t636 t637).bind fun t711 => (if (t710 != t711) = true then (laws_FnTwists.j0 k t635 t636 t637 t642 t643 t644 t645 t650 t651 bt658.1 bt658.2 t698 true) else ((impl_CommuteHolds.f k t635 t636 t637).bind fun t712 => ((spec_CommuteHolds.f k t635 t636 t637).bind fun t713 => (laws_FnTwists.j0 k t635 t636 t637 t642 t643 t644 t645 t650 t651 bt658.1 bt658.2 t698 (t712 != t713))))))))))))) else (laws_FnTwists.j0 k t635 t636 t637 t642 t643 t644 t645 t650 t651 bt658.1 bt658.2 t698 true)))))) else (laws_FnTwists.j0 k t635 t636 t637 t642 t643 t644 t645 t650 t651 bt658.1 bt658.2 t698 true)))) else (laws_FnTwists.j0 k t635 t636 t637 t642 t643 t644 t645 t650 t651 bt658.1 bt658.2 t698 true)))) else (laws_FnTwists.j0 k t635 t636 t637 t642 t643 t644 t645 t650 t651 bt658.1 bt658.2 t698 true)))) else (laws_FnTwists.j0 k t635 t636 t637 t642 t643 t644 t645 t650 t651 bt658.1 bt658.2 t698 true)))))))))))))) = some true := H
  have A7 := Aside0.mk A70
  clear A70
  replace H := Option.bind_eq_some_iff.mp H
  obtain ⟨⟨t658, t659⟩, A80, H⟩ := H
  replace H : ((spec_TwistMatrix.f k t635 t636).bind fun bt662 => ((spec_DrawApplyTable.f k l0).bind fun bt666 => ((impl_ApplyTable.f k bt666.1 bt666.2).bind fun bt672 => ((spec_ApplyTable.f k bt666.1 bt666.2).bind fun bt676 => ((spec_DrawTimesTable.f k l0).bind fun bt680 => ((impl_TimesTable.f k bt680.1 bt680.2).bind fun bt686 => ((spec_TimesTable.f k bt680.1 bt680.2).bind fun bt690 => ((spec_DrawIsSymplectic.f k l0).bind fun bt694 => ((impl_FormOf.f k t635 t636 t637).bind fun t698 => (if (t651 != t655) = true then (laws_FnTwists.j0 k t635 t636 t637 t642 t643 t644 t645 t650 t651 t658 t659 t698 true) else ((laws_sameInts.f k t650 t654).bind fun t699 => (if t699 = true then (if (t659 != bt662.2) = true then (laws_FnTwists.j0 k t635 t636 t637 t642 t643 t644 t645 t650 t651 t658 t659 t698 true) else ((laws_sameLists.f k t658 bt662.1).bind fun t700 => (if t700 = true then (if (bt672.2 != bt676.2) = true then (laws_FnTwists.j0 k t635 t636 t637 t642 t643 t644 t645 t650 t651 t658 t659 t698 true) else ((laws_sameInts.f k bt672.1 bt676.1).bind fun t701 => (if t701 = true then (if (bt686.2 != bt690.2) = true then (laws_FnTwists.j0 k t635 t636 t637 t642 t643 t644 t645 t650 t651 t658 t659 t698 true) else ((laws_sameLists.f k bt686.1 bt690.1).bind fun t702 => (if t702 = true then ((impl_IsSymplectic.f k bt694.1 bt694.2).bind fun t703 => ((spec_IsSymplectic.f k bt694.1 bt694.2).bind fun t704 => (if (t703 != t704) = true then (laws_FnTwists.j0 k t635 t636 t637 t642 t643 t644 t645 t650 t651 t658 t659 t698 true) else ((spec_FormOf.f k t635 t636 t637).bind fun t705 => (if t698 = t705 then ((impl_IsClass.f k t635 t636).bind fun t706 => ((spec_IsClass.f k t635 t636).bind fun t707 => (if (t706 != t707) = true then (laws_FnTwists.j0 k t635 t636 t637 t642 t643 t644 t645 t650 t651 t658 t659 t698 true) else ((impl_IsPrimitiveClass.f k t635 t636).bind fun t708 => ((spec_IsPrimitiveClass.f k t635 t636).bind fun t709 => (if (t708 != t709) = true then (laws_FnTwists.j0 k t635 t636 t637 t642 t643 t644 t645 t650 t651 t658 t659 t698 true) else ((impl_BraidHolds.f k t635 t636 t637).bind fun t710 => ((spec_BraidHolds.f k t635 t636 t637).bind fun t711 => (if (t710 != t711) = true then (laws_FnTwists.j0 k t635 t636 t637 t642 t643 t644 t645 t650 t651 t658 t659 t698 true) else ((impl_CommuteHolds.f k t635 t636 t637).bind fun t712 => ((spec_CommuteHolds.f k t635 t636 t637).bind fun t713 => (laws_FnTwists.j0 k t635 t636 t637 t642 t643 t644 t645 t650 t651 t658 t659 t698 (t712 != t713))))))))))))) else (laws_FnTwists.j0 k t635 t636 t637 t642 t643 t644 t645 t650 t651 t658 t659 t698 true)))))) else (laws_FnTwists.j0 k t635 t636 t637 t642 t643 t644 t645 t650 t651 t658 t659 t698 true)))) else (laws_FnTwists.j0 k t635 t636 t637 t642 t643 t644 t645 t650 t651 t658 t659 t698 true)))) else (laws_FnTwists.j0 k t635 t636 t637 t642 t643 t644 t645 t650 t651 t658 t659 t698 true)))) else (laws_FnTwists.j0 k t635 t636 t637 t642 t643 t644 t645 t650 t651 t658 t659 t698 true))))))))))))) = some true := H
  have A8 := Aside0.mk A80
  clear A80
  replace H := Option.bind_eq_some_iff.mp H
  obtain ⟨⟨t662, t663⟩, A90, H⟩ := H
  replace H : ((spec_DrawApplyTable.f k l0).bind fun bt666 => ((impl_ApplyTable.f k bt666.1 bt666.2).bind fun bt672 => ((spec_ApplyTable.f k bt666.1 bt666.2).bind fun bt676 => ((spec_DrawTimesTable.f k l0).bind fun bt680 => ((impl_TimesTable.f k bt680.1 bt680.2).bind fun bt686 => ((spec_TimesTable.f k bt680.1 bt680.2).bind fun bt690 => ((spec_DrawIsSymplectic.f k l0).bind fun bt694 => ((impl_FormOf.f k t635 t636 t637).bind fun t698 => (if (t651 != t655) = true then (laws_FnTwists.j0 k t635 t636 t637 t642 t643 t644 t645 t650 t651 t658 t659 t698 true) else ((laws_sameInts.f k t650 t654).bind fun t699 => (if t699 = true then (if (t659 != t663) = true then (laws_FnTwists.j0 k t635 t636 t637 t642 t643 t644 t645 t650 t651 t658 t659 t698 true) else ((laws_sameLists.f k t658 t662).bind fun t700 => (if t700 = true then (if (bt672.2 != bt676.2) = true then (laws_FnTwists.j0 k t635 t636 t637 t642 t643 t644 t645 t650 t651 t658 t659 t698 true) else ((laws_sameInts.f k bt672.1 bt676.1).bind fun t701 => (if t701 = true then (if (bt686.2 != bt690.2) = true then (laws_FnTwists.j0 k t635 t636 t637 t642 t643 t644 t645 t650 t651 t658 t659 t698 true) else ((laws_sameLists.f k bt686.1 bt690.1).bind fun t702 => (if t702 = true then ((impl_IsSymplectic.f k bt694.1 bt694.2).bind fun t703 => ((spec_IsSymplectic.f k bt694.1 bt694.2).bind fun t704 => (if (t703 != t704) = true then (laws_FnTwists.j0 k t635 t636 t637 t642 t643 t644 t645 t650 t651 t658 t659 t698 true) else ((spec_FormOf.f k t635 t636 t637).bind fun t705 => (if t698 = t705 then ((impl_IsClass.f k t635 t636).bind fun t706 => ((spec_IsClass.f k t635 t636).bind fun t707 => (if (t706 != t707) = true then (laws_FnTwists.j0 k t635 t636 t637 t642 t643 t644 t645 t650 t651 t658 t659 t698 true) else ((impl_IsPrimitiveClass.f k t635 t636).bind fun t708 => ((spec_IsPrimitiveClass.f k t635 t636).bind fun t709 => (if (t708 != t709) = true then (laws_FnTwists.j0 k t635 t636 t637 t642 t643 t644 t645 t650 t651 t658 t659 t698 true) else ((impl_BraidHolds.f k t635 t636 t637).bind fun t710 => ((spec_BraidHolds.f k t635 t636 t637).bind fun t711 => (if (t710 != t711) = true then (laws_FnTwists.j0 k t635 t636 t637 t642 t643 t644 t645 t650 t651 t658 t659 t698 true) else ((impl_CommuteHolds.f k t635 t636 t637).bind fun t712 => ((spec_CommuteHolds.f k t635 t636 t637).bind fun t713 => (laws_FnTwists.j0 k t635 t636 t637 t642 t643 t644 t645 t650 t651 t658 t659 t698 (t712 != t713))))))))))))) else (laws_FnTwists.j0 k t635 t636 t637 t642 t643 t644 t645 t650 t651 t658 t659 t698 true)))))) else (laws_FnTwists.j0 k t635 t636 t637 t642 t643 t644 t645 t650 t651 t658 t659 t698 true)))) else (laws_FnTwists.j0 k t635 t636 t637 t642 t643 t644 t645 t650 t651 t658 t659 t698 true)))) else (laws_FnTwists.j0 k t635 t636 t637 t642 t643 t644 t645 t650 t651 t658 t659 t698 true)))) else (laws_FnTwists.j0 k t635 t636 t637 t642 t643 t644 t645 t650 t651 t658 t659 t698 true)))))))))))) = some true := H
  have A9 := Aside0.mk A90
  clear A90
  replace H := Option.bind_eq_some_iff.mp H
  obtain ⟨⟨t666, t667⟩, A100, H⟩ := H
  replace H : ((impl_ApplyTable.f k t666 t667).bind fun bt672 => ((spec_ApplyTable.f k t666 t667).bind fun bt676 => ((spec_DrawTimesTable.f k l0).bind fun bt680 => ((impl_TimesTable.f k bt680.1 bt680.2).bind fun bt686 => ((spec_TimesTable.f k bt680.1 bt680.2).bind fun bt690 => ((spec_DrawIsSymplectic.f k l0).bind fun bt694 => ((impl_FormOf.f k t635 t636 t637).bind fun t698 => (if (t651 != t655) = true then (laws_FnTwists.j0 k t635 t636 t637 t642 t643 t644 t645 t650 t651 t658 t659 t698 true) else ((laws_sameInts.f k t650 t654).bind fun t699 => (if t699 = true then (if (t659 != t663) = true then (laws_FnTwists.j0 k t635 t636 t637 t642 t643 t644 t645 t650 t651 t658 t659 t698 true) else ((laws_sameLists.f k t658 t662).bind fun t700 => (if t700 = true then (if (bt672.2 != bt676.2) = true then (laws_FnTwists.j0 k t635 t636 t637 t642 t643 t644 t645 t650 t651 t658 t659 t698 true) else ((laws_sameInts.f k bt672.1 bt676.1).bind fun t701 => (if t701 = true then (if (bt686.2 != bt690.2) = true then (laws_FnTwists.j0 k t635 t636 t637 t642 t643 t644 t645 t650 t651 t658 t659 t698 true) else ((laws_sameLists.f k bt686.1 bt690.1).bind fun t702 => (if t702 = true then ((impl_IsSymplectic.f k bt694.1 bt694.2).bind fun t703 => ((spec_IsSymplectic.f k bt694.1 bt694.2).bind fun t704 => (if (t703 != t704) = true then (laws_FnTwists.j0 k t635 t636 t637 t642 t643 t644 t645 t650 t651 t658 t659 t698 true) else ((spec_FormOf.f k t635 t636 t637).bind fun t705 => (if t698 = t705 then ((impl_IsClass.f k t635 t636).bind fun t706 => ((spec_IsClass.f k t635 t636).bind fun t707 => (if (t706 != t707) = true then (laws_FnTwists.j0 k t635 t636 t637 t642 t643 t644 t645 t650 t651 t658 t659 t698 true) else ((impl_IsPrimitiveClass.f k t635 t636).bind fun t708 => ((spec_IsPrimitiveClass.f k t635 t636).bind fun t709 => (if (t708 != t709) = true then (laws_FnTwists.j0 k t635 t636 t637 t642 t643 t644 t645 t650 t651 t658 t659 t698 true) else ((impl_BraidHolds.f k t635 t636 t637).bind fun t710 => ((spec_BraidHolds.f k t635 t636 t637).bind fun t711 => (if (t710 != t711) = true then (laws_FnTwists.j0 k t635 t636 t637 t642 t643 t644 t645 t650 t651 t658 t659 t698 true) else ((impl_CommuteHolds.f k t635 t636 t637).bind fun t712 => ((spec_CommuteHolds.f k t635 t636 t637).bind fun t713 => (laws_FnTwists.j0 k t635 t636 t637 t642 t643 t644 t645 t650 t651 t658 t659 t698 (t712 != t713))))))))))))) else (laws_FnTwists.j0 k t635 t636 t637 t642 t643 t644 t645 t650 t651 t658 t659 t698 true)))))) else (laws_FnTwists.j0 k t635 t636 t637 t642 t643 t644 t645 t650 t651 t658 t659 t698 true)))) else (laws_FnTwists.j0 k t635 t636 t637 t642 t643 t644 t645 t650 t651 t658 t659 t698 true)))) else (laws_FnTwists.j0 k t635 t636 t637 t642 t643 t644 t645 t650 t651 t658 t659 t698 true)))) else (laws_FnTwists.j0 k t635 t636 t637 t642 t643 t644 t645 t650 t651 t658 t659 t698 true))))))))))) = some true := H
  have A10 := Aside0.mk A100
  clear A100
  replace H := Option.bind_eq_some_iff.mp H
  obtain ⟨⟨t672, t673⟩, A110, H⟩ := H
  replace H : ((spec_ApplyTable.f k t666 t667).bind fun bt676 => ((spec_DrawTimesTable.f k l0).bind fun bt680 => ((impl_TimesTable.f k bt680.1 bt680.2).bind fun bt686 => ((spec_TimesTable.f k bt680.1 bt680.2).bind fun bt690 => ((spec_DrawIsSymplectic.f k l0).bind fun bt694 => ((impl_FormOf.f k t635 t636 t637).bind fun t698 => (if (t651 != t655) = true then (laws_FnTwists.j0 k t635 t636 t637 t642 t643 t644 t645 t650 t651 t658 t659 t698 true) else ((laws_sameInts.f k t650 t654).bind fun t699 => (if t699 = true then (if (t659 != t663) = true then (laws_FnTwists.j0 k t635 t636 t637 t642 t643 t644 t645 t650 t651 t658 t659 t698 true) else ((laws_sameLists.f k t658 t662).bind fun t700 => (if t700 = true then (if (t673 != bt676.2) = true then (laws_FnTwists.j0 k t635 t636 t637 t642 t643 t644 t645 t650 t651 t658 t659 t698 true) else ((laws_sameInts.f k t672 bt676.1).bind fun t701 => (if t701 = true then (if (bt686.2 != bt690.2) = true then (laws_FnTwists.j0 k t635 t636 t637 t642 t643 t644 t645 t650 t651 t658 t659 t698 true) else ((laws_sameLists.f k bt686.1 bt690.1).bind fun t702 => (if t702 = true then ((impl_IsSymplectic.f k bt694.1 bt694.2).bind fun t703 => ((spec_IsSymplectic.f k bt694.1 bt694.2).bind fun t704 => (if (t703 != t704) = true then (laws_FnTwists.j0 k t635 t636 t637 t642 t643 t644 t645 t650 t651 t658 t659 t698 true) else ((spec_FormOf.f k t635 t636 t637).bind fun t705 => (if t698 = t705 then ((impl_IsClass.f k t635 t636).bind fun t706 => ((spec_IsClass.f k t635 t636).bind fun t707 => (if (t706 != t707) = true then (laws_FnTwists.j0 k t635 t636 t637 t642 t643 t644 t645 t650 t651 t658 t659 t698 true) else ((impl_IsPrimitiveClass.f k t635 t636).bind fun t708 => ((spec_IsPrimitiveClass.f k t635 t636).bind fun t709 => (if (t708 != t709) = true then (laws_FnTwists.j0 k t635 t636 t637 t642 t643 t644 t645 t650 t651 t658 t659 t698 true) else ((impl_BraidHolds.f k t635 t636 t637).bind fun t710 => ((spec_BraidHolds.f k t635 t636 t637).bind fun t711 => (if (t710 != t711) = true then (laws_FnTwists.j0 k t635 t636 t637 t642 t643 t644 t645 t650 t651 t658 t659 t698 true) else ((impl_CommuteHolds.f k t635 t636 t637).bind fun t712 => ((spec_CommuteHolds.f k t635 t636 t637).bind fun t713 => (laws_FnTwists.j0 k t635 t636 t637 t642 t643 t644 t645 t650 t651 t658 t659 t698 (t712 != t713))))))))))))) else (laws_FnTwists.j0 k t635 t636 t637 t642 t643 t644 t645 t650 t651 t658 t659 t698 true)))))) else (laws_FnTwists.j0 k t635 t636 t637 t642 t643 t644 t645 t650 t651 t658 t659 t698 true)))) else (laws_FnTwists.j0 k t635 t636 t637 t642 t643 t644 t645 t650 t651 t658 t659 t698 true)))) else (laws_FnTwists.j0 k t635 t636 t637 t642 t643 t644 t645 t650 t651 t658 t659 t698 true)))) else (laws_FnTwists.j0 k t635 t636 t637 t642 t643 t644 t645 t650 t651 t658 t659 t698 true)))))))))) = some true := H
  have A11 := Aside0.mk A110
  clear A110
  replace H := Option.bind_eq_some_iff.mp H
  obtain ⟨⟨t676, t677⟩, A120, H⟩ := H
  replace H : ((spec_DrawTimesTable.f k l0).bind fun bt680 => ((impl_TimesTable.f k bt680.1 bt680.2).bind fun bt686 => ((spec_TimesTable.f k bt680.1 bt680.2).bind fun bt690 => ((spec_DrawIsSymplectic.f k l0).bind fun bt694 => ((impl_FormOf.f k t635 t636 t637).bind fun t698 => (if (t651 != t655) = true then (laws_FnTwists.j0 k t635 t636 t637 t642 t643 t644 t645 t650 t651 t658 t659 t698 true) else ((laws_sameInts.f k t650 t654).bind fun t699 => (if t699 = true then (if (t659 != t663) = true then (laws_FnTwists.j0 k t635 t636 t637 t642 t643 t644 t645 t650 t651 t658 t659 t698 true) else ((laws_sameLists.f k t658 t662).bind fun t700 => (if t700 = true then (if (t673 != t677) = true then (laws_FnTwists.j0 k t635 t636 t637 t642 t643 t644 t645 t650 t651 t658 t659 t698 true) else ((laws_sameInts.f k t672 t676).bind fun t701 => (if t701 = true then (if (bt686.2 != bt690.2) = true then (laws_FnTwists.j0 k t635 t636 t637 t642 t643 t644 t645 t650 t651 t658 t659 t698 true) else ((laws_sameLists.f k bt686.1 bt690.1).bind fun t702 => (if t702 = true then ((impl_IsSymplectic.f k bt694.1 bt694.2).bind fun t703 => ((spec_IsSymplectic.f k bt694.1 bt694.2).bind fun t704 => (if (t703 != t704) = true then (laws_FnTwists.j0 k t635 t636 t637 t642 t643 t644 t645 t650 t651 t658 t659 t698 true) else ((spec_FormOf.f k t635 t636 t637).bind fun t705 => (if t698 = t705 then ((impl_IsClass.f k t635 t636).bind fun t706 => ((spec_IsClass.f k t635 t636).bind fun t707 => (if (t706 != t707) = true then (laws_FnTwists.j0 k t635 t636 t637 t642 t643 t644 t645 t650 t651 t658 t659 t698 true) else ((impl_IsPrimitiveClass.f k t635 t636).bind fun t708 => ((spec_IsPrimitiveClass.f k t635 t636).bind fun t709 => (if (t708 != t709) = true then (laws_FnTwists.j0 k t635 t636 t637 t642 t643 t644 t645 t650 t651 t658 t659 t698 true) else ((impl_BraidHolds.f k t635 t636 t637).bind fun t710 => ((spec_BraidHolds.f k t635 t636 t637).bind fun t711 => (if (t710 != t711) = true then (laws_FnTwists.j0 k t635 t636 t637 t642 t643 t644 t645 t650 t651 t658 t659 t698 true) else ((impl_CommuteHolds.f k t635 t636 t637).bind fun t712 => ((spec_CommuteHolds.f k t635 t636 t637).bind fun t713 => (laws_FnTwists.j0 k t635 t636 t637 t642 t643 t644 t645 t650 t651 t658 t659 t698 (t712 != t713))))))))))))) else (laws_FnTwists.j0 k t635 t636 t637 t642 t643 t644 t645 t650 t651 t658 t659 t698 true)))))) else (laws_FnTwists.j0 k t635 t636 t637 t642 t643 t644 t645 t650 t651 t658 t659 t698 true)))) else (laws_FnTwists.j0 k t635 t636 t637 t642 t643 t644 t645 t650 t651 t658 t659 t698 true)))) else (laws_FnTwists.j0 k t635 t636 t637 t642 t643 t644 t645 t650 t651 t658 t659 t698 true)))) else (laws_FnTwists.j0 k t635 t636 t637 t642 t643 t644 t645 t650 t651 t658 t659 t698 true))))))))) = some true := H
  have A12 := Aside0.mk A120
  clear A120
  replace H := Option.bind_eq_some_iff.mp H
  obtain ⟨⟨t680, t681⟩, A130, H⟩ := H
  replace H : ((impl_TimesTable.f k t680 t681).bind fun bt686 => ((spec_TimesTable.f k t680 t681).bind fun bt690 => ((spec_DrawIsSymplectic.f k l0).bind fun bt694 => ((impl_FormOf.f k t635 t636 t637).bind fun t698 => (if (t651 != t655) = true then (laws_FnTwists.j0 k t635 t636 t637 t642 t643 t644 t645 t650 t651 t658 t659 t698 true) else ((laws_sameInts.f k t650 t654).bind fun t699 => (if t699 = true then (if (t659 != t663) = true then (laws_FnTwists.j0 k t635 t636 t637 t642 t643 t644 t645 t650 t651 t658 t659 t698 true) else ((laws_sameLists.f k t658 t662).bind fun t700 => (if t700 = true then (if (t673 != t677) = true then (laws_FnTwists.j0 k t635 t636 t637 t642 t643 t644 t645 t650 t651 t658 t659 t698 true) else ((laws_sameInts.f k t672 t676).bind fun t701 => (if t701 = true then (if (bt686.2 != bt690.2) = true then (laws_FnTwists.j0 k t635 t636 t637 t642 t643 t644 t645 t650 t651 t658 t659 t698 true) else ((laws_sameLists.f k bt686.1 bt690.1).bind fun t702 => (if t702 = true then ((impl_IsSymplectic.f k bt694.1 bt694.2).bind fun t703 => ((spec_IsSymplectic.f k bt694.1 bt694.2).bind fun t704 => (if (t703 != t704) = true then (laws_FnTwists.j0 k t635 t636 t637 t642 t643 t644 t645 t650 t651 t658 t659 t698 true) else ((spec_FormOf.f k t635 t636 t637).bind fun t705 => (if t698 = t705 then ((impl_IsClass.f k t635 t636).bind fun t706 => ((spec_IsClass.f k t635 t636).bind fun t707 => (if (t706 != t707) = true then (laws_FnTwists.j0 k t635 t636 t637 t642 t643 t644 t645 t650 t651 t658 t659 t698 true) else ((impl_IsPrimitiveClass.f k t635 t636).bind fun t708 => ((spec_IsPrimitiveClass.f k t635 t636).bind fun t709 => (if (t708 != t709) = true then (laws_FnTwists.j0 k t635 t636 t637 t642 t643 t644 t645 t650 t651 t658 t659 t698 true) else ((impl_BraidHolds.f k t635 t636 t637).bind fun t710 => ((spec_BraidHolds.f k t635 t636 t637).bind fun t711 => (if (t710 != t711) = true then (laws_FnTwists.j0 k t635 t636 t637 t642 t643 t644 t645 t650 t651 t658 t659 t698 true) else ((impl_CommuteHolds.f k t635 t636 t637).bind fun t712 => ((spec_CommuteHolds.f k t635 t636 t637).bind fun t713 => (laws_FnTwists.j0 k t635 t636 t637 t642 t643 t644 t645 t650 t651 t658 t659 t698 (t712 != t713))))))))))))) else (laws_FnTwists.j0 k t635 t636 t637 t642 t643 t644 t645 t650 t651 t658 t659 t698 true)))))) else (laws_FnTwists.j0 k t635 t636 t637 t642 t643 t644 t645 t650 t651 t658 t659 t698 true)))) else (laws_FnTwists.j0 k t635 t636 t637 t642 t643 t644 t645 t650 t651 t658 t659 t698 true)))) else (laws_FnTwists.j0 k t635 t636 t637 t642 t643 t644 t645 t650 t651 t658 t659 t698 true)))) else (laws_FnTwists.j0 k t635 t636 t637 t642 t643 t644 t645 t650 t651 t658 t659 t698 true)))))))) = some true := H
  have A13 := Aside0.mk A130
  clear A130
  replace H := Option.bind_eq_some_iff.mp H
  obtain ⟨⟨t686, t687⟩, A140, H⟩ := H
  replace H : ((spec_TimesTable.f k t680 t681).bind fun bt690 => ((spec_DrawIsSymplectic.f k l0).bind fun bt694 => ((impl_FormOf.f k t635 t636 t637).bind fun t698 => (if (t651 != t655) = true then (laws_FnTwists.j0 k t635 t636 t637 t642 t643 t644 t645 t650 t651 t658 t659 t698 true) else ((laws_sameInts.f k t650 t654).bind fun t699 => (if t699 = true then (if (t659 != t663) = true then (laws_FnTwists.j0 k t635 t636 t637 t642 t643 t644 t645 t650 t651 t658 t659 t698 true) else ((laws_sameLists.f k t658 t662).bind fun t700 => (if t700 = true then (if (t673 != t677) = true then (laws_FnTwists.j0 k t635 t636 t637 t642 t643 t644 t645 t650 t651 t658 t659 t698 true) else ((laws_sameInts.f k t672 t676).bind fun t701 => (if t701 = true then (if (t687 != bt690.2) = true then (laws_FnTwists.j0 k t635 t636 t637 t642 t643 t644 t645 t650 t651 t658 t659 t698 true) else ((laws_sameLists.f k t686 bt690.1).bind fun t702 => (if t702 = true then ((impl_IsSymplectic.f k bt694.1 bt694.2).bind fun t703 => ((spec_IsSymplectic.f k bt694.1 bt694.2).bind fun t704 => (if (t703 != t704) = true then (laws_FnTwists.j0 k t635 t636 t637 t642 t643 t644 t645 t650 t651 t658 t659 t698 true) else ((spec_FormOf.f k t635 t636 t637).bind fun t705 => (if t698 = t705 then ((impl_IsClass.f k t635 t636).bind fun t706 => ((spec_IsClass.f k t635 t636).bind fun t707 => (if (t706 != t707) = true then (laws_FnTwists.j0 k t635 t636 t637 t642 t643 t644 t645 t650 t651 t658 t659 t698 true) else ((impl_IsPrimitiveClass.f k t635 t636).bind fun t708 => ((spec_IsPrimitiveClass.f k t635 t636).bind fun t709 => (if (t708 != t709) = true then (laws_FnTwists.j0 k t635 t636 t637 t642 t643 t644 t645 t650 t651 t658 t659 t698 true) else ((impl_BraidHolds.f k t635 t636 t637).bind fun t710 => ((spec_BraidHolds.f k t635 t636 t637).bind fun t711 => (if (t710 != t711) = true then (laws_FnTwists.j0 k t635 t636 t637 t642 t643 t644 t645 t650 t651 t658 t659 t698 true) else ((impl_CommuteHolds.f k t635 t636 t637).bind fun t712 => ((spec_CommuteHolds.f k t635 t636 t637).bind fun t713 => (laws_FnTwists.j0 k t635 t636 t637 t642 t643 t644 t645 t650 t651 t658 t659 t698 (t712 != t713))))))))))))) else (laws_FnTwists.j0 k t635 t636 t637 t642 t643 t644 t645 t650 t651 t658 t659 t698 true)))))) else (laws_FnTwists.j0 k t635 t636 t637 t642 t643 t644 t645 t650 t651 t658 t659 t698 true)))) else (laws_FnTwists.j0 k t635 t636 t637 t642 t643 t644 t645 t650 t651 t658 t659 t698 true)))) else (laws_FnTwists.j0 k t635 t636 t637 t642 t643 t644 t645 t650 t651 t658 t659 t698 true)))) else (laws_FnTwists.j0 k t635 t636 t637 t642 t643 t644 t645 t650 t651 t658 t659 t698 true))))))) = some true := H
  have A14 := Aside0.mk A140
  clear A140
  replace H := Option.bind_eq_some_iff.mp H
  obtain ⟨⟨t690, t691⟩, A150, H⟩ := H
  replace H : ((spec_DrawIsSymplectic.f k l0).bind fun bt694 => ((impl_FormOf.f k t635 t636 t637).bind fun t698 => (if (t651 != t655) = true then (laws_FnTwists.j0 k t635 t636 t637 t642 t643 t644 t645 t650 t651 t658 t659 t698 true) else ((laws_sameInts.f k t650 t654).bind fun t699 => (if t699 = true then (if (t659 != t663) = true then (laws_FnTwists.j0 k t635 t636 t637 t642 t643 t644 t645 t650 t651 t658 t659 t698 true) else ((laws_sameLists.f k t658 t662).bind fun t700 => (if t700 = true then (if (t673 != t677) = true then (laws_FnTwists.j0 k t635 t636 t637 t642 t643 t644 t645 t650 t651 t658 t659 t698 true) else ((laws_sameInts.f k t672 t676).bind fun t701 => (if t701 = true then (if (t687 != t691) = true then (laws_FnTwists.j0 k t635 t636 t637 t642 t643 t644 t645 t650 t651 t658 t659 t698 true) else ((laws_sameLists.f k t686 t690).bind fun t702 => (if t702 = true then ((impl_IsSymplectic.f k bt694.1 bt694.2).bind fun t703 => ((spec_IsSymplectic.f k bt694.1 bt694.2).bind fun t704 => (if (t703 != t704) = true then (laws_FnTwists.j0 k t635 t636 t637 t642 t643 t644 t645 t650 t651 t658 t659 t698 true) else ((spec_FormOf.f k t635 t636 t637).bind fun t705 => (if t698 = t705 then ((impl_IsClass.f k t635 t636).bind fun t706 => ((spec_IsClass.f k t635 t636).bind fun t707 => (if (t706 != t707) = true then (laws_FnTwists.j0 k t635 t636 t637 t642 t643 t644 t645 t650 t651 t658 t659 t698 true) else ((impl_IsPrimitiveClass.f k t635 t636).bind fun t708 => ((spec_IsPrimitiveClass.f k t635 t636).bind fun t709 => (if (t708 != t709) = true then (laws_FnTwists.j0 k t635 t636 t637 t642 t643 t644 t645 t650 t651 t658 t659 t698 true) else ((impl_BraidHolds.f k t635 t636 t637).bind fun t710 => ((spec_BraidHolds.f k t635 t636 t637).bind fun t711 => (if (t710 != t711) = true then (laws_FnTwists.j0 k t635 t636 t637 t642 t643 t644 t645 t650 t651 t658 t659 t698 true) else ((impl_CommuteHolds.f k t635 t636 t637).bind fun t712 => ((spec_CommuteHolds.f k t635 t636 t637).bind fun t713 => (laws_FnTwists.j0 k t635 t636 t637 t642 t643 t644 t645 t650 t651 t658 t659 t698 (t712 != t713))))))))))))) else (laws_FnTwists.j0 k t635 t636 t637 t642 t643 t644 t645 t650 t651 t658 t659 t698 true)))))) else (laws_FnTwists.j0 k t635 t636 t637 t642 t643 t644 t645 t650 t651 t658 t659 t698 true)))) else (laws_FnTwists.j0 k t635 t636 t637 t642 t643 t644 t645 t650 t651 t658 t659 t698 true)))) else (laws_FnTwists.j0 k t635 t636 t637 t642 t643 t644 t645 t650 t651 t658 t659 t698 true)))) else (laws_FnTwists.j0 k t635 t636 t637 t642 t643 t644 t645 t650 t651 t658 t659 t698 true)))))) = some true := H
  have A15 := Aside0.mk A150
  clear A150
  replace H := Option.bind_eq_some_iff.mp H
  obtain ⟨⟨t694, t695⟩, A160, H⟩ := H
  replace H : ((impl_FormOf.f k t635 t636 t637).bind fun t698 => (if (t651 != t655) = true then (laws_FnTwists.j0 k t635 t636 t637 t642 t643 t644 t645 t650 t651 t658 t659 t698 true) else ((laws_sameInts.f k t650 t654).bind fun t699 => (if t699 = true then (if (t659 != t663) = true then (laws_FnTwists.j0 k t635 t636 t637 t642 t643 t644 t645 t650 t651 t658 t659 t698 true) else ((laws_sameLists.f k t658 t662).bind fun t700 => (if t700 = true then (if (t673 != t677) = true then (laws_FnTwists.j0 k t635 t636 t637 t642 t643 t644 t645 t650 t651 t658 t659 t698 true) else ((laws_sameInts.f k t672 t676).bind fun t701 => (if t701 = true then (if (t687 != t691) = true then (laws_FnTwists.j0 k t635 t636 t637 t642 t643 t644 t645 t650 t651 t658 t659 t698 true) else ((laws_sameLists.f k t686 t690).bind fun t702 => (if t702 = true then ((impl_IsSymplectic.f k t694 t695).bind fun t703 => ((spec_IsSymplectic.f k t694 t695).bind fun t704 => (if (t703 != t704) = true then (laws_FnTwists.j0 k t635 t636 t637 t642 t643 t644 t645 t650 t651 t658 t659 t698 true) else ((spec_FormOf.f k t635 t636 t637).bind fun t705 => (if t698 = t705 then ((impl_IsClass.f k t635 t636).bind fun t706 => ((spec_IsClass.f k t635 t636).bind fun t707 => (if (t706 != t707) = true then (laws_FnTwists.j0 k t635 t636 t637 t642 t643 t644 t645 t650 t651 t658 t659 t698 true) else ((impl_IsPrimitiveClass.f k t635 t636).bind fun t708 => ((spec_IsPrimitiveClass.f k t635 t636).bind fun t709 => (if (t708 != t709) = true then (laws_FnTwists.j0 k t635 t636 t637 t642 t643 t644 t645 t650 t651 t658 t659 t698 true) else ((impl_BraidHolds.f k t635 t636 t637).bind fun t710 => ((spec_BraidHolds.f k t635 t636 t637).bind fun t711 => (if (t710 != t711) = true then (laws_FnTwists.j0 k t635 t636 t637 t642 t643 t644 t645 t650 t651 t658 t659 t698 true) else ((impl_CommuteHolds.f k t635 t636 t637).bind fun t712 => ((spec_CommuteHolds.f k t635 t636 t637).bind fun t713 => (laws_FnTwists.j0 k t635 t636 t637 t642 t643 t644 t645 t650 t651 t658 t659 t698 (t712 != t713))))))))))))) else (laws_FnTwists.j0 k t635 t636 t637 t642 t643 t644 t645 t650 t651 t658 t659 t698 true)))))) else (laws_FnTwists.j0 k t635 t636 t637 t642 t643 t644 t645 t650 t651 t658 t659 t698 true)))) else (laws_FnTwists.j0 k t635 t636 t637 t642 t643 t644 t645 t650 t651 t658 t659 t698 true)))) else (laws_FnTwists.j0 k t635 t636 t637 t642 t643 t644 t645 t650 t651 t658 t659 t698 true)))) else (laws_FnTwists.j0 k t635 t636 t637 t642 t643 t644 t645 t650 t651 t658 t659 t698 true))))) = some true := H
  have A16 := Aside0.mk A160
  clear A160
  replace H := Option.bind_eq_some_iff.mp H
  obtain ⟨t698, A170, H⟩ := H
  have A17 := Aside0.mk A170
  clear A170
  have HC18 := Aside0.mk H
  go_enter Try.func6, Try.ntmps6
  go_upto_region 17 with (first | ((with_reducible refine gate_callee (f := 7) rfl ?_); refine goesL_ (some 42) rfl rfl Try.func7 (by kernel_rfl) rfl #[.slice A0 l0.length c0] rfl (by (try simp only [List.map_toArray, List.map_cons, List.map_nil]); first | done | rfl | (simp only [List.length_drop, List.length_take]; rfl)) ?_; (with_reducible refine (laws_big.calls _ _ l0 false _ ?side1 ?side2 A2.out).mono ?_); (case side1 => exact C_l HR0.out); (case side2 => exact HC0.out); rintro e w' ⟨rfl, ⟨nd, rfl⟩⟩; refine ⟨_, rfl, ?_⟩) | ((with_reducible refine gate_callee (f := 73) rfl ?_); refine goesL_ (some 45) rfl rfl Try.func73 (by kernel_rfl) rfl #[.slice A0 l0.length c0] rfl (by (try simp only [List.map_toArray, List.map_cons, List.map_nil]); first | done | rfl | (simp only [List.length_drop, List.length_take]; rfl)) ?_; (with_reducible refine (spec_DrawFormOf.calls k _ _ l0 t635 t636 t637 _ ?side1 ?side2 A4.out).mono ?_); (case side1 => exact C_l HR0.out); (case side2 => exact HC0.out); rintro e w19 ⟨v638, v640, rfl, ho0, ho1, hb⟩; refine ⟨_, rfl, ?_⟩; have n0_ := Aside0.mk (Kd.R_lower ho0 (below_size (B_l HB.out))); have n1_ := Aside0.mk (Kd.R_lower ho1 (below_size (B_l HB.out))); have n2_ := Aside0.mk (below_step (B_l HB.out) hb); clear HB; have HO639 := n0_; have HO641 := n1_; have HB := n2_; clear n0_ n1_ n2_) | ((with_reducible refine gate_callee (f := 74) rfl ?_); refine goesL_ (some 51) rfl rfl Try.func74 (by kernel_rfl) rfl #[.slice A0 l0.length c0] rfl (by (try simp only [List.map_toArray, List.map_cons, List.map_nil]); first | done | rfl | (simp only [List.length_drop, List.length_take]; rfl)) ?_; (with_reducible refine (spec_DrawTwistClass.calls k _ _ l0 t642 t643 t644 t645 _ ?side1 ?side2 A5.out).mono ?_); (case side1 => exact C_l (Kd.C_below HR0.out HB.out)); (case side2 => exact HC0.out); rintro e w20 ⟨v646, v648, rfl, ho0, ho1, hb⟩; refine ⟨_, rfl, ?_⟩; have n0_ := Aside0.mk (Kd.R_mono (Kd.R_told (Kd.R_told (Kd.R_old (R_l HO639.out) hb) (Kd.R_base ho0)) (Kd.R_base ho1)) (fun _ h_ => h_.1)); have n1_ := Aside0.mk (Kd.R_mono (Kd.R_told (Kd.R_told (Kd.R_old (R_l HO641.out) hb) (Kd.R_base ho0)) (Kd.R_base ho1)) (fun _ h_ => h_.1)); have n2_ := Aside0.mk (Kd.R_lower (Kd.R_new' (Kd.R_new' ho0 (Kd.R_lt (R_l HO639.out))) (Kd.R_lt (R_l HO641.out))) (below_size (B_l HB.out))); have n3_ := Aside0.mk (Kd.R_lower (Kd.R_new' (Kd.R_new' ho1 (Kd.R_lt (R_l HO639.out))) (Kd.R_lt (R_l HO641.out))) (below_size (B_l HB.out))); have n4_ := Aside0.mk (below_step (B_l HB.out) hb); clear HO639; clear HO641; clear HB; have HO639 := n0_; have HO641 := n1_; have HO647 := n2_; have HO649 := n3_; have HB := n4_; clear n0_ n1_ n2_ n3_ n4_; obtain ⟨Ao21, co21, eo21⟩ := Kd.R_slice HO647.out; subst eo21; obtain ⟨Ao22, co22, eo22⟩ := Kd.R_slice HO649.out; subst eo22) | ((with_reducible refine gate_callee (f := 75) rfl ?_); refine goesL_ (some 61) rfl rfl Try.func75 (by kernel_rfl) rfl #[.int .i64 t642, .slice Ao21 t643.length co21, .slice Ao22 t644.length co22, .int .i64 t645] rfl (by (try simp only [List.map_toArray, List.map_cons, List.map_nil]); first | done | rfl | (simp only [List.length_drop, List.length_take]; rfl)) ?_; (with_reducible refine (impl_TwistClass.calls k t642 _ _ t643 _ _ t644 t645 t650 t651 _ ?side1 ?side2 ?side3 ?side4 A6.out).mono ?_); (case side1 => exact C_l ((Kd.R_reads' HO647.out).2.2)); (case side2 => exact (Kd.R_reads' HO647.out).2.1); (case side3 => exact C_l ((Kd.R_reads' HO649.out).2.2)); (case side4 => exact (Kd.R_reads' HO649.out).2.1); rintro e w23 ⟨v652, rfl, ho0, hb⟩; refine ⟨_, rfl, ?_⟩; have n0_ := Aside0.mk (Kd.R_elder' (R_l HO639.out) (Kd.R_base ho0) hb); have n1_ := Aside0.mk (Kd.R_elder' (R_l HO641.out) (Kd.R_base ho0) hb); have n2_ := Aside0.mk (Kd.R_elder' (R_l HO647.out) (Kd.R_base ho0) hb); have n3_ := Aside0.mk (Kd.R_elder' (R_l HO649.out) (Kd.R_base ho0) hb); have n4_ := Aside0.mk (Kd.R_lower (Kd.R_new' (Kd.R_new' (Kd.R_new' (Kd.R_new' ho0 (Kd.R_lt (R_l HO639.out))) (Kd.R_lt (R_l HO641.out))) (Kd.R_lt (R_l HO647.out))) (Kd.R_lt (R_l HO649.out))) (below_size (B_l HB.out))); have n5_ := Aside0.mk (below_step (B_l HB.out) hb); clear HO639; clear HO641; clear HO647; clear HO649; clear HB; have HO639 := n0_; have HO641 := n1_; have HO647 := n2_; have HO649 := n3_; have HO653 := n4_; have HB := n5_; clear n0_ n1_ n2_ n3_ n4_ n5_) | ((with_reducible refine gate_callee (f := 76) rfl ?_); refine goesL_ (some 69) rfl rfl Try.func76 (by kernel_rfl) rfl #[.int .i64 t642, .slice Ao21 t643.length co21, .slice Ao22 t644.length co22, .int .i64 t645] rfl (by (try simp only [List.map_toArray, List.map_cons, List.map_nil]); first | done | rfl | (simp only [List.length_drop, List.length_take]; rfl)) ?_; (with_reducible refine (spec_TwistClass.calls k t642 _ _ t643 _ _ t644 t645 t654 t655 _ ?side1 ?side2 ?side3 ?side4 A7.out).mono ?_); (case side1 => exact C_l ((Kd.R_reads' HO647.out).2.2)); (case side2 => exact (Kd.R_reads' HO647.out).2.1); (case side3 => exact C_l ((Kd.R_reads' HO649.out).2.2)); (case side4 => exact (Kd.R_reads' HO649.out).2.1); rintro e w24 ⟨v656, rfl, ho0, hb⟩; refine ⟨_, rfl, ?_⟩; have n0_ := Aside0.mk (Kd.R_elder' (R_l HO639.out) (Kd.R_base ho0) hb); have n1_ := Aside0.mk (Kd.R_elder' (R_l HO641.out) (Kd.R_base ho0) hb); have n2_ := Aside0.mk (Kd.R_elder' (R_l HO647.out) (Kd.R_base ho0) hb); have n3_ := Aside0.mk (Kd.R_elder' (R_l HO649.out) (Kd.R_base ho0) hb); have n4_ := Aside0.mk (Kd.R_elder' (R_l HO653.out) (Kd.R_base ho0) hb); have n5_ := Aside0.mk (Kd.R_lower (Kd.R_new' (Kd.R_new' (Kd.R_new' (Kd.R_new' (Kd.R_new' ho0 (Kd.R_lt (R_l HO639.out))) (Kd.R_lt (R_l HO641.out))) (Kd.R_lt (R_l HO647.out))) (Kd.R_lt (R_l HO649.out))) (Kd.R_lt (R_l HO653.out))) (below_size (B_l HB.out))); have n6_ := Aside0.mk (below_step (B_l HB.out) hb); clear HO639; clear HO641; clear HO647; clear HO649; clear HO653; clear HB; have HO639 := n0_; have HO641 := n1_; have HO647 := n2_; have HO649 := n3_; have HO653 := n4_; have HO657 := n5_; have HB := n6_; clear n0_ n1_ n2_ n3_ n4_ n5_ n6_; obtain ⟨Ao25, co25, eo25⟩ := Kd.R_slice HO639.out; subst eo25) | ((with_reducible refine gate_callee (f := 77) rfl ?_); refine goesL_ (some 75) rfl rfl Try.func77 (by kernel_rfl) rfl #[.int .i64 t635, .slice Ao25 t636.length co25] rfl (by (try simp only [List.map_toArray, List.map_cons, List.map_nil]); first | done | rfl | (simp only [List.length_drop, List.length_take]; rfl)) ?_; (with_reducible refine (impl_TwistMatrix.calls k t635 _ _ t636 t658 t659 _ ?side1 ?side2 A8.out).mono ?_); (case side1 => exact C_l ((Kd.R_reads' HO639.out).2.2)); (case side2 => exact (Kd.R_reads' HO639.out).2.1); rintro e w26 ⟨v660, rfl, ho0, hb⟩; refine ⟨_, rfl, ?_⟩; have n0_ := Aside0.mk (Kd.R_below (R_l HO639.out) hb); have n1_ := Aside0.mk (Kd.R_below (R_l HO641.out) hb); have n2_ := Aside0.mk (Kd.R_below (R_l HO647.out) hb); have n3_ := Aside0.mk (Kd.R_below (R_l HO649.out) hb); have n4_ := Aside0.mk (Kd.R_below (R_l HO653.out) hb); have n5_ := Aside0.mk (Kd.R_below (R_l HO657.out) hb); have n6_ := Aside0.mk (Kd.S_lower (Kd.S_new' (Kd.S_new' (Kd.S_new' (Kd.S_new' (Kd.S_new' (Kd.S_new' ho0 (Kd.R_lt (R_l HO639.out))) (Kd.R_lt (R_l HO641.out))) (Kd.R_lt (R_l HO647.out))) (Kd.R_lt (R_l HO649.out))) (Kd.R_lt (R_l HO653.out))) (Kd.R_lt (R_l HO657.out))) (below_size (B_l HB.out))); have n7_ := Aside0.mk (below_step (B_l HB.out) hb); clear HO639; clear HO641; clear HO647; clear HO649; clear HO653; clear HO657; clear HB; have HO639 := n0_; have HO641 := n1_; have HO647 := n2_; have HO649 := n3_; have HO653 := n4_; have HO657 := n5_; have HO661 := n6_; have HB := n7_; clear n0_ n1_ n2_ n3_ n4_ n5_ n6_ n7_) | ((with_reducible refine gate_callee (f := 78) rfl ?_); refine goesL_ (some 81) rfl rfl Try.func78 (by kernel_rfl) rfl #[.int .i64 t635, .slice Ao25 t636.length co25] rfl (by (try simp only [List.map_toArray, List.map_cons, List.map_nil]); first | done | rfl | (simp only [List.length_drop, List.length_take]; rfl)) ?_; (with_reducible refine (spec_TwistMatrix.calls k t635 _ _ t636 t662 t663 _ ?side1 ?side2 A9.out).mono ?_); (case side1 => exact C_l ((Kd.R_reads' HO639.out).2.2)); (case side2 => exact (Kd.R_reads' HO639.out).2.1); rintro e w27 ⟨v664, rfl, ho0, hb⟩; refine ⟨_, rfl, ?_⟩; have n0_ := Aside0.mk (Kd.R_below (R_l HO639.out) hb); have n1_ := Aside0.mk (Kd.R_below (R_l HO641.out) hb); have n2_ := Aside0.mk (Kd.R_below (R_l HO647.out) hb); have n3_ := Aside0.mk (Kd.R_below (R_l HO649.out) hb); have n4_ := Aside0.mk (Kd.R_below (R_l HO653.out) hb); have n5_ := Aside0.mk (Kd.R_below (R_l HO657.out) hb); have n6_ := Aside0.mk (Kd.S_elder' (S_l HO661.out) (Kd.S_base ho0) hb); have n7_ := Aside0.mk (Kd.S_lower (Kd.S_new' (Kd.S_new' (Kd.S_new' (Kd.S_new' (Kd.S_new' (Kd.S_new' (Kd.S_new' ho0 (Kd.R_lt (R_l HO639.out))) (Kd.R_lt (R_l HO641.out))) (Kd.R_lt (R_l HO647.out))) (Kd.R_lt (R_l HO649.out))) (Kd.R_lt (R_l HO653.out))) (Kd.R_lt (R_l HO657.out))) (Kd.S_lt (S_l HO661.out))) (below_size (B_l HB.out))); have n8_ := Aside0.mk (below_step (B_l HB.out) hb); clear HO639; clear HO641; clear HO647; clear HO649; clear HO653; clear HO657; clear HO661; clear HB; have HO639 := n0_; have HO641 := n1_; have HO647 := n2_; have HO649 := n3_; have HO653 := n4_; have HO657 := n5_; have HO661 := n6_; have HO665 := n7_; have HB := n8_; clear n0_ n1_ n2_ n3_ n4_ n5_ n6_ n7_ n8_) | ((with_reducible refine gate_callee (f := 79) rfl ?_); refine goesL_ (some 86) rfl rfl Try.func79 (by kernel_rfl) rfl #[.slice A0 l0.length c0] rfl (by (try simp only [List.map_toArray, List.map_cons, List.map_nil]); first | done | rfl | (simp only [List.length_drop, List.length_take]; rfl)) ?_; (with_reducible refine (spec_DrawApplyTable.calls k _ _ l0 t666 t667 _ ?side1 ?side2 A10.out).mono ?_); (case side1 => exact C_l (Kd.C_below HR0.out HB.out)); (case side2 => exact HC0.out); rintro e w28 ⟨v668, v670, rfl, ho0, ho1, hb⟩; refine ⟨_, rfl, ?_⟩; have n0_ := Aside0.mk (Kd.R_elder' (R_l HO639.out) (Kd.R_base ho1) hb); have n1_ := Aside0.mk (Kd.R_elder' (R_l HO641.out) (Kd.R_base ho1) hb); have n2_ := Aside0.mk (Kd.R_elder' (R_l HO647.out) (Kd.R_base ho1) hb); have n3_ := Aside0.mk (Kd.R_elder' (R_l HO649.out) (Kd.R_base ho1) hb); have n4_ := Aside0.mk (Kd.R_elder' (R_l HO653.out) (Kd.R_base ho1) hb); have n5_ := Aside0.mk (Kd.R_elder' (R_l HO657.out) (Kd.R_base ho1) hb); have n6_ := Aside0.mk (Kd.S_mono (Kd.S_told (Kd.S_told (Kd.S_old (S_l HO661.out) hb) (Kd.S_base ho0)) (Kd.R_base ho1)) (fun _ h_ => h_.1)); have n7_ := Aside0.mk (Kd.S_mono (Kd.S_told (Kd.S_told (Kd.S_old (S_l HO665.out) hb) (Kd.S_base ho0)) (Kd.R_base ho1)) (fun _ h_ => h_.1)); have n8_ := Aside0.mk (Kd.S_lower (Kd.S_new' (Kd.S_new' (Kd.S_new' (Kd.S_new' (Kd.S_new' (Kd.S_new' (Kd.S_new' (Kd.S_new' ho0 (Kd.R_lt (R_l HO639.out))) (Kd.R_lt (R_l HO641.out))) (Kd.R_lt (R_l HO647.out))) (Kd.R_lt (R_l HO649.out))) (Kd.R_lt (R_l HO653.out))) (Kd.R_lt (R_l HO657.out))) (Kd.S_lt (S_l HO661.out))) (Kd.S_lt (S_l HO665.out))) (below_size (B_l HB.out))); have n9_ := Aside0.mk (Kd.R_lower (Kd.R_new' (Kd.R_new' (Kd.R_new' (Kd.R_new' (Kd.R_new' (Kd.R_new' ho1 (Kd.R_lt (R_l HO639.out))) (Kd.R_lt (R_l HO641.out))) (Kd.R_lt (R_l HO647.out))) (Kd.R_lt (R_l HO649.out))) (Kd.R_lt (R_l HO653.out))) (Kd.R_lt (R_l HO657.out))) (below_size (B_l HB.out))); have n10_ := Aside0.mk (below_step (B_l HB.out) hb); clear HO639; clear HO641; clear HO647; clear HO649; clear HO653; clear HO657; clear HO661; clear HO665; clear HB; have HO639 := n0_; have HO641 := n1_; have HO647 := n2_; have HO649 := n3_; have HO653 := n4_; have HO657 := n5_; have HO661 := n6_; have HO665 := n7_; have HO669 := n8_; have HO671 := n9_; have HB := n10_; clear n0_ n1_ n2_ n3_ n4_ n5_ n6_ n7_ n8_ n9_ n10_; obtain ⟨Ao29, co29, eo29⟩ := Kd.S_slice HO669.out; subst eo29; obtain ⟨Ao30, co30, eo30⟩ := Kd.R_slice HO671.out; subst eo30) | ((with_reducible refine gate_callee (f := 80) rfl ?_); refine goesL_ (some 92) rfl rfl Try.func80 (by kernel_rfl) rfl #[.slice Ao29 t666.length co29, .slice Ao30 t667.length co30] rfl (by (try simp only [List.map_toArray, List.map_cons, List.map_nil]); first | done | rfl | (simp only [List.length_drop, List.length_take]; rfl)) ?_; (with_reducible refine (impl_ApplyTable.calls k _ _ t666 _ _ t667 t672 t673 _ ?side1 ?side2 ?side3 ?side4 A11.out).mono ?_); (case side1 => exact C_l ((Kd.S_reads' HO669.out).2.2)); (case side2 => exact (Kd.S_reads' HO669.out).2.1); (case side3 => exact C_l ((Kd.R_reads' HO671.out).2.2)); (case side4 => exact (Kd.R_reads' HO671.out).2.1); rintro e w31 ⟨v674, rfl, ho0, hb⟩; refine ⟨_, rfl, ?_⟩; have n0_ := Aside0.mk (Kd.R_elder' (R_l HO639.out) (Kd.R_base ho0) hb); have n1_ := Aside0.mk (Kd.R_elder' (R_l HO641.out) (Kd.R_base ho0) hb); have n2_ := Aside0.mk (Kd.R_elder' (R_l HO647.out) (Kd.R_base ho0) hb); have n3_ := Aside0.mk (Kd.R_elder' (R_l HO649.out) (Kd.R_base ho0) hb); have n4_ := Aside0.mk (Kd.R_elder' (R_l HO653.out) (Kd.R_base ho0) hb); have n5_ := Aside0.mk (Kd.R_elder' (R_l HO657.out) (Kd.R_base ho0) hb); have n6_ := Aside0.mk (Kd.S_elder' (S_l HO661.out) (Kd.R_base ho0) hb); have n7_ := Aside0.mk (Kd.S_elder' (S_l HO665.out) (Kd.R_base ho0) hb); have n8_ := Aside0.mk (Kd.S_elder' (S_l HO669.out) (Kd.R_base ho0) hb); have n9_ := Aside0.mk (Kd.R_elder' (R_l HO671.out) (Kd.R_base ho0) hb); have n10_ := Aside0.mk (Kd.R_lower (Kd.R_new' (Kd.R_new' (Kd.R_new' (Kd.R_new' (Kd.R_new' (Kd.R_new' (Kd.R_new' ho0 (Kd.R_lt (R_l HO639.out))) (Kd.R_lt (R_l HO641.out))) (Kd.R_lt (R_l HO647.out))) (Kd.R_lt (R_l HO649.out))) (Kd.R_lt (R_l HO653.out))) (Kd.R_lt (R_l HO657.out))) (Kd.R_lt (R_l HO671.out))) (below_size (B_l HB.out))); have n11_ := Aside0.mk (below_step (B_l HB.out) hb); clear HO639; clear HO641; clear HO647; clear HO649; clear HO653; clear HO657; clear HO661; clear HO665; clear HO669; clear HO671; clear HB; have HO639 := n0_; have HO641 := n1_; have HO647 := n2_; have HO649 := n3_; have HO653 := n4_; have HO657 := n5_; have HO661 := n6_; have HO665 := n7_; have HO669 := n8_; have HO671 := n9_; have HO675 := n10_; have HB := n11_; clear n0_ n1_ n2_ n3_ n4_ n5_ n6_ n7_ n8_ n9_ n10_ n11_) | ((with_reducible refine gate_callee (f := 81) rfl ?_); refine goesL_ (some 98) rfl rfl Try.func81 (by kernel_rfl) rfl #[.slice Ao29 t666.length co29, .slice Ao30 t667.length co30] rfl (by (try simp only [List.map_toArray, List.map_cons, List.map_nil]); first | done | rfl | (simp only [List.length_drop, List.length_take]; rfl)) ?_; (with_reducible refine (spec_ApplyTable.calls k _ _ t666 _ _ t667 t676 t677 _ ?side1 ?side2 ?side3 ?side4 A12.out).mono ?_); (case side1 => exact C_l ((Kd.S_reads' HO669.out).2.2)); (case side2 => exact (Kd.S_reads' HO669.out).2.1); (case side3 => exact C_l ((Kd.R_reads' HO671.out).2.2)); (case side4 => exact (Kd.R_reads' HO671.out).2.1); rintro e w32 ⟨v678, rfl, ho0, hb⟩; refine ⟨_, rfl, ?_⟩; have n0_ := Aside0.mk (Kd.R_elder' (R_l HO639.out) (Kd.R_base ho0) hb); have n1_ := Aside0.mk (Kd.R_elder' (R_l HO641.out) (Kd.R_base ho0) hb); have n2_ := Aside0.mk (Kd.R_elder' (R_l HO647.out) (Kd.R_base ho0) hb); have n3_ := Aside0.mk (Kd.R_elder' (R_l HO649.out) (Kd.R_base ho0) hb); have n4_ := Aside0.mk (Kd.R_elder' (R_l HO653.out) (Kd.R_base ho0) hb); have n5_ := Aside0.mk (Kd.R_elder' (R_l HO657.out) (Kd.R_base ho0) hb); have n6_ := Aside0.mk (Kd.S_elder' (S_l HO661.out) (Kd.R_base ho0) hb); have n7_ := Aside0.mk (Kd.S_elder' (S_l HO665.out) (Kd.R_base ho0) hb); have n8_ := Aside0.mk (Kd.S_elder' (S_l HO669.out) (Kd.R_base ho0) hb); have n9_ := Aside0.mk (Kd.R_elder' (R_l HO671.out) (Kd.R_base ho0) hb); have n10_ := Aside0.mk (Kd.R_elder' (R_l HO675.out) (Kd.R_base ho0) hb); have n11_ := Aside0.mk (Kd.R_lower (Kd.R_new' (Kd.R_new' (Kd.R_new' (Kd.R_new' (Kd.R_new' (Kd.R_new' (Kd.R_new' (Kd.R_new' ho0 (Kd.R_lt (R_l HO639.out))) (Kd.R_lt (R_l HO641.out))) (Kd.R_lt (R_l HO647.out))) (Kd.R_lt (R_l HO649.out))) (Kd.R_lt (R_l HO653.out))) (Kd.R_lt (R_l HO657.out))) (Kd.R_lt (R_l HO671.out))) (Kd.R_lt (R_l HO675.out))) (below_size (B_l HB.out))); have n12_ := Aside0.mk (below_step (B_l HB.out) hb); clear HO639; clear HO641; clear HO647; clear HO649; clear HO653; clear HO657; clear HO661; clear HO665; clear HO669; clear HO671; clear HO675; clear HB; have HO639 := n0_; have HO641 := n1_; have HO647 := n2_; have HO649 := n3_; have HO653 := n4_; have HO657 := n5_; have HO661 := n6_; have HO665 := n7_; have HO669 := n8_; have HO671 := n9_; have HO675 := n10_; have HO679 := n11_; have HB := n12_; clear n0_ n1_ n2_ n3_ n4_ n5_ n6_ n7_ n8_ n9_ n10_ n11_ n12_) | ((with_reducible refine gate_callee (f := 82) rfl ?_); refine goesL_ (some 103) rfl rfl Try.func82 (by kernel_rfl) rfl #[.slice A0 l0.length c0] rfl (by (try simp only [List.map_toArray, List.map_cons, List.map_nil]); first | done | rfl | (simp only [List.length_drop, List.length_take]; rfl)) ?_; (with_reducible refine (spec_DrawTimesTable.calls k _ _ l0 t680 t681 _ ?side1 ?side2 A13.out).mono ?_); (case side1 => exact C_l (Kd.C_below HR0.out HB.out)); (case side2 => exact HC0.out); rintro e w33 ⟨v682, v684, rfl, ho0, ho1, hb⟩; refine ⟨_, rfl, ?_⟩; have n0_ := Aside0.mk (Kd.R_below (R_l HO639.out) hb); have n1_ := Aside0.mk (Kd.R_below (R_l HO641.out) hb); have n2_ := Aside0.mk (Kd.R_below (R_l HO647.out) hb); have n3_ := Aside0.mk (Kd.R_below (R_l HO649.out) hb); have n4_ := Aside0.mk (Kd.R_below (R_l HO653.out) hb); have n5_ := Aside0.mk (Kd.R_below (R_l HO657.out) hb); have n6_ := Aside0.mk (Kd.S_mono (Kd.S_told (Kd.S_told (Kd.S_old (S_l HO661.out) hb) (Kd.S_base ho0)) (Kd.S_base ho1)) (fun _ h_ => h_.1)); have n7_ := Aside0.mk (Kd.S_mono (Kd.S_told (Kd.S_told (Kd.S_old (S_l HO665.out) hb) (Kd.S_base ho0)) (Kd.S_base ho1)) (fun _ h_ => h_.1)); have n8_ := Aside0.mk (Kd.S_mono (Kd.S_told (Kd.S_told (Kd.S_old (S_l HO669.out) hb) (Kd.S_base ho0)) (Kd.S_base ho1)) (fun _ h_ => h_.1)); have n9_ := Aside0.mk (Kd.R_below (R_l HO671.out) hb); have n10_ := Aside0.mk (Kd.R_below (R_l HO675.out) hb); have n11_ := Aside0.mk (Kd.R_below (R_l HO679.out) hb); have n12_ := Aside0.mk (Kd.S_lower (Kd.S_new' (Kd.S_new' (Kd.S_new' (Kd.S_new' (Kd.S_new' (Kd.S_new' (Kd.S_new' (Kd.S_new' (Kd.S_new' (Kd.S_new' (Kd.S_new' (Kd.S_new' ho0 (Kd.R_lt (R_l HO639.out))) (Kd.R_lt (R_l HO641.out))) (Kd.R_lt (R_l HO647.out))) (Kd.R_lt (R_l HO649.out))) (Kd.R_lt (R_l HO653.out))) (Kd.R_lt (R_l HO657.out))) (Kd.S_lt (S_l HO661.out))) (Kd.S_lt (S_l HO665.out))) (Kd.S_lt (S_l HO669.out))) (Kd.R_lt (R_l HO671.out))) (Kd.R_lt (R_l HO675.out))) (Kd.R_lt (R_l HO679.out))) (below_size (B_l HB.out))); have n13_ := Aside0.mk (Kd.S_lower (Kd.S_new' (Kd.S_new' (Kd.S_new' (Kd.S_new' (Kd.S_new' (Kd.S_new' (Kd.S_new' (Kd.S_new' (Kd.S_new' (Kd.S_new' (Kd.S_new' (Kd.S_new' ho1 (Kd.R_lt (R_l HO639.out))) (Kd.R_lt (R_l HO641.out))) (Kd.R_lt (R_l HO647.out))) (Kd.R_lt (R_l HO649.out))) (Kd.R_lt (R_l HO653.out))) (Kd.R_lt (R_l HO657.out))) (Kd.S_lt (S_l HO661.out))) (Kd.S_lt (S_l HO665.out))) (Kd.S_lt (S_l HO669.out))) (Kd.R_lt (R_l HO671.out))) (Kd.R_lt (R_l HO675.out))) (Kd.R_lt (R_l HO679.out))) (below_size (B_l HB.out))); have n14_ := Aside0.mk (below_step (B_l HB.out) hb); clear HO639; clear HO641; clear HO647; clear HO649; clear HO653; clear HO657; clear HO661; clear HO665; clear HO669; clear HO671; clear HO675; clear HO679; clear HB; have HO639 := n0_; have HO641 := n1_; have HO647 := n2_; have HO649 := n3_; have HO653 := n4_; have HO657 := n5_; have HO661 := n6_; have HO665 := n7_; have HO669 := n8_; have HO671 := n9_; have HO675 := n10_; have HO679 := n11_; have HO683 := n12_; have HO685 := n13_; have HB := n14_; clear n0_ n1_ n2_ n3_ n4_ n5_ n6_ n7_ n8_ n9_ n10_ n11_ n12_ n13_ n14_; obtain ⟨Ao34, co34, eo34⟩ := Kd.S_slice HO683.out; subst eo34; obtain ⟨Ao35, co35, eo35⟩ := Kd.S_slice HO685.out; subst eo35) | ((with_reducible refine gate_callee (f := 83) rfl ?_); refine goesL_ (some 109) rfl rfl Try.func83 (by kernel_rfl) rfl #[.slice Ao34 t680.length co34, .slice Ao35 t681.length co35] rfl (by (try simp only [List.map_toArray, List.map_cons, List.map_nil]); first | done | rfl | (simp only [List.length_drop, List.length_take]; rfl)) ?_; (with_reducible refine (impl_TimesTable.calls k _ _ t680 _ _ t681 t686 t687 _ ?side1 ?side2 ?side3 ?side4 A14.out).mono ?_); (case side1 => exact C_l ((Kd.S_reads' HO683.out).2.2)); (case side2 => exact (Kd.S_reads' HO683.out).2.1); (case side3 => exact C_l ((Kd.S_reads' HO685.out).2.2)); (case side4 => exact (Kd.S_reads' HO685.out).2.1); rintro e w36 ⟨v688, rfl, ho0, hb⟩; refine ⟨_, rfl, ?_⟩; have n0_ := Aside0.mk (Kd.R_below (R_l HO639.out) hb); have n1_ := Aside0.mk (Kd.R_below (R_l HO641.out) hb); have n2_ := Aside0.mk (Kd.R_below (R_l HO647.out) hb); have n3_ := Aside0.mk (Kd.R_below (R_l HO649.out) hb); have n4_ := Aside0.mk (Kd.R_below (R_l HO653.out) hb); have n5_ := Aside0.mk (Kd.R_below (R_l HO657.out) hb); have n6_ := Aside0.mk (Kd.S_elder' (S_l HO661.out) (Kd.S_base ho0) hb); have n7_ := Aside0.mk (Kd.S_elder' (S_l HO665.out) (Kd.S_base ho0) hb); have n8_ := Aside0.mk (Kd.S_elder' (S_l HO669.out) (Kd.S_base ho0) hb); have n9_ := Aside0.mk (Kd.R_below (R_l HO671.out) hb); have n10_ := Aside0.mk (Kd.R_below (R_l HO675.out) hb); have n11_ := Aside0.mk (Kd.R_below (R_l HO679.out) hb); have n12_ := Aside0.mk (Kd.S_elder' (S_l HO683.out) (Kd.S_base ho0) hb); have n13_ := Aside0.mk (Kd.S_elder' (S_l HO685.out) (Kd.S_base ho0) hb); have n14_ := Aside0.mk (Kd.S_lower (Kd.S_new' (Kd.S_new' (Kd.S_new' (Kd.S_new' (Kd.S_new' (Kd.S_new' (Kd.S_new' (Kd.S_new' (Kd.S_new' (Kd.S_new' (Kd.S_new' (Kd.S_new' (Kd.S_new' (Kd.S_new' ho0 (Kd.R_lt (R_l HO639.out))) (Kd.R_lt (R_l HO641.out))) (Kd.R_lt (R_l HO647.out))) (Kd.R_lt (R_l HO649.out))) (Kd.R_lt (R_l HO653.out))) (Kd.R_lt (R_l HO657.out))) (Kd.S_lt (S_l HO661.out))) (Kd.S_lt (S_l HO665.out))) (Kd.S_lt (S_l HO669.out))) (Kd.R_lt (R_l HO671.out))) (Kd.R_lt (R_l HO675.out))) (Kd.R_lt (R_l HO679.out))) (Kd.S_lt (S_l HO683.out))) (Kd.S_lt (S_l HO685.out))) (below_size (B_l HB.out))); have n15_ := Aside0.mk (below_step (B_l HB.out) hb); clear HO639; clear HO641; clear HO647; clear HO649; clear HO653; clear HO657; clear HO661; clear HO665; clear HO669; clear HO671; clear HO675; clear HO679; clear HO683; clear HO685; clear HB; have HO639 := n0_; have HO641 := n1_; have HO647 := n2_; have HO649 := n3_; have HO653 := n4_; have HO657 := n5_; have HO661 := n6_; have HO665 := n7_; have HO669 := n8_; have HO671 := n9_; have HO675 := n10_; have HO679 := n11_; have HO683 := n12_; have HO685 := n13_; have HO689 := n14_; have HB := n15_; clear n0_ n1_ n2_ n3_ n4_ n5_ n6_ n7_ n8_ n9_ n10_ n11_ n12_ n13_ n14_ n15_) | ((with_reducible refine gate_callee (f := 84) rfl ?_); refine goesL_ (some 115) rfl rfl Try.func84 (by kernel_rfl) rfl #[.slice Ao34 t680.length co34, .slice Ao35 t681.length co35] rfl (by (try simp only [List.map_toArray, List.map_cons, List.map_nil]); first | done | rfl | (simp only [List.length_drop, List.length_take]; rfl)) ?_; (with_reducible refine (spec_TimesTable.calls k _ _ t680 _ _ t681 t690 t691 _ ?side1 ?side2 ?side3 ?side4 A15.out).mono ?_); (case side1 => exact C_l ((Kd.S_reads' HO683.out).2.2)); (case side2 => exact (Kd.S_reads' HO683.out).2.1); (case side3 => exact C_l ((Kd.S_reads' HO685.out).2.2)); (case side4 => exact (Kd.S_reads' HO685.out).2.1); rintro e w37 ⟨v692, rfl, ho0, hb⟩; refine ⟨_, rfl, ?_⟩; have n0_ := Aside0.mk (Kd.R_below (R_l HO639.out) hb); have n1_ := Aside0.mk (Kd.R_below (R_l HO641.out) hb); have n2_ := Aside0.mk (Kd.R_below (R_l HO647.out) hb); have n3_ := Aside0.mk (Kd.R_below (R_l HO649.out) hb); have n4_ := Aside0.mk (Kd.R_below (R_l HO653.out) hb); have n5_ := Aside0.mk (Kd.R_below (R_l HO657.out) hb); have n6_ := Aside0.mk (Kd.S_elder' (S_l HO661.out) (Kd.S_base ho0) hb); have n7_ := Aside0.mk (Kd.S_elder' (S_l HO665.out) (Kd.S_base ho0) hb); have n8_ := Aside0.mk (Kd.S_elder' (S_l HO669.out) (Kd.S_base ho0) hb); have n9_ := Aside0.mk (Kd.R_below (R_l HO671.out) hb); have n10_ := Aside0.mk (Kd.R_below (R_l HO675.out) hb); have n11_ := Aside0.mk (Kd.R_below (R_l HO679.out) hb); have n12_ := Aside0.mk (Kd.S_elder' (S_l HO683.out) (Kd.S_base ho0) hb); have n13_ := Aside0.mk (Kd.S_elder' (S_l HO685.out) (Kd.S_base ho0) hb); have n14_ := Aside0.mk (Kd.S_elder' (S_l HO689.out) (Kd.S_base ho0) hb); have n15_ := Aside0.mk (Kd.S_lower (Kd.S_new' (Kd.S_new' (Kd.S_new' (Kd.S_new' (Kd.S_new' (Kd.S_new' (Kd.S_new' (Kd.S_new' (Kd.S_new' (Kd.S_new' (Kd.S_new' (Kd.S_new' (Kd.S_new' (Kd.S_new' (Kd.S_new' ho0 (Kd.R_lt (R_l HO639.out))) (Kd.R_lt (R_l HO641.out))) (Kd.R_lt (R_l HO647.out))) (Kd.R_lt (R_l HO649.out))) (Kd.R_lt (R_l HO653.out))) (Kd.R_lt (R_l HO657.out))) (Kd.S_lt (S_l HO661.out))) (Kd.S_lt (S_l HO665.out))) (Kd.S_lt (S_l HO669.out))) (Kd.R_lt (R_l HO671.out))) (Kd.R_lt (R_l HO675.out))) (Kd.R_lt (R_l HO679.out))) (Kd.S_lt (S_l HO683.out))) (Kd.S_lt (S_l HO685.out))) (Kd.S_lt (S_l HO689.out))) (below_size (B_l HB.out))); have n16_ := Aside0.mk (below_step (B_l HB.out) hb); clear HO639; clear HO641; clear HO647; clear HO649; clear HO653; clear HO657; clear HO661; clear HO665; clear HO669; clear HO671; clear HO675; clear HO679; clear HO683; clear HO685; clear HO689; clear HB; have HO639 := n0_; have HO641 := n1_; have HO647 := n2_; have HO649 := n3_; have HO653 := n4_; have HO657 := n5_; have HO661 := n6_; have HO665 := n7_; have HO669 := n8_; have HO671 := n9_; have HO675 := n10_; have HO679 := n11_; have HO683 := n12_; have HO685 := n13_; have HO689 := n14_; have HO693 := n15_; have HB := n16_; clear n0_ n1_ n2_ n3_ n4_ n5_ n6_ n7_ n8_ n9_ n10_ n11_ n12_ n13_ n14_ n15_ n16_) | ((with_reducible refine gate_callee (f := 85) rfl ?_); refine goesL_ (some 120) rfl rfl Try.func85 (by kernel_rfl) rfl #[.slice A0 l0.length c0] rfl (by (try simp only [List.map_toArray, List.map_cons, List.map_nil]); first | done | rfl | (simp only [List.length_drop, List.length_take]; rfl)) ?_; (with_reducible refine (spec_DrawIsSymplectic.calls k _ _ l0 t694 t695 _ ?side1 ?side2 A16.out).mono ?_); (case side1 => exact C_l (Kd.C_below HR0.out HB.out)); (case side2 => exact HC0.out); rintro e w38 ⟨v696, rfl, ho0, hb⟩; refine ⟨_, rfl, ?_⟩; have n0_ := Aside0.mk (Kd.R_below (R_l HO639.out) hb); have n1_ := Aside0.mk (Kd.R_below (R_l HO641.out) hb); have n2_ := Aside0.mk (Kd.R_below (R_l HO647.out) hb); have n3_ := Aside0.mk (Kd.R_below (R_l HO649.out) hb); have n4_ := Aside0.mk (Kd.R_below (R_l HO653.out) hb); have n5_ := Aside0.mk (Kd.R_below (R_l HO657.out) hb); have n6_ := Aside0.mk (Kd.S_elder' (S_l HO661.out) (Kd.S_base ho0) hb); have n7_ := Aside0.mk (Kd.S_elder' (S_l HO665.out) (Kd.S_base ho0) hb); have n8_ := Aside0.mk (Kd.S_elder' (S_l HO669.out) (Kd.S_base ho0) hb); have n9_ := Aside0.mk (Kd.R_below (R_l HO671.out) hb); have n10_ := Aside0.mk (Kd.R_below (R_l HO675.out) hb); have n11_ := Aside0.mk (Kd.R_below (R_l HO679.out) hb); have n12_ := Aside0.mk (Kd.S_elder' (S_l HO683.out) (Kd.S_base ho0) hb); have n13_ := Aside0.mk (Kd.S_elder' (S_l HO685.out) (Kd.S_base ho0) hb); have n14_ := Aside0.mk (Kd.S_elder' (S_l HO689.out) (Kd.S_base ho0) hb); have n15_ := Aside0.mk (Kd.S_elder' (S_l HO693.out) (Kd.S_base ho0) hb); have n16_ := Aside0.mk (Kd.S_lower (Kd.S_new' (Kd.S_new' (Kd.S_new' (Kd.S_new' (Kd.S_new' (Kd.S_new' (Kd.S_new' (Kd.S_new' (Kd.S_new' (Kd.S_new' (Kd.S_new' (Kd.S_new' (Kd.S_new' (Kd.S_new' (Kd.S_new' (Kd.S_new' ho0 (Kd.R_lt (R_l HO639.out))) (Kd.R_lt (R_l HO641.out))) (Kd.R_lt (R_l HO647.out))) (Kd.R_lt (R_l HO649.out))) (Kd.R_lt (R_l HO653.out))) (Kd.R_lt (R_l HO657.out))) (Kd.S_lt (S_l HO661.out))) (Kd.S_lt (S_l HO665.out))) (Kd.S_lt (S_l HO669.out))) (Kd.R_lt (R_l HO671.out))) (Kd.R_lt (R_l HO675.out))) (Kd.R_lt (R_l HO679.out))) (Kd.S_lt (S_l HO683.out))) (Kd.S_lt (S_l HO685.out))) (Kd.S_lt (S_l HO689.out))) (Kd.S_lt (S_l HO693.out))) (below_size (B_l HB.out))); have n17_ := Aside0.mk (below_step (B_l HB.out) hb); clear HO639; clear HO641; clear HO647; clear HO649; clear HO653; clear HO657; clear HO661; clear HO665; clear HO669; clear HO671; clear HO675; clear HO679; clear HO683; clear HO685; clear HO689; clear HO693; clear HB; have HO639 := n0_; have HO641 := n1_; have HO647 := n2_; have HO649 := n3_; have HO653 := n4_; have HO657 := n5_; have HO661 := n6_; have HO665 := n7_; have HO669 := n8_; have HO671 := n9_; have HO675 := n10_; have HO679 := n11_; have HO683 := n12_; have HO685 := n13_; have HO689 := n14_; have HO693 := n15_; have HO697 := n16_; have HB := n17_; clear n0_ n1_ n2_ n3_ n4_ n5_ n6_ n7_ n8_ n9_ n10_ n11_ n12_ n13_ n14_ n15_ n16_ n17_; obtain ⟨Ao39, co39, eo39⟩ := Kd.R_slice HO641.out; subst eo39) | ((with_reducible refine gate_callee (f := 86) rfl ?_); refine goesL_ (some 126) rfl rfl Try.func86 (by kernel_rfl) rfl #[.int .i64 t635, .slice Ao25 t636.length co25, .slice Ao39 t637.length co39] rfl (by (try simp only [List.map_toArray, List.map_cons, List.map_nil]); first | done | rfl | (simp only [List.length_drop, List.length_take]; rfl)) ?_; (with_reducible refine (impl_FormOf.calls k t635 _ _ t636 _ _ t637 t698 _ ?side1 ?side2 ?side3 ?side4 A17.out).mono ?_); (case side1 => exact C_l ((Kd.R_reads' HO639.out).2.2)); (case side2 => exact (Kd.R_reads' HO639.out).2.1); (case side3 => exact C_l ((Kd.R_reads' HO641.out).2.2)); (case side4 => exact (Kd.R_reads' HO641.out).2.1); rintro e w' ⟨rfl, ⟨nd, rfl⟩⟩; refine ⟨_, rfl, ?_⟩))
  (try simp only [Act.put, List.setIfInBounds_toArray, List.set_cons_zero, List.set_cons_succ])
  go_cut [225] (fun v225 wc => ∃ (kq : Nat) (x225_17 : Bool), v225 = .bool x225_17 ∧ Aside0 (laws_FnTwists.j0 kq t635 t636 t637 t642 t643 t644 t645 t650 t651 t658 t659 t698 x225_17 = some true) ∧ Aside0 (kq ≤ k) ∧ Aside0 (Kd.R (Kd.int .i64) 3 wc w.heap.size (fun k_ => some k_ ≠ ((.slice Ao39 t637.length co39) : Value).ownBlock ∧ some k_ ≠ ((.slice Ao21 t643.length co21) : Value).ownBlock ∧ some k_ ≠ ((.slice Ao22 t644.length co22) : Value).ownBlock ∧ some k_ ≠ (v652 : Value).ownBlock) (.slice Ao25 t636.length co25) t636) ∧ Aside0 (Kd.R (Kd.int .i64) 3 wc w.heap.size (fun k_ => some k_ ≠ ((.slice Ao25 t636.length co25) : Value).ownBlock ∧ some k_ ≠ ((.slice Ao21 t643.length co21) : Value).ownBlock ∧ some k_ ≠ ((.slice Ao22 t644.length co22) : Value).ownBlock ∧ some k_ ≠ (v652 : Value).ownBlock) (.slice Ao39 t637.length co39) t637) ∧ Aside0 (Kd.R (Kd.int .i64) 3 wc w.heap.size (fun k_ => some k_ ≠ ((.slice Ao25 t636.length co25) : Value).ownBlock ∧ some k_ ≠ ((.slice Ao39 t637.length co39) : Value).ownBlock ∧ some k_ ≠ ((.slice Ao22 t644.length co22) : Value).ownBlock ∧ some k_ ≠ (v652 : Value).ownBlock) (.slice Ao21 t643.length co21) t643) ∧ Aside0 (Kd.R (Kd.int .i64) 3 wc w.heap.size (fun k_ => some k_ ≠ ((.slice Ao25 t636.length co25) : Value).ownBlock ∧ some k_ ≠ ((.slice Ao39 t637.length co39) : Value).ownBlock ∧ some k_ ≠ ((.slice Ao21 t643.length co21) : Value).ownBlock ∧ some k_ ≠ (v652 : Value).ownBlock) (.slice Ao22 t644.length co22) t644) ∧ Aside0 (Kd.R (Kd.int .i64) 3 wc w.heap.size (fun k_ => some k_ ≠ ((.slice Ao25 t636.length co25) : Value).ownBlock ∧ some k_ ≠ ((.slice Ao39 t637.length co39) : Value).ownBlock ∧ some k_ ≠ ((.slice Ao21 t643.length co21) : Value).ownBlock ∧ some k_ ≠ ((.slice Ao22 t644.length co22) : Value).ownBlock) v652 t650) ∧ Aside0 (Kd.S (Kd.slice 3 (Kd.int .i64)) 35 wc w.heap.size (fun k_ => some k_ ≠ ((.slice Ao25 t636.length co25) : Value).ownBlock ∧ some k_ ≠ ((.slice Ao39 t637.length co39) : Value).ownBlock ∧ some k_ ≠ ((.slice Ao21 t643.length co21) : Value).ownBlock ∧ some k_ ≠ ((.slice Ao22 t644.length co22) : Value).ownBlock ∧ some k_ ≠ (v652 : Value).ownBlock) v660 t658) ∧ Aside0 (Below w.heap.size w wc))
  case first => as_aux_lemma =>
   have H := HC18.out
   clear HC18
   by_cases c40 : (t651 != t655) = true
   ·rw [if_pos c40] at H
    exact absurd H (laws_FnTwists_no_j0 _ _ _ _ _ _ _ _ _ _ _ _ _)
   ·rw [if_neg c40] at H
    have c40b0 : (t651 != t655) = false := by simpa using c40
    (try (have c40b1 : decide (t651 = t655) = true := by simpa using c40))
    (try (have c40b2 : (t651 == t655) = true := by simpa using c40))
    clear c40
    (first | rw [c40b0] | (simp only [i64_w, i32_w]; rw [c40b0]) | skip)
    replace H := Option.bind_eq_some_iff.mp H
    obtain ⟨t699, A410, H⟩ := H
    have A41 := Aside0.mk A410
    clear A410
    by_cases c42 : t699 = true
    ·subst c42
     rw [if_pos rfl] at H
     by_cases c43 : (t659 != t663) = true
     ·rw [if_pos c43] at H
      exact absurd H (laws_FnTwists_no_j0 _ _ _ _ _ _ _ _ _ _ _ _ _)
     ·rw [if_neg c43] at H
      have c43b0 : (t659 != t663) = false := by simpa using c43
      (try (have c43b1 : decide (t659 = t663) = true := by simpa using c43))
      (try (have c43b2 : (t659 == t663) = true := by simpa using c43))
      clear c43
      replace H := Option.bind_eq_some_iff.mp H
      obtain ⟨t700, A460, H⟩ := H
      have A46 := Aside0.mk A460
      clear A460
      by_cases c47 : t700 = true
      ·subst c47
       rw [if_pos rfl] at H
       by_cases c48 : (t673 != t677) = true
       ·rw [if_pos c48] at H
        exact absurd H (laws_FnTwists_no_j0 _ _ _ _ _ _ _ _ _ _ _ _ _)
       ·rw [if_neg c48] at H
        have c48b0 : (t673 != t677) = false := by simpa using c48
        (try (have c48b1 : decide (t673 = t677) = true := by simpa using c48))
        (try (have c48b2 : (t673 == t677) = true := by simpa using c48))
        clear c48
        replace H := Option.bind_eq_some_iff.mp H
        obtain ⟨t701, A530, H⟩ := H
        have A53 := Aside0.mk A530
        clear A530
        by_cases c54 : t701 = true
        ·subst c54
         rw [if_pos rfl] at H
         by_cases c55 : (t687 != t691) = true
         ·rw [if_pos c55] at H
          exact absurd H (laws_FnTwists_no_j0 _ _ _ _ _ _ _ _ _ _ _ _ _)
         ·rw [if_neg c55] at H
          have c55b0 : (t687 != t691) = false := by simpa using c55
          (try (have c55b1 : decide (t687 = t691) = true := by simpa using c55))
          (try (have c55b2 : (t687 == t691) = true := by simpa using c55))
          clear c55
          replace H := Option.bind_eq_some_iff.mp H
          obtain ⟨t702, A620, H⟩ := H
          have A62 := Aside0.mk A620
          clear A620
          by_cases c63 : t702 = true
          ·subst c63
           rw [if_pos rfl] at H
           replace H := Option.bind_eq_some_iff.mp H
           obtain ⟨t703, A640, H⟩ := H
           have A64 := Aside0.mk A640
           clear A640
           replace H := Option.bind_eq_some_iff.mp H
           obtain ⟨t704, A650, H⟩ := H
           have A65 := Aside0.mk A650
           clear A650
           by_cases c66 : (t703 != t704) = true
           ·rw [if_pos c66] at H
            exact absurd H (laws_FnTwists_no_j0 _ _ _ _ _ _ _ _ _ _ _ _ _)
           ·rw [if_neg c66] at H
            have c66b0 : (t703 != t704) = false := by simpa using c66
            (try (have c66b1 : decide (t703 = t704) = true := by simpa using c66))
            (try (have c66b2 : (t703 == t704) = true := by simpa using c66))
            clear c66
            replace H := Option.bind_eq_some_iff.mp H
            obtain ⟨t705, A780, H⟩ := H
            have A78 := Aside0.mk A780
            clear A780
            by_cases c79 : t698 = t705
            ·rw [if_pos c79] at H
             have c79b0 : (t698 == t705) = true := beq_iff_eq.mpr c79
             have c79b1 : (t698 != t705) = false := bne_eq_false_iff_eq.mpr c79
             clear c79
             replace H := Option.bind_eq_some_iff.mp H
             obtain ⟨t706, A800, H⟩ := H
             have A80 := Aside0.mk A800
             clear A800
             replace H := Option.bind_eq_some_iff.mp H
             obtain ⟨t707, A810, H⟩ := H
             have A81 := Aside0.mk A810
             clear A810
             by_cases c82 : (t706 != t707) = true
             ·rw [if_pos c82] at H
              exact absurd H (laws_FnTwists_no_j0 _ _ _ _ _ _ _ _ _ _ _ _ _)
             ·rw [if_neg c82] at H
              have c82b0 : (t706 != t707) = false := by simpa using c82
              (try (have c82b1 : decide (t706 = t707) = true := by simpa using c82))
              (try (have c82b2 : (t706 == t707) = true := by simpa using c82))
              clear c82
              replace H := Option.bind_eq_some_iff.mp H
              obtain ⟨t708, A940, H⟩ := H
              have A94 := Aside0.mk A940
              clear A940
              replace H := Option.bind_eq_some_iff.mp H
              obtain ⟨t709, A950, H⟩ := H
              have A95 := Aside0.mk A950
              clear A950
              by_cases c96 : (t708 != t709) = true
              ·rw [if_pos c96] at H
               exact absurd H (laws_FnTwists_no_j0 _ _ _ _ _ _ _ _ _ _ _ _ _)
              ·rw [if_neg c96] at H
               have c96b0 : (t708 != t709) = false := by simpa using c96
               (try (have c96b1 : decide (t708 = t709) = true := by simpa using c96))
               (try (have c96b2 : (t708 == t709) = true := by simpa using c96))
               clear c96
               replace H := Option.bind_eq_some_iff.mp H
               obtain ⟨t710, A1090, H⟩ := H
               have A109 := Aside0.mk A1090
               clear A1090
               replace H := Option.bind_eq_some_iff.mp H
               obtain ⟨t711, A1100, H⟩ := H
               have A110 := Aside0.mk A1100
               clear A1100
               by_cases c111 : (t710 != t711) = true
               ·rw [if_pos c111] at H
                exact absurd H (laws_FnTwists_no_j0 _ _ _ _ _ _ _ _ _ _ _ _ _)
               ·rw [if_neg c111] at H
                have c111b0 : (t710 != t711) = false := by simpa using c111
                (try (have c111b1 : decide (t710 = t711) = true := by simpa using c111))
                (try (have c111b2 : (t710 == t711) = true := by simpa using c111))
                clear c111
                replace H := Option.bind_eq_some_iff.mp H
                obtain ⟨t712, A1260, H⟩ := H
                have A126 := Aside0.mk A1260
                clear A1260
                replace H := Option.bind_eq_some_iff.mp H
                obtain ⟨t713, A1270, H⟩ := H
                have A127 := Aside0.mk A1270
                clear A1270
                have H' := Aside0.mk H
                obtain ⟨Ao128, co128, eo128⟩ := Kd.R_slice HO653.out
                subst eo128
                obtain ⟨Ao129, co129, eo129⟩ := Kd.R_slice HO657.out
                subst eo129
                go_wp2_with (first | (go_at_call 40; (with_reducible refine (laws_sameInts.calls k _ _ t650 _ _ t654 true _ ?side1 ?side2 ?side3 ?side4 A41.out).mono ?_); (case side1 => exact C_l ((Kd.R_reads' HO653.out).2.2)); (case side2 => exact (Kd.R_reads' HO653.out).2.1); (case side3 => exact C_l ((Kd.R_reads' HO657.out).2.2)); (case side4 => exact (Kd.R_reads' HO657.out).2.1); rintro e w' ⟨rfl, ⟨nd, rfl⟩⟩; obtain ⟨Ao130, co130, eo130⟩ := Kd.S_slice HO661.out; subst eo130; obtain ⟨Ao131, co131, eo131⟩ := Kd.S_slice HO665.out; subst eo131) | (go_at_call 20; (with_reducible refine (laws_sameLists.calls k _ _ t658 _ _ t662 true _ ?side1 ?side2 ?side3 ?side4 A46.out).mono ?_); (case side1 => exact C_l ((Kd.S_reads' HO661.out).2.2)); (case side2 => exact (Kd.S_reads' HO661.out).2.1); (case side3 => exact C_l ((Kd.S_reads' HO665.out).2.2)); (case side4 => exact (Kd.S_reads' HO665.out).2.1); rintro e w' ⟨rfl, ⟨nd, rfl⟩⟩; obtain ⟨Ao132, co132, eo132⟩ := Kd.R_slice HO675.out; subst eo132; obtain ⟨Ao133, co133, eo133⟩ := Kd.R_slice HO679.out; subst eo133) | (go_at_call 40; (with_reducible refine (laws_sameInts.calls k _ _ t672 _ _ t676 true _ ?side1 ?side2 ?side3 ?side4 A53.out).mono ?_); (case side1 => exact C_l ((Kd.R_reads' HO675.out).2.2)); (case side2 => exact (Kd.R_reads' HO675.out).2.1); (case side3 => exact C_l ((Kd.R_reads' HO679.out).2.2)); (case side4 => exact (Kd.R_reads' HO679.out).2.1); rintro e w' ⟨rfl, ⟨nd, rfl⟩⟩; obtain ⟨Ao134, co134, eo134⟩ := Kd.S_slice HO689.out; subst eo134; obtain ⟨Ao135, co135, eo135⟩ := Kd.S_slice HO693.out; subst eo135) | (go_at_call 20; (with_reducible refine (laws_sameLists.calls k _ _ t686 _ _ t690 true _ ?side1 ?side2 ?side3 ?side4 A62.out).mono ?_); (case side1 => exact C_l ((Kd.S_reads' HO689.out).2.2)); (case side2 => exact (Kd.S_reads' HO689.out).2.1); (case side3 => exact C_l ((Kd.S_reads' HO693.out).2.2)); (case side4 => exact (Kd.S_reads' HO693.out).2.1); rintro e w' ⟨rfl, ⟨nd, rfl⟩⟩; obtain ⟨Ao136, co136, eo136⟩ := Kd.S_slice HO697.out; subst eo136) | (go_at_call 87; (with_reducible refine (impl_IsSymplectic.calls k t694 _ _ t695 t703 _ ?side1 ?side2 A64.out).mono ?_); (case side1 => exact C_l ((Kd.S_reads' HO697.out).2.2)); (case side2 => exact (Kd.S_reads' HO697.out).2.1); rintro e w137 ⟨rfl, hb⟩; have n0_ := Aside0.mk (Kd.R_below (R_l HO639.out) hb); have n1_ := Aside0.mk (Kd.R_below (R_l HO641.out) hb); have n2_ := Aside0.mk (Kd.R_below (R_l HO647.out) hb); have n3_ := Aside0.mk (Kd.R_below (R_l HO649.out) hb); have n4_ := Aside0.mk (Kd.R_below (R_l HO653.out) hb); have n5_ := Aside0.mk (Kd.R_below (R_l HO657.out) hb); have n6_ := Aside0.mk (Kd.S_below (S_l HO661.out) hb); have n7_ := Aside0.mk (Kd.S_below (S_l HO665.out) hb); have n8_ := Aside0.mk (Kd.S_below (S_l HO669.out) hb); have n9_ := Aside0.mk (Kd.R_below (R_l HO671.out) hb); have n10_ := Aside0.mk (Kd.R_below (R_l HO675.out) hb); have n11_ := Aside0.mk (Kd.R_below (R_l HO679.out) hb); have n12_ := Aside0.mk (Kd.S_below (S_l HO683.out) hb); have n13_ := Aside0.mk (Kd.S_below (S_l HO685.out) hb); have n14_ := Aside0.mk (Kd.S_below (S_l HO689.out) hb); have n15_ := Aside0.mk (Kd.S_below (S_l HO693.out) hb); have n16_ := Aside0.mk (Kd.S_below (S_l HO697.out) hb); have n17_ := Aside0.mk (below_step (B_l HB.out) hb); clear HO639; clear HO641; clear HO647; clear HO649; clear HO653; clear HO657; clear HO661; clear HO665; clear HO669; clear HO671; clear HO675; clear HO679; clear HO683; clear HO685; clear HO689; clear HO693; clear HO697; clear HB; have HO639 := n0_; have HO641 := n1_; have HO647 := n2_; have HO649 := n3_; have HO653 := n4_; have HO657 := n5_; have HO661 := n6_; have HO665 := n7_; have HO669 := n8_; have HO671 := n9_; have HO675 := n10_; have HO679 := n11_; have HO683 := n12_; have HO685 := n13_; have HO689 := n14_; have HO693 := n15_; have HO697 := n16_; have HB := n17_; clear n0_ n1_ n2_ n3_ n4_ n5_ n6_ n7_ n8_ n9_ n10_ n11_ n12_ n13_ n14_ n15_ n16_ n17_) | (go_at_call 88; (with_reducible refine (spec_IsSymplectic.calls k t694 _ _ t695 t704 _ ?side1 ?side2 A65.out).mono ?_); (case side1 => exact C_l ((Kd.S_reads' HO697.out).2.2)); (case side2 => exact (Kd.S_reads' HO697.out).2.1); rintro e w138 ⟨rfl, hb⟩; have n0_ := Aside0.mk (Kd.R_below (R_l HO639.out) hb); have n1_ := Aside0.mk (Kd.R_below (R_l HO641.out) hb); have n2_ := Aside0.mk (Kd.R_below (R_l HO647.out) hb); have n3_ := Aside0.mk (Kd.R_below (R_l HO649.out) hb); have n4_ := Aside0.mk (Kd.R_below (R_l HO653.out) hb); have n5_ := Aside0.mk (Kd.R_below (R_l HO657.out) hb); have n6_ := Aside0.mk (Kd.S_below (S_l HO661.out) hb); have n7_ := Aside0.mk (Kd.S_below (S_l HO665.out) hb); have n8_ := Aside0.mk (Kd.S_below (S_l HO669.out) hb); have n9_ := Aside0.mk (Kd.R_below (R_l HO671.out) hb); have n10_ := Aside0.mk (Kd.R_below (R_l HO675.out) hb); have n11_ := Aside0.mk (Kd.R_below (R_l HO679.out) hb); have n12_ := Aside0.mk (Kd.S_below (S_l HO683.out) hb); have n13_ := Aside0.mk (Kd.S_below (S_l HO685.out) hb); have n14_ := Aside0.mk (Kd.S_below (S_l HO689.out) hb); have n15_ := Aside0.mk (Kd.S_below (S_l HO693.out) hb); have n16_ := Aside0.mk (Kd.S_below (S_l HO697.out) hb); have n17_ := Aside0.mk (below_step (B_l HB.out) hb); clear HO639; clear HO641; clear HO647; clear HO649; clear HO653; clear HO657; clear HO661; clear HO665; clear HO669; clear HO671; clear HO675; clear HO679; clear HO683; clear HO685; clear HO689; clear HO693; clear HO697; clear HB; have HO639 := n0_; have HO641 := n1_; have HO647 := n2_; have HO649 := n3_; have HO653 := n4_; have HO657 := n5_; have HO661 := n6_; have HO665 := n7_; have HO669 := n8_; have HO671 := n9_; have HO675 := n10_; have HO679 := n11_; have HO683 := n12_; have HO685 := n13_; have HO689 := n14_; have HO693 := n15_; have HO697 := n16_; have HB := n17_; clear n0_ n1_ n2_ n3_ n4_ n5_ n6_ n7_ n8_ n9_ n10_ n11_ n12_ n13_ n14_ n15_ n16_ n17_) | (go_at_call 89; (with_reducible refine (spec_FormOf.calls k t635 _ _ t636 _ _ t637 t705 _ ?side1 ?side2 ?side3 ?side4 A78.out).mono ?_); (case side1 => exact C_l ((Kd.R_reads' HO639.out).2.2)); (case side2 => exact (Kd.R_reads' HO639.out).2.1); (case side3 => exact C_l ((Kd.R_reads' HO641.out).2.2)); (case side4 => exact (Kd.R_reads' HO641.out).2.1); rintro e w' ⟨rfl, ⟨nd, rfl⟩⟩) | (go_at_call 90; (with_reducible refine (impl_IsClass.calls k t635 _ _ t636 t706 _ ?side1 ?side2 A80.out).mono ?_); (case side1 => exact C_l ((Kd.R_reads' HO639.out).2.2)); (case side2 => exact (Kd.R_reads' HO639.out).2.1); rintro e w' ⟨rfl, ⟨nd, rfl⟩⟩) | (go_at_call 91; (with_reducible refine (spec_IsClass.calls k t635 _ _ t636 t707 _ ?side1 ?side2 A81.out).mono ?_); (case side1 => exact C_l ((Kd.R_reads' HO639.out).2.2)); (case side2 => exact (Kd.R_reads' HO639.out).2.1); rintro e w' ⟨rfl, ⟨nd, rfl⟩⟩) | (go_at_call 92; (with_reducible refine (impl_IsPrimitiveClass.calls k t635 _ _ t636 t708 _ ?side1 ?side2 A94.out).mono ?_); (case side1 => exact C_l ((Kd.R_reads' HO639.out).2.2)); (case side2 => exact (Kd.R_reads' HO639.out).2.1); rintro e w139 ⟨rfl, hb⟩; have n0_ := Aside0.mk (Kd.R_below (R_l HO639.out) hb); have n1_ := Aside0.mk (Kd.R_below (R_l HO641.out) hb); have n2_ := Aside0.mk (Kd.R_below (R_l HO647.out) hb); have n3_ := Aside0.mk (Kd.R_below (R_l HO649.out) hb); have n4_ := Aside0.mk (Kd.R_below (R_l HO653.out) hb); have n5_ := Aside0.mk (Kd.R_below (R_l HO657.out) hb); have n6_ := Aside0.mk (Kd.S_below (S_l HO661.out) hb); have n7_ := Aside0.mk (Kd.S_below (S_l HO665.out) hb); have n8_ := Aside0.mk (Kd.S_below (S_l HO669.out) hb); have n9_ := Aside0.mk (Kd.R_below (R_l HO671.out) hb); have n10_ := Aside0.mk (Kd.R_below (R_l HO675.out) hb); have n11_ := Aside0.mk (Kd.R_below (R_l HO679.out) hb); have n12_ := Aside0.mk (Kd.S_below (S_l HO683.out) hb); have n13_ := Aside0.mk (Kd.S_below (S_l HO685.out) hb); have n14_ := Aside0.mk (Kd.S_below (S_l HO689.out) hb); have n15_ := Aside0.mk (Kd.S_below (S_l HO693.out) hb); have n16_ := Aside0.mk (Kd.S_below (S_l HO697.out) hb); have n17_ := Aside0.mk (below_step (B_l HB.out) hb); clear HO639; clear HO641; clear HO647; clear HO649; clear HO653; clear HO657; clear HO661; clear HO665; clear HO669; clear HO671; clear HO675; clear HO679; clear HO683; clear HO685; clear HO689; clear HO693; clear HO697; clear HB; have HO639 := n0_; have HO641 := n1_; have HO647 := n2_; have HO649 := n3_; have HO653 := n4_; have HO657 := n5_; have HO661 := n6_; have HO665 := n7_; have HO669 := n8_; have HO671 := n9_; have HO675 := n10_; have HO679 := n11_; have HO683 := n12_; have HO685 := n13_; have HO689 := n14_; have HO693 := n15_; have HO697 := n16_; have HB := n17_; clear n0_ n1_ n2_ n3_ n4_ n5_ n6_ n7_ n8_ n9_ n10_ n11_ n12_ n13_ n14_ n15_ n16_ n17_) | (go_at_call 93; (with_reducible refine (spec_IsPrimitiveClass.calls k t635 _ _ t636 t709 _ ?side1 ?side2 A95.out).mono ?_); (case side1 => exact C_l ((Kd.R_reads' HO639.out).2.2)); (case side2 => exact (Kd.R_reads' HO639.out).2.1); rintro e w' ⟨rfl, ⟨nd, rfl⟩⟩) | (go_at_call 94; (with_reducible refine (impl_BraidHolds.calls k t635 _ _ t636 _ _ t637 t710 _ ?side1 ?side2 ?side3 ?side4 A109.out).mono ?_); (case side1 => exact C_l ((Kd.R_reads' HO639.out).2.2)); (case side2 => exact (Kd.R_reads' HO639.out).2.1); (case side3 => exact C_l ((Kd.R_reads' HO641.out).2.2)); (case side4 => exact (Kd.R_reads' HO641.out).2.1); rintro e w140 ⟨rfl, hb⟩; have n0_ := Aside0.mk (Kd.R_below (R_l HO639.out) hb); have n1_ := Aside0.mk (Kd.R_below (R_l HO641.out) hb); have n2_ := Aside0.mk (Kd.R_below (R_l HO647.out) hb); have n3_ := Aside0.mk (Kd.R_below (R_l HO649.out) hb); have n4_ := Aside0.mk (Kd.R_below (R_l HO653.out) hb); have n5_ := Aside0.mk (Kd.R_below (R_l HO657.out) hb); have n6_ := Aside0.mk (Kd.S_below (S_l HO661.out) hb); have n7_ := Aside0.mk (Kd.S_below (S_l HO665.out) hb); have n8_ := Aside0.mk (Kd.S_below (S_l HO669.out) hb); have n9_ := Aside0.mk (Kd.R_below (R_l HO671.out) hb); have n10_ := Aside0.mk (Kd.R_below (R_l HO675.out) hb); have n11_ := Aside0.mk (Kd.R_below (R_l HO679.out) hb); have n12_ := Aside0.mk (Kd.S_below (S_l HO683.out) hb); have n13_ := Aside0.mk (Kd.S_below (S_l HO685.out) hb); have n14_ := Aside0.mk (Kd.S_below (S_l HO689.out) hb); have n15_ := Aside0.mk (Kd.S_below (S_l HO693.out) hb); have n16_ := Aside0.mk (Kd.S_below (S_l HO697.out) hb); have n17_ := Aside0.mk (below_step (B_l HB.out) hb); clear HO639; clear HO641; clear HO647; clear HO649; clear HO653; clear HO657; clear HO661; clear HO665; clear HO669; clear HO671; clear HO675; clear HO679; clear HO683; clear HO685; clear HO689; clear HO693; clear HO697; clear HB; have HO639 := n0_; have HO641 := n1_; have HO647 := n2_; have HO649 := n3_; have HO653 := n4_; have HO657 := n5_; have HO661 := n6_; have HO665 := n7_; have HO669 := n8_; have HO671 := n9_; have HO675 := n10_; have HO679 := n11_; have HO683 := n12_; have HO685 := n13_; have HO689 := n14_; have HO693 := n15_; have HO697 := n16_; have HB := n17_; clear n0_ n1_ n2_ n3_ n4_ n5_ n6_ n7_ n8_ n9_ n10_ n11_ n12_ n13_ n14_ n15_ n16_ n17_) | (go_at_call 95; (with_reducible refine (spec_BraidHolds.calls k t635 _ _ t636 _ _ t637 t711 _ ?side1 ?side2 ?side3 ?side4 A110.out).mono ?_); (case side1 => exact C_l ((Kd.R_reads' HO639.out).2.2)); (case side2 => exact (Kd.R_reads' HO639.out).2.1); (case side3 => exact C_l ((Kd.R_reads' HO641.out).2.2)); (case side4 => exact (Kd.R_reads' HO641.out).2.1); rintro e w141 ⟨rfl, hb⟩; have n0_ := Aside0.mk (Kd.R_below (R_l HO639.out) hb); have n1_ := Aside0.mk (Kd.R_below (R_l HO641.out) hb); have n2_ := Aside0.mk (Kd.R_below (R_l HO647.out) hb); have n3_ := Aside0.mk (Kd.R_below (R_l HO649.out) hb); have n4_ := Aside0.mk (Kd.R_below (R_l HO653.out) hb); have n5_ := Aside0.mk (Kd.R_below (R_l HO657.out) hb); have n6_ := Aside0.mk (Kd.S_below (S_l HO661.out) hb); have n7_ := Aside0.mk (Kd.S_below (S_l HO665.out) hb); have n8_ := Aside0.mk (Kd.S_below (S_l HO669.out) hb); have n9_ := Aside0.mk (Kd.R_below (R_l HO671.out) hb); have n10_ := Aside0.mk (Kd.R_below (R_l HO675.out) hb); have n11_ := Aside0.mk (Kd.R_below (R_l HO679.out) hb); have n12_ := Aside0.mk (Kd.S_below (S_l HO683.out) hb); have n13_ := Aside0.mk (Kd.S_below (S_l HO685.out) hb); have n14_ := Aside0.mk (Kd.S_below (S_l HO689.out) hb); have n15_ := Aside0.mk (Kd.S_below (S_l HO693.out) hb); have n16_ := Aside0.mk (Kd.S_below (S_l HO697.out) hb); have n17_ := Aside0.mk (below_step (B_l HB.out) hb); clear HO639; clear HO641; clear HO647; clear HO649; clear HO653; clear HO657; clear HO661; clear HO665; clear HO669; clear HO671; clear HO675; clear HO679; clear HO683; clear HO685; clear HO689; clear HO693; clear HO697; clear HB; have HO639 := n0_; have HO641 := n1_; have HO647 := n2_; have HO649 := n3_; have HO653 := n4_; have HO657 := n5_; have HO661 := n6_; have HO665 := n7_; have HO669 := n8_; have HO671 := n9_; have HO675 := n10_; have HO679 := n11_; have HO683 := n12_; have HO685 := n13_; have HO689 := n14_; have HO693 := n15_; have HO697 := n16_; have HB := n17_; clear n0_ n1_ n2_ n3_ n4_ n5_ n6_ n7_ n8_ n9_ n10_ n11_ n12_ n13_ n14_ n15_ n16_ n17_) | (go_at_call 96; (with_reducible refine (impl_CommuteHolds.calls k t635 _ _ t636 _ _ t637 t712 _ ?side1 ?side2 ?side3 ?side4 A126.out).mono ?_); (case side1 => exact C_l ((Kd.R_reads' HO639.out).2.2)); (case side2 => exact (Kd.R_reads' HO639.out).2.1); (case side3 => exact C_l ((Kd.R_reads' HO641.out).2.2)); (case side4 => exact (Kd.R_reads' HO641.out).2.1); rintro e w142 ⟨rfl, hb⟩; have n0_ := Aside0.mk (Kd.R_below (R_l HO639.out) hb); have n1_ := Aside0.mk (Kd.R_below (R_l HO641.out) hb); have n2_ := Aside0.mk (Kd.R_below (R_l HO647.out) hb); have n3_ := Aside0.mk (Kd.R_below (R_l HO649.out) hb); have n4_ := Aside0.mk (Kd.R_below (R_l HO653.out) hb); have n5_ := Aside0.mk (Kd.R_below (R_l HO657.out) hb); have n6_ := Aside0.mk (Kd.S_below (S_l HO661.out) hb); have n7_ := Aside0.mk (Kd.S_below (S_l HO665.out) hb); have n8_ := Aside0.mk (Kd.S_below (S_l HO669.out) hb); have n9_ := Aside0.mk (Kd.R_below (R_l HO671.out) hb); have n10_ := Aside0.mk (Kd.R_below (R_l HO675.out) hb); have n11_ := Aside0.mk (Kd.R_below (R_l HO679.out) hb); have n12_ := Aside0.mk (Kd.S_below (S_l HO683.out) hb); have n13_ := Aside0.mk (Kd.S_below (S_l HO685.out) hb); have n14_ := Aside0.mk (Kd.S_below (S_l HO689.out) hb); have n15_ := Aside0.mk (Kd.S_below (S_l HO693.out) hb); have n16_ := Aside0.mk (Kd.S_below (S_l HO697.out) hb); have n17_ := Aside0.mk (below_step (B_l HB.out) hb); clear HO639; clear HO641; clear HO647; clear HO649; clear HO653; clear HO657; clear HO661; clear HO665; clear HO669; clear HO671; clear HO675; clear HO679; clear HO683; clear HO685; clear HO689; clear HO693; clear HO697; clear HB; have HO639 := n0_; have HO641 := n1_; have HO647 := n2_; have HO649 := n3_; have HO653 := n4_; have HO657 := n5_; have HO661 := n6_; have HO665 := n7_; have HO669 := n8_; have HO671 := n9_; have HO675 := n10_; have HO679 := n11_; have HO683 := n12_; have HO685 := n13_; have HO689 := n14_; have HO693 := n15_; have HO697 := n16_; have HB := n17_; clear n0_ n1_ n2_ n3_ n4_ n5_ n6_ n7_ n8_ n9_ n10_ n11_ n12_ n13_ n14_ n15_ n16_ n17_) | (go_at_call 97; (with_reducible refine (spec_CommuteHolds.calls k t635 _ _ t636 _ _ t637 t713 _ ?side1 ?side2 ?side3 ?side4 A127.out).mono ?_); (case side1 => exact C_l ((Kd.R_reads' HO639.out).2.2)); (case side2 => exact (Kd.R_reads' HO639.out).2.1); (case side3 => exact C_l ((Kd.R_reads' HO641.out).2.2)); (case side4 => exact (Kd.R_reads' HO641.out).2.1); rintro e w143 ⟨rfl, hb⟩; have n0_ := Aside0.mk (Kd.R_below (R_l HO639.out) hb); have n1_ := Aside0.mk (Kd.R_below (R_l HO641.out) hb); have n2_ := Aside0.mk (Kd.R_below (R_l HO647.out) hb); have n3_ := Aside0.mk (Kd.R_below (R_l HO649.out) hb); have n4_ := Aside0.mk (Kd.R_below (R_l HO653.out) hb); have n5_ := Aside0.mk (Kd.R_below (R_l HO657.out) hb); have n6_ := Aside0.mk (Kd.S_below (S_l HO661.out) hb); have n7_ := Aside0.mk (Kd.S_below (S_l HO665.out) hb); have n8_ := Aside0.mk (Kd.S_below (S_l HO669.out) hb); have n9_ := Aside0.mk (Kd.R_below (R_l HO671.out) hb); have n10_ := Aside0.mk (Kd.R_below (R_l HO675.out) hb); have n11_ := Aside0.mk (Kd.R_below (R_l HO679.out) hb); have n12_ := Aside0.mk (Kd.S_below (S_l HO683.out) hb); have n13_ := Aside0.mk (Kd.S_below (S_l HO685.out) hb); have n14_ := Aside0.mk (Kd.S_below (S_l HO689.out) hb); have n15_ := Aside0.mk (Kd.S_below (S_l HO693.out) hb); have n16_ := Aside0.mk (Kd.S_below (S_l HO697.out) hb); have n17_ := Aside0.mk (below_step (B_l HB.out) hb); clear HO639; clear HO641; clear HO647; clear HO649; clear HO653; clear HO657; clear HO661; clear HO665; clear HO669; clear HO671; clear HO675; clear HO679; clear HO683; clear HO685; clear HO689; clear HO693; clear HO697; clear HB; have HO639 := n0_; have HO641 := n1_; have HO647 := n2_; have HO649 := n3_; have HO653 := n4_; have HO657 := n5_; have HO661 := n6_; have HO665 := n7_; have HO669 := n8_; have HO671 := n9_; have HO675 := n10_; have HO679 := n11_; have HO683 := n12_; have HO685 := n13_; have HO689 := n14_; have HO693 := n15_; have HO697 := n16_; have HB := n17_; clear n0_ n1_ n2_ n3_ n4_ n5_ n6_ n7_ n8_ n9_ n10_ n11_ n12_ n13_ n14_ n15_ n16_ n17_))
                go_meet
                case rel => exact ⟨_, ((t712 != t713)), (by first | rfl | (simp; done) | (simp [*]; done)), H', ⟨by first | omega | exact Nat.le_refl _⟩, ⟨R_l (Kd.R_mono HO639.out (fun _ hk => ⟨hk.1.1.1.1.1.1.1, ⟨hk.1.1.1.1.1.1.2, ⟨hk.1.1.1.1.1.2, hk.1.1.1.1.2⟩⟩⟩))⟩, ⟨R_l (Kd.R_mono HO641.out (fun _ hk => ⟨hk.1.1.1.1.1.1.1, ⟨hk.1.1.1.1.1.1.2, ⟨hk.1.1.1.1.1.2, hk.1.1.1.1.2⟩⟩⟩))⟩, ⟨R_l (Kd.R_mono HO647.out (fun _ hk => ⟨hk.1.1.1.1.1.1.2, ⟨hk.1.1.1.1.1.2, ⟨hk.1.1.1.1.1.1.1, hk.1.1.1.1.2⟩⟩⟩))⟩, ⟨R_l (Kd.R_mono HO649.out (fun _ hk => ⟨hk.1.1.1.1.1.1.2, ⟨hk.1.1.1.1.1.2, ⟨hk.1.1.1.1.1.1.1, hk.1.1.1.1.2⟩⟩⟩))⟩, ⟨R_l (Kd.R_mono HO653.out (fun _ hk => ⟨hk.1.1.1.1.1.1.1.2, ⟨hk.1.1.1.1.1.1.2, ⟨hk.1.1.1.1.1.2, hk.1.1.1.1.2⟩⟩⟩))⟩, ⟨S_l (Kd.S_mono HO661.out (fun _ hk => ⟨hk.1.1.1.1.1.1.1.1.1.1.1.1.1.1.1.2, ⟨hk.1.1.1.1.1.1.1.1.1.1.1.1.1.1.2, ⟨hk.1.1.1.1.1.1.1.1.1.1.1.1.1.2, ⟨hk.1.1.1.1.1.1.1.1.1.1.1.1.2, hk.1.1.1.1.1.1.1.1.1.1.1.2⟩⟩⟩⟩))⟩, ⟨B_l HB.out⟩⟩
            ·rw [if_neg c79] at H
             exact absurd H (laws_FnTwists_no_j0 _ _ _ _ _ _ _ _ _ _ _ _ _)
          ·replace c63 := Bool.eq_false_iff.mpr c63
           subst c63
           rw [if_neg (show ¬ (false = true) by decide)] at H
           exact absurd H (laws_FnTwists_no_j0 _ _ _ _ _ _ _ _ _ _ _ _ _)
        ·replace c54 := Bool.eq_false_iff.mpr c54
         subst c54
         rw [if_neg (show ¬ (false = true) by decide)] at H
         exact absurd H (laws_FnTwists_no_j0 _ _ _ _ _ _ _ _ _ _ _ _ _)
      ·replace c47 := Bool.eq_false_iff.mpr c47
       subst c47
       rw [if_neg (show ¬ (false = true) by decide)] at H
       exact absurd H (laws_FnTwists_no_j0 _ _ _ _ _ _ _ _ _ _ _ _ _)
    ·replace c42 := Bool.eq_false_iff.mpr c42
     subst c42
     rw [if_neg (show ¬ (false = true) by decide)] at H
     exact absurd H (laws_FnTwists_no_j0 _ _ _ _ _ _ _ _ _ _ _ _ _)
  case rest => as_aux_lemma =>
   clear HC18
   try clear c1
   try clear p2
   try clear c3
   try clear c4
   try clear c5
   try clear c6
   try clear c7
   try clear c8
   try clear c9
   try clear c11
   try clear c40
   try clear c40b0
   try clear c40b1
   try clear c40b2
   try clear c42
   try clear c43
   try clear c43b0
   try clear c43b1
   try clear c43b2
   try clear c47
   try clear c48
   try clear c48b0
   try clear c48b1
   try clear c48b2
   try clear c54
   try clear c55
   try clear c55b0
   try clear c55b1
   try clear c55b2
   try clear c63
   try clear c66
   try clear c66b0
   try clear c66b1
   try clear c66b2
   try clear c73
   try clear c74
   try clear c75
   try clear c76
   try clear c77
   try clear c78
   try clear c79
   try clear c79b0
   try clear c79b1
   try clear c80
   try clear c81
   try clear c82
   try clear c82b0
   try clear c82b1
   try clear c82b2
   try clear c83
   try clear c84
   try clear c85
   try clear c86
   try clear c96
   try clear c96b0
   try clear c96b1
   try clear c96b2
   try clear c111
   try clear c111b0
   try clear c111b1
   try clear c111b2
   obtain ⟨kq, x225_17, rfl, HA, HJ17, HO_4, HO_5, HO_7, HO_8, HO_10, HO_14, HB⟩ := hcut
   cases kq with
   | zero => exact absurd HA.out (by simp [laws_FnTwists.j0])
   | succ kj17 =>
    have H := HA.out
    clear HA
    simp only [laws_FnTwists.j0] at H
    by_cases c175 : x225_17 = true
    ·subst c175
     rw [if_pos rfl] at H
     exact absurd H (by simp)
    ·replace c175 := Bool.eq_false_iff.mpr c175
     subst c175
     rw [if_neg (show ¬ (false = true) by decide)] at H
     have HC176 := Aside0.mk H
     go_upto_region 19 with (fail)
     go_cut [241] (fun v241 wc => ∃ (kq : Nat) (x241_175 : Bool), v241 = .bool x241_175 ∧ Aside0 (laws_FnTwists.j1 kq t635 t636 t637 t642 t643 t644 t645 t650 t651 t658 t698 x241_175 = some true) ∧ Aside0 (kq ≤ kj17) ∧ Aside0 (Kd.R (Kd.int .i64) 3 wc w.heap.size (fun k_ => some k_ ≠ ((.slice Ao39 t637.length co39) : Value).ownBlock ∧ some k_ ≠ ((.slice Ao21 t643.length co21) : Value).ownBlock ∧ some k_ ≠ ((.slice Ao22 t644.length co22) : Value).ownBlock ∧ some k_ ≠ (v652 : Value).ownBlock) (.slice Ao25 t636.length co25) t636) ∧ Aside0 (Kd.R (Kd.int .i64) 3 wc w.heap.size (fun k_ => some k_ ≠ ((.slice Ao25 t636.length co25) : Value).ownBlock ∧ some k_ ≠ ((.slice Ao21 t643.length co21) : Value).ownBlock ∧ some k_ ≠ ((.slice Ao22 t644.length co22) : Value).ownBlock ∧ some k_ ≠ (v652 : Value).ownBlock) (.slice Ao39 t637.length co39) t637) ∧ Aside0 (Kd.R (Kd.int .i64) 3 wc w.heap.size (fun k_ => some k_ ≠ ((.slice Ao25 t636.length co25) : Value).ownBlock ∧ some k_ ≠ ((.slice Ao39 t637.length co39) : Value).ownBlock ∧ some k_ ≠ ((.slice Ao22 t644.length co22) : Value).ownBlock ∧ some k_ ≠ (v652 : Value).ownBlock) (.slice Ao21 t643.length co21) t643) ∧ Aside0 (Kd.R (Kd.int .i64) 3 wc w.heap.size (fun k_ => some k_ ≠ ((.slice Ao25 t636.length co25) : Value).ownBlock ∧ some k_ ≠ ((.slice Ao39 t637.length co39) : Value).ownBlock ∧ some k_ ≠ ((.slice Ao21 t643.length co21) : Value).ownBlock ∧ some k_ ≠ (v652 : Value).ownBlock) (.slice Ao22 t644.length co22) t644) ∧ Aside0 (Kd.R (Kd.int .i64) 3 wc w.heap.size (fun k_ => some k_ ≠ ((.slice Ao25 t636.length co25) : Value).ownBlock ∧ some k_ ≠ ((.slice Ao39 t637.length co39) : Value).ownBlock ∧ some k_ ≠ ((.slice Ao21 t643.length co21) : Value).ownBlock ∧ some k_ ≠ ((.slice Ao22 t644.length co22) : Value).ownBlock) v652 t650) ∧ Aside0 (Kd.S (Kd.slice 3 (Kd.int .i64)) 35 wc w.heap.size (fun k_ => some k_ ≠ ((.slice Ao25 t636.length co25) : Value).ownBlock ∧ some k_ ≠ ((.slice Ao39 t637.length co39) : Value).ownBlock ∧ some k_ ≠ ((.slice Ao21 t643.length co21) : Value).ownBlock ∧ some k_ ≠ ((.slice Ao22 t644.length co22) : Value).ownBlock ∧ some k_ ≠ (v652 : Value).ownBlock) v660 t658) ∧ Aside0 (Below w.heap.size w wc))
     case first => as_aux_lemma =>
      have H := HC176.out
      clear HC176
      replace H := Option.bind_eq_some_iff.mp H
      obtain ⟨t714, A1770, H⟩ := H
      have A177 := Aside0.mk A1770
      clear A1770
      by_cases c178 : t698 = (wrap64 (-t714))
      ·rw [if_pos c178] at H
       have c178b0 : (t698 == (wrap64 (-t714))) = true := beq_iff_eq.mpr c178
       have c178b1 : (t698 != (wrap64 (-t714))) = false := bne_eq_false_iff_eq.mpr c178
       clear c178
       (first | rw [c178b0] | (simp only [i64_w, i32_w]; rw [c178b0]) | skip)
       by_cases c179 : t659 = true
       ·subst c179
        rw [if_pos rfl] at H
        replace H := Option.bind_eq_some_iff.mp H
        obtain ⟨t715, A1800, H⟩ := H
        have A180 := Aside0.mk A1800
        clear A1800
        have H' := Aside0.mk H
        go_wp2_with (first | ((with_reducible refine gate_callee (f := 86) rfl ?_); refine goesL_ (some 230) rfl rfl Try.func86 (by kernel_rfl) rfl #[.int .i64 t635, .slice Ao39 t637.length co39, .slice Ao25 t636.length co25] rfl (by (try simp only [List.map_toArray, List.map_cons, List.map_nil]); first | done | rfl | (simp only [List.length_drop, List.length_take]; rfl)) ?_; (with_reducible refine (impl_FormOf.calls kj17 t635 _ _ t637 _ _ t636 t714 _ ?side1 ?side2 ?side3 ?side4 A177.out).mono ?_); (case side1 => exact C_l ((Kd.R_reads' HO_5.out).2.2)); (case side2 => exact (Kd.R_reads' HO_5.out).2.1); (case side3 => exact C_l ((Kd.R_reads' HO_4.out).2.2)); (case side4 => exact (Kd.R_reads' HO_4.out).2.1); rintro e w' ⟨rfl, ⟨nd, rfl⟩⟩; refine ⟨_, rfl, ?_⟩; obtain ⟨Ao181, co181, eo181⟩ := Kd.S_slice HO_14.out; subst eo181) | (go_at_call 87; (with_reducible refine (impl_IsSymplectic.calls kj17 t635 _ _ t658 t715 _ ?side1 ?side2 A180.out).mono ?_); (case side1 => exact C_l ((Kd.S_reads' HO_14.out).2.2)); (case side2 => exact (Kd.S_reads' HO_14.out).2.1); rintro e w182 ⟨rfl, hb⟩; have n0_ := Aside0.mk (Kd.R_below (R_l HO_4.out) hb); have n1_ := Aside0.mk (Kd.R_below (R_l HO_5.out) hb); have n2_ := Aside0.mk (Kd.R_below (R_l HO_7.out) hb); have n3_ := Aside0.mk (Kd.R_below (R_l HO_8.out) hb); have n4_ := Aside0.mk (Kd.R_below (R_l HO_10.out) hb); have n5_ := Aside0.mk (Kd.S_below (S_l HO_14.out) hb); have n6_ := Aside0.mk (below_step (B_l HB.out) hb); clear HO_4; clear HO_5; clear HO_7; clear HO_8; clear HO_10; clear HO_14; clear HB; have HO_4 := n0_; have HO_5 := n1_; have HO_7 := n2_; have HO_8 := n3_; have HO_10 := n4_; have HO_14 := n5_; have HB := n6_; clear n0_ n1_ n2_ n3_ n4_ n5_ n6_))
        go_meet
        case rel => exact ⟨_, (!t715), (by first | rfl | (simp; done) | (simp [*]; done)), H', ⟨by have := HJ17.out; first | omega | exact Nat.le_refl _⟩, ⟨R_l HO_4.out⟩, ⟨R_l HO_5.out⟩, ⟨R_l HO_7.out⟩, ⟨R_l HO_8.out⟩, ⟨R_l HO_10.out⟩, ⟨S_l HO_14.out⟩, ⟨B_l HB.out⟩⟩
       ·replace c179 := Bool.eq_false_iff.mpr c179
        subst c179
        rw [if_neg (show ¬ (false = true) by decide)] at H
        have H' := Aside0.mk H
        go_wp2_with (first | ((with_reducible refine gate_callee (f := 86) rfl ?_); refine goesL_ (some 230) rfl rfl Try.func86 (by kernel_rfl) rfl #[.int .i64 t635, .slice Ao39 t637.length co39, .slice Ao25 t636.length co25] rfl (by (try simp only [List.map_toArray, List.map_cons, List.map_nil]); first | done | rfl | (simp only [List.length_drop, List.length_take]; rfl)) ?_; (with_reducible refine (impl_FormOf.calls kj17 t635 _ _ t637 _ _ t636 t714 _ ?side1 ?side2 ?side3 ?side4 A177.out).mono ?_); (case side1 => exact C_l ((Kd.R_reads' HO_5.out).2.2)); (case side2 => exact (Kd.R_reads' HO_5.out).2.1); (case side3 => exact C_l ((Kd.R_reads' HO_4.out).2.2)); (case side4 => exact (Kd.R_reads' HO_4.out).2.1); rintro e w' ⟨rfl, ⟨nd, rfl⟩⟩; refine ⟨_, rfl, ?_⟩))
        go_meet
        case rel => exact ⟨_, (false), (by first | rfl | (simp; done) | (simp [*]; done)), H', ⟨by have := HJ17.out; first | omega | exact Nat.le_refl _⟩, ⟨R_l HO_4.out⟩, ⟨R_l HO_5.out⟩, ⟨R_l HO_7.out⟩, ⟨R_l HO_8.out⟩, ⟨R_l HO_10.out⟩, ⟨S_l HO_14.out⟩, ⟨B_l HB.out⟩⟩
      ·rw [if_neg c178] at H
       exact absurd H (laws_FnTwists_no_j1 _ _ _ _ _ _ _ _ _ _ _ _)
     case rest => as_aux_lemma =>
      clear HC176
      try clear c1
      try clear p2
      try clear c3
      try clear c4
      try clear c5
      try clear c6
      try clear p6
      try clear c7
      try clear c8
      try clear c9
      try clear c11
      try clear c17
      try clear c40
      try clear c40b0
      try clear c40b1
      try clear c40b2
      try clear c42
      try clear c43
      try clear c43b0
      try clear c43b1
      try clear c43b2
      try clear c47
      try clear c48
      try clear c48b0
      try clear c48b1
      try clear c48b2
      try clear c54
      try clear c55
      try clear c55b0
      try clear c55b1
      try clear c55b2
      try clear c63
      try clear p64
      try clear c66
      try clear c66b0
      try clear c66b1
      try clear c66b2
      try clear c73
      try clear c74
      try clear c75
      try clear c76
      try clear c77
      try clear c78
      try clear c79
      try clear c79b0
      try clear c79b1
      try clear c80
      try clear c81
      try clear c82
      try clear c82b0
      try clear c82b1
      try clear c82b2
      try clear c83
      try clear c84
      try clear c85
      try clear c86
      try clear c96
      try clear c96b0
      try clear c96b1
      try clear c96b2
      try clear c111
      try clear c111b0
      try clear c111b1
      try clear c111b2
      try clear c175
      try clear c178
      try clear c178b0
      try clear c178b1
      try clear c179
      try clear p2
      obtain ⟨kq, x241_175, rfl, HA, HJ175, HO_4, HO_5, HO_7, HO_8, HO_10, HO_14, HB⟩ := hcut
      cases kq with
      | zero => exact absurd HA.out (by simp [laws_FnTwists.j1])
      | succ kj175 =>
       have H := HA.out
       clear HA
       simp only [laws_FnTwists.j1] at H
       by_cases c183 : x241_175 = true
       ·subst c183
        rw [if_pos rfl] at H
        exact absurd H (by simp)
       ·replace c183 := Bool.eq_false_iff.mpr c183
        subst c183
        rw [if_neg (show ¬ (false = true) by decide)] at H
        have HC184 := Aside0.mk H
        go_upto_region 21 with (fail)
        go_cut [246] (fun v246 wc => ∃ (kq : Nat) (x246_183 : Bool), v246 = .bool x246_183 ∧ Aside0 (laws_FnTwists.j2 kq t635 t636 t637 t642 t643 t644 t645 t650 t658 t698 x246_183 = some true) ∧ Aside0 (kq ≤ kj175) ∧ Aside0 (Kd.R (Kd.int .i64) 3 wc w.heap.size (fun k_ => some k_ ≠ ((.slice Ao39 t637.length co39) : Value).ownBlock ∧ some k_ ≠ ((.slice Ao21 t643.length co21) : Value).ownBlock ∧ some k_ ≠ ((.slice Ao22 t644.length co22) : Value).ownBlock ∧ some k_ ≠ (v652 : Value).ownBlock) (.slice Ao25 t636.length co25) t636) ∧ Aside0 (Kd.R (Kd.int .i64) 3 wc w.heap.size (fun k_ => some k_ ≠ ((.slice Ao25 t636.length co25) : Value).ownBlock ∧ some k_ ≠ ((.slice Ao21 t643.length co21) : Value).ownBlock ∧ some k_ ≠ ((.slice Ao22 t644.length co22) : Value).ownBlock ∧ some k_ ≠ (v652 : Value).ownBlock) (.slice Ao39 t637.length co39) t637) ∧ Aside0 (Kd.R (Kd.int .i64) 3 wc w.heap.size (fun k_ => some k_ ≠ ((.slice Ao25 t636.length co25) : Value).ownBlock ∧ some k_ ≠ ((.slice Ao39 t637.length co39) : Value).ownBlock ∧ some k_ ≠ ((.slice Ao22 t644.length co22) : Value).ownBlock ∧ some k_ ≠ (v652 : Value).ownBlock) (.slice Ao21 t643.length co21) t643) ∧ Aside0 (Kd.R (Kd.int .i64) 3 wc w.heap.size (fun k_ => some k_ ≠ ((.slice Ao25 t636.length co25) : Value).ownBlock ∧ some k_ ≠ ((.slice Ao39 t637.length co39) : Value).ownBlock ∧ some k_ ≠ ((.slice Ao21 t643.length co21) : Value).ownBlock ∧ some k_ ≠ (v652 : Value).ownBlock) (.slice Ao22 t644.length co22) t644) ∧ Aside0 (Kd.R (Kd.int .i64) 3 wc w.heap.size (fun k_ => some k_ ≠ ((.slice Ao25 t636.length co25) : Value).ownBlock ∧ some k_ ≠ ((.slice Ao39 t637.length co39) : Value).ownBlock ∧ some k_ ≠ ((.slice Ao21 t643.length co21) : Value).ownBlock ∧ some k_ ≠ ((.slice Ao22 t644.length co22) : Value).ownBlock) v652 t650) ∧ Aside0 (Kd.S (Kd.slice 3 (Kd.int .i64)) 35 wc w.heap.size (fun k_ => some k_ ≠ ((.slice Ao25 t636.length co25) : Value).ownBlock ∧ some k_ ≠ ((.slice Ao39 t637.length co39) : Value).ownBlock ∧ some k_ ≠ ((.slice Ao21 t643.length co21) : Value).ownBlock ∧ some k_ ≠ ((.slice Ao22 t644.length co22) : Value).ownBlock ∧ some k_ ≠ (v652 : Value).ownBlock) v660 t658) ∧ Aside0 (Below w.heap.size w wc))
        case first => as_aux_lemma =>
         have H := HC184.out
         clear HC184
         by_cases c185 : t651 = true
         ·subst c185
          rw [if_pos rfl] at H
          have H' := Aside0.mk H
          go_wp2
          go_meet
          case rel => exact ⟨_, (decide (t645 ≥ (-19))), (by first | rfl | (simp; done) | (simp [*]; done)), H', ⟨by have := HJ17.out; have := HJ175.out; first | omega | exact Nat.le_refl _⟩, ⟨R_l HO_4.out⟩, ⟨R_l HO_5.out⟩, ⟨R_l HO_7.out⟩, ⟨R_l HO_8.out⟩, ⟨R_l HO_10.out⟩, ⟨S_l HO_14.out⟩, ⟨B_l HB.out⟩⟩
         ·replace c185 := Bool.eq_false_iff.mpr c185
          subst c185
          rw [if_neg (show ¬ (false = true) by decide)] at H
          have H' := Aside0.mk H
          go_wp2
          go_meet
          case rel => exact ⟨_, (false), (by first | rfl | (simp; done) | (simp [*]; done)), H', ⟨by have := HJ17.out; have := HJ175.out; first | omega | exact Nat.le_refl _⟩, ⟨R_l HO_4.out⟩, ⟨R_l HO_5.out⟩, ⟨R_l HO_7.out⟩, ⟨R_l HO_8.out⟩, ⟨R_l HO_10.out⟩, ⟨S_l HO_14.out⟩, ⟨B_l HB.out⟩⟩
        case rest => as_aux_lemma =>
         clear HC184
         try clear c1
         try clear p2
         try clear c3
         try clear c4
         try clear c5
         try clear c6
         try clear p6
         try clear c7
         try clear c8
         try clear c9
         try clear c11
         try clear c17
         try clear c18
         try clear c40
         try clear c40b0
         try clear c40b1
         try clear c40b2
         try clear c42
         try clear c43
         try clear c43b0
         try clear c43b1
         try clear c43b2
         try clear c47
         try clear c48
         try clear c48b0
         try clear c48b1
         try clear c48b2
         try clear c54
         try clear c55
         try clear c55b0
         try clear c55b1
         try clear c55b2
         try clear c63
         try clear p64
         try clear c66
         try clear c66b0
         try clear c66b1
         try clear c66b2
         try clear c73
         try clear c74
         try clear c75
         try clear c76
         try clear c77
         try clear c78
         try clear c79
         try clear c79b0
         try clear c79b1
         try clear c80
         try clear c81
         try clear c82
         try clear c82b0
         try clear c82b1
         try clear c82b2
         try clear c83
         try clear c84
         try clear c85
         try clear c86
         try clear c96
         try clear c96b0
         try clear c96b1
         try clear c96b2
         try clear c111
         try clear c111b0
         try clear c111b1
         try clear c111b2
         try clear c175
         try clear c178
         try clear c178b0
         try clear c178b1
         try clear c179
         try clear c183
         try clear c185
         try clear p2
         try clear p6
         try clear p64
         obtain ⟨kq, x246_183, rfl, HA, HJ183, HO_4, HO_5, HO_7, HO_8, HO_10, HO_14, HB⟩ := hcut
         cases kq with
         | zero => exact absurd HA.out (by simp [laws_FnTwists.j2])
         | succ kj183 =>
          have H := HA.out
          clear HA
          simp only [laws_FnTwists.j2] at H
          have HC186 := Aside0.mk H
          go_upto_if 246 with (fail)
          go_cut [] (fun wc => ∃ (kq : Nat), Aside0 (laws_FnTwists.j3 kq t635 t636 t637 t658 t698 = some true) ∧ Aside0 (kq ≤ kj183) ∧ Aside0 (Kd.R (Kd.int .i64) 3 wc w.heap.size (fun k_ => some k_ ≠ ((.slice Ao39 t637.length co39) : Value).ownBlock) (.slice Ao25 t636.length co25) t636) ∧ Aside0 (Kd.R (Kd.int .i64) 3 wc w.heap.size (fun k_ => some k_ ≠ ((.slice Ao25 t636.length co25) : Value).ownBlock) (.slice Ao39 t637.length co39) t637) ∧ Aside0 (Kd.S (Kd.slice 3 (Kd.int .i64)) 35 wc w.heap.size (fun k_ => some k_ ≠ ((.slice Ao25 t636.length co25) : Value).ownBlock ∧ some k_ ≠ ((.slice Ao39 t637.length co39) : Value).ownBlock) v660 t658) ∧ Aside0 (Below w.heap.size w wc))
          case first => as_aux_lemma =>
           have H := HC186.out
           clear HC186
           by_cases c187 : x246_183 = true
           ·subst c187
            rw [if_pos rfl] at H
            replace H := Option.bind_eq_some_iff.mp H
            obtain ⟨⟨t716, t717⟩, A1880, H⟩ := H
            replace H : (if t717 = true then ((laws_sameInts.f kj183 t716 t644).bind fun t720 => (if t720 = true then ((impl_FormOf.f kj183 t642 t643 t650).bind fun t721 => ((impl_FormOf.f kj183 t642 t643 t644).bind fun t722 => (if t721 = t722 then (laws_FnTwists.j3 kj183 t635 t636 t637 t658 t698) else (some false)))) else (some false))) else ((impl_FormOf.f kj183 t642 t643 t650).bind fun t723 => ((impl_FormOf.f kj183 t642 t643 t644).bind fun t724 => (if t723 = t724 then (laws_FnTwists.j3 kj183 t635 t636 t637 t658 t698) else (some false))))) = some true := H
            have A188 := Aside0.mk A1880
            clear A1880
            by_cases c189 : t717 = true
            ·subst c189
             rw [if_pos rfl] at H
             replace H := Option.bind_eq_some_iff.mp H
             obtain ⟨t720, A1900, H⟩ := H
             have A190 := Aside0.mk A1900
             clear A1900
             by_cases c191 : t720 = true
             ·subst c191
              rw [if_pos rfl] at H
              replace H := Option.bind_eq_some_iff.mp H
              obtain ⟨t721, A1920, H⟩ := H
              have A192 := Aside0.mk A1920
              clear A1920
              replace H := Option.bind_eq_some_iff.mp H
              obtain ⟨t722, A1930, H⟩ := H
              have A193 := Aside0.mk A1930
              clear A1930
              by_cases c194 : t721 = t722
              ·rw [if_pos c194] at H
               have c194b0 : (t721 == t722) = true := beq_iff_eq.mpr c194
               have c194b1 : (t721 != t722) = false := bne_eq_false_iff_eq.mpr c194
               clear c194
               (first | rw [c194b0] | (simp only [i64_w, i32_w]; rw [c194b0]) | skip)
               have H' := Aside0.mk H
               obtain ⟨Ao195, co195, eo195⟩ := Kd.R_slice HO_10.out
               subst eo195
               go_wp2_with (first | ((with_reducible refine gate_callee (f := 75) rfl ?_); refine goesL_ (some 253) rfl rfl Try.func75 (by kernel_rfl) rfl #[.int .i64 t642, .slice Ao21 t643.length co21, .slice Ao195 t650.length co195, .int .i64 (wrap64 (-t645))] rfl (by (try simp only [List.map_toArray, List.map_cons, List.map_nil]); first | done | rfl | (simp only [List.length_drop, List.length_take]; rfl)) ?_; (with_reducible refine (impl_TwistClass.calls kj183 t642 _ _ t643 _ _ t650 (wrap64 (-t645)) t716 true _ ?side1 ?side2 ?side3 ?side4 A188.out).mono ?_); (case side1 => exact C_l ((Kd.R_reads' HO_7.out).2.2)); (case side2 => exact (Kd.R_reads' HO_7.out).2.1); (case side3 => exact C_l ((Kd.R_reads' HO_10.out).2.2)); (case side4 => exact (Kd.R_reads' HO_10.out).2.1); rintro e w196 ⟨v718, rfl, ho0, hb⟩; refine ⟨_, rfl, ?_⟩; have n0_ := Aside0.mk (Kd.R_elder' (R_l HO_4.out) (Kd.R_base ho0) hb); have n1_ := Aside0.mk (Kd.R_elder' (R_l HO_5.out) (Kd.R_base ho0) hb); have n2_ := Aside0.mk (Kd.R_elder' (R_l HO_7.out) (Kd.R_base ho0) hb); have n3_ := Aside0.mk (Kd.R_elder' (R_l HO_8.out) (Kd.R_base ho0) hb); have n4_ := Aside0.mk (Kd.R_elder' (R_l HO_10.out) (Kd.R_base ho0) hb); have n5_ := Aside0.mk (Kd.S_elder' (S_l HO_14.out) (Kd.R_base ho0) hb); have n6_ := Aside0.mk (Kd.R_lower (Kd.R_new' (Kd.R_new' (Kd.R_new' (Kd.R_new' (Kd.R_new' ho0 (Kd.R_lt (R_l HO_4.out))) (Kd.R_lt (R_l HO_5.out))) (Kd.R_lt (R_l HO_7.out))) (Kd.R_lt (R_l HO_8.out))) (Kd.R_lt (R_l HO_10.out))) (below_size (B_l HB.out))); have n7_ := Aside0.mk (below_step (B_l HB.out) hb); clear HO_4; clear HO_5; clear HO_7; clear HO_8; clear HO_10; clear HO_14; clear HB; have HO_4 := n0_; have HO_5 := n1_; have HO_7 := n2_; have HO_8 := n3_; have HO_10 := n4_; have HO_14 := n5_; have HO719 := n6_; have HB := n7_; clear n0_ n1_ n2_ n3_ n4_ n5_ n6_ n7_; obtain ⟨Ao197, co197, eo197⟩ := Kd.R_slice HO719.out; subst eo197) | (go_at_call 40; (with_reducible refine (laws_sameInts.calls kj183 _ _ t716 _ _ t644 true _ ?side1 ?side2 ?side3 ?side4 A190.out).mono ?_); (case side1 => exact C_l ((Kd.R_reads' HO719.out).2.2)); (case side2 => exact (Kd.R_reads' HO719.out).2.1); (case side3 => exact C_l ((Kd.R_reads' HO_8.out).2.2)); (case side4 => exact (Kd.R_reads' HO_8.out).2.1); rintro e w' ⟨rfl, ⟨nd, rfl⟩⟩) | (go_at_call 86; (with_reducible refine (impl_FormOf.calls kj183 t642 _ _ t643 _ _ t650 t721 _ ?side1 ?side2 ?side3 ?side4 A192.out).mono ?_); (case side1 => exact C_l ((Kd.R_reads' HO_7.out).2.2)); (case side2 => exact (Kd.R_reads' HO_7.out).2.1); (case side3 => exact C_l ((Kd.R_reads' HO_10.out).2.2)); (case side4 => exact (Kd.R_reads' HO_10.out).2.1); rintro e w' ⟨rfl, ⟨nd, rfl⟩⟩) | (go_at_call 86; (with_reducible refine (impl_FormOf.calls kj183 t642 _ _ t643 _ _ t644 t722 _ ?side1 ?side2 ?side3 ?side4 A193.out).mono ?_); (case side1 => exact C_l ((Kd.R_reads' HO_7.out).2.2)); (case side2 => exact (Kd.R_reads' HO_7.out).2.1); (case side3 => exact C_l ((Kd.R_reads' HO_8.out).2.2)); (case side4 => exact (Kd.R_reads' HO_8.out).2.1); rintro e w' ⟨rfl, ⟨nd, rfl⟩⟩))
               go_meet
               case rel => exact ⟨_, H', ⟨by have := HJ17.out; have := HJ175.out; have := HJ183.out; first | omega | exact Nat.le_refl _⟩, ⟨R_l (Kd.R_mono HO_4.out (fun _ hk => hk.1.1))⟩, ⟨R_l (Kd.R_mono HO_5.out (fun _ hk => hk.1.1))⟩, ⟨S_l (Kd.S_mono HO_14.out (fun _ hk => ⟨hk.1.1, hk.1.2.1⟩))⟩, ⟨B_l HB.out⟩⟩
              ·rw [if_neg c194] at H
               have c194b0 : (t721 == t722) = false := beq_eq_false_iff_ne.mpr c194
               have c194b1 : (t721 != t722) = true := bne_iff_ne.mpr c194
               (first | rw [c194b0] | (simp only [i64_w, i32_w]; rw [c194b0]) | skip)
               exact absurd H (by simp)
             ·replace c191 := Bool.eq_false_iff.mpr c191
              subst c191
              rw [if_neg (show ¬ (false = true) by decide)] at H
              exact absurd H (by simp)
            ·replace c189 := Bool.eq_false_iff.mpr c189
             subst c189
             rw [if_neg (show ¬ (false = true) by decide)] at H
             replace H := Option.bind_eq_some_iff.mp H
             obtain ⟨t723, A2040, H⟩ := H
             have A204 := Aside0.mk A2040
             clear A2040
             replace H := Option.bind_eq_some_iff.mp H
             obtain ⟨t724, A2050, H⟩ := H
             have A205 := Aside0.mk A2050
             clear A2050
             by_cases c206 : t723 = t724
             ·rw [if_pos c206] at H
              have c206b0 : (t723 == t724) = true := beq_iff_eq.mpr c206
              have c206b1 : (t723 != t724) = false := bne_eq_false_iff_eq.mpr c206
              clear c206
              have H' := Aside0.mk H
              obtain ⟨Ao207, co207, eo207⟩ := Kd.R_slice HO_10.out
              subst eo207
              go_wp2_with (first | ((with_reducible refine gate_callee (f := 75) rfl ?_); refine goesL_ (some 253) rfl rfl Try.func75 (by kernel_rfl) rfl #[.int .i64 t642, .slice Ao21 t643.length co21, .slice Ao207 t650.length co207, .int .i64 (wrap64 (-t645))] rfl (by (try simp only [List.map_toArray, List.map_cons, List.map_nil]); first | done | rfl | (simp only [List.length_drop, List.length_take]; rfl)) ?_; (with_reducible refine (impl_TwistClass.calls kj183 t642 _ _ t643 _ _ t650 (wrap64 (-t645)) t716 false _ ?side1 ?side2 ?side3 ?side4 A188.out).mono ?_); (case side1 => exact C_l ((Kd.R_reads' HO_7.out).2.2)); (case side2 => exact (Kd.R_reads' HO_7.out).2.1); (case side3 => exact C_l ((Kd.R_reads' HO_10.out).2.2)); (case side4 => exact (Kd.R_reads' HO_10.out).2.1); rintro e w208 ⟨v718, rfl, ho0, hb⟩; refine ⟨_, rfl, ?_⟩; have n0_ := Aside0.mk (Kd.R_elder' (R_l HO_4.out) (Kd.R_base ho0) hb); have n1_ := Aside0.mk (Kd.R_elder' (R_l HO_5.out) (Kd.R_base ho0) hb); have n2_ := Aside0.mk (Kd.R_elder' (R_l HO_7.out) (Kd.R_base ho0) hb); have n3_ := Aside0.mk (Kd.R_elder' (R_l HO_8.out) (Kd.R_base ho0) hb); have n4_ := Aside0.mk (Kd.R_elder' (R_l HO_10.out) (Kd.R_base ho0) hb); have n5_ := Aside0.mk (Kd.S_elder' (S_l HO_14.out) (Kd.R_base ho0) hb); have n6_ := Aside0.mk (Kd.R_lower (Kd.R_new' (Kd.R_new' (Kd.R_new' (Kd.R_new' (Kd.R_new' ho0 (Kd.R_lt (R_l HO_4.out))) (Kd.R_lt (R_l HO_5.out))) (Kd.R_lt (R_l HO_7.out))) (Kd.R_lt (R_l HO_8.out))) (Kd.R_lt (R_l HO_10.out))) (below_size (B_l HB.out))); have n7_ := Aside0.mk (below_step (B_l HB.out) hb); clear HO_4; clear HO_5; clear HO_7; clear HO_8; clear HO_10; clear HO_14; clear HB; have HO_4 := n0_; have HO_5 := n1_; have HO_7 := n2_; have HO_8 := n3_; have HO_10 := n4_; have HO_14 := n5_; have HO719 := n6_; have HB := n7_; clear n0_ n1_ n2_ n3_ n4_ n5_ n6_ n7_) | (go_at_call 86; (with_reducible refine (impl_FormOf.calls kj183 t642 _ _ t643 _ _ t650 t723 _ ?side1 ?side2 ?side3 ?side4 A204.out).mono ?_); (case side1 => exact C_l ((Kd.R_reads' HO_7.out).2.2)); (case side2 => exact (Kd.R_reads' HO_7.out).2.1); (case side3 => exact C_l ((Kd.R_reads' HO_10.out).2.2)); (case side4 => exact (Kd.R_reads' HO_10.out).2.1); rintro e w' ⟨rfl, ⟨nd, rfl⟩⟩) | (go_at_call 86; (with_reducible refine (impl_FormOf.calls kj183 t642 _ _ t643 _ _ t644 t724 _ ?side1 ?side2 ?side3 ?side4 A205.out).mono ?_); (case side1 => exact C_l ((Kd.R_reads' HO_7.out).2.2)); (case side2 => exact (Kd.R_reads' HO_7.out).2.1); (case side3 => exact C_l ((Kd.R_reads' HO_8.out).2.2)); (case side4 => exact (Kd.R_reads' HO_8.out).2.1); rintro e w' ⟨rfl, ⟨nd, rfl⟩⟩))
              go_meet
              case rel => exact ⟨_, H', ⟨by have := HJ17.out; have := HJ175.out; have := HJ183.out; first | omega | exact Nat.le_refl _⟩, ⟨R_l (Kd.R_mono HO_4.out (fun _ hk => hk.1.1))⟩, ⟨R_l (Kd.R_mono HO_5.out (fun _ hk => hk.1.1))⟩, ⟨S_l (Kd.S_mono HO_14.out (fun _ hk => ⟨hk.1.1, hk.1.2.1⟩))⟩, ⟨B_l HB.out⟩⟩
             ·rw [if_neg c206] at H
              have c206b0 : (t723 == t724) = false := beq_eq_false_iff_ne.mpr c206
              have c206b1 : (t723 != t724) = true := bne_iff_ne.mpr c206
              exact absurd H (by simp)
           ·replace c187 := Bool.eq_false_iff.mpr c187
            subst c187
            rw [if_neg (show ¬ (false = true) by decide)] at H
            have H' := Aside0.mk H
            go_wp2
            go_meet
            case rel => exact ⟨_, H', ⟨by have := HJ17.out; have := HJ175.out; have := HJ183.out; first | omega | exact Nat.le_refl _⟩, ⟨R_l (Kd.R_mono HO_4.out (fun _ hk => hk.1))⟩, ⟨R_l (Kd.R_mono HO_5.out (fun _ hk => hk.1))⟩, ⟨S_l (Kd.S_mono HO_14.out (fun _ hk => ⟨hk.1, hk.2.1⟩))⟩, ⟨B_l HB.out⟩⟩
          case rest => as_aux_lemma =>
           clear HC186
           try clear c1
           try clear c2
           try clear p2
           try clear c3
           try clear c4
           try clear c5
           try clear c6
           try clear p6
           try clear c7
           try clear c8
           try clear c9
           try clear c11
           try clear c17
           try clear c18
           try clear c19
           try clear c20
           try clear c40
           try clear c40b0
           try clear c40b1
           try clear c40b2
           try clear c42
           try clear c43
           try clear c43b0
           try clear c43b1
           try clear c43b2
           try clear c47
           try clear c48
           try clear c48b0
           try clear c48b1
           try clear c48b2
           try clear c54
           try clear c55
           try clear c55b0
           try clear c55b1
           try clear c55b2
           try clear c63
           try clear p64
           try clear c66
           try clear c66b0
           try clear c66b1
           try clear c66b2
           try clear c73
           try clear c74
           try clear c75
           try clear c76
           try clear c77
           try clear c78
           try clear c79
           try clear c79b0
           try clear c79b1
           try clear c80
           try clear c81
           try clear c82
           try clear c82b0
           try clear c82b1
           try clear c82b2
           try clear c83
           try clear c84
           try clear c85
           try clear c86
           try clear c96
           try clear c96b0
           try clear c96b1
           try clear c96b2
           try clear c111
           try clear c111b0
           try clear c111b1
           try clear c111b2
           try clear c175
           try clear c178
           try clear c178b0
           try clear c178b1
           try clear c179
           try clear c183
           try clear c185
           try clear c187
           try clear c189
           try clear c191
           try clear c194
           try clear c194b0
           try clear c194b1
           try clear c206
           try clear c206b0
           try clear c206b1
           try clear p2
           try clear p6
           try clear p64
           obtain ⟨kq, HA, HJ185, HO_4, HO_5, HO_14, HB⟩ := hcut
           cases kq with
           | zero => exact absurd HA.out (by simp [laws_FnTwists.j3])
           | succ kj185 =>
            have H := HA.out
            clear HA
            simp only [laws_FnTwists.j3] at H
            have H' := Aside0.mk H
            go_wp2
            go_loopg [35, 36] kj185 (fun kq v35 v36 w' => ∃ (x35_5 : Bool) (x36_5 : Int), v35 = .bool x35_5 ∧ v36 = .int .i64 x36_5 ∧ Aside0 (laws_FnTwists.l0 kq t635 t636 t637 t658 t698 x35_5 x36_5 = some true) ∧ Aside0 (kq ≤ kj185) ∧ Aside0 (Kd.R (Kd.int .i64) 3 w' w.heap.size (fun k_ => some k_ ≠ ((.slice Ao39 t637.length co39) : Value).ownBlock) (.slice Ao25 t636.length co25) t636) ∧ Aside0 (Kd.R (Kd.int .i64) 3 w' w.heap.size (fun k_ => some k_ ≠ ((.slice Ao25 t636.length co25) : Value).ownBlock) (.slice Ao39 t637.length co39) t637) ∧ Aside0 (Kd.S (Kd.slice 3 (Kd.int .i64)) 35 w' w.heap.size (fun k_ => some k_ ≠ ((.slice Ao25 t636.length co25) : Value).ownBlock ∧ some k_ ≠ ((.slice Ao39 t637.length co39) : Value).ownBlock) v660 t658) ∧ Aside0 (Below w.heap.size w w'))
            case atStart => exact ⟨(true), (0), (by first | rfl | (simp; done) | (simp [*]; done)), (by first | rfl | (simp; done) | (simp [*]; done)), H', ⟨Nat.le_refl _⟩, ⟨R_l HO_4.out⟩, ⟨R_l HO_5.out⟩, ⟨S_l HO_14.out⟩, ⟨B_l HB.out⟩⟩
            case round => as_aux_lemma =>
             clear H'
             try clear c1
             try clear c2
             try clear p2
             try clear c3
             try clear c4
             try clear c5
             try clear c6
             try clear p6
             try clear c7
             try clear c8
             try clear c9
             try clear c11
             try clear c17
             try clear c18
             try clear c19
             try clear c20
             try clear c40
             try clear c40b0
             try clear c40b1
             try clear c40b2
             try clear c42
             try clear c43
             try clear c43b0
             try clear c43b1
             try clear c43b2
             try clear c47
             try clear c48
             try clear c48b0
             try clear c48b1
             try clear c48b2
             try clear c54
             try clear c55
             try clear c55b0
             try clear c55b1
             try clear c55b2
             try clear c63
             try clear p64
             try clear c66
             try clear c66b0
             try clear c66b1
             try clear c66b2
             try clear c73
             try clear c74
             try clear c75
             try clear c76
             try clear c77
             try clear c78
             try clear c79
             try clear c79b0
             try clear c79b1
             try clear c80
             try clear c81
             try clear c82
             try clear c82b0
             try clear c82b1
             try clear c82b2
             try clear c83
             try clear c84
             try clear c85
             try clear c86
             try clear c96
             try clear c96b0
             try clear c96b1
             try clear c96b2
             try clear c111
             try clear c111b0
             try clear c111b1
             try clear c111b2
             try clear c175
             try clear c178
             try clear c178b0
             try clear c178b1
             try clear c179
             try clear c183
             try clear c185
             try clear c187
             try clear c189
             try clear c191
             try clear c194
             try clear c194b0
             try clear c194b1
             try clear c206
             try clear c206b0
             try clear c206b1
             try clear p2
             try clear p6
             try clear p64
             obtain ⟨x35_5, x36_5, rfl, rfl, HA, HK5, HO_4, HO_5, HO_14, HB⟩ := hrel
             cases gk with
             | zero => exact absurd HA.out (by simp [laws_FnTwists.l0])
             | succ k5 =>
              have H := HA.out
              clear HA
              simp only [laws_FnTwists.l0] at H
              have HC211 := Aside0.mk H
              go_upto_region 27 with (fail)
              go_cut [283] (fun v283 wc => ∃ (kq : Nat) (x283_210 : Bool), v283 = .bool x283_210 ∧ Aside0 (laws_FnTwists.j5 kq t635 t636 t637 t658 t698 x35_5 x36_5 x283_210 = some true) ∧ Aside0 (kq ≤ k5) ∧ Aside0 (Kd.R (Kd.int .i64) 3 wc w.heap.size (fun k_ => some k_ ≠ ((.slice Ao39 t637.length co39) : Value).ownBlock) (.slice Ao25 t636.length co25) t636) ∧ Aside0 (Kd.R (Kd.int .i64) 3 wc w.heap.size (fun k_ => some k_ ≠ ((.slice Ao25 t636.length co25) : Value).ownBlock) (.slice Ao39 t637.length co39) t637) ∧ Aside0 (Kd.S (Kd.slice 3 (Kd.int .i64)) 35 wc w.heap.size (fun k_ => some k_ ≠ ((.slice Ao25 t636.length co25) : Value).ownBlock ∧ some k_ ≠ ((.slice Ao39 t637.length co39) : Value).ownBlock) v660 t658) ∧ Aside0 (Below w.heap.size w wc))
              case first => as_aux_lemma =>
               have H := HC211.out
               clear HC211
               by_cases c212 : x36_5 < (t636.length : Int)
               ·rw [if_pos c212] at H
                have c212b0 : decide (x36_5 < (t636.length : Int)) = true := decide_eq_true c212
                clear c212
                (first | rw [c212b0] | (simp only [i64_w, i32_w]; rw [c212b0]) | skip)
                have H' := Aside0.mk H
                go_wp2
                go_meet
                case rel => exact ⟨_, (decide (x36_5 < (t637.length : Int))), (by first | rfl | (simp; done) | (simp [*]; done)), H', ⟨by have := HJ17.out; have := HJ175.out; have := HJ183.out; have := HJ185.out; have := HK5.out; first | omega | exact Nat.le_refl _⟩, ⟨R_l HO_4.out⟩, ⟨R_l HO_5.out⟩, ⟨S_l HO_14.out⟩, ⟨B_l HB.out⟩⟩
               ·rw [if_neg c212] at H
                have c212b0 : decide (x36_5 < (t636.length : Int)) = false := decide_eq_false c212
                clear c212
                (first | rw [c212b0] | (simp only [i64_w, i32_w]; rw [c212b0]) | skip)
                have H' := Aside0.mk H
                go_wp2
                go_meet
                case rel => exact ⟨_, (false), (by first | rfl | (simp; done) | (simp [*]; done)), H', ⟨by have := HJ17.out; have := HJ175.out; have := HJ183.out; have := HJ185.out; have := HK5.out; first | omega | exact Nat.le_refl _⟩, ⟨R_l HO_4.out⟩, ⟨R_l HO_5.out⟩, ⟨S_l HO_14.out⟩, ⟨B_l HB.out⟩⟩
              case rest => as_aux_lemma =>
               clear HC211
               try clear c1
               try clear c2
               try clear p2
               try clear c3
               try clear c4
               try clear c5
               try clear c6
               try clear p6
               try clear c7
               try clear c8
               try clear c9
               try clear c11
               try clear c17
               try clear c18
               try clear c19
               try clear c20
               try clear c21
               try clear c40
               try clear c40b0
               try clear c40b1
               try clear c40b2
               try clear c42
               try clear c43
               try clear c43b0
               try clear c43b1
               try clear c43b2
               try clear c47
               try clear c48
               try clear c48b0
               try clear c48b1
               try clear c48b2
               try clear c54
               try clear c55
               try clear c55b0
               try clear c55b1
               try clear c55b2
               try clear c63
               try clear p64
               try clear c66
               try clear c66b0
               try clear c66b1
               try clear c66b2
               try clear c73
               try clear c74
               try clear c75
               try clear c76
               try clear c77
               try clear c78
               try clear c79
               try clear c79b0
               try clear c79b1
               try clear c80
               try clear c81
               try clear c82
               try clear c82b0
               try clear c82b1
               try clear c82b2
               try clear c83
               try clear c84
               try clear c85
               try clear c86
               try clear c96
               try clear c96b0
               try clear c96b1
               try clear c96b2
               try clear c111
               try clear c111b0
               try clear c111b1
               try clear c111b2
               try clear c175
               try clear c178
               try clear c178b0
               try clear c178b1
               try clear c179
               try clear c183
               try clear c185
               try clear c187
               try clear c189
               try clear c191
               try clear c194
               try clear c194b0
               try clear c194b1
               try clear c206
               try clear c206b0
               try clear c206b1
               try clear c212
               try clear c212b0
               try clear p2
               try clear p6
               try clear p64
               obtain ⟨kq, x283_210, rfl, HA, HJ210, HO_4, HO_5, HO_14, HB⟩ := hcut
               cases kq with
               | zero => exact absurd HA.out (by simp [laws_FnTwists.j5])
               | succ kj210 =>
                have H := HA.out
                clear HA
                simp only [laws_FnTwists.j5] at H
                by_cases c213 : x283_210 = true
                ·subst c213
                 rw [if_pos rfl] at H
                 by_cases c214 : x35_5 = true
                 ·subst c214
                  rw [if_pos rfl] at H
                  by_cases c215 : 0 ≤ x36_5
                  ·rw [if_pos c215] at H
                   have c215b0 : decide (0 ≤ x36_5) = true := decide_eq_true c215
                   clear c215
                   by_cases c216 : x36_5 < (t636.length : Int)
                   ·rw [if_pos c216] at H
                    have c216b0 : decide (x36_5 < (t636.length : Int)) = true := decide_eq_true c216
                    clear c216
                    replace H := Option.bind_eq_some_iff.mp H
                    obtain ⟨t726, A2170, H⟩ := H
                    have A217 := Aside0.mk A2170
                    clear A2170
                    by_cases c218 : t726 < 3
                    ·rw [if_pos c218] at H
                     have c218b0 : decide (t726 < 3) = true := decide_eq_true c218
                     clear c218
                     by_cases c219 : x36_5 < (t637.length : Int)
                     ·rw [if_pos c219] at H
                      have c219b0 : decide (x36_5 < (t637.length : Int)) = true := decide_eq_true c219
                      clear c219
                      replace H := Option.bind_eq_some_iff.mp H
                      obtain ⟨t728, A2200, H⟩ := H
                      have A220 := Aside0.mk A2200
                      clear A2200
                      have H' := Aside0.mk H
                      have p725 : 0 ≤ (x36_5 : Int) := of_decide_eq_true (by first | (with_reducible assumption) | assumption)
                      have q725 : x36_5 < (t636.length : Int) := of_decide_eq_true (by first | (with_reducible assumption) | assumption)
                      obtain ⟨ad725, e725, hx725_0⟩ := Kd.at_int (Kd.R_reads' HO_4.out).2.2 x36_5 p725 q725
                      cases e725
                      replace p725 := eq_true p725
                      replace q725 := eq_true q725
                      go_wp2_with (first | (go_at_call 98; (with_reducible refine (laws_magnitude.calls (rd t636 x36_5) t726 _ A217.out).mono ?_); rintro e w' ⟨rfl, ⟨nd, rfl⟩⟩; have p727 : 0 ≤ (x36_5 : Int) := of_decide_eq_true (by first | (with_reducible assumption) | assumption); have q727 : x36_5 < (t637.length : Int) := of_decide_eq_true (by first | (with_reducible assumption) | assumption); obtain ⟨ad727, e727, hx727_0⟩ := Kd.at_int (Kd.R_reads' HO_5.out).2.2 x36_5 p727 q727; cases e727; replace p727 := eq_true p727; replace q727 := eq_true q727) | (go_at_call 98; (with_reducible refine (laws_magnitude.calls (rd t637 x36_5) t728 _ A220.out).mono ?_); rintro e w' ⟨rfl, ⟨nd, rfl⟩⟩))
                      go_roundg kj210
                      case measure => have := HJ17.out; have := HJ175.out; have := HJ183.out; have := HJ185.out; have := HK5.out; have := HJ210.out; omega
                      case rel => exact ⟨(decide (t728 < 3)), (wrap64 (x36_5 + 1)), (by first | rfl | (simp; done) | (simp [*]; done)), (by first | rfl | (simp; done) | (simp [*]; done)), H', ⟨by have := HJ17.out; have := HJ175.out; have := HJ183.out; have := HJ185.out; have := HK5.out; have := HJ210.out; omega⟩, ⟨R_l HO_4.out⟩, ⟨R_l HO_5.out⟩, ⟨S_l HO_14.out⟩, ⟨B_l HB.out⟩⟩
                     ·rw [if_neg c219] at H
                      exact absurd H (by simp)
                    ·rw [if_neg c218] at H
                     have c218b0 : decide (t726 < 3) = false := decide_eq_false c218
                     clear c218
                     have H' := Aside0.mk H
                     have p725 : 0 ≤ (x36_5 : Int) := of_decide_eq_true (by first | (with_reducible assumption) | assumption)
                     have q725 : x36_5 < (t636.length : Int) := of_decide_eq_true (by first | (with_reducible assumption) | assumption)
                     obtain ⟨ad725, e725, hx725_0⟩ := Kd.at_int (Kd.R_reads' HO_4.out).2.2 x36_5 p725 q725
                     cases e725
                     replace p725 := eq_true p725
                     replace q725 := eq_true q725
                     go_wp2_with (first | (go_at_call 98; (with_reducible refine (laws_magnitude.calls (rd t636 x36_5) t726 _ A217.out).mono ?_); rintro e w' ⟨rfl, ⟨nd, rfl⟩⟩))
                     go_roundg kj210
                     case measure => have := HJ17.out; have := HJ175.out; have := HJ183.out; have := HJ185.out; have := HK5.out; have := HJ210.out; omega
                     case rel => exact ⟨(false), (wrap64 (x36_5 + 1)), (by first | rfl | (simp; done) | (simp [*]; done)), (by first | rfl | (simp; done) | (simp [*]; done)), H', ⟨by have := HJ17.out; have := HJ175.out; have := HJ183.out; have := HJ185.out; have := HK5.out; have := HJ210.out; omega⟩, ⟨R_l HO_4.out⟩, ⟨R_l HO_5.out⟩, ⟨S_l HO_14.out⟩, ⟨B_l HB.out⟩⟩
                   ·rw [if_neg c216] at H
                    exact absurd H (by simp)
                  ·rw [if_neg c215] at H
                   exact absurd H (by simp)
                 ·replace c214 := Bool.eq_false_iff.mpr c214
                  subst c214
                  rw [if_neg (show ¬ (false = true) by decide)] at H
                  have H' := Aside0.mk H
                  go_wp2
                  go_roundg kj210
                  case measure => have := HJ17.out; have := HJ175.out; have := HJ183.out; have := HJ185.out; have := HK5.out; have := HJ210.out; omega
                  case rel => exact ⟨(false), (wrap64 (x36_5 + 1)), (by first | rfl | (simp; done) | (simp [*]; done)), (by first | rfl | (simp; done) | (simp [*]; done)), H', ⟨by have := HJ17.out; have := HJ175.out; have := HJ183.out; have := HJ185.out; have := HK5.out; have := HJ210.out; omega⟩, ⟨R_l HO_4.out⟩, ⟨R_l HO_5.out⟩, ⟨S_l HO_14.out⟩, ⟨B_l HB.out⟩⟩
                ·replace c213 := Bool.eq_false_iff.mpr c213
                 subst c213
                 rw [if_neg (show ¬ (false = true) by decide)] at H
                 have HC221 := Aside0.mk H
                 go_upto_region 30 with (fail)
                 go_cut [316] (fun v316 wc => ∃ (kq : Nat) (x316_220 : Bool), v316 = .bool x316_220 ∧ Aside0 (laws_FnTwists.j6 kq t635 t636 t637 t658 t698 x316_220 = some true) ∧ Aside0 (kq ≤ kj210) ∧ Aside0 (Kd.R (Kd.int .i64) 3 wc w.heap.size (fun k_ => some k_ ≠ ((.slice Ao39 t637.length co39) : Value).ownBlock) (.slice Ao25 t636.length co25) t636) ∧ Aside0 (Kd.R (Kd.int .i64) 3 wc w.heap.size (fun k_ => some k_ ≠ ((.slice Ao25 t636.length co25) : Value).ownBlock) (.slice Ao39 t637.length co39) t637) ∧ Aside0 (Kd.S (Kd.slice 3 (Kd.int .i64)) 35 wc w.heap.size (fun k_ => some k_ ≠ ((.slice Ao25 t636.length co25) : Value).ownBlock ∧ some k_ ≠ ((.slice Ao39 t637.length co39) : Value).ownBlock) v660 t658) ∧ Aside0 (Below w.heap.size w wc))
                 case first => as_aux_lemma =>
                  have H := HC221.out
                  clear HC221
                  replace H := Option.bind_eq_some_iff.mp H
                  obtain ⟨t729, A2220, H⟩ := H
                  have A222 := Aside0.mk A2220
                  clear A2220
                  by_cases c223 : t729 = true
                  ·subst c223
                   rw [if_pos rfl] at H
                   replace H := Option.bind_eq_some_iff.mp H
                   obtain ⟨t730, A2240, H⟩ := H
                   have A224 := Aside0.mk A2240
                   clear A2240
                   by_cases c225 : t730 = true
                   ·subst c225
                    rw [if_pos rfl] at H
                    have H' := Aside0.mk H
                    go_wp2_with (first | ((with_reducible refine gate_callee (f := 91) rfl ?_); refine goesL_ (some 305) rfl rfl Try.func91 (by kernel_rfl) rfl #[.int .i64 t635, .slice Ao25 t636.length co25] rfl (by (try simp only [List.map_toArray, List.map_cons, List.map_nil]); first | done | rfl | (simp only [List.length_drop, List.length_take]; rfl)) ?_; (with_reducible refine (spec_IsClass.calls kj210 t635 _ _ t636 true _ ?side1 ?side2 A222.out).mono ?_); (case side1 => exact C_l ((Kd.R_reads' HO_4.out).2.2)); (case side2 => exact (Kd.R_reads' HO_4.out).2.1); rintro e w' ⟨rfl, ⟨nd, rfl⟩⟩; refine ⟨_, rfl, ?_⟩) | (go_at_call 91; (with_reducible refine (spec_IsClass.calls kj210 t635 _ _ t637 true _ ?side1 ?side2 A224.out).mono ?_); (case side1 => exact C_l ((Kd.R_reads' HO_5.out).2.2)); (case side2 => exact (Kd.R_reads' HO_5.out).2.1); rintro e w' ⟨rfl, ⟨nd, rfl⟩⟩))
                    go_meet
                    case rel => exact ⟨_, (!x35_5), (by first | rfl | (simp; done) | (simp [*]; done)), H', ⟨by have := HJ17.out; have := HJ175.out; have := HJ183.out; have := HJ185.out; have := HK5.out; have := HJ210.out; first | omega | exact Nat.le_refl _⟩, ⟨R_l HO_4.out⟩, ⟨R_l HO_5.out⟩, ⟨S_l HO_14.out⟩, ⟨B_l HB.out⟩⟩
                   ·replace c225 := Bool.eq_false_iff.mpr c225
                    subst c225
                    rw [if_neg (show ¬ (false = true) by decide)] at H
                    have H' := Aside0.mk H
                    go_wp2_with (first | ((with_reducible refine gate_callee (f := 91) rfl ?_); refine goesL_ (some 305) rfl rfl Try.func91 (by kernel_rfl) rfl #[.int .i64 t635, .slice Ao25 t636.length co25] rfl (by (try simp only [List.map_toArray, List.map_cons, List.map_nil]); first | done | rfl | (simp only [List.length_drop, List.length_take]; rfl)) ?_; (with_reducible refine (spec_IsClass.calls kj210 t635 _ _ t636 true _ ?side1 ?side2 A222.out).mono ?_); (case side1 => exact C_l ((Kd.R_reads' HO_4.out).2.2)); (case side2 => exact (Kd.R_reads' HO_4.out).2.1); rintro e w' ⟨rfl, ⟨nd, rfl⟩⟩; refine ⟨_, rfl, ?_⟩) | (go_at_call 91; (with_reducible refine (spec_IsClass.calls kj210 t635 _ _ t637 false _ ?side1 ?side2 A224.out).mono ?_); (case side1 => exact C_l ((Kd.R_reads' HO_5.out).2.2)); (case side2 => exact (Kd.R_reads' HO_5.out).2.1); rintro e w' ⟨rfl, ⟨nd, rfl⟩⟩))
                    go_meet
                    case rel => exact ⟨_, (true), (by first | rfl | (simp; done) | (simp [*]; done)), H', ⟨by have := HJ17.out; have := HJ175.out; have := HJ183.out; have := HJ185.out; have := HK5.out; have := HJ210.out; first | omega | exact Nat.le_refl _⟩, ⟨R_l HO_4.out⟩, ⟨R_l HO_5.out⟩, ⟨S_l HO_14.out⟩, ⟨B_l HB.out⟩⟩
                  ·replace c223 := Bool.eq_false_iff.mpr c223
                   subst c223
                   rw [if_neg (show ¬ (false = true) by decide)] at H
                   have H' := Aside0.mk H
                   go_wp2_with (first | ((with_reducible refine gate_callee (f := 91) rfl ?_); refine goesL_ (some 305) rfl rfl Try.func91 (by kernel_rfl) rfl #[.int .i64 t635, .slice Ao25 t636.length co25] rfl (by (try simp only [List.map_toArray, List.map_cons, List.map_nil]); first | done | rfl | (simp only [List.length_drop, List.length_take]; rfl)) ?_; (with_reducible refine (spec_IsClass.calls kj210 t635 _ _ t636 false _ ?side1 ?side2 A222.out).mono ?_); (case side1 => exact C_l ((Kd.R_reads' HO_4.out).2.2)); (case side2 => exact (Kd.R_reads' HO_4.out).2.1); rintro e w' ⟨rfl, ⟨nd, rfl⟩⟩; refine ⟨_, rfl, ?_⟩))
                   go_meet
                   case rel => exact ⟨_, (true), (by first | rfl | (simp; done) | (simp [*]; done)), H', ⟨by have := HJ17.out; have := HJ175.out; have := HJ183.out; have := HJ185.out; have := HK5.out; have := HJ210.out; first | omega | exact Nat.le_refl _⟩, ⟨R_l HO_4.out⟩, ⟨R_l HO_5.out⟩, ⟨S_l HO_14.out⟩, ⟨B_l HB.out⟩⟩
                 case rest => as_aux_lemma =>
                  clear HC221
                  try clear c1
                  try clear c2
                  try clear p2
                  try clear c3
                  try clear c4
                  try clear c5
                  try clear c6
                  try clear p6
                  try clear c7
                  try clear p7
                  try clear q7
                  try clear hx7
                  try clear c8
                  try clear c9
                  try clear c11
                  try clear c17
                  try clear c18
                  try clear c19
                  try clear c20
                  try clear c21
                  try clear c22
                  try clear c40
                  try clear c40b0
                  try clear c40b1
                  try clear c40b2
                  try clear c42
                  try clear c43
                  try clear c43b0
                  try clear c43b1
                  try clear c43b2
                  try clear c47
                  try clear c48
                  try clear c48b0
                  try clear c48b1
                  try clear c48b2
                  try clear c54
                  try clear c55
                  try clear c55b0
                  try clear c55b1
                  try clear c55b2
                  try clear c63
                  try clear p64
                  try clear c66
                  try clear c66b0
                  try clear c66b1
                  try clear c66b2
                  try clear p72
                  try clear q72
                  try clear hx72
                  try clear c73
                  try clear c74
                  try clear c75
                  try clear c76
                  try clear c77
                  try clear c78
                  try clear c79
                  try clear c79b0
                  try clear c79b1
                  try clear c80
                  try clear c81
                  try clear c82
                  try clear c82b0
                  try clear c82b1
                  try clear c82b2
                  try clear c83
                  try clear c84
                  try clear c85
                  try clear c86
                  try clear c91
                  try clear c96
                  try clear c96b0
                  try clear c96b1
                  try clear c96b2
                  try clear c111
                  try clear c111b0
                  try clear c111b1
                  try clear c111b2
                  try clear c175
                  try clear c178
                  try clear c178b0
                  try clear c178b1
                  try clear c179
                  try clear c183
                  try clear c185
                  try clear c187
                  try clear c189
                  try clear c191
                  try clear c194
                  try clear c194b0
                  try clear c194b1
                  try clear c206
                  try clear c206b0
                  try clear c206b1
                  try clear c212
                  try clear c212b0
                  try clear c213
                  try clear c214
                  try clear c215
                  try clear c215b0
                  try clear c216
                  try clear c216b0
                  try clear c218
                  try clear c218b0
                  try clear c219
                  try clear c219b0
                  try clear c223
                  try clear c225
                  try clear hx725_0
                  try clear hx727_0
                  try clear p2
                  try clear p6
                  try clear p64
                  try clear p725
                  try clear p727
                  try clear q725
                  try clear q727
                  obtain ⟨kq, x316_220, rfl, HA, HJ220, HO_4, HO_5, HO_14, HB⟩ := hcut
                  cases kq with
                  | zero => exact absurd HA.out (by simp [laws_FnTwists.j6])
                  | succ kj220 =>
                   have H := HA.out
                   clear HA
                   simp only [laws_FnTwists.j6] at H
                   by_cases c226 : x316_220 = true
                   ·subst c226
                    have H1 : (some true) = some true := rfl
                    clear H
                    have H := H1
                    clear H1
                    go_wp2
                    go_ret
                    exact ⟨by first | rfl | (simp [errW_none, errW_some] <;> rfl) | (simp [*, errW_none, errW_some] <;> rfl), B_l HB.out⟩
                   ·replace c226 := Bool.eq_false_iff.mpr c226
                    subst c226
                    rw [if_neg (show ¬ (false = true) by decide)] at H
                    have HC227 := Aside0.mk H
                    go_upto_region 32 with (fail)
                    go_cut [340] (fun v340 wc => ∃ (kq : Nat) (x340_226 : Bool), v340 = .bool x340_226 ∧ Aside0 (laws_FnTwists.j7 kq t635 t636 t637 t658 x340_226 = some true) ∧ Aside0 (kq ≤ kj220) ∧ Aside0 (Kd.R (Kd.int .i64) 3 wc w.heap.size (fun k_ => some k_ ≠ ((.slice Ao39 t637.length co39) : Value).ownBlock) (.slice Ao25 t636.length co25) t636) ∧ Aside0 (Kd.R (Kd.int .i64) 3 wc w.heap.size (fun k_ => some k_ ≠ ((.slice Ao25 t636.length co25) : Value).ownBlock) (.slice Ao39 t637.length co39) t637) ∧ Aside0 (Kd.S (Kd.slice 3 (Kd.int .i64)) 35 wc w.heap.size (fun k_ => some k_ ≠ ((.slice Ao25 t636.length co25) : Value).ownBlock ∧ some k_ ≠ ((.slice Ao39 t637.length co39) : Value).ownBlock) v660 t658) ∧ Aside0 (Below w.heap.size w wc))
                    case first => as_aux_lemma =>
                     have H := HC227.out
                     clear HC227
                     by_cases c228 : t698 = 0
                     ·rw [if_pos c228] at H
                      have c228b0 : (t698 == 0) = true := beq_iff_eq.mpr c228
                      have c228b1 : (t698 != 0) = false := bne_eq_false_iff_eq.mpr c228
                      clear c228
                      (first | rw [c228b0] | (simp only [i64_w, i32_w]; rw [c228b0]) | skip)
                      replace H := Option.bind_eq_some_iff.mp H
                      obtain ⟨t731, A2290, H⟩ := H
                      have A229 := Aside0.mk A2290
                      clear A2290
                      by_cases c230 : t731 = true
                      ·subst c230
                       rw [if_pos rfl] at H
                       by_cases c231 : t698 = 1
                       ·rw [if_pos c231] at H
                        have c231b0 : (t698 == 1) = true := beq_iff_eq.mpr c231
                        have c231b1 : (t698 != 1) = false := bne_eq_false_iff_eq.mpr c231
                        clear c231
                        replace H := Option.bind_eq_some_iff.mp H
                        obtain ⟨t732, A2320, H⟩ := H
                        have A232 := Aside0.mk A2320
                        clear A2320
                        have H' := Aside0.mk H
                        as_aux_lemma =>
                        go_wp2_with (first | (go_at_call 96; (with_reducible refine (impl_CommuteHolds.calls kj220 t635 _ _ t636 _ _ t637 true _ ?side1 ?side2 ?side3 ?side4 A229.out).mono ?_); (case side1 => exact C_l ((Kd.R_reads' HO_4.out).2.2)); (case side2 => exact (Kd.R_reads' HO_4.out).2.1); (case side3 => exact C_l ((Kd.R_reads' HO_5.out).2.2)); (case side4 => exact (Kd.R_reads' HO_5.out).2.1); rintro e w233 ⟨rfl, hb⟩; have n0_ := Aside0.mk (Kd.R_below (R_l HO_4.out) hb); have n1_ := Aside0.mk (Kd.R_below (R_l HO_5.out) hb); have n2_ := Aside0.mk (Kd.S_below (S_l HO_14.out) hb); have n3_ := Aside0.mk (below_step (B_l HB.out) hb); clear HO_4; clear HO_5; clear HO_14; clear HB; have HO_4 := n0_; have HO_5 := n1_; have HO_14 := n2_; have HB := n3_; clear n0_ n1_ n2_ n3_) | (go_at_call 94; (with_reducible refine (impl_BraidHolds.calls kj220 t635 _ _ t636 _ _ t637 t732 _ ?side1 ?side2 ?side3 ?side4 A232.out).mono ?_); (case side1 => exact C_l ((Kd.R_reads' HO_4.out).2.2)); (case side2 => exact (Kd.R_reads' HO_4.out).2.1); (case side3 => exact C_l ((Kd.R_reads' HO_5.out).2.2)); (case side4 => exact (Kd.R_reads' HO_5.out).2.1); rintro e w234 ⟨rfl, hb⟩; have n0_ := Aside0.mk (Kd.R_below (R_l HO_4.out) hb); have n1_ := Aside0.mk (Kd.R_below (R_l HO_5.out) hb); have n2_ := Aside0.mk (Kd.S_below (S_l HO_14.out) hb); have n3_ := Aside0.mk (below_step (B_l HB.out) hb); clear HO_4; clear HO_5; clear HO_14; clear HB; have HO_4 := n0_; have HO_5 := n1_; have HO_14 := n2_; have HB := n3_; clear n0_ n1_ n2_ n3_))
                        go_meet
                        case rel => exact ⟨_, (!t732), (by first | rfl | (simp; done) | (simp [*]; done)), H', ⟨by have := HJ17.out; have := HJ175.out; have := HJ183.out; have := HJ185.out; have := HK5.out; have := HJ210.out; have := HJ220.out; first | omega | exact Nat.le_refl _⟩, ⟨R_l HO_4.out⟩, ⟨R_l HO_5.out⟩, ⟨S_l HO_14.out⟩, ⟨B_l HB.out⟩⟩
                       ·rw [if_neg c231] at H
                        have c231b0 : (t698 == 1) = false := beq_eq_false_iff_ne.mpr c231
                        have c231b1 : (t698 != 1) = true := bne_iff_ne.mpr c231
                        by_cases c235 : t698 = (-1)
                        ·rw [if_pos c235] at H
                         have c235b0 : (t698 == (-1)) = true := beq_iff_eq.mpr c235
                         have c235b1 : (t698 != (-1)) = false := bne_eq_false_iff_eq.mpr c235
                         clear c235
                         replace H := Option.bind_eq_some_iff.mp H
                         obtain ⟨t733, A2360, H⟩ := H
                         have A236 := Aside0.mk A2360
                         clear A2360
                         have H' := Aside0.mk H
                         as_aux_lemma =>
                         go_wp2_with (first | (go_at_call 96; (with_reducible refine (impl_CommuteHolds.calls kj220 t635 _ _ t636 _ _ t637 true _ ?side1 ?side2 ?side3 ?side4 A229.out).mono ?_); (case side1 => exact C_l ((Kd.R_reads' HO_4.out).2.2)); (case side2 => exact (Kd.R_reads' HO_4.out).2.1); (case side3 => exact C_l ((Kd.R_reads' HO_5.out).2.2)); (case side4 => exact (Kd.R_reads' HO_5.out).2.1); rintro e w237 ⟨rfl, hb⟩; have n0_ := Aside0.mk (Kd.R_below (R_l HO_4.out) hb); have n1_ := Aside0.mk (Kd.R_below (R_l HO_5.out) hb); have n2_ := Aside0.mk (Kd.S_below (S_l HO_14.out) hb); have n3_ := Aside0.mk (below_step (B_l HB.out) hb); clear HO_4; clear HO_5; clear HO_14; clear HB; have HO_4 := n0_; have HO_5 := n1_; have HO_14 := n2_; have HB := n3_; clear n0_ n1_ n2_ n3_) | (go_at_call 94; (with_reducible refine (impl_BraidHolds.calls kj220 t635 _ _ t636 _ _ t637 t733 _ ?side1 ?side2 ?side3 ?side4 A236.out).mono ?_); (case side1 => exact C_l ((Kd.R_reads' HO_4.out).2.2)); (case side2 => exact (Kd.R_reads' HO_4.out).2.1); (case side3 => exact C_l ((Kd.R_reads' HO_5.out).2.2)); (case side4 => exact (Kd.R_reads' HO_5.out).2.1); rintro e w238 ⟨rfl, hb⟩; have n0_ := Aside0.mk (Kd.R_below (R_l HO_4.out) hb); have n1_ := Aside0.mk (Kd.R_below (R_l HO_5.out) hb); have n2_ := Aside0.mk (Kd.S_below (S_l HO_14.out) hb); have n3_ := Aside0.mk (below_step (B_l HB.out) hb); clear HO_4; clear HO_5; clear HO_14; clear HB; have HO_4 := n0_; have HO_5 := n1_; have HO_14 := n2_; have HB := n3_; clear n0_ n1_ n2_ n3_))
                         go_meet
                         case rel => exact ⟨_, (!t733), (by first | rfl | (simp; done) | (simp [*]; done)), H', ⟨by have := HJ17.out; have := HJ175.out; have := HJ183.out; have := HJ185.out; have := HK5.out; have := HJ210.out; have := HJ220.out; first | omega | exact Nat.le_refl _⟩, ⟨R_l HO_4.out⟩, ⟨R_l HO_5.out⟩, ⟨S_l HO_14.out⟩, ⟨B_l HB.out⟩⟩
                        ·rw [if_neg c235] at H
                         have c235b0 : (t698 == (-1)) = false := beq_eq_false_iff_ne.mpr c235
                         have c235b1 : (t698 != (-1)) = true := bne_iff_ne.mpr c235
                         have H' := Aside0.mk H
                         as_aux_lemma =>
                         go_wp2_with (first | (go_at_call 96; (with_reducible refine (impl_CommuteHolds.calls kj220 t635 _ _ t636 _ _ t637 true _ ?side1 ?side2 ?side3 ?side4 A229.out).mono ?_); (case side1 => exact C_l ((Kd.R_reads' HO_4.out).2.2)); (case side2 => exact (Kd.R_reads' HO_4.out).2.1); (case side3 => exact C_l ((Kd.R_reads' HO_5.out).2.2)); (case side4 => exact (Kd.R_reads' HO_5.out).2.1); rintro e w239 ⟨rfl, hb⟩; have n0_ := Aside0.mk (Kd.R_below (R_l HO_4.out) hb); have n1_ := Aside0.mk (Kd.R_below (R_l HO_5.out) hb); have n2_ := Aside0.mk (Kd.S_below (S_l HO_14.out) hb); have n3_ := Aside0.mk (below_step (B_l HB.out) hb); clear HO_4; clear HO_5; clear HO_14; clear HB; have HO_4 := n0_; have HO_5 := n1_; have HO_14 := n2_; have HB := n3_; clear n0_ n1_ n2_ n3_))
                         go_meet
                         case rel => exact ⟨_, (false), (by first | rfl | (simp; done) | (simp [*]; done)), H', ⟨by have := HJ17.out; have := HJ175.out; have := HJ183.out; have := HJ185.out; have := HK5.out; have := HJ210.out; have := HJ220.out; first | omega | exact Nat.le_refl _⟩, ⟨R_l HO_4.out⟩, ⟨R_l HO_5.out⟩, ⟨S_l HO_14.out⟩, ⟨B_l HB.out⟩⟩
                      ·replace c230 := Bool.eq_false_iff.mpr c230
                       subst c230
                       rw [if_neg (show ¬ (false = true) by decide)] at H
                       exact absurd H (laws_FnTwists_no_j7 _ _ _ _ _)
                     ·rw [if_neg c228] at H
                      have c228b0 : (t698 == 0) = false := beq_eq_false_iff_ne.mpr c228
                      have c228b1 : (t698 != 0) = true := bne_iff_ne.mpr c228
                      (first | rw [c228b0] | (simp only [i64_w, i32_w]; rw [c228b0]) | skip)
                      by_cases c241 : t698 = 1
                      ·rw [if_pos c241] at H
                       have c241b0 : (t698 == 1) = true := beq_iff_eq.mpr c241
                       have c241b1 : (t698 != 1) = false := bne_eq_false_iff_eq.mpr c241
                       clear c241
                       replace H := Option.bind_eq_some_iff.mp H
                       obtain ⟨t734, A2420, H⟩ := H
                       have A242 := Aside0.mk A2420
                       clear A2420
                       have H' := Aside0.mk H
                       clear H
                       as_aux_lemma =>
                       go_wp2_with (first | (go_at_call 94; (with_reducible refine (impl_BraidHolds.calls kj220 t635 _ _ t636 _ _ t637 t734 _ ?side1 ?side2 ?side3 ?side4 A242.out).mono ?_); (case side1 => exact C_l ((Kd.R_reads' HO_4.out).2.2)); (case side2 => exact (Kd.R_reads' HO_4.out).2.1); (case side3 => exact C_l ((Kd.R_reads' HO_5.out).2.2)); (case side4 => exact (Kd.R_reads' HO_5.out).2.1); rintro e w243 ⟨rfl, hb⟩; have n0_ := Aside0.mk (Kd.R_below (R_l HO_4.out) hb); have n1_ := Aside0.mk (Kd.R_below (R_l HO_5.out) hb); have n2_ := Aside0.mk (Kd.S_below (S_l HO_14.out) hb); have n3_ := Aside0.mk (below_step (B_l HB.out) hb); clear HO_4; clear HO_5; clear HO_14; clear HB; have HO_4 := n0_; have HO_5 := n1_; have HO_14 := n2_; have HB := n3_; clear n0_ n1_ n2_ n3_))
                       go_meet
                       case rel => exact ⟨_, (!t734), (by first | rfl | (simp; done) | (simp [*]; done)), H', ⟨by have := HJ17.out; have := HJ175.out; have := HJ183.out; have := HJ185.out; have := HK5.out; have := HJ210.out; have := HJ220.out; first | omega | exact Nat.le_refl _⟩, ⟨R_l HO_4.out⟩, ⟨R_l HO_5.out⟩, ⟨S_l HO_14.out⟩, ⟨B_l HB.out⟩⟩
                      ·rw [if_neg c241] at H
                       have c241b0 : (t698 == 1) = false := beq_eq_false_iff_ne.mpr c241
                       have c241b1 : (t698 != 1) = true := bne_iff_ne.mpr c241
                       by_cases c244 : t698 = (-1)
                       ·rw [if_pos c244] at H
                        have c244b0 : (t698 == (-1)) = true := beq_iff_eq.mpr c244
                        have c244b1 : (t698 != (-1)) = false := bne_eq_false_iff_eq.mpr c244
                        clear c244
                        replace H := Option.bind_eq_some_iff.mp H
                        obtain ⟨t735, A2450, H⟩ := H
                        have A245 := Aside0.mk A2450
                        clear A2450
                        have H' := Aside0.mk H
                        clear H
                        as_aux_lemma =>
                        go_wp2_with (first | (go_at_call 94; (with_reducible refine (impl_BraidHolds.calls kj220 t635 _ _ t636 _ _ t637 t735 _ ?side1 ?side2 ?side3 ?side4 A245.out).mono ?_); (case side1 => exact C_l ((Kd.R_reads' HO_4.out).2.2)); (case side2 => exact (Kd.R_reads' HO_4.out).2.1); (case side3 => exact C_l ((Kd.R_reads' HO_5.out).2.2)); (case side4 => exact (Kd.R_reads' HO_5.out).2.1); rintro e w246 ⟨rfl, hb⟩; have n0_ := Aside0.mk (Kd.R_below (R_l HO_4.out) hb); have n1_ := Aside0.mk (Kd.R_below (R_l HO_5.out) hb); have n2_ := Aside0.mk (Kd.S_below (S_l HO_14.out) hb); have n3_ := Aside0.mk (below_step (B_l HB.out) hb); clear HO_4; clear HO_5; clear HO_14; clear HB; have HO_4 := n0_; have HO_5 := n1_; have HO_14 := n2_; have HB := n3_; clear n0_ n1_ n2_ n3_))
                        go_meet
                        case rel => exact ⟨_, (!t735), (by first | rfl | (simp; done) | (simp [*]; done)), H', ⟨by have := HJ17.out; have := HJ175.out; have := HJ183.out; have := HJ185.out; have := HK5.out; have := HJ210.out; have := HJ220.out; first | omega | exact Nat.le_refl _⟩, ⟨R_l HO_4.out⟩, ⟨R_l HO_5.out⟩, ⟨S_l HO_14.out⟩, ⟨B_l HB.out⟩⟩
                       ·rw [if_neg c244] at H
                        have c244b0 : (t698 == (-1)) = false := beq_eq_false_iff_ne.mpr c244
                        have c244b1 : (t698 != (-1)) = true := bne_iff_ne.mpr c244
                        have H' := Aside0.mk H
                        clear H
                        as_aux_lemma =>
                        go_wp2
                        go_meet
                        case rel => exact ⟨_, (false), (by first | rfl | (simp; done) | (simp [*]; done)), H', ⟨by have := HJ17.out; have := HJ175.out; have := HJ183.out; have := HJ185.out; have := HK5.out; have := HJ210.out; have := HJ220.out; first | omega | exact Nat.le_refl _⟩, ⟨R_l HO_4.out⟩, ⟨R_l HO_5.out⟩, ⟨S_l HO_14.out⟩, ⟨B_l HB.out⟩⟩
                    case rest => as_aux_lemma =>
                     clear HC227
                     try clear c1
                     try clear c2
                     try clear p2
                     try clear c3
                     try clear c4
                     try clear c5
                     try clear c6
                     try clear p6
                     try clear c7
                     try clear p7
                     try clear q7
                     try clear hx7
                     try clear c8
                     try clear c9
                     try clear c11
                     try clear c17
                     try clear c18
                     try clear c19
                     try clear c20
                     try clear c21
                     try clear c22
                     try clear c23
                     try clear c24
                     try clear c40
                     try clear c40b0
                     try clear c40b1
                     try clear c40b2
                     try clear c42
                     try clear c43
                     try clear c43b0
                     try clear c43b1
                     try clear c43b2
                     try clear c47
                     try clear c48
                     try clear c48b0
                     try clear c48b1
                     try clear c48b2
                     try clear c54
                     try clear c55
                     try clear c55b0
                     try clear c55b1
                     try clear c55b2
                     try clear c63
                     try clear p64
                     try clear c66
                     try clear c66b0
                     try clear c66b1
                     try clear c66b2
                     try clear p72
                     try clear q72
                     try clear hx72
                     try clear c73
                     try clear c74
                     try clear c75
                     try clear c76
                     try clear c77
                     try clear c78
                     try clear c79
                     try clear c79b0
                     try clear c79b1
                     try clear c80
                     try clear c81
                     try clear c82
                     try clear c82b0
                     try clear c82b1
                     try clear c82b2
                     try clear c83
                     try clear c84
                     try clear c85
                     try clear c86
                     try clear c91
                     try clear c96
                     try clear c96b0
                     try clear c96b1
                     try clear c96b2
                     try clear c111
                     try clear c111b0
                     try clear c111b1
                     try clear c111b2
                     try clear c175
                     try clear c178
                     try clear c178b0
                     try clear c178b1
                     try clear c179
                     try clear c183
                     try clear c185
                     try clear c187
                     try clear c189
                     try clear c191
                     try clear c194
                     try clear c194b0
                     try clear c194b1
                     try clear c206
                     try clear c206b0
                     try clear c206b1
                     try clear c212
                     try clear c212b0
                     try clear c213
                     try clear c214
                     try clear c215
                     try clear c215b0
                     try clear c216
                     try clear c216b0
                     try clear c218
                     try clear c218b0
                     try clear c219
                     try clear c219b0
                     try clear c223
                     try clear c225
                     try clear c226
                     try clear c228
                     try clear c228b0
                     try clear c228b1
                     try clear c230
                     try clear c231
                     try clear c231b0
                     try clear c231b1
                     try clear c235
                     try clear c235b0
                     try clear c235b1
                     try clear c241
                     try clear c241b0
                     try clear c241b1
                     try clear c244
                     try clear c244b0
                     try clear c244b1
                     try clear hx725_0
                     try clear hx727_0
                     try clear p2
                     try clear p6
                     try clear p64
                     try clear p7
                     try clear p72
                     try clear p725
                     try clear p727
                     try clear q7
                     try clear q72
                     try clear q725
                     try clear q727
                     obtain ⟨kq, x340_226, rfl, HA, HJ226, HO_4, HO_5, HO_14, HB⟩ := hcut
                     cases kq with
                     | zero => exact absurd HA.out (by simp [laws_FnTwists.j7])
                     | succ kj226 =>
                      have H := HA.out
                      clear HA
                      simp only [laws_FnTwists.j7] at H
                      by_cases c247 : x340_226 = true
                      ·subst c247
                       rw [if_pos rfl] at H
                       exact absurd H (by simp)
                      ·replace c247 := Bool.eq_false_iff.mpr c247
                       subst c247
                       rw [if_neg (show ¬ (false = true) by decide)] at H
                       replace H := Option.bind_eq_some_iff.mp H
                       obtain ⟨⟨t736, t737⟩, A2480, H⟩ := H
                       replace H : ((impl_ApplyTable.f kj226 t658 t637).bind fun bt740 => (if t737 = true then (if bt740.2 = true then ((laws_sameInts.f kj226 bt740.1 t736).bind fun t744 => (some t744)) else (some false)) else (some true))) = some true := H
                       have A248 := Aside0.mk A2480
                       clear A2480
                       replace H := Option.bind_eq_some_iff.mp H
                       obtain ⟨⟨t740, t741⟩, A2490, H⟩ := H
                       replace H : (if t737 = true then (if t741 = true then ((laws_sameInts.f kj226 t740 t736).bind fun t744 => (some t744)) else (some false)) else (some true)) = some true := H
                       have A249 := Aside0.mk A2490
                       clear A2490
                       by_cases c250 : t737 = true
                       ·subst c250
                        rw [if_pos rfl] at H
                        by_cases c251 : t741 = true
                        ·subst c251
                         rw [if_pos rfl] at H
                         replace H := Option.bind_eq_some_iff.mp H
                         obtain ⟨t744, A2520, H⟩ := H
                         have A252 := Aside0.mk A2520
                         clear A2520
                         obtain rfl : t744 = true := Option.some.inj H
                         go_wp2_with (first | ((with_reducible refine gate_callee (f := 75) rfl ?_); refine goesL_ (some 345) rfl rfl Try.func75 (by kernel_rfl) rfl #[.int .i64 t635, .slice Ao25 t636.length co25, .slice Ao39 t637.length co39, .int .i64 1] rfl (by (try simp only [List.map_toArray, List.map_cons, List.map_nil]); first | done | rfl | (simp only [List.length_drop, List.length_take]; rfl)) ?_; (with_reducible refine (impl_TwistClass.calls kj226 t635 _ _ t636 _ _ t637 1 t736 true _ ?side1 ?side2 ?side3 ?side4 A248.out).mono ?_); (case side1 => exact C_l ((Kd.R_reads' HO_4.out).2.2)); (case side2 => exact (Kd.R_reads' HO_4.out).2.1); (case side3 => exact C_l ((Kd.R_reads' HO_5.out).2.2)); (case side4 => exact (Kd.R_reads' HO_5.out).2.1); rintro e w253 ⟨v738, rfl, ho0, hb⟩; refine ⟨_, rfl, ?_⟩; have n0_ := Aside0.mk (Kd.R_elder' (R_l HO_4.out) (Kd.R_base ho0) hb); have n1_ := Aside0.mk (Kd.R_elder' (R_l HO_5.out) (Kd.R_base ho0) hb); have n2_ := Aside0.mk (Kd.S_elder' (S_l HO_14.out) (Kd.R_base ho0) hb); have n3_ := Aside0.mk (Kd.R_lower (Kd.R_new' (Kd.R_new' ho0 (Kd.R_lt (R_l HO_4.out))) (Kd.R_lt (R_l HO_5.out))) (below_size (B_l HB.out))); have n4_ := Aside0.mk (below_step (B_l HB.out) hb); clear HO_4; clear HO_5; clear HO_14; clear HB; have HO_4 := n0_; have HO_5 := n1_; have HO_14 := n2_; have HO739 := n3_; have HB := n4_; clear n0_ n1_ n2_ n3_ n4_; obtain ⟨Ao254, co254, eo254⟩ := Kd.S_slice HO_14.out; subst eo254) | ((with_reducible refine gate_callee (f := 80) rfl ?_); refine goesL_ (some 351) rfl rfl Try.func80 (by kernel_rfl) rfl #[.slice Ao254 t658.length co254, .slice Ao39 t637.length co39] rfl (by (try simp only [List.map_toArray, List.map_cons, List.map_nil]); first | done | rfl | (simp only [List.length_drop, List.length_take]; rfl)) ?_; (with_reducible refine (impl_ApplyTable.calls kj226 _ _ t658 _ _ t637 t740 true _ ?side1 ?side2 ?side3 ?side4 A249.out).mono ?_); (case side1 => exact C_l ((Kd.S_reads' HO_14.out).2.2)); (case side2 => exact (Kd.S_reads' HO_14.out).2.1); (case side3 => exact C_l ((Kd.R_reads' HO_5.out).2.2)); (case side4 => exact (Kd.R_reads' HO_5.out).2.1); rintro e w255 ⟨v742, rfl, ho0, hb⟩; refine ⟨_, rfl, ?_⟩; have n0_ := Aside0.mk (Kd.R_elder' (R_l HO_4.out) (Kd.R_base ho0) hb); have n1_ := Aside0.mk (Kd.R_elder' (R_l HO_5.out) (Kd.R_base ho0) hb); have n2_ := Aside0.mk (Kd.S_elder' (S_l HO_14.out) (Kd.R_base ho0) hb); have n3_ := Aside0.mk (Kd.R_elder' (R_l HO739.out) (Kd.R_base ho0) hb); have n4_ := Aside0.mk (Kd.R_lower (Kd.R_new' (Kd.R_new' (Kd.R_new' ho0 (Kd.R_lt (R_l HO_4.out))) (Kd.R_lt (R_l HO_5.out))) (Kd.R_lt (R_l HO739.out))) (below_size (B_l HB.out))); have n5_ := Aside0.mk (below_step (B_l HB.out) hb); clear HO_4; clear HO_5; clear HO_14; clear HO739; clear HB; have HO_4 := n0_; have HO_5 := n1_; have HO_14 := n2_; have HO739 := n3_; have HO743 := n4_; have HB := n5_; clear n0_ n1_ n2_ n3_ n4_ n5_; obtain ⟨Ao256, co256, eo256⟩ := Kd.R_slice HO743.out; subst eo256; obtain ⟨Ao257, co257, eo257⟩ := Kd.R_slice HO739.out; subst eo257) | (go_at_call 40; (with_reducible refine (laws_sameInts.calls kj226 _ _ t740 _ _ t736 true _ ?side1 ?side2 ?side3 ?side4 A252.out).mono ?_); (case side1 => exact C_l ((Kd.R_reads' HO743.out).2.2)); (case side2 => exact (Kd.R_reads' HO743.out).2.1); (case side3 => exact C_l ((Kd.R_reads' HO739.out).2.2)); (case side4 => exact (Kd.R_reads' HO739.out).2.1); rintro e w' ⟨rfl, ⟨nd, rfl⟩⟩))
                         go_ret
                         exact ⟨by first | rfl | (simp [errW_none, errW_some] <;> rfl) | (simp [*, errW_none, errW_some] <;> rfl), B_l HB.out⟩
                        ·replace c251 := Bool.eq_false_iff.mpr c251
                         subst c251
                         rw [if_neg (show ¬ (false = true) by decide)] at H
                         exact absurd H (by simp)
                       ·replace c250 := Bool.eq_false_iff.mpr c250
                        subst c250
                        have H1 : (some true) = some true := rfl
                        clear H
                        have H := H1
                        clear H1
                        clear H
                        go_wp2_with (first | ((with_reducible refine gate_callee (f := 75) rfl ?_); refine goesL_ (some 345) rfl rfl Try.func75 (by kernel_rfl) rfl #[.int .i64 t635, .slice Ao25 t636.length co25, .slice Ao39 t637.length co39, .int .i64 1] rfl (by (try simp only [List.map_toArray, List.map_cons, List.map_nil]); first | done | rfl | (simp only [List.length_drop, List.length_take]; rfl)) ?_; (with_reducible refine (impl_TwistClass.calls kj226 t635 _ _ t636 _ _ t637 1 t736 false _ ?side1 ?side2 ?side3 ?side4 A248.out).mono ?_); (case side1 => exact C_l ((Kd.R_reads' HO_4.out).2.2)); (case side2 => exact (Kd.R_reads' HO_4.out).2.1); (case side3 => exact C_l ((Kd.R_reads' HO_5.out).2.2)); (case side4 => exact (Kd.R_reads' HO_5.out).2.1); rintro e w261 ⟨v738, rfl, ho0, hb⟩; refine ⟨_, rfl, ?_⟩; have n0_ := Aside0.mk (Kd.R_elder' (R_l HO_4.out) (Kd.R_base ho0) hb); have n1_ := Aside0.mk (Kd.R_elder' (R_l HO_5.out) (Kd.R_base ho0) hb); have n2_ := Aside0.mk (Kd.S_elder' (S_l HO_14.out) (Kd.R_base ho0) hb); have n3_ := Aside0.mk (Kd.R_lower (Kd.R_new' (Kd.R_new' ho0 (Kd.R_lt (R_l HO_4.out))) (Kd.R_lt (R_l HO_5.out))) (below_size (B_l HB.out))); have n4_ := Aside0.mk (below_step (B_l HB.out) hb); clear HO_4; clear HO_5; clear HO_14; clear HB; have HO_4 := n0_; have HO_5 := n1_; have HO_14 := n2_; have HO739 := n3_; have HB := n4_; clear n0_ n1_ n2_ n3_ n4_; obtain ⟨Ao262, co262, eo262⟩ := Kd.S_slice HO_14.out; subst eo262) | ((with_reducible refine gate_callee (f := 80) rfl ?_); refine goesL_ (some 351) rfl rfl Try.func80 (by kernel_rfl) rfl #[.slice Ao262 t658.length co262, .slice Ao39 t637.length co39] rfl (by (try simp only [List.map_toArray, List.map_cons, List.map_nil]); first | done | rfl | (simp only [List.length_drop, List.length_take]; rfl)) ?_; (with_reducible refine (impl_ApplyTable.calls kj226 _ _ t658 _ _ t637 t740 t741 _ ?side1 ?side2 ?side3 ?side4 A249.out).mono ?_); (case side1 => exact C_l ((Kd.S_reads' HO_14.out).2.2)); (case side2 => exact (Kd.S_reads' HO_14.out).2.1); (case side3 => exact C_l ((Kd.R_reads' HO_5.out).2.2)); (case side4 => exact (Kd.R_reads' HO_5.out).2.1); rintro e w263 ⟨v742, rfl, ho0, hb⟩; refine ⟨_, rfl, ?_⟩; have n0_ := Aside0.mk (Kd.R_elder' (R_l HO_4.out) (Kd.R_base ho0) hb); have n1_ := Aside0.mk (Kd.R_elder' (R_l HO_5.out) (Kd.R_base ho0) hb); have n2_ := Aside0.mk (Kd.S_elder' (S_l HO_14.out) (Kd.R_base ho0) hb); have n3_ := Aside0.mk (Kd.R_elder' (R_l HO739.out) (Kd.R_base ho0) hb); have n4_ := Aside0.mk (Kd.R_lower (Kd.R_new' (Kd.R_new' (Kd.R_new' ho0 (Kd.R_lt (R_l HO_4.out))) (Kd.R_lt (R_l HO_5.out))) (Kd.R_lt (R_l HO739.out))) (below_size (B_l HB.out))); have n5_ := Aside0.mk (below_step (B_l HB.out) hb); clear HO_4; clear HO_5; clear HO_14; clear HO739; clear HB; have HO_4 := n0_; have HO_5 := n1_; have HO_14 := n2_; have HO739 := n3_; have HO743 := n4_; have HB := n5_; clear n0_ n1_ n2_ n3_ n4_ n5_))
                        go_ret
                        exact ⟨by first | rfl | (simp [errW_none, errW_some] <;> rfl) | (simp [*, errW_none, errW_some] <;> rfl), B_l HB.out⟩

/-- THE ONE PURE STATEMENT of laws_FnTwists: yours. -/
def laws_FnTwists.Pure : Prop := ∀ (l0 : List Int), l0.length ≤ maxLen → l0.length * 1 ≤ 140737488351232 → (∀ x ∈ l0, (Lit.int .u8 x).wf = true) → ∃ k, laws_FnTwists.f k l0 = some true
theorem laws_FnTwists.walk (P : laws_FnTwists.Pure) (a0 : Option Addr) (len0 cap0 : Nat) (z0 : List Int) (w : World) (w0 : (a0 = none ∧ len0 = 0 ∧ cap0 = 0 ∧ z0 = []) ∨ ∃ x, a0 = some x ∧ len0 ≤ cap0 ∧ cap0 ≤ maxLen ∧ z0.length = cap0 ∧ (∀ i, i < z0.length → w.cell? (x.add i) = some (.int .u8 (z0.getD i 0))) ∧ ∀ n ∈ z0, (Lit.int .u8 n).wf = true) (y0 : len0 * 1 ≤ 140737488351232) :
  Calls Try.prog 6 #[.slice a0 len0 cap0] w fun e w' => e = .returned (.bool true) ∧ Below w.heap.size w w' := by
 obtain ⟨l0, rfl, hr0, hm0, hw0, hc0⟩ := ReadsInt.ofRowC w0
 obtain ⟨k, h⟩ := P l0 hm0 y0 hw0
 refine (laws_FnTwists.calls k _ _ l0 w (Kd.C_of_reads (d := (0 : Int)) (h1 := fun _ => rfl) hr0) hc0 h).mono ?_
 rintro e w' ⟨rfl, hd⟩
 exact ⟨rfl, hd⟩
end Go.Proofs.Ytimjefomgaaegaa.PFnTwists
