/- The walk of laws_FnCovers on the ways on which it answers true: lines of the print of this claim, the ways that answer false struck, since the pure fact says true. -/
import Derived.Test.YtepogblkmiidnaaWSpanB
import Derived.Test.YtepogblkmiidnaaPFnCoversx0
import Derived.Test.YtepogblkmiidnaaPFnCoversx2
import Derived.Test.YtepogblkmiidnaaPFnCoversx5
import Derived.Test.YtepogblkmiidnaaPFnCoversx8
import Derived.Test.YtepogblkmiidnaaPFnCoversx10
import Derived.Test.YtepogblkmiidnaaPFnCoversx11
import Derived.Test.YtepogblkmiidnaaPFnCoversx14
import Derived.Test.YtepogblkmiidnaaPFnCoversx15
import Derived.Test.YtepogblkmiidnaaPFnCoversx16
import Derived.Test.YtepogblkmiidnaaPFnCoversx17
import Derived.Test.YtepogblkmiidnaaPFnCoversx18
import Derived.Test.YtepogblkmiidnaaPFnCoversx19
import Derived.Test.YtepogblkmiidnaaPFnCoversx20
import Derived.Test.YtepogblkmiidnaaPFnCoversx21
import Derived.Test.YtepogblkmiidnaaPFnCoversx22
namespace Go.Proofs.Ytepogblkmiidnaa.PFnCovers
open Go.RowKit Go.Proofs.YtepogblkmiidnaaW.PrintWords Go.Proofs.YtepogblkmiidnaaW.PrintLast Go.Proofs.YtepogblkmiidnaaW.PrintMore
attribute [local go_sem] max2_int min2_int max_two min_two max_three min_three max_four min_four   -- for this text's walks alone
set_option linter.unusedVariables false
set_option linter.unusedSimpArgs false

/-! ### laws_FnCovers: function 3 -/
mutual
def laws_FnCovers.j0 : Nat → Int → List (List Int) → List (S46) → Bool → List Int → List Int → Int → Int → Int → List (List Int) → Bool → Option (Bool)
 | 0, _, _, _, _, _, _, _, _, _, _, _ => none
 | k + 1, x3, x4, x5, x6, x11, x12, x13, x14, x15, x16, x124 => if x124 = true then (some false) else ((laws_total.f k x12).bind fun t744 => (if t744 = (x11.length : Int) then ((impl_IsAction.f k x3 x4).bind fun t745 => (laws_FnCovers.j1 k x3 x4 x5 x6 x13 x14 x15 x16 (x6 != t745))) else (laws_FnCovers.j1 k x3 x4 x5 x6 x13 x14 x15 x16 true)))
def laws_FnCovers.j1 : Nat → Int → List (List Int) → List (S46) → Bool → Int → Int → Int → List (List Int) → Bool → Option (Bool)
 | 0, _, _, _, _, _, _, _, _, _ => none
 | k + 1, x3, x4, x5, x6, x13, x14, x15, x16, x136 => if x136 = true then (some false) else ((some (([(([1, 4, 36] : List Int)), (([1, 4, 18] : List Int)), (([1, 16, 486] : List Int))] : List (List Int)) : List (List Int))).bind fun y755 => (if x14 ≥ 1 then (if x14 ≤ 3 then (if x13 ≥ 0 then (if x13 ≤ 2 then (if 0 ≤ x13 then (if x13 < (y755.length : Int) then (if 0 ≤ (wrap64 (x14 - 1)) then (if (wrap64 (x14 - 1)) < ((rd_L2 y755 x13).length : Int) then (laws_FnCovers.j2 k x3 x4 x5 x6 x16 (x15 != (rd (rd_L2 y755 x13) (wrap64 (x14 - 1))))) else (none)) else (none)) else (none)) else (none)) else (laws_FnCovers.j2 k x3 x4 x5 x6 x16 false)) else (laws_FnCovers.j2 k x3 x4 x5 x6 x16 false)) else (laws_FnCovers.j2 k x3 x4 x5 x6 x16 false)) else (laws_FnCovers.j2 k x3 x4 x5 x6 x16 false)))
def laws_FnCovers.j2 : Nat → Int → List (List Int) → List (S46) → Bool → List (List Int) → Bool → Option (Bool)
 | 0, _, _, _, _, _, _ => none
 | k + 1, x3, x4, x5, x6, x16, x166 => if x166 = true then (some false) else (if x6 = true then (laws_FnCovers.l0 k x3 x4 x5 x16 0 0) else (some true))
def laws_FnCovers.l0 : Nat → Int → List (List Int) → List (S46) → List (List Int) → Int → Int → Option (Bool)
 | 0, _, _, _, _, _, _ => none
 | k + 1, x3, x4, x5, x16, x18, x19 => if x19 < (x5.length : Int) then (if 0 ≤ x19 then ((spec_EulerNumber.f ((rd_T46 x5 x19).f0) ((rd_T46 x5 x19).f1) ((rd_T46 x5 x19).f2)).bind fun t773 => ((some (([(-1), 0, (-2)] : List Int) : List Int)).bind fun y774 => (if 0 ≤ x3 then (if x3 < (y774.length : Int) then ((spec_EulerNumber.f ((rd_T46 x5 x19).f0) ((rd_T46 x5 x19).f1) ((rd_T46 x5 x19).f2)).bind fun t779 => (if x19 < (x16.length : Int) then (if t779 = (wrap64 ((rd y774 x3) * ((rd_L2 x16 x19).length : Int))) then (laws_FnCovers.l0 k x3 x4 x5 x16 (wrap64 (x18 + t773)) (wrap64 (x19 + 1))) else (some false)) else (none))) else (none)) else (none)))) else (none)) else (if (x16.length : Int) = 1 then (if 0 < (x4.length : Int) then ((impl_SheetSymmetries.f k x4).bind fun t761 => (if t761 = 0 then (none) else (if (((rd_L2 x4 0).length : Int) % t761) = 0 then (if (x5.length : Int) = (x16.length : Int) then ((some (([(-1), 0, (-2)] : List Int) : List Int)).bind fun y762 => (if 0 ≤ x3 then (if x3 < (y762.length : Int) then (some (x18 == (wrap64 ((rd y762 x3) * ((rd_L2 x4 0).length : Int))))) else (none)) else (none))) else (some false)) else (some false)))) else (none)) else (if (x5.length : Int) = (x16.length : Int) then ((some (([(-1), 0, (-2)] : List Int) : List Int)).bind fun y767 => (if 0 ≤ x3 then (if x3 < (y767.length : Int) then (if 0 < (x4.length : Int) then (some (x18 == (wrap64 ((rd y767 x3) * ((rd_L2 x4 0).length : Int))))) else (none)) else (none)) else (none))) else (some false)))
end
def laws_FnCovers.f (k : Nat) (l0 : List Int) : Option (Bool) := (laws_big.f l0).bind fun t693 => (if t693 = true then (some true) else ((spec_DrawCoverOf.f k l0).bind fun bt694 => ((impl_CoverOf.f k bt694.1 bt694.2).bind fun bt698 => ((spec_CoverOf.f k bt694.1 bt694.2).bind fun bt702 => ((spec_DrawActWord.f k l0).bind fun bt706 => ((impl_ActWord.f k bt706.1 bt706.2).bind fun t712 => ((impl_LiftLengths.f k bt706.1 bt706.2).bind fun t715 => ((spec_DrawCountActions.f k l0).bind fun bt718 => ((impl_CountActions.f k bt718.1 bt718.2).bind fun t720 => ((impl_SheetParts.f k bt694.2).bind fun t721 => (if (bt698.2 != bt702.2) = true then (laws_FnCovers.j0 k bt694.1 bt694.2 bt698.1 bt698.2 t712 t715 bt718.1 bt718.2 t720 t721 true) else ((laws_sameSurfaces.f k bt698.1 bt702.1).bind fun t724 => (if t724 = true then ((spec_ActWord.f k bt706.1 bt706.2).bind fun t725 => ((laws_sameInts.f k t712 t725).bind fun t728 => (if t728 = true then ((spec_LiftLengths.f k bt706.1 bt706.2).bind fun t729 => ((laws_sameInts.f k t715 t729).bind fun t732 => (if t732 = true then ((spec_CountActions.f k bt718.1 bt718.2).bind fun t733 => (if t720 = t733 then ((impl_CountCovers.f k bt718.1 bt718.2).bind fun t734 => ((spec_CountCovers.f k bt718.1 bt718.2).bind fun t735 => (if t734 = t735 then ((spec_SheetParts.f k bt694.2).bind fun t736 => ((laws_sameLists.f k t721 t736).bind fun t739 => (if t739 = true then ((impl_IsAction.f k bt694.1 bt694.2).bind fun t740 => ((spec_IsAction.f k bt694.1 bt694.2).bind fun t741 => (if (t740 != t741) = true then (laws_FnCovers.j0 k bt694.1 bt694.2 bt698.1 bt698.2 t712 t715 bt718.1 bt718.2 t720 t721 true) else ((impl_SheetSymmetries.f k bt694.2).bind fun t742 => ((spec_SheetSymmetries.f k bt694.2).bind fun t743 => (laws_FnCovers.j0 k bt694.1 bt694.2 bt698.1 bt698.2 t712 t715 bt718.1 bt718.2 t720 t721 (t742 != t743))))))) else (laws_FnCovers.j0 k bt694.1 bt694.2 bt698.1 bt698.2 t712 t715 bt718.1 bt718.2 t720 t721 true)))) else (laws_FnCovers.j0 k bt694.1 bt694.2 bt698.1 bt698.2 t712 t715 bt718.1 bt718.2 t720 t721 true)))) else (laws_FnCovers.j0 k bt694.1 bt694.2 bt698.1 bt698.2 t712 t715 bt718.1 bt718.2 t720 t721 true))) else (laws_FnCovers.j0 k bt694.1 bt694.2 bt698.1 bt698.2 t712 t715 bt718.1 bt718.2 t720 t721 true)))) else (laws_FnCovers.j0 k bt694.1 bt694.2 bt698.1 bt698.2 t712 t715 bt718.1 bt718.2 t720 t721 true)))) else (laws_FnCovers.j0 k bt694.1 bt694.2 bt698.1 bt698.2 t712 t715 bt718.1 bt718.2 t720 t721 true))))))))))))))
theorem laws_FnCovers_no_j0 : ∀ k a0 a1 a2 a3 a4 a5 a6 a7 a8 a9, ¬ (laws_FnCovers.j0 k a0 a1 a2 a3 a4 a5 a6 a7 a8 a9 true = some true) := by
 intro k a0 a1 a2 a3 a4 a5 a6 a7 a8 a9 h
 cases k with
 | zero => simp [laws_FnCovers.j0] at h
 | succ k => rw [laws_FnCovers.j0, if_pos rfl] at h; cases h
theorem laws_FnCovers_no_j1 : ∀ k a0 a1 a2 a3 a4 a5 a6 a7, ¬ (laws_FnCovers.j1 k a0 a1 a2 a3 a4 a5 a6 a7 true = some true) := by
 intro k a0 a1 a2 a3 a4 a5 a6 a7 h
 cases k with
 | zero => simp [laws_FnCovers.j1] at h
 | succ k => rw [laws_FnCovers.j1, if_pos rfl] at h; cases h
theorem laws_FnCovers_no_j2 : ∀ k a0 a1 a2 a3 a4, ¬ (laws_FnCovers.j2 k a0 a1 a2 a3 a4 true = some true) := by
 intro k a0 a1 a2 a3 a4 h
 cases k with
 | zero => simp [laws_FnCovers.j2] at h
 | succ k => rw [laws_FnCovers.j2, if_pos rfl] at h; cases h
def laws_FnCovers.T27 : Bool × List (List Nat × List Nat) := (true, [([], []), ([], []), ([0, 1], [0, 1]), ([2], [2]), ([3], [3]), ([], []), ([], []), ([], []), ([6, 7], [6, 7]), ([8], [8]), ([9], [9]), ([5, 10], [5, 10]), ([4, 11], [4, 11])])
def laws_FnCovers.B27 : List Nat := [0, 0, 3, 7, 15, 0, 0, 0, 192, 448, 960, 2016, 4095]
theorem laws_FnCovers.tab27 : rtab .any (opsOf Try.f3 27) = laws_FnCovers.T27 := by kernel_rfl
theorem laws_FnCovers.bits27 : waitsOk laws_FnCovers.T27.2 laws_FnCovers.B27 = true := by kernel_rfl
def laws_FnCovers.T29 : Bool × List (List Nat × List Nat) := (true, [([], []), ([0], [0]), ([1], [1]), ([2], [2]), ([3], [3]), ([4, 3], [3, 4]), ([5, 3], [3, 5]), ([6, 3], [3, 6]), ([3], [3]), ([8, 3, 3], [3, 8]), ([7, 9, 3], [3, 7, 9]), ([10, 3], [3, 10]), ([3, 11], [3, 11])])
def laws_FnCovers.B29 : List Nat := [0, 1, 3, 7, 15, 31, 63, 127, 15, 271, 1023, 2047, 4095]
theorem laws_FnCovers.tab29 : rtab .any (opsOf Try.f3 29) = laws_FnCovers.T29 := by kernel_rfl
theorem laws_FnCovers.bits29 : waitsOk laws_FnCovers.T29.2 laws_FnCovers.B29 = true := by kernel_rfl
def laws_FnCovers.T31 : Bool × List (List Nat × List Nat) := (true, [([], []), ([0], [0]), ([], []), ([2], [2]), ([1, 3], [1, 3]), ([4], [4]), ([5], [5]), ([5], [5]), ([5], [5]), ([7, 8, 5], [5, 7, 8]), ([9, 5], [5, 9]), ([5], [5]), ([11, 5], [5, 11]), ([12, 5], [5, 12]), ([13, 5], [5, 13]), ([10, 14, 5], [5, 10, 14]), ([6, 15, 5], [5, 6, 15]), ([5, 16], [5, 16]), ([17, 5, 0, 1, 2, 3, 4, 5, 6, 7, 8, 9, 10, 11, 12, 13, 14, 15, 16, 17], [17])])
def laws_FnCovers.B31 : List Nat := [0, 1, 0, 4, 15, 31, 63, 63, 63, 447, 959, 63, 2111, 6207, 14399, 32703, 65535, 131071, 262143]
theorem laws_FnCovers.tab31 : rtab .any (opsOf Try.f3 31) = laws_FnCovers.T31 := by kernel_rfl
theorem laws_FnCovers.bits31 : waitsOk laws_FnCovers.T31.2 laws_FnCovers.B31 = true := by kernel_rfl
set_option maxHeartbeats 8000000 in
set_option maxRecDepth 100000 in
theorem laws_FnCovers.calls (k : Nat) (A0 : Option Addr) (c0 : Nat) (l0 : List Int) (w : World) (hr0 : Kd.C (Kd.int .u8) w A0 l0.length l0) (hc0 : l0.length ≤ c0) (h : laws_FnCovers.f k l0 = some true) :
  Calls Try.prog 3 #[.slice A0 l0.length c0] w fun e w' => e = .returned (.bool true) ∧ Below w.heap.size w w' := by
 have hu46 := Try.underlying46
 have HR0 := Aside0.mk hr0
 have HC0 := Aside0.mk hc0
 clear hr0 hc0
 have HB := Aside0.mk (Below.refl w.heap.size w)
 have H : ((laws_big.f l0).bind fun t693 => (if t693 = true then (some true) else ((spec_DrawCoverOf.f k l0).bind fun bt694 => ((impl_CoverOf.f k bt694.1 bt694.2).bind fun bt698 => ((spec_CoverOf.f k bt694.1 bt694.2).bind fun bt702 => ((spec_DrawActWord.f k l0).bind fun bt706 => ((impl_ActWord.f k bt706.1 bt706.2).bind fun t712 => ((impl_LiftLengths.f k bt706.1 bt706.2).bind fun t715 => ((spec_DrawCountActions.f k l0).bind fun bt718 => ((impl_CountActions.f k bt718.1 bt718.2).bind fun t720 => ((impl_SheetParts.f k bt694.2).bind fun t721 => (if (bt698.2 != bt702.2) = true then (laws_FnCovers.j0 k bt694.1 bt694.2 bt698.1 bt698.2 t712 t715 bt718.1 bt718.2 t720 t721 true) else ((laws_sameSurfaces.f k bt698.1 bt702.1).bind fun t724 => (if t724 = true then ((spec_ActWord.f k bt706.1 bt706.2).bind fun t725 => ((laws_sameInts.f k t712 t725).bind fun t728 => (if t728 = true then ((spec_LiftLengths.f k bt706.1 bt706.2).bind fun t729 => ((laws_sameInts.f k t715 t729).bind fun t732 => (if t732 = true then ((spec_CountActions.f k bt718.1 bt718.2).bind fun t733 => (if t720 = t733 then ((impl_CountCovers.f k bt718.1 bt718.2).bind fun t734 => ((spec_CountCovers.f k bt718.1 bt718.2).bind fun t735 => (if t734 = t735 then ((spec_SheetParts.f k bt694.2).bind fun t736 => ((laws_sameLists.f k t721 t736).bind fun t739 => (if t739 = true then ((impl_IsAction.f k bt694.1 bt694.2).bind fun t740 => ((spec_IsAction.f k bt694.1 bt694.2).bind fun t741 => (if (t740 != t741) = true then (laws_FnCovers.j0 k bt694.1 bt694.2 bt698.1 bt698.2 t712 t715 bt718.1 bt718.2 t720 t721 true) else ((impl_SheetSymmetries.f k bt694.2).bind fun t742 => ((spec_SheetSymmetries.f k bt694.2).bind fun t743 => (laws_FnCovers.j0 k bt694.1 bt694.2 bt698.1 bt698.2 t712 t715 bt718.1 bt718.2 t720 t721 (t742 != t743))))))) else (laws_FnCovers.j0 k bt694.1 bt694.2 bt698.1 bt698.2 t712 t715 bt718.1 bt718.2 t720 t721 true)))) else (laws_FnCovers.j0 k bt694.1 bt694.2 bt698.1 bt698.2 t712 t715 bt718.1 bt718.2 t720 t721 true)))) else (laws_FnCovers.j0 k bt694.1 bt694.2 bt698.1 bt698.2 t712 t715 bt718.1 bt718.2 t720 t721 true))) else (laws_FnCovers.j0 k bt694.1 bt694.2 bt698.1 bt698.2 t712 t715 bt718.1 bt718.2 t720 t721 true)))) else (laws_FnCovers.j0 k bt694.1 bt694.2 bt698.1 bt698.2 t712 t715 bt718.1 bt718.2 t720 t721 true)))) else (laws_FnCovers.j0 k bt694.1 bt694.2 bt698.1 bt698.2 t712 t715 bt718.1 bt718.2 t720 t721 true))))))))))))))) = some true := h
 clear h
 obtain ⟨t693, A2, H⟩ := bs H
 by_cases c3 : t693 = true
 ·subst c3
  have H1 : (some true) = some true := rfl
  clear H
  have H := H1
  clear H1
  go_enter Try.func3, Try.ntmps3
  go_wp2_with (first | ((with_reducible refine gate_callee (f := 4) rfl ?_); refine goesL_ (some 22) rfl rfl Try.func4 (by kernel_rfl) rfl #[.slice A0 l0.length c0] rfl mp_ ?_; (with_reducible refine (laws_big.calls _ _ l0 true _ ?side1 ?side2 A2.out).mono ?_); (case side1 => exact C_l HR0.out); (case side2 => exact HC0.out); rintro e w' ⟨rfl, ⟨nd, rfl⟩⟩; refine ⟨_, rfl, ?_⟩))
  go_ret
  exact ⟨rE, tb⟩
 ·replace c3 := Bool.eq_false_iff.mpr c3
  subst c3
  rw [if_neg (show ¬ (false = true) by decide)] at H
  obtain ⟨⟨t694, t695⟩, A4, H⟩ := bs H
  try dsimp only at H
  obtain ⟨⟨t698, t699⟩, A5, H⟩ := bs H
  try dsimp only at H
  obtain ⟨⟨t702, t703⟩, A6, H⟩ := bs H
  try dsimp only at H
  obtain ⟨⟨t706, t709⟩, A7, H⟩ := bs H
  try dsimp only at H
  obtain ⟨t712, A8, H⟩ := bs H
  obtain ⟨t715, A9, H⟩ := bs H
  obtain ⟨⟨t718, t719⟩, A10, H⟩ := bs H
  try dsimp only at H
  obtain ⟨t720, A11, H⟩ := bs H
  obtain ⟨t721, A12, H⟩ := bs H
  have HC13 := Aside0.mk H
  go_enter Try.func3, Try.ntmps3
  go_upto_region 12 with (first | ((with_reducible refine gate_callee (f := 4) rfl ?_); refine goesL_ (some 22) rfl rfl Try.func4 (by kernel_rfl) rfl #[.slice A0 l0.length c0] rfl mp_ ?_; (with_reducible refine (laws_big.calls _ _ l0 false _ ?side1 ?side2 A2.out).mono ?_); (case side1 => exact C_l HR0.out); (case side2 => exact HC0.out); rintro e w' ⟨rfl, ⟨nd, rfl⟩⟩; refine ⟨_, rfl, ?_⟩) | ((with_reducible refine gate_callee (f := 5) rfl ?_); refine goesL_ (some 25) rfl rfl Try.func5 (by kernel_rfl) rfl #[.slice A0 l0.length c0] rfl mp_ ?_; (with_reducible refine (spec_DrawCoverOf.calls k _ _ l0 t694 t695 _ ?side1 ?side2 A4.out).mono ?_); (case side1 => exact C_l HR0.out); (case side2 => exact HC0.out); rintro e w14 ⟨v696, rfl, ho0, hb⟩; refine ⟨_, rfl, ?_⟩; have HO697 := Aside0.mk (Kd.N_lower (Kd.N_mono (ok' := fun k_ => True) ho0 (fun k_ hk_ => trivial)) (below_size tb)); replace HB := Aside0.mk (below_step tb hb); obtain ⟨Ao15, co15, eo15⟩ := Kd.N_slice HO697.out; subst eo15) | ((with_reducible refine gate_callee (f := 6) rfl ?_); refine goesL_ (some 31) rfl rfl Try.func6 (by kernel_rfl) rfl #[.int .i64 t694, .slice Ao15 t695.length co15] rfl mp_ ?_; (with_reducible refine (impl_CoverOf.calls k t694 _ _ t695 t698 t699 _ ?side1 ?side2 A5.out).mono ?_); (case side1 => exact C_l ((Kd.N_reads' HO697.out).2.2)); (case side2 => exact (Kd.N_reads' HO697.out).2.1); rintro e w16 ⟨v700, rfl, ho0, hb⟩; refine ⟨_, rfl, ?_⟩; replace HO697 := Aside0.mk (Kd.N_elder' (N_l HO697.out) (Kd.R_base ho0) hb); have HO701 := Aside0.mk (Kd.R_lower ho0 (below_size tb)); replace HB := Aside0.mk (below_step tb hb)) | ((with_reducible refine gate_callee (f := 7) rfl ?_); refine goesL_ (some 37) rfl rfl Try.func7 (by kernel_rfl) rfl #[.int .i64 t694, .slice Ao15 t695.length co15] rfl mp_ ?_; (with_reducible refine (spec_CoverOf.calls k t694 _ _ t695 t702 t703 _ ?side1 ?side2 A6.out).mono ?_); (case side1 => exact C_l ((Kd.N_reads' HO697.out).2.2)); (case side2 => exact (Kd.N_reads' HO697.out).2.1); rintro e w17 ⟨v704, rfl, ho0, hb⟩; refine ⟨_, rfl, ?_⟩; replace HO697 := Aside0.mk (Kd.N_elder' (N_l HO697.out) (Kd.R_base ho0) hb); have HO705 := Aside0.mk (Kd.R_lower (Kd.R_new' ho0 (Kd.R_lt (R_l HO701.out))) (below_size tb)); replace HO701 := Aside0.mk (Kd.R_elder' (R_l HO701.out) (Kd.R_base ho0) hb); replace HB := Aside0.mk (below_step tb hb)) | ((with_reducible refine gate_callee (f := 8) rfl ?_); refine goesL_ (some 42) rfl rfl Try.func8 (by kernel_rfl) rfl #[.slice A0 l0.length c0] rfl mp_ ?_; (with_reducible refine (spec_DrawActWord.calls k _ _ l0 t706 t709 _ ?side1 ?side2 A7.out).mono ?_); (case side1 => exact C_l (Kd.C_below HR0.out HB.out)); (case side2 => exact HC0.out); rintro e w18 ⟨v707, v710, rfl, ho0, ho1, hb⟩; refine ⟨_, rfl, ?_⟩; have HO708 := Aside0.mk (Kd.N_lower (Kd.N_mono (ok' := fun k_ => some k_ ≠ (v710 : Value).ownBlock ∧ some k_ ≠ (.slice Ao15 t695.length co15 : Value).ownBlock ∧ some k_ ≠ (v700 : Value).ownBlock ∧ some k_ ≠ (v704 : Value).ownBlock) ho0 (fun k_ hk_ => ⟨hk_.2, (Kd.fresh' (Kd.N_lt (N_l HO697.out)) k_ hk_.1), (Kd.fresh' (Kd.R_lt (R_l HO701.out)) k_ hk_.1), (Kd.fresh' (Kd.R_lt (R_l HO705.out)) k_ hk_.1)⟩)) (below_size tb)); replace HO697 := Aside0.mk (Kd.N_mono (Kd.N_told (Kd.N_told (Kd.N_old (N_l HO697.out) hb) (Kd.N_base ho0)) (Kd.R_base ho1)) (fun _ h_ => h_.1)); replace HO701 := Aside0.mk (rB HO701.out hb); replace HO705 := Aside0.mk (rB HO705.out hb); have HO711 := Aside0.mk (Kd.R_lower (Kd.R_mono (ok' := fun k_ => True) ho1 (fun _ hk_ => trivial)) (below_size tb)); replace HB := Aside0.mk (below_step tb hb); obtain ⟨Ao19, co19, eo19⟩ := Kd.N_slice HO708.out; subst eo19; obtain ⟨Ao20, co20, eo20⟩ := Kd.R_slice HO711.out; subst eo20) | ((with_reducible refine gate_callee (f := 9) rfl ?_); refine goesL_ (some 47) rfl rfl Try.func9 (by kernel_rfl) rfl #[.slice Ao19 t706.length co19, .slice Ao20 t709.length co20] rfl mp_ ?_; (with_reducible refine (impl_ActWord.calls k _ _ t706 _ _ t709 t712 _ ?side1 ?side2 ?side3 ?side4 A8.out).mono ?_); (case side1 => exact C_l ((Kd.N_reads' HO708.out).2.2)); (case side2 => exact (Kd.N_reads' HO708.out).2.1); (case side3 => exact C_l ((Kd.R_reads' HO711.out).2.2)); (case side4 => exact (Kd.R_reads' HO711.out).2.1); rintro e w21 ⟨v713, rfl, ho0, hb⟩; refine ⟨_, rfl, ?_⟩; replace HO697 := Aside0.mk (Kd.N_elder' (N_l HO697.out) (Kd.R_base ho0) hb); replace HO701 := Aside0.mk (rB HO701.out hb); replace HO705 := Aside0.mk (rB HO705.out hb); replace HO708 := Aside0.mk (Kd.N_elder' (N_l HO708.out) (Kd.R_base ho0) hb); have HO714 := Aside0.mk (Kd.R_lower (Kd.R_new' ho0 (Kd.R_lt (R_l HO711.out))) (below_size tb)); replace HO711 := Aside0.mk (Kd.R_elder' (R_l HO711.out) (Kd.R_base ho0) hb); replace HB := Aside0.mk (below_step tb hb)) | ((with_reducible refine gate_callee (f := 10) rfl ?_); refine goesL_ (some 50) rfl rfl Try.func10 (by kernel_rfl) rfl #[.slice Ao19 t706.length co19, .slice Ao20 t709.length co20] rfl mp_ ?_; (with_reducible refine (impl_LiftLengths.calls k _ _ t706 _ _ t709 t715 _ ?side1 ?side2 ?side3 ?side4 A9.out).mono ?_); (case side1 => exact C_l ((Kd.N_reads' HO708.out).2.2)); (case side2 => exact (Kd.N_reads' HO708.out).2.1); (case side3 => exact C_l ((Kd.R_reads' HO711.out).2.2)); (case side4 => exact (Kd.R_reads' HO711.out).2.1); rintro e w22 ⟨v716, rfl, ho0, hb⟩; refine ⟨_, rfl, ?_⟩; replace HO697 := Aside0.mk (Kd.N_elder' (N_l HO697.out) (Kd.R_base ho0) hb); replace HO701 := Aside0.mk (rB HO701.out hb); replace HO705 := Aside0.mk (rB HO705.out hb); replace HO708 := Aside0.mk (Kd.N_elder' (N_l HO708.out) (Kd.R_base ho0) hb); have HO717 := Aside0.mk (Kd.R_lower (Kd.R_new' (Kd.R_new' ho0 (Kd.R_lt (R_l HO711.out))) (Kd.R_lt (R_l HO714.out))) (below_size tb)); replace HO711 := Aside0.mk (Kd.R_elder' (R_l HO711.out) (Kd.R_base ho0) hb); replace HO714 := Aside0.mk (Kd.R_elder' (R_l HO714.out) (Kd.R_base ho0) hb); replace HB := Aside0.mk (below_step tb hb)) | ((with_reducible refine gate_callee (f := 11) rfl ?_); refine goesL_ (some 53) rfl rfl Try.func11 (by kernel_rfl) rfl #[.slice A0 l0.length c0] rfl mp_ ?_; (with_reducible refine (spec_DrawCountActions.calls k _ _ l0 t718 t719 _ ?side1 ?side2 A10.out).mono ?_); (case side1 => exact C_l (Kd.C_below HR0.out HB.out)); (case side2 => exact HC0.out); rintro e w23 ⟨rfl, hb⟩; refine ⟨_, rfl, ?_⟩; replace HO697 := Aside0.mk (nB HO697.out hb); replace HO701 := Aside0.mk (rB HO701.out hb); replace HO705 := Aside0.mk (rB HO705.out hb); replace HO708 := Aside0.mk (nB HO708.out hb); replace HO711 := Aside0.mk (rB HO711.out hb); replace HO714 := Aside0.mk (rB HO714.out hb); replace HO717 := Aside0.mk (rB HO717.out hb); replace HB := Aside0.mk (below_step tb hb)) | ((with_reducible refine gate_callee (f := 12) rfl ?_); refine goesL_ (some 58) rfl rfl Try.func12 (by kernel_rfl) rfl #[.int .i64 t718, .int .i64 t719] rfl mp_ ?_; (with_reducible refine (impl_CountActions.calls k t718 t719 t720 _ A11.out).mono ?_); rintro e w24 ⟨rfl, hb⟩; refine ⟨_, rfl, ?_⟩; replace HO697 := Aside0.mk (nB HO697.out hb); replace HO701 := Aside0.mk (rB HO701.out hb); replace HO705 := Aside0.mk (rB HO705.out hb); replace HO708 := Aside0.mk (nB HO708.out hb); replace HO711 := Aside0.mk (rB HO711.out hb); replace HO714 := Aside0.mk (rB HO714.out hb); replace HO717 := Aside0.mk (rB HO717.out hb); replace HB := Aside0.mk (below_step tb hb)) | ((with_reducible refine gate_callee (f := 13) rfl ?_); refine goesL_ (some 60) rfl rfl Try.func13 (by kernel_rfl) rfl #[.slice Ao15 t695.length co15] rfl mp_ ?_; (with_reducible refine (impl_SheetParts.calls k _ _ t695 t721 _ ?side1 ?side2 A12.out).mono ?_); (case side1 => exact C_l ((Kd.N_reads' HO697.out).2.2)); (case side2 => exact (Kd.N_reads' HO697.out).2.1); rintro e w25 ⟨v722, rfl, ho0, hb⟩; refine ⟨_, rfl, ?_⟩; have HO723 := Aside0.mk (Kd.N_lower (Kd.N_mono (ok' := fun k_ => some k_ ≠ (.slice Ao15 t695.length co15 : Value).ownBlock ∧ some k_ ≠ (v700 : Value).ownBlock ∧ some k_ ≠ (v704 : Value).ownBlock ∧ some k_ ≠ (.slice Ao19 t706.length co19 : Value).ownBlock ∧ some k_ ≠ (.slice Ao20 t709.length co20 : Value).ownBlock ∧ some k_ ≠ (v713 : Value).ownBlock ∧ some k_ ≠ (v716 : Value).ownBlock) (Kd.S_N (Kd.S_bound ho0)) (fun k_ hk_ => ⟨(Kd.fresh' (Kd.N_lt (N_l HO697.out)) k_ hk_.2.1), (Kd.fresh' (Kd.R_lt (R_l HO701.out)) k_ hk_.2.1), (Kd.fresh' (Kd.R_lt (R_l HO705.out)) k_ hk_.2.1), (Kd.fresh' (Kd.N_lt (N_l HO708.out)) k_ hk_.2.1), (Kd.fresh' (Kd.R_lt (R_l HO711.out)) k_ hk_.2.1), (Kd.fresh' (Kd.R_lt (R_l HO714.out)) k_ hk_.2.1), (Kd.fresh' (Kd.R_lt (R_l HO717.out)) k_ hk_.2.1)⟩)) (below_size tb)); replace HO697 := Aside0.mk (Kd.N_elder' (N_l HO697.out) (Kd.S_base ho0) hb); replace HO701 := Aside0.mk (rB HO701.out hb); replace HO705 := Aside0.mk (rB HO705.out hb); replace HO708 := Aside0.mk (Kd.N_elder' (N_l HO708.out) (Kd.S_base ho0) hb); replace HO711 := Aside0.mk (rB HO711.out hb); replace HO714 := Aside0.mk (rB HO714.out hb); replace HO717 := Aside0.mk (rB HO717.out hb); replace HB := Aside0.mk (below_step tb hb)))
  (try simp only [Act.put, List.setIfInBounds_toArray, List.set_cons_zero, List.set_cons_succ])
  go_cut [124] (fun v124 wc => ∃ (kq : Nat) (x124_12 : Bool), v124 = .bool x124_12 ∧ Aside0 (laws_FnCovers.j0 kq t694 t695 t698 t699 t712 t715 t718 t719 t720 t721 x124_12 = some true) ∧ Aside0 (kq ≤ k) ∧ Aside0 (Kd.N (Kd.slice 3 (Kd.int .i64)) 30 wc w.heap.size (fun k_ => some k_ ≠ (v700 : Value).ownBlock ∧ some k_ ≠ (v713 : Value).ownBlock ∧ some k_ ≠ (v716 : Value).ownBlock ∧ some k_ ≠ (v722 : Value).ownBlock) (.slice Ao15 t695.length co15) t695) ∧ Aside0 (Kd.R k46 46 wc w.heap.size (fun _ => True) v700 t698) ∧ Aside0 (Kd.R (Kd.int .i64) 3 wc w.heap.size (fun k_ => some k_ ≠ (v716 : Value).ownBlock) v713 t712) ∧ Aside0 (Kd.R (Kd.int .i64) 3 wc w.heap.size (fun k_ => some k_ ≠ (v713 : Value).ownBlock) v716 t715) ∧ Aside0 (Kd.N (Kd.slice 3 (Kd.int .i64)) 30 wc w.heap.size (fun k_ => some k_ ≠ ((.slice Ao15 t695.length co15) : Value).ownBlock ∧ some k_ ≠ (v700 : Value).ownBlock ∧ some k_ ≠ (v713 : Value).ownBlock ∧ some k_ ≠ (v716 : Value).ownBlock) v722 t721) ∧ Aside0 (Below w.heap.size w wc))
  case first => as_aux_lemma =>
   have H := HC13.out
   clear HC13
   by_cases c26 : (t699 != t703) = true
   ·rw [if_pos c26] at H
    exact absurd H (laws_FnCovers_no_j0 _ _ _ _ _ _ _ _ _ _ _)
   ·rw [if_neg c26] at H
    have c26b0 : (t699 != t703) = false := by simpa using c26
    (try (have c26b1 : decide (t699 = t703) = true := by simpa using c26))
    (try (have c26b2 : (t699 == t703) = true := by simpa using c26))
    clear c26
    (first | rw [c26b0] | (simp only [i64_w, i32_w]; rw [c26b0]) | skip)
    obtain ⟨t724, A27, H⟩ := bs H
    by_cases c28 : t724 = true
    ·subst c28
     rw [if_pos rfl] at H
     obtain ⟨t725, A29, H⟩ := bs H
     obtain ⟨t728, A30, H⟩ := bs H
     by_cases c31 : t728 = true
     ·subst c31
      rw [if_pos rfl] at H
      obtain ⟨t729, A32, H⟩ := bs H
      obtain ⟨t732, A33, H⟩ := bs H
      by_cases c34 : t732 = true
      ·subst c34
       rw [if_pos rfl] at H
       obtain ⟨t733, A35, H⟩ := bs H
       by_cases c36 : t720 = t733
       ·rw [if_pos c36] at H
        have c36b0 : (t720 == t733) = true := beq_iff_eq.mpr c36
        have c36b1 : (t720 != t733) = false := bne_eq_false_iff_eq.mpr c36
        clear c36
        obtain ⟨t734, A37, H⟩ := bs H
        obtain ⟨t735, A38, H⟩ := bs H
        by_cases c39 : t734 = t735
        ·rw [if_pos c39] at H
         have c39b0 : (t734 == t735) = true := beq_iff_eq.mpr c39
         have c39b1 : (t734 != t735) = false := bne_eq_false_iff_eq.mpr c39
         clear c39
         obtain ⟨t736, A40, H⟩ := bs H
         obtain ⟨t739, A41, H⟩ := bs H
         by_cases c42 : t739 = true
         ·subst c42
          rw [if_pos rfl] at H
          obtain ⟨t740, A43, H⟩ := bs H
          obtain ⟨t741, A44, H⟩ := bs H
          by_cases c45 : (t740 != t741) = true
          ·rw [if_pos c45] at H
           exact absurd H (laws_FnCovers_no_j0 _ _ _ _ _ _ _ _ _ _ _)
          ·rw [if_neg c45] at H
           have c45b0 : (t740 != t741) = false := by simpa using c45
           (try (have c45b1 : decide (t740 = t741) = true := by simpa using c45))
           (try (have c45b2 : (t740 == t741) = true := by simpa using c45))
           clear c45
           obtain ⟨t742, A62, H⟩ := bs H
           obtain ⟨t743, A63, H⟩ := bs H
           have H' := Aside0.mk H
           obtain ⟨Ao64, co64, eo64⟩ := Kd.R_slice HO701.out
           subst eo64
           obtain ⟨Ao65, co65, eo65⟩ := Kd.R_slice HO705.out
           subst eo65
           go_wp2_with (first | (go_at_call 14; (with_reducible refine (laws_sameSurfaces.calls k _ _ t698 _ _ t702 true _ ?side1 ?side2 ?side3 ?side4 A27.out).mono ?_); (case side1 => exact C_l ((Kd.R_reads' HO701.out).2.2)); (case side2 => exact (Kd.R_reads' HO701.out).2.1); (case side3 => exact C_l ((Kd.R_reads' HO705.out).2.2)); (case side4 => exact (Kd.R_reads' HO705.out).2.1); rintro e w' ⟨rfl, ⟨nd, rfl⟩⟩) | (go_at_call 16; (with_reducible refine (spec_ActWord.calls k _ _ t706 _ _ t709 t725 _ ?side1 ?side2 ?side3 ?side4 A29.out).mono ?_); (case side1 => exact C_l ((Kd.N_reads' HO708.out).2.2)); (case side2 => exact (Kd.N_reads' HO708.out).2.1); (case side3 => exact C_l ((Kd.R_reads' HO711.out).2.2)); (case side4 => exact (Kd.R_reads' HO711.out).2.1); rintro e w66 ⟨v726, rfl, ho0, hb⟩; replace HO697 := Aside0.mk (Kd.N_elder' (N_l HO697.out) (Kd.R_base ho0) hb); replace HO701 := Aside0.mk (rB HO701.out hb); replace HO705 := Aside0.mk (rB HO705.out hb); replace HO708 := Aside0.mk (Kd.N_elder' (N_l HO708.out) (Kd.R_base ho0) hb); replace HO723 := Aside0.mk (Kd.N_elder' (N_l HO723.out) (Kd.R_base ho0) hb); have HO727 := Aside0.mk (Kd.R_lower (Kd.R_new' (Kd.R_new' (Kd.R_new' ho0 (Kd.R_lt (R_l HO711.out))) (Kd.R_lt (R_l HO714.out))) (Kd.R_lt (R_l HO717.out))) (below_size tb)); replace HO711 := Aside0.mk (Kd.R_elder' (R_l HO711.out) (Kd.R_base ho0) hb); replace HO714 := Aside0.mk (Kd.R_elder' (R_l HO714.out) (Kd.R_base ho0) hb); replace HO717 := Aside0.mk (Kd.R_elder' (R_l HO717.out) (Kd.R_base ho0) hb); replace HB := Aside0.mk (below_step tb hb); obtain ⟨Ao67, co67, eo67⟩ := Kd.R_slice HO714.out; subst eo67; obtain ⟨Ao68, co68, eo68⟩ := Kd.R_slice HO727.out; subst eo68) | (go_at_call 15; (with_reducible refine (laws_sameInts.calls k _ _ t712 _ _ t725 true _ ?side1 ?side2 ?side3 ?side4 A30.out).mono ?_); (case side1 => exact C_l ((Kd.R_reads' HO714.out).2.2)); (case side2 => exact (Kd.R_reads' HO714.out).2.1); (case side3 => exact C_l ((Kd.R_reads' HO727.out).2.2)); (case side4 => exact (Kd.R_reads' HO727.out).2.1); rintro e w' ⟨rfl, ⟨nd, rfl⟩⟩) | (go_at_call 17; (with_reducible refine (spec_LiftLengths.calls k _ _ t706 _ _ t709 t729 _ ?side1 ?side2 ?side3 ?side4 A32.out).mono ?_); (case side1 => exact C_l ((Kd.N_reads' HO708.out).2.2)); (case side2 => exact (Kd.N_reads' HO708.out).2.1); (case side3 => exact C_l ((Kd.R_reads' HO711.out).2.2)); (case side4 => exact (Kd.R_reads' HO711.out).2.1); rintro e w69 ⟨v730, rfl, ho0, hb⟩; replace HO697 := Aside0.mk (Kd.N_elder' (N_l HO697.out) (Kd.R_base ho0) hb); replace HO701 := Aside0.mk (rB HO701.out hb); replace HO705 := Aside0.mk (rB HO705.out hb); replace HO708 := Aside0.mk (Kd.N_elder' (N_l HO708.out) (Kd.R_base ho0) hb); replace HO723 := Aside0.mk (Kd.N_elder' (N_l HO723.out) (Kd.R_base ho0) hb); have HO731 := Aside0.mk (Kd.R_lower (Kd.R_new' (Kd.R_new' (Kd.R_new' (Kd.R_new' ho0 (Kd.R_lt (R_l HO711.out))) (Kd.R_lt (R_l HO714.out))) (Kd.R_lt (R_l HO717.out))) (Kd.R_lt (R_l HO727.out))) (below_size tb)); replace HO711 := Aside0.mk (Kd.R_elder' (R_l HO711.out) (Kd.R_base ho0) hb); replace HO714 := Aside0.mk (Kd.R_elder' (R_l HO714.out) (Kd.R_base ho0) hb); replace HO717 := Aside0.mk (Kd.R_elder' (R_l HO717.out) (Kd.R_base ho0) hb); replace HO727 := Aside0.mk (Kd.R_elder' (R_l HO727.out) (Kd.R_base ho0) hb); replace HB := Aside0.mk (below_step tb hb); obtain ⟨Ao70, co70, eo70⟩ := Kd.R_slice HO717.out; subst eo70; obtain ⟨Ao71, co71, eo71⟩ := Kd.R_slice HO731.out; subst eo71) | (go_at_call 15; (with_reducible refine (laws_sameInts.calls k _ _ t715 _ _ t729 true _ ?side1 ?side2 ?side3 ?side4 A33.out).mono ?_); (case side1 => exact C_l ((Kd.R_reads' HO717.out).2.2)); (case side2 => exact (Kd.R_reads' HO717.out).2.1); (case side3 => exact C_l ((Kd.R_reads' HO731.out).2.2)); (case side4 => exact (Kd.R_reads' HO731.out).2.1); rintro e w' ⟨rfl, ⟨nd, rfl⟩⟩) | (go_at_call 18; (with_reducible refine (spec_CountActions.calls k t718 t719 t733 _ A35.out).mono ?_); rintro e w72 ⟨rfl, hb⟩; replace HO697 := Aside0.mk (nB HO697.out hb); replace HO701 := Aside0.mk (rB HO701.out hb); replace HO705 := Aside0.mk (rB HO705.out hb); replace HO708 := Aside0.mk (nB HO708.out hb); replace HO711 := Aside0.mk (rB HO711.out hb); replace HO714 := Aside0.mk (rB HO714.out hb); replace HO717 := Aside0.mk (rB HO717.out hb); replace HO723 := Aside0.mk (nB HO723.out hb); replace HO727 := Aside0.mk (rB HO727.out hb); replace HO731 := Aside0.mk (rB HO731.out hb); replace HB := Aside0.mk (below_step tb hb)) | (go_at_call 19; (with_reducible refine (impl_CountCovers.calls k t718 t719 t734 _ A37.out).mono ?_); rintro e w73 ⟨rfl, hb⟩; replace HO697 := Aside0.mk (nB HO697.out hb); replace HO701 := Aside0.mk (rB HO701.out hb); replace HO705 := Aside0.mk (rB HO705.out hb); replace HO708 := Aside0.mk (nB HO708.out hb); replace HO711 := Aside0.mk (rB HO711.out hb); replace HO714 := Aside0.mk (rB HO714.out hb); replace HO717 := Aside0.mk (rB HO717.out hb); replace HO723 := Aside0.mk (nB HO723.out hb); replace HO727 := Aside0.mk (rB HO727.out hb); replace HO731 := Aside0.mk (rB HO731.out hb); replace HB := Aside0.mk (below_step tb hb)) | (go_at_call 20; (with_reducible refine (spec_CountCovers.calls k t718 t719 t735 _ A38.out).mono ?_); rintro e w74 ⟨rfl, hb⟩; replace HO697 := Aside0.mk (nB HO697.out hb); replace HO701 := Aside0.mk (rB HO701.out hb); replace HO705 := Aside0.mk (rB HO705.out hb); replace HO708 := Aside0.mk (nB HO708.out hb); replace HO711 := Aside0.mk (rB HO711.out hb); replace HO714 := Aside0.mk (rB HO714.out hb); replace HO717 := Aside0.mk (rB HO717.out hb); replace HO723 := Aside0.mk (nB HO723.out hb); replace HO727 := Aside0.mk (rB HO727.out hb); replace HO731 := Aside0.mk (rB HO731.out hb); replace HB := Aside0.mk (below_step tb hb)) | (go_at_call 22; (with_reducible refine (spec_SheetParts.calls k _ _ t695 t736 _ ?side1 ?side2 A40.out).mono ?_); (case side1 => exact C_l ((Kd.N_reads' HO697.out).2.2)); (case side2 => exact (Kd.N_reads' HO697.out).2.1); rintro e w75 ⟨v737, rfl, ho0, hb⟩; have HO738 := Aside0.mk (Kd.N_lower (Kd.N_mono (ok' := fun k_ => some k_ ≠ (.slice Ao15 t695.length co15 : Value).ownBlock ∧ some k_ ≠ (.slice Ao64 t698.length co64 : Value).ownBlock ∧ some k_ ≠ (.slice Ao65 t702.length co65 : Value).ownBlock ∧ some k_ ≠ (.slice Ao19 t706.length co19 : Value).ownBlock ∧ some k_ ≠ (.slice Ao20 t709.length co20 : Value).ownBlock ∧ some k_ ≠ (.slice Ao67 t712.length co67 : Value).ownBlock ∧ some k_ ≠ (.slice Ao70 t715.length co70 : Value).ownBlock ∧ some k_ ≠ (v722 : Value).ownBlock ∧ some k_ ≠ (.slice Ao68 t725.length co68 : Value).ownBlock ∧ some k_ ≠ (.slice Ao71 t729.length co71 : Value).ownBlock) (Kd.S_N (Kd.S_bound ho0)) (fun k_ hk_ => ⟨(Kd.fresh' (Kd.N_lt (N_l HO697.out)) k_ hk_.2.1), (Kd.fresh' (Kd.R_lt (R_l HO701.out)) k_ hk_.2.1), (Kd.fresh' (Kd.R_lt (R_l HO705.out)) k_ hk_.2.1), (Kd.fresh' (Kd.N_lt (N_l HO708.out)) k_ hk_.2.1), (Kd.fresh' (Kd.R_lt (R_l HO711.out)) k_ hk_.2.1), (Kd.fresh' (Kd.R_lt (R_l HO714.out)) k_ hk_.2.1), (Kd.fresh' (Kd.R_lt (R_l HO717.out)) k_ hk_.2.1), (Kd.fresh' (Kd.N_lt (N_l HO723.out)) k_ hk_.2.1), (Kd.fresh' (Kd.R_lt (R_l HO727.out)) k_ hk_.2.1), (Kd.fresh' (Kd.R_lt (R_l HO731.out)) k_ hk_.2.1)⟩)) (below_size tb)); replace HO697 := Aside0.mk (Kd.N_elder' (N_l HO697.out) (Kd.S_base ho0) hb); replace HO701 := Aside0.mk (rB HO701.out hb); replace HO705 := Aside0.mk (rB HO705.out hb); replace HO708 := Aside0.mk (Kd.N_elder' (N_l HO708.out) (Kd.S_base ho0) hb); replace HO711 := Aside0.mk (rB HO711.out hb); replace HO714 := Aside0.mk (rB HO714.out hb); replace HO717 := Aside0.mk (rB HO717.out hb); replace HO723 := Aside0.mk (Kd.N_elder' (N_l HO723.out) (Kd.S_base ho0) hb); replace HO727 := Aside0.mk (rB HO727.out hb); replace HO731 := Aside0.mk (rB HO731.out hb); replace HB := Aside0.mk (below_step tb hb); obtain ⟨Ao76, co76, eo76⟩ := Kd.N_slice HO723.out; subst eo76; obtain ⟨Ao77, co77, eo77⟩ := Kd.N_slice HO738.out; subst eo77) | (go_at_call 21; (with_reducible refine (laws_sameLists.calls k _ _ t721 _ _ t736 true _ ?side1 ?side2 ?side3 ?side4 A41.out).mono ?_); (case side1 => exact C_l ((Kd.N_reads' HO723.out).2.2)); (case side2 => exact (Kd.N_reads' HO723.out).2.1); (case side3 => exact C_l ((Kd.N_reads' HO738.out).2.2)); (case side4 => exact (Kd.N_reads' HO738.out).2.1); rintro e w' ⟨rfl, ⟨nd, rfl⟩⟩) | (go_at_call 23; (with_reducible refine (impl_IsAction.calls k t694 _ _ t695 t740 _ ?side1 ?side2 A43.out).mono ?_); (case side1 => exact C_l ((Kd.N_reads' HO697.out).2.2)); (case side2 => exact (Kd.N_reads' HO697.out).2.1); rintro e w78 ⟨rfl, hb⟩; replace HO697 := Aside0.mk (nB HO697.out hb); replace HO701 := Aside0.mk (rB HO701.out hb); replace HO705 := Aside0.mk (rB HO705.out hb); replace HO708 := Aside0.mk (nB HO708.out hb); replace HO711 := Aside0.mk (rB HO711.out hb); replace HO714 := Aside0.mk (rB HO714.out hb); replace HO717 := Aside0.mk (rB HO717.out hb); replace HO723 := Aside0.mk (nB HO723.out hb); replace HO727 := Aside0.mk (rB HO727.out hb); replace HO731 := Aside0.mk (rB HO731.out hb); replace HO738 := Aside0.mk (nB HO738.out hb); replace HB := Aside0.mk (below_step tb hb)) | (go_at_call 24; (with_reducible refine (spec_IsAction.calls k t694 _ _ t695 t741 _ ?side1 ?side2 A44.out).mono ?_); (case side1 => exact C_l ((Kd.N_reads' HO697.out).2.2)); (case side2 => exact (Kd.N_reads' HO697.out).2.1); rintro e w79 ⟨rfl, hb⟩; replace HO697 := Aside0.mk (nB HO697.out hb); replace HO701 := Aside0.mk (rB HO701.out hb); replace HO705 := Aside0.mk (rB HO705.out hb); replace HO708 := Aside0.mk (nB HO708.out hb); replace HO711 := Aside0.mk (rB HO711.out hb); replace HO714 := Aside0.mk (rB HO714.out hb); replace HO717 := Aside0.mk (rB HO717.out hb); replace HO723 := Aside0.mk (nB HO723.out hb); replace HO727 := Aside0.mk (rB HO727.out hb); replace HO731 := Aside0.mk (rB HO731.out hb); replace HO738 := Aside0.mk (nB HO738.out hb); replace HB := Aside0.mk (below_step tb hb)) | (go_at_call 25; (with_reducible refine (impl_SheetSymmetries.calls k _ _ t695 t742 _ ?side1 ?side2 A62.out).mono ?_); (case side1 => exact C_l ((Kd.N_reads' HO697.out).2.2)); (case side2 => exact (Kd.N_reads' HO697.out).2.1); rintro e w80 ⟨rfl, hb⟩; replace HO697 := Aside0.mk (nB HO697.out hb); replace HO701 := Aside0.mk (rB HO701.out hb); replace HO705 := Aside0.mk (rB HO705.out hb); replace HO708 := Aside0.mk (nB HO708.out hb); replace HO711 := Aside0.mk (rB HO711.out hb); replace HO714 := Aside0.mk (rB HO714.out hb); replace HO717 := Aside0.mk (rB HO717.out hb); replace HO723 := Aside0.mk (nB HO723.out hb); replace HO727 := Aside0.mk (rB HO727.out hb); replace HO731 := Aside0.mk (rB HO731.out hb); replace HO738 := Aside0.mk (nB HO738.out hb); replace HB := Aside0.mk (below_step tb hb)) | (go_at_call 26; (with_reducible refine (spec_SheetSymmetries.calls k _ _ t695 t743 _ ?side1 ?side2 A63.out).mono ?_); (case side1 => exact C_l ((Kd.N_reads' HO697.out).2.2)); (case side2 => exact (Kd.N_reads' HO697.out).2.1); rintro e w81 ⟨rfl, hb⟩; replace HO697 := Aside0.mk (nB HO697.out hb); replace HO701 := Aside0.mk (rB HO701.out hb); replace HO705 := Aside0.mk (rB HO705.out hb); replace HO708 := Aside0.mk (nB HO708.out hb); replace HO711 := Aside0.mk (rB HO711.out hb); replace HO714 := Aside0.mk (rB HO714.out hb); replace HO717 := Aside0.mk (rB HO717.out hb); replace HO723 := Aside0.mk (nB HO723.out hb); replace HO727 := Aside0.mk (rB HO727.out hb); replace HO731 := Aside0.mk (rB HO731.out hb); replace HO738 := Aside0.mk (nB HO738.out hb); replace HB := Aside0.mk (below_step tb hb)))
           go_meet
           case rel => exact ⟨_, ((t742 != t743)), rS, H', ⟨by first | omega | exact Nat.le_refl _⟩, ⟨N_l (Kd.N_mono HO697.out (fun _ hk => ⟨hk.1.1.1.1.1.1.1.1.1.2, ⟨hk.1.1.1.1.1.2, ⟨hk.1.1.1.1.2, hk.1.1.1.2⟩⟩⟩))⟩, ⟨R_l (Kd.R_mono HO701.out (fun _ hk => trivial))⟩, ⟨R_l (Kd.R_mono HO714.out (fun _ hk => hk.1.1.2))⟩, ⟨R_l (Kd.R_mono HO717.out (fun _ hk => hk.1.1.2))⟩, ⟨N_l (Kd.N_mono HO723.out (fun _ hk => ⟨hk.1.1.1.1, ⟨hk.1.1.1.2.1, ⟨hk.1.1.1.2.2.2.2.2.1, hk.1.1.1.2.2.2.2.2.2⟩⟩⟩))⟩, ⟨tb⟩⟩
         ·replace c42 := Bool.eq_false_iff.mpr c42
          subst c42
          rw [if_neg (show ¬ (false = true) by decide)] at H
          exact absurd H (laws_FnCovers_no_j0 _ _ _ _ _ _ _ _ _ _ _)
        ·rw [if_neg c39] at H
         exact absurd H (laws_FnCovers_no_j0 _ _ _ _ _ _ _ _ _ _ _)
       ·rw [if_neg c36] at H
        exact absurd H (laws_FnCovers_no_j0 _ _ _ _ _ _ _ _ _ _ _)
      ·replace c34 := Bool.eq_false_iff.mpr c34
       subst c34
       rw [if_neg (show ¬ (false = true) by decide)] at H
       exact absurd H (laws_FnCovers_no_j0 _ _ _ _ _ _ _ _ _ _ _)
     ·replace c31 := Bool.eq_false_iff.mpr c31
      subst c31
      rw [if_neg (show ¬ (false = true) by decide)] at H
      exact absurd H (laws_FnCovers_no_j0 _ _ _ _ _ _ _ _ _ _ _)
    ·replace c28 := Bool.eq_false_iff.mpr c28
     subst c28
     rw [if_neg (show ¬ (false = true) by decide)] at H
     exact absurd H (laws_FnCovers_no_j0 _ _ _ _ _ _ _ _ _ _ _)
  case rest => as_aux_lemma =>
   clear HC13
   try clear c1
   try clear c2
   try clear p2
   try clear c3
   try clear c4
   try clear c5
   try clear c6
   try clear c7
   try clear c8
   try clear c9
   try clear c10
   try clear c11
   try clear c12
   try clear c13
   try clear c26
   try clear c26b0
   try clear c26b1
   try clear c26b2
   try clear c28
   try clear c31
   try clear c34
   try clear c36
   try clear c36b0
   try clear c36b1
   try clear c39
   try clear c39b0
   try clear c39b1
   try clear c42
   try clear c45
   try clear c45b0
   try clear c45b1
   try clear c45b2
   obtain ⟨kq, x124_12, rfl, HA, HJ12, HO_4, HO_5, HO_11, HO_12, HO_16, HB⟩ := hcut
   cases kq with
   | zero => exact absurd HA.out (by simp [laws_FnCovers.j0])
   | succ kj12 =>
    have H := HA.out
    clear HA
    simp only [laws_FnCovers.j0] at H
    by_cases c131 : x124_12 = true
    ·subst c131
     rw [if_pos rfl] at H
     exact absurd H (by simp)
    ·replace c131 := Bool.eq_false_iff.mpr c131
     subst c131
     rw [if_neg (show ¬ (false = true) by decide)] at H
     have HC132 := Aside0.mk H
     go_upto_region 14 with (fail)
     go_cut [136] (fun v136 wc => ∃ (kq : Nat) (x136_131 : Bool), v136 = .bool x136_131 ∧ Aside0 (laws_FnCovers.j1 kq t694 t695 t698 t699 t718 t719 t720 t721 x136_131 = some true) ∧ Aside0 (kq ≤ kj12) ∧ Aside0 (Kd.N (Kd.slice 3 (Kd.int .i64)) 30 wc w.heap.size (fun k_ => some k_ ≠ (v700 : Value).ownBlock ∧ some k_ ≠ (v722 : Value).ownBlock) (.slice Ao15 t695.length co15) t695) ∧ Aside0 (Kd.R k46 46 wc w.heap.size (fun _ => True) v700 t698) ∧ Aside0 (Kd.N (Kd.slice 3 (Kd.int .i64)) 30 wc w.heap.size (fun k_ => some k_ ≠ ((.slice Ao15 t695.length co15) : Value).ownBlock ∧ some k_ ≠ (v700 : Value).ownBlock) v722 t721) ∧ Aside0 (Below w.heap.size w wc))
     case first => as_aux_lemma =>
      have H := HC132.out
      clear HC132
      obtain ⟨t744, A133, H⟩ := bs H
      by_cases c134 : t744 = (t712.length : Int)
      ·rw [if_pos c134] at H
       have c134b0 : (t744 == (t712.length : Int)) = true := beq_iff_eq.mpr c134
       have c134b1 : (t744 != (t712.length : Int)) = false := bne_eq_false_iff_eq.mpr c134
       clear c134
       (first | rw [c134b0] | (simp only [i64_w, i32_w]; rw [c134b0]) | skip)
       obtain ⟨t745, A135, H⟩ := bs H
       have H' := Aside0.mk H
       obtain ⟨Ao136, co136, eo136⟩ := Kd.R_slice HO_12.out
       subst eo136
       go_wp2_with (first | ((with_reducible refine gate_callee (f := 27) rfl ?_); refine goesL_ (some 126) rfl rfl Try.func27 (by kernel_rfl) rfl #[.slice Ao136 t715.length co136] rfl mp_ ?_; (with_reducible refine (laws_total.calls kj12 _ _ t715 t744 _ ?side1 ?side2 A133.out).mono ?_); (case side1 => exact C_l ((Kd.R_reads' HO_12.out).2.2)); (case side2 => exact (Kd.R_reads' HO_12.out).2.1); rintro e w' ⟨rfl, ⟨nd, rfl⟩⟩; refine ⟨_, rfl, ?_⟩; obtain ⟨Ao137, co137, eo137⟩ := Kd.R_slice HO_11.out; subst eo137) | (go_at_call 23; (with_reducible refine (impl_IsAction.calls kj12 t694 _ _ t695 t745 _ ?side1 ?side2 A135.out).mono ?_); (case side1 => exact C_l ((Kd.N_reads' HO_4.out).2.2)); (case side2 => exact (Kd.N_reads' HO_4.out).2.1); rintro e w138 ⟨rfl, hb⟩; replace HO_4 := Aside0.mk (nB HO_4.out hb); replace HO_5 := Aside0.mk (rB HO_5.out hb); replace HO_11 := Aside0.mk (rB HO_11.out hb); replace HO_12 := Aside0.mk (rB HO_12.out hb); replace HO_16 := Aside0.mk (nB HO_16.out hb); replace HB := Aside0.mk (below_step tb hb)))
       go_meet
       case rel => exact ⟨_, ((t699 != t745)), rS, H', ⟨by have := HJ12.out; first | omega | exact Nat.le_refl _⟩, ⟨N_l (Kd.N_mono HO_4.out (fun _ hk => ⟨hk.1, hk.2.2.2⟩))⟩, ⟨R_l HO_5.out⟩, ⟨N_l (Kd.N_mono HO_16.out (fun _ hk => ⟨hk.1, hk.2.1⟩))⟩, ⟨tb⟩⟩
      ·rw [if_neg c134] at H
       exact absurd H (laws_FnCovers_no_j1 _ _ _ _ _ _ _ _ _)
     case rest => as_aux_lemma =>
      clear HC132
      try clear c1
      try clear c2
      try clear p2
      try clear c3
      try clear c4
      try clear c5
      try clear c6
      try clear c7
      try clear c8
      try clear c9
      try clear c10
      try clear c11
      try clear c12
      try clear c13
      try clear c26
      try clear c26b0
      try clear c26b1
      try clear c26b2
      try clear c27
      try clear c28
      try clear c31
      try clear c34
      try clear c36
      try clear c36b0
      try clear c36b1
      try clear c39
      try clear c39b0
      try clear c39b1
      try clear c42
      try clear c45
      try clear c45b0
      try clear c45b1
      try clear c45b2
      try clear c131
      try clear c134
      try clear c134b0
      try clear c134b1
      try clear p2
      obtain ⟨kq, x136_131, rfl, HA, HJ131, HO_4, HO_5, HO_16, HB⟩ := hcut
      cases kq with
      | zero => exact absurd HA.out (by simp [laws_FnCovers.j1])
      | succ kj131 =>
       have H := HA.out
       clear HA
       simp only [laws_FnCovers.j1] at H
       by_cases c141 : x136_131 = true
       ·subst c141
        rw [if_pos rfl] at H
        exact absurd H (by simp)
       ·replace c141 := Bool.eq_false_iff.mpr c141
        subst c141
        rw [if_neg (show ¬ (false = true) by decide)] at H
        generalize hy746 : (([1, 4, 36] : List Int) : List Int) = y746 at H
        have Ny746 := Aside0.mk hy746.symm; clear hy746
        generalize hy749 : (([1, 4, 18] : List Int) : List Int) = y749 at H
        have Ny749 := Aside0.mk hy749.symm; clear hy749
        generalize hy752 : (([1, 16, 486] : List Int) : List Int) = y752 at H
        have Ny752 := Aside0.mk hy752.symm; clear hy752
        obtain ⟨y755, Ny755, H⟩ := bn H
        have HC142 := Aside0.mk H
        clear H
        go_upto_region 17 with (first | ((with_reducible refine gate_dst (N := 137) rfl ?_); (try (refine gate_guard (by rfl) ?_; dsimp only)); refine Kd.R_lit (Kd.int .i64) _ 3 ?hg (N := 137) ?hd (xs := ([1, 4, 36] : List Int)) (inner := [.int .i64 1, .int .i64 4, .int .i64 36]) (ok := fun _ => True) (okp := fun _ => True) ?hr ?hp (fun _ hk => hk) trivial (Below.refl _ _) (Nat.le_refl _) (by simp) ?_; (case hd => rfl); (case hg => rfl); (case hr => exact gS); (case hp => exact (Reps.one (show Kd.M (Kd.int .i64) _ _ _ 1 [.int .i64 1] from rfl) (Reps.one (show Kd.M (Kd.int .i64) _ _ _ 4 [.int .i64 4] from rfl) (Reps.one (show Kd.M (Kd.int .i64) _ _ _ 36 [.int .i64 36] from rfl) (Reps.none _ _))))); intro v747 w143 ho144 hb hg_ hnew_; clear hg_ hnew_; (first | rw [← Ny746.out] at ho144 | (simp only [Int.reduceToNat] at ho144; rw [← Ny746.out] at ho144)); replace HO_4 := Aside0.mk (Kd.N_elder' (N_l HO_4.out) (Kd.R_base ho144) hb); replace HO_5 := Aside0.mk (rB HO_5.out hb); replace HO_16 := Aside0.mk (Kd.N_elder' (N_l HO_16.out) (Kd.R_base ho144) hb); have HO748 := Aside0.mk (Kd.R_lower ho144 (below_size tb)); replace HB := Aside0.mk (below_step tb hb); clear hb ho144) | ((with_reducible refine gate_dst (N := 138) rfl ?_); (try (refine gate_guard (by rfl) ?_; dsimp only)); refine Kd.R_lit (Kd.int .i64) _ 3 ?hg (N := 138) ?hd (xs := ([1, 4, 18] : List Int)) (inner := [.int .i64 1, .int .i64 4, .int .i64 18]) (ok := fun _ => True) (okp := fun _ => True) ?hr ?hp (fun _ hk => hk) trivial (Below.refl _ _) (Nat.le_refl _) (by simp) ?_; (case hd => rfl); (case hg => rfl); (case hr => exact gS); (case hp => exact (Reps.one (show Kd.M (Kd.int .i64) _ _ _ 1 [.int .i64 1] from rfl) (Reps.one (show Kd.M (Kd.int .i64) _ _ _ 4 [.int .i64 4] from rfl) (Reps.one (show Kd.M (Kd.int .i64) _ _ _ 18 [.int .i64 18] from rfl) (Reps.none _ _))))); intro v750 w145 ho146 hb hg_ hnew_; clear hg_ hnew_; (first | rw [← Ny749.out] at ho146 | (simp only [Int.reduceToNat] at ho146; rw [← Ny749.out] at ho146)); replace HO_4 := Aside0.mk (Kd.N_elder' (N_l HO_4.out) (Kd.R_base ho146) hb); replace HO_5 := Aside0.mk (rB HO_5.out hb); replace HO_16 := Aside0.mk (Kd.N_elder' (N_l HO_16.out) (Kd.R_base ho146) hb); have HO751 := Aside0.mk (Kd.R_lower (Kd.R_new' ho146 (Kd.R_lt (R_l HO748.out))) (below_size tb)); replace HO748 := Aside0.mk (Kd.R_elder' (R_l HO748.out) (Kd.R_base ho146) hb); replace HB := Aside0.mk (below_step tb hb); clear hb ho146) | ((with_reducible refine gate_dst (N := 139) rfl ?_); (try (refine gate_guard (by rfl) ?_; dsimp only)); refine Kd.R_lit (Kd.int .i64) _ 3 ?hg (N := 139) ?hd (xs := ([1, 16, 486] : List Int)) (inner := [.int .i64 1, .int .i64 16, .int .i64 486]) (ok := fun _ => True) (okp := fun _ => True) ?hr ?hp (fun _ hk => hk) trivial (Below.refl _ _) (Nat.le_refl _) (by simp) ?_; (case hd => rfl); (case hg => rfl); (case hr => exact gS); (case hp => exact (Reps.one (show Kd.M (Kd.int .i64) _ _ _ 1 [.int .i64 1] from rfl) (Reps.one (show Kd.M (Kd.int .i64) _ _ _ 16 [.int .i64 16] from rfl) (Reps.one (show Kd.M (Kd.int .i64) _ _ _ 486 [.int .i64 486] from rfl) (Reps.none _ _))))); intro v753 w147 ho148 hb hg_ hnew_; clear hg_ hnew_; (first | rw [← Ny752.out] at ho148 | (simp only [Int.reduceToNat] at ho148; rw [← Ny752.out] at ho148)); replace HO_4 := Aside0.mk (Kd.N_elder' (N_l HO_4.out) (Kd.R_base ho148) hb); replace HO_5 := Aside0.mk (rB HO_5.out hb); replace HO_16 := Aside0.mk (Kd.N_elder' (N_l HO_16.out) (Kd.R_base ho148) hb); have HO754 := Aside0.mk (Kd.R_lower (Kd.R_new' (Kd.R_new' ho148 (Kd.R_lt (R_l HO748.out))) (Kd.R_lt (R_l HO751.out))) (below_size tb)); replace HO748 := Aside0.mk (Kd.R_elder' (R_l HO748.out) (Kd.R_base ho148) hb); replace HO751 := Aside0.mk (Kd.R_elder' (R_l HO751.out) (Kd.R_base ho148) hb); replace HB := Aside0.mk (below_step tb hb); clear hb ho148; obtain ⟨Ao149, co149, eo149⟩ := Kd.R_slice HO748.out; subst eo149; obtain ⟨Ao150, co150, eo150⟩ := Kd.R_slice HO751.out; subst eo150; obtain ⟨Ao151, co151, eo151⟩ := Kd.R_slice HO754.out; subst eo151) | ((with_reducible refine gate_dst (N := 140) rfl ?_); (try (refine gate_guard (by rfl) ?_; dsimp only)); refine Kd.N_lit (Kd.slice 3 (Kd.int .i64)) _ 30 ?hg (N' := 140) ?hd (xs := ([y746, y749, y752] : List (List Int))) (inner := [.slice Ao149 y746.length co149, .slice Ao150 y749.length co150, .slice Ao151 y752.length co151]) (ok := (fun k_ => some k_ ≠ (.slice Ao15 t695.length co15 : Value).ownBlock ∧ some k_ ≠ (v700 : Value).ownBlock ∧ some k_ ≠ (v722 : Value).ownBlock)) (okp := (fun k_ => some k_ ≠ (.slice Ao15 t695.length co15 : Value).ownBlock ∧ some k_ ≠ (v700 : Value).ownBlock ∧ some k_ ≠ (v722 : Value).ownBlock)) ?hr ?hp (fun _ hk => hk) ((show ∀ k_, w147.heap.size ≤ k_ → (fun k_ => some k_ ≠ (.slice Ao15 t695.length co15 : Value).ownBlock ∧ some k_ ≠ (v700 : Value).ownBlock ∧ some k_ ≠ (v722 : Value).ownBlock) k_ from fun k_ hk => ⟨Kd.fresh' (Kd.N_lt (N_l HO_4.out)) k_ hk, Kd.fresh' (Kd.R_lt (R_l HO_5.out)) k_ hk, Kd.fresh' (Kd.N_lt (N_l HO_16.out)) k_ hk⟩) _ (Nat.le_refl _)) (Below.refl _ _) (Nat.le_refl _) (by simp) ?_; (case hd => rfl); (case hg => rfl); (case hr => exact gS); (case hp => exact (Reps.one (show Kd.FK (Kd.slice 3 (Kd.int .i64)) _ _ y746 [.slice Ao149 y746.length co149] from (Kd.FK_slice_mk (Kd.R_reads' (Kd.R_mono (ok' := (fun k_ => some k_ ≠ (.slice Ao15 t695.length co15 : Value).ownBlock ∧ some k_ ≠ (v700 : Value).ownBlock ∧ some k_ ≠ (v722 : Value).ownBlock)) (Kd.R_apart' (Kd.R_apart' (Kd.R_apart' (HO748.out) (Kd.N_typed HO_4.out) (by decide)) (Kd.R_typed HO_5.out) (by decide)) (Kd.N_typed HO_16.out) (by decide)) (fun k_ hk => ⟨hk.1.1.2, ⟨hk.1.2, hk.2⟩⟩))).2.1 (Kd.R_F (Kd.R_mono (ok' := (fun k_ => some k_ ≠ (.slice Ao15 t695.length co15 : Value).ownBlock ∧ some k_ ≠ (v700 : Value).ownBlock ∧ some k_ ≠ (v722 : Value).ownBlock)) (Kd.R_apart' (Kd.R_apart' (Kd.R_apart' (HO748.out) (Kd.N_typed HO_4.out) (by decide)) (Kd.R_typed HO_5.out) (by decide)) (Kd.N_typed HO_16.out) (by decide)) (fun k_ hk => ⟨hk.1.1.2, ⟨hk.1.2, hk.2⟩⟩))))) (Reps.one (show Kd.FK (Kd.slice 3 (Kd.int .i64)) _ _ y749 [.slice Ao150 y749.length co150] from (Kd.FK_slice_mk (Kd.R_reads' (Kd.R_mono (ok' := (fun k_ => some k_ ≠ (.slice Ao15 t695.length co15 : Value).ownBlock ∧ some k_ ≠ (v700 : Value).ownBlock ∧ some k_ ≠ (v722 : Value).ownBlock)) (Kd.R_apart' (Kd.R_apart' (Kd.R_apart' (HO751.out) (Kd.N_typed HO_4.out) (by decide)) (Kd.R_typed HO_5.out) (by decide)) (Kd.N_typed HO_16.out) (by decide)) (fun k_ hk => ⟨hk.1.1.2, ⟨hk.1.2, hk.2⟩⟩))).2.1 (Kd.R_F (Kd.R_mono (ok' := (fun k_ => some k_ ≠ (.slice Ao15 t695.length co15 : Value).ownBlock ∧ some k_ ≠ (v700 : Value).ownBlock ∧ some k_ ≠ (v722 : Value).ownBlock)) (Kd.R_apart' (Kd.R_apart' (Kd.R_apart' (HO751.out) (Kd.N_typed HO_4.out) (by decide)) (Kd.R_typed HO_5.out) (by decide)) (Kd.N_typed HO_16.out) (by decide)) (fun k_ hk => ⟨hk.1.1.2, ⟨hk.1.2, hk.2⟩⟩))))) (Reps.one (show Kd.FK (Kd.slice 3 (Kd.int .i64)) _ _ y752 [.slice Ao151 y752.length co151] from (Kd.FK_slice_mk (Kd.R_reads' (Kd.R_mono (ok' := (fun k_ => some k_ ≠ (.slice Ao15 t695.length co15 : Value).ownBlock ∧ some k_ ≠ (v700 : Value).ownBlock ∧ some k_ ≠ (v722 : Value).ownBlock)) (Kd.R_apart' (Kd.R_apart' (Kd.R_apart' (HO754.out) (Kd.N_typed HO_4.out) (by decide)) (Kd.R_typed HO_5.out) (by decide)) (Kd.N_typed HO_16.out) (by decide)) (fun k_ hk => ⟨hk.1.1.2, ⟨hk.1.2, hk.2⟩⟩))).2.1 (Kd.R_F (Kd.R_mono (ok' := (fun k_ => some k_ ≠ (.slice Ao15 t695.length co15 : Value).ownBlock ∧ some k_ ≠ (v700 : Value).ownBlock ∧ some k_ ≠ (v722 : Value).ownBlock)) (Kd.R_apart' (Kd.R_apart' (Kd.R_apart' (HO754.out) (Kd.N_typed HO_4.out) (by decide)) (Kd.R_typed HO_5.out) (by decide)) (Kd.N_typed HO_16.out) (by decide)) (fun k_ hk => ⟨hk.1.1.2, ⟨hk.1.2, hk.2⟩⟩))))) (Reps.none _ _))))); intro v756 w152 ho153 hb hg_ hnew_; clear hg_ hnew_; (first | rw [← Ny755.out] at ho153 | (simp only [Int.reduceToNat] at ho153; rw [← Ny755.out] at ho153)); replace HO_4 := Aside0.mk (Kd.N_elder' (N_l HO_4.out) (Kd.N_base ho153) hb); replace HO_5 := Aside0.mk (rB HO_5.out hb); replace HO_16 := Aside0.mk (Kd.N_elder' (N_l HO_16.out) (Kd.N_base ho153) hb); have HO757 := Aside0.mk (Kd.N_lower ho153 (below_size tb)); replace HB := Aside0.mk (below_step tb hb); clear HO748 HO751 HO754; clear hb ho153))
        (try simp only [Act.put, List.setIfInBounds_toArray, List.set_cons_zero, List.set_cons_succ])
        go_cut [166] (fun v166 wc => ∃ (kq : Nat) (x166_141 : Bool), v166 = .bool x166_141 ∧ Aside0 (laws_FnCovers.j2 kq t694 t695 t698 t699 t721 x166_141 = some true) ∧ Aside0 (kq ≤ kj131) ∧ Aside0 (Kd.N (Kd.slice 3 (Kd.int .i64)) 30 wc w.heap.size (fun k_ => some k_ ≠ (v700 : Value).ownBlock ∧ some k_ ≠ (v722 : Value).ownBlock) (.slice Ao15 t695.length co15) t695) ∧ Aside0 (Kd.R k46 46 wc w.heap.size (fun _ => True) v700 t698) ∧ Aside0 (Kd.N (Kd.slice 3 (Kd.int .i64)) 30 wc w.heap.size (fun k_ => some k_ ≠ ((.slice Ao15 t695.length co15) : Value).ownBlock ∧ some k_ ≠ (v700 : Value).ownBlock) v722 t721) ∧ Aside0 (Below w.heap.size w wc))
        case first => as_aux_lemma =>
         have H := HC142.out
         clear HC142
         by_cases c154 : t719 ≥ 1
         ·rw [if_pos c154] at H
          have c154b0 : decide (1 ≤ t719) = true := decide_eq_true c154
          clear c154
          (first | rw [c154b0] | (simp only [i64_w, i32_w]; rw [c154b0]) | skip)
          obtain ⟨c155b0, H⟩ | ⟨c155b0, H⟩ := gi H
          ·by_cases c156 : t718 ≥ 0
           ·rw [if_pos c156] at H
            have c156b0 : decide (0 ≤ t718) = true := decide_eq_true c156
            clear c156
            obtain ⟨c157b0, H⟩ | ⟨c157b0, H⟩ := gi H
            ·obtain ⟨c158b0, H⟩ := gdt H
             obtain ⟨c159b0, H⟩ := gdt H
             obtain ⟨ji160, hji160⟩ : ∃ j_ : Int, (wrap64 (t719 - 1)) = j_ := ⟨_, rfl⟩
             replace H : (if 0 ≤ (ji160) then (if (ji160) < ((rd_L2 y755 t718).length : Int) then (laws_FnCovers.j2 kj131 t694 t695 t698 t699 t721 (t720 != (rd (rd_L2 y755 t718) (ji160)))) else (none)) else (none)) = some true := by first | (rw [hji160] at H; exact H) | (simp only [hji160] at H ⊢; exact H)
             have hji160w : (IntKind.i64.wrap (t719 - 1)) = ji160 := (i64_w _).trans hji160
             obtain ⟨c161b0, H⟩ := gdt H
             obtain ⟨c162b0, H⟩ := gdt H
             have H' := Aside0.mk H
             clear H
             obtain ⟨Ao163, co163, eo163⟩ := Kd.N_slice HO757.out
             subst eo163
             have p758 : 0 ≤ (t718 : Int) := dT
             have q758 : t718 < (y755.length : Int) := dT
             obtain ⟨ad758, A758_0, c758_0, e758, hx758_0, hl758_0, hi758_0⟩ := at_L2 (Kd.N_reads' HO757.out).2.2 t718 p758 q758
             cases e758
             obtain ⟨ce758, hce758, hMe758, hcc758⟩ := Kd.N_get HO757.out [] t718 p758 (by first | exact q758 | exact dT | (have e_ := (Kd.N_reads' HO757.out).1; omega))
             obtain ⟨ua758_0, uc758_0, rfl, ul758_0, ge758_0⟩ := Kd.FK_slice_open hMe758
             have hv758_0 := hcc758 0 _ rfl
             rw [Nat.add_zero, show ((Kd.slice 3 (Kd.int .i64))).sz = 1 from rfl, Nat.mul_one] at hv758_0
             replace hv758_0 := Option.some.inj (hv758_0.symm.trans hx758_0)
             injection hv758_0 with hva_ hvn_ hvc_
             rw [hva_] at ge758_0
             rw [hvc_] at ul758_0
             have HL758_0 := Aside0.mk (show Kd.V (Kd.int .i64) 3 _ w.heap.size _ _ (rd_L2 y755 t718) from Kd.V_mk ul758_0 ge758_0)
             clear hva_ hvn_ hvc_ ge758_0 ul758_0
             clear hcc758 hce758
             have HR758_0 := Aside0.mk hi758_0
             have HC758_0 := Aside0.mk hl758_0
             clear hi758_0 hl758_0
             replace p758 := eq_true p758
             replace q758 := eq_true q758
             have p759 : 0 ≤ ((ji160) : Int) := dT
             have q759 : (ji160) < ((rd_L2 y755 t718).length : Int) := dT
             obtain ⟨ad759, e759, hx759_0⟩ := Kd.at_int (by repeat (first | (with_reducible exact HR758_0.out) | (with_reducible refine Kd.C_alloc ?_ _) | (with_reducible refine Kd.C_drewN ?_ _) | (with_reducible refine Kd.C_drew ?_) | exact HR758_0.out)) (ji160) p759 q759
             cases e759
             replace p759 := eq_true p759
             replace q759 := eq_true q759
             go_wp2
             go_meet
             case rel => exact ⟨_, ((t720 != (rd (rd_L2 y755 t718) (ji160)))), (by first | rfl | (simp; done) | (simp only [← hji160] <;> (first | rfl | simp)) | (simp [*]; done)), H', ⟨by have := HJ12.out; have := HJ131.out; first | omega | exact Nat.le_refl _⟩, ⟨N_l (Kd.N_mono HO_4.out (fun _ hk => ⟨hk.1.1.1.1.1, hk.1.1.1.1.2⟩))⟩, ⟨R_l HO_5.out⟩, ⟨N_l (Kd.N_mono HO_16.out (fun _ hk => ⟨hk.1.1.1.1.1, hk.1.1.1.1.2⟩))⟩, ⟨tb⟩⟩
            ·have H' := Aside0.mk H
             clear H
             go_wp2
             go_meet
             case rel => exact ⟨_, (false), rS, H', ⟨by have := HJ12.out; have := HJ131.out; first | omega | exact Nat.le_refl _⟩, ⟨N_l (Kd.N_mono HO_4.out (fun _ hk => ⟨hk.1.1.1.1.1, hk.1.1.1.1.2⟩))⟩, ⟨R_l HO_5.out⟩, ⟨N_l (Kd.N_mono HO_16.out (fun _ hk => ⟨hk.1.1.1.1.1, hk.1.1.1.1.2⟩))⟩, ⟨tb⟩⟩
           ·rw [if_neg c156] at H
            have c156b0 : decide (0 ≤ t718) = false := decide_eq_false c156
            clear c156
            have H' := Aside0.mk H
            clear H
            go_wp2
            go_meet
            case rel => exact ⟨_, (false), rS, H', ⟨by have := HJ12.out; have := HJ131.out; first | omega | exact Nat.le_refl _⟩, ⟨N_l (Kd.N_mono HO_4.out (fun _ hk => ⟨hk.1.1.1.1.1, hk.1.1.1.1.2⟩))⟩, ⟨R_l HO_5.out⟩, ⟨N_l (Kd.N_mono HO_16.out (fun _ hk => ⟨hk.1.1.1.1.1, hk.1.1.1.1.2⟩))⟩, ⟨tb⟩⟩
          ·have H' := Aside0.mk H
           clear H
           go_wp2
           go_meet
           case rel => exact ⟨_, (false), rS, H', ⟨by have := HJ12.out; have := HJ131.out; first | omega | exact Nat.le_refl _⟩, ⟨N_l (Kd.N_mono HO_4.out (fun _ hk => ⟨hk.1.1.1.1.1, hk.1.1.1.1.2⟩))⟩, ⟨R_l HO_5.out⟩, ⟨N_l (Kd.N_mono HO_16.out (fun _ hk => ⟨hk.1.1.1.1.1, hk.1.1.1.1.2⟩))⟩, ⟨tb⟩⟩
         ·rw [if_neg c154] at H
          have c154b0 : decide (1 ≤ t719) = false := decide_eq_false c154
          clear c154
          (first | rw [c154b0] | (simp only [i64_w, i32_w]; rw [c154b0]) | skip)
          have H' := Aside0.mk H
          clear H
          go_wp2
          go_meet
          case rel => exact ⟨_, (false), rS, H', ⟨by have := HJ12.out; have := HJ131.out; first | omega | exact Nat.le_refl _⟩, ⟨N_l (Kd.N_mono HO_4.out (fun _ hk => ⟨hk.1.1.1.1.1, hk.1.1.1.1.2⟩))⟩, ⟨R_l HO_5.out⟩, ⟨N_l (Kd.N_mono HO_16.out (fun _ hk => ⟨hk.1.1.1.1.1, hk.1.1.1.1.2⟩))⟩, ⟨tb⟩⟩
        case rest => as_aux_lemma =>
         clear HC142
         try clear c1
         try clear c2
         try clear p2
         try clear c3
         try clear c4
         try clear c5
         try clear c6
         try clear p6
         try clear c7
         try clear p7
         try clear q7
         try clear hx7
         try clear c8
         try clear c9
         try clear c10
         try clear c11
         try clear c12
         try clear c13
         try clear c14
         try clear c15
         try clear c16
         try clear c26
         try clear c26b0
         try clear c26b1
         try clear c26b2
         try clear c27
         try clear c28
         try clear c31
         try clear c34
         try clear c36
         try clear c36b0
         try clear c36b1
         try clear c39
         try clear c39b0
         try clear c39b1
         try clear c42
         try clear c45
         try clear c45b0
         try clear c45b1
         try clear c45b2
         try clear p64
         try clear c75
         try clear p75
         try clear q75
         try clear hx75
         try clear c131
         try clear c134
         try clear c134b0
         try clear c134b1
         try clear c141
         try clear c154
         try clear c154b0
         try clear c155
         try clear c155b0
         try clear c156
         try clear c156b0
         try clear c157
         try clear c157b0
         try clear c158
         try clear c158b0
         try clear c159
         try clear c159b0
         try clear c161
         try clear c161b0
         try clear c162
         try clear c162b0
         try clear hx758_0
         try clear hx759_0
         try clear p2
         try clear p758
         try clear p759
         try clear q758
         try clear q759
         obtain ⟨kq, x166_141, rfl, HA, HJ141, HO_4, HO_5, HO_16, HB⟩ := hcut
         cases kq with
         | zero => exact absurd HA.out (by simp [laws_FnCovers.j2])
         | succ kj141 =>
          have H := HA.out
          clear HA
          simp only [laws_FnCovers.j2] at H
          by_cases c164 : x166_141 = true
          ·subst c164
           rw [if_pos rfl] at H
           exact absurd H (by simp)
          ·replace c164 := Bool.eq_false_iff.mpr c164
           subst c164
           rw [if_neg (show ¬ (false = true) by decide)] at H
           by_cases c165 : t699 = true
           ·subst c165
            rw [if_pos rfl] at H
            have H' := Aside0.mk H
            clear H
            go_wp2
            go_loopg [18, 19] kj141 (fun kq v18 v19 w' => ∃ (x18_4 : Int) (x19_4 : Int), v18 = .int .i64 x18_4 ∧ v19 = .int .i64 x19_4 ∧ Aside0 (laws_FnCovers.l0 kq t694 t695 t698 t721 x18_4 x19_4 = some true) ∧ Aside0 (kq ≤ kj141) ∧ Aside0 (Kd.N (Kd.slice 3 (Kd.int .i64)) 30 w' w.heap.size (fun k_ => some k_ ≠ (v700 : Value).ownBlock ∧ some k_ ≠ (v722 : Value).ownBlock) (.slice Ao15 t695.length co15) t695) ∧ Aside0 (Kd.R k46 46 w' w.heap.size (fun _ => True) v700 t698) ∧ Aside0 (Kd.N (Kd.slice 3 (Kd.int .i64)) 30 w' w.heap.size (fun k_ => some k_ ≠ ((.slice Ao15 t695.length co15) : Value).ownBlock ∧ some k_ ≠ (v700 : Value).ownBlock) v722 t721) ∧ Aside0 (Below w.heap.size w w'))
            case atStart => exact ⟨(0), (0), rS, rS, H', ⟨Nat.le_refl _⟩, ⟨N_l HO_4.out⟩, ⟨R_l HO_5.out⟩, ⟨N_l HO_16.out⟩, ⟨tb⟩⟩
            case round => as_aux_lemma =>
             clear H'
             try clear c1
             try clear c2
             try clear p2
             try clear c3
             try clear c4
             try clear c5
             try clear c6
             try clear p6
             try clear c7
             try clear p7
             try clear q7
             try clear hx7
             try clear c8
             try clear c9
             try clear c10
             try clear c11
             try clear c12
             try clear c13
             try clear c14
             try clear c15
             try clear c16
             try clear c26
             try clear c26b0
             try clear c26b1
             try clear c26b2
             try clear c27
             try clear c28
             try clear c31
             try clear c34
             try clear c36
             try clear c36b0
             try clear c36b1
             try clear c39
             try clear c39b0
             try clear c39b1
             try clear c42
             try clear c45
             try clear c45b0
             try clear c45b1
             try clear c45b2
             try clear p64
             try clear c75
             try clear p75
             try clear q75
             try clear hx75
             try clear c131
             try clear c134
             try clear c134b0
             try clear c134b1
             try clear c141
             try clear c154
             try clear c154b0
             try clear c155
             try clear c155b0
             try clear c156
             try clear c156b0
             try clear c157
             try clear c157b0
             try clear c158
             try clear c158b0
             try clear c159
             try clear c159b0
             try clear c161
             try clear c161b0
             try clear c162
             try clear c162b0
             try clear c164
             try clear c165
             try clear hx758_0
             try clear hx759_0
             try clear p2
             try clear p6
             try clear p64
             try clear p7
             try clear p75
             try clear p758
             try clear p759
             try clear q7
             try clear q75
             try clear q758
             try clear q759
             obtain ⟨x18_4, x19_4, rfl, rfl, HA, HK4, HO_4, HO_5, HO_16, HB⟩ := hrel
             cases gk with
             | zero => exact absurd HA.out (by simp [laws_FnCovers.l0])
             | succ k4 =>
              have H := HA.out
              clear HA
              simp only [laws_FnCovers.l0] at H
              obtain ⟨c166b0, H⟩ | ⟨c166b0, H⟩ := gi H
              ·obtain ⟨c167b0, H⟩ := gdt H
               obtain ⟨t773, A168, H⟩ := bs H
               obtain ⟨y774, Ny774, H⟩ := bn H
               obtain ⟨c169b0, H⟩ := gdt H
               obtain ⟨c170b0, H⟩ := gdt H
               obtain ⟨t779, A171, H⟩ := bs H
               obtain ⟨c172b0, H⟩ := gdt H
               by_cases c173 : t779 = (wrap64 ((rd y774 t694) * ((rd_L2 t721 x19_4).length : Int)))
               ·rw [if_pos c173] at H
                have c173b0 : (t779 == (wrap64 ((rd y774 t694) * ((rd_L2 t721 x19_4).length : Int)))) = true := beq_iff_eq.mpr c173
                have c173b1 : (t779 != (wrap64 ((rd y774 t694) * ((rd_L2 t721 x19_4).length : Int)))) = false := bne_eq_false_iff_eq.mpr c173
                clear c173
                have H' := Aside0.mk H
                clear H
                obtain ⟨Ao174, co174, eo174⟩ := Kd.R_slice HO_5.out
                subst eo174
                have p772 : 0 ≤ (x19_4 : Int) := dT
                have q772 : x19_4 < (t698.length : Int) := dT
                obtain ⟨ad772, e772, hx772_0, hx772_1, hx772_2⟩ := at_T46 (Kd.R_reads' HO_5.out).2.2 x19_4 p772 q772
                cases e772
                replace p772 := eq_true p772
                replace q772 := eq_true q772
                try go_wp2_with (first | ((with_reducible refine gate_callee (f := 28) rfl ?_); refine goesL_ (some 180) rfl rfl Try.func28 (by kernel_rfl) rfl #[.agg #[.int .i64 ((rd_T46 t698 x19_4).f0), .int .i64 ((rd_T46 t698 x19_4).f1), .int .i64 ((rd_T46 t698 x19_4).f2)]] rfl mp_ ?_; (with_reducible refine (spec_EulerNumber.calls ((rd_T46 t698 x19_4).f0) ((rd_T46 t698 x19_4).f1) ((rd_T46 t698 x19_4).f2) t773 _ A168.out).mono ?_); rintro e w175 ⟨rfl, hb⟩; refine ⟨_, rfl, ?_⟩; replace HO_4 := Aside0.mk (nB HO_4.out hb); replace HO_5 := Aside0.mk (rB HO_5.out hb); replace HO_16 := Aside0.mk (nB HO_16.out hb); replace HB := Aside0.mk (below_step tb hb)) | ((with_reducible refine gate_dst (N := 182) rfl ?_); (try (refine gate_guard (by rfl) ?_; dsimp only)); refine Kd.R_lit (Kd.int .i64) _ 3 ?hg (N := 182) ?hd (xs := ([(-1), 0, (-2)] : List Int)) (inner := [.int .i64 (-1), .int .i64 0, .int .i64 (-2)]) (ok := fun _ => True) (okp := fun _ => True) ?hr ?hp (fun _ hk => hk) trivial (Below.refl _ _) (Nat.le_refl _) (by simp) ?_; (case hd => rfl); (case hg => rfl); (case hr => exact gS); (case hp => exact (Reps.one (show Kd.M (Kd.int .i64) _ _ _ (-1) [.int .i64 (-1)] from rfl) (Reps.one (show Kd.M (Kd.int .i64) _ _ _ 0 [.int .i64 0] from rfl) (Reps.one (show Kd.M (Kd.int .i64) _ _ _ (-2) [.int .i64 (-2)] from rfl) (Reps.none _ _))))); intro v775 w176 ho177 hb hg_ hnew_; clear hg_ hnew_; (first | rw [← Ny774.out] at ho177 | (simp only [Int.reduceToNat] at ho177; rw [← Ny774.out] at ho177)); replace HO_4 := Aside0.mk (Kd.N_elder' (N_l HO_4.out) (Kd.R_base ho177) hb); replace HO_5 := Aside0.mk (rB HO_5.out hb); replace HO_16 := Aside0.mk (Kd.N_elder' (N_l HO_16.out) (Kd.R_base ho177) hb); have HO776 := Aside0.mk (Kd.R_lower ho177 (below_size tb)); replace HB := Aside0.mk (below_step tb hb); clear hb ho177; obtain ⟨Ao178, co178, eo178⟩ := Kd.R_slice HO776.out; subst eo178; have p777 : 0 ≤ (t694 : Int) := dT; have q777 : t694 < (y774.length : Int) := dT; obtain ⟨ad777, e777, hx777_0⟩ := Kd.at_int (Kd.R_reads' HO776.out).2.2 t694 p777 q777; cases e777; replace p777 := eq_true p777; replace q777 := eq_true q777))
                replace HO_4 := Aside0.mk (Kd.N_drew HO_4.out); replace HO_5 := Aside0.mk (Kd.R_drew HO_5.out); replace HO_16 := Aside0.mk (Kd.N_drew HO_16.out); replace HO776 := Aside0.mk (Kd.R_drew HO776.out); replace HB := Aside0.mk (below_drew1 HB.out)
                have p778 : 0 ≤ (x19_4 : Int) := dT
                have q778 : x19_4 < (t698.length : Int) := dT
                obtain ⟨ad778, e778, hx778_0, hx778_1, hx778_2⟩ := at_T46 (Kd.R_reads' HO_5.out).2.2 x19_4 p778 q778
                obtain rfl : ad772 = ad778 := (by injection e778)
                replace p778 := eq_true p778
                replace q778 := eq_true q778
                obtain ⟨Ao180, co180, eo180⟩ := Kd.N_slice HO_16.out
                (first | subst eo180 | (injection eo180 with f1_ f2_ f3_; have f4_ := f1_.symm; have f5_ := f3_.symm; clear f1_ f2_ f3_; subst f4_; subst f5_))
                have p780 : 0 ≤ (x19_4 : Int) := dT
                have q780 : x19_4 < (t721.length : Int) := dT
                obtain ⟨ad780, A780_0, c780_0, e780, hx780_0, hl780_0, hi780_0⟩ := at_L2 (Kd.N_reads' HO_16.out).2.2 x19_4 p780 q780
                cases e780
                obtain ⟨ce780, hce780, hMe780, hcc780⟩ := Kd.N_get HO_16.out [] x19_4 p780 (by first | exact q780 | exact dT | (have e_ := (Kd.N_reads' HO_16.out).1; omega))
                obtain ⟨ua780_0, uc780_0, rfl, ul780_0, ge780_0⟩ := Kd.FK_slice_open hMe780
                have hv780_0 := hcc780 0 _ rfl
                rw [Nat.add_zero, show ((Kd.slice 3 (Kd.int .i64))).sz = 1 from rfl, Nat.mul_one] at hv780_0
                replace hv780_0 := Option.some.inj (hv780_0.symm.trans hx780_0)
                injection hv780_0 with hva_ hvn_ hvc_
                rw [hva_] at ge780_0
                rw [hvc_] at ul780_0
                have HL780_0 := Aside0.mk (show Kd.V (Kd.int .i64) 3 _ w.heap.size _ _ (rd_L2 t721 x19_4) from Kd.V_mk ul780_0 ge780_0)
                clear hva_ hvn_ hvc_ ge780_0 ul780_0
                clear hcc780 hce780
                have HR780_0 := Aside0.mk hi780_0
                have HC780_0 := Aside0.mk hl780_0
                clear hi780_0 hl780_0
                replace p780 := eq_true p780
                replace q780 := eq_true q780
                refine start_ (n := 13) (S := fun w' => w'.cell? (ad772.add ((x19_4).toNat * 3)) = some (.int .i64 ((rd_T46 t698 x19_4).f0)) ∧ w'.cell? ⟨(ad772.add ((x19_4).toNat * 3)).block, (ad772.add ((x19_4).toNat * 3)).off + 1, none⟩ = some (.int .i64 ((rd_T46 t698 x19_4).f1)) ∧ w'.cell? ⟨(ad772.add ((x19_4).toNat * 3)).block, (ad772.add ((x19_4).toNat * 3)).off + 2, none⟩ = some (.int .i64 ((rd_T46 t698 x19_4).f2)) ∧ w'.cell? (ad780.add (x19_4).toNat) = some (.slice A780_0 (rd_L2 t721 x19_4).length c780_0)) (ds := []) #[false, false, false, false, false, false, false, false, false, false, false, false, false] (by kernel_rfl) rfl rfl ⟨hx778_0, hx778_1, hx778_2, hx780_0⟩ (fun hHeld => ?_); refine with_tabW laws_FnCovers.tab27 laws_FnCovers.bits27 (fun HT_ HW_ => ?_)
                generalize w176.drew = w179 at HO_4 HO_5 HO_16 HO776 HB HL780_0 HR780_0 hx778_0 hx778_1 hx778_2 hx780_0 hHeld ⊢
                refine pu_ 0 (some 186) ?_
                refine pu_ 1 (some 187) ?_
                refine pu_ 2 (some 188) ?_
                refine pu_ 5 (some 191) ?_
                refine pu_ 6 (some 192) ?_
                refine pu_ 7 (some 193) ?_
                refine pu_ 8 (some 194) ?_
                refine take_ (i := 3) (N := some 189) (v := ?_) (a' := ?_) #[true, true, true, true, false, true, true, true, true, false, false, false, false] rfl rfl (take_ofW HT_.out HW_.out (by kernel_rfl)) (fun _ _ _ h => h) (Or.inl ⟨by rfl, ?_⟩) hHeld ?_ ?_
                rotate_left
                ·rintro w' ⟨s0, s1, s2, s3⟩
                 go_simp
                 with_reducible rfl
                rotate_left
                ·simp only [Act.put, List.setIfInBounds_toArray, List.set_cons_zero, List.set_cons_succ, i64_w, i32_w]
                 rfl
                refine take_ (i := 9) (N := some 195) (v := ?_) (a' := ?_) #[true, true, true, true, false, true, true, true, true, true, false, false, false] rfl rfl (take_ofW HT_.out HW_.out (by kernel_rfl)) (fun _ _ _ h => h) (Or.inl ⟨by rfl, ?_⟩) hHeld ?_ ?_
                rotate_left
                ·rintro w' ⟨s0, s1, s2, s3⟩
                 go_simp
                 with_reducible rfl
                rotate_left
                ·simp only [Act.put, List.setIfInBounds_toArray, List.set_cons_zero, List.set_cons_succ, i64_w, i32_w]
                 rfl
                refine pu_ 10 (some 196) ?_
                refine pu_ 11 (some 197) ?_
                refine one_ (i := 4) (N := some 190) #[true, true, true, true, true, true, true, true, true, true, true, true, false] rfl rfl (one_of HT_.out (by kernel_rfl)) (by decide) (fun K hK => ?_)
                refine goes_ Try.func28 (by kernel_rfl) rfl #[.agg #[.int .i64 ((rd_T46 t698 x19_4).f0), .int .i64 ((rd_T46 t698 x19_4).f1), .int .i64 ((rd_T46 t698 x19_4).f2)]] (by rfl) rfl rfl mp_ ?_
                with_reducible refine (spec_EulerNumber.calls ((rd_T46 t698 x19_4).f0) ((rd_T46 t698 x19_4).f1) ((rd_T46 t698 x19_4).f2) t779 _ A171.out).mono ?_
                rintro e w181 ⟨rfl, hb⟩
                have HS0_ := (hb.cell (World.block_lt_of_cell? _ _ (hHeld.1))).trans (hHeld.1)
                have HS1_ := (hb.cell (World.block_lt_of_cell? _ _ (hHeld.2.1))).trans (hHeld.2.1)
                have HS2_ := (hb.cell (World.block_lt_of_cell? _ _ (hHeld.2.2.1))).trans (hHeld.2.2.1)
                have HS3_ := (hb.cell (World.block_lt_of_cell? _ _ (hHeld.2.2.2))).trans (hHeld.2.2.2)
                refine ⟨_, rfl, ?_⟩
                replace HO_4 := Aside0.mk (nB HO_4.out hb); replace HO_5 := Aside0.mk (rB HO_5.out hb); replace HO_16 := Aside0.mk (nB HO_16.out hb); replace HO776 := Aside0.mk (rB HO776.out hb); replace HL780_0 := Aside0.mk (Kd.V_below (by (with_reducible repeat (first | apply Kd.V_alloc | apply Kd.V_drewN | apply Kd.V_drew)); exact HL780_0.out) hb); replace HR780_0 := Aside0.mk (Kd.C_below (by repeat (first | (with_reducible exact HR780_0.out) | (with_reducible refine Kd.C_alloc ?_ _) | (with_reducible refine Kd.C_drewN ?_ _) | (with_reducible refine Kd.C_drew ?_) | exact HR780_0.out)) hb); replace HB := Aside0.mk (below_step tb hb)
                (try clear hb)
                (try clear hb2)
                (try clear hk)
                (try clear hi)
                refine hK.out _ _ ⟨HS0_, HS1_, HS2_, HS3_⟩ (fun hHeld => ?_)
                clear hK K
                refine norm_ (a' := ?_) ?_ ?_
                rotate_left
                ·show Act.put _ (some 190) _ = _
                 simp only [Act.put, List.setIfInBounds_toArray, List.set_cons_zero, List.set_cons_succ, i64_w, i32_w]
                 rfl
                refine pu_ 12 (some 198) ?_
                refine done_ (done_of HT_.out (by kernel_rfl)) ?_
                try go_wp2
                go_roundg k4
                case measure => have := HJ12.out; have := HJ131.out; have := HJ141.out; have := HK4.out; omega
                case rel => exact ⟨(wrap64 (x18_4 + t773)), (wrap64 (x19_4 + 1)), rS, rS, H', ⟨by have := HJ12.out; have := HJ131.out; have := HJ141.out; have := HK4.out; omega⟩, ⟨N_l (Kd.N_mono HO_4.out (fun _ hk => ⟨hk.1.1, hk.1.2⟩))⟩, ⟨R_l HO_5.out⟩, ⟨N_l (Kd.N_mono HO_16.out (fun _ hk => ⟨hk.1.1, hk.1.2⟩))⟩, ⟨tb⟩⟩
               ·rw [if_neg c173] at H
                have c173b0 : (t779 == (wrap64 ((rd y774 t694) * ((rd_L2 t721 x19_4).length : Int)))) = false := beq_eq_false_iff_ne.mpr c173
                have c173b1 : (t779 != (wrap64 ((rd y774 t694) * ((rd_L2 t721 x19_4).length : Int)))) = true := bne_iff_ne.mpr c173
                exact absurd H (by simp)
              ·by_cases c190 : (t721.length : Int) = 1
               ·rw [if_pos c190] at H
                have c190b0 : ((t721.length : Int) == 1) = true := beq_iff_eq.mpr c190
                have c190b1 : ((t721.length : Int) != 1) = false := bne_eq_false_iff_eq.mpr c190
                clear c190
                obtain ⟨c191, H⟩ := gd H
                have c191b0 : decide (0 < (t695.length : Int)) = true := decide_eq_true c191
                have c191b1 : decide (0 < t695.length) = true := decide_eq_true (by omega)
                clear c191
                obtain ⟨t761, A192, H⟩ := bs H
                by_cases c193 : t761 = 0
                ·rw [if_pos c193] at H
                 exact absurd H (by simp)
                ·rw [if_neg c193] at H
                 have c193b0 : (t761 == 0) = false := beq_eq_false_iff_ne.mpr c193
                 have c193b1 : (t761 != 0) = true := bne_iff_ne.mpr c193
                 by_cases c194 : (((rd_L2 t695 0).length : Int) % t761) = 0
                 ·rw [if_pos c194] at H
                  have c194b0 : ((((rd_L2 t695 0).length : Int) % t761) == 0) = true := beq_iff_eq.mpr c194
                  have c194b1 : ((((rd_L2 t695 0).length : Int) % t761) != 0) = false := bne_eq_false_iff_eq.mpr c194
                  have c194t0 : ((((rd_L2 t695 0).length : Int).tmod t761) == 0) = true := by rw [Int.tmod_eq_emod_of_nonneg (by omega)]; exact c194b0
                  have c194t1 : ((((rd_L2 t695 0).length : Int).tmod t761) != 0) = false := by rw [Int.tmod_eq_emod_of_nonneg (by omega)]; exact c194b1
                  clear c194
                  by_cases c195 : (t698.length : Int) = (t721.length : Int)
                  ·rw [if_pos c195] at H
                   have c195b0 : ((t698.length : Int) == (t721.length : Int)) = true := beq_iff_eq.mpr c195
                   have c195b1 : ((t698.length : Int) != (t721.length : Int)) = false := bne_eq_false_iff_eq.mpr c195
                   have c195b2 : (t698.length == t721.length) = true := by first | simpa using c195 | (simp at c195 ⊢; omega)
                   clear c195
                   obtain ⟨y762, Ny762, H⟩ := bn H
                   obtain ⟨c196b0, H⟩ := gdt H
                   obtain ⟨c197b0, H⟩ := gdt H
                   have hq_ := Option.some.inj H
                   obtain ⟨Ao198, co198, eo198⟩ := Kd.R_slice HO_5.out
                   subst eo198
                   try go_wp2
                   replace HO_4 := Aside0.mk (Kd.N_drew HO_4.out); replace HO_5 := Aside0.mk (Kd.R_drew HO_5.out); replace HO_16 := Aside0.mk (Kd.N_drew HO_16.out); replace HB := Aside0.mk (below_drew1 HB.out)
                   obtain ⟨Ao200, co200, eo200⟩ := Kd.N_slice HO_16.out
                   (first | subst eo200 | (injection eo200 with f1_ f2_ f3_; have f4_ := f1_.symm; have f5_ := f3_.symm; clear f1_ f2_ f3_; subst f4_; subst f5_))
                   have p760 : 0 ≤ (0 : Int) := (by omega)
                   have q760 : 0 < (t695.length : Int) := dT
                   obtain ⟨ad760, A760_0, c760_0, e760, hx760_0, hl760_0, hi760_0⟩ := at_L2 (Kd.N_reads' HO_4.out).2.2 0 p760 q760
                   cases e760
                   obtain ⟨ce760, hce760, hMe760, hcc760⟩ := Kd.N_get HO_4.out [] 0 p760 (by first | exact q760 | exact dT | (have e_ := (Kd.N_reads' HO_4.out).1; omega))
                   obtain ⟨ua760_0, uc760_0, rfl, ul760_0, ge760_0⟩ := Kd.FK_slice_open hMe760
                   have hv760_0 := hcc760 0 _ rfl
                   rw [Nat.add_zero, show ((Kd.slice 3 (Kd.int .i64))).sz = 1 from rfl, Nat.mul_one] at hv760_0
                   replace hv760_0 := Option.some.inj (hv760_0.symm.trans hx760_0)
                   injection hv760_0 with hva_ hvn_ hvc_
                   rw [hva_] at ge760_0
                   rw [hvc_] at ul760_0
                   have HL760_0 := Aside0.mk (show Kd.V (Kd.int .i64) 3 _ w.heap.size _ _ (rd_L2 t695 0) from Kd.V_mk ul760_0 ge760_0)
                   clear hva_ hvn_ hvc_ ge760_0 ul760_0
                   clear hcc760 hce760
                   have qi760 : (0 < t695.length) = True := eq_true (by omega)
                   (try rw [show ((0 : Int)).toNat = 0 from rfl] at hx760_0)
                   (try rw [Addr.add_zero'] at hx760_0)
                   have HR760_0 := Aside0.mk hi760_0
                   have HC760_0 := Aside0.mk hl760_0
                   clear hi760_0 hl760_0
                   replace p760 := eq_true p760
                   replace q760 := eq_true q760
                   refine start_ (n := 13) (S := fun w' => w'.cell? ad760 = some (.slice A760_0 (rd_L2 t695 0).length c760_0)) (ds := []) #[false, false, false, false, false, false, false, false, false, false, false, false, false] (by kernel_rfl) rfl rfl (hx760_0) (fun hHeld => ?_); refine with_tabW laws_FnCovers.tab29 laws_FnCovers.bits29 (fun HT_ HW_ => ?_)
                   generalize wr.drew = w199 at HO_4 HO_5 HO_16 HB HL760_0 HR760_0 hx760_0 hHeld ⊢
                   refine pu_ 0 (some 199) ?_
                   refine pu_ 1 (some 200) ?_
                   refine pu_ 2 (some 201) ?_
                   refine pu_ 3 (some 202) ?_
                   refine pu_ 4 (some 203) ?_
                   refine pu_ 5 (some 204) ?_
                   refine pu_ 8 (some 207) ?_
                   refine take_ (i := 6) (N := some 205) (v := ?_) (a' := ?_) #[true, true, true, true, true, true, true, false, true, false, false, false, false] rfl rfl (take_ofW HT_.out HW_.out (by kernel_rfl)) (fun _ _ _ h => h) (Or.inl ⟨by rfl, ?_⟩) hHeld ?_ ?_
                   rotate_left
                   ·intro w' s0
                    go_simp
                    with_reducible rfl
                   rotate_left
                   ·simp only [Act.put, List.setIfInBounds_toArray, List.set_cons_zero, List.set_cons_succ, i64_w, i32_w]
                    rfl
                   refine pu_ 7 (some 206) ?_
                   refine one_ (i := 9) (N := some 208) #[true, true, true, true, true, true, true, true, true, true, false, false, false] rfl rfl (one_of HT_.out (by kernel_rfl)) (by decide) (fun K hK => ?_)
                   refine goes_ Try.func25 (by kernel_rfl) rfl #[.slice (some ad760) t695.length co15] (by rfl) rfl rfl mp_ ?_
                   with_reducible refine (impl_SheetSymmetries.calls k4 _ _ t695 t761 _ ?side1 ?side2 A192.out).mono ?_
                   (case side1 => exact C_l ((Kd.N_reads' HO_4.out).2.2))
                   (case side2 => exact (Kd.N_reads' HO_4.out).2.1)
                   rintro e w201 ⟨rfl, hb⟩
                   have HS0_ := (hb.cell (World.block_lt_of_cell? _ _ (hHeld))).trans (hHeld)
                   refine ⟨_, rfl, ?_⟩
                   replace HO_4 := Aside0.mk (nB HO_4.out hb); replace HO_5 := Aside0.mk (rB HO_5.out hb); replace HO_16 := Aside0.mk (nB HO_16.out hb); replace HL760_0 := Aside0.mk (Kd.V_below (by (with_reducible repeat (first | apply Kd.V_alloc | apply Kd.V_drewN | apply Kd.V_drew)); exact HL760_0.out) hb); replace HR760_0 := Aside0.mk (Kd.C_below (by repeat (first | (with_reducible exact HR760_0.out) | (with_reducible refine Kd.C_alloc ?_ _) | (with_reducible refine Kd.C_drewN ?_ _) | (with_reducible refine Kd.C_drew ?_) | exact HR760_0.out)) hb); replace HB := Aside0.mk (below_step tb hb)
                   (try clear hb)
                   (try clear hb2)
                   (try clear hk)
                   (try clear hi)
                   refine hK.out _ _ (HS0_) (fun hHeld => ?_)
                   clear hK K
                   refine norm_ (a' := ?_) ?_ ?_
                   rotate_left
                   ·show Act.put _ (some 208) _ = _
                    simp only [Act.put, List.setIfInBounds_toArray, List.set_cons_zero, List.set_cons_succ, i64_w, i32_w]
                    rfl
                   refine pu_ 10 (some 209) ?_
                   refine pu_ 11 (some 210) ?_
                   refine pu_ 12 (some 211) ?_
                   refine done_ (done_of HT_.out (by kernel_rfl)) ?_
                   try go_wp2
                   have pi765 : (0 ≤ (t694 : Int)) = True := eq_true dT
                   have qi765 : (t694 < (y762.length : Int)) = True := eq_true dT
                   replace HO_4 := Aside0.mk (Kd.N_drew HO_4.out); replace HO_5 := Aside0.mk (Kd.R_drew HO_5.out); replace HO_16 := Aside0.mk (Kd.N_drew HO_16.out); replace HL760_0 := Aside0.mk (Kd.V_drew HL760_0.out); replace HR760_0 := Aside0.mk (Kd.C_drew HR760_0.out); replace HB := Aside0.mk (below_drew1 HB.out)
                   have p766 : 0 ≤ (0 : Int) := (by omega)
                   have q766 : 0 < (t695.length : Int) := dT
                   obtain ⟨ad766, A766_0, c766_0, e766, hx766_0, hl766_0, hi766_0⟩ := at_L2 (Kd.N_reads' HO_4.out).2.2 0 p766 q766
                   obtain rfl : ad760 = ad766 := (by injection e766)
                   obtain ⟨ce766, hce766, hMe766, hcc766⟩ := Kd.N_get HO_4.out [] 0 p766 (by first | exact q766 | exact dT | (have e_ := (Kd.N_reads' HO_4.out).1; omega))
                   obtain ⟨ua766_0, uc766_0, rfl, ul766_0, ge766_0⟩ := Kd.FK_slice_open hMe766
                   have hv766_0 := hcc766 0 _ rfl
                   rw [Nat.add_zero, show ((Kd.slice 3 (Kd.int .i64))).sz = 1 from rfl, Nat.mul_one] at hv766_0
                   replace hv766_0 := Option.some.inj (hv766_0.symm.trans hx766_0)
                   injection hv766_0 with hva_ hvn_ hvc_
                   rw [hva_] at ge766_0
                   rw [hvc_] at ul766_0
                   have HL766_0 := Aside0.mk (show Kd.V (Kd.int .i64) 3 _ w.heap.size _ _ (rd_L2 t695 0) from Kd.V_mk ul766_0 ge766_0)
                   clear hva_ hvn_ hvc_ ge766_0 ul766_0
                   clear hcc766 hce766
                   have qi766 : (0 < t695.length) = True := eq_true (by omega)
                   (try rw [show ((0 : Int)).toNat = 0 from rfl] at hx766_0)
                   (try rw [Addr.add_zero'] at hx766_0)
                   have HR766_0 := Aside0.mk hi766_0
                   have HC766_0 := Aside0.mk hl766_0
                   clear hi766_0 hl766_0
                   replace p766 := eq_true p766
                   replace q766 := eq_true q766
                   refine start_ (n := 19) (S := fun w' => w'.cell? ad760 = some (.slice A766_0 (rd_L2 t695 0).length c766_0)) (ds := []) #[false, false, false, false, false, false, false, false, false, false, false, false, false, false, false, false, false, false, false] (by kernel_rfl) rfl rfl (hx766_0) (fun hHeld => ?_); refine with_tabW laws_FnCovers.tab31 laws_FnCovers.bits31 (fun HT_ HW_ => ?_)
                   generalize w201.drew = w202 at HO_4 HO_5 HO_16 HL760_0 HR760_0 HB HL766_0 HR766_0 hx766_0 hHeld ⊢
                   refine pu_ 0 (some 212) ?_
                   refine pu_ 1 (some 213) ?_
                   refine pu_ 2 (some 214) ?_
                   refine pu_ 3 (some 215) ?_
                   refine pu_ 4 (some 216) ?_
                   refine pu_ 5 (some 217) ?_
                   refine pu_ 6 (some 218) ?_
                   refine pu_ 8 (some 220) ?_
                   refine pu_ 11 (some 223) ?_
                   refine pu_ 12 (some 224) ?_
                   refine take_ (i := 13) (N := some 225) (v := ?_) (a' := ?_) #[true, true, true, true, true, true, true, false, true, false, false, true, true, true, false, false, false, false, false] rfl rfl (take_ofW HT_.out HW_.out (by kernel_rfl)) (fun _ _ _ h => h) (Or.inl ⟨by rfl, ?_⟩) hHeld ?_ ?_
                   rotate_left
                   ·intro w' s0
                    go_simp
                    with_reducible rfl
                   rotate_left
                   ·simp only [Act.put, List.setIfInBounds_toArray, List.set_cons_zero, List.set_cons_succ, i64_w, i32_w]
                    rfl
                   refine pu_ 14 (some 226) ?_
                   refine one_ (i := 7) (N := some 219) #[true, true, true, true, true, true, true, true, true, false, false, true, true, true, true, false, false, false, false] rfl rfl (one_of HT_.out (by kernel_rfl)) (by decide) (fun K hK => ?_)
                   refine Kd.R_lit_step (Kd.int .i64) _ 3 ?hg (N := 219) ?hd (xs := ([(-1), 0, (-2)] : List Int)) (inner := [.int .i64 (-1), .int .i64 0, .int .i64 (-2)]) (ok := fun _ => True) (okp := fun _ => True) ?hr ?hp (fun _ hk => hk) trivial (Below.refl _ _) (Nat.le_refl _) (by simp) ?_; (case hd => rfl); (case hg => rfl); (case hr => exact gS); (case hp => exact (Reps.one (show Kd.M (Kd.int .i64) _ _ _ (-1) [.int .i64 (-1)] from rfl) (Reps.one (show Kd.M (Kd.int .i64) _ _ _ 0 [.int .i64 0] from rfl) (Reps.one (show Kd.M (Kd.int .i64) _ _ _ (-2) [.int .i64 (-2)] from rfl) (Reps.none _ _)))))
                   intro v763 w203 ho204 hb hg_ hnew_
                   have HS0_ := (hb.cell (World.block_lt_of_cell? _ _ (hHeld))).trans (hHeld)
                   clear hg_ hnew_
                   (first | rw [← Ny762.out] at ho204 | (simp only [Int.reduceToNat] at ho204; rw [← Ny762.out] at ho204))
                   replace HO_4 := Aside0.mk (Kd.N_elder' (N_l HO_4.out) (Kd.R_base ho204) hb); replace HO_5 := Aside0.mk (rB HO_5.out hb); replace HO_16 := Aside0.mk (Kd.N_elder' (N_l HO_16.out) (Kd.R_base ho204) hb); replace HL760_0 := Aside0.mk (Kd.V_elder' (by (with_reducible repeat (first | apply Kd.V_alloc | apply Kd.V_drewN | apply Kd.V_drew)); exact HL760_0.out) (Kd.R_base ho204) hb); replace HL766_0 := Aside0.mk (Kd.V_elder' (by (with_reducible repeat (first | apply Kd.V_alloc | apply Kd.V_drewN | apply Kd.V_drew)); exact HL766_0.out) (Kd.R_base ho204) hb); have HO764 := Aside0.mk (Kd.R_lower ho204 (below_size tb)); replace HR760_0 := Aside0.mk (Kd.C_below (by repeat (first | (with_reducible exact HR760_0.out) | (with_reducible refine Kd.C_alloc ?_ _) | (with_reducible refine Kd.C_drewN ?_ _) | (with_reducible refine Kd.C_drew ?_) | exact HR760_0.out)) hb); replace HR766_0 := Aside0.mk (Kd.C_below (by repeat (first | (with_reducible exact HR766_0.out) | (with_reducible refine Kd.C_alloc ?_ _) | (with_reducible refine Kd.C_drewN ?_ _) | (with_reducible refine Kd.C_drew ?_) | exact HR766_0.out)) hb); replace HB := Aside0.mk (below_step tb hb)
                   clear hb ho204
                   obtain ⟨Ao205, co205, eo205⟩ := Kd.R_slice HO764.out
                   subst eo205
                   obtain ⟨ado205, fo205, _⟩ := Kd.at_int (Kd.R_reads' HO764.out).2.2 0 (by decide) (by rw [Ny762.out]; simp)
                   cases fo205
                   refine hK.out _ _ (HS0_) (fun hHeld => ?_)
                   clear hK K
                   refine norm_ (a' := ?_) ?_ ?_
                   rotate_left
                   ·show Act.put _ (some 219) _ = _
                    simp only [Act.put, List.setIfInBounds_toArray, List.set_cons_zero, List.set_cons_succ, i64_w, i32_w]
                    rfl
                   refine pu_ 9 (some 221) ?_
                   refine one_ (i := 10) (N := some 222) #[true, true, true, true, true, true, true, true, true, true, true, true, true, true, true, false, false, false, false] rfl rfl (one_of HT_.out (by kernel_rfl)) (by decide) (fun K hK => ?_)
                   (have p765 : 0 ≤ (t694 : Int) := dT; have q765 : t694 < (y762.length : Int) := dT; obtain ⟨ad765, e765, hx765_0⟩ := Kd.at_int (Kd.R_reads' HO764.out).2.2 t694 p765 q765; obtain rfl : ado205 = ad765 := (by injection e765))
                   refine value_ (w1 := ?_) (v := ?_) (by rfl) rfl ?_ ?_
                   rotate_left 2
                   ·go_simp
                    constructor
                    ·rfl
                    ·rfl
                   clear hx765_0
                   refine hK.out _ _ (hHeld) (fun hHeld => ?_)
                   clear hK K
                   refine norm_ (a' := ?_) ?_ ?_
                   rotate_left
                   ·show Act.put _ (some 222) _ = _
                    simp only [Act.put, List.setIfInBounds_toArray, List.set_cons_zero, List.set_cons_succ, i64_w, i32_w]
                    rfl
                   refine pu_ 15 (some 227) ?_
                   refine pu_ 16 (some 228) ?_
                   refine pu_ 17 (some 229) ?_
                   refine pu_ 18 (some 2) ?_
                   refine done_ (done_of HT_.out (by kernel_rfl)) ?_
                   try go_wp2
                   go_ret
                   exact ⟨rE, tb⟩
                  ·rw [if_neg c195] at H
                   have c195b0 : ((t698.length : Int) == (t721.length : Int)) = false := beq_eq_false_iff_ne.mpr c195
                   have c195b1 : ((t698.length : Int) != (t721.length : Int)) = true := bne_iff_ne.mpr c195
                   have c195b2 : (t698.length == t721.length) = false := by first | simpa using c195 | (simp at c195 ⊢; omega)
                   exact absurd H (by simp)
                 ·rw [if_neg c194] at H
                  have c194b0 : ((((rd_L2 t695 0).length : Int) % t761) == 0) = false := beq_eq_false_iff_ne.mpr c194
                  have c194b1 : ((((rd_L2 t695 0).length : Int) % t761) != 0) = true := bne_iff_ne.mpr c194
                  have c194t1 : ((((rd_L2 t695 0).length : Int).tmod t761) != 0) = true := by rw [Int.tmod_eq_emod_of_nonneg (by omega)]; exact c194b1
                  exact absurd H (by simp)
               ·rw [if_neg c190] at H
                have c190b0 : ((t721.length : Int) == 1) = false := beq_eq_false_iff_ne.mpr c190
                have c190b1 : ((t721.length : Int) != 1) = true := bne_iff_ne.mpr c190
                by_cases c215 : (t698.length : Int) = (t721.length : Int)
                ·rw [if_pos c215] at H
                 have c215b0 : ((t698.length : Int) == (t721.length : Int)) = true := beq_iff_eq.mpr c215
                 have c215b1 : ((t698.length : Int) != (t721.length : Int)) = false := bne_eq_false_iff_eq.mpr c215
                 have c215b2 : (t698.length == t721.length) = true := by first | simpa using c215 | (simp at c215 ⊢; omega)
                 clear c215
                 obtain ⟨y767, Ny767, H⟩ := bn H
                 obtain ⟨c216b0, H⟩ := gdt H
                 obtain ⟨c217b0, H⟩ := gdt H
                 obtain ⟨c218, H⟩ := gd H
                 have c218b0 : decide (0 < (t695.length : Int)) = true := decide_eq_true c218
                 have c218b1 : decide (0 < t695.length) = true := decide_eq_true (by omega)
                 clear c218
                 have hq_ := Option.some.inj H
                 obtain ⟨Ao219, co219, eo219⟩ := Kd.R_slice HO_5.out
                 subst eo219
                 try go_wp2
                 replace HO_4 := Aside0.mk (Kd.N_drew HO_4.out); replace HO_5 := Aside0.mk (Kd.R_drew HO_5.out); replace HO_16 := Aside0.mk (Kd.N_drew HO_16.out); replace HB := Aside0.mk (below_drew1 HB.out)
                 obtain ⟨Ao221, co221, eo221⟩ := Kd.N_slice HO_16.out
                 (first | subst eo221 | (injection eo221 with f1_ f2_ f3_; have f4_ := f1_.symm; have f5_ := f3_.symm; clear f1_ f2_ f3_; subst f4_; subst f5_))
                 refine start_ (n := 13) (S := fun w' => True) (ds := []) #[false, false, false, false, false, false, false, false, false, false, false, false, false] (by kernel_rfl) rfl rfl trivial (fun hHeld => ?_); refine with_tabW laws_FnCovers.tab29 laws_FnCovers.bits29 (fun HT_ HW_ => ?_)
                 generalize wr.drew = w220 at HO_4 HO_5 HO_16 HB hHeld ⊢
                 refine pu_ 0 (some 199) ?_
                 refine pu_ 1 (some 200) ?_
                 refine pu_ 2 (some 201) ?_
                 refine pu_ 3 (some 202) ?_
                 refine pv_ 4 (some 203) ?_
                 refine pv_ 5 (some 204) ?_
                 refine pv_ 6 (some 205) ?_
                 refine pv_ 7 (some 206) ?_
                 refine pv_ 8 (some 207) ?_
                 refine pv_ 9 (some 208) ?_
                 refine pv_ 10 (some 209) ?_
                 refine pv_ 11 (some 210) ?_
                 refine pu_ 12 (some 211) ?_
                 refine done_ (done_of HT_.out (by kernel_rfl)) ?_
                 try go_wp2
                 have pi770 : (0 ≤ (t694 : Int)) = True := eq_true dT
                 have qi770 : (t694 < (y767.length : Int)) = True := eq_true dT
                 replace HO_4 := Aside0.mk (Kd.N_drew HO_4.out); replace HO_5 := Aside0.mk (Kd.R_drew HO_5.out); replace HO_16 := Aside0.mk (Kd.N_drew HO_16.out); replace HB := Aside0.mk (below_drew1 HB.out)
                 have p771 : 0 ≤ (0 : Int) := (by omega)
                 have q771 : 0 < (t695.length : Int) := dT
                 obtain ⟨ad771, A771_0, c771_0, e771, hx771_0, hl771_0, hi771_0⟩ := at_L2 (Kd.N_reads' HO_4.out).2.2 0 p771 q771
                 cases e771
                 obtain ⟨ce771, hce771, hMe771, hcc771⟩ := Kd.N_get HO_4.out [] 0 p771 (by first | exact q771 | exact dT | (have e_ := (Kd.N_reads' HO_4.out).1; omega))
                 obtain ⟨ua771_0, uc771_0, rfl, ul771_0, ge771_0⟩ := Kd.FK_slice_open hMe771
                 have hv771_0 := hcc771 0 _ rfl
                 rw [Nat.add_zero, show ((Kd.slice 3 (Kd.int .i64))).sz = 1 from rfl, Nat.mul_one] at hv771_0
                 replace hv771_0 := Option.some.inj (hv771_0.symm.trans hx771_0)
                 injection hv771_0 with hva_ hvn_ hvc_
                 rw [hva_] at ge771_0
                 rw [hvc_] at ul771_0
                 have HL771_0 := Aside0.mk (show Kd.V (Kd.int .i64) 3 _ w.heap.size _ _ (rd_L2 t695 0) from Kd.V_mk ul771_0 ge771_0)
                 clear hva_ hvn_ hvc_ ge771_0 ul771_0
                 clear hcc771 hce771
                 have qi771 : (0 < t695.length) = True := eq_true (by omega)
                 (try rw [show ((0 : Int)).toNat = 0 from rfl] at hx771_0)
                 (try rw [Addr.add_zero'] at hx771_0)
                 have HR771_0 := Aside0.mk hi771_0
                 have HC771_0 := Aside0.mk hl771_0
                 clear hi771_0 hl771_0
                 replace p771 := eq_true p771
                 replace q771 := eq_true q771
                 refine start_ (n := 19) (S := fun w' => w'.cell? ad771 = some (.slice A771_0 (rd_L2 t695 0).length c771_0)) (ds := []) #[false, false, false, false, false, false, false, false, false, false, false, false, false, false, false, false, false, false, false] (by kernel_rfl) rfl rfl (hx771_0) (fun hHeld => ?_); refine with_tabW laws_FnCovers.tab31 laws_FnCovers.bits31 (fun HT_ HW_ => ?_)
                 generalize w220.drew = w222 at HO_4 HO_5 HO_16 HB HL771_0 HR771_0 hx771_0 hHeld ⊢
                 refine pu_ 0 (some 212) ?_
                 refine pu_ 1 (some 213) ?_
                 refine pu_ 2 (some 214) ?_
                 refine pu_ 3 (some 215) ?_
                 refine pu_ 4 (some 216) ?_
                 refine pu_ 5 (some 217) ?_
                 refine pu_ 6 (some 218) ?_
                 refine pu_ 8 (some 220) ?_
                 refine pu_ 11 (some 223) ?_
                 refine pu_ 12 (some 224) ?_
                 refine take_ (i := 13) (N := some 225) (v := ?_) (a' := ?_) #[true, true, true, true, true, true, true, false, true, false, false, true, true, true, false, false, false, false, false] rfl rfl (take_ofW HT_.out HW_.out (by kernel_rfl)) (fun _ _ _ h => h) (Or.inl ⟨by rfl, ?_⟩) hHeld ?_ ?_
                 rotate_left
                 ·intro w' s0
                  go_simp
                  with_reducible rfl
                 rotate_left
                 ·simp only [Act.put, List.setIfInBounds_toArray, List.set_cons_zero, List.set_cons_succ, i64_w, i32_w]
                  rfl
                 refine pu_ 14 (some 226) ?_
                 refine one_ (i := 7) (N := some 219) #[true, true, true, true, true, true, true, true, true, false, false, true, true, true, true, false, false, false, false] rfl rfl (one_of HT_.out (by kernel_rfl)) (by decide) (fun K hK => ?_)
                 refine Kd.R_lit_step (Kd.int .i64) _ 3 ?hg (N := 219) ?hd (xs := ([(-1), 0, (-2)] : List Int)) (inner := [.int .i64 (-1), .int .i64 0, .int .i64 (-2)]) (ok := fun _ => True) (okp := fun _ => True) ?hr ?hp (fun _ hk => hk) trivial (Below.refl _ _) (Nat.le_refl _) (by simp) ?_; (case hd => rfl); (case hg => rfl); (case hr => exact gS); (case hp => exact (Reps.one (show Kd.M (Kd.int .i64) _ _ _ (-1) [.int .i64 (-1)] from rfl) (Reps.one (show Kd.M (Kd.int .i64) _ _ _ 0 [.int .i64 0] from rfl) (Reps.one (show Kd.M (Kd.int .i64) _ _ _ (-2) [.int .i64 (-2)] from rfl) (Reps.none _ _)))))
                 intro v768 w223 ho224 hb hg_ hnew_
                 have HS0_ := (hb.cell (World.block_lt_of_cell? _ _ (hHeld))).trans (hHeld)
                 clear hg_ hnew_
                 (first | rw [← Ny767.out] at ho224 | (simp only [Int.reduceToNat] at ho224; rw [← Ny767.out] at ho224))
                 replace HO_4 := Aside0.mk (Kd.N_elder' (N_l HO_4.out) (Kd.R_base ho224) hb); replace HO_5 := Aside0.mk (rB HO_5.out hb); replace HO_16 := Aside0.mk (Kd.N_elder' (N_l HO_16.out) (Kd.R_base ho224) hb); replace HL771_0 := Aside0.mk (Kd.V_elder' (by (with_reducible repeat (first | apply Kd.V_alloc | apply Kd.V_drewN | apply Kd.V_drew)); exact HL771_0.out) (Kd.R_base ho224) hb); have HO769 := Aside0.mk (Kd.R_lower ho224 (below_size tb)); replace HR771_0 := Aside0.mk (Kd.C_below (by repeat (first | (with_reducible exact HR771_0.out) | (with_reducible refine Kd.C_alloc ?_ _) | (with_reducible refine Kd.C_drewN ?_ _) | (with_reducible refine Kd.C_drew ?_) | exact HR771_0.out)) hb); replace HB := Aside0.mk (below_step tb hb)
                 clear hb ho224
                 obtain ⟨Ao225, co225, eo225⟩ := Kd.R_slice HO769.out
                 subst eo225
                 obtain ⟨ado225, fo225, _⟩ := Kd.at_int (Kd.R_reads' HO769.out).2.2 0 (by decide) (by rw [Ny767.out]; simp)
                 cases fo225
                 refine hK.out _ _ (HS0_) (fun hHeld => ?_)
                 clear hK K
                 refine norm_ (a' := ?_) ?_ ?_
                 rotate_left
                 ·show Act.put _ (some 219) _ = _
                  simp only [Act.put, List.setIfInBounds_toArray, List.set_cons_zero, List.set_cons_succ, i64_w, i32_w]
                  rfl
                 refine pu_ 9 (some 221) ?_
                 refine one_ (i := 10) (N := some 222) #[true, true, true, true, true, true, true, true, true, true, true, true, true, true, true, false, false, false, false] rfl rfl (one_of HT_.out (by kernel_rfl)) (by decide) (fun K hK => ?_)
                 (have p770 : 0 ≤ (t694 : Int) := dT; have q770 : t694 < (y767.length : Int) := dT; obtain ⟨ad770, e770, hx770_0⟩ := Kd.at_int (Kd.R_reads' HO769.out).2.2 t694 p770 q770; obtain rfl : ado225 = ad770 := (by injection e770))
                 refine value_ (w1 := ?_) (v := ?_) (by rfl) rfl ?_ ?_
                 rotate_left 2
                 ·go_simp
                  constructor
                  ·rfl
                  ·rfl
                 clear hx770_0
                 refine hK.out _ _ (hHeld) (fun hHeld => ?_)
                 clear hK K
                 refine norm_ (a' := ?_) ?_ ?_
                 rotate_left
                 ·show Act.put _ (some 222) _ = _
                  simp only [Act.put, List.setIfInBounds_toArray, List.set_cons_zero, List.set_cons_succ, i64_w, i32_w]
                  rfl
                 refine pu_ 15 (some 227) ?_
                 refine pu_ 16 (some 228) ?_
                 refine pu_ 17 (some 229) ?_
                 refine pu_ 18 (some 2) ?_
                 refine done_ (done_of HT_.out (by kernel_rfl)) ?_
                 try go_wp2
                 go_ret
                 exact ⟨rE, tb⟩
                ·rw [if_neg c215] at H
                 have c215b0 : ((t698.length : Int) == (t721.length : Int)) = false := beq_eq_false_iff_ne.mpr c215
                 have c215b1 : ((t698.length : Int) != (t721.length : Int)) = true := bne_iff_ne.mpr c215
                 have c215b2 : (t698.length == t721.length) = false := by first | simpa using c215 | (simp at c215 ⊢; omega)
                 exact absurd H (by simp)
           ·replace c165 := Bool.eq_false_iff.mpr c165
            subst c165
            have H1 : (some true) = some true := rfl
            clear H
            have H := H1
            clear H1
            clear H
            go_wp2
            go_ret
            exact ⟨rE, tb⟩

/-- THE ONE PURE STATEMENT of laws_FnCovers: yours. -/
def laws_FnCovers.Pure : Prop := ∀ (l0 : List Int), l0.length ≤ maxLen → l0.length * 1 ≤ 140737488351232 → (∀ x ∈ l0, (Lit.int .u8 x).wf = true) → ∃ k, laws_FnCovers.f k l0 = some true
theorem laws_FnCovers.walk (P : laws_FnCovers.Pure) (a0 : Option Addr) (len0 cap0 : Nat) (z0 : List Int) (w : World) (w0 : (a0 = none ∧ len0 = 0 ∧ cap0 = 0 ∧ z0 = []) ∨ ∃ x, a0 = some x ∧ len0 ≤ cap0 ∧ cap0 ≤ maxLen ∧ z0.length = cap0 ∧ (∀ i, i < z0.length → w.cell? (x.add i) = some (.int .u8 (z0.getD i 0))) ∧ ∀ n ∈ z0, (Lit.int .u8 n).wf = true) (y0 : len0 * 1 ≤ 140737488351232) :
  Calls Try.prog 3 #[.slice a0 len0 cap0] w fun e w' => e = .returned (.bool true) ∧ Below w.heap.size w w' := by
 obtain ⟨l0, rfl, hr0, hm0, hw0, hc0⟩ := ReadsInt.ofRowC w0
 obtain ⟨k, h⟩ := P l0 hm0 y0 hw0
 refine (laws_FnCovers.calls k _ _ l0 w (Kd.C_of_reads (d := (0 : Int)) (h1 := fun _ => rfl) hr0) hc0 h).mono ?_
 rintro e w' ⟨rfl, hd⟩
 exact ⟨rfl, hd⟩
end Go.Proofs.Ytepogblkmiidnaa.PFnCovers
