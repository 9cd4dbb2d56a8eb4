/- The walk of laws_FnGraphs on the ways on which it answers true: lines of the print of this claim, the ways that answer false struck, since the pure fact says true. -/
import Derived.Test.YtafpbabiahjjaaaGreatDoorWSpanB
import Derived.Test.YtafpbabiahjjaaaGreatDoorJoin
import Derived.Test.YtafpbabiahjjaaaGreatDoorPFnGraphsx0
import Derived.Test.YtafpbabiahjjaaaGreatDoorPFnGraphsx1
import Derived.Test.YtafpbabiahjjaaaGreatDoorPFnGraphsx2
import Derived.Test.YtafpbabiahjjaaaGreatDoorPFnGraphsx3
import Derived.Test.YtafpbabiahjjaaaGreatDoorPFnGraphsx4
import Derived.Test.YtafpbabiahjjaaaGreatDoorPFnGraphsx5
import Derived.Test.YtafpbabiahjjaaaGreatDoorPFnGraphsx9
import Derived.Test.YtafpbabiahjjaaaGreatDoorPFnGraphsx10
import Derived.Test.YtafpbabiahjjaaaGreatDoorPFnGraphsx11
import Derived.Test.YtafpbabiahjjaaaGreatDoorPFnGraphsx12
import Derived.Test.YtafpbabiahjjaaaGreatDoorPFnGraphsx13
import Derived.Test.YtafpbabiahjjaaaGreatDoorPFnGraphsx14
import Derived.Test.YtafpbabiahjjaaaGreatDoorPFnGraphsx17
import Derived.Test.YtafpbabiahjjaaaGreatDoorPFnGraphsx18
import Derived.Test.YtafpbabiahjjaaaGreatDoorPFnGraphsx19
import Derived.Test.YtafpbabiahjjaaaGreatDoorPFnGraphsx20
namespace Go.Proofs.YtafpbabiahjjaaaGreatDoor.PFnGraphs
open Go.RowKit Go.Proofs.YtafpbabiahjjaaaGreatDoorW.PrintWords Go.Proofs.YtafpbabiahjjaaaGreatDoorW.PrintLast Go.Proofs.YtafpbabiahjjaaaGreatDoorW.PrintMore
attribute [local go_sem] max2_int min2_int max_two min_two max_three min_three max_four min_four   -- for this text's walks alone
set_option linter.unusedVariables false
set_option linter.unusedSimpArgs false

/-! ### laws_FnGraphs: function 3 -/
mutual
def laws_FnGraphs.j0 : Nat → List (List Int) → List Int → List Int → Bool → Option (Bool)
 | 0, _, _, _, _ => none
 | k + 1, x3, x4, x14, x128 => if x128 = true then (some false) else ((impl_GraphText.f k x3).bind fun t772 => ((impl_ParseGraph.f k t772).bind fun bt773 => ((spec_GraphText.f k x3).bind fun t777 => (if t772.toList = t777.toList then ((spec_IsGraph.f k x3).bind fun t778 => (if (bt773.2 != t778) = true then (laws_FnGraphs.j1 k x3 x4 x14 bt773.2 true) else (if bt773.2 = true then ((laws_sameLists.f k bt773.1 x3).bind fun t779 => (laws_FnGraphs.j1 k x3 x4 x14 bt773.2 (!t779))) else (laws_FnGraphs.j1 k x3 x4 x14 bt773.2 false)))) else (laws_FnGraphs.j1 k x3 x4 x14 bt773.2 true)))))
def laws_FnGraphs.j1 : Nat → List (List Int) → List Int → List Int → Bool → Bool → Option (Bool)
 | 0, _, _, _, _, _ => none
 | k + 1, x3, x4, x14, x17, x154 => if x154 = true then (some false) else (if x17 = true then ((impl_DegreesOf.f k x3).bind fun t781 => (laws_FnGraphs.l0 k x3 x4 x14 t781 0 0)) else (if (x14.length : Int) = 0 then ((impl_CountRotations.f k x3).bind fun t780 => (some (t780 == (-1)))) else (some false)))
def laws_FnGraphs.l0 : Nat → List (List Int) → List Int → List Int → List Int → Int → Int → Option (Bool)
 | 0, _, _, _, _, _, _ => none
 | k + 1, x3, x4, x14, x18, x19, x20 => if x20 < (x18.length : Int) then (if 0 ≤ x20 then (if (rd x18 x20) > 0 then (laws_FnGraphs.l0 k x3 x4 x14 x18 (wrap64 (x19 + 1)) (wrap64 (x20 + 1))) else (laws_FnGraphs.l0 k x3 x4 x14 x18 x19 (wrap64 (x20 + 1)))) else (none)) else ((laws_total.f k x18).bind fun t785 => (if t785 = (wrap64 (2 * (x3.length : Int))) then ((spec_CyclesOf.f k x14).bind fun t786 => (if (t786.length : Int) = x19 then (if (x4.length : Int) > 0 then ((laws_total.f k x4).bind fun t789 => ((impl_CountRotations.f k x3).bind fun t790 => (laws_FnGraphs.j3 k x3 x14 (t789 != t790)))) else (laws_FnGraphs.j3 k x3 x14 false)) else (laws_FnGraphs.j3 k x3 x14 true))) else (laws_FnGraphs.j3 k x3 x14 true)))
def laws_FnGraphs.j3 : Nat → List (List Int) → List Int → Bool → Option (Bool)
 | 0, _, _, _ => none
 | k + 1, x3, x14, x204 => if x204 = true then (some false) else ((impl_LeastGenus.f k x3).bind fun t791 => (if t791 < 0 then (some true) else ((spec_GenusOf.f k x14).bind fun t792 => (if t792 ≥ t791 then (if (x3.length : Int) > 8 then (some true) else (some (t791 == 0))) else (some false)))))
end
def laws_FnGraphs.f (k : Nat) (l0 : List Int) : Option (Bool) := (laws_big.f l0).bind fun t706 => (if t706 = true then (some true) else ((spec_DrawGenusRow.f k l0).bind fun t707 => ((impl_GenusRow.f k t707).bind fun t710 => ((spec_DrawParseGraph.f k l0).bind fun t713 => ((impl_ParseGraph.f k t713).bind fun bt714 => ((spec_ParseGraph.f k t713).bind fun bt718 => ((spec_DrawCompleteGraph.f k l0).bind fun t722 => ((spec_DrawBipartiteGraph.f k l0).bind fun bt723 => ((spec_DrawRingGraph.f k l0).bind fun t725 => ((impl_FirstRotation.f k t707).bind fun t726 => ((spec_GenusRow.f k t707).bind fun t729 => ((laws_sameInts.f k t710 t729).bind fun t732 => (if t732 = true then (if (bt714.2 != bt718.2) = true then (laws_FnGraphs.j0 k t707 t710 t726 true) else ((laws_sameLists.f k bt714.1 bt718.1).bind fun t733 => (if t733 = true then ((impl_CompleteGraph.f k t722).bind fun t734 => ((spec_CompleteGraph.f k t722).bind fun t737 => ((laws_sameLists.f k t734 t737).bind fun t740 => (if t740 = true then ((impl_BipartiteGraph.f k bt723.1 bt723.2).bind fun t741 => ((spec_BipartiteGraph.f k bt723.1 bt723.2).bind fun t744 => ((laws_sameLists.f k t741 t744).bind fun t747 => (if t747 = true then ((impl_RingGraph.f k t725).bind fun t748 => ((spec_RingGraph.f k t725).bind fun t751 => ((laws_sameLists.f k t748 t751).bind fun t754 => (if t754 = true then ((spec_FirstRotation.f k t707).bind fun t755 => ((laws_sameInts.f k t726 t755).bind fun t758 => (if t758 = true then ((impl_IsGraph.f k t707).bind fun t759 => ((spec_IsGraph.f k t707).bind fun t760 => (if (t759 != t760) = true then (laws_FnGraphs.j0 k t707 t710 t726 true) else ((impl_DegreesOf.f k t707).bind fun t761 => ((spec_DegreesOf.f k t707).bind fun t764 => ((laws_sameInts.f k t761 t764).bind fun t767 => (if t767 = true then ((impl_CountRotations.f k t707).bind fun t768 => ((spec_CountRotations.f k t707).bind fun t769 => (if t768 = t769 then ((impl_LeastGenus.f k t707).bind fun t770 => ((spec_LeastGenus.f k t707).bind fun t771 => (laws_FnGraphs.j0 k t707 t710 t726 (t770 != t771)))) else (laws_FnGraphs.j0 k t707 t710 t726 true)))) else (laws_FnGraphs.j0 k t707 t710 t726 true)))))))) else (laws_FnGraphs.j0 k t707 t710 t726 true)))) else (laws_FnGraphs.j0 k t707 t710 t726 true))))) else (laws_FnGraphs.j0 k t707 t710 t726 true))))) else (laws_FnGraphs.j0 k t707 t710 t726 true))))) else (laws_FnGraphs.j0 k t707 t710 t726 true)))) else (laws_FnGraphs.j0 k t707 t710 t726 true))))))))))))))
theorem laws_FnGraphs_no_j0 : ∀ k a0 a1 a2, ¬ (laws_FnGraphs.j0 k a0 a1 a2 true = some true) := by
 intro k a0 a1 a2 h
 cases k with
 | zero => simp [laws_FnGraphs.j0] at h
 | succ k => rw [laws_FnGraphs.j0, if_pos rfl] at h; cases h
theorem laws_FnGraphs_no_j1 : ∀ k a0 a1 a2 a3, ¬ (laws_FnGraphs.j1 k a0 a1 a2 a3 true = some true) := by
 intro k a0 a1 a2 a3 h
 cases k with
 | zero => simp [laws_FnGraphs.j1] at h
 | succ k => rw [laws_FnGraphs.j1, if_pos rfl] at h; cases h
set_option maxHeartbeats 8000000 in
set_option maxRecDepth 100000 in
theorem laws_FnGraphs.calls (k : Nat) (A0 : Option Addr) (c0 : Nat) (l0 : List Int) (w : World) (hr0 : Kd.C (Kd.int .u8) w A0 l0.length l0) (hc0 : l0.length ≤ c0) (h : laws_FnGraphs.f k l0 = some true) (ht : Tab10 w) :
  Calls Tryz.prog 3 #[.slice A0 l0.length c0] w fun e w' => e = .returned (.bool true) ∧ Below w.heap.size w w' := by
 have HR0 := Aside0.mk hr0
 have HC0 := Aside0.mk hc0
 clear hr0 hc0
 have HB := Aside0.mk (Below.refl w.heap.size w)
 have H : ((laws_big.f l0).bind fun t706 => (if t706 = true then (some true) else ((spec_DrawGenusRow.f k l0).bind fun t707 => ((impl_GenusRow.f k t707).bind fun t710 => ((spec_DrawParseGraph.f k l0).bind fun t713 => ((impl_ParseGraph.f k t713).bind fun bt714 => ((spec_ParseGraph.f k t713).bind fun bt718 => ((spec_DrawCompleteGraph.f k l0).bind fun t722 => ((spec_DrawBipartiteGraph.f k l0).bind fun bt723 => ((spec_DrawRingGraph.f k l0).bind fun t725 => ((impl_FirstRotation.f k t707).bind fun t726 => ((spec_GenusRow.f k t707).bind fun t729 => ((laws_sameInts.f k t710 t729).bind fun t732 => (if t732 = true then (if (bt714.2 != bt718.2) = true then (laws_FnGraphs.j0 k t707 t710 t726 true) else ((laws_sameLists.f k bt714.1 bt718.1).bind fun t733 => (if t733 = true then ((impl_CompleteGraph.f k t722).bind fun t734 => ((spec_CompleteGraph.f k t722).bind fun t737 => ((laws_sameLists.f k t734 t737).bind fun t740 => (if t740 = true then ((impl_BipartiteGraph.f k bt723.1 bt723.2).bind fun t741 => ((spec_BipartiteGraph.f k bt723.1 bt723.2).bind fun t744 => ((laws_sameLists.f k t741 t744).bind fun t747 => (if t747 = true then ((impl_RingGraph.f k t725).bind fun t748 => ((spec_RingGraph.f k t725).bind fun t751 => ((laws_sameLists.f k t748 t751).bind fun t754 => (if t754 = true then ((spec_FirstRotation.f k t707).bind fun t755 => ((laws_sameInts.f k t726 t755).bind fun t758 => (if t758 = true then ((impl_IsGraph.f k t707).bind fun t759 => ((spec_IsGraph.f k t707).bind fun t760 => (if (t759 != t760) = true then (laws_FnGraphs.j0 k t707 t710 t726 true) else ((impl_DegreesOf.f k t707).bind fun t761 => ((spec_DegreesOf.f k t707).bind fun t764 => ((laws_sameInts.f k t761 t764).bind fun t767 => (if t767 = true then ((impl_CountRotations.f k t707).bind fun t768 => ((spec_CountRotations.f k t707).bind fun t769 => (if t768 = t769 then ((impl_LeastGenus.f k t707).bind fun t770 => ((spec_LeastGenus.f k t707).bind fun t771 => (laws_FnGraphs.j0 k t707 t710 t726 (t770 != t771)))) else (laws_FnGraphs.j0 k t707 t710 t726 true)))) else (laws_FnGraphs.j0 k t707 t710 t726 true)))))))) else (laws_FnGraphs.j0 k t707 t710 t726 true)))) else (laws_FnGraphs.j0 k t707 t710 t726 true))))) else (laws_FnGraphs.j0 k t707 t710 t726 true))))) else (laws_FnGraphs.j0 k t707 t710 t726 true))))) else (laws_FnGraphs.j0 k t707 t710 t726 true)))) else (laws_FnGraphs.j0 k t707 t710 t726 true))))))))))))))) = some true := h
 clear h
 obtain ⟨t706, A2, H⟩ := bs H
 by_cases c3 : t706 = true
 ·subst c3
  have H1 : (some true) = some true := rfl
  clear H
  have H := H1
  clear H1
  go_enter Tryz.func3, Tryz.ntmps3
  go_wp2_with (first | ((with_reducible refine gate_callee (f := 4) rfl ?_); refine goesL_ (some 23) rfl rfl Tryz.func4 (by kernel_rfl) rfl #[.slice A0 l0.length c0] rfl mp_ ?_; (with_reducible refine (laws_big.calls _ _ l0 true _ ?side1 ?side2 A2.out).mono ?_); (case side1 => exact C_l HR0.out); (case side2 => exact HC0.out); rintro e w' ⟨rfl, ⟨nd, rfl⟩⟩; refine ⟨_, rfl, ?_⟩))
  go_ret
  exact ⟨rE, tb⟩
 ·replace c3 := Bool.eq_false_iff.mpr c3
  subst c3
  rw [if_neg (show ¬ (false = true) by decide)] at H
  obtain ⟨t707, A4, H⟩ := bs H
  obtain ⟨t710, A5, H⟩ := bs H
  obtain ⟨t713, A6, H⟩ := bs H
  obtain ⟨⟨t714, t715⟩, A7, H⟩ := bs H
  try dsimp only at H
  obtain ⟨⟨t718, t719⟩, A8, H⟩ := bs H
  try dsimp only at H
  obtain ⟨t722, A9, H⟩ := bs H
  obtain ⟨⟨t723, t724⟩, A10, H⟩ := bs H
  try dsimp only at H
  obtain ⟨t725, A11, H⟩ := bs H
  obtain ⟨t726, A12, H⟩ := bs H
  have HC13 := Aside0.mk H
  go_enter Tryz.func3, Tryz.ntmps3
  go_upto_region 12 with (first | ((with_reducible refine gate_callee (f := 4) rfl ?_); refine goesL_ (some 23) rfl rfl Tryz.func4 (by kernel_rfl) rfl #[.slice A0 l0.length c0] rfl mp_ ?_; (with_reducible refine (laws_big.calls _ _ l0 false _ ?side1 ?side2 A2.out).mono ?_); (case side1 => exact C_l HR0.out); (case side2 => exact HC0.out); rintro e w' ⟨rfl, ⟨nd, rfl⟩⟩; refine ⟨_, rfl, ?_⟩) | ((with_reducible refine gate_callee (f := 5) rfl ?_); refine goesL_ (some 25) rfl rfl Tryz.func5 (by kernel_rfl) rfl #[.slice A0 l0.length c0] rfl mp_ ?_; (with_reducible refine (spec_DrawGenusRow.calls k _ _ l0 t707 _ ?side1 ?side2 A4.out).mono ?_); (case side1 => exact C_l HR0.out); (case side2 => exact HC0.out); rintro e w14 ⟨v708, rfl, ho0, hb⟩; refine ⟨_, rfl, ?_⟩; have HO709 := Aside0.mk (Kd.V_lower (Kd.V_mono (ok' := fun k_ => True) ho0 (fun k_ hk_ => trivial)) (below_size tb)); replace HB := Aside0.mk (below_step tb hb); obtain ⟨Ao15, co15, eo15⟩ := Kd.V_slice HO709.out; subst eo15) | ((with_reducible refine gate_callee (f := 6) rfl ?_); refine goesL_ (some 27) rfl rfl Tryz.func6 (by kernel_rfl) rfl #[.slice Ao15 t707.length co15] rfl mp_ ?_; (with_reducible refine (impl_GenusRow.calls k _ _ t707 t710 _ ?side1 ?side2 A5.out).mono ?_); (case side1 => exact C_l ((Kd.V_reads' HO709.out).2.2)); (case side2 => exact (Kd.V_reads' HO709.out).2.1); rintro e w16 ⟨v711, rfl, ho0, hb⟩; refine ⟨_, rfl, ?_⟩; replace HO709 := Aside0.mk (Kd.V_elder' (by (with_reducible repeat (first | apply Kd.V_alloc | apply Kd.V_drewN | apply Kd.V_drew)); exact HO709.out) (Kd.R_base ho0) hb); have HO712 := Aside0.mk (Kd.R_lower ho0 (below_size tb)); replace HB := Aside0.mk (below_step tb hb)) | ((with_reducible refine gate_callee (f := 7) rfl ?_); refine goesL_ (some 29) rfl rfl Tryz.func7 (by kernel_rfl) rfl #[.slice A0 l0.length c0] rfl mp_ ?_; (with_reducible refine (spec_DrawParseGraph.calls k _ _ l0 t713 _ ?side1 ?side2 A6.out).mono ?_); (case side1 => exact C_l (Kd.C_below HR0.out HB.out)); (case side2 => exact HC0.out); rintro e w17 ⟨rfl, hb⟩; refine ⟨_, rfl, ?_⟩; replace HO709 := Aside0.mk (Kd.V_below (by (with_reducible repeat (first | apply Kd.V_alloc | apply Kd.V_drewN | apply Kd.V_drew)); exact HO709.out) hb); replace HO712 := Aside0.mk (rB HO712.out hb); replace HB := Aside0.mk (below_step tb hb)) | ((with_reducible refine gate_callee (f := 8) rfl ?_); refine goesL_ (some 32) rfl rfl Tryz.func8 (by kernel_rfl) rfl #[.string t713] rfl mp_ ?_; (with_reducible refine (impl_ParseGraph.calls k t713 t714 t715 _ A7.out).mono ?_); rintro e w18 ⟨v716, rfl, ho0, hb⟩; refine ⟨_, rfl, ?_⟩; replace HO709 := Aside0.mk (Kd.V_elder' (by (with_reducible repeat (first | apply Kd.V_alloc | apply Kd.V_drewN | apply Kd.V_drew)); exact HO709.out) (Kd.S_base ho0) hb); have HO717 := Aside0.mk (Kd.S_lower (Kd.S_new' ho0 (Kd.R_lt (R_l HO712.out))) (below_size tb)); replace HO712 := Aside0.mk (rB HO712.out hb); replace HB := Aside0.mk (below_step tb hb)) | ((with_reducible refine gate_callee (f := 9) rfl ?_); refine goesL_ (some 37) rfl rfl Tryz.func9 (by kernel_rfl) rfl #[.string t713] rfl mp_ ?_; (with_reducible refine (spec_ParseGraph.calls k t713 t718 t719 _ A8.out).mono ?_); rintro e w19 ⟨v720, rfl, ho0, hb⟩; refine ⟨_, rfl, ?_⟩; replace HO709 := Aside0.mk (Kd.V_elder' (by (with_reducible repeat (first | apply Kd.V_alloc | apply Kd.V_drewN | apply Kd.V_drew)); exact HO709.out) (Kd.S_base ho0) hb); have HO721 := Aside0.mk (Kd.S_lower (Kd.S_new' (Kd.S_new' ho0 (Kd.R_lt (R_l HO712.out))) (Kd.S_lt (S_l HO717.out))) (below_size tb)); replace HO712 := Aside0.mk (rB HO712.out hb); replace HO717 := Aside0.mk (Kd.S_elder' (S_l HO717.out) (Kd.S_base ho0) hb); replace HB := Aside0.mk (below_step tb hb)) | ((with_reducible refine gate_callee (f := 10) rfl ?_); refine goesL_ (some 41) rfl rfl Tryz.func10 (by kernel_rfl) rfl #[.slice A0 l0.length c0] rfl mp_ ?_; (with_reducible refine (spec_DrawCompleteGraph.calls k _ _ l0 t722 _ ?side1 ?side2 A9.out).mono ?_); (case side1 => exact C_l (Kd.C_below HR0.out HB.out)); (case side2 => exact HC0.out); rintro e w20 ⟨rfl, hb⟩; refine ⟨_, rfl, ?_⟩; replace HO709 := Aside0.mk (Kd.V_below (by (with_reducible repeat (first | apply Kd.V_alloc | apply Kd.V_drewN | apply Kd.V_drew)); exact HO709.out) hb); replace HO712 := Aside0.mk (rB HO712.out hb); replace HO717 := Aside0.mk (sB HO717.out hb); replace HO721 := Aside0.mk (sB HO721.out hb); replace HB := Aside0.mk (below_step tb hb)) | ((with_reducible refine gate_callee (f := 11) rfl ?_); refine goesL_ (some 44) rfl rfl Tryz.func11 (by kernel_rfl) rfl #[.slice A0 l0.length c0] rfl mp_ ?_; (with_reducible refine (spec_DrawBipartiteGraph.calls k _ _ l0 t723 t724 _ ?side1 ?side2 A10.out).mono ?_); (case side1 => exact C_l (Kd.C_below HR0.out HB.out)); (case side2 => exact HC0.out); rintro e w21 ⟨rfl, hb⟩; refine ⟨_, rfl, ?_⟩; replace HO709 := Aside0.mk (Kd.V_below (by (with_reducible repeat (first | apply Kd.V_alloc | apply Kd.V_drewN | apply Kd.V_drew)); exact HO709.out) hb); replace HO712 := Aside0.mk (rB HO712.out hb); replace HO717 := Aside0.mk (sB HO717.out hb); replace HO721 := Aside0.mk (sB HO721.out hb); replace HB := Aside0.mk (below_step tb hb)) | ((with_reducible refine gate_callee (f := 12) rfl ?_); refine goesL_ (some 48) rfl rfl Tryz.func12 (by kernel_rfl) rfl #[.slice A0 l0.length c0] rfl mp_ ?_; (with_reducible refine (spec_DrawRingGraph.calls k _ _ l0 t725 _ ?side1 ?side2 A11.out).mono ?_); (case side1 => exact C_l (Kd.C_below HR0.out HB.out)); (case side2 => exact HC0.out); rintro e w22 ⟨rfl, hb⟩; refine ⟨_, rfl, ?_⟩; replace HO709 := Aside0.mk (Kd.V_below (by (with_reducible repeat (first | apply Kd.V_alloc | apply Kd.V_drewN | apply Kd.V_drew)); exact HO709.out) hb); replace HO712 := Aside0.mk (rB HO712.out hb); replace HO717 := Aside0.mk (sB HO717.out hb); replace HO721 := Aside0.mk (sB HO721.out hb); replace HB := Aside0.mk (below_step tb hb)) | ((with_reducible refine gate_callee (f := 13) rfl ?_); refine goesL_ (some 50) rfl rfl Tryz.func13 (by kernel_rfl) rfl #[.slice Ao15 t707.length co15] rfl mp_ ?_; (with_reducible refine (impl_FirstRotation.calls k _ _ t707 t726 _ ?side1 ?side2 A12.out).mono ?_); (case side1 => exact C_l ((Kd.V_reads' HO709.out).2.2)); (case side2 => exact (Kd.V_reads' HO709.out).2.1); rintro e w23 ⟨v727, rfl, ho0, hb⟩; refine ⟨_, rfl, ?_⟩; replace HO709 := Aside0.mk (Kd.V_elder' (by (with_reducible repeat (first | apply Kd.V_alloc | apply Kd.V_drewN | apply Kd.V_drew)); exact HO709.out) (Kd.R_base ho0) hb); replace HO717 := Aside0.mk (Kd.S_elder' (S_l HO717.out) (Kd.R_base ho0) hb); replace HO721 := Aside0.mk (Kd.S_elder' (S_l HO721.out) (Kd.R_base ho0) hb); have HO728 := Aside0.mk (Kd.R_lower (Kd.R_new' ho0 (Kd.R_lt (R_l HO712.out))) (below_size tb)); replace HO712 := Aside0.mk (Kd.R_elder' (R_l HO712.out) (Kd.R_base ho0) hb); replace HB := Aside0.mk (below_step tb hb)))
  (try simp only [Act.put, List.setIfInBounds_toArray, List.set_cons_zero, List.set_cons_succ])
  go_cut [128] (fun v128 wc => ∃ (kq : Nat) (x128_12 : Bool), v128 = .bool x128_12 ∧ Aside0 (laws_FnGraphs.j0 kq t707 t710 t726 x128_12 = some true) ∧ Aside0 (kq ≤ k) ∧ Aside0 (Kd.V (Kd.slice 3 (Kd.int .i64)) 26 wc w.heap.size (fun k_ => some k_ ≠ (v711 : Value).ownBlock ∧ some k_ ≠ (v727 : Value).ownBlock) (.slice Ao15 t707.length co15) t707) ∧ Aside0 (Kd.R (Kd.int .i64) 3 wc w.heap.size (fun k_ => some k_ ≠ (v727 : Value).ownBlock) v711 t710) ∧ Aside0 (Kd.R (Kd.int .i64) 3 wc w.heap.size (fun k_ => some k_ ≠ (v711 : Value).ownBlock) v727 t726) ∧ Aside0 (Below w.heap.size w wc))
  case first => as_aux_lemma =>
   have H := HC13.out
   clear HC13
   obtain ⟨t729, A24, H⟩ := bs H
   obtain ⟨t732, A25, H⟩ := bs H
   by_cases c26 : t732 = true
   ·subst c26
    rw [if_pos rfl] at H
    by_cases c27 : (t715 != t719) = true
    ·rw [if_pos c27] at H
     exact absurd H (laws_FnGraphs_no_j0 _ _ _ _)
    ·rw [if_neg c27] at H
     have c27b0 : (t715 != t719) = false := by simpa using c27
     (try (have c27b1 : decide (t715 = t719) = true := by simpa using c27))
     (try (have c27b2 : (t715 == t719) = true := by simpa using c27))
     clear c27
     (first | rw [c27b0] | (simp only [i64_w, i32_w]; rw [c27b0]) | skip)
     obtain ⟨t733, A31, H⟩ := bs H
     by_cases c32 : t733 = true
     ·subst c32
      rw [if_pos rfl] at H
      obtain ⟨t734, A33, H⟩ := bs H
      obtain ⟨t737, A34, H⟩ := bs H
      obtain ⟨t740, A35, H⟩ := bs H
      by_cases c36 : t740 = true
      ·subst c36
       rw [if_pos rfl] at H
       obtain ⟨t741, A37, H⟩ := bs H
       obtain ⟨t744, A38, H⟩ := bs H
       obtain ⟨t747, A39, H⟩ := bs H
       by_cases c40 : t747 = true
       ·subst c40
        rw [if_pos rfl] at H
        obtain ⟨t748, A41, H⟩ := bs H
        obtain ⟨t751, A42, H⟩ := bs H
        obtain ⟨t754, A43, H⟩ := bs H
        by_cases c44 : t754 = true
        ·subst c44
         rw [if_pos rfl] at H
         obtain ⟨t755, A45, H⟩ := bs H
         obtain ⟨t758, A46, H⟩ := bs H
         by_cases c47 : t758 = true
         ·subst c47
          rw [if_pos rfl] at H
          obtain ⟨t759, A48, H⟩ := bs H
          obtain ⟨t760, A49, H⟩ := bs H
          by_cases c50 : (t759 != t760) = true
          ·rw [if_pos c50] at H
           exact absurd H (laws_FnGraphs_no_j0 _ _ _ _)
          ·rw [if_neg c50] at H
           have c50b0 : (t759 != t760) = false := by simpa using c50
           (try (have c50b1 : decide (t759 = t760) = true := by simpa using c50))
           (try (have c50b2 : (t759 == t760) = true := by simpa using c50))
           clear c50
           obtain ⟨t761, A72, H⟩ := bs H
           obtain ⟨t764, A73, H⟩ := bs H
           obtain ⟨t767, A74, H⟩ := bs H
           by_cases c75 : t767 = true
           ·subst c75
            rw [if_pos rfl] at H
            obtain ⟨t768, A76, H⟩ := bs H
            obtain ⟨t769, A77, H⟩ := bs H
            by_cases c78 : t768 = t769
            ·rw [if_pos c78] at H
             have c78b0 : (t768 == t769) = true := beq_iff_eq.mpr c78
             have c78b1 : (t768 != t769) = false := bne_eq_false_iff_eq.mpr c78
             clear c78
             obtain ⟨t770, A79, H⟩ := bs H
             obtain ⟨t771, A80, H⟩ := bs H
             have H' := Aside0.mk H
             go_wp2_with (first | (go_at_call 15; (with_reducible refine (spec_GenusRow.calls k _ _ t707 t729 _ ?side1 ?side2 A24.out).mono ?_); (case side1 => exact C_l ((Kd.V_reads' HO709.out).2.2)); (case side2 => exact (Kd.V_reads' HO709.out).2.1); rintro e w81 ⟨v730, rfl, ho0, hb⟩; replace HO709 := Aside0.mk (Kd.V_elder' (by (with_reducible repeat (first | apply Kd.V_alloc | apply Kd.V_drewN | apply Kd.V_drew)); exact HO709.out) (Kd.R_base ho0) hb); replace HO717 := Aside0.mk (Kd.S_elder' (S_l HO717.out) (Kd.R_base ho0) hb); replace HO721 := Aside0.mk (Kd.S_elder' (S_l HO721.out) (Kd.R_base ho0) hb); have HO731 := Aside0.mk (Kd.R_lower (Kd.R_new' (Kd.R_new' ho0 (Kd.R_lt (R_l HO712.out))) (Kd.R_lt (R_l HO728.out))) (below_size tb)); replace HO712 := Aside0.mk (Kd.R_elder' (R_l HO712.out) (Kd.R_base ho0) hb); replace HO728 := Aside0.mk (Kd.R_elder' (R_l HO728.out) (Kd.R_base ho0) hb); replace HB := Aside0.mk (below_step tb hb); obtain ⟨Ao82, co82, eo82⟩ := Kd.R_slice HO712.out; subst eo82; obtain ⟨Ao83, co83, eo83⟩ := Kd.R_slice HO731.out; subst eo83) | (go_at_call 14; (with_reducible refine (laws_sameInts.calls k _ _ t710 _ _ t729 true _ ?side1 ?side2 ?side3 ?side4 A25.out).mono ?_); (case side1 => exact C_l ((Kd.R_reads' HO712.out).2.2)); (case side2 => exact (Kd.R_reads' HO712.out).2.1); (case side3 => exact C_l ((Kd.R_reads' HO731.out).2.2)); (case side4 => exact (Kd.R_reads' HO731.out).2.1); rintro e w' ⟨rfl, ⟨nd, rfl⟩⟩; obtain ⟨Ao84, co84, eo84⟩ := Kd.S_slice HO717.out; subst eo84; obtain ⟨Ao85, co85, eo85⟩ := Kd.S_slice HO721.out; subst eo85) | (go_at_call 16; (with_reducible refine (laws_sameLists.calls k _ _ t714 _ _ t718 true _ ?side1 ?side2 ?side3 ?side4 A31.out).mono ?_); (case side1 => exact C_l ((Kd.S_reads' HO717.out).2.2)); (case side2 => exact (Kd.S_reads' HO717.out).2.1); (case side3 => exact C_l ((Kd.S_reads' HO721.out).2.2)); (case side4 => exact (Kd.S_reads' HO721.out).2.1); rintro e w' ⟨rfl, ⟨nd, rfl⟩⟩) | (go_at_call 17; (with_reducible refine (impl_CompleteGraph.calls k t722 t734 _ A33.out).mono ?_); rintro e w86 ⟨v735, rfl, ho0, hb⟩; replace HO709 := Aside0.mk (Kd.V_below (by (with_reducible repeat (first | apply Kd.V_alloc | apply Kd.V_drewN | apply Kd.V_drew)); exact HO709.out) hb); have HO736 := Aside0.mk (Kd.V_lower (Kd.V_mono (ok' := fun k_ => some k_ ≠ (.slice Ao82 t710.length co82 : Value).ownBlock ∧ some k_ ≠ (.slice Ao84 t714.length co84 : Value).ownBlock ∧ some k_ ≠ (.slice Ao85 t718.length co85 : Value).ownBlock ∧ some k_ ≠ (v727 : Value).ownBlock ∧ some k_ ≠ (.slice Ao83 t729.length co83 : Value).ownBlock) (Kd.S_V ho0) (fun k_ hk_ => ⟨(Kd.fresh' (Kd.R_lt (R_l HO712.out)) k_ hk_), (Kd.fresh' (Kd.S_lt (S_l HO717.out)) k_ hk_), (Kd.fresh' (Kd.S_lt (S_l HO721.out)) k_ hk_), (Kd.fresh' (Kd.R_lt (R_l HO728.out)) k_ hk_), (Kd.fresh' (Kd.R_lt (R_l HO731.out)) k_ hk_)⟩)) (below_size tb)); replace HO712 := Aside0.mk (rB HO712.out hb); replace HO717 := Aside0.mk (sB HO717.out hb); replace HO721 := Aside0.mk (sB HO721.out hb); replace HO728 := Aside0.mk (rB HO728.out hb); replace HO731 := Aside0.mk (rB HO731.out hb); replace HB := Aside0.mk (below_step tb hb)) | (go_at_call 18; (with_reducible refine (spec_CompleteGraph.calls k t722 t737 _ A34.out).mono ?_); rintro e w87 ⟨v738, rfl, ho0, hb⟩; replace HO709 := Aside0.mk (Kd.V_below (by (with_reducible repeat (first | apply Kd.V_alloc | apply Kd.V_drewN | apply Kd.V_drew)); exact HO709.out) hb); replace HO736 := Aside0.mk (Kd.V_below (by (with_reducible repeat (first | apply Kd.V_alloc | apply Kd.V_drewN | apply Kd.V_drew)); exact HO736.out) hb); have HO739 := Aside0.mk (Kd.V_lower (Kd.V_mono (ok' := fun k_ => some k_ ≠ (.slice Ao82 t710.length co82 : Value).ownBlock ∧ some k_ ≠ (.slice Ao84 t714.length co84 : Value).ownBlock ∧ some k_ ≠ (.slice Ao85 t718.length co85 : Value).ownBlock ∧ some k_ ≠ (v727 : Value).ownBlock ∧ some k_ ≠ (.slice Ao83 t729.length co83 : Value).ownBlock) (Kd.S_V ho0) (fun k_ hk_ => ⟨(Kd.fresh' (Kd.R_lt (R_l HO712.out)) k_ hk_), (Kd.fresh' (Kd.S_lt (S_l HO717.out)) k_ hk_), (Kd.fresh' (Kd.S_lt (S_l HO721.out)) k_ hk_), (Kd.fresh' (Kd.R_lt (R_l HO728.out)) k_ hk_), (Kd.fresh' (Kd.R_lt (R_l HO731.out)) k_ hk_)⟩)) (below_size tb)); replace HO712 := Aside0.mk (rB HO712.out hb); replace HO717 := Aside0.mk (sB HO717.out hb); replace HO721 := Aside0.mk (sB HO721.out hb); replace HO728 := Aside0.mk (rB HO728.out hb); replace HO731 := Aside0.mk (rB HO731.out hb); replace HB := Aside0.mk (below_step tb hb); obtain ⟨Ao88, co88, eo88⟩ := Kd.V_slice HO736.out; subst eo88; obtain ⟨Ao89, co89, eo89⟩ := Kd.V_slice HO739.out; subst eo89) | (go_at_call 16; (with_reducible refine (laws_sameLists.calls k _ _ t734 _ _ t737 true _ ?side1 ?side2 ?side3 ?side4 A35.out).mono ?_); (case side1 => exact C_l ((Kd.V_reads' HO736.out).2.2)); (case side2 => exact (Kd.V_reads' HO736.out).2.1); (case side3 => exact C_l ((Kd.V_reads' HO739.out).2.2)); (case side4 => exact (Kd.V_reads' HO739.out).2.1); rintro e w' ⟨rfl, ⟨nd, rfl⟩⟩) | (go_at_call 19; (with_reducible refine (impl_BipartiteGraph.calls k t723 t724 t741 _ A37.out).mono ?_); rintro e w90 ⟨v742, rfl, ho0, hb⟩; replace HO709 := Aside0.mk (Kd.V_below (by (with_reducible repeat (first | apply Kd.V_alloc | apply Kd.V_drewN | apply Kd.V_drew)); exact HO709.out) hb); replace HO736 := Aside0.mk (Kd.V_below (by (with_reducible repeat (first | apply Kd.V_alloc | apply Kd.V_drewN | apply Kd.V_drew)); exact HO736.out) hb); replace HO739 := Aside0.mk (Kd.V_below (by (with_reducible repeat (first | apply Kd.V_alloc | apply Kd.V_drewN | apply Kd.V_drew)); exact HO739.out) hb); have HO743 := Aside0.mk (Kd.V_lower (Kd.V_mono (ok' := fun k_ => some k_ ≠ (.slice Ao82 t710.length co82 : Value).ownBlock ∧ some k_ ≠ (.slice Ao84 t714.length co84 : Value).ownBlock ∧ some k_ ≠ (.slice Ao85 t718.length co85 : Value).ownBlock ∧ some k_ ≠ (v727 : Value).ownBlock ∧ some k_ ≠ (.slice Ao83 t729.length co83 : Value).ownBlock) (Kd.S_V ho0) (fun k_ hk_ => ⟨(Kd.fresh' (Kd.R_lt (R_l HO712.out)) k_ hk_), (Kd.fresh' (Kd.S_lt (S_l HO717.out)) k_ hk_), (Kd.fresh' (Kd.S_lt (S_l HO721.out)) k_ hk_), (Kd.fresh' (Kd.R_lt (R_l HO728.out)) k_ hk_), (Kd.fresh' (Kd.R_lt (R_l HO731.out)) k_ hk_)⟩)) (below_size tb)); replace HO712 := Aside0.mk (rB HO712.out hb); replace HO717 := Aside0.mk (sB HO717.out hb); replace HO721 := Aside0.mk (sB HO721.out hb); replace HO728 := Aside0.mk (rB HO728.out hb); replace HO731 := Aside0.mk (rB HO731.out hb); replace HB := Aside0.mk (below_step tb hb)) | (go_at_call 20; (with_reducible refine (spec_BipartiteGraph.calls k t723 t724 t744 _ A38.out).mono ?_); rintro e w91 ⟨v745, rfl, ho0, hb⟩; replace HO709 := Aside0.mk (Kd.V_below (by (with_reducible repeat (first | apply Kd.V_alloc | apply Kd.V_drewN | apply Kd.V_drew)); exact HO709.out) hb); replace HO736 := Aside0.mk (Kd.V_below (by (with_reducible repeat (first | apply Kd.V_alloc | apply Kd.V_drewN | apply Kd.V_drew)); exact HO736.out) hb); replace HO739 := Aside0.mk (Kd.V_below (by (with_reducible repeat (first | apply Kd.V_alloc | apply Kd.V_drewN | apply Kd.V_drew)); exact HO739.out) hb); replace HO743 := Aside0.mk (Kd.V_below (by (with_reducible repeat (first | apply Kd.V_alloc | apply Kd.V_drewN | apply Kd.V_drew)); exact HO743.out) hb); have HO746 := Aside0.mk (Kd.V_lower (Kd.V_mono (ok' := fun k_ => some k_ ≠ (.slice Ao82 t710.length co82 : Value).ownBlock ∧ some k_ ≠ (.slice Ao84 t714.length co84 : Value).ownBlock ∧ some k_ ≠ (.slice Ao85 t718.length co85 : Value).ownBlock ∧ some k_ ≠ (v727 : Value).ownBlock ∧ some k_ ≠ (.slice Ao83 t729.length co83 : Value).ownBlock) (Kd.S_V ho0) (fun k_ hk_ => ⟨(Kd.fresh' (Kd.R_lt (R_l HO712.out)) k_ hk_), (Kd.fresh' (Kd.S_lt (S_l HO717.out)) k_ hk_), (Kd.fresh' (Kd.S_lt (S_l HO721.out)) k_ hk_), (Kd.fresh' (Kd.R_lt (R_l HO728.out)) k_ hk_), (Kd.fresh' (Kd.R_lt (R_l HO731.out)) k_ hk_)⟩)) (below_size tb)); replace HO712 := Aside0.mk (rB HO712.out hb); replace HO717 := Aside0.mk (sB HO717.out hb); replace HO721 := Aside0.mk (sB HO721.out hb); replace HO728 := Aside0.mk (rB HO728.out hb); replace HO731 := Aside0.mk (rB HO731.out hb); replace HB := Aside0.mk (below_step tb hb); obtain ⟨Ao92, co92, eo92⟩ := Kd.V_slice HO743.out; subst eo92; obtain ⟨Ao93, co93, eo93⟩ := Kd.V_slice HO746.out; subst eo93) | (go_at_call 16; (with_reducible refine (laws_sameLists.calls k _ _ t741 _ _ t744 true _ ?side1 ?side2 ?side3 ?side4 A39.out).mono ?_); (case side1 => exact C_l ((Kd.V_reads' HO743.out).2.2)); (case side2 => exact (Kd.V_reads' HO743.out).2.1); (case side3 => exact C_l ((Kd.V_reads' HO746.out).2.2)); (case side4 => exact (Kd.V_reads' HO746.out).2.1); rintro e w' ⟨rfl, ⟨nd, rfl⟩⟩) | (go_at_call 21; (with_reducible refine (impl_RingGraph.calls k t725 t748 _ A41.out).mono ?_); rintro e w94 ⟨v749, rfl, ho0, hb⟩; replace HO709 := Aside0.mk (Kd.V_below (by (with_reducible repeat (first | apply Kd.V_alloc | apply Kd.V_drewN | apply Kd.V_drew)); exact HO709.out) hb); replace HO736 := Aside0.mk (Kd.V_below (by (with_reducible repeat (first | apply Kd.V_alloc | apply Kd.V_drewN | apply Kd.V_drew)); exact HO736.out) hb); replace HO739 := Aside0.mk (Kd.V_below (by (with_reducible repeat (first | apply Kd.V_alloc | apply Kd.V_drewN | apply Kd.V_drew)); exact HO739.out) hb); replace HO743 := Aside0.mk (Kd.V_below (by (with_reducible repeat (first | apply Kd.V_alloc | apply Kd.V_drewN | apply Kd.V_drew)); exact HO743.out) hb); replace HO746 := Aside0.mk (Kd.V_below (by (with_reducible repeat (first | apply Kd.V_alloc | apply Kd.V_drewN | apply Kd.V_drew)); exact HO746.out) hb); have HO750 := Aside0.mk (Kd.V_lower (Kd.V_mono (ok' := fun k_ => some k_ ≠ (.slice Ao82 t710.length co82 : Value).ownBlock ∧ some k_ ≠ (.slice Ao84 t714.length co84 : Value).ownBlock ∧ some k_ ≠ (.slice Ao85 t718.length co85 : Value).ownBlock ∧ some k_ ≠ (v727 : Value).ownBlock ∧ some k_ ≠ (.slice Ao83 t729.length co83 : Value).ownBlock) (Kd.S_V ho0) (fun k_ hk_ => ⟨(Kd.fresh' (Kd.R_lt (R_l HO712.out)) k_ hk_), (Kd.fresh' (Kd.S_lt (S_l HO717.out)) k_ hk_), (Kd.fresh' (Kd.S_lt (S_l HO721.out)) k_ hk_), (Kd.fresh' (Kd.R_lt (R_l HO728.out)) k_ hk_), (Kd.fresh' (Kd.R_lt (R_l HO731.out)) k_ hk_)⟩)) (below_size tb)); replace HO712 := Aside0.mk (rB HO712.out hb); replace HO717 := Aside0.mk (sB HO717.out hb); replace HO721 := Aside0.mk (sB HO721.out hb); replace HO728 := Aside0.mk (rB HO728.out hb); replace HO731 := Aside0.mk (rB HO731.out hb); replace HB := Aside0.mk (below_step tb hb)) | (go_at_call 22; (with_reducible refine (spec_RingGraph.calls k t725 t751 _ A42.out).mono ?_); rintro e w95 ⟨v752, rfl, ho0, hb⟩; replace HO709 := Aside0.mk (Kd.V_below (by (with_reducible repeat (first | apply Kd.V_alloc | apply Kd.V_drewN | apply Kd.V_drew)); exact HO709.out) hb); replace HO736 := Aside0.mk (Kd.V_below (by (with_reducible repeat (first | apply Kd.V_alloc | apply Kd.V_drewN | apply Kd.V_drew)); exact HO736.out) hb); replace HO739 := Aside0.mk (Kd.V_below (by (with_reducible repeat (first | apply Kd.V_alloc | apply Kd.V_drewN | apply Kd.V_drew)); exact HO739.out) hb); replace HO743 := Aside0.mk (Kd.V_below (by (with_reducible repeat (first | apply Kd.V_alloc | apply Kd.V_drewN | apply Kd.V_drew)); exact HO743.out) hb); replace HO746 := Aside0.mk (Kd.V_below (by (with_reducible repeat (first | apply Kd.V_alloc | apply Kd.V_drewN | apply Kd.V_drew)); exact HO746.out) hb); replace HO750 := Aside0.mk (Kd.V_below (by (with_reducible repeat (first | apply Kd.V_alloc | apply Kd.V_drewN | apply Kd.V_drew)); exact HO750.out) hb); have HO753 := Aside0.mk (Kd.V_lower (Kd.V_mono (ok' := fun k_ => some k_ ≠ (.slice Ao82 t710.length co82 : Value).ownBlock ∧ some k_ ≠ (.slice Ao84 t714.length co84 : Value).ownBlock ∧ some k_ ≠ (.slice Ao85 t718.length co85 : Value).ownBlock ∧ some k_ ≠ (v727 : Value).ownBlock ∧ some k_ ≠ (.slice Ao83 t729.length co83 : Value).ownBlock) (Kd.S_V ho0) (fun k_ hk_ => ⟨(Kd.fresh' (Kd.R_lt (R_l HO712.out)) k_ hk_), (Kd.fresh' (Kd.S_lt (S_l HO717.out)) k_ hk_), (Kd.fresh' (Kd.S_lt (S_l HO721.out)) k_ hk_), (Kd.fresh' (Kd.R_lt (R_l HO728.out)) k_ hk_), (Kd.fresh' (Kd.R_lt (R_l HO731.out)) k_ hk_)⟩)) (below_size tb)); replace HO712 := Aside0.mk (rB HO712.out hb); replace HO717 := Aside0.mk (sB HO717.out hb); replace HO721 := Aside0.mk (sB HO721.out hb); replace HO728 := Aside0.mk (rB HO728.out hb); replace HO731 := Aside0.mk (rB HO731.out hb); replace HB := Aside0.mk (below_step tb hb); obtain ⟨Ao96, co96, eo96⟩ := Kd.V_slice HO750.out; subst eo96; obtain ⟨Ao97, co97, eo97⟩ := Kd.V_slice HO753.out; subst eo97) | (go_at_call 16; (with_reducible refine (laws_sameLists.calls k _ _ t748 _ _ t751 true _ ?side1 ?side2 ?side3 ?side4 A43.out).mono ?_); (case side1 => exact C_l ((Kd.V_reads' HO750.out).2.2)); (case side2 => exact (Kd.V_reads' HO750.out).2.1); (case side3 => exact C_l ((Kd.V_reads' HO753.out).2.2)); (case side4 => exact (Kd.V_reads' HO753.out).2.1); rintro e w' ⟨rfl, ⟨nd, rfl⟩⟩) | (go_at_call 23; (with_reducible refine (spec_FirstRotation.calls k _ _ t707 t755 _ ?side1 ?side2 A45.out).mono ?_); (case side1 => exact C_l ((Kd.V_reads' HO709.out).2.2)); (case side2 => exact (Kd.V_reads' HO709.out).2.1); rintro e w98 ⟨v756, rfl, ho0, hb⟩; replace HO709 := Aside0.mk (Kd.V_elder' (by (with_reducible repeat (first | apply Kd.V_alloc | apply Kd.V_drewN | apply Kd.V_drew)); exact HO709.out) (Kd.R_base ho0) hb); replace HO717 := Aside0.mk (Kd.S_elder' (S_l HO717.out) (Kd.R_base ho0) hb); replace HO721 := Aside0.mk (Kd.S_elder' (S_l HO721.out) (Kd.R_base ho0) hb); replace HO736 := Aside0.mk (Kd.V_elder' (by (with_reducible repeat (first | apply Kd.V_alloc | apply Kd.V_drewN | apply Kd.V_drew)); exact HO736.out) (Kd.R_base ho0) hb); replace HO739 := Aside0.mk (Kd.V_elder' (by (with_reducible repeat (first | apply Kd.V_alloc | apply Kd.V_drewN | apply Kd.V_drew)); exact HO739.out) (Kd.R_base ho0) hb); replace HO743 := Aside0.mk (Kd.V_elder' (by (with_reducible repeat (first | apply Kd.V_alloc | apply Kd.V_drewN | apply Kd.V_drew)); exact HO743.out) (Kd.R_base ho0) hb); replace HO746 := Aside0.mk (Kd.V_elder' (by (with_reducible repeat (first | apply Kd.V_alloc | apply Kd.V_drewN | apply Kd.V_drew)); exact HO746.out) (Kd.R_base ho0) hb); replace HO750 := Aside0.mk (Kd.V_elder' (by (with_reducible repeat (first | apply Kd.V_alloc | apply Kd.V_drewN | apply Kd.V_drew)); exact HO750.out) (Kd.R_base ho0) hb); replace HO753 := Aside0.mk (Kd.V_elder' (by (with_reducible repeat (first | apply Kd.V_alloc | apply Kd.V_drewN | apply Kd.V_drew)); exact HO753.out) (Kd.R_base ho0) hb); have HO757 := Aside0.mk (Kd.R_lower (Kd.R_new' (Kd.R_new' (Kd.R_new' ho0 (Kd.R_lt (R_l HO712.out))) (Kd.R_lt (R_l HO728.out))) (Kd.R_lt (R_l HO731.out))) (below_size tb)); replace HO712 := Aside0.mk (Kd.R_elder' (R_l HO712.out) (Kd.R_base ho0) hb); replace HO728 := Aside0.mk (Kd.R_elder' (R_l HO728.out) (Kd.R_base ho0) hb); replace HO731 := Aside0.mk (Kd.R_elder' (R_l HO731.out) (Kd.R_base ho0) hb); replace HB := Aside0.mk (below_step tb hb); obtain ⟨Ao99, co99, eo99⟩ := Kd.R_slice HO728.out; subst eo99; obtain ⟨Ao100, co100, eo100⟩ := Kd.R_slice HO757.out; subst eo100) | (go_at_call 14; (with_reducible refine (laws_sameInts.calls k _ _ t726 _ _ t755 true _ ?side1 ?side2 ?side3 ?side4 A46.out).mono ?_); (case side1 => exact C_l ((Kd.R_reads' HO728.out).2.2)); (case side2 => exact (Kd.R_reads' HO728.out).2.1); (case side3 => exact C_l ((Kd.R_reads' HO757.out).2.2)); (case side4 => exact (Kd.R_reads' HO757.out).2.1); rintro e w' ⟨rfl, ⟨nd, rfl⟩⟩) | (go_at_call 24; (with_reducible refine (impl_IsGraph.calls k _ _ t707 t759 _ ?side1 ?side2 A48.out).mono ?_); (case side1 => exact C_l ((Kd.V_reads' HO709.out).2.2)); (case side2 => exact (Kd.V_reads' HO709.out).2.1); rintro e w' ⟨rfl, ⟨nd, rfl⟩⟩) | (go_at_call 25; (with_reducible refine (spec_IsGraph.calls k _ _ t707 t760 _ ?side1 ?side2 A49.out).mono ?_); (case side1 => exact C_l ((Kd.V_reads' HO709.out).2.2)); (case side2 => exact (Kd.V_reads' HO709.out).2.1); rintro e w101 ⟨rfl, hb⟩; replace HO709 := Aside0.mk (Kd.V_below (by (with_reducible repeat (first | apply Kd.V_alloc | apply Kd.V_drewN | apply Kd.V_drew)); exact HO709.out) hb); replace HO712 := Aside0.mk (rB HO712.out hb); replace HO717 := Aside0.mk (sB HO717.out hb); replace HO721 := Aside0.mk (sB HO721.out hb); replace HO728 := Aside0.mk (rB HO728.out hb); replace HO731 := Aside0.mk (rB HO731.out hb); replace HO736 := Aside0.mk (Kd.V_below (by (with_reducible repeat (first | apply Kd.V_alloc | apply Kd.V_drewN | apply Kd.V_drew)); exact HO736.out) hb); replace HO739 := Aside0.mk (Kd.V_below (by (with_reducible repeat (first | apply Kd.V_alloc | apply Kd.V_drewN | apply Kd.V_drew)); exact HO739.out) hb); replace HO743 := Aside0.mk (Kd.V_below (by (with_reducible repeat (first | apply Kd.V_alloc | apply Kd.V_drewN | apply Kd.V_drew)); exact HO743.out) hb); replace HO746 := Aside0.mk (Kd.V_below (by (with_reducible repeat (first | apply Kd.V_alloc | apply Kd.V_drewN | apply Kd.V_drew)); exact HO746.out) hb); replace HO750 := Aside0.mk (Kd.V_below (by (with_reducible repeat (first | apply Kd.V_alloc | apply Kd.V_drewN | apply Kd.V_drew)); exact HO750.out) hb); replace HO753 := Aside0.mk (Kd.V_below (by (with_reducible repeat (first | apply Kd.V_alloc | apply Kd.V_drewN | apply Kd.V_drew)); exact HO753.out) hb); replace HO757 := Aside0.mk (rB HO757.out hb); replace HB := Aside0.mk (below_step tb hb)) | (go_at_call 26; (with_reducible refine (impl_DegreesOf.calls k _ _ t707 t761 _ ?side1 ?side2 A72.out).mono ?_); (case side1 => exact C_l ((Kd.V_reads' HO709.out).2.2)); (case side2 => exact (Kd.V_reads' HO709.out).2.1); rintro e w102 ⟨v762, rfl, ho0, hb⟩; replace HO709 := Aside0.mk (Kd.V_elder' (by (with_reducible repeat (first | apply Kd.V_alloc | apply Kd.V_drewN | apply Kd.V_drew)); exact HO709.out) (Kd.R_base ho0) hb); replace HO717 := Aside0.mk (Kd.S_elder' (S_l HO717.out) (Kd.R_base ho0) hb); replace HO721 := Aside0.mk (Kd.S_elder' (S_l HO721.out) (Kd.R_base ho0) hb); replace HO736 := Aside0.mk (Kd.V_elder' (by (with_reducible repeat (first | apply Kd.V_alloc | apply Kd.V_drewN | apply Kd.V_drew)); exact HO736.out) (Kd.R_base ho0) hb); replace HO739 := Aside0.mk (Kd.V_elder' (by (with_reducible repeat (first | apply Kd.V_alloc | apply Kd.V_drewN | apply Kd.V_drew)); exact HO739.out) (Kd.R_base ho0) hb); replace HO743 := Aside0.mk (Kd.V_elder' (by (with_reducible repeat (first | apply Kd.V_alloc | apply Kd.V_drewN | apply Kd.V_drew)); exact HO743.out) (Kd.R_base ho0) hb); replace HO746 := Aside0.mk (Kd.V_elder' (by (with_reducible repeat (first | apply Kd.V_alloc | apply Kd.V_drewN | apply Kd.V_drew)); exact HO746.out) (Kd.R_base ho0) hb); replace HO750 := Aside0.mk (Kd.V_elder' (by (with_reducible repeat (first | apply Kd.V_alloc | apply Kd.V_drewN | apply Kd.V_drew)); exact HO750.out) (Kd.R_base ho0) hb); replace HO753 := Aside0.mk (Kd.V_elder' (by (with_reducible repeat (first | apply Kd.V_alloc | apply Kd.V_drewN | apply Kd.V_drew)); exact HO753.out) (Kd.R_base ho0) hb); have HO763 := Aside0.mk (Kd.R_lower (Kd.R_new' (Kd.R_new' (Kd.R_new' (Kd.R_new' ho0 (Kd.R_lt (R_l HO712.out))) (Kd.R_lt (R_l HO728.out))) (Kd.R_lt (R_l HO731.out))) (Kd.R_lt (R_l HO757.out))) (below_size tb)); replace HO712 := Aside0.mk (Kd.R_elder' (R_l HO712.out) (Kd.R_base ho0) hb); replace HO728 := Aside0.mk (Kd.R_elder' (R_l HO728.out) (Kd.R_base ho0) hb); replace HO731 := Aside0.mk (Kd.R_elder' (R_l HO731.out) (Kd.R_base ho0) hb); replace HO757 := Aside0.mk (Kd.R_elder' (R_l HO757.out) (Kd.R_base ho0) hb); replace HB := Aside0.mk (below_step tb hb)) | (go_at_call 27; (with_reducible refine (spec_DegreesOf.calls k _ _ t707 t764 _ ?side1 ?side2 A73.out).mono ?_); (case side1 => exact C_l ((Kd.V_reads' HO709.out).2.2)); (case side2 => exact (Kd.V_reads' HO709.out).2.1); rintro e w103 ⟨v765, rfl, ho0, hb⟩; replace HO709 := Aside0.mk (Kd.V_elder' (by (with_reducible repeat (first | apply Kd.V_alloc | apply Kd.V_drewN | apply Kd.V_drew)); exact HO709.out) (Kd.R_base ho0) hb); replace HO717 := Aside0.mk (Kd.S_elder' (S_l HO717.out) (Kd.R_base ho0) hb); replace HO721 := Aside0.mk (Kd.S_elder' (S_l HO721.out) (Kd.R_base ho0) hb); replace HO736 := Aside0.mk (Kd.V_elder' (by (with_reducible repeat (first | apply Kd.V_alloc | apply Kd.V_drewN | apply Kd.V_drew)); exact HO736.out) (Kd.R_base ho0) hb); replace HO739 := Aside0.mk (Kd.V_elder' (by (with_reducible repeat (first | apply Kd.V_alloc | apply Kd.V_drewN | apply Kd.V_drew)); exact HO739.out) (Kd.R_base ho0) hb); replace HO743 := Aside0.mk (Kd.V_elder' (by (with_reducible repeat (first | apply Kd.V_alloc | apply Kd.V_drewN | apply Kd.V_drew)); exact HO743.out) (Kd.R_base ho0) hb); replace HO746 := Aside0.mk (Kd.V_elder' (by (with_reducible repeat (first | apply Kd.V_alloc | apply Kd.V_drewN | apply Kd.V_drew)); exact HO746.out) (Kd.R_base ho0) hb); replace HO750 := Aside0.mk (Kd.V_elder' (by (with_reducible repeat (first | apply Kd.V_alloc | apply Kd.V_drewN | apply Kd.V_drew)); exact HO750.out) (Kd.R_base ho0) hb); replace HO753 := Aside0.mk (Kd.V_elder' (by (with_reducible repeat (first | apply Kd.V_alloc | apply Kd.V_drewN | apply Kd.V_drew)); exact HO753.out) (Kd.R_base ho0) hb); have HO766 := Aside0.mk (Kd.R_lower (Kd.R_new' (Kd.R_new' (Kd.R_new' (Kd.R_new' (Kd.R_new' ho0 (Kd.R_lt (R_l HO712.out))) (Kd.R_lt (R_l HO728.out))) (Kd.R_lt (R_l HO731.out))) (Kd.R_lt (R_l HO757.out))) (Kd.R_lt (R_l HO763.out))) (below_size tb)); replace HO712 := Aside0.mk (Kd.R_elder' (R_l HO712.out) (Kd.R_base ho0) hb); replace HO728 := Aside0.mk (Kd.R_elder' (R_l HO728.out) (Kd.R_base ho0) hb); replace HO731 := Aside0.mk (Kd.R_elder' (R_l HO731.out) (Kd.R_base ho0) hb); replace HO757 := Aside0.mk (Kd.R_elder' (R_l HO757.out) (Kd.R_base ho0) hb); replace HO763 := Aside0.mk (Kd.R_elder' (R_l HO763.out) (Kd.R_base ho0) hb); replace HB := Aside0.mk (below_step tb hb); obtain ⟨Ao104, co104, eo104⟩ := Kd.R_slice HO763.out; subst eo104; obtain ⟨Ao105, co105, eo105⟩ := Kd.R_slice HO766.out; subst eo105) | (go_at_call 14; (with_reducible refine (laws_sameInts.calls k _ _ t761 _ _ t764 true _ ?side1 ?side2 ?side3 ?side4 A74.out).mono ?_); (case side1 => exact C_l ((Kd.R_reads' HO763.out).2.2)); (case side2 => exact (Kd.R_reads' HO763.out).2.1); (case side3 => exact C_l ((Kd.R_reads' HO766.out).2.2)); (case side4 => exact (Kd.R_reads' HO766.out).2.1); rintro e w' ⟨rfl, ⟨nd, rfl⟩⟩) | (go_at_call 28; (with_reducible refine (impl_CountRotations.calls k _ _ t707 t768 _ ?side1 ?side2 A76.out).mono ?_); (case side1 => exact C_l ((Kd.V_reads' HO709.out).2.2)); (case side2 => exact (Kd.V_reads' HO709.out).2.1); rintro e w106 ⟨rfl, hb⟩; replace HO709 := Aside0.mk (Kd.V_below (by (with_reducible repeat (first | apply Kd.V_alloc | apply Kd.V_drewN | apply Kd.V_drew)); exact HO709.out) hb); replace HO712 := Aside0.mk (rB HO712.out hb); replace HO717 := Aside0.mk (sB HO717.out hb); replace HO721 := Aside0.mk (sB HO721.out hb); replace HO728 := Aside0.mk (rB HO728.out hb); replace HO731 := Aside0.mk (rB HO731.out hb); replace HO736 := Aside0.mk (Kd.V_below (by (with_reducible repeat (first | apply Kd.V_alloc | apply Kd.V_drewN | apply Kd.V_drew)); exact HO736.out) hb); replace HO739 := Aside0.mk (Kd.V_below (by (with_reducible repeat (first | apply Kd.V_alloc | apply Kd.V_drewN | apply Kd.V_drew)); exact HO739.out) hb); replace HO743 := Aside0.mk (Kd.V_below (by (with_reducible repeat (first | apply Kd.V_alloc | apply Kd.V_drewN | apply Kd.V_drew)); exact HO743.out) hb); replace HO746 := Aside0.mk (Kd.V_below (by (with_reducible repeat (first | apply Kd.V_alloc | apply Kd.V_drewN | apply Kd.V_drew)); exact HO746.out) hb); replace HO750 := Aside0.mk (Kd.V_below (by (with_reducible repeat (first | apply Kd.V_alloc | apply Kd.V_drewN | apply Kd.V_drew)); exact HO750.out) hb); replace HO753 := Aside0.mk (Kd.V_below (by (with_reducible repeat (first | apply Kd.V_alloc | apply Kd.V_drewN | apply Kd.V_drew)); exact HO753.out) hb); replace HO757 := Aside0.mk (rB HO757.out hb); replace HO763 := Aside0.mk (rB HO763.out hb); replace HO766 := Aside0.mk (rB HO766.out hb); replace HB := Aside0.mk (below_step tb hb)) | (go_at_call 29; (with_reducible refine (spec_CountRotations.calls k _ _ t707 t769 _ ?side1 ?side2 A77.out).mono ?_); (case side1 => exact C_l ((Kd.V_reads' HO709.out).2.2)); (case side2 => exact (Kd.V_reads' HO709.out).2.1); rintro e w107 ⟨rfl, hb⟩; replace HO709 := Aside0.mk (Kd.V_below (by (with_reducible repeat (first | apply Kd.V_alloc | apply Kd.V_drewN | apply Kd.V_drew)); exact HO709.out) hb); replace HO712 := Aside0.mk (rB HO712.out hb); replace HO717 := Aside0.mk (sB HO717.out hb); replace HO721 := Aside0.mk (sB HO721.out hb); replace HO728 := Aside0.mk (rB HO728.out hb); replace HO731 := Aside0.mk (rB HO731.out hb); replace HO736 := Aside0.mk (Kd.V_below (by (with_reducible repeat (first | apply Kd.V_alloc | apply Kd.V_drewN | apply Kd.V_drew)); exact HO736.out) hb); replace HO739 := Aside0.mk (Kd.V_below (by (with_reducible repeat (first | apply Kd.V_alloc | apply Kd.V_drewN | apply Kd.V_drew)); exact HO739.out) hb); replace HO743 := Aside0.mk (Kd.V_below (by (with_reducible repeat (first | apply Kd.V_alloc | apply Kd.V_drewN | apply Kd.V_drew)); exact HO743.out) hb); replace HO746 := Aside0.mk (Kd.V_below (by (with_reducible repeat (first | apply Kd.V_alloc | apply Kd.V_drewN | apply Kd.V_drew)); exact HO746.out) hb); replace HO750 := Aside0.mk (Kd.V_below (by (with_reducible repeat (first | apply Kd.V_alloc | apply Kd.V_drewN | apply Kd.V_drew)); exact HO750.out) hb); replace HO753 := Aside0.mk (Kd.V_below (by (with_reducible repeat (first | apply Kd.V_alloc | apply Kd.V_drewN | apply Kd.V_drew)); exact HO753.out) hb); replace HO757 := Aside0.mk (rB HO757.out hb); replace HO763 := Aside0.mk (rB HO763.out hb); replace HO766 := Aside0.mk (rB HO766.out hb); replace HB := Aside0.mk (below_step tb hb)) | (go_at_call 30; (with_reducible refine (impl_LeastGenus.calls k _ _ t707 t770 _ ?side1 ?side2 A79.out).mono ?_); (case side1 => exact C_l ((Kd.V_reads' HO709.out).2.2)); (case side2 => exact (Kd.V_reads' HO709.out).2.1); rintro e w108 ⟨rfl, hb⟩; replace HO709 := Aside0.mk (Kd.V_below (by (with_reducible repeat (first | apply Kd.V_alloc | apply Kd.V_drewN | apply Kd.V_drew)); exact HO709.out) hb); replace HO712 := Aside0.mk (rB HO712.out hb); replace HO717 := Aside0.mk (sB HO717.out hb); replace HO721 := Aside0.mk (sB HO721.out hb); replace HO728 := Aside0.mk (rB HO728.out hb); replace HO731 := Aside0.mk (rB HO731.out hb); replace HO736 := Aside0.mk (Kd.V_below (by (with_reducible repeat (first | apply Kd.V_alloc | apply Kd.V_drewN | apply Kd.V_drew)); exact HO736.out) hb); replace HO739 := Aside0.mk (Kd.V_below (by (with_reducible repeat (first | apply Kd.V_alloc | apply Kd.V_drewN | apply Kd.V_drew)); exact HO739.out) hb); replace HO743 := Aside0.mk (Kd.V_below (by (with_reducible repeat (first | apply Kd.V_alloc | apply Kd.V_drewN | apply Kd.V_drew)); exact HO743.out) hb); replace HO746 := Aside0.mk (Kd.V_below (by (with_reducible repeat (first | apply Kd.V_alloc | apply Kd.V_drewN | apply Kd.V_drew)); exact HO746.out) hb); replace HO750 := Aside0.mk (Kd.V_below (by (with_reducible repeat (first | apply Kd.V_alloc | apply Kd.V_drewN | apply Kd.V_drew)); exact HO750.out) hb); replace HO753 := Aside0.mk (Kd.V_below (by (with_reducible repeat (first | apply Kd.V_alloc | apply Kd.V_drewN | apply Kd.V_drew)); exact HO753.out) hb); replace HO757 := Aside0.mk (rB HO757.out hb); replace HO763 := Aside0.mk (rB HO763.out hb); replace HO766 := Aside0.mk (rB HO766.out hb); replace HB := Aside0.mk (below_step tb hb)) | (go_at_call 31; (with_reducible refine (spec_LeastGenus.calls k _ _ t707 t771 _ ?side1 ?side2 A80.out).mono ?_); (case side1 => exact C_l ((Kd.V_reads' HO709.out).2.2)); (case side2 => exact (Kd.V_reads' HO709.out).2.1); rintro e w109 ⟨rfl, hb⟩; replace HO709 := Aside0.mk (Kd.V_below (by (with_reducible repeat (first | apply Kd.V_alloc | apply Kd.V_drewN | apply Kd.V_drew)); exact HO709.out) hb); replace HO712 := Aside0.mk (rB HO712.out hb); replace HO717 := Aside0.mk (sB HO717.out hb); replace HO721 := Aside0.mk (sB HO721.out hb); replace HO728 := Aside0.mk (rB HO728.out hb); replace HO731 := Aside0.mk (rB HO731.out hb); replace HO736 := Aside0.mk (Kd.V_below (by (with_reducible repeat (first | apply Kd.V_alloc | apply Kd.V_drewN | apply Kd.V_drew)); exact HO736.out) hb); replace HO739 := Aside0.mk (Kd.V_below (by (with_reducible repeat (first | apply Kd.V_alloc | apply Kd.V_drewN | apply Kd.V_drew)); exact HO739.out) hb); replace HO743 := Aside0.mk (Kd.V_below (by (with_reducible repeat (first | apply Kd.V_alloc | apply Kd.V_drewN | apply Kd.V_drew)); exact HO743.out) hb); replace HO746 := Aside0.mk (Kd.V_below (by (with_reducible repeat (first | apply Kd.V_alloc | apply Kd.V_drewN | apply Kd.V_drew)); exact HO746.out) hb); replace HO750 := Aside0.mk (Kd.V_below (by (with_reducible repeat (first | apply Kd.V_alloc | apply Kd.V_drewN | apply Kd.V_drew)); exact HO750.out) hb); replace HO753 := Aside0.mk (Kd.V_below (by (with_reducible repeat (first | apply Kd.V_alloc | apply Kd.V_drewN | apply Kd.V_drew)); exact HO753.out) hb); replace HO757 := Aside0.mk (rB HO757.out hb); replace HO763 := Aside0.mk (rB HO763.out hb); replace HO766 := Aside0.mk (rB HO766.out hb); replace HB := Aside0.mk (below_step tb hb)))
             go_meet
             case rel => exact ⟨_, ((t770 != t771)), rS, H', ⟨by first | omega | exact Nat.le_refl _⟩, ⟨by (with_reducible repeat (first | apply Kd.V_alloc | apply Kd.V_drewN | apply Kd.V_drew)); exact Kd.V_mono HO709.out (fun _ hk => ⟨hk.1.1.1.1.1.1.1.2, hk.1.1.1.1.2⟩)⟩, ⟨R_l (Kd.R_mono HO712.out (fun _ hk => hk.1.1.1.1.2))⟩, ⟨R_l (Kd.R_mono HO728.out (fun _ hk => hk.1.1.1.1.2))⟩, ⟨tb⟩⟩
            ·rw [if_neg c78] at H
             exact absurd H (laws_FnGraphs_no_j0 _ _ _ _)
           ·replace c75 := Bool.eq_false_iff.mpr c75
            subst c75
            rw [if_neg (show ¬ (false = true) by decide)] at H
            exact absurd H (laws_FnGraphs_no_j0 _ _ _ _)
         ·replace c47 := Bool.eq_false_iff.mpr c47
          subst c47
          rw [if_neg (show ¬ (false = true) by decide)] at H
          exact absurd H (laws_FnGraphs_no_j0 _ _ _ _)
        ·replace c44 := Bool.eq_false_iff.mpr c44
         subst c44
         rw [if_neg (show ¬ (false = true) by decide)] at H
         exact absurd H (laws_FnGraphs_no_j0 _ _ _ _)
       ·replace c40 := Bool.eq_false_iff.mpr c40
        subst c40
        rw [if_neg (show ¬ (false = true) by decide)] at H
        exact absurd H (laws_FnGraphs_no_j0 _ _ _ _)
      ·replace c36 := Bool.eq_false_iff.mpr c36
       subst c36
       rw [if_neg (show ¬ (false = true) by decide)] at H
       exact absurd H (laws_FnGraphs_no_j0 _ _ _ _)
     ·replace c32 := Bool.eq_false_iff.mpr c32
      subst c32
      rw [if_neg (show ¬ (false = true) by decide)] at H
      exact absurd H (laws_FnGraphs_no_j0 _ _ _ _)
   ·replace c26 := Bool.eq_false_iff.mpr c26
    subst c26
    rw [if_neg (show ¬ (false = true) by decide)] at H
    exact absurd H (laws_FnGraphs_no_j0 _ _ _ _)
  case rest => as_aux_lemma =>
   clear HC13
   try clear c1
   try clear c2
   try clear p2
   try clear c3
   try clear c4
   try clear c5
   try clear c6
   try clear c7
   try clear c8
   try clear c9
   try clear c10
   try clear c11
   try clear c12
   try clear c13
   try clear c14
   try clear c15
   try clear c26
   try clear c27
   try clear c27b0
   try clear c27b1
   try clear c27b2
   try clear c32
   try clear c36
   try clear c40
   try clear c44
   try clear c47
   try clear c50
   try clear c50b0
   try clear c50b1
   try clear c50b2
   try clear c75
   try clear c78
   try clear c78b0
   try clear c78b1
   obtain ⟨kq, x128_12, rfl, HA, HJ12, HO_3, HO_4, HO_14, HB⟩ := hcut
   cases kq with
   | zero => exact absurd HA.out (by simp [laws_FnGraphs.j0])
   | succ kj12 =>
    have H := HA.out
    clear HA
    simp only [laws_FnGraphs.j0] at H
    by_cases c229 : x128_12 = true
    ·subst c229
     rw [if_pos rfl] at H
     exact absurd H (by simp)
    ·replace c229 := Bool.eq_false_iff.mpr c229
     subst c229
     rw [if_neg (show ¬ (false = true) by decide)] at H
     obtain ⟨t772, A230, H⟩ := bs H
     obtain ⟨⟨t773, t774⟩, A231, H⟩ := bs H
     try dsimp only at H
     have HC232 := Aside0.mk H
     go_upto_region 16 with (first | ((with_reducible refine gate_callee (f := 32) rfl ?_); refine goesL_ (some 130) rfl rfl Tryz.func32 (by kernel_rfl) rfl #[.slice Ao15 t707.length co15] rfl mp_ ?_; (with_reducible refine (impl_GraphText.calls kj12 _ _ t707 t772 _ ?side1 ?side2 A230.out (tab10_b ht tb)).mono ?_); (case side1 => exact C_l ((Kd.V_reads' HO_3.out).2.2)); (case side2 => exact (Kd.V_reads' HO_3.out).2.1); rintro e w233 ⟨rfl, hb⟩; refine ⟨_, rfl, ?_⟩; replace HO_3 := Aside0.mk (Kd.V_below (by (with_reducible repeat (first | apply Kd.V_alloc | apply Kd.V_drewN | apply Kd.V_drew)); exact HO_3.out) hb); replace HO_4 := Aside0.mk (rB HO_4.out hb); replace HO_14 := Aside0.mk (rB HO_14.out hb); replace HB := Aside0.mk (below_step tb hb)) | ((with_reducible refine gate_callee (f := 8) rfl ?_); refine goesL_ (some 133) rfl rfl Tryz.func8 (by kernel_rfl) rfl #[.string t772] rfl mp_ ?_; (with_reducible refine (impl_ParseGraph.calls kj12 t772 t773 t774 _ A231.out).mono ?_); rintro e w234 ⟨v775, rfl, ho0, hb⟩; refine ⟨_, rfl, ?_⟩; replace HO_3 := Aside0.mk (Kd.V_elder' (by (with_reducible repeat (first | apply Kd.V_alloc | apply Kd.V_drewN | apply Kd.V_drew)); exact HO_3.out) (Kd.S_base ho0) hb); have HO776 := Aside0.mk (Kd.S_lower (Kd.S_new' (Kd.S_new' ho0 (Kd.R_lt (R_l HO_4.out))) (Kd.R_lt (R_l HO_14.out))) (below_size tb)); replace HO_4 := Aside0.mk (rB HO_4.out hb); replace HO_14 := Aside0.mk (rB HO_14.out hb); replace HB := Aside0.mk (below_step tb hb)))
     (try simp only [Act.put, List.setIfInBounds_toArray, List.set_cons_zero, List.set_cons_succ])
     go_cut [154] (fun v154 wc => ∃ (kq : Nat) (x154_231 : Bool), v154 = .bool x154_231 ∧ Aside0 (laws_FnGraphs.j1 kq t707 t710 t726 t774 x154_231 = some true) ∧ Aside0 (kq ≤ kj12) ∧ Aside0 (Kd.V (Kd.slice 3 (Kd.int .i64)) 26 wc w.heap.size (fun k_ => some k_ ≠ (v711 : Value).ownBlock ∧ some k_ ≠ (v727 : Value).ownBlock) (.slice Ao15 t707.length co15) t707) ∧ Aside0 (Kd.R (Kd.int .i64) 3 wc w.heap.size (fun k_ => some k_ ≠ (v727 : Value).ownBlock) v711 t710) ∧ Aside0 (Kd.R (Kd.int .i64) 3 wc w.heap.size (fun k_ => some k_ ≠ (v711 : Value).ownBlock) v727 t726) ∧ Aside0 (Below w.heap.size w wc))
     case first => as_aux_lemma =>
      have H := HC232.out
      clear HC232
      obtain ⟨t777, A235, H⟩ := bs H
      by_cases c236 : t772.toList = t777.toList
      ·rw [if_pos c236] at H
       have c236b0 : (t772.toList == t777.toList) = true := beq_iff_eq.mpr c236
       have c236b1 : (t772.toList != t777.toList) = false := bne_eq_false_iff_eq.mpr c236
       clear c236
       (first | rw [c236b0] | (simp only [i64_w, i32_w]; rw [c236b0]) | skip)
       obtain ⟨t778, A237, H⟩ := bs H
       by_cases c238 : (t774 != t778) = true
       ·rw [if_pos c238] at H
        exact absurd H (laws_FnGraphs_no_j1 _ _ _ _ _)
       ·rw [if_neg c238] at H
        have c238b0 : (t774 != t778) = false := by simpa using c238
        (try (have c238b1 : decide (t774 = t778) = true := by simpa using c238))
        (try (have c238b2 : (t774 == t778) = true := by simpa using c238))
        clear c238
        by_cases c241 : t774 = true
        ·subst c241
         rw [if_pos rfl] at H
         obtain ⟨t779, A242, H⟩ := bs H
         have H' := Aside0.mk H
         go_wp2_with (first | ((with_reducible refine gate_callee (f := 33) rfl ?_); refine goesL_ (some 138) rfl rfl Tryz.func33 (by kernel_rfl) rfl #[.slice Ao15 t707.length co15] rfl mp_ ?_; (with_reducible refine (spec_GraphText.calls kj12 _ _ t707 t777 _ ?side1 ?side2 A235.out).mono ?_); (case side1 => exact C_l ((Kd.V_reads' HO_3.out).2.2)); (case side2 => exact (Kd.V_reads' HO_3.out).2.1); rintro e w243 ⟨rfl, hb⟩; refine ⟨_, rfl, ?_⟩; replace HO_3 := Aside0.mk (Kd.V_below (by (with_reducible repeat (first | apply Kd.V_alloc | apply Kd.V_drewN | apply Kd.V_drew)); exact HO_3.out) hb); replace HO_4 := Aside0.mk (rB HO_4.out hb); replace HO_14 := Aside0.mk (rB HO_14.out hb); replace HO776 := Aside0.mk (sB HO776.out hb); replace HB := Aside0.mk (below_step tb hb)) | (go_at_call 25; (with_reducible refine (spec_IsGraph.calls kj12 _ _ t707 t778 _ ?side1 ?side2 A237.out).mono ?_); (case side1 => exact C_l ((Kd.V_reads' HO_3.out).2.2)); (case side2 => exact (Kd.V_reads' HO_3.out).2.1); rintro e w244 ⟨rfl, hb⟩; replace HO_3 := Aside0.mk (Kd.V_below (by (with_reducible repeat (first | apply Kd.V_alloc | apply Kd.V_drewN | apply Kd.V_drew)); exact HO_3.out) hb); replace HO_4 := Aside0.mk (rB HO_4.out hb); replace HO_14 := Aside0.mk (rB HO_14.out hb); replace HO776 := Aside0.mk (sB HO776.out hb); replace HB := Aside0.mk (below_step tb hb); obtain ⟨Ao245, co245, eo245⟩ := Kd.S_slice HO776.out; subst eo245) | (go_at_call 16; (with_reducible refine (laws_sameLists.calls kj12 _ _ t773 _ _ t707 t779 _ ?side1 ?side2 ?side3 ?side4 A242.out).mono ?_); (case side1 => exact C_l ((Kd.S_reads' HO776.out).2.2)); (case side2 => exact (Kd.S_reads' HO776.out).2.1); (case side3 => exact C_l ((Kd.V_reads' HO_3.out).2.2)); (case side4 => exact (Kd.V_reads' HO_3.out).2.1); rintro e w' ⟨rfl, ⟨nd, rfl⟩⟩))
         go_meet
         case rel => exact ⟨_, (!t779), rS, H', ⟨by have := HJ12.out; first | omega | exact Nat.le_refl _⟩, ⟨by (with_reducible repeat (first | apply Kd.V_alloc | apply Kd.V_drewN | apply Kd.V_drew)); exact Kd.V_mono HO_3.out (fun _ hk => ⟨hk.1.1, hk.1.2⟩)⟩, ⟨R_l HO_4.out⟩, ⟨R_l HO_14.out⟩, ⟨tb⟩⟩
        ·replace c241 := Bool.eq_false_iff.mpr c241
         subst c241
         rw [if_neg (show ¬ (false = true) by decide)] at H
         have H' := Aside0.mk H
         go_wp2_with (first | ((with_reducible refine gate_callee (f := 33) rfl ?_); refine goesL_ (some 138) rfl rfl Tryz.func33 (by kernel_rfl) rfl #[.slice Ao15 t707.length co15] rfl mp_ ?_; (with_reducible refine (spec_GraphText.calls kj12 _ _ t707 t777 _ ?side1 ?side2 A235.out).mono ?_); (case side1 => exact C_l ((Kd.V_reads' HO_3.out).2.2)); (case side2 => exact (Kd.V_reads' HO_3.out).2.1); rintro e w246 ⟨rfl, hb⟩; refine ⟨_, rfl, ?_⟩; replace HO_3 := Aside0.mk (Kd.V_below (by (with_reducible repeat (first | apply Kd.V_alloc | apply Kd.V_drewN | apply Kd.V_drew)); exact HO_3.out) hb); replace HO_4 := Aside0.mk (rB HO_4.out hb); replace HO_14 := Aside0.mk (rB HO_14.out hb); replace HO776 := Aside0.mk (sB HO776.out hb); replace HB := Aside0.mk (below_step tb hb)) | (go_at_call 25; (with_reducible refine (spec_IsGraph.calls kj12 _ _ t707 t778 _ ?side1 ?side2 A237.out).mono ?_); (case side1 => exact C_l ((Kd.V_reads' HO_3.out).2.2)); (case side2 => exact (Kd.V_reads' HO_3.out).2.1); rintro e w247 ⟨rfl, hb⟩; replace HO_3 := Aside0.mk (Kd.V_below (by (with_reducible repeat (first | apply Kd.V_alloc | apply Kd.V_drewN | apply Kd.V_drew)); exact HO_3.out) hb); replace HO_4 := Aside0.mk (rB HO_4.out hb); replace HO_14 := Aside0.mk (rB HO_14.out hb); replace HO776 := Aside0.mk (sB HO776.out hb); replace HB := Aside0.mk (below_step tb hb)))
         go_meet
         case rel => exact ⟨_, (false), rS, H', ⟨by have := HJ12.out; first | omega | exact Nat.le_refl _⟩, ⟨by (with_reducible repeat (first | apply Kd.V_alloc | apply Kd.V_drewN | apply Kd.V_drew)); exact Kd.V_mono HO_3.out (fun _ hk => ⟨hk.1.1, hk.1.2⟩)⟩, ⟨R_l HO_4.out⟩, ⟨R_l HO_14.out⟩, ⟨tb⟩⟩
      ·rw [if_neg c236] at H
       exact absurd H (laws_FnGraphs_no_j1 _ _ _ _ _)
     case rest => as_aux_lemma =>
      clear HC232
      try clear c1
      try clear c2
      try clear p2
      try clear c3
      try clear c4
      try clear c5
      try clear c6
      try clear c7
      try clear c8
      try clear c9
      try clear c10
      try clear c11
      try clear c12
      try clear c13
      try clear c14
      try clear c15
      try clear c22
      try clear c23
      try clear c24
      try clear c26
      try clear c27
      try clear c27b0
      try clear c27b1
      try clear c27b2
      try clear c32
      try clear c33
      try clear c36
      try clear c40
      try clear c44
      try clear c47
      try clear c50
      try clear c50b0
      try clear c50b1
      try clear c50b2
      try clear c75
      try clear c78
      try clear c78b0
      try clear c78b1
      try clear c229
      try clear c236
      try clear c236b0
      try clear c236b1
      try clear c238
      try clear c238b0
      try clear c238b1
      try clear c238b2
      try clear c241
      try clear p2
      obtain ⟨kq, x154_231, rfl, HA, HJ231, HO_3, HO_4, HO_14, HB⟩ := hcut
      cases kq with
      | zero => exact absurd HA.out (by simp [laws_FnGraphs.j1])
      | succ kj231 =>
       have H := HA.out
       clear HA
       simp only [laws_FnGraphs.j1] at H
       by_cases c249 : x154_231 = true
       ·subst c249
        rw [if_pos rfl] at H
        exact absurd H (by simp)
       ·replace c249 := Bool.eq_false_iff.mpr c249
        subst c249
        rw [if_neg (show ¬ (false = true) by decide)] at H
        by_cases c250 : t774 = true
        ·subst c250
         rw [if_pos rfl] at H
         obtain ⟨t781, A251, H⟩ := bs H
         have H' := Aside0.mk H
         clear H
         go_wp2_with (first | ((with_reducible refine gate_callee (f := 26) rfl ?_); refine goesL_ (some 166) rfl rfl Tryz.func26 (by kernel_rfl) rfl #[.slice Ao15 t707.length co15] rfl mp_ ?_; (with_reducible refine (impl_DegreesOf.calls kj231 _ _ t707 t781 _ ?side1 ?side2 A251.out).mono ?_); (case side1 => exact C_l ((Kd.V_reads' HO_3.out).2.2)); (case side2 => exact (Kd.V_reads' HO_3.out).2.1); rintro e w252 ⟨v782, rfl, ho0, hb⟩; refine ⟨_, rfl, ?_⟩; replace HO_3 := Aside0.mk (Kd.V_elder' (by (with_reducible repeat (first | apply Kd.V_alloc | apply Kd.V_drewN | apply Kd.V_drew)); exact HO_3.out) (Kd.R_base ho0) hb); have HO783 := Aside0.mk (Kd.R_lower (Kd.R_new' (Kd.R_new' ho0 (Kd.R_lt (R_l HO_4.out))) (Kd.R_lt (R_l HO_14.out))) (below_size tb)); replace HO_4 := Aside0.mk (Kd.R_elder' (R_l HO_4.out) (Kd.R_base ho0) hb); replace HO_14 := Aside0.mk (Kd.R_elder' (R_l HO_14.out) (Kd.R_base ho0) hb); replace HB := Aside0.mk (below_step tb hb)))
         go_loopg [19, 20] kj231 (fun kq v19 v20 w' => ∃ (x19_3 : Int) (x20_3 : Int), v19 = .int .i64 x19_3 ∧ v20 = .int .i64 x20_3 ∧ Aside0 (laws_FnGraphs.l0 kq t707 t710 t726 t781 x19_3 x20_3 = some true) ∧ Aside0 (kq ≤ kj231) ∧ Aside0 (Kd.V (Kd.slice 3 (Kd.int .i64)) 26 w' w.heap.size (fun k_ => some k_ ≠ (v711 : Value).ownBlock ∧ some k_ ≠ (v727 : Value).ownBlock ∧ some k_ ≠ (v782 : Value).ownBlock) (.slice Ao15 t707.length co15) t707) ∧ Aside0 (Kd.R (Kd.int .i64) 3 w' w.heap.size (fun k_ => some k_ ≠ (v727 : Value).ownBlock ∧ some k_ ≠ (v782 : Value).ownBlock) v711 t710) ∧ Aside0 (Kd.R (Kd.int .i64) 3 w' w.heap.size (fun k_ => some k_ ≠ (v711 : Value).ownBlock ∧ some k_ ≠ (v782 : Value).ownBlock) v727 t726) ∧ Aside0 (Kd.R (Kd.int .i64) 3 w' w.heap.size (fun k_ => some k_ ≠ (v711 : Value).ownBlock ∧ some k_ ≠ (v727 : Value).ownBlock) v782 t781) ∧ Aside0 (Below w.heap.size w w'))
         case atStart => exact ⟨(0), (0), rS, rS, H', ⟨Nat.le_refl _⟩, ⟨by (with_reducible repeat (first | apply Kd.V_alloc | apply Kd.V_drewN | apply Kd.V_drew)); exact Kd.V_mono HO_3.out (fun _ hk => ⟨hk.1.1, ⟨hk.1.2, hk.2⟩⟩)⟩, ⟨R_l HO_4.out⟩, ⟨R_l HO_14.out⟩, ⟨R_l (Kd.R_mono HO783.out (fun _ hk => ⟨hk.1.2, hk.2⟩))⟩, ⟨tb⟩⟩
         case round => as_aux_lemma =>
          clear H'
          try clear c1
          try clear c2
          try clear p2
          try clear c3
          try clear c4
          try clear c5
          try clear c6
          try clear c7
          try clear c8
          try clear c9
          try clear c10
          try clear c11
          try clear c12
          try clear c13
          try clear c14
          try clear c15
          try clear c22
          try clear c23
          try clear c24
          try clear c25
          try clear c26
          try clear c27
          try clear c27b0
          try clear c27b1
          try clear c27b2
          try clear c32
          try clear c33
          try clear c36
          try clear c40
          try clear c44
          try clear c47
          try clear c50
          try clear c50b0
          try clear c50b1
          try clear c50b2
          try clear c75
          try clear c78
          try clear c78b0
          try clear c78b1
          try clear c229
          try clear c236
          try clear c236b0
          try clear c236b1
          try clear c238
          try clear c238b0
          try clear c238b1
          try clear c238b2
          try clear c241
          try clear c249
          try clear c250
          try clear p2
          obtain ⟨x19_3, x20_3, rfl, rfl, HA, HK3, HO_3, HO_4, HO_14, HO_18, HB⟩ := hrel
          cases gk with
          | zero => exact absurd HA.out (by simp [laws_FnGraphs.l0])
          | succ k3 =>
           have H := HA.out
           clear HA
           simp only [laws_FnGraphs.l0] at H
           obtain ⟨c253b0, H⟩ | ⟨c253b0, H⟩ := gi H
           ·obtain ⟨c254b0, H⟩ := gdt H
            by_cases c255 : (rd t781 x20_3) > 0
            ·rw [if_pos c255] at H
             have c255b0 : decide (0 < (rd t781 x20_3)) = true := decide_eq_true c255
             clear c255
             have H' := Aside0.mk H
             clear H
             obtain ⟨Ao256, co256, eo256⟩ := Kd.R_slice HO_18.out
             subst eo256
             have p784 : 0 ≤ (x20_3 : Int) := dT
             have q784 : x20_3 < (t781.length : Int) := dT
             obtain ⟨ad784, e784, hx784_0⟩ := Kd.at_int (Kd.R_reads' HO_18.out).2.2 x20_3 p784 q784
             cases e784
             replace p784 := eq_true p784
             replace q784 := eq_true q784
             go_wp2
             go_roundg k3
             case measure => have := HJ12.out; have := HJ231.out; have := HK3.out; omega
             case rel => exact ⟨(wrap64 (x19_3 + 1)), (wrap64 (x20_3 + 1)), rS, rS, H', ⟨by have := HJ12.out; have := HJ231.out; have := HK3.out; omega⟩, ⟨by (with_reducible repeat (first | apply Kd.V_alloc | apply Kd.V_drewN | apply Kd.V_drew)); exact HO_3.out⟩, ⟨R_l HO_4.out⟩, ⟨R_l HO_14.out⟩, ⟨R_l HO_18.out⟩, ⟨tb⟩⟩
            ·rw [if_neg c255] at H
             have c255b0 : decide (0 < (rd t781 x20_3)) = false := decide_eq_false c255
             clear c255
             have H' := Aside0.mk H
             clear H
             obtain ⟨Ao257, co257, eo257⟩ := Kd.R_slice HO_18.out
             subst eo257
             have p784 : 0 ≤ (x20_3 : Int) := dT
             have q784 : x20_3 < (t781.length : Int) := dT
             obtain ⟨ad784, e784, hx784_0⟩ := Kd.at_int (Kd.R_reads' HO_18.out).2.2 x20_3 p784 q784
             cases e784
             replace p784 := eq_true p784
             replace q784 := eq_true q784
             go_wp2
             go_roundg k3
             case measure => have := HJ12.out; have := HJ231.out; have := HK3.out; omega
             case rel => exact ⟨(x19_3), (wrap64 (x20_3 + 1)), rS, rS, H', ⟨by have := HJ12.out; have := HJ231.out; have := HK3.out; omega⟩, ⟨by (with_reducible repeat (first | apply Kd.V_alloc | apply Kd.V_drewN | apply Kd.V_drew)); exact HO_3.out⟩, ⟨R_l HO_4.out⟩, ⟨R_l HO_14.out⟩, ⟨R_l HO_18.out⟩, ⟨tb⟩⟩
           ·have HC258 := Aside0.mk H
            clear H
            obtain ⟨Ao259, co259, eo259⟩ := Kd.R_slice HO_18.out
            subst eo259
            go_upto_region 27 with (fail)
            go_cut [204] (fun v204 wc => ∃ (kq : Nat) (x204_257 : Bool), v204 = .bool x204_257 ∧ Aside0 (laws_FnGraphs.j3 kq t707 t726 x204_257 = some true) ∧ Aside0 (kq ≤ k3) ∧ Aside0 (Kd.V (Kd.slice 3 (Kd.int .i64)) 26 wc w.heap.size (fun k_ => some k_ ≠ (v727 : Value).ownBlock) (.slice Ao15 t707.length co15) t707) ∧ Aside0 (Kd.R (Kd.int .i64) 3 wc w.heap.size (fun _ => True) v727 t726) ∧ Aside0 (Below w.heap.size w wc))
            case first => as_aux_lemma =>
             have H := HC258.out
             clear HC258
             obtain ⟨t785, A260, H⟩ := bs H
             by_cases c261 : t785 = (wrap64 (2 * (t707.length : Int)))
             ·rw [if_pos c261] at H
              have c261b0 : (t785 == (wrap64 (2 * (t707.length : Int)))) = true := beq_iff_eq.mpr c261
              have c261b1 : (t785 != (wrap64 (2 * (t707.length : Int)))) = false := bne_eq_false_iff_eq.mpr c261
              clear c261
              (first | rw [c261b0] | (simp only [i64_w, i32_w]; rw [c261b0]) | skip)
              obtain ⟨t786, A262, H⟩ := bs H
              by_cases c263 : (t786.length : Int) = x19_3
              ·rw [if_pos c263] at H
               have c263b0 : ((t786.length : Int) == x19_3) = true := beq_iff_eq.mpr c263
               have c263b1 : ((t786.length : Int) != x19_3) = false := bne_eq_false_iff_eq.mpr c263
               clear c263
               by_cases c264 : (t710.length : Int) > 0
               ·rw [if_pos c264] at H
                have c264b0 : decide (0 < (t710.length : Int)) = true := decide_eq_true c264
                have c264b1 : decide (0 < t710.length) = true := decide_eq_true (by omega)
                clear c264
                obtain ⟨t789, A265, H⟩ := bs H
                obtain ⟨t790, A266, H⟩ := bs H
                have H' := Aside0.mk H
                clear H
                go_wp2_with (first | ((with_reducible refine gate_callee (f := 34) rfl ?_); refine goesL_ (some 181) rfl rfl Tryz.func34 (by kernel_rfl) rfl #[.slice Ao259 t781.length co259] rfl mp_ ?_; (with_reducible refine (laws_total.calls k3 _ _ t781 t785 _ ?side1 ?side2 A260.out).mono ?_); (case side1 => exact C_l ((Kd.R_reads' HO_18.out).2.2)); (case side2 => exact (Kd.R_reads' HO_18.out).2.1); rintro e w' ⟨rfl, ⟨nd, rfl⟩⟩; refine ⟨_, rfl, ?_⟩; obtain ⟨Ao267, co267, eo267⟩ := Kd.R_slice HO_14.out; subst eo267) | (go_at_call 35; (with_reducible refine (spec_CyclesOf.calls k3 _ _ t726 t786 _ ?side1 ?side2 A262.out).mono ?_); (case side1 => exact C_l ((Kd.R_reads' HO_14.out).2.2)); (case side2 => exact (Kd.R_reads' HO_14.out).2.1); rintro e w268 ⟨v787, rfl, ho0, hb⟩; replace HO_3 := Aside0.mk (Kd.V_elder' (by (with_reducible repeat (first | apply Kd.V_alloc | apply Kd.V_drewN | apply Kd.V_drew)); exact HO_3.out) (Kd.S_base ho0) hb); have HO788 := Aside0.mk (Kd.S_lower (Kd.S_new' (Kd.S_new' (Kd.S_new' ho0 (Kd.R_lt (R_l HO_4.out))) (Kd.R_lt (R_l HO_14.out))) (Kd.R_lt (R_l HO_18.out))) (below_size tb)); replace HO_4 := Aside0.mk (rB HO_4.out hb); replace HO_14 := Aside0.mk (rB HO_14.out hb); replace HO_18 := Aside0.mk (rB HO_18.out hb); replace HB := Aside0.mk (below_step tb hb); obtain ⟨Ao269, co269, eo269⟩ := Kd.S_slice HO788.out; subst eo269; obtain ⟨Ao270, co270, eo270⟩ := Kd.R_slice HO_4.out; subst eo270) | (go_at_call 34; (with_reducible refine (laws_total.calls k3 _ _ t710 t789 _ ?side1 ?side2 A265.out).mono ?_); (case side1 => exact C_l ((Kd.R_reads' HO_4.out).2.2)); (case side2 => exact (Kd.R_reads' HO_4.out).2.1); rintro e w' ⟨rfl, ⟨nd, rfl⟩⟩) | (go_at_call 28; (with_reducible refine (impl_CountRotations.calls k3 _ _ t707 t790 _ ?side1 ?side2 A266.out).mono ?_); (case side1 => exact C_l ((Kd.V_reads' HO_3.out).2.2)); (case side2 => exact (Kd.V_reads' HO_3.out).2.1); rintro e w271 ⟨rfl, hb⟩; replace HO_3 := Aside0.mk (Kd.V_below (by (with_reducible repeat (first | apply Kd.V_alloc | apply Kd.V_drewN | apply Kd.V_drew)); exact HO_3.out) hb); replace HO_4 := Aside0.mk (rB HO_4.out hb); replace HO_14 := Aside0.mk (rB HO_14.out hb); replace HO_18 := Aside0.mk (rB HO_18.out hb); replace HO788 := Aside0.mk (sB HO788.out hb); replace HB := Aside0.mk (below_step tb hb)))
                go_meet
                case rel => exact ⟨_, ((t789 != t790)), rS, H', ⟨by have := HJ12.out; have := HJ231.out; have := HK3.out; first | omega | exact Nat.le_refl _⟩, ⟨by (with_reducible repeat (first | apply Kd.V_alloc | apply Kd.V_drewN | apply Kd.V_drew)); exact Kd.V_mono HO_3.out (fun _ hk => hk.1.2.1)⟩, ⟨R_l (Kd.R_mono HO_14.out (fun _ hk => trivial))⟩, ⟨tb⟩⟩
               ·rw [if_neg c264] at H
                have c264b0 : decide (0 < (t710.length : Int)) = false := decide_eq_false c264
                have c264b1 : decide (0 < t710.length) = false := decide_eq_false (by omega)
                clear c264
                have H' := Aside0.mk H
                clear H
                go_wp2_with (first | ((with_reducible refine gate_callee (f := 34) rfl ?_); refine goesL_ (some 181) rfl rfl Tryz.func34 (by kernel_rfl) rfl #[.slice Ao259 t781.length co259] rfl mp_ ?_; (with_reducible refine (laws_total.calls k3 _ _ t781 t785 _ ?side1 ?side2 A260.out).mono ?_); (case side1 => exact C_l ((Kd.R_reads' HO_18.out).2.2)); (case side2 => exact (Kd.R_reads' HO_18.out).2.1); rintro e w' ⟨rfl, ⟨nd, rfl⟩⟩; refine ⟨_, rfl, ?_⟩; obtain ⟨Ao272, co272, eo272⟩ := Kd.R_slice HO_14.out; subst eo272) | (go_at_call 35; (with_reducible refine (spec_CyclesOf.calls k3 _ _ t726 t786 _ ?side1 ?side2 A262.out).mono ?_); (case side1 => exact C_l ((Kd.R_reads' HO_14.out).2.2)); (case side2 => exact (Kd.R_reads' HO_14.out).2.1); rintro e w273 ⟨v787, rfl, ho0, hb⟩; replace HO_3 := Aside0.mk (Kd.V_elder' (by (with_reducible repeat (first | apply Kd.V_alloc | apply Kd.V_drewN | apply Kd.V_drew)); exact HO_3.out) (Kd.S_base ho0) hb); have HO788 := Aside0.mk (Kd.S_lower (Kd.S_new' (Kd.S_new' (Kd.S_new' ho0 (Kd.R_lt (R_l HO_4.out))) (Kd.R_lt (R_l HO_14.out))) (Kd.R_lt (R_l HO_18.out))) (below_size tb)); replace HO_4 := Aside0.mk (rB HO_4.out hb); replace HO_14 := Aside0.mk (rB HO_14.out hb); replace HO_18 := Aside0.mk (rB HO_18.out hb); replace HB := Aside0.mk (below_step tb hb); obtain ⟨Ao274, co274, eo274⟩ := Kd.S_slice HO788.out; subst eo274; obtain ⟨Ao275, co275, eo275⟩ := Kd.R_slice HO_4.out; subst eo275))
                go_meet
                case rel => exact ⟨_, (false), rS, H', ⟨by have := HJ12.out; have := HJ231.out; have := HK3.out; first | omega | exact Nat.le_refl _⟩, ⟨by (with_reducible repeat (first | apply Kd.V_alloc | apply Kd.V_drewN | apply Kd.V_drew)); exact Kd.V_mono HO_3.out (fun _ hk => hk.1.2.1)⟩, ⟨R_l (Kd.R_mono HO_14.out (fun _ hk => trivial))⟩, ⟨tb⟩⟩
              ·rw [if_neg c263] at H
               have c263b0 : ((t786.length : Int) == x19_3) = false := beq_eq_false_iff_ne.mpr c263
               have c263b1 : ((t786.length : Int) != x19_3) = true := bne_iff_ne.mpr c263
               have H' := Aside0.mk H
               clear H
               go_wp2_with (first | ((with_reducible refine gate_callee (f := 34) rfl ?_); refine goesL_ (some 181) rfl rfl Tryz.func34 (by kernel_rfl) rfl #[.slice Ao259 t781.length co259] rfl mp_ ?_; (with_reducible refine (laws_total.calls k3 _ _ t781 t785 _ ?side1 ?side2 A260.out).mono ?_); (case side1 => exact C_l ((Kd.R_reads' HO_18.out).2.2)); (case side2 => exact (Kd.R_reads' HO_18.out).2.1); rintro e w' ⟨rfl, ⟨nd, rfl⟩⟩; refine ⟨_, rfl, ?_⟩; obtain ⟨Ao276, co276, eo276⟩ := Kd.R_slice HO_14.out; subst eo276) | (go_at_call 35; (with_reducible refine (spec_CyclesOf.calls k3 _ _ t726 t786 _ ?side1 ?side2 A262.out).mono ?_); (case side1 => exact C_l ((Kd.R_reads' HO_14.out).2.2)); (case side2 => exact (Kd.R_reads' HO_14.out).2.1); rintro e w277 ⟨v787, rfl, ho0, hb⟩; replace HO_3 := Aside0.mk (Kd.V_elder' (by (with_reducible repeat (first | apply Kd.V_alloc | apply Kd.V_drewN | apply Kd.V_drew)); exact HO_3.out) (Kd.S_base ho0) hb); have HO788 := Aside0.mk (Kd.S_lower (Kd.S_new' (Kd.S_new' (Kd.S_new' ho0 (Kd.R_lt (R_l HO_4.out))) (Kd.R_lt (R_l HO_14.out))) (Kd.R_lt (R_l HO_18.out))) (below_size tb)); replace HO_4 := Aside0.mk (rB HO_4.out hb); replace HO_14 := Aside0.mk (rB HO_14.out hb); replace HO_18 := Aside0.mk (rB HO_18.out hb); replace HB := Aside0.mk (below_step tb hb); obtain ⟨Ao278, co278, eo278⟩ := Kd.S_slice HO788.out; subst eo278))
               go_meet
               case rel => exact ⟨_, (true), rS, H', ⟨by have := HJ12.out; have := HJ231.out; have := HK3.out; first | omega | exact Nat.le_refl _⟩, ⟨by (with_reducible repeat (first | apply Kd.V_alloc | apply Kd.V_drewN | apply Kd.V_drew)); exact Kd.V_mono HO_3.out (fun _ hk => hk.1.2.1)⟩, ⟨R_l (Kd.R_mono HO_14.out (fun _ hk => trivial))⟩, ⟨tb⟩⟩
             ·rw [if_neg c261] at H
              have c261b0 : (t785 == (wrap64 (2 * (t707.length : Int)))) = false := beq_eq_false_iff_ne.mpr c261
              have c261b1 : (t785 != (wrap64 (2 * (t707.length : Int)))) = true := bne_iff_ne.mpr c261
              (first | rw [c261b0] | (simp only [i64_w, i32_w]; rw [c261b0]) | skip)
              have H' := Aside0.mk H
              clear H
              go_wp2_with (first | ((with_reducible refine gate_callee (f := 34) rfl ?_); refine goesL_ (some 181) rfl rfl Tryz.func34 (by kernel_rfl) rfl #[.slice Ao259 t781.length co259] rfl mp_ ?_; (with_reducible refine (laws_total.calls k3 _ _ t781 t785 _ ?side1 ?side2 A260.out).mono ?_); (case side1 => exact C_l ((Kd.R_reads' HO_18.out).2.2)); (case side2 => exact (Kd.R_reads' HO_18.out).2.1); rintro e w' ⟨rfl, ⟨nd, rfl⟩⟩; refine ⟨_, rfl, ?_⟩))
              go_meet
              case rel => exact ⟨_, (true), rS, H', ⟨by have := HJ12.out; have := HJ231.out; have := HK3.out; first | omega | exact Nat.le_refl _⟩, ⟨by (with_reducible repeat (first | apply Kd.V_alloc | apply Kd.V_drewN | apply Kd.V_drew)); exact Kd.V_mono HO_3.out (fun _ hk => hk.2.1)⟩, ⟨R_l (Kd.R_mono HO_14.out (fun _ hk => trivial))⟩, ⟨tb⟩⟩
            case rest => as_aux_lemma =>
             clear HC258
             try clear c1
             try clear c2
             try clear p2
             try clear c3
             try clear c4
             try clear c5
             try clear c6
             try clear p6
             try clear c7
             try clear p7
             try clear q7
             try clear hx7
             try clear c8
             try clear c9
             try clear c10
             try clear c11
             try clear c12
             try clear c13
             try clear c14
             try clear c15
             try clear c22
             try clear c23
             try clear c24
             try clear c25
             try clear c26
             try clear c27
             try clear c27b0
             try clear c27b1
             try clear c27b2
             try clear c32
             try clear c33
             try clear c34
             try clear c36
             try clear c40
             try clear c44
             try clear c47
             try clear c50
             try clear c50b0
             try clear c50b1
             try clear c50b2
             try clear p64
             try clear c75
             try clear c78
             try clear c78b0
             try clear c78b1
             try clear p78
             try clear q78
             try clear hx78
             try clear c229
             try clear c236
             try clear c236b0
             try clear c236b1
             try clear c238
             try clear c238b0
             try clear c238b1
             try clear c238b2
             try clear c241
             try clear c249
             try clear c250
             try clear c253
             try clear c253b0
             try clear c254
             try clear c254b0
             try clear c255
             try clear c255b0
             try clear c261
             try clear c261b0
             try clear c261b1
             try clear c263
             try clear c263b0
             try clear c263b1
             try clear c264
             try clear c264b0
             try clear c264b1
             try clear hx784_0
             try clear p2
             try clear p784
             try clear q784
             obtain ⟨kq, x204_257, rfl, HA, HJ257, HO_3, HO_14, HB⟩ := hcut
             cases kq with
             | zero => exact absurd HA.out (by simp [laws_FnGraphs.j3])
             | succ kj257 =>
              have H := HA.out
              clear HA
              simp only [laws_FnGraphs.j3] at H
              by_cases c279 : x204_257 = true
              ·subst c279
               rw [if_pos rfl] at H
               exact absurd H (by simp)
              ·replace c279 := Bool.eq_false_iff.mpr c279
               subst c279
               rw [if_neg (show ¬ (false = true) by decide)] at H
               obtain ⟨t791, A280, H⟩ := bs H
               obtain ⟨c281b0, H⟩ | ⟨c281b0, H⟩ := gi H
               ·clear H
                go_wp2_with (first | ((with_reducible refine gate_callee (f := 30) rfl ?_); refine goesL_ (some 206) rfl rfl Tryz.func30 (by kernel_rfl) rfl #[.slice Ao15 t707.length co15] rfl mp_ ?_; (with_reducible refine (impl_LeastGenus.calls kj257 _ _ t707 t791 _ ?side1 ?side2 A280.out).mono ?_); (case side1 => exact C_l ((Kd.V_reads' HO_3.out).2.2)); (case side2 => exact (Kd.V_reads' HO_3.out).2.1); rintro e w282 ⟨rfl, hb⟩; refine ⟨_, rfl, ?_⟩; replace HO_3 := Aside0.mk (Kd.V_below (by (with_reducible repeat (first | apply Kd.V_alloc | apply Kd.V_drewN | apply Kd.V_drew)); exact HO_3.out) hb); replace HO_14 := Aside0.mk (rB HO_14.out hb); replace HB := Aside0.mk (below_step tb hb)))
                go_ret
                exact ⟨rE, tb⟩
               ·obtain ⟨t792, A283, H⟩ := bs H
                by_cases c284 : t792 ≥ t791
                ·rw [if_pos c284] at H
                 have c284b0 : decide (t791 ≤ t792) = true := decide_eq_true c284
                 clear c284
                 by_cases c285 : (t707.length : Int) > 8
                 ·rw [if_pos c285] at H
                  have c285b0 : decide (8 < (t707.length : Int)) = true := decide_eq_true c285
                  have c285b1 : decide (8 < t707.length) = true := decide_eq_true (by omega)
                  clear c285
                  clear H
                  go_wp2_with (first | ((with_reducible refine gate_callee (f := 30) rfl ?_); refine goesL_ (some 206) rfl rfl Tryz.func30 (by kernel_rfl) rfl #[.slice Ao15 t707.length co15] rfl mp_ ?_; (with_reducible refine (impl_LeastGenus.calls kj257 _ _ t707 t791 _ ?side1 ?side2 A280.out).mono ?_); (case side1 => exact C_l ((Kd.V_reads' HO_3.out).2.2)); (case side2 => exact (Kd.V_reads' HO_3.out).2.1); rintro e w286 ⟨rfl, hb⟩; refine ⟨_, rfl, ?_⟩; replace HO_3 := Aside0.mk (Kd.V_below (by (with_reducible repeat (first | apply Kd.V_alloc | apply Kd.V_drewN | apply Kd.V_drew)); exact HO_3.out) hb); replace HO_14 := Aside0.mk (rB HO_14.out hb); replace HB := Aside0.mk (below_step tb hb); obtain ⟨Ao287, co287, eo287⟩ := Kd.R_slice HO_14.out; subst eo287) | (go_at_call 36; (with_reducible refine (spec_GenusOf.calls kj257 _ _ t726 t792 _ ?side1 ?side2 A283.out).mono ?_); (case side1 => exact C_l ((Kd.R_reads' HO_14.out).2.2)); (case side2 => exact (Kd.R_reads' HO_14.out).2.1); rintro e w288 ⟨rfl, hb⟩; replace HO_3 := Aside0.mk (Kd.V_below (by (with_reducible repeat (first | apply Kd.V_alloc | apply Kd.V_drewN | apply Kd.V_drew)); exact HO_3.out) hb); replace HO_14 := Aside0.mk (rB HO_14.out hb); replace HB := Aside0.mk (below_step tb hb)))
                  go_ret
                  exact ⟨rE, tb⟩
                 ·rw [if_neg c285] at H
                  have c285b0 : decide (8 < (t707.length : Int)) = false := decide_eq_false c285
                  have c285b1 : decide (8 < t707.length) = false := decide_eq_false (by omega)
                  clear c285
                  have hq_ := Option.some.inj H
                  go_wp2_with (first | ((with_reducible refine gate_callee (f := 30) rfl ?_); refine goesL_ (some 206) rfl rfl Tryz.func30 (by kernel_rfl) rfl #[.slice Ao15 t707.length co15] rfl mp_ ?_; (with_reducible refine (impl_LeastGenus.calls kj257 _ _ t707 t791 _ ?side1 ?side2 A280.out).mono ?_); (case side1 => exact C_l ((Kd.V_reads' HO_3.out).2.2)); (case side2 => exact (Kd.V_reads' HO_3.out).2.1); rintro e w289 ⟨rfl, hb⟩; refine ⟨_, rfl, ?_⟩; replace HO_3 := Aside0.mk (Kd.V_below (by (with_reducible repeat (first | apply Kd.V_alloc | apply Kd.V_drewN | apply Kd.V_drew)); exact HO_3.out) hb); replace HO_14 := Aside0.mk (rB HO_14.out hb); replace HB := Aside0.mk (below_step tb hb); obtain ⟨Ao290, co290, eo290⟩ := Kd.R_slice HO_14.out; subst eo290) | (go_at_call 36; (with_reducible refine (spec_GenusOf.calls kj257 _ _ t726 t792 _ ?side1 ?side2 A283.out).mono ?_); (case side1 => exact C_l ((Kd.R_reads' HO_14.out).2.2)); (case side2 => exact (Kd.R_reads' HO_14.out).2.1); rintro e w291 ⟨rfl, hb⟩; replace HO_3 := Aside0.mk (Kd.V_below (by (with_reducible repeat (first | apply Kd.V_alloc | apply Kd.V_drewN | apply Kd.V_drew)); exact HO_3.out) hb); replace HO_14 := Aside0.mk (rB HO_14.out hb); replace HB := Aside0.mk (below_step tb hb)))
                  go_ret
                  exact ⟨rE, tb⟩
                ·rw [if_neg c284] at H
                 have c284b0 : decide (t791 ≤ t792) = false := decide_eq_false c284
                 clear c284
                 exact absurd H (by simp)
        ·replace c250 := Bool.eq_false_iff.mpr c250
         subst c250
         rw [if_neg (show ¬ (false = true) by decide)] at H
         by_cases c295 : (t726.length : Int) = 0
         ·rw [if_pos c295] at H
          have c295b0 : ((t726.length : Int) == 0) = true := beq_iff_eq.mpr c295
          have c295b1 : ((t726.length : Int) != 0) = false := bne_eq_false_iff_eq.mpr c295
          clear c295
          obtain ⟨t780, A296, H⟩ := bs H
          have hq_ := Option.some.inj H
          obtain ⟨Ao297, co297, eo297⟩ := Kd.R_slice HO_14.out
          subst eo297
          go_wp2_with (first | (go_at_call 28; (with_reducible refine (impl_CountRotations.calls kj231 _ _ t707 t780 _ ?side1 ?side2 A296.out).mono ?_); (case side1 => exact C_l ((Kd.V_reads' HO_3.out).2.2)); (case side2 => exact (Kd.V_reads' HO_3.out).2.1); rintro e w298 ⟨rfl, hb⟩; replace HO_3 := Aside0.mk (Kd.V_below (by (with_reducible repeat (first | apply Kd.V_alloc | apply Kd.V_drewN | apply Kd.V_drew)); exact HO_3.out) hb); replace HO_4 := Aside0.mk (rB HO_4.out hb); replace HO_14 := Aside0.mk (rB HO_14.out hb); replace HB := Aside0.mk (below_step tb hb)))
          go_ret
          exact ⟨rE, tb⟩
         ·rw [if_neg c295] at H
          have c295b0 : ((t726.length : Int) == 0) = false := beq_eq_false_iff_ne.mpr c295
          have c295b1 : ((t726.length : Int) != 0) = true := bne_iff_ne.mpr c295
          have c295b2 : ¬ (t726 = []) := fun h_ => c295 (by rw [h_]; rfl)
          exact absurd H (by simp)

/-- THE ONE PURE STATEMENT of laws_FnGraphs: yours. -/
def laws_FnGraphs.Pure : Prop := ∀ (l0 : List Int), l0.length ≤ maxLen → l0.length * 1 ≤ 140737488351232 → (∀ x ∈ l0, (Lit.int .u8 x).wf = true) → ∃ k, laws_FnGraphs.f k l0 = some true
end Go.Proofs.YtafpbabiahjjaaaGreatDoor.PFnGraphs
