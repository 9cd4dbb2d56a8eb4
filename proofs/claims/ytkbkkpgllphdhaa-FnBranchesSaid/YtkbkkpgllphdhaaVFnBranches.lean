/- The walk of laws_FnBranches on the ways on which it answers true: lines of the print of this claim, the ways that answer false struck, since the pure fact says true. -/
import Derived.Test.YtkbkkpgllphdhaaWSpanB
import Derived.Test.YtkbkkpgllphdhaaPFnBranchesx0
import Derived.Test.YtkbkkpgllphdhaaPFnBranchesx1
import Derived.Test.YtkbkkpgllphdhaaPFnBranchesx2
import Derived.Test.YtkbkkpgllphdhaaPFnBranchesx5
import Derived.Test.YtkbkkpgllphdhaaPFnBranchesx6
import Derived.Test.YtkbkkpgllphdhaaPFnBranchesx7
import Derived.Test.YtkbkkpgllphdhaaPFnBranchesx8
import Derived.Test.YtkbkkpgllphdhaaPFnBranchesx10
import Derived.Test.YtkbkkpgllphdhaaPFnBranchesx11
import Derived.Test.YtkbkkpgllphdhaaPFnBranchesx13
import Derived.Test.YtkbkkpgllphdhaaPFnBranchesx14
import Derived.Test.YtkbkkpgllphdhaaPFnBranchesx15
import Derived.Test.YtkbkkpgllphdhaaPFnBranchesx16
import Derived.Test.YtkbkkpgllphdhaaPFnBranchesx17
import Derived.Test.YtkbkkpgllphdhaaPFnBranchesx18
import Derived.Test.YtkbkkpgllphdhaaPFnBranchesx19
namespace Go.Proofs.Ytkbkkpgllphdhaa.PFnBranches
open Go.RowKit Go.Proofs.YtkbkkpgllphdhaaW.PrintWords Go.Proofs.YtkbkkpgllphdhaaW.PrintLast Go.Proofs.YtkbkkpgllphdhaaW.PrintMore
attribute [local go_sem] max2_int min2_int max_two min_two max_three min_three max_four min_four   -- for this text's walks alone
set_option linter.unusedVariables false
set_option linter.unusedSimpArgs false

attribute [local go_sem high] eqA27
/-! ### laws_FnBranches: function 3 -/
mutual
def laws_FnBranches.j0 : Nat → List (List Int) → Bool → List (List Int) → Bool → List (List Int) → List (List Int) → Bool → List Int → List (List Int) → Bool → Bool → Int → Int → Int → Option (Bool)
 | 0, _, _, _, _, _, _, _, _, _, _, _, _, _, _ => none
 | k + 1, x3, x5, x9, x10, x13, x15, x16, x19, x20, x21, x147, x803000, x803001, x803002 => if x147 = true then (some false) else (if x10 = true then ((impl_IsPassport.f k x9).bind fun t856 => (if t856 = true then (if x5 = true then (if x803000 < 0 then (laws_FnBranches.j1 k x13 x15 x16 x19 x20 x21 true) else ((spec_EulerNumber.f x803000 x803001 x803002).bind fun t857 => (if 0 < (x3.length : Int) then ((impl_BranchSum.f k x3).bind fun t859 => (laws_FnBranches.j1 k x13 x15 x16 x19 x20 x21 (t857 != (wrap64 ((wrap64 (2 * ((rd_L3 x3 0).length : Int))) - t859))))) else (none)))) else (laws_FnBranches.j1 k x13 x15 x16 x19 x20 x21 false)) else (laws_FnBranches.j1 k x13 x15 x16 x19 x20 x21 true))) else (if x5 = true then (if x803000 < 0 then (laws_FnBranches.j1 k x13 x15 x16 x19 x20 x21 true) else ((spec_EulerNumber.f x803000 x803001 x803002).bind fun t860 => (if 0 < (x3.length : Int) then ((impl_BranchSum.f k x3).bind fun t862 => (laws_FnBranches.j1 k x13 x15 x16 x19 x20 x21 (t860 != (wrap64 ((wrap64 (2 * ((rd_L3 x3 0).length : Int))) - t862))))) else (none)))) else (laws_FnBranches.j1 k x13 x15 x16 x19 x20 x21 false)))
def laws_FnBranches.j1 : Nat → List (List Int) → List (List Int) → Bool → List Int → List (List Int) → Bool → Bool → Option (Bool)
 | 0, _, _, _, _, _, _, _ => none
 | k + 1, x13, x15, x16, x19, x20, x21, x174 => if x174 = true then (some false) else (if x16 = true then ((impl_BranchCover.f k x13).bind fun bt863 => ((impl_BranchCover.f k x15).bind fun bt868 => ((impl_IsPassport.f k x15).bind fun t873 => (if t873 = true then (if (bt863.2.2.2 != bt868.2.2.2) = true then (some false) else (if (!(bt863.1 == bt868.1) || (!(bt863.2.1 == bt868.2.1) || (!(bt863.2.2.1 == bt868.2.2.1)))) = true then (some false) else ((impl_BranchSum.f k x15).bind fun t874 => ((impl_BranchSum.f k x13).bind fun t875 => (if t874 = t875 then (laws_FnBranches.j2 k x19 x20 x21) else (some false)))))) else (some false))))) else (laws_FnBranches.j2 k x19 x20 x21))
def laws_FnBranches.j2 : Nat → List Int → List (List Int) → Bool → Option (Bool)
 | 0, _, _, _ => none
 | k + 1, x19, x20, x21 => if x21 = true then ((spec_MapParts.f k x19).bind fun t876 => (laws_FnBranches.j3 k x19 x20 (t876 == 1))) else (laws_FnBranches.j3 k x19 x20 false)
def laws_FnBranches.j3 : Nat → List Int → List (List Int) → Bool → Option (Bool)
 | 0, _, _, _ => none
 | k + 1, x19, x20, x211 => if x211 = true then ((impl_BranchCover.f k x20).bind fun bt877 => (if bt877.2.2.2 = true then ((spec_GenusOf.f k x19).bind fun t882 => (some (bt877.1 == t882))) else (some false))) else (some true)
end
def laws_FnBranches.f (k : Nat) (l0 : List Int) : Option (Bool) := (laws_big.f l0).bind fun t794 => (if t794 = true then (some true) else ((spec_DrawBranchCover.f k l0).bind fun t795 => ((impl_BranchCover.f k t795).bind fun bt798 => ((spec_BranchCover.f k t795).bind fun bt803 => ((spec_DrawCloseUp.f k l0).bind fun t808 => ((impl_CloseUp.f k t808).bind fun bt811 => ((spec_CloseUp.f k t808).bind fun bt815 => ((spec_DrawBraidPassport.f k l0).bind fun bt819 => ((impl_BraidPassport.f k bt819.1 bt819.2).bind fun bt823 => ((spec_BraidPassport.f k bt819.1 bt819.2).bind fun bt827 => ((spec_DrawMapPassport.f k l0).bind fun t831 => ((impl_MapPassport.f k t831).bind fun bt834 => ((spec_MapPassport.f k t831).bind fun bt838 => (if (bt798.2.2.2 != bt803.2.2.2) = true then (laws_FnBranches.j0 k t795 bt798.2.2.2 bt811.1 bt811.2 bt819.1 bt823.1 bt823.2 t831 bt834.1 bt834.2 true bt798.1 bt798.2.1 bt798.2.2.1) else (if (!(bt798.1 == bt803.1) || (!(bt798.2.1 == bt803.2.1) || (!(bt798.2.2.1 == bt803.2.2.1)))) = true then (laws_FnBranches.j0 k t795 bt798.2.2.2 bt811.1 bt811.2 bt819.1 bt823.1 bt823.2 t831 bt834.1 bt834.2 true bt798.1 bt798.2.1 bt798.2.2.1) else (if (bt811.2 != bt815.2) = true then (laws_FnBranches.j0 k t795 bt798.2.2.2 bt811.1 bt811.2 bt819.1 bt823.1 bt823.2 t831 bt834.1 bt834.2 true bt798.1 bt798.2.1 bt798.2.2.1) else ((laws_sameLists.f k bt811.1 bt815.1).bind fun t842 => (if t842 = true then (if (bt823.2 != bt827.2) = true then (laws_FnBranches.j0 k t795 bt798.2.2.2 bt811.1 bt811.2 bt819.1 bt823.1 bt823.2 t831 bt834.1 bt834.2 true bt798.1 bt798.2.1 bt798.2.2.1) else ((laws_sameLists.f k bt823.1 bt827.1).bind fun t843 => (if t843 = true then (if (bt834.2 != bt838.2) = true then (laws_FnBranches.j0 k t795 bt798.2.2.2 bt811.1 bt811.2 bt819.1 bt823.1 bt823.2 t831 bt834.1 bt834.2 true bt798.1 bt798.2.1 bt798.2.2.1) else ((laws_sameLists.f k bt834.1 bt838.1).bind fun t844 => (if t844 = true then ((impl_IsPassport.f k t795).bind fun t845 => ((spec_IsPassport.f k t795).bind fun t846 => (if (t845 != t846) = true then (laws_FnBranches.j0 k t795 bt798.2.2.2 bt811.1 bt811.2 bt819.1 bt823.1 bt823.2 t831 bt834.1 bt834.2 true bt798.1 bt798.2.1 bt798.2.2.1) else ((impl_BranchSum.f k t795).bind fun t847 => ((spec_BranchSum.f k t795).bind fun t848 => (if t847 = t848 then ((impl_CycleTypes.f k t795).bind fun t849 => ((spec_CycleTypes.f k t795).bind fun t852 => ((laws_sameLists.f k t849 t852).bind fun t855 => (laws_FnBranches.j0 k t795 bt798.2.2.2 bt811.1 bt811.2 bt819.1 bt823.1 bt823.2 t831 bt834.1 bt834.2 (!t855) bt798.1 bt798.2.1 bt798.2.2.1)))) else (laws_FnBranches.j0 k t795 bt798.2.2.2 bt811.1 bt811.2 bt819.1 bt823.1 bt823.2 t831 bt834.1 bt834.2 true bt798.1 bt798.2.1 bt798.2.2.1))))))) else (laws_FnBranches.j0 k t795 bt798.2.2.2 bt811.1 bt811.2 bt819.1 bt823.1 bt823.2 t831 bt834.1 bt834.2 true bt798.1 bt798.2.1 bt798.2.2.1)))) else (laws_FnBranches.j0 k t795 bt798.2.2.2 bt811.1 bt811.2 bt819.1 bt823.1 bt823.2 t831 bt834.1 bt834.2 true bt798.1 bt798.2.1 bt798.2.2.1)))) else (laws_FnBranches.j0 k t795 bt798.2.2.2 bt811.1 bt811.2 bt819.1 bt823.1 bt823.2 t831 bt834.1 bt834.2 true bt798.1 bt798.2.1 bt798.2.2.1)))))))))))))))))))
theorem laws_FnBranches_no_j0 : ∀ k a0 a1 a2 a3 a4 a5 a6 a7 a8 a9 a11 a12 a13, ¬ (laws_FnBranches.j0 k a0 a1 a2 a3 a4 a5 a6 a7 a8 a9 true a11 a12 a13 = some true) := by
 intro k a0 a1 a2 a3 a4 a5 a6 a7 a8 a9 a11 a12 a13 h
 cases k with
 | zero => simp [laws_FnBranches.j0] at h
 | succ k => rw [laws_FnBranches.j0, if_pos rfl] at h; cases h
theorem laws_FnBranches_no_j1 : ∀ k a0 a1 a2 a3 a4 a5, ¬ (laws_FnBranches.j1 k a0 a1 a2 a3 a4 a5 true = some true) := by
 intro k a0 a1 a2 a3 a4 a5 h
 cases k with
 | zero => simp [laws_FnBranches.j1] at h
 | succ k => rw [laws_FnBranches.j1, if_pos rfl] at h; cases h
def laws_FnBranches.T17 : Bool × List (List Nat × List Nat) := (true, [([], []), ([0], [0]), ([1], [1]), ([2, 1, 1], [1, 2]), ([3, 1], [1, 3]), ([1, 4], [1, 4]), ([5, 3], [5]), ([6], [6]), ([7, 6, 6], [6, 7]), ([8], [8]), ([9, 8], [8, 9]), ([10, 8], [8, 10]), ([11, 8, 8], [8, 11]), ([12], [12]), ([13, 12, 12], [12, 13]), ([12], [12]), ([15, 12], [12, 15]), ([16, 12], [12, 16]), ([17, 12], [12, 17]), ([18, 12], [12, 18]), ([12], [12]), ([20, 14, 12], [12, 20]), ([19, 21, 12], [12, 19, 21]), ([14, 22, 12], [12, 14, 22]), ([12, 23, 8], [8, 12, 23]), ([8, 24, 6], [6, 8, 24]), ([6, 25], [6, 25])])
def laws_FnBranches.B17 : List Nat := [0, 1, 3, 7, 15, 31, 63, 127, 255, 511, 1023, 2047, 4095, 8191, 16383, 8191, 40959, 106495, 237567, 499711, 8191, 1081343, 4194303, 8388607, 16777215, 33554431, 67108863]
theorem laws_FnBranches.tab17 : rtab .any (opsOf Try.f3 17) = laws_FnBranches.T17 := by kernel_rfl
theorem laws_FnBranches.bits17 : waitsOk laws_FnBranches.T17.2 laws_FnBranches.B17 = true := by kernel_rfl
def laws_FnBranches.T26 : Bool × List (List Nat × List Nat) := (true, [([], []), ([0], [0]), ([1], [1]), ([2, 1], [1, 2]), ([1], [1]), ([4, 1, 1], [1, 4]), ([3, 5, 1], [1, 3, 5]), ([1, 6], [1, 6]), ([7, 5, 0, 1, 2, 3, 4, 5, 6, 7], [7])])
def laws_FnBranches.B26 : List Nat := [0, 1, 3, 7, 3, 19, 63, 127, 255]
theorem laws_FnBranches.tab26 : rtab .any (opsOf Try.f3 26) = laws_FnBranches.T26 := by kernel_rfl
theorem laws_FnBranches.bits26 : waitsOk laws_FnBranches.T26.2 laws_FnBranches.B26 = true := by kernel_rfl
set_option maxHeartbeats 8000000 in
set_option maxRecDepth 100000 in
theorem laws_FnBranches.calls (k : Nat) (A0 : Option Addr) (c0 : Nat) (l0 : List Int) (w : World) (hr0 : Kd.C (Kd.int .u8) w A0 l0.length l0) (hc0 : l0.length ≤ c0) (h : laws_FnBranches.f k l0 = some true) :
  Calls Try.prog 3 #[.slice A0 l0.length c0] w fun e w' => e = .returned (.bool true) ∧ Below w.heap.size w w' := by
 have hu27 := Try.underlying27
 have HR0 := Aside0.mk hr0
 have HC0 := Aside0.mk hc0
 clear hr0 hc0
 have HB := Aside0.mk (Below.refl w.heap.size w)
 have H : ((laws_big.f l0).bind fun t794 => (if t794 = true then (some true) else ((spec_DrawBranchCover.f k l0).bind fun t795 => ((impl_BranchCover.f k t795).bind fun bt798 => ((spec_BranchCover.f k t795).bind fun bt803 => ((spec_DrawCloseUp.f k l0).bind fun t808 => ((impl_CloseUp.f k t808).bind fun bt811 => ((spec_CloseUp.f k t808).bind fun bt815 => ((spec_DrawBraidPassport.f k l0).bind fun bt819 => ((impl_BraidPassport.f k bt819.1 bt819.2).bind fun bt823 => ((spec_BraidPassport.f k bt819.1 bt819.2).bind fun bt827 => ((spec_DrawMapPassport.f k l0).bind fun t831 => ((impl_MapPassport.f k t831).bind fun bt834 => ((spec_MapPassport.f k t831).bind fun bt838 => (if (bt798.2.2.2 != bt803.2.2.2) = true then (laws_FnBranches.j0 k t795 bt798.2.2.2 bt811.1 bt811.2 bt819.1 bt823.1 bt823.2 t831 bt834.1 bt834.2 true bt798.1 bt798.2.1 bt798.2.2.1) else (if (!(bt798.1 == bt803.1) || (!(bt798.2.1 == bt803.2.1) || (!(bt798.2.2.1 == bt803.2.2.1)))) = true then (laws_FnBranches.j0 k t795 bt798.2.2.2 bt811.1 bt811.2 bt819.1 bt823.1 bt823.2 t831 bt834.1 bt834.2 true bt798.1 bt798.2.1 bt798.2.2.1) else (if (bt811.2 != bt815.2) = true then (laws_FnBranches.j0 k t795 bt798.2.2.2 bt811.1 bt811.2 bt819.1 bt823.1 bt823.2 t831 bt834.1 bt834.2 true bt798.1 bt798.2.1 bt798.2.2.1) else ((laws_sameLists.f k bt811.1 bt815.1).bind fun t842 => (if t842 = true then (if (bt823.2 != bt827.2) = true then (laws_FnBranches.j0 k t795 bt798.2.2.2 bt811.1 bt811.2 bt819.1 bt823.1 bt823.2 t831 bt834.1 bt834.2 true bt798.1 bt798.2.1 bt798.2.2.1) else ((laws_sameLists.f k bt823.1 bt827.1).bind fun t843 => (if t843 = true then (if (bt834.2 != bt838.2) = true then (laws_FnBranches.j0 k t795 bt798.2.2.2 bt811.1 bt811.2 bt819.1 bt823.1 bt823.2 t831 bt834.1 bt834.2 true bt798.1 bt798.2.1 bt798.2.2.1) else ((laws_sameLists.f k bt834.1 bt838.1).bind fun t844 => (if t844 = true then ((impl_IsPassport.f k t795).bind fun t845 => ((spec_IsPassport.f k t795).bind fun t846 => (if (t845 != t846) = true then (laws_FnBranches.j0 k t795 bt798.2.2.2 bt811.1 bt811.2 bt819.1 bt823.1 bt823.2 t831 bt834.1 bt834.2 true bt798.1 bt798.2.1 bt798.2.2.1) else ((impl_BranchSum.f k t795).bind fun t847 => ((spec_BranchSum.f k t795).bind fun t848 => (if t847 = t848 then ((impl_CycleTypes.f k t795).bind fun t849 => ((spec_CycleTypes.f k t795).bind fun t852 => ((laws_sameLists.f k t849 t852).bind fun t855 => (laws_FnBranches.j0 k t795 bt798.2.2.2 bt811.1 bt811.2 bt819.1 bt823.1 bt823.2 t831 bt834.1 bt834.2 (!t855) bt798.1 bt798.2.1 bt798.2.2.1)))) else (laws_FnBranches.j0 k t795 bt798.2.2.2 bt811.1 bt811.2 bt819.1 bt823.1 bt823.2 t831 bt834.1 bt834.2 true bt798.1 bt798.2.1 bt798.2.2.1))))))) else (laws_FnBranches.j0 k t795 bt798.2.2.2 bt811.1 bt811.2 bt819.1 bt823.1 bt823.2 t831 bt834.1 bt834.2 true bt798.1 bt798.2.1 bt798.2.2.1)))) else (laws_FnBranches.j0 k t795 bt798.2.2.2 bt811.1 bt811.2 bt819.1 bt823.1 bt823.2 t831 bt834.1 bt834.2 true bt798.1 bt798.2.1 bt798.2.2.1)))) else (laws_FnBranches.j0 k t795 bt798.2.2.2 bt811.1 bt811.2 bt819.1 bt823.1 bt823.2 t831 bt834.1 bt834.2 true bt798.1 bt798.2.1 bt798.2.2.1)))))))))))))))))))) = some true := h
 clear h
 obtain ⟨t794, A2, H⟩ := bs H
 by_cases c3 : t794 = true
 ·subst c3
  have H1 : (some true) = some true := rfl
  clear H
  have H := H1
  clear H1
  go_enter Try.func3, Try.ntmps3
  go_wp2_with (first | ((with_reducible refine gate_callee (f := 4) rfl ?_); refine goesL_ (some 31) rfl rfl Try.func4 (by kernel_rfl) rfl #[.slice A0 l0.length c0] rfl mp_ ?_; (with_reducible refine (laws_big.calls _ _ l0 true _ ?side1 ?side2 A2.out).mono ?_); (case side1 => exact C_l HR0.out); (case side2 => exact HC0.out); rintro e w' ⟨rfl, ⟨nd, rfl⟩⟩; refine ⟨_, rfl, ?_⟩))
  go_ret
  exact ⟨rE, tb⟩
 ·replace c3 := Bool.eq_false_iff.mpr c3
  subst c3
  rw [if_neg (show ¬ (false = true) by decide)] at H
  obtain ⟨t795, A4, H⟩ := bs H
  obtain ⟨⟨t798, t799, t800, t801⟩, A5, H⟩ := bs H
  try dsimp only at H
  obtain ⟨⟨t803, t804, t805, t806⟩, A6, H⟩ := bs H
  try dsimp only at H
  obtain ⟨t808, A7, H⟩ := bs H
  obtain ⟨⟨t811, t812⟩, A8, H⟩ := bs H
  try dsimp only at H
  obtain ⟨⟨t815, t816⟩, A9, H⟩ := bs H
  try dsimp only at H
  obtain ⟨⟨t819, t820⟩, A10, H⟩ := bs H
  try dsimp only at H
  obtain ⟨⟨t823, t824⟩, A11, H⟩ := bs H
  try dsimp only at H
  obtain ⟨⟨t827, t828⟩, A12, H⟩ := bs H
  try dsimp only at H
  obtain ⟨t831, A13, H⟩ := bs H
  obtain ⟨⟨t834, t837⟩, A14, H⟩ := bs H
  try dsimp only at H
  obtain ⟨⟨t838, t841⟩, A15, H⟩ := bs H
  try dsimp only at H
  have HC16 := Aside0.mk H
  go_enter Try.func3, Try.ntmps3
  go_upto_region 15 with (first | ((with_reducible refine gate_callee (f := 4) rfl ?_); refine goesL_ (some 31) rfl rfl Try.func4 (by kernel_rfl) rfl #[.slice A0 l0.length c0] rfl mp_ ?_; (with_reducible refine (laws_big.calls _ _ l0 false _ ?side1 ?side2 A2.out).mono ?_); (case side1 => exact C_l HR0.out); (case side2 => exact HC0.out); rintro e w' ⟨rfl, ⟨nd, rfl⟩⟩; refine ⟨_, rfl, ?_⟩) | ((with_reducible refine gate_callee (f := 5) rfl ?_); refine goesL_ (some 33) rfl rfl Try.func5 (by kernel_rfl) rfl #[.slice A0 l0.length c0] rfl mp_ ?_; (with_reducible refine (spec_DrawBranchCover.calls k _ _ l0 t795 _ ?side1 ?side2 A4.out).mono ?_); (case side1 => exact C_l HR0.out); (case side2 => exact HC0.out); rintro e w17 ⟨v796, rfl, ho0, hb⟩; refine ⟨_, rfl, ?_⟩; have HO797 := Aside0.mk (Kd.N_lower (Kd.N_mono (ok' := fun k_ => True) (Kd.S_N (Kd.S_bound ho0)) (fun k_ hk_ => trivial)) (below_size tb)); replace HB := Aside0.mk (below_step tb hb); obtain ⟨Ao18, co18, eo18⟩ := Kd.N_slice HO797.out; subst eo18) | ((with_reducible refine gate_callee (f := 6) rfl ?_); refine goesL_ (some 36) rfl rfl Try.func6 (by kernel_rfl) rfl #[.slice Ao18 t795.length co18] rfl mp_ ?_; (with_reducible refine (impl_BranchCover.calls k _ _ t795 t798 t799 t800 t801 _ ?side1 ?side2 A5.out).mono ?_); (case side1 => exact C_l ((Kd.N_reads' HO797.out).2.2)); (case side2 => exact (Kd.N_reads' HO797.out).2.1); rintro e w19 ⟨rfl, hb⟩; refine ⟨_, rfl, ?_⟩; replace HO797 := Aside0.mk (nB HO797.out hb); replace HB := Aside0.mk (below_step tb hb)) | ((with_reducible refine gate_dst (N := 4) rfl ?_); (try (refine gate_guard (by rfl) ?_; dsimp only)); refine box_event ?hg (N := 4) ?hd (cs := #[.int .i64 0, .int .i64 0, .int .i64 0]) (t := 27) ?hr ?_; (case hd => rfl); (case hg => rfl); (case hr => exact gS); intro gb802 hg w20 hbox hb; replace HO797 := Aside0.mk (Kd.N_below (Kd.N_elderB (N_l HO797.out) gb802 (Nat.le_of_eq hg.symm)) hb); have BK802 := Aside0.mk (hbox); have GW802 := Aside0.mk (gW hg tb); have GE802 := Aside0.mk (gW hg tb); replace HB := Aside0.mk (below_step tb hb); clear hb hbox hg; have hcz21_0 : w20.cell? ⟨gb802, 0, none⟩ = some (.int .i64 0) := (blk_cell BK802.out 0).trans rfl; have hcz21_1 : w20.cell? ⟨gb802, 1, none⟩ = some (.int .i64 0) := (blk_cell BK802.out 1).trans rfl; have hcz21_2 : w20.cell? ⟨gb802, 2, none⟩ = some (.int .i64 0) := (blk_cell BK802.out 2).trans rfl; have hfz21_0 := blk_frozen BK802.out 0; have hfz21_1 := blk_frozen BK802.out 1; have hfz21_2 := blk_frozen BK802.out 2) | ((with_reducible refine gate_callee (f := 7) rfl ?_); refine goesL_ (some 41) rfl rfl Try.func7 (by kernel_rfl) rfl #[.slice Ao18 t795.length co18] rfl mp_ ?_; (with_reducible refine (spec_BranchCover.calls k _ _ t795 t803 t804 t805 t806 _ ?side1 ?side2 A6.out).mono ?_); (case side1 => refine (Kd.N_reads' (e := 35) (base := w.heap.size) (ok := fun k_ => (True ∧ k_ ≠ gb802)) (n := t795.length) (c := co18) ?_).2.2; exact (N_l (Kd.N_mono (Kd.N_far (p := ⟨gb802, 2, none⟩) (Kd.N_far (p := ⟨gb802, 1, none⟩) (Kd.N_far (p := ⟨gb802, 0, none⟩) (Kd.N_mono HO797.out (fun k_ hk => (⟨hk, hk.2⟩ : _ ∧ k_ ≠ gb802))) (fun _ hk => hk.2) (.int .i64 t798)) (fun _ hk => hk.2) (.int .i64 t799)) (fun _ hk => hk.2) (.int .i64 t800)) (fun _ h_ => h_.1)))); (case side2 => exact (Kd.N_reads' HO797.out).2.1); rintro e w22 ⟨rfl, hb⟩; refine ⟨_, rfl, ?_⟩; replace HO797 := Aside0.mk (nB (Kd.N_mono (Kd.N_far (p := ⟨gb802, 2, none⟩) (Kd.N_far (p := ⟨gb802, 1, none⟩) (Kd.N_far (p := ⟨gb802, 0, none⟩) (Kd.N_mono HO797.out (fun k_ hk => (⟨hk, hk.2⟩ : _ ∧ k_ ≠ gb802))) (fun _ hk => hk.2) (.int .i64 t798)) (fun _ hk => hk.2) (.int .i64 t799)) (fun _ hk => hk.2) (.int .i64 t800)) (fun _ h_ => h_.1)) hb); replace BK802 := Aside0.mk (blk_below (g := gb802) (o := .cells #[.int .i64 t798, .int .i64 t799, .int .i64 t800] 27 (0, 0)) (by (with_reducible repeat (first | refine blk_drewN ?_ _ | refine blk_drew ?_ | refine blk_alloc ?_ _)); refine blk_put (cs := #[.int .i64 t798, .int .i64 t799, .int .i64 0]) ?_ 2 _ rfl; (with_reducible repeat (first | refine blk_drewN ?_ _ | refine blk_drew ?_ | refine blk_alloc ?_ _)); refine blk_put (cs := #[.int .i64 t798, .int .i64 0, .int .i64 0]) ?_ 1 _ rfl; (with_reducible repeat (first | refine blk_drewN ?_ _ | refine blk_drew ?_ | refine blk_alloc ?_ _)); refine blk_put (cs := #[.int .i64 0, .int .i64 0, .int .i64 0]) ?_ 0 _ rfl; (with_reducible repeat (first | refine blk_drewN ?_ _ | refine blk_drew ?_ | refine blk_alloc ?_ _)); exact BK802.out) hb); replace HB := Aside0.mk (below_step (tG1 GE802.out) hb)) | ((with_reducible refine gate_dst (N := 6) rfl ?_); (try (refine gate_guard (by rfl) ?_; dsimp only)); refine box_event ?hg (N := 6) ?hd (cs := #[.int .i64 0, .int .i64 0, .int .i64 0]) (t := 27) ?hr ?_; (case hd => rfl); (case hg => rfl); (case hr => exact gS); intro gb807 hg w23 hbox hb; replace HO797 := Aside0.mk (Kd.N_below (Kd.N_elderB (N_l HO797.out) gb807 (Nat.le_of_eq hg.symm)) hb); have BK807 := Aside0.mk (hbox); have GW807 := Aside0.mk (gW hg (tG1 GE802.out)); have GE807 := Aside0.mk (gW hg (tG1 GE802.out)); replace HB := Aside0.mk (below_step (tG1 GE802.out) hb); have NB802_807 := Aside0.mk (neL BK802 hg); have NB807_802 := Aside0.mk (neG BK802 hg); replace BK802 := Aside0.mk (bB BK802 hb); clear hb hbox hg; have hnb24 := NB807_802.out; have hnc24 := NB802_807.out; have hcz25_0 : w23.cell? ⟨gb807, 0, none⟩ = some (.int .i64 0) := (blk_cell BK807.out 0).trans rfl; have hcz25_1 : w23.cell? ⟨gb807, 1, none⟩ = some (.int .i64 0) := (blk_cell BK807.out 1).trans rfl; have hcz25_2 : w23.cell? ⟨gb807, 2, none⟩ = some (.int .i64 0) := (blk_cell BK807.out 2).trans rfl; have hfz25_0 := blk_frozen BK807.out 0; have hfz25_1 := blk_frozen BK807.out 1; have hfz25_2 := blk_frozen BK807.out 2) | ((with_reducible refine gate_callee (f := 8) rfl ?_); refine goesL_ (some 45) rfl rfl Try.func8 (by kernel_rfl) rfl #[.slice A0 l0.length c0] rfl mp_ ?_; (with_reducible refine (spec_DrawCloseUp.calls k _ _ l0 t808 _ ?side1 ?side2 A7.out).mono ?_); (case side1 => exact Kd.C_below HR0.out (tG2 GE802.out GE807.out)); (case side2 => exact HC0.out); rintro e w26 ⟨v809, rfl, ho0, hb⟩; refine ⟨_, rfl, ?_⟩; have HO810 := Aside0.mk (Kd.N_lower (Kd.N_mono (ok' := fun k_ => some k_ ≠ (.slice Ao18 t795.length co18 : Value).ownBlock ∧ k_ ≠ gb802 ∧ k_ ≠ gb807) (Kd.S_N (Kd.S_bound ho0)) (fun k_ hk_ => ⟨(Kd.fresh' (Kd.N_lt (N_l (Kd.N_mono (Kd.N_far (p := ⟨gb807, 2, none⟩) (Kd.N_far (p := ⟨gb807, 1, none⟩) (Kd.N_far (p := ⟨gb807, 0, none⟩) (Kd.N_mono HO797.out (fun k_ hk => (⟨hk, hk.2⟩ : _ ∧ k_ ≠ gb807))) (fun _ hk => hk.2) (.int .i64 t803)) (fun _ hk => hk.2) (.int .i64 t804)) (fun _ hk => hk.2) (.int .i64 t805)) (fun _ h_ => h_.1)))) k_ hk_.2.1), (Kd.freshB (g := gb802) (o := .cells #[.int .i64 t798, .int .i64 t799, .int .i64 t800] 27 (0, 0)) (bF1 BK802.out NB802_807.out) k_ hk_.2.1), (Kd.freshB (g := gb807) (o := .cells #[.int .i64 t803, .int .i64 t804, .int .i64 t805] 27 (0, 0)) (by (with_reducible repeat (first | refine blk_drewN ?_ _ | refine blk_drew ?_ | refine blk_alloc ?_ _)); refine blk_put (cs := #[.int .i64 t803, .int .i64 t804, .int .i64 0]) ?_ 2 _ rfl; (with_reducible repeat (first | refine blk_drewN ?_ _ | refine blk_drew ?_ | refine blk_alloc ?_ _)); refine blk_put (cs := #[.int .i64 t803, .int .i64 0, .int .i64 0]) ?_ 1 _ rfl; (with_reducible repeat (first | refine blk_drewN ?_ _ | refine blk_drew ?_ | refine blk_alloc ?_ _)); refine blk_put (cs := #[.int .i64 0, .int .i64 0, .int .i64 0]) ?_ 0 _ rfl; (with_reducible repeat (first | refine blk_drewN ?_ _ | refine blk_drew ?_ | refine blk_alloc ?_ _)); exact BK807.out) k_ hk_.2.1)⟩)) (below_size (tG2 GE802.out GE807.out))); replace HO797 := Aside0.mk (Kd.N_elder' (N_l (Kd.N_mono (Kd.N_far (p := ⟨gb807, 2, none⟩) (Kd.N_far (p := ⟨gb807, 1, none⟩) (Kd.N_far (p := ⟨gb807, 0, none⟩) (Kd.N_mono HO797.out (fun k_ hk => (⟨hk, hk.2⟩ : _ ∧ k_ ≠ gb807))) (fun _ hk => hk.2) (.int .i64 t803)) (fun _ hk => hk.2) (.int .i64 t804)) (fun _ hk => hk.2) (.int .i64 t805)) (fun _ h_ => h_.1))) (Kd.S_base ho0) hb); replace BK802 := Aside0.mk (blk_below (g := gb802) (o := .cells #[.int .i64 t798, .int .i64 t799, .int .i64 t800] 27 (0, 0)) (bF1 BK802.out NB802_807.out) hb); replace BK807 := Aside0.mk (blk_below (g := gb807) (o := .cells #[.int .i64 t803, .int .i64 t804, .int .i64 t805] 27 (0, 0)) (by (with_reducible repeat (first | refine blk_drewN ?_ _ | refine blk_drew ?_ | refine blk_alloc ?_ _)); refine blk_put (cs := #[.int .i64 t803, .int .i64 t804, .int .i64 0]) ?_ 2 _ rfl; (with_reducible repeat (first | refine blk_drewN ?_ _ | refine blk_drew ?_ | refine blk_alloc ?_ _)); refine blk_put (cs := #[.int .i64 t803, .int .i64 0, .int .i64 0]) ?_ 1 _ rfl; (with_reducible repeat (first | refine blk_drewN ?_ _ | refine blk_drew ?_ | refine blk_alloc ?_ _)); refine blk_put (cs := #[.int .i64 0, .int .i64 0, .int .i64 0]) ?_ 0 _ rfl; (with_reducible repeat (first | refine blk_drewN ?_ _ | refine blk_drew ?_ | refine blk_alloc ?_ _)); exact BK807.out) hb); replace HB := Aside0.mk (below_step (tG2 GE802.out GE807.out) hb); obtain ⟨Ao27, co27, eo27⟩ := Kd.N_slice HO810.out; subst eo27) | ((with_reducible refine gate_callee (f := 9) rfl ?_); refine goesL_ (some 48) rfl rfl Try.func9 (by kernel_rfl) rfl #[.slice Ao27 t808.length co27] rfl mp_ ?_; (with_reducible refine (impl_CloseUp.calls k _ _ t808 t811 t812 _ ?side1 ?side2 A8.out).mono ?_); (case side1 => exact C_l ((Kd.N_reads' HO810.out).2.2)); (case side2 => exact (Kd.N_reads' HO810.out).2.1); rintro e w28 ⟨v813, rfl, ho0, hb⟩; refine ⟨_, rfl, ?_⟩; have HO814 := Aside0.mk (Kd.N_lower (Kd.N_mono (ok' := fun k_ => some k_ ≠ (.slice Ao18 t795.length co18 : Value).ownBlock ∧ some k_ ≠ (.slice Ao27 t808.length co27 : Value).ownBlock ∧ k_ ≠ gb802 ∧ k_ ≠ gb807) (Kd.S_N (Kd.S_bound ho0)) (fun k_ hk_ => ⟨(Kd.fresh' (Kd.N_lt (N_l HO797.out)) k_ hk_.2.1), (Kd.fresh' (Kd.N_lt (N_l HO810.out)) k_ hk_.2.1), (Kd.freshB (g := gb802) (o := .cells #[.int .i64 t798, .int .i64 t799, .int .i64 t800] 27 (0, 0)) (blk_l BK802.out) k_ hk_.2.1), (Kd.freshB (g := gb807) (o := .cells #[.int .i64 t803, .int .i64 t804, .int .i64 t805] 27 (0, 0)) (blk_l BK807.out) k_ hk_.2.1)⟩)) (below_size (tG2 GE802.out GE807.out))); replace HO797 := Aside0.mk (Kd.N_elder' (N_l HO797.out) (Kd.S_base ho0) hb); replace HO810 := Aside0.mk (Kd.N_elder' (N_l HO810.out) (Kd.S_base ho0) hb); replace BK802 := Aside0.mk (bB BK802 hb); replace BK807 := Aside0.mk (bB BK807 hb); replace HB := Aside0.mk (below_step (tG2 GE802.out GE807.out) hb)) | ((with_reducible refine gate_callee (f := 10) rfl ?_); refine goesL_ (some 53) rfl rfl Try.func10 (by kernel_rfl) rfl #[.slice Ao27 t808.length co27] rfl mp_ ?_; (with_reducible refine (spec_CloseUp.calls k _ _ t808 t815 t816 _ ?side1 ?side2 A9.out).mono ?_); (case side1 => exact C_l ((Kd.N_reads' HO810.out).2.2)); (case side2 => exact (Kd.N_reads' HO810.out).2.1); rintro e w29 ⟨v817, rfl, ho0, hb⟩; refine ⟨_, rfl, ?_⟩; have HO818 := Aside0.mk (Kd.N_lower (Kd.N_mono (ok' := fun k_ => some k_ ≠ (.slice Ao18 t795.length co18 : Value).ownBlock ∧ some k_ ≠ (.slice Ao27 t808.length co27 : Value).ownBlock ∧ some k_ ≠ (v813 : Value).ownBlock ∧ k_ ≠ gb802 ∧ k_ ≠ gb807) (Kd.S_N (Kd.S_bound ho0)) (fun k_ hk_ => ⟨(Kd.fresh' (Kd.N_lt (N_l HO797.out)) k_ hk_.2.1), (Kd.fresh' (Kd.N_lt (N_l HO810.out)) k_ hk_.2.1), (Kd.fresh' (Kd.N_lt (N_l HO814.out)) k_ hk_.2.1), (Kd.freshB (g := gb802) (o := .cells #[.int .i64 t798, .int .i64 t799, .int .i64 t800] 27 (0, 0)) (blk_l BK802.out) k_ hk_.2.1), (Kd.freshB (g := gb807) (o := .cells #[.int .i64 t803, .int .i64 t804, .int .i64 t805] 27 (0, 0)) (blk_l BK807.out) k_ hk_.2.1)⟩)) (below_size (tG2 GE802.out GE807.out))); replace HO797 := Aside0.mk (Kd.N_elder' (N_l HO797.out) (Kd.S_base ho0) hb); replace HO810 := Aside0.mk (Kd.N_elder' (N_l HO810.out) (Kd.S_base ho0) hb); replace HO814 := Aside0.mk (Kd.N_elder' (N_l HO814.out) (Kd.S_base ho0) hb); replace BK802 := Aside0.mk (bB BK802 hb); replace BK807 := Aside0.mk (bB BK807 hb); replace HB := Aside0.mk (below_step (tG2 GE802.out GE807.out) hb)) | ((with_reducible refine gate_callee (f := 11) rfl ?_); refine goesL_ (some 58) rfl rfl Try.func11 (by kernel_rfl) rfl #[.slice A0 l0.length c0] rfl mp_ ?_; (with_reducible refine (spec_DrawBraidPassport.calls k _ _ l0 t819 t820 _ ?side1 ?side2 A10.out).mono ?_); (case side1 => exact C_l (Kd.C_below HR0.out HB.out)); (case side2 => exact HC0.out); rintro e w30 ⟨v821, rfl, ho0, hb⟩; refine ⟨_, rfl, ?_⟩; have HO822 := Aside0.mk (Kd.N_lower (Kd.N_mono (ok' := fun k_ => some k_ ≠ (.slice Ao18 t795.length co18 : Value).ownBlock ∧ some k_ ≠ (.slice Ao27 t808.length co27 : Value).ownBlock ∧ some k_ ≠ (v813 : Value).ownBlock ∧ some k_ ≠ (v817 : Value).ownBlock ∧ k_ ≠ gb802 ∧ k_ ≠ gb807) (Kd.S_N (Kd.S_bound ho0)) (fun k_ hk_ => ⟨(Kd.fresh' (Kd.N_lt (N_l HO797.out)) k_ hk_.2.1), (Kd.fresh' (Kd.N_lt (N_l HO810.out)) k_ hk_.2.1), (Kd.fresh' (Kd.N_lt (N_l HO814.out)) k_ hk_.2.1), (Kd.fresh' (Kd.N_lt (N_l HO818.out)) k_ hk_.2.1), (Kd.freshB (g := gb802) (o := .cells #[.int .i64 t798, .int .i64 t799, .int .i64 t800] 27 (0, 0)) (blk_l BK802.out) k_ hk_.2.1), (Kd.freshB (g := gb807) (o := .cells #[.int .i64 t803, .int .i64 t804, .int .i64 t805] 27 (0, 0)) (blk_l BK807.out) k_ hk_.2.1)⟩)) (below_size (tG2 GE802.out GE807.out))); replace HO797 := Aside0.mk (Kd.N_elder' (N_l HO797.out) (Kd.S_base ho0) hb); replace HO810 := Aside0.mk (Kd.N_elder' (N_l HO810.out) (Kd.S_base ho0) hb); replace HO814 := Aside0.mk (Kd.N_elder' (N_l HO814.out) (Kd.S_base ho0) hb); replace HO818 := Aside0.mk (Kd.N_elder' (N_l HO818.out) (Kd.S_base ho0) hb); replace BK802 := Aside0.mk (bB BK802 hb); replace BK807 := Aside0.mk (bB BK807 hb); replace HB := Aside0.mk (below_step (tG2 GE802.out GE807.out) hb); obtain ⟨Ao31, co31, eo31⟩ := Kd.N_slice HO822.out; subst eo31) | ((with_reducible refine gate_callee (f := 12) rfl ?_); refine goesL_ (some 64) rfl rfl Try.func12 (by kernel_rfl) rfl #[.slice Ao31 t819.length co31, .int .i64 t820] rfl mp_ ?_; (with_reducible refine (impl_BraidPassport.calls k _ _ t819 t820 t823 t824 _ ?side1 ?side2 A11.out).mono ?_); (case side1 => exact C_l ((Kd.N_reads' HO822.out).2.2)); (case side2 => exact (Kd.N_reads' HO822.out).2.1); rintro e w32 ⟨v825, rfl, ho0, hb⟩; refine ⟨_, rfl, ?_⟩; have HO826 := Aside0.mk (Kd.N_lower (Kd.N_mono (ok' := fun k_ => some k_ ≠ (.slice Ao18 t795.length co18 : Value).ownBlock ∧ some k_ ≠ (.slice Ao27 t808.length co27 : Value).ownBlock ∧ some k_ ≠ (v813 : Value).ownBlock ∧ some k_ ≠ (v817 : Value).ownBlock ∧ some k_ ≠ (.slice Ao31 t819.length co31 : Value).ownBlock ∧ k_ ≠ gb802 ∧ k_ ≠ gb807) (Kd.S_N (Kd.S_bound ho0)) (fun k_ hk_ => ⟨(Kd.fresh' (Kd.N_lt (N_l HO797.out)) k_ hk_.2.1), (Kd.fresh' (Kd.N_lt (N_l HO810.out)) k_ hk_.2.1), (Kd.fresh' (Kd.N_lt (N_l HO814.out)) k_ hk_.2.1), (Kd.fresh' (Kd.N_lt (N_l HO818.out)) k_ hk_.2.1), (Kd.fresh' (Kd.N_lt (N_l HO822.out)) k_ hk_.2.1), (Kd.freshB (g := gb802) (o := .cells #[.int .i64 t798, .int .i64 t799, .int .i64 t800] 27 (0, 0)) (blk_l BK802.out) k_ hk_.2.1), (Kd.freshB (g := gb807) (o := .cells #[.int .i64 t803, .int .i64 t804, .int .i64 t805] 27 (0, 0)) (blk_l BK807.out) k_ hk_.2.1)⟩)) (below_size (tG2 GE802.out GE807.out))); replace HO797 := Aside0.mk (Kd.N_elder' (N_l HO797.out) (Kd.S_base ho0) hb); replace HO810 := Aside0.mk (Kd.N_elder' (N_l HO810.out) (Kd.S_base ho0) hb); replace HO814 := Aside0.mk (Kd.N_elder' (N_l HO814.out) (Kd.S_base ho0) hb); replace HO818 := Aside0.mk (Kd.N_elder' (N_l HO818.out) (Kd.S_base ho0) hb); replace HO822 := Aside0.mk (Kd.N_elder' (N_l HO822.out) (Kd.S_base ho0) hb); replace BK802 := Aside0.mk (bB BK802 hb); replace BK807 := Aside0.mk (bB BK807 hb); replace HB := Aside0.mk (below_step (tG2 GE802.out GE807.out) hb)) | ((with_reducible refine gate_callee (f := 13) rfl ?_); refine goesL_ (some 70) rfl rfl Try.func13 (by kernel_rfl) rfl #[.slice Ao31 t819.length co31, .int .i64 t820] rfl mp_ ?_; (with_reducible refine (spec_BraidPassport.calls k _ _ t819 t820 t827 t828 _ ?side1 ?side2 A12.out).mono ?_); (case side1 => exact C_l ((Kd.N_reads' HO822.out).2.2)); (case side2 => exact (Kd.N_reads' HO822.out).2.1); rintro e w33 ⟨v829, rfl, ho0, hb⟩; refine ⟨_, rfl, ?_⟩; have HO830 := Aside0.mk (Kd.N_lower (Kd.N_mono (ok' := fun k_ => some k_ ≠ (.slice Ao18 t795.length co18 : Value).ownBlock ∧ some k_ ≠ (.slice Ao27 t808.length co27 : Value).ownBlock ∧ some k_ ≠ (v813 : Value).ownBlock ∧ some k_ ≠ (v817 : Value).ownBlock ∧ some k_ ≠ (.slice Ao31 t819.length co31 : Value).ownBlock ∧ some k_ ≠ (v825 : Value).ownBlock ∧ k_ ≠ gb802 ∧ k_ ≠ gb807) (Kd.S_N (Kd.S_bound ho0)) (fun k_ hk_ => ⟨(Kd.fresh' (Kd.N_lt (N_l HO797.out)) k_ hk_.2.1), (Kd.fresh' (Kd.N_lt (N_l HO810.out)) k_ hk_.2.1), (Kd.fresh' (Kd.N_lt (N_l HO814.out)) k_ hk_.2.1), (Kd.fresh' (Kd.N_lt (N_l HO818.out)) k_ hk_.2.1), (Kd.fresh' (Kd.N_lt (N_l HO822.out)) k_ hk_.2.1), (Kd.fresh' (Kd.N_lt (N_l HO826.out)) k_ hk_.2.1), (Kd.freshB (g := gb802) (o := .cells #[.int .i64 t798, .int .i64 t799, .int .i64 t800] 27 (0, 0)) (blk_l BK802.out) k_ hk_.2.1), (Kd.freshB (g := gb807) (o := .cells #[.int .i64 t803, .int .i64 t804, .int .i64 t805] 27 (0, 0)) (blk_l BK807.out) k_ hk_.2.1)⟩)) (below_size (tG2 GE802.out GE807.out))); replace HO797 := Aside0.mk (Kd.N_elder' (N_l HO797.out) (Kd.S_base ho0) hb); replace HO810 := Aside0.mk (Kd.N_elder' (N_l HO810.out) (Kd.S_base ho0) hb); replace HO814 := Aside0.mk (Kd.N_elder' (N_l HO814.out) (Kd.S_base ho0) hb); replace HO818 := Aside0.mk (Kd.N_elder' (N_l HO818.out) (Kd.S_base ho0) hb); replace HO822 := Aside0.mk (Kd.N_elder' (N_l HO822.out) (Kd.S_base ho0) hb); replace HO826 := Aside0.mk (Kd.N_elder' (N_l HO826.out) (Kd.S_base ho0) hb); replace BK802 := Aside0.mk (bB BK802 hb); replace BK807 := Aside0.mk (bB BK807 hb); replace HB := Aside0.mk (below_step (tG2 GE802.out GE807.out) hb)) | ((with_reducible refine gate_callee (f := 14) rfl ?_); refine goesL_ (some 74) rfl rfl Try.func14 (by kernel_rfl) rfl #[.slice A0 l0.length c0] rfl mp_ ?_; (with_reducible refine (spec_DrawMapPassport.calls k _ _ l0 t831 _ ?side1 ?side2 A13.out).mono ?_); (case side1 => exact C_l (Kd.C_below HR0.out HB.out)); (case side2 => exact HC0.out); rintro e w34 ⟨v832, rfl, ho0, hb⟩; refine ⟨_, rfl, ?_⟩; replace HO797 := Aside0.mk (Kd.N_elder' (N_l HO797.out) (Kd.R_base ho0) hb); replace HO810 := Aside0.mk (Kd.N_elder' (N_l HO810.out) (Kd.R_base ho0) hb); replace HO814 := Aside0.mk (Kd.N_elder' (N_l HO814.out) (Kd.R_base ho0) hb); replace HO818 := Aside0.mk (Kd.N_elder' (N_l HO818.out) (Kd.R_base ho0) hb); replace HO822 := Aside0.mk (Kd.N_elder' (N_l HO822.out) (Kd.R_base ho0) hb); replace HO826 := Aside0.mk (Kd.N_elder' (N_l HO826.out) (Kd.R_base ho0) hb); replace HO830 := Aside0.mk (Kd.N_elder' (N_l HO830.out) (Kd.R_base ho0) hb); have HO833 := Aside0.mk (Kd.R_lower ho0 (below_size (tG2 GE802.out GE807.out))); replace BK802 := Aside0.mk (bB BK802 hb); replace BK807 := Aside0.mk (bB BK807 hb); replace HB := Aside0.mk (below_step (tG2 GE802.out GE807.out) hb); obtain ⟨Ao35, co35, eo35⟩ := Kd.R_slice HO833.out; subst eo35) | ((with_reducible refine gate_callee (f := 15) rfl ?_); refine goesL_ (some 77) rfl rfl Try.func15 (by kernel_rfl) rfl #[.slice Ao35 t831.length co35] rfl mp_ ?_; (with_reducible refine (impl_MapPassport.calls k _ _ t831 t834 t837 _ ?side1 ?side2 A14.out).mono ?_); (case side1 => exact C_l ((Kd.R_reads' HO833.out).2.2)); (case side2 => exact (Kd.R_reads' HO833.out).2.1); rintro e w36 ⟨v835, rfl, ho0, hb⟩; refine ⟨_, rfl, ?_⟩; have HO836 := Aside0.mk (Kd.N_lower (Kd.N_mono (ok' := fun k_ => some k_ ≠ (.slice Ao18 t795.length co18 : Value).ownBlock ∧ some k_ ≠ (.slice Ao27 t808.length co27 : Value).ownBlock ∧ some k_ ≠ (v813 : Value).ownBlock ∧ some k_ ≠ (v817 : Value).ownBlock ∧ some k_ ≠ (.slice Ao31 t819.length co31 : Value).ownBlock ∧ some k_ ≠ (v825 : Value).ownBlock ∧ some k_ ≠ (v829 : Value).ownBlock ∧ some k_ ≠ (.slice Ao35 t831.length co35 : Value).ownBlock ∧ k_ ≠ gb802 ∧ k_ ≠ gb807) ho0 (fun k_ hk_ => ⟨(Kd.fresh' (Kd.N_lt (N_l HO797.out)) k_ hk_), (Kd.fresh' (Kd.N_lt (N_l HO810.out)) k_ hk_), (Kd.fresh' (Kd.N_lt (N_l HO814.out)) k_ hk_), (Kd.fresh' (Kd.N_lt (N_l HO818.out)) k_ hk_), (Kd.fresh' (Kd.N_lt (N_l HO822.out)) k_ hk_), (Kd.fresh' (Kd.N_lt (N_l HO826.out)) k_ hk_), (Kd.fresh' (Kd.N_lt (N_l HO830.out)) k_ hk_), (Kd.fresh' (Kd.R_lt (R_l HO833.out)) k_ hk_), (Kd.freshB (g := gb802) (o := .cells #[.int .i64 t798, .int .i64 t799, .int .i64 t800] 27 (0, 0)) (blk_l BK802.out) k_ hk_), (Kd.freshB (g := gb807) (o := .cells #[.int .i64 t803, .int .i64 t804, .int .i64 t805] 27 (0, 0)) (blk_l BK807.out) k_ hk_)⟩)) (below_size (tG2 GE802.out GE807.out))); replace HO797 := Aside0.mk (Kd.N_elder' (N_l HO797.out) (Kd.N_base ho0) hb); replace HO810 := Aside0.mk (Kd.N_elder' (N_l HO810.out) (Kd.N_base ho0) hb); replace HO814 := Aside0.mk (Kd.N_elder' (N_l HO814.out) (Kd.N_base ho0) hb); replace HO818 := Aside0.mk (Kd.N_elder' (N_l HO818.out) (Kd.N_base ho0) hb); replace HO822 := Aside0.mk (Kd.N_elder' (N_l HO822.out) (Kd.N_base ho0) hb); replace HO826 := Aside0.mk (Kd.N_elder' (N_l HO826.out) (Kd.N_base ho0) hb); replace HO830 := Aside0.mk (Kd.N_elder' (N_l HO830.out) (Kd.N_base ho0) hb); replace HO833 := Aside0.mk (rB HO833.out hb); replace BK802 := Aside0.mk (bB BK802 hb); replace BK807 := Aside0.mk (bB BK807 hb); replace HB := Aside0.mk (below_step (tG2 GE802.out GE807.out) hb)) | ((with_reducible refine gate_callee (f := 16) rfl ?_); refine goesL_ (some 82) rfl rfl Try.func16 (by kernel_rfl) rfl #[.slice Ao35 t831.length co35] rfl mp_ ?_; (with_reducible refine (spec_MapPassport.calls k _ _ t831 t838 t841 _ ?side1 ?side2 A15.out).mono ?_); (case side1 => exact C_l ((Kd.R_reads' HO833.out).2.2)); (case side2 => exact (Kd.R_reads' HO833.out).2.1); rintro e w37 ⟨v839, rfl, ho0, hb⟩; refine ⟨_, rfl, ?_⟩; have HO840 := Aside0.mk (Kd.N_lower (Kd.N_mono (ok' := fun k_ => some k_ ≠ (.slice Ao18 t795.length co18 : Value).ownBlock ∧ some k_ ≠ (.slice Ao27 t808.length co27 : Value).ownBlock ∧ some k_ ≠ (v813 : Value).ownBlock ∧ some k_ ≠ (v817 : Value).ownBlock ∧ some k_ ≠ (.slice Ao31 t819.length co31 : Value).ownBlock ∧ some k_ ≠ (v825 : Value).ownBlock ∧ some k_ ≠ (v829 : Value).ownBlock ∧ some k_ ≠ (.slice Ao35 t831.length co35 : Value).ownBlock ∧ some k_ ≠ (v835 : Value).ownBlock ∧ k_ ≠ gb802 ∧ k_ ≠ gb807) ho0 (fun k_ hk_ => ⟨(Kd.fresh' (Kd.N_lt (N_l HO797.out)) k_ hk_), (Kd.fresh' (Kd.N_lt (N_l HO810.out)) k_ hk_), (Kd.fresh' (Kd.N_lt (N_l HO814.out)) k_ hk_), (Kd.fresh' (Kd.N_lt (N_l HO818.out)) k_ hk_), (Kd.fresh' (Kd.N_lt (N_l HO822.out)) k_ hk_), (Kd.fresh' (Kd.N_lt (N_l HO826.out)) k_ hk_), (Kd.fresh' (Kd.N_lt (N_l HO830.out)) k_ hk_), (Kd.fresh' (Kd.R_lt (R_l HO833.out)) k_ hk_), (Kd.fresh' (Kd.N_lt (N_l HO836.out)) k_ hk_), (Kd.freshB (g := gb802) (o := .cells #[.int .i64 t798, .int .i64 t799, .int .i64 t800] 27 (0, 0)) (blk_l BK802.out) k_ hk_), (Kd.freshB (g := gb807) (o := .cells #[.int .i64 t803, .int .i64 t804, .int .i64 t805] 27 (0, 0)) (blk_l BK807.out) k_ hk_)⟩)) (below_size (tG2 GE802.out GE807.out))); replace HO797 := Aside0.mk (Kd.N_elder' (N_l HO797.out) (Kd.N_base ho0) hb); replace HO810 := Aside0.mk (Kd.N_elder' (N_l HO810.out) (Kd.N_base ho0) hb); replace HO814 := Aside0.mk (Kd.N_elder' (N_l HO814.out) (Kd.N_base ho0) hb); replace HO818 := Aside0.mk (Kd.N_elder' (N_l HO818.out) (Kd.N_base ho0) hb); replace HO822 := Aside0.mk (Kd.N_elder' (N_l HO822.out) (Kd.N_base ho0) hb); replace HO826 := Aside0.mk (Kd.N_elder' (N_l HO826.out) (Kd.N_base ho0) hb); replace HO830 := Aside0.mk (Kd.N_elder' (N_l HO830.out) (Kd.N_base ho0) hb); replace HO833 := Aside0.mk (rB HO833.out hb); replace HO836 := Aside0.mk (Kd.N_elder' (N_l HO836.out) (Kd.N_base ho0) hb); replace BK802 := Aside0.mk (bB BK802 hb); replace BK807 := Aside0.mk (bB BK807 hb); replace HB := Aside0.mk (below_step (tG2 GE802.out GE807.out) hb)))
  (try simp only [Act.put, List.setIfInBounds_toArray, List.set_cons_zero, List.set_cons_succ])
  go_cut [147] (fun v147 wc => ∃ (kq : Nat) (x147_15 : Bool), v147 = .bool x147_15 ∧ Aside0 (laws_FnBranches.j0 kq t795 t801 t811 t812 t819 t823 t824 t831 t834 t837 x147_15 t798 t799 t800 = some true) ∧ Aside0 (kq ≤ k) ∧ Aside0 (Kd.N (Kd.slice 3 (Kd.int .i64)) 35 wc w.heap.size (fun k_ => some k_ ≠ (v813 : Value).ownBlock ∧ some k_ ≠ ((.slice Ao31 t819.length co31) : Value).ownBlock ∧ some k_ ≠ (v825 : Value).ownBlock ∧ some k_ ≠ ((.slice Ao35 t831.length co35) : Value).ownBlock ∧ some k_ ≠ (v835 : Value).ownBlock ∧ k_ ≠ gb802 ∧ k_ ≠ gb807) (.slice Ao18 t795.length co18) t795) ∧ Aside0 (Kd.N (Kd.slice 3 (Kd.int .i64)) 35 wc w.heap.size (fun k_ => some k_ ≠ ((.slice Ao18 t795.length co18) : Value).ownBlock ∧ some k_ ≠ ((.slice Ao31 t819.length co31) : Value).ownBlock ∧ some k_ ≠ (v825 : Value).ownBlock ∧ some k_ ≠ ((.slice Ao35 t831.length co35) : Value).ownBlock ∧ some k_ ≠ (v835 : Value).ownBlock ∧ k_ ≠ gb802 ∧ k_ ≠ gb807) v813 t811) ∧ Aside0 (Kd.N (Kd.slice 3 (Kd.int .i64)) 35 wc w.heap.size (fun k_ => some k_ ≠ ((.slice Ao18 t795.length co18) : Value).ownBlock ∧ some k_ ≠ (v813 : Value).ownBlock ∧ some k_ ≠ (v825 : Value).ownBlock ∧ some k_ ≠ ((.slice Ao35 t831.length co35) : Value).ownBlock ∧ some k_ ≠ (v835 : Value).ownBlock ∧ k_ ≠ gb802 ∧ k_ ≠ gb807) (.slice Ao31 t819.length co31) t819) ∧ Aside0 (Kd.N (Kd.slice 3 (Kd.int .i64)) 35 wc w.heap.size (fun k_ => some k_ ≠ ((.slice Ao18 t795.length co18) : Value).ownBlock ∧ some k_ ≠ (v813 : Value).ownBlock ∧ some k_ ≠ ((.slice Ao31 t819.length co31) : Value).ownBlock ∧ some k_ ≠ ((.slice Ao35 t831.length co35) : Value).ownBlock ∧ some k_ ≠ (v835 : Value).ownBlock ∧ k_ ≠ gb802 ∧ k_ ≠ gb807) v825 t823) ∧ Aside0 (Kd.R (Kd.int .i64) 3 wc w.heap.size (fun _ => True) (.slice Ao35 t831.length co35) t831) ∧ Aside0 (Kd.N (Kd.slice 3 (Kd.int .i64)) 35 wc w.heap.size (fun k_ => some k_ ≠ ((.slice Ao18 t795.length co18) : Value).ownBlock ∧ some k_ ≠ (v813 : Value).ownBlock ∧ some k_ ≠ ((.slice Ao31 t819.length co31) : Value).ownBlock ∧ some k_ ≠ (v825 : Value).ownBlock ∧ some k_ ≠ ((.slice Ao35 t831.length co35) : Value).ownBlock ∧ k_ ≠ gb802 ∧ k_ ≠ gb807) v835 t834) ∧ Aside0 (wc.heap[gb802]? = some (.cells #[.int .i64 t798, .int .i64 t799, .int .i64 t800] 27 (0, 0))) ∧ Aside0 (wc.heap[gb807]? = some (.cells #[.int .i64 t803, .int .i64 t804, .int .i64 t805] 27 (0, 0))) ∧ Aside0 (Below w.heap.size w wc))
  case first => as_aux_lemma =>
   have H := HC16.out
   clear HC16
   by_cases c38 : (t801 != t806) = true
   ·rw [if_pos c38] at H
    exact absurd H (laws_FnBranches_no_j0 _ _ _ _ _ _ _ _ _ _ _ _ _ _)
   ·rw [if_neg c38] at H
    have c38b0 : (t801 != t806) = false := by simpa using c38
    (try (have c38b1 : decide (t801 = t806) = true := by simpa using c38))
    (try (have c38b2 : (t801 == t806) = true := by simpa using c38))
    clear c38
    (first | rw [c38b0] | (simp only [i64_w, i32_w]; rw [c38b0]) | skip)
    by_cases c39 : (!(t798 == t803) || (!(t799 == t804) || (!(t800 == t805)))) = true
    ·rw [if_pos c39] at H
     exact absurd H (laws_FnBranches_no_j0 _ _ _ _ _ _ _ _ _ _ _ _ _ _)
    ·rw [if_neg c39] at H
     have c39b0 : (!(t798 == t803) || (!(t799 == t804) || (!(t800 == t805)))) = false := by simpa using c39
     clear c39
     by_cases c43 : (t812 != t816) = true
     ·rw [if_pos c43] at H
      exact absurd H (laws_FnBranches_no_j0 _ _ _ _ _ _ _ _ _ _ _ _ _ _)
     ·rw [if_neg c43] at H
      have c43b0 : (t812 != t816) = false := by simpa using c43
      (try (have c43b1 : decide (t812 = t816) = true := by simpa using c43))
      (try (have c43b2 : (t812 == t816) = true := by simpa using c43))
      clear c43
      obtain ⟨t842, A47, H⟩ := bs H
      by_cases c48 : t842 = true
      ·subst c48
       rw [if_pos rfl] at H
       by_cases c49 : (t824 != t828) = true
       ·rw [if_pos c49] at H
        exact absurd H (laws_FnBranches_no_j0 _ _ _ _ _ _ _ _ _ _ _ _ _ _)
       ·rw [if_neg c49] at H
        have c49b0 : (t824 != t828) = false := by simpa using c49
        (try (have c49b1 : decide (t824 = t828) = true := by simpa using c49))
        (try (have c49b2 : (t824 == t828) = true := by simpa using c49))
        clear c49
        obtain ⟨t843, A55, H⟩ := bs H
        by_cases c56 : t843 = true
        ·subst c56
         rw [if_pos rfl] at H
         by_cases c57 : (t837 != t841) = true
         ·rw [if_pos c57] at H
          exact absurd H (laws_FnBranches_no_j0 _ _ _ _ _ _ _ _ _ _ _ _ _ _)
         ·rw [if_neg c57] at H
          have c57b0 : (t837 != t841) = false := by simpa using c57
          (try (have c57b1 : decide (t837 = t841) = true := by simpa using c57))
          (try (have c57b2 : (t837 == t841) = true := by simpa using c57))
          clear c57
          obtain ⟨t844, A65, H⟩ := bs H
          by_cases c66 : t844 = true
          ·subst c66
           rw [if_pos rfl] at H
           obtain ⟨t845, A67, H⟩ := bs H
           obtain ⟨t846, A68, H⟩ := bs H
           by_cases c69 : (t845 != t846) = true
           ·rw [if_pos c69] at H
            exact absurd H (laws_FnBranches_no_j0 _ _ _ _ _ _ _ _ _ _ _ _ _ _)
           ·rw [if_neg c69] at H
            have c69b0 : (t845 != t846) = false := by simpa using c69
            (try (have c69b1 : decide (t845 = t846) = true := by simpa using c69))
            (try (have c69b2 : (t845 == t846) = true := by simpa using c69))
            clear c69
            obtain ⟨t847, A81, H⟩ := bs H
            obtain ⟨t848, A82, H⟩ := bs H
            by_cases c83 : t847 = t848
            ·rw [if_pos c83] at H
             have c83b0 : (t847 == t848) = true := beq_iff_eq.mpr c83
             have c83b1 : (t847 != t848) = false := bne_eq_false_iff_eq.mpr c83
             clear c83
             obtain ⟨t849, A84, H⟩ := bs H
             obtain ⟨t852, A85, H⟩ := bs H
             obtain ⟨t855, A86, H⟩ := bs H
             have H' := Aside0.mk H
             have hnb87 := NB802_807.out
             have hnc87 := NB807_802.out
             have hcz88_0 : w37.cell? ⟨gb802, 0, none⟩ = some (.int .i64 t798) := (blk_cell BK802.out 0).trans rfl
             have hcz88_1 : w37.cell? ⟨gb802, 1, none⟩ = some (.int .i64 t799) := (blk_cell BK802.out 1).trans rfl
             have hcz88_2 : w37.cell? ⟨gb802, 2, none⟩ = some (.int .i64 t800) := (blk_cell BK802.out 2).trans rfl
             have hfz88_0 := blk_frozen BK802.out 0
             have hfz88_1 := blk_frozen BK802.out 1
             have hfz88_2 := blk_frozen BK802.out 2
             have hcz89_0 : w37.cell? ⟨gb807, 0, none⟩ = some (.int .i64 t803) := (blk_cell BK807.out 0).trans rfl
             have hcz89_1 : w37.cell? ⟨gb807, 1, none⟩ = some (.int .i64 t804) := (blk_cell BK807.out 1).trans rfl
             have hcz89_2 : w37.cell? ⟨gb807, 2, none⟩ = some (.int .i64 t805) := (blk_cell BK807.out 2).trans rfl
             have hfz89_0 := blk_frozen BK807.out 0
             have hfz89_1 := blk_frozen BK807.out 1
             have hfz89_2 := blk_frozen BK807.out 2
             obtain ⟨Ao90, co90, eo90⟩ := Kd.N_slice HO814.out
             subst eo90
             obtain ⟨Ao91, co91, eo91⟩ := Kd.N_slice HO818.out
             subst eo91
             go_wp2_with (first | (go_at_call 17; (with_reducible refine (laws_sameLists.calls k _ _ t811 _ _ t815 true _ ?side1 ?side2 ?side3 ?side4 A47.out).mono ?_); (case side1 => exact C_l ((Kd.N_reads' HO814.out).2.2)); (case side2 => exact (Kd.N_reads' HO814.out).2.1); (case side3 => exact C_l ((Kd.N_reads' HO818.out).2.2)); (case side4 => exact (Kd.N_reads' HO818.out).2.1); rintro e w' ⟨rfl, ⟨nd, rfl⟩⟩; obtain ⟨Ao92, co92, eo92⟩ := Kd.N_slice HO826.out; subst eo92; obtain ⟨Ao93, co93, eo93⟩ := Kd.N_slice HO830.out; subst eo93) | (go_at_call 17; (with_reducible refine (laws_sameLists.calls k _ _ t823 _ _ t827 true _ ?side1 ?side2 ?side3 ?side4 A55.out).mono ?_); (case side1 => exact C_l ((Kd.N_reads' HO826.out).2.2)); (case side2 => exact (Kd.N_reads' HO826.out).2.1); (case side3 => exact C_l ((Kd.N_reads' HO830.out).2.2)); (case side4 => exact (Kd.N_reads' HO830.out).2.1); rintro e w' ⟨rfl, ⟨nd, rfl⟩⟩; obtain ⟨Ao94, co94, eo94⟩ := Kd.N_slice HO836.out; subst eo94; obtain ⟨Ao95, co95, eo95⟩ := Kd.N_slice HO840.out; subst eo95) | (go_at_call 17; (with_reducible refine (laws_sameLists.calls k _ _ t834 _ _ t838 true _ ?side1 ?side2 ?side3 ?side4 A65.out).mono ?_); (case side1 => exact C_l ((Kd.N_reads' HO836.out).2.2)); (case side2 => exact (Kd.N_reads' HO836.out).2.1); (case side3 => exact C_l ((Kd.N_reads' HO840.out).2.2)); (case side4 => exact (Kd.N_reads' HO840.out).2.1); rintro e w' ⟨rfl, ⟨nd, rfl⟩⟩) | (go_at_call 18; (with_reducible refine (impl_IsPassport.calls k _ _ t795 t845 _ ?side1 ?side2 A67.out).mono ?_); (case side1 => exact C_l ((Kd.N_reads' HO797.out).2.2)); (case side2 => exact (Kd.N_reads' HO797.out).2.1); rintro e w96 ⟨rfl, hb⟩; replace HO797 := Aside0.mk (nB HO797.out hb); replace HO810 := Aside0.mk (nB HO810.out hb); replace HO814 := Aside0.mk (nB HO814.out hb); replace HO818 := Aside0.mk (nB HO818.out hb); replace HO822 := Aside0.mk (nB HO822.out hb); replace HO826 := Aside0.mk (nB HO826.out hb); replace HO830 := Aside0.mk (nB HO830.out hb); replace HO833 := Aside0.mk (rB HO833.out hb); replace HO836 := Aside0.mk (nB HO836.out hb); replace HO840 := Aside0.mk (nB HO840.out hb); replace BK802 := Aside0.mk (bB BK802 hb); replace BK807 := Aside0.mk (bB BK807 hb); replace HB := Aside0.mk (below_step (tG2 GE802.out GE807.out) hb)) | (go_at_call 19; (with_reducible refine (spec_IsPassport.calls k _ _ t795 t846 _ ?side1 ?side2 A68.out).mono ?_); (case side1 => exact C_l ((Kd.N_reads' HO797.out).2.2)); (case side2 => exact (Kd.N_reads' HO797.out).2.1); rintro e w97 ⟨rfl, hb⟩; replace HO797 := Aside0.mk (nB HO797.out hb); replace HO810 := Aside0.mk (nB HO810.out hb); replace HO814 := Aside0.mk (nB HO814.out hb); replace HO818 := Aside0.mk (nB HO818.out hb); replace HO822 := Aside0.mk (nB HO822.out hb); replace HO826 := Aside0.mk (nB HO826.out hb); replace HO830 := Aside0.mk (nB HO830.out hb); replace HO833 := Aside0.mk (rB HO833.out hb); replace HO836 := Aside0.mk (nB HO836.out hb); replace HO840 := Aside0.mk (nB HO840.out hb); replace BK802 := Aside0.mk (bB BK802 hb); replace BK807 := Aside0.mk (bB BK807 hb); replace HB := Aside0.mk (below_step (tG2 GE802.out GE807.out) hb)) | (go_at_call 20; (with_reducible refine (impl_BranchSum.calls k _ _ t795 t847 _ ?side1 ?side2 A81.out).mono ?_); (case side1 => exact C_l ((Kd.N_reads' HO797.out).2.2)); (case side2 => exact (Kd.N_reads' HO797.out).2.1); rintro e w98 ⟨rfl, hb⟩; replace HO797 := Aside0.mk (nB HO797.out hb); replace HO810 := Aside0.mk (nB HO810.out hb); replace HO814 := Aside0.mk (nB HO814.out hb); replace HO818 := Aside0.mk (nB HO818.out hb); replace HO822 := Aside0.mk (nB HO822.out hb); replace HO826 := Aside0.mk (nB HO826.out hb); replace HO830 := Aside0.mk (nB HO830.out hb); replace HO833 := Aside0.mk (rB HO833.out hb); replace HO836 := Aside0.mk (nB HO836.out hb); replace HO840 := Aside0.mk (nB HO840.out hb); replace BK802 := Aside0.mk (bB BK802 hb); replace BK807 := Aside0.mk (bB BK807 hb); replace HB := Aside0.mk (below_step (tG2 GE802.out GE807.out) hb)) | (go_at_call 21; (with_reducible refine (spec_BranchSum.calls k _ _ t795 t848 _ ?side1 ?side2 A82.out).mono ?_); (case side1 => exact C_l ((Kd.N_reads' HO797.out).2.2)); (case side2 => exact (Kd.N_reads' HO797.out).2.1); rintro e w99 ⟨rfl, hb⟩; replace HO797 := Aside0.mk (nB HO797.out hb); replace HO810 := Aside0.mk (nB HO810.out hb); replace HO814 := Aside0.mk (nB HO814.out hb); replace HO818 := Aside0.mk (nB HO818.out hb); replace HO822 := Aside0.mk (nB HO822.out hb); replace HO826 := Aside0.mk (nB HO826.out hb); replace HO830 := Aside0.mk (nB HO830.out hb); replace HO833 := Aside0.mk (rB HO833.out hb); replace HO836 := Aside0.mk (nB HO836.out hb); replace HO840 := Aside0.mk (nB HO840.out hb); replace BK802 := Aside0.mk (bB BK802 hb); replace BK807 := Aside0.mk (bB BK807 hb); replace HB := Aside0.mk (below_step (tG2 GE802.out GE807.out) hb)) | (go_at_call 22; (with_reducible refine (impl_CycleTypes.calls k _ _ t795 t849 _ ?side1 ?side2 A84.out).mono ?_); (case side1 => exact C_l ((Kd.N_reads' HO797.out).2.2)); (case side2 => exact (Kd.N_reads' HO797.out).2.1); rintro e w100 ⟨v850, rfl, ho0, hb⟩; have HO851 := Aside0.mk (Kd.N_lower (Kd.N_mono (ok' := fun k_ => some k_ ≠ (.slice Ao18 t795.length co18 : Value).ownBlock ∧ some k_ ≠ (.slice Ao27 t808.length co27 : Value).ownBlock ∧ some k_ ≠ (.slice Ao90 t811.length co90 : Value).ownBlock ∧ some k_ ≠ (.slice Ao91 t815.length co91 : Value).ownBlock ∧ some k_ ≠ (.slice Ao31 t819.length co31 : Value).ownBlock ∧ some k_ ≠ (.slice Ao92 t823.length co92 : Value).ownBlock ∧ some k_ ≠ (.slice Ao93 t827.length co93 : Value).ownBlock ∧ some k_ ≠ (.slice Ao35 t831.length co35 : Value).ownBlock ∧ some k_ ≠ (.slice Ao94 t834.length co94 : Value).ownBlock ∧ some k_ ≠ (.slice Ao95 t838.length co95 : Value).ownBlock ∧ k_ ≠ gb802 ∧ k_ ≠ gb807) (Kd.S_N (Kd.S_bound ho0)) (fun k_ hk_ => ⟨(Kd.fresh' (Kd.N_lt (N_l HO797.out)) k_ hk_.2.1), (Kd.fresh' (Kd.N_lt (N_l HO810.out)) k_ hk_.2.1), (Kd.fresh' (Kd.N_lt (N_l HO814.out)) k_ hk_.2.1), (Kd.fresh' (Kd.N_lt (N_l HO818.out)) k_ hk_.2.1), (Kd.fresh' (Kd.N_lt (N_l HO822.out)) k_ hk_.2.1), (Kd.fresh' (Kd.N_lt (N_l HO826.out)) k_ hk_.2.1), (Kd.fresh' (Kd.N_lt (N_l HO830.out)) k_ hk_.2.1), (Kd.fresh' (Kd.R_lt (R_l HO833.out)) k_ hk_.2.1), (Kd.fresh' (Kd.N_lt (N_l HO836.out)) k_ hk_.2.1), (Kd.fresh' (Kd.N_lt (N_l HO840.out)) k_ hk_.2.1), (Kd.freshB (g := gb802) (o := .cells #[.int .i64 t798, .int .i64 t799, .int .i64 t800] 27 (0, 0)) (blk_l BK802.out) k_ hk_.2.1), (Kd.freshB (g := gb807) (o := .cells #[.int .i64 t803, .int .i64 t804, .int .i64 t805] 27 (0, 0)) (blk_l BK807.out) k_ hk_.2.1)⟩)) (below_size (tG2 GE802.out GE807.out))); replace HO797 := Aside0.mk (Kd.N_elder' (N_l HO797.out) (Kd.S_base ho0) hb); replace HO810 := Aside0.mk (Kd.N_elder' (N_l HO810.out) (Kd.S_base ho0) hb); replace HO814 := Aside0.mk (Kd.N_elder' (N_l HO814.out) (Kd.S_base ho0) hb); replace HO818 := Aside0.mk (Kd.N_elder' (N_l HO818.out) (Kd.S_base ho0) hb); replace HO822 := Aside0.mk (Kd.N_elder' (N_l HO822.out) (Kd.S_base ho0) hb); replace HO826 := Aside0.mk (Kd.N_elder' (N_l HO826.out) (Kd.S_base ho0) hb); replace HO830 := Aside0.mk (Kd.N_elder' (N_l HO830.out) (Kd.S_base ho0) hb); replace HO833 := Aside0.mk (rB HO833.out hb); replace HO836 := Aside0.mk (Kd.N_elder' (N_l HO836.out) (Kd.S_base ho0) hb); replace HO840 := Aside0.mk (Kd.N_elder' (N_l HO840.out) (Kd.S_base ho0) hb); replace BK802 := Aside0.mk (bB BK802 hb); replace BK807 := Aside0.mk (bB BK807 hb); replace HB := Aside0.mk (below_step (tG2 GE802.out GE807.out) hb)) | (go_at_call 23; (with_reducible refine (spec_CycleTypes.calls k _ _ t795 t852 _ ?side1 ?side2 A85.out).mono ?_); (case side1 => exact C_l ((Kd.N_reads' HO797.out).2.2)); (case side2 => exact (Kd.N_reads' HO797.out).2.1); rintro e w101 ⟨v853, rfl, ho0, hb⟩; have HO854 := Aside0.mk (Kd.N_lower (Kd.N_mono (ok' := fun k_ => some k_ ≠ (.slice Ao18 t795.length co18 : Value).ownBlock ∧ some k_ ≠ (.slice Ao27 t808.length co27 : Value).ownBlock ∧ some k_ ≠ (.slice Ao90 t811.length co90 : Value).ownBlock ∧ some k_ ≠ (.slice Ao91 t815.length co91 : Value).ownBlock ∧ some k_ ≠ (.slice Ao31 t819.length co31 : Value).ownBlock ∧ some k_ ≠ (.slice Ao92 t823.length co92 : Value).ownBlock ∧ some k_ ≠ (.slice Ao93 t827.length co93 : Value).ownBlock ∧ some k_ ≠ (.slice Ao35 t831.length co35 : Value).ownBlock ∧ some k_ ≠ (.slice Ao94 t834.length co94 : Value).ownBlock ∧ some k_ ≠ (.slice Ao95 t838.length co95 : Value).ownBlock ∧ some k_ ≠ (v850 : Value).ownBlock ∧ k_ ≠ gb802 ∧ k_ ≠ gb807) (Kd.S_N (Kd.S_bound ho0)) (fun k_ hk_ => ⟨(Kd.fresh' (Kd.N_lt (N_l HO797.out)) k_ hk_.2.1), (Kd.fresh' (Kd.N_lt (N_l HO810.out)) k_ hk_.2.1), (Kd.fresh' (Kd.N_lt (N_l HO814.out)) k_ hk_.2.1), (Kd.fresh' (Kd.N_lt (N_l HO818.out)) k_ hk_.2.1), (Kd.fresh' (Kd.N_lt (N_l HO822.out)) k_ hk_.2.1), (Kd.fresh' (Kd.N_lt (N_l HO826.out)) k_ hk_.2.1), (Kd.fresh' (Kd.N_lt (N_l HO830.out)) k_ hk_.2.1), (Kd.fresh' (Kd.R_lt (R_l HO833.out)) k_ hk_.2.1), (Kd.fresh' (Kd.N_lt (N_l HO836.out)) k_ hk_.2.1), (Kd.fresh' (Kd.N_lt (N_l HO840.out)) k_ hk_.2.1), (Kd.fresh' (Kd.N_lt (N_l HO851.out)) k_ hk_.2.1), (Kd.freshB (g := gb802) (o := .cells #[.int .i64 t798, .int .i64 t799, .int .i64 t800] 27 (0, 0)) (blk_l BK802.out) k_ hk_.2.1), (Kd.freshB (g := gb807) (o := .cells #[.int .i64 t803, .int .i64 t804, .int .i64 t805] 27 (0, 0)) (blk_l BK807.out) k_ hk_.2.1)⟩)) (below_size (tG2 GE802.out GE807.out))); replace HO797 := Aside0.mk (Kd.N_elder' (N_l HO797.out) (Kd.S_base ho0) hb); replace HO810 := Aside0.mk (Kd.N_elder' (N_l HO810.out) (Kd.S_base ho0) hb); replace HO814 := Aside0.mk (Kd.N_elder' (N_l HO814.out) (Kd.S_base ho0) hb); replace HO818 := Aside0.mk (Kd.N_elder' (N_l HO818.out) (Kd.S_base ho0) hb); replace HO822 := Aside0.mk (Kd.N_elder' (N_l HO822.out) (Kd.S_base ho0) hb); replace HO826 := Aside0.mk (Kd.N_elder' (N_l HO826.out) (Kd.S_base ho0) hb); replace HO830 := Aside0.mk (Kd.N_elder' (N_l HO830.out) (Kd.S_base ho0) hb); replace HO833 := Aside0.mk (rB HO833.out hb); replace HO836 := Aside0.mk (Kd.N_elder' (N_l HO836.out) (Kd.S_base ho0) hb); replace HO840 := Aside0.mk (Kd.N_elder' (N_l HO840.out) (Kd.S_base ho0) hb); replace HO851 := Aside0.mk (Kd.N_elder' (N_l HO851.out) (Kd.S_base ho0) hb); replace BK802 := Aside0.mk (bB BK802 hb); replace BK807 := Aside0.mk (bB BK807 hb); replace HB := Aside0.mk (below_step (tG2 GE802.out GE807.out) hb); obtain ⟨Ao102, co102, eo102⟩ := Kd.N_slice HO851.out; subst eo102; obtain ⟨Ao103, co103, eo103⟩ := Kd.N_slice HO854.out; subst eo103) | (go_at_call 17; (with_reducible refine (laws_sameLists.calls k _ _ t849 _ _ t852 t855 _ ?side1 ?side2 ?side3 ?side4 A86.out).mono ?_); (case side1 => exact C_l ((Kd.N_reads' HO851.out).2.2)); (case side2 => exact (Kd.N_reads' HO851.out).2.1); (case side3 => exact C_l ((Kd.N_reads' HO854.out).2.2)); (case side4 => exact (Kd.N_reads' HO854.out).2.1); rintro e w' ⟨rfl, ⟨nd, rfl⟩⟩))
             go_meet
             case rel => exact ⟨_, (!t855), rS, H', ⟨by first | omega | exact Nat.le_refl _⟩, ⟨N_l (Kd.N_mono HO797.out (fun _ hk => ⟨hk.1.1.1.1.1.1.1.1.1.2, ⟨hk.1.1.1.1.1.1.1.2, ⟨hk.1.1.1.1.1.1.2, ⟨hk.1.1.1.1.2, ⟨hk.1.1.1.2, ⟨hk.1.1.1.1.1.1.1.1.1.1.1.1.2, hk.1.1.1.1.1.1.1.1.1.1.1.2⟩⟩⟩⟩⟩⟩))⟩, ⟨N_l (Kd.N_mono HO814.out (fun _ hk => ⟨hk.1.1.1.1.1.1.1.1.1.1, ⟨hk.1.1.1.1.1.1.1.2, ⟨hk.1.1.1.1.1.1.2, ⟨hk.1.1.1.1.2, ⟨hk.1.1.1.2, ⟨hk.1.1.1.1.1.1.1.1.1.2.2.1, hk.1.1.1.1.1.1.1.1.1.2.2.2⟩⟩⟩⟩⟩⟩))⟩, ⟨N_l (Kd.N_mono HO822.out (fun _ hk => ⟨hk.1.1.1.1.1.1.1.1, ⟨hk.1.1.1.1.1.1.1.2.2.1, ⟨hk.1.1.1.1.1.1.2, ⟨hk.1.1.1.1.2, ⟨hk.1.1.1.2, ⟨hk.1.1.1.1.1.1.1.2.2.2.2.1, hk.1.1.1.1.1.1.1.2.2.2.2.2⟩⟩⟩⟩⟩⟩))⟩, ⟨N_l (Kd.N_mono HO826.out (fun _ hk => ⟨hk.1.1.1.1.1.1.1, ⟨hk.1.1.1.1.1.1.2.2.1, ⟨hk.1.1.1.1.1.1.2.2.2.2.1, ⟨hk.1.1.1.1.2, ⟨hk.1.1.1.2, ⟨hk.1.1.1.1.1.1.2.2.2.2.2.1, hk.1.1.1.1.1.1.2.2.2.2.2.2⟩⟩⟩⟩⟩⟩))⟩, ⟨R_l HO833.out⟩, ⟨N_l (Kd.N_mono HO836.out (fun _ hk => ⟨hk.1.1.1.1, ⟨hk.1.1.1.2.2.1, ⟨hk.1.1.1.2.2.2.2.1, ⟨hk.1.1.1.2.2.2.2.2.1, ⟨hk.1.1.1.2.2.2.2.2.2.2.1, ⟨hk.1.1.1.2.2.2.2.2.2.2.2.1, hk.1.1.1.2.2.2.2.2.2.2.2.2⟩⟩⟩⟩⟩⟩))⟩, ⟨by (with_reducible repeat (first | refine blk_drewN ?_ _ | refine blk_drew ?_ | refine blk_alloc ?_ _)); exact BK802.out⟩, ⟨by (with_reducible repeat (first | refine blk_drewN ?_ _ | refine blk_drew ?_ | refine blk_alloc ?_ _)); exact BK807.out⟩, ⟨tG2 GE802.out GE807.out⟩⟩
            ·rw [if_neg c83] at H
             exact absurd H (laws_FnBranches_no_j0 _ _ _ _ _ _ _ _ _ _ _ _ _ _)
          ·replace c66 := Bool.eq_false_iff.mpr c66
           subst c66
           rw [if_neg (show ¬ (false = true) by decide)] at H
           exact absurd H (laws_FnBranches_no_j0 _ _ _ _ _ _ _ _ _ _ _ _ _ _)
        ·replace c56 := Bool.eq_false_iff.mpr c56
         subst c56
         rw [if_neg (show ¬ (false = true) by decide)] at H
         exact absurd H (laws_FnBranches_no_j0 _ _ _ _ _ _ _ _ _ _ _ _ _ _)
      ·replace c48 := Bool.eq_false_iff.mpr c48
       subst c48
       rw [if_neg (show ¬ (false = true) by decide)] at H
       exact absurd H (laws_FnBranches_no_j0 _ _ _ _ _ _ _ _ _ _ _ _ _ _)
  case rest => as_aux_lemma =>
   clear HC16
   try clear c1
   try clear c2
   try clear p2
   try clear c3
   try clear c4
   try clear c5
   try clear c6
   try clear c7
   try clear c8
   try clear c9
   try clear c10
   try clear c11
   try clear c12
   try clear c13
   try clear c14
   try clear c15
   try clear c16
   try clear c24
   try clear c38
   try clear c38b0
   try clear c38b1
   try clear c38b2
   try clear c39
   try clear c39b0
   try clear c40
   try clear c43
   try clear c43b0
   try clear c43b1
   try clear c43b2
   try clear c44
   try clear c48
   try clear c49
   try clear c49b0
   try clear c49b1
   try clear c49b2
   try clear c50
   try clear c56
   try clear c57
   try clear c57b0
   try clear c57b1
   try clear c57b2
   try clear c58
   try clear c66
   try clear c69
   try clear c69b0
   try clear c69b1
   try clear c69b2
   try clear c70
   try clear c83
   try clear c83b0
   try clear c83b1
   try clear c87
   try clear c104
   try clear c117
   try clear c126
   try clear c133
   try clear hcz105_0
   try clear hcz105_1
   try clear hcz105_2
   try clear hcz106_0
   try clear hcz106_1
   try clear hcz106_2
   try clear hcz118_0
   try clear hcz118_1
   try clear hcz118_2
   try clear hcz119_0
   try clear hcz119_1
   try clear hcz119_2
   try clear hcz127_0
   try clear hcz127_1
   try clear hcz127_2
   try clear hcz128_0
   try clear hcz128_1
   try clear hcz128_2
   try clear hcz134_0
   try clear hcz134_1
   try clear hcz134_2
   try clear hcz135_0
   try clear hcz135_1
   try clear hcz135_2
   try clear hcz21_0
   try clear hcz21_1
   try clear hcz21_2
   try clear hcz25_0
   try clear hcz25_1
   try clear hcz25_2
   try clear hcz41_0
   try clear hcz41_1
   try clear hcz41_2
   try clear hcz42_0
   try clear hcz42_1
   try clear hcz42_2
   try clear hcz45_0
   try clear hcz45_1
   try clear hcz45_2
   try clear hcz46_0
   try clear hcz46_1
   try clear hcz46_2
   try clear hcz51_0
   try clear hcz51_1
   try clear hcz51_2
   try clear hcz52_0
   try clear hcz52_1
   try clear hcz52_2
   try clear hcz59_0
   try clear hcz59_1
   try clear hcz59_2
   try clear hcz60_0
   try clear hcz60_1
   try clear hcz60_2
   try clear hcz71_0
   try clear hcz71_1
   try clear hcz71_2
   try clear hcz72_0
   try clear hcz72_1
   try clear hcz72_2
   try clear hcz88_0
   try clear hcz88_1
   try clear hcz88_2
   try clear hcz89_0
   try clear hcz89_1
   try clear hcz89_2
   try clear hfz105_0
   try clear hfz105_1
   try clear hfz105_2
   try clear hfz106_0
   try clear hfz106_1
   try clear hfz106_2
   try clear hfz118_0
   try clear hfz118_1
   try clear hfz118_2
   try clear hfz119_0
   try clear hfz119_1
   try clear hfz119_2
   try clear hfz127_0
   try clear hfz127_1
   try clear hfz127_2
   try clear hfz128_0
   try clear hfz128_1
   try clear hfz128_2
   try clear hfz134_0
   try clear hfz134_1
   try clear hfz134_2
   try clear hfz135_0
   try clear hfz135_1
   try clear hfz135_2
   try clear hfz21_0
   try clear hfz21_1
   try clear hfz21_2
   try clear hfz25_0
   try clear hfz25_1
   try clear hfz25_2
   try clear hfz41_0
   try clear hfz41_1
   try clear hfz41_2
   try clear hfz42_0
   try clear hfz42_1
   try clear hfz42_2
   try clear hfz45_0
   try clear hfz45_1
   try clear hfz45_2
   try clear hfz46_0
   try clear hfz46_1
   try clear hfz46_2
   try clear hfz51_0
   try clear hfz51_1
   try clear hfz51_2
   try clear hfz52_0
   try clear hfz52_1
   try clear hfz52_2
   try clear hfz59_0
   try clear hfz59_1
   try clear hfz59_2
   try clear hfz60_0
   try clear hfz60_1
   try clear hfz60_2
   try clear hfz71_0
   try clear hfz71_1
   try clear hfz71_2
   try clear hfz72_0
   try clear hfz72_1
   try clear hfz72_2
   try clear hfz88_0
   try clear hfz88_1
   try clear hfz88_2
   try clear hfz89_0
   try clear hfz89_1
   try clear hfz89_2
   obtain ⟨kq, x147_15, rfl, HA, HJ15, HO_3, HO_9, HO_13, HO_15, HO_19, HO_20, BK802, BK807, HB⟩ := hcut
   cases kq with
   | zero => exact absurd HA.out (by simp [laws_FnBranches.j0])
   | succ kj15 =>
    have H := HA.out
    clear HA
    simp only [laws_FnBranches.j0] at H
    by_cases c138 : x147_15 = true
    ·subst c138
     rw [if_pos rfl] at H
     exact absurd H (by simp)
    ·replace c138 := Bool.eq_false_iff.mpr c138
     subst c138
     rw [if_neg (show ¬ (false = true) by decide)] at H
     have HC139 := Aside0.mk H
     go_upto_region 17 with (fail)
     go_cut [174] (fun v174 wc => ∃ (kq : Nat) (x174_138 : Bool), v174 = .bool x174_138 ∧ Aside0 (laws_FnBranches.j1 kq t819 t823 t824 t831 t834 t837 x174_138 = some true) ∧ Aside0 (kq ≤ kj15) ∧ Aside0 (Kd.N (Kd.slice 3 (Kd.int .i64)) 35 wc w.heap.size (fun k_ => some k_ ≠ (v825 : Value).ownBlock ∧ some k_ ≠ ((.slice Ao35 t831.length co35) : Value).ownBlock ∧ some k_ ≠ (v835 : Value).ownBlock ∧ k_ ≠ gb802 ∧ k_ ≠ gb807) (.slice Ao31 t819.length co31) t819) ∧ Aside0 (Kd.N (Kd.slice 3 (Kd.int .i64)) 35 wc w.heap.size (fun k_ => some k_ ≠ ((.slice Ao31 t819.length co31) : Value).ownBlock ∧ some k_ ≠ ((.slice Ao35 t831.length co35) : Value).ownBlock ∧ some k_ ≠ (v835 : Value).ownBlock ∧ k_ ≠ gb802 ∧ k_ ≠ gb807) v825 t823) ∧ Aside0 (Kd.R (Kd.int .i64) 3 wc w.heap.size (fun _ => True) (.slice Ao35 t831.length co35) t831) ∧ Aside0 (Kd.N (Kd.slice 3 (Kd.int .i64)) 35 wc w.heap.size (fun k_ => some k_ ≠ ((.slice Ao31 t819.length co31) : Value).ownBlock ∧ some k_ ≠ (v825 : Value).ownBlock ∧ some k_ ≠ ((.slice Ao35 t831.length co35) : Value).ownBlock ∧ k_ ≠ gb802 ∧ k_ ≠ gb807) v835 t834) ∧ Aside0 (wc.heap[gb802]? = some (.cells #[.int .i64 t798, .int .i64 t799, .int .i64 t800] 27 (0, 0))) ∧ Aside0 (wc.heap[gb807]? = some (.cells #[.int .i64 t803, .int .i64 t804, .int .i64 t805] 27 (0, 0))) ∧ Aside0 (Below w.heap.size w wc))
     case first => as_aux_lemma =>
      have H := HC139.out
      clear HC139
      by_cases c140 : t812 = true
      ·subst c140
       rw [if_pos rfl] at H
       obtain ⟨t856, A141, H⟩ := bs H
       by_cases c142 : t856 = true
       ·subst c142
        rw [if_pos rfl] at H
        by_cases c143 : t801 = true
        ·subst c143
         rw [if_pos rfl] at H
         by_cases c144 : t798 < 0
         ·rw [if_pos c144] at H
          exact absurd H (laws_FnBranches_no_j1 _ _ _ _ _ _ _)
         ·rw [if_neg c144] at H
          have c144b0 : decide (t798 < 0) = false := decide_eq_false c144
          clear c144
          (first | rw [c144b0] | (simp only [i64_w, i32_w]; rw [c144b0]) | skip)
          obtain ⟨t857, A148, H⟩ := bs H
          obtain ⟨c149, H⟩ := gd H
          have c149b0 : decide (0 < (t795.length : Int)) = true := decide_eq_true c149
          have c149b1 : decide (0 < t795.length) = true := decide_eq_true (by omega)
          clear c149
          obtain ⟨t859, A150, H⟩ := bs H
          have H' := Aside0.mk H
          try go_wp2
          replace HO_3 := Aside0.mk (Kd.N_drew HO_3.out); replace HO_9 := Aside0.mk (Kd.N_drew HO_9.out); replace HO_13 := Aside0.mk (Kd.N_drew HO_13.out); replace HO_15 := Aside0.mk (Kd.N_drew HO_15.out); replace HO_19 := Aside0.mk (Kd.R_drew HO_19.out); replace HO_20 := Aside0.mk (Kd.N_drew HO_20.out); replace BK802 := Aside0.mk (blk_drew BK802.out); replace BK807 := Aside0.mk (blk_drew BK807.out); replace HB := Aside0.mk (below_drew1 HB.out)
          obtain ⟨Ao152, co152, eo152⟩ := Kd.N_slice HO_9.out
          (first | subst eo152 | (injection eo152 with f1_ f2_ f3_; have f4_ := f1_.symm; have f5_ := f3_.symm; clear f1_ f2_ f3_; subst f4_; subst f5_))
          have p858 : 0 ≤ (0 : Int) := (by omega)
          have q858 : 0 < (t795.length : Int) := dT
          obtain ⟨ad858, A858_0, c858_0, e858, hx858_0, hl858_0, hi858_0⟩ := at_L3 (Kd.N_reads' HO_3.out).2.2 0 p858 q858
          cases e858
          obtain ⟨ce858, hce858, hMe858, hcc858⟩ := Kd.N_get HO_3.out [] 0 p858 (by first | exact q858 | exact dT | (have e_ := (Kd.N_reads' HO_3.out).1; omega))
          obtain ⟨ua858_0, uc858_0, rfl, ul858_0, ge858_0⟩ := Kd.FK_slice_open hMe858
          have hv858_0 := hcc858 0 _ rfl
          rw [Nat.add_zero, show ((Kd.slice 3 (Kd.int .i64))).sz = 1 from rfl, Nat.mul_one] at hv858_0
          replace hv858_0 := Option.some.inj (hv858_0.symm.trans hx858_0)
          injection hv858_0 with hva_ hvn_ hvc_
          rw [hva_] at ge858_0
          rw [hvc_] at ul858_0
          have HL858_0 := Aside0.mk (show Kd.V (Kd.int .i64) 3 _ w.heap.size _ _ (rd_L3 t795 0) from Kd.V_mk ul858_0 ge858_0)
          clear hva_ hvn_ hvc_ ge858_0 ul858_0
          clear hcc858 hce858
          have qi858 : (0 < t795.length) = True := eq_true (by omega)
          (try rw [show ((0 : Int)).toNat = 0 from rfl] at hx858_0)
          (try rw [Addr.add_zero'] at hx858_0)
          have HR858_0 := Aside0.mk hi858_0
          have HC858_0 := Aside0.mk hl858_0
          clear hi858_0 hl858_0
          replace p858 := eq_true p858
          replace q858 := eq_true q858
          refine start_ (n := 27) (S := fun w' => w'.cell? ⟨gb802, 0, none⟩ = some (.int .i64 t798) ∧ w'.cell? ⟨gb802, 1, none⟩ = some (.int .i64 t799) ∧ w'.cell? ⟨gb802, 2, none⟩ = some (.int .i64 t800) ∧ w'.cell? ad858 = some (.slice A858_0 (rd_L3 t795 0).length c858_0)) (ds := []) #[false, false, false, false, false, false, false, false, false, false, false, false, false, false, false, false, false, false, false, false, false, false, false, false, false, false, false] (by kernel_rfl) rfl rfl ⟨(blk_cell BK802.out 0).trans rfl, (blk_cell BK802.out 1).trans rfl, (blk_cell BK802.out 2).trans rfl, hx858_0⟩ (fun hHeld => ?_); refine with_tabW laws_FnBranches.tab17 laws_FnBranches.bits17 (fun HT_ HW_ => ?_)
          generalize wc.drew = w151 at HO_3 HO_9 HO_13 HO_15 HO_19 HO_20 BK802 BK807 HB HL858_0 HR858_0 hx858_0 hHeld ⊢
          refine pu_ 0 (some 148) ?_
          refine pu_ 1 (some 149) ?_
          refine pu_ 2 (some 150) ?_
          refine one_ (i := 3) (N := some 151) #[true, true, true, true, false, false, false, false, false, false, false, false, false, false, false, false, false, false, false, false, false, false, false, false, false, false, false] rfl rfl (one_of HT_.out (by kernel_rfl)) (by decide) (fun K hK => ?_)
          refine goes_ Try.func18 (by kernel_rfl) rfl #[.slice Ao152 t811.length co152] (by rfl) rfl rfl mp_ ?_
          with_reducible refine (impl_IsPassport.calls kj15 _ _ t811 true _ ?side1 ?side2 A141.out).mono ?_
          (case side1 => exact C_l ((Kd.N_reads' HO_9.out).2.2))
          (case side2 => exact (Kd.N_reads' HO_9.out).2.1)
          rintro e w153 ⟨rfl, hb⟩
          have HS3_ := (hb.cell (World.block_lt_of_cell? _ _ (hHeld.2.2.2))).trans (hHeld.2.2.2)
          refine ⟨_, rfl, ?_⟩
          replace HO_3 := Aside0.mk (nB HO_3.out hb); replace HO_9 := Aside0.mk (nB HO_9.out hb); replace HO_13 := Aside0.mk (nB HO_13.out hb); replace HO_15 := Aside0.mk (nB HO_15.out hb); replace HO_19 := Aside0.mk (rB HO_19.out hb); replace HO_20 := Aside0.mk (nB HO_20.out hb); replace BK802 := Aside0.mk (bB BK802 hb); replace BK807 := Aside0.mk (bB BK807 hb); replace HB := Aside0.mk (below_step (tG2 GE802.out GE807.out) hb)
          (try clear hb)
          (try clear hb2)
          (try clear hk)
          (try clear hi)
          refine hK.out _ _ ⟨(blk_cell BK802.out 0).trans rfl, (blk_cell BK802.out 1).trans rfl, (blk_cell BK802.out 2).trans rfl, HS3_⟩ (fun hHeld => ?_)
          clear hK K
          refine norm_ (a' := ?_) ?_ ?_
          rotate_left
          ·show Act.put _ (some 151) _ = _
           simp only [Act.put, List.setIfInBounds_toArray, List.set_cons_zero, List.set_cons_succ, i64_w, i32_w]
           rfl
          refine pu_ 4 (some 152) ?_
          refine pu_ 5 (some 153) ?_
          refine pu_ 6 (some 154) ?_
          refine pu_ 7 (some 155) ?_
          refine pu_ 8 (some 156) ?_
          refine pu_ 9 (some 157) ?_
          refine take_ (i := 10) (N := some 158) (v := ?_) (a' := ?_) #[true, true, true, true, true, true, true, true, true, true, true, false, false, false, false, false, false, false, false, false, false, false, false, false, false, false, false] rfl rfl (take_ofW HT_.out HW_.out (by kernel_rfl)) (fun _ _ _ h => h) (Or.inl ⟨by rfl, ?_⟩) hHeld ?_ ?_
          rotate_left
          ·rintro w' ⟨s0, s1, s2, s3⟩
           go_simp
           with_reducible rfl
          rotate_left
          ·simp only [Act.put, List.setIfInBounds_toArray, List.set_cons_zero, List.set_cons_succ, i64_w, i32_w]
           rfl
          refine pu_ 11 (some 159) ?_
          refine pu_ 12 (some 160) ?_
          refine pu_ 15 (some 163) ?_
          refine pu_ 16 (some 164) ?_
          refine pu_ 20 (some 168) ?_
          refine take_ (i := 13) (N := some 161) (v := ?_) (a' := ?_) #[true, true, true, true, true, true, true, true, true, true, true, true, true, true, false, true, true, false, false, false, true, false, false, false, false, false, false] rfl rfl (take_ofW HT_.out HW_.out (by kernel_rfl)) (fun _ _ _ h => h) (Or.inl ⟨by rfl, ?_⟩) hHeld ?_ ?_
          rotate_left
          ·rintro w' ⟨s0, s1, s2, s3⟩
           go_simp
           with_reducible rfl
          rotate_left
          ·simp only [Act.put, List.setIfInBounds_toArray, List.set_cons_zero, List.set_cons_succ, i64_w, i32_w]
           rfl
          refine take_ (i := 17) (N := some 165) (v := ?_) (a' := ?_) #[true, true, true, true, true, true, true, true, true, true, true, true, true, true, false, true, true, true, false, false, true, false, false, false, false, false, false] rfl rfl (take_ofW HT_.out HW_.out (by kernel_rfl)) (fun _ _ _ h => h) (Or.inl ⟨by rfl, ?_⟩) hHeld ?_ ?_
          rotate_left
          ·rintro w' ⟨s0, s1, s2, s3⟩
           go_simp
           with_reducible rfl
          rotate_left
          ·simp only [Act.put, List.setIfInBounds_toArray, List.set_cons_zero, List.set_cons_succ, i64_w, i32_w]
           rfl
          refine pu_ 18 (some 166) ?_
          refine pu_ 19 (some 167) ?_
          refine one_ (i := 14) (N := some 162) #[true, true, true, true, true, true, true, true, true, true, true, true, true, true, true, true, true, true, true, true, true, false, false, false, false, false, false] rfl rfl (one_of HT_.out (by kernel_rfl)) (by decide) (fun K hK => ?_)
          refine goes_ Try.func24 (by kernel_rfl) rfl #[.agg #[.int .i64 t798, .int .i64 t799, .int .i64 t800]] (by rfl) rfl rfl mp_ ?_
          with_reducible refine (spec_EulerNumber.calls t798 t799 t800 t857 _ A148.out).mono ?_
          rintro e w154 ⟨rfl, hb⟩
          have HS3_ := (hb.cell (World.block_lt_of_cell? _ _ (hHeld.2.2.2))).trans (hHeld.2.2.2)
          refine ⟨_, rfl, ?_⟩
          replace HO_3 := Aside0.mk (nB HO_3.out hb); replace HO_9 := Aside0.mk (nB HO_9.out hb); replace HO_13 := Aside0.mk (nB HO_13.out hb); replace HO_15 := Aside0.mk (nB HO_15.out hb); replace HO_19 := Aside0.mk (rB HO_19.out hb); replace HO_20 := Aside0.mk (nB HO_20.out hb); replace BK802 := Aside0.mk (bB BK802 hb); replace BK807 := Aside0.mk (bB BK807 hb); replace HB := Aside0.mk (below_step (tG2 GE802.out GE807.out) hb)
          (try clear hb)
          (try clear hb2)
          (try clear hk)
          (try clear hi)
          refine hK.out _ _ ⟨(blk_cell BK802.out 0).trans rfl, (blk_cell BK802.out 1).trans rfl, (blk_cell BK802.out 2).trans rfl, HS3_⟩ (fun hHeld => ?_)
          clear hK K
          refine norm_ (a' := ?_) ?_ ?_
          rotate_left
          ·show Act.put _ (some 162) _ = _
           simp only [Act.put, List.setIfInBounds_toArray, List.set_cons_zero, List.set_cons_succ, i64_w, i32_w]
           rfl
          refine one_ (i := 21) (N := some 169) #[true, true, true, true, true, true, true, true, true, true, true, true, true, true, true, true, true, true, true, true, true, true, false, false, false, false, false] rfl rfl (one_of HT_.out (by kernel_rfl)) (by decide) (fun K hK => ?_)
          refine goes_ Try.func20 (by kernel_rfl) rfl #[.slice (some ad858) t795.length co18] (by rfl) rfl rfl mp_ ?_
          with_reducible refine (impl_BranchSum.calls kj15 _ _ t795 t859 _ ?side1 ?side2 A150.out).mono ?_
          (case side1 => exact C_l ((Kd.N_reads' HO_3.out).2.2))
          (case side2 => exact (Kd.N_reads' HO_3.out).2.1)
          rintro e w155 ⟨rfl, hb⟩
          have HS3_ := (hb.cell (World.block_lt_of_cell? _ _ (hHeld.2.2.2))).trans (hHeld.2.2.2)
          refine ⟨_, rfl, ?_⟩
          replace HO_3 := Aside0.mk (nB HO_3.out hb); replace HO_9 := Aside0.mk (nB HO_9.out hb); replace HO_13 := Aside0.mk (nB HO_13.out hb); replace HO_15 := Aside0.mk (nB HO_15.out hb); replace HO_19 := Aside0.mk (rB HO_19.out hb); replace HO_20 := Aside0.mk (nB HO_20.out hb); replace BK802 := Aside0.mk (bB BK802 hb); replace BK807 := Aside0.mk (bB BK807 hb); replace HB := Aside0.mk (below_step (tG2 GE802.out GE807.out) hb)
          (try clear hb)
          (try clear hb2)
          (try clear hk)
          (try clear hi)
          refine hK.out _ _ ⟨(blk_cell BK802.out 0).trans rfl, (blk_cell BK802.out 1).trans rfl, (blk_cell BK802.out 2).trans rfl, HS3_⟩ (fun hHeld => ?_)
          clear hK K
          refine norm_ (a' := ?_) ?_ ?_
          rotate_left
          ·show Act.put _ (some 169) _ = _
           simp only [Act.put, List.setIfInBounds_toArray, List.set_cons_zero, List.set_cons_succ, i64_w, i32_w]
           rfl
          refine pu_ 22 (some 170) ?_
          refine pu_ 23 (some 171) ?_
          refine pu_ 24 (some 172) ?_
          refine pu_ 25 (some 173) ?_
          refine pu_ 26 (some 174) ?_
          refine done_ (done_of HT_.out (by kernel_rfl)) ?_
          try go_wp2
          go_meet
          case rel => exact ⟨_, ((t857 != (wrap64 ((wrap64 (2 * ((rd_L3 t795 0).length : Int))) - t859)))), rS, H', ⟨by have := HJ15.out; first | omega | exact Nat.le_refl _⟩, ⟨N_l (Kd.N_mono HO_13.out (fun _ hk => ⟨hk.2.2.1, ⟨hk.2.2.2.1, ⟨hk.2.2.2.2.1, ⟨hk.2.2.2.2.2.1, hk.2.2.2.2.2.2⟩⟩⟩⟩))⟩, ⟨N_l (Kd.N_mono HO_15.out (fun _ hk => ⟨hk.2.2.1, ⟨hk.2.2.2.1, ⟨hk.2.2.2.2.1, ⟨hk.2.2.2.2.2.1, hk.2.2.2.2.2.2⟩⟩⟩⟩))⟩, ⟨R_l HO_19.out⟩, ⟨N_l (Kd.N_mono HO_20.out (fun _ hk => ⟨hk.2.2.1, ⟨hk.2.2.2.1, ⟨hk.2.2.2.2.1, ⟨hk.2.2.2.2.2.1, hk.2.2.2.2.2.2⟩⟩⟩⟩))⟩, ⟨by (with_reducible repeat (first | refine blk_drewN ?_ _ | refine blk_drew ?_ | refine blk_alloc ?_ _)); exact BK802.out⟩, ⟨by (with_reducible repeat (first | refine blk_drewN ?_ _ | refine blk_drew ?_ | refine blk_alloc ?_ _)); exact BK807.out⟩, ⟨tG2 GE802.out GE807.out⟩⟩
        ·replace c143 := Bool.eq_false_iff.mpr c143
         subst c143
         rw [if_neg (show ¬ (false = true) by decide)] at H
         have H' := Aside0.mk H
         try go_wp2
         replace HO_3 := Aside0.mk (Kd.N_drew HO_3.out); replace HO_9 := Aside0.mk (Kd.N_drew HO_9.out); replace HO_13 := Aside0.mk (Kd.N_drew HO_13.out); replace HO_15 := Aside0.mk (Kd.N_drew HO_15.out); replace HO_19 := Aside0.mk (Kd.R_drew HO_19.out); replace HO_20 := Aside0.mk (Kd.N_drew HO_20.out); replace BK802 := Aside0.mk (blk_drew BK802.out); replace BK807 := Aside0.mk (blk_drew BK807.out); replace HB := Aside0.mk (below_drew1 HB.out)
         obtain ⟨Ao157, co157, eo157⟩ := Kd.N_slice HO_9.out
         (first | subst eo157 | (injection eo157 with f1_ f2_ f3_; have f4_ := f1_.symm; have f5_ := f3_.symm; clear f1_ f2_ f3_; subst f4_; subst f5_))
         refine start_ (n := 27) (S := fun w' => True) (ds := []) #[false, false, false, false, false, false, false, false, false, false, false, false, false, false, false, false, false, false, false, false, false, false, false, false, false, false, false] (by kernel_rfl) rfl rfl trivial (fun hHeld => ?_); refine with_tabW laws_FnBranches.tab17 laws_FnBranches.bits17 (fun HT_ HW_ => ?_)
         generalize wc.drew = w156 at HO_3 HO_9 HO_13 HO_15 HO_19 HO_20 BK802 BK807 HB hHeld ⊢
         refine pu_ 0 (some 148) ?_
         refine pu_ 1 (some 149) ?_
         refine pu_ 2 (some 150) ?_
         refine one_ (i := 3) (N := some 151) #[true, true, true, true, false, false, false, false, false, false, false, false, false, false, false, false, false, false, false, false, false, false, false, false, false, false, false] rfl rfl (one_of HT_.out (by kernel_rfl)) (by decide) (fun K hK => ?_)
         refine goes_ Try.func18 (by kernel_rfl) rfl #[.slice Ao157 t811.length co157] (by rfl) rfl rfl mp_ ?_
         with_reducible refine (impl_IsPassport.calls kj15 _ _ t811 true _ ?side1 ?side2 A141.out).mono ?_
         (case side1 => exact C_l ((Kd.N_reads' HO_9.out).2.2))
         (case side2 => exact (Kd.N_reads' HO_9.out).2.1)
         rintro e w158 ⟨rfl, hb⟩
         refine ⟨_, rfl, ?_⟩
         replace HO_3 := Aside0.mk (nB HO_3.out hb); replace HO_9 := Aside0.mk (nB HO_9.out hb); replace HO_13 := Aside0.mk (nB HO_13.out hb); replace HO_15 := Aside0.mk (nB HO_15.out hb); replace HO_19 := Aside0.mk (rB HO_19.out hb); replace HO_20 := Aside0.mk (nB HO_20.out hb); replace BK802 := Aside0.mk (bB BK802 hb); replace BK807 := Aside0.mk (bB BK807 hb); replace HB := Aside0.mk (below_step (tG2 GE802.out GE807.out) hb)
         (try clear hb)
         (try clear hb2)
         (try clear hk)
         (try clear hi)
         refine hK.out _ _ trivial (fun hHeld => ?_)
         clear hK K
         refine norm_ (a' := ?_) ?_ ?_
         rotate_left
         ·show Act.put _ (some 151) _ = _
          simp only [Act.put, List.setIfInBounds_toArray, List.set_cons_zero, List.set_cons_succ, i64_w, i32_w]
          rfl
         refine pu_ 4 (some 152) ?_
         refine pu_ 5 (some 153) ?_
         refine pu_ 6 (some 154) ?_
         refine pu_ 7 (some 155) ?_
         refine pu_ 8 (some 156) ?_
         refine pv_ 9 (some 157) ?_
         refine pv_ 10 (some 158) ?_
         refine pv_ 11 (some 159) ?_
         refine pv_ 12 (some 160) ?_
         refine pv_ 13 (some 161) ?_
         refine pv_ 14 (some 162) ?_
         refine pv_ 15 (some 163) ?_
         refine pv_ 16 (some 164) ?_
         refine pv_ 17 (some 165) ?_
         refine pv_ 18 (some 166) ?_
         refine pv_ 19 (some 167) ?_
         refine pv_ 20 (some 168) ?_
         refine pv_ 21 (some 169) ?_
         refine pv_ 22 (some 170) ?_
         refine pv_ 23 (some 171) ?_
         refine pv_ 24 (some 172) ?_
         refine pu_ 25 (some 173) ?_
         refine pu_ 26 (some 174) ?_
         refine done_ (done_of HT_.out (by kernel_rfl)) ?_
         try go_wp2
         go_meet
         case rel => exact ⟨_, (false), rS, H', ⟨by have := HJ15.out; first | omega | exact Nat.le_refl _⟩, ⟨N_l (Kd.N_mono HO_13.out (fun _ hk => ⟨hk.2.2.1, ⟨hk.2.2.2.1, ⟨hk.2.2.2.2.1, ⟨hk.2.2.2.2.2.1, hk.2.2.2.2.2.2⟩⟩⟩⟩))⟩, ⟨N_l (Kd.N_mono HO_15.out (fun _ hk => ⟨hk.2.2.1, ⟨hk.2.2.2.1, ⟨hk.2.2.2.2.1, ⟨hk.2.2.2.2.2.1, hk.2.2.2.2.2.2⟩⟩⟩⟩))⟩, ⟨R_l HO_19.out⟩, ⟨N_l (Kd.N_mono HO_20.out (fun _ hk => ⟨hk.2.2.1, ⟨hk.2.2.2.1, ⟨hk.2.2.2.2.1, ⟨hk.2.2.2.2.2.1, hk.2.2.2.2.2.2⟩⟩⟩⟩))⟩, ⟨by (with_reducible repeat (first | refine blk_drewN ?_ _ | refine blk_drew ?_ | refine blk_alloc ?_ _)); exact BK802.out⟩, ⟨by (with_reducible repeat (first | refine blk_drewN ?_ _ | refine blk_drew ?_ | refine blk_alloc ?_ _)); exact BK807.out⟩, ⟨tG2 GE802.out GE807.out⟩⟩
       ·replace c142 := Bool.eq_false_iff.mpr c142
        subst c142
        rw [if_neg (show ¬ (false = true) by decide)] at H
        exact absurd H (laws_FnBranches_no_j1 _ _ _ _ _ _ _)
      ·replace c140 := Bool.eq_false_iff.mpr c140
       subst c140
       rw [if_neg (show ¬ (false = true) by decide)] at H
       by_cases c162 : t801 = true
       ·subst c162
        rw [if_pos rfl] at H
        by_cases c163 : t798 < 0
        ·rw [if_pos c163] at H
         exact absurd H (laws_FnBranches_no_j1 _ _ _ _ _ _ _)
        ·rw [if_neg c163] at H
         have c163b0 : decide (t798 < 0) = false := decide_eq_false c163
         clear c163
         obtain ⟨t860, A165, H⟩ := bs H
         obtain ⟨c166, H⟩ := gd H
         have c166b0 : decide (0 < (t795.length : Int)) = true := decide_eq_true c166
         have c166b1 : decide (0 < t795.length) = true := decide_eq_true (by omega)
         clear c166
         obtain ⟨t862, A167, H⟩ := bs H
         have H' := Aside0.mk H
         clear H
         try go_wp2
         replace HO_3 := Aside0.mk (Kd.N_drew HO_3.out); replace HO_9 := Aside0.mk (Kd.N_drew HO_9.out); replace HO_13 := Aside0.mk (Kd.N_drew HO_13.out); replace HO_15 := Aside0.mk (Kd.N_drew HO_15.out); replace HO_19 := Aside0.mk (Kd.R_drew HO_19.out); replace HO_20 := Aside0.mk (Kd.N_drew HO_20.out); replace BK802 := Aside0.mk (blk_drew BK802.out); replace BK807 := Aside0.mk (blk_drew BK807.out); replace HB := Aside0.mk (below_drew1 HB.out)
         have p861 : 0 ≤ (0 : Int) := (by omega)
         have q861 : 0 < (t795.length : Int) := dT
         obtain ⟨ad861, A861_0, c861_0, e861, hx861_0, hl861_0, hi861_0⟩ := at_L3 (Kd.N_reads' HO_3.out).2.2 0 p861 q861
         cases e861
         obtain ⟨ce861, hce861, hMe861, hcc861⟩ := Kd.N_get HO_3.out [] 0 p861 (by first | exact q861 | exact dT | (have e_ := (Kd.N_reads' HO_3.out).1; omega))
         obtain ⟨ua861_0, uc861_0, rfl, ul861_0, ge861_0⟩ := Kd.FK_slice_open hMe861
         have hv861_0 := hcc861 0 _ rfl
         rw [Nat.add_zero, show ((Kd.slice 3 (Kd.int .i64))).sz = 1 from rfl, Nat.mul_one] at hv861_0
         replace hv861_0 := Option.some.inj (hv861_0.symm.trans hx861_0)
         injection hv861_0 with hva_ hvn_ hvc_
         rw [hva_] at ge861_0
         rw [hvc_] at ul861_0
         have HL861_0 := Aside0.mk (show Kd.V (Kd.int .i64) 3 _ w.heap.size _ _ (rd_L3 t795 0) from Kd.V_mk ul861_0 ge861_0)
         clear hva_ hvn_ hvc_ ge861_0 ul861_0
         clear hcc861 hce861
         have qi861 : (0 < t795.length) = True := eq_true (by omega)
         (try rw [show ((0 : Int)).toNat = 0 from rfl] at hx861_0)
         (try rw [Addr.add_zero'] at hx861_0)
         have HR861_0 := Aside0.mk hi861_0
         have HC861_0 := Aside0.mk hl861_0
         clear hi861_0 hl861_0
         replace p861 := eq_true p861
         replace q861 := eq_true q861
         refine start_ (n := 27) (S := fun w' => w'.cell? ⟨gb802, 0, none⟩ = some (.int .i64 t798) ∧ w'.cell? ⟨gb802, 1, none⟩ = some (.int .i64 t799) ∧ w'.cell? ⟨gb802, 2, none⟩ = some (.int .i64 t800) ∧ w'.cell? ad861 = some (.slice A861_0 (rd_L3 t795 0).length c861_0)) (ds := []) #[false, false, false, false, false, false, false, false, false, false, false, false, false, false, false, false, false, false, false, false, false, false, false, false, false, false, false] (by kernel_rfl) rfl rfl ⟨(blk_cell BK802.out 0).trans rfl, (blk_cell BK802.out 1).trans rfl, (blk_cell BK802.out 2).trans rfl, hx861_0⟩ (fun hHeld => ?_); refine with_tabW laws_FnBranches.tab17 laws_FnBranches.bits17 (fun HT_ HW_ => ?_)
         generalize wc.drew = w168 at HO_3 HO_9 HO_13 HO_15 HO_19 HO_20 BK802 BK807 HB HL861_0 HR861_0 hx861_0 hHeld ⊢
         refine pu_ 0 (some 148) ?_
         refine pu_ 1 (some 149) ?_
         refine pv_ 2 (some 150) ?_
         refine pv_ 3 (some 151) ?_
         refine pv_ 4 (some 152) ?_
         refine pu_ 5 (some 153) ?_
         refine pu_ 6 (some 154) ?_
         refine pu_ 7 (some 155) ?_
         refine pu_ 8 (some 156) ?_
         refine pu_ 9 (some 157) ?_
         refine take_ (i := 10) (N := some 158) (v := ?_) (a' := ?_) #[true, true, true, true, true, true, true, true, true, true, true, false, false, false, false, false, false, false, false, false, false, false, false, false, false, false, false] rfl rfl (take_ofW HT_.out HW_.out (by kernel_rfl)) (fun _ _ _ h => h) (Or.inl ⟨by rfl, ?_⟩) hHeld ?_ ?_
         rotate_left
         ·rintro w' ⟨s0, s1, s2, s3⟩
          go_simp
          with_reducible rfl
         rotate_left
         ·simp only [Act.put, List.setIfInBounds_toArray, List.set_cons_zero, List.set_cons_succ, i64_w, i32_w]
          rfl
         refine pu_ 11 (some 159) ?_
         refine pu_ 12 (some 160) ?_
         refine pu_ 15 (some 163) ?_
         refine pu_ 16 (some 164) ?_
         refine pu_ 20 (some 168) ?_
         refine take_ (i := 13) (N := some 161) (v := ?_) (a' := ?_) #[true, true, true, true, true, true, true, true, true, true, true, true, true, true, false, true, true, false, false, false, true, false, false, false, false, false, false] rfl rfl (take_ofW HT_.out HW_.out (by kernel_rfl)) (fun _ _ _ h => h) (Or.inl ⟨by rfl, ?_⟩) hHeld ?_ ?_
         rotate_left
         ·rintro w' ⟨s0, s1, s2, s3⟩
          go_simp
          with_reducible rfl
         rotate_left
         ·simp only [Act.put, List.setIfInBounds_toArray, List.set_cons_zero, List.set_cons_succ, i64_w, i32_w]
          rfl
         refine take_ (i := 17) (N := some 165) (v := ?_) (a' := ?_) #[true, true, true, true, true, true, true, true, true, true, true, true, true, true, false, true, true, true, false, false, true, false, false, false, false, false, false] rfl rfl (take_ofW HT_.out HW_.out (by kernel_rfl)) (fun _ _ _ h => h) (Or.inl ⟨by rfl, ?_⟩) hHeld ?_ ?_
         rotate_left
         ·rintro w' ⟨s0, s1, s2, s3⟩
          go_simp
          with_reducible rfl
         rotate_left
         ·simp only [Act.put, List.setIfInBounds_toArray, List.set_cons_zero, List.set_cons_succ, i64_w, i32_w]
          rfl
         refine pu_ 18 (some 166) ?_
         refine pu_ 19 (some 167) ?_
         refine one_ (i := 14) (N := some 162) #[true, true, true, true, true, true, true, true, true, true, true, true, true, true, true, true, true, true, true, true, true, false, false, false, false, false, false] rfl rfl (one_of HT_.out (by kernel_rfl)) (by decide) (fun K hK => ?_)
         refine goes_ Try.func24 (by kernel_rfl) rfl #[.agg #[.int .i64 t798, .int .i64 t799, .int .i64 t800]] (by rfl) rfl rfl mp_ ?_
         with_reducible refine (spec_EulerNumber.calls t798 t799 t800 t860 _ A165.out).mono ?_
         rintro e w169 ⟨rfl, hb⟩
         have HS3_ := (hb.cell (World.block_lt_of_cell? _ _ (hHeld.2.2.2))).trans (hHeld.2.2.2)
         refine ⟨_, rfl, ?_⟩
         replace HO_3 := Aside0.mk (nB HO_3.out hb); replace HO_9 := Aside0.mk (nB HO_9.out hb); replace HO_13 := Aside0.mk (nB HO_13.out hb); replace HO_15 := Aside0.mk (nB HO_15.out hb); replace HO_19 := Aside0.mk (rB HO_19.out hb); replace HO_20 := Aside0.mk (nB HO_20.out hb); replace HL861_0 := Aside0.mk (Kd.V_below (by (with_reducible repeat (first | apply Kd.V_alloc | apply Kd.V_drewN | apply Kd.V_drew)); exact HL861_0.out) hb); replace BK802 := Aside0.mk (bB BK802 hb); replace BK807 := Aside0.mk (bB BK807 hb); replace HR861_0 := Aside0.mk (Kd.C_below (by repeat (first | (with_reducible exact HR861_0.out) | (with_reducible refine Kd.C_alloc ?_ _) | (with_reducible refine Kd.C_drewN ?_ _) | (with_reducible refine Kd.C_drew ?_) | exact HR861_0.out)) hb); replace HB := Aside0.mk (below_step (tG2 GE802.out GE807.out) hb)
         (try clear hb)
         (try clear hb2)
         (try clear hk)
         (try clear hi)
         refine hK.out _ _ ⟨(blk_cell BK802.out 0).trans rfl, (blk_cell BK802.out 1).trans rfl, (blk_cell BK802.out 2).trans rfl, HS3_⟩ (fun hHeld => ?_)
         clear hK K
         refine norm_ (a' := ?_) ?_ ?_
         rotate_left
         ·show Act.put _ (some 162) _ = _
          simp only [Act.put, List.setIfInBounds_toArray, List.set_cons_zero, List.set_cons_succ, i64_w, i32_w]
          rfl
         refine one_ (i := 21) (N := some 169) #[true, true, true, true, true, true, true, true, true, true, true, true, true, true, true, true, true, true, true, true, true, true, false, false, false, false, false] rfl rfl (one_of HT_.out (by kernel_rfl)) (by decide) (fun K hK => ?_)
         refine goes_ Try.func20 (by kernel_rfl) rfl #[.slice (some ad861) t795.length co18] (by rfl) rfl rfl mp_ ?_
         with_reducible refine (impl_BranchSum.calls kj15 _ _ t795 t862 _ ?side1 ?side2 A167.out).mono ?_
         (case side1 => exact C_l ((Kd.N_reads' HO_3.out).2.2))
         (case side2 => exact (Kd.N_reads' HO_3.out).2.1)
         rintro e w170 ⟨rfl, hb⟩
         have HS3_ := (hb.cell (World.block_lt_of_cell? _ _ (hHeld.2.2.2))).trans (hHeld.2.2.2)
         refine ⟨_, rfl, ?_⟩
         replace HO_3 := Aside0.mk (nB HO_3.out hb); replace HO_9 := Aside0.mk (nB HO_9.out hb); replace HO_13 := Aside0.mk (nB HO_13.out hb); replace HO_15 := Aside0.mk (nB HO_15.out hb); replace HO_19 := Aside0.mk (rB HO_19.out hb); replace HO_20 := Aside0.mk (nB HO_20.out hb); replace HL861_0 := Aside0.mk (Kd.V_below (by (with_reducible repeat (first | apply Kd.V_alloc | apply Kd.V_drewN | apply Kd.V_drew)); exact HL861_0.out) hb); replace BK802 := Aside0.mk (bB BK802 hb); replace BK807 := Aside0.mk (bB BK807 hb); replace HR861_0 := Aside0.mk (Kd.C_below (by repeat (first | (with_reducible exact HR861_0.out) | (with_reducible refine Kd.C_alloc ?_ _) | (with_reducible refine Kd.C_drewN ?_ _) | (with_reducible refine Kd.C_drew ?_) | exact HR861_0.out)) hb); replace HB := Aside0.mk (below_step (tG2 GE802.out GE807.out) hb)
         (try clear hb)
         (try clear hb2)
         (try clear hk)
         (try clear hi)
         refine hK.out _ _ ⟨(blk_cell BK802.out 0).trans rfl, (blk_cell BK802.out 1).trans rfl, (blk_cell BK802.out 2).trans rfl, HS3_⟩ (fun hHeld => ?_)
         clear hK K
         refine norm_ (a' := ?_) ?_ ?_
         rotate_left
         ·show Act.put _ (some 169) _ = _
          simp only [Act.put, List.setIfInBounds_toArray, List.set_cons_zero, List.set_cons_succ, i64_w, i32_w]
          rfl
         refine pu_ 22 (some 170) ?_
         refine pu_ 23 (some 171) ?_
         refine pu_ 24 (some 172) ?_
         refine pu_ 25 (some 173) ?_
         refine pu_ 26 (some 174) ?_
         refine done_ (done_of HT_.out (by kernel_rfl)) ?_
         try go_wp2
         go_meet
         case rel => exact ⟨_, ((t860 != (wrap64 ((wrap64 (2 * ((rd_L3 t795 0).length : Int))) - t862)))), rS, H', ⟨by have := HJ15.out; first | omega | exact Nat.le_refl _⟩, ⟨N_l (Kd.N_mono HO_13.out (fun _ hk => ⟨hk.2.2.1, ⟨hk.2.2.2.1, ⟨hk.2.2.2.2.1, ⟨hk.2.2.2.2.2.1, hk.2.2.2.2.2.2⟩⟩⟩⟩))⟩, ⟨N_l (Kd.N_mono HO_15.out (fun _ hk => ⟨hk.2.2.1, ⟨hk.2.2.2.1, ⟨hk.2.2.2.2.1, ⟨hk.2.2.2.2.2.1, hk.2.2.2.2.2.2⟩⟩⟩⟩))⟩, ⟨R_l HO_19.out⟩, ⟨N_l (Kd.N_mono HO_20.out (fun _ hk => ⟨hk.2.2.1, ⟨hk.2.2.2.1, ⟨hk.2.2.2.2.1, ⟨hk.2.2.2.2.2.1, hk.2.2.2.2.2.2⟩⟩⟩⟩))⟩, ⟨by (with_reducible repeat (first | refine blk_drewN ?_ _ | refine blk_drew ?_ | refine blk_alloc ?_ _)); exact BK802.out⟩, ⟨by (with_reducible repeat (first | refine blk_drewN ?_ _ | refine blk_drew ?_ | refine blk_alloc ?_ _)); exact BK807.out⟩, ⟨tG2 GE802.out GE807.out⟩⟩
       ·replace c162 := Bool.eq_false_iff.mpr c162
        subst c162
        rw [if_neg (show ¬ (false = true) by decide)] at H
        have H' := Aside0.mk H
        clear H
        try go_wp2
        replace HO_3 := Aside0.mk (Kd.N_drew HO_3.out); replace HO_9 := Aside0.mk (Kd.N_drew HO_9.out); replace HO_13 := Aside0.mk (Kd.N_drew HO_13.out); replace HO_15 := Aside0.mk (Kd.N_drew HO_15.out); replace HO_19 := Aside0.mk (Kd.R_drew HO_19.out); replace HO_20 := Aside0.mk (Kd.N_drew HO_20.out); replace BK802 := Aside0.mk (blk_drew BK802.out); replace BK807 := Aside0.mk (blk_drew BK807.out); replace HB := Aside0.mk (below_drew1 HB.out)
        refine start_ (n := 27) (S := fun w' => True) (ds := []) #[false, false, false, false, false, false, false, false, false, false, false, false, false, false, false, false, false, false, false, false, false, false, false, false, false, false, false] (by kernel_rfl) rfl rfl trivial (fun hHeld => ?_); refine with_tabW laws_FnBranches.tab17 laws_FnBranches.bits17 (fun HT_ HW_ => ?_)
        generalize wc.drew = w171 at HO_3 HO_9 HO_13 HO_15 HO_19 HO_20 BK802 BK807 HB hHeld ⊢
        refine pu_ 0 (some 148) ?_
        refine pu_ 1 (some 149) ?_
        refine pv_ 2 (some 150) ?_
        refine pv_ 3 (some 151) ?_
        refine pv_ 4 (some 152) ?_
        refine pu_ 5 (some 153) ?_
        refine pu_ 6 (some 154) ?_
        refine pu_ 7 (some 155) ?_
        refine pu_ 8 (some 156) ?_
        refine pv_ 9 (some 157) ?_
        refine pv_ 10 (some 158) ?_
        refine pv_ 11 (some 159) ?_
        refine pv_ 12 (some 160) ?_
        refine pv_ 13 (some 161) ?_
        refine pv_ 14 (some 162) ?_
        refine pv_ 15 (some 163) ?_
        refine pv_ 16 (some 164) ?_
        refine pv_ 17 (some 165) ?_
        refine pv_ 18 (some 166) ?_
        refine pv_ 19 (some 167) ?_
        refine pv_ 20 (some 168) ?_
        refine pv_ 21 (some 169) ?_
        refine pv_ 22 (some 170) ?_
        refine pv_ 23 (some 171) ?_
        refine pv_ 24 (some 172) ?_
        refine pu_ 25 (some 173) ?_
        refine pu_ 26 (some 174) ?_
        refine done_ (done_of HT_.out (by kernel_rfl)) ?_
        try go_wp2
        go_meet
        case rel => exact ⟨_, (false), rS, H', ⟨by have := HJ15.out; first | omega | exact Nat.le_refl _⟩, ⟨N_l (Kd.N_mono HO_13.out (fun _ hk => ⟨hk.2.2.1, ⟨hk.2.2.2.1, ⟨hk.2.2.2.2.1, ⟨hk.2.2.2.2.2.1, hk.2.2.2.2.2.2⟩⟩⟩⟩))⟩, ⟨N_l (Kd.N_mono HO_15.out (fun _ hk => ⟨hk.2.2.1, ⟨hk.2.2.2.1, ⟨hk.2.2.2.2.1, ⟨hk.2.2.2.2.2.1, hk.2.2.2.2.2.2⟩⟩⟩⟩))⟩, ⟨R_l HO_19.out⟩, ⟨N_l (Kd.N_mono HO_20.out (fun _ hk => ⟨hk.2.2.1, ⟨hk.2.2.2.1, ⟨hk.2.2.2.2.1, ⟨hk.2.2.2.2.2.1, hk.2.2.2.2.2.2⟩⟩⟩⟩))⟩, ⟨by (with_reducible repeat (first | refine blk_drewN ?_ _ | refine blk_drew ?_ | refine blk_alloc ?_ _)); exact BK802.out⟩, ⟨by (with_reducible repeat (first | refine blk_drewN ?_ _ | refine blk_drew ?_ | refine blk_alloc ?_ _)); exact BK807.out⟩, ⟨tG2 GE802.out GE807.out⟩⟩
     case rest => as_aux_lemma =>
      clear HC139
      try clear c1
      try clear c2
      try clear p2
      try clear p6
      try clear c8
      try clear p8
      try clear q8
      try clear hx8
      try clear qi8
      try clear c16
      try clear c20
      try clear c24
      try clear p64
      try clear c86
      try clear p86
      try clear q86
      try clear hx86
      try clear qi86
      try clear c162
      try clear c163
      try clear c163b0
      try clear c166
      try clear c166b0
      try clear c166b1
      try clear hx861_0
      try clear p861
      try clear q861
      obtain ⟨kq, x174_138, rfl, HA, HJ138, HO_13, HO_15, HO_19, HO_20, BK802, BK807, HB⟩ := hcut
      cases kq with
      | zero => exact absurd HA.out (by simp [laws_FnBranches.j1])
      | succ kj138 =>
       have H := HA.out
       clear HA
       simp only [laws_FnBranches.j1] at H
       by_cases c172 : x174_138 = true
       ·subst c172
        rw [if_pos rfl] at H
        exact absurd H (by simp)
       ·replace c172 := Bool.eq_false_iff.mpr c172
        subst c172
        rw [if_neg (show ¬ (false = true) by decide)] at H
        have HC173 := Aside0.mk H
        clear H
        go_upto_if 175 with (fail)
        go_cut [] (fun wc => ∃ (kq : Nat), Aside0 (laws_FnBranches.j2 kq t831 t834 t837 = some true) ∧ Aside0 (kq ≤ kj138) ∧ Aside0 (Kd.R (Kd.int .i64) 3 wc w.heap.size (fun _ => True) (.slice Ao35 t831.length co35) t831) ∧ Aside0 (Kd.N (Kd.slice 3 (Kd.int .i64)) 35 wc w.heap.size (fun k_ => some k_ ≠ ((.slice Ao35 t831.length co35) : Value).ownBlock ∧ k_ ≠ gb802 ∧ k_ ≠ gb807) v835 t834) ∧ Aside0 (wc.heap[gb802]? = some (.cells #[.int .i64 t798, .int .i64 t799, .int .i64 t800] 27 (0, 0))) ∧ Aside0 (wc.heap[gb807]? = some (.cells #[.int .i64 t803, .int .i64 t804, .int .i64 t805] 27 (0, 0))) ∧ Aside0 (Below w.heap.size w wc))
        case first => as_aux_lemma =>
         have H := HC173.out
         clear HC173
         by_cases c174 : t824 = true
         ·subst c174
          rw [if_pos rfl] at H
          obtain ⟨⟨t863, t864, t865, t866⟩, A175, H⟩ := bs H
          try dsimp only at H
          obtain ⟨⟨t868, t869, t870, t871⟩, A176, H⟩ := bs H
          try dsimp only at H
          obtain ⟨t873, A177, H⟩ := bs H
          by_cases c178 : t873 = true
          ·subst c178
           rw [if_pos rfl] at H
           by_cases c179 : (t866 != t871) = true
           ·rw [if_pos c179] at H
            have c179b0 : (t866 != t871) = true := c179
            (try (have c179b1 : decide (t866 = t871) = false := by simpa using c179))
            (try (have c179b2 : (t866 == t871) = false := by simpa using c179))
            (try (have c179b3 : ¬ (t866 = t871) := by simpa using c179))
            clear c179
            (first | rw [c179b0] | (simp only [i64_w, i32_w]; rw [c179b0]) | skip)
            exact absurd H (by simp)
           ·rw [if_neg c179] at H
            have c179b0 : (t866 != t871) = false := by simpa using c179
            (try (have c179b1 : decide (t866 = t871) = true := by simpa using c179))
            (try (have c179b2 : (t866 == t871) = true := by simpa using c179))
            clear c179
            (first | rw [c179b0] | (simp only [i64_w, i32_w]; rw [c179b0]) | skip)
            by_cases c193 : (!(t863 == t868) || (!(t864 == t869) || (!(t865 == t870)))) = true
            ·rw [if_pos c193] at H
             have c193b0 : (!(t863 == t868) || (!(t864 == t869) || (!(t865 == t870)))) = true := c193
             clear c193
             exact absurd H (by simp)
            ·rw [if_neg c193] at H
             have c193b0 : (!(t863 == t868) || (!(t864 == t869) || (!(t865 == t870)))) = false := by simpa using c193
             clear c193
             obtain ⟨t874, A209, H⟩ := bs H
             obtain ⟨t875, A210, H⟩ := bs H
             by_cases c211 : t874 = t875
             ·rw [if_pos c211] at H
              have c211b0 : (t874 == t875) = true := beq_iff_eq.mpr c211
              have c211b1 : (t874 != t875) = false := bne_eq_false_iff_eq.mpr c211
              clear c211
              have H' := Aside0.mk H
              clear H
              go_wp2_with (first | ((with_reducible refine gate_callee (f := 6) rfl ?_); refine goesL_ (some 178) rfl rfl Try.func6 (by kernel_rfl) rfl #[.slice Ao31 t819.length co31] rfl mp_ ?_; (with_reducible refine (impl_BranchCover.calls kj138 _ _ t819 t863 t864 t865 t866 _ ?side1 ?side2 A175.out).mono ?_); (case side1 => exact C_l ((Kd.N_reads' HO_13.out).2.2)); (case side2 => exact (Kd.N_reads' HO_13.out).2.1); rintro e w212 ⟨rfl, hb⟩; refine ⟨_, rfl, ?_⟩; replace HO_13 := Aside0.mk (nB HO_13.out hb); replace HO_15 := Aside0.mk (nB HO_15.out hb); replace HO_19 := Aside0.mk (rB HO_19.out hb); replace HO_20 := Aside0.mk (nB HO_20.out hb); replace BK802 := Aside0.mk (bB BK802 hb); replace BK807 := Aside0.mk (bB BK807 hb); replace HB := Aside0.mk (below_step (tG2 GE802.out GE807.out) hb)) | ((with_reducible refine gate_dst (N := 24) rfl ?_); (try (refine gate_guard (by rfl) ?_; dsimp only)); refine box_event ?hg (N := 24) ?hd (cs := #[.int .i64 0, .int .i64 0, .int .i64 0]) (t := 27) ?hr ?_; (case hd => rfl); (case hg => rfl); (case hr => exact gS); intro gb867 hg w213 hbox hb; replace HO_13 := Aside0.mk (Kd.N_below (Kd.N_elderB (N_l HO_13.out) gb867 (Nat.le_of_eq hg.symm)) hb); replace HO_15 := Aside0.mk (Kd.N_below (Kd.N_elderB (N_l HO_15.out) gb867 (Nat.le_of_eq hg.symm)) hb); replace HO_19 := Aside0.mk (rB HO_19.out hb); replace HO_20 := Aside0.mk (Kd.N_below (Kd.N_elderB (N_l HO_20.out) gb867 (Nat.le_of_eq hg.symm)) hb); have BK867 := Aside0.mk (hbox); have GW867 := Aside0.mk (gW hg (tG2 GE802.out GE807.out)); have GE867 := Aside0.mk (gW hg (tG2 GE802.out GE807.out)); replace HB := Aside0.mk (below_step (tG2 GE802.out GE807.out) hb); have NB802_867 := Aside0.mk (neL BK802 hg); have NB867_802 := Aside0.mk (neG BK802 hg); replace BK802 := Aside0.mk (bB BK802 hb); have NB807_867 := Aside0.mk (neL BK807 hg); have NB867_807 := Aside0.mk (neG BK807 hg); replace BK807 := Aside0.mk (bB BK807 hb); clear hb hbox hg; have hnb214 := NB867_802.out; have hnc214 := NB802_867.out; have hnb215 := NB867_807.out; have hnc215 := NB807_867.out; have hcz216_0 : w213.cell? ⟨gb867, 0, none⟩ = some (.int .i64 0) := (blk_cell BK867.out 0).trans rfl; have hcz216_1 : w213.cell? ⟨gb867, 1, none⟩ = some (.int .i64 0) := (blk_cell BK867.out 1).trans rfl; have hcz216_2 : w213.cell? ⟨gb867, 2, none⟩ = some (.int .i64 0) := (blk_cell BK867.out 2).trans rfl; have hfz216_0 := blk_frozen BK867.out 0; have hfz216_1 := blk_frozen BK867.out 1; have hfz216_2 := blk_frozen BK867.out 2; obtain ⟨Ao217, co217, eo217⟩ := Kd.N_slice HO_15.out; subst eo217) | ((with_reducible refine gate_callee (f := 6) rfl ?_); refine goesL_ (some 183) rfl rfl Try.func6 (by kernel_rfl) rfl #[.slice Ao217 t823.length co217] rfl mp_ ?_; (with_reducible refine (impl_BranchCover.calls kj138 _ _ t823 t868 t869 t870 t871 _ ?side1 ?side2 A176.out).mono ?_); (case side1 => refine (Kd.N_reads' (e := 35) (base := w.heap.size) (ok := fun k_ => ((some k_ ≠ (.slice Ao31 t819.length co31 : Value).ownBlock ∧ (some k_ ≠ (.slice Ao35 t831.length co35 : Value).ownBlock ∧ (some k_ ≠ (v835 : Value).ownBlock ∧ (k_ ≠ gb802 ∧ k_ ≠ gb807)))) ∧ k_ ≠ gb867)) (n := t823.length) (c := co217) ?_).2.2; exact (N_l (Kd.N_mono (Kd.N_far (p := ⟨gb867, 2, none⟩) (Kd.N_far (p := ⟨gb867, 1, none⟩) (Kd.N_far (p := ⟨gb867, 0, none⟩) (Kd.N_mono HO_15.out (fun k_ hk => (⟨hk, hk.2⟩ : _ ∧ k_ ≠ gb867))) (fun _ hk => hk.2) (.int .i64 t863)) (fun _ hk => hk.2) (.int .i64 t864)) (fun _ hk => hk.2) (.int .i64 t865)) (fun _ h_ => h_.1)))); (case side2 => exact (Kd.N_reads' HO_15.out).2.1); rintro e w218 ⟨rfl, hb⟩; refine ⟨_, rfl, ?_⟩; replace HO_13 := Aside0.mk (nB (Kd.N_mono (Kd.N_far (p := ⟨gb867, 2, none⟩) (Kd.N_far (p := ⟨gb867, 1, none⟩) (Kd.N_far (p := ⟨gb867, 0, none⟩) (Kd.N_mono HO_13.out (fun k_ hk => (⟨hk, hk.2⟩ : _ ∧ k_ ≠ gb867))) (fun _ hk => hk.2) (.int .i64 t863)) (fun _ hk => hk.2) (.int .i64 t864)) (fun _ hk => hk.2) (.int .i64 t865)) (fun _ h_ => h_.1)) hb); replace HO_15 := Aside0.mk (nB (Kd.N_mono (Kd.N_far (p := ⟨gb867, 2, none⟩) (Kd.N_far (p := ⟨gb867, 1, none⟩) (Kd.N_far (p := ⟨gb867, 0, none⟩) (Kd.N_mono HO_15.out (fun k_ hk => (⟨hk, hk.2⟩ : _ ∧ k_ ≠ gb867))) (fun _ hk => hk.2) (.int .i64 t863)) (fun _ hk => hk.2) (.int .i64 t864)) (fun _ hk => hk.2) (.int .i64 t865)) (fun _ h_ => h_.1)) hb); replace HO_19 := Aside0.mk (rB (Kd.R_mono (Kd.R_far (p := ⟨gb867, 2, none⟩) (Kd.R_far (p := ⟨gb867, 1, none⟩) (Kd.R_far (p := ⟨gb867, 0, none⟩) (Kd.R_types HO_19.out BK867.out (by decide)) (fun _ hk => hk.2) (.int .i64 t863)) (fun _ hk => hk.2) (.int .i64 t864)) (fun _ hk => hk.2) (.int .i64 t865)) (fun _ h_ => h_.1)) hb); replace HO_20 := Aside0.mk (nB (Kd.N_mono (Kd.N_far (p := ⟨gb867, 2, none⟩) (Kd.N_far (p := ⟨gb867, 1, none⟩) (Kd.N_far (p := ⟨gb867, 0, none⟩) (Kd.N_mono HO_20.out (fun k_ hk => (⟨hk, hk.2⟩ : _ ∧ k_ ≠ gb867))) (fun _ hk => hk.2) (.int .i64 t863)) (fun _ hk => hk.2) (.int .i64 t864)) (fun _ hk => hk.2) (.int .i64 t865)) (fun _ h_ => h_.1)) hb); replace BK802 := Aside0.mk (blk_below (g := gb802) (o := .cells #[.int .i64 t798, .int .i64 t799, .int .i64 t800] 27 (0, 0)) (bF1 BK802.out NB802_867.out) hb); replace BK807 := Aside0.mk (blk_below (g := gb807) (o := .cells #[.int .i64 t803, .int .i64 t804, .int .i64 t805] 27 (0, 0)) (bF1 BK807.out NB807_867.out) hb); replace BK867 := Aside0.mk (blk_below (g := gb867) (o := .cells #[.int .i64 t863, .int .i64 t864, .int .i64 t865] 27 (0, 0)) (by (with_reducible repeat (first | refine blk_drewN ?_ _ | refine blk_drew ?_ | refine blk_alloc ?_ _)); refine blk_put (cs := #[.int .i64 t863, .int .i64 t864, .int .i64 0]) ?_ 2 _ rfl; (with_reducible repeat (first | refine blk_drewN ?_ _ | refine blk_drew ?_ | refine blk_alloc ?_ _)); refine blk_put (cs := #[.int .i64 t863, .int .i64 0, .int .i64 0]) ?_ 1 _ rfl; (with_reducible repeat (first | refine blk_drewN ?_ _ | refine blk_drew ?_ | refine blk_alloc ?_ _)); refine blk_put (cs := #[.int .i64 0, .int .i64 0, .int .i64 0]) ?_ 0 _ rfl; (with_reducible repeat (first | refine blk_drewN ?_ _ | refine blk_drew ?_ | refine blk_alloc ?_ _)); exact BK867.out) hb); replace HB := Aside0.mk (below_step (tG3 GE802.out GE807.out GE867.out) hb)) | ((with_reducible refine gate_dst (N := 26) rfl ?_); (try (refine gate_guard (by rfl) ?_; dsimp only)); refine box_event ?hg (N := 26) ?hd (cs := #[.int .i64 0, .int .i64 0, .int .i64 0]) (t := 27) ?hr ?_; (case hd => rfl); (case hg => rfl); (case hr => exact gS); intro gb872 hg w219 hbox hb; replace HO_13 := Aside0.mk (Kd.N_below (Kd.N_elderB (N_l HO_13.out) gb872 (Nat.le_of_eq hg.symm)) hb); replace HO_15 := Aside0.mk (Kd.N_below (Kd.N_elderB (N_l HO_15.out) gb872 (Nat.le_of_eq hg.symm)) hb); replace HO_19 := Aside0.mk (rB HO_19.out hb); replace HO_20 := Aside0.mk (Kd.N_below (Kd.N_elderB (N_l HO_20.out) gb872 (Nat.le_of_eq hg.symm)) hb); have BK872 := Aside0.mk (hbox); have GW872 := Aside0.mk (gW hg (tG3 GE802.out GE807.out GE867.out)); have GE872 := Aside0.mk (gW hg (tG3 GE802.out GE807.out GE867.out)); replace HB := Aside0.mk (below_step (tG3 GE802.out GE807.out GE867.out) hb); have NB802_872 := Aside0.mk (neL BK802 hg); have NB872_802 := Aside0.mk (neG BK802 hg); replace BK802 := Aside0.mk (bB BK802 hb); have NB807_872 := Aside0.mk (neL BK807 hg); have NB872_807 := Aside0.mk (neG BK807 hg); replace BK807 := Aside0.mk (bB BK807 hb); have NB867_872 := Aside0.mk (neL BK867 hg); have NB872_867 := Aside0.mk (neG BK867 hg); replace BK867 := Aside0.mk (bB BK867 hb); clear hb hbox hg; have hnb220 := NB872_802.out; have hnc220 := NB802_872.out; have hnb221 := NB872_807.out; have hnc221 := NB807_872.out; have hnb222 := NB872_867.out; have hnc222 := NB867_872.out; have hcz223_0 : w219.cell? ⟨gb872, 0, none⟩ = some (.int .i64 0) := (blk_cell BK872.out 0).trans rfl; have hcz223_1 : w219.cell? ⟨gb872, 1, none⟩ = some (.int .i64 0) := (blk_cell BK872.out 1).trans rfl; have hcz223_2 : w219.cell? ⟨gb872, 2, none⟩ = some (.int .i64 0) := (blk_cell BK872.out 2).trans rfl; have hfz223_0 := blk_frozen BK872.out 0; have hfz223_1 := blk_frozen BK872.out 1; have hfz223_2 := blk_frozen BK872.out 2) | ((with_reducible refine gate_callee (f := 18) rfl ?_); refine goesL_ (some 187) rfl rfl Try.func18 (by kernel_rfl) rfl #[.slice Ao217 t823.length co217] rfl mp_ ?_; (with_reducible refine (impl_IsPassport.calls kj138 _ _ t823 true _ ?side1 ?side2 A177.out).mono ?_); (case side1 => refine (Kd.N_reads' (e := 35) (base := w.heap.size) (ok := fun k_ => (((some k_ ≠ (.slice Ao31 t819.length co31 : Value).ownBlock ∧ (some k_ ≠ (.slice Ao35 t831.length co35 : Value).ownBlock ∧ (some k_ ≠ (v835 : Value).ownBlock ∧ (k_ ≠ gb802 ∧ k_ ≠ gb807)))) ∧ k_ ≠ gb867) ∧ k_ ≠ gb872)) (n := t823.length) (c := co217) ?_).2.2; exact (N_l (Kd.N_mono (Kd.N_far (p := ⟨gb872, 2, none⟩) (Kd.N_far (p := ⟨gb872, 1, none⟩) (Kd.N_far (p := ⟨gb872, 0, none⟩) (Kd.N_mono HO_15.out (fun k_ hk => (⟨hk, hk.2⟩ : _ ∧ k_ ≠ gb872))) (fun _ hk => hk.2) (.int .i64 t868)) (fun _ hk => hk.2) (.int .i64 t869)) (fun _ hk => hk.2) (.int .i64 t870)) (fun _ h_ => h_.1)))); (case side2 => exact (Kd.N_reads' HO_15.out).2.1); rintro e w224 ⟨rfl, hb⟩; refine ⟨_, rfl, ?_⟩; replace HO_13 := Aside0.mk (nB (Kd.N_mono (Kd.N_far (p := ⟨gb872, 2, none⟩) (Kd.N_far (p := ⟨gb872, 1, none⟩) (Kd.N_far (p := ⟨gb872, 0, none⟩) (Kd.N_mono HO_13.out (fun k_ hk => (⟨hk, hk.2⟩ : _ ∧ k_ ≠ gb872))) (fun _ hk => hk.2) (.int .i64 t868)) (fun _ hk => hk.2) (.int .i64 t869)) (fun _ hk => hk.2) (.int .i64 t870)) (fun _ h_ => h_.1)) hb); replace HO_15 := Aside0.mk (nB (Kd.N_mono (Kd.N_far (p := ⟨gb872, 2, none⟩) (Kd.N_far (p := ⟨gb872, 1, none⟩) (Kd.N_far (p := ⟨gb872, 0, none⟩) (Kd.N_mono HO_15.out (fun k_ hk => (⟨hk, hk.2⟩ : _ ∧ k_ ≠ gb872))) (fun _ hk => hk.2) (.int .i64 t868)) (fun _ hk => hk.2) (.int .i64 t869)) (fun _ hk => hk.2) (.int .i64 t870)) (fun _ h_ => h_.1)) hb); replace HO_19 := Aside0.mk (rB (Kd.R_mono (Kd.R_far (p := ⟨gb872, 2, none⟩) (Kd.R_far (p := ⟨gb872, 1, none⟩) (Kd.R_far (p := ⟨gb872, 0, none⟩) (Kd.R_types HO_19.out BK872.out (by decide)) (fun _ hk => hk.2) (.int .i64 t868)) (fun _ hk => hk.2) (.int .i64 t869)) (fun _ hk => hk.2) (.int .i64 t870)) (fun _ h_ => h_.1)) hb); replace HO_20 := Aside0.mk (nB (Kd.N_mono (Kd.N_far (p := ⟨gb872, 2, none⟩) (Kd.N_far (p := ⟨gb872, 1, none⟩) (Kd.N_far (p := ⟨gb872, 0, none⟩) (Kd.N_mono HO_20.out (fun k_ hk => (⟨hk, hk.2⟩ : _ ∧ k_ ≠ gb872))) (fun _ hk => hk.2) (.int .i64 t868)) (fun _ hk => hk.2) (.int .i64 t869)) (fun _ hk => hk.2) (.int .i64 t870)) (fun _ h_ => h_.1)) hb); replace BK802 := Aside0.mk (blk_below (g := gb802) (o := .cells #[.int .i64 t798, .int .i64 t799, .int .i64 t800] 27 (0, 0)) (bF1 BK802.out NB802_872.out) hb); replace BK807 := Aside0.mk (blk_below (g := gb807) (o := .cells #[.int .i64 t803, .int .i64 t804, .int .i64 t805] 27 (0, 0)) (bF1 BK807.out NB807_872.out) hb); replace BK867 := Aside0.mk (blk_below (g := gb867) (o := .cells #[.int .i64 t863, .int .i64 t864, .int .i64 t865] 27 (0, 0)) (bF1 BK867.out NB867_872.out) hb); replace BK872 := Aside0.mk (blk_below (g := gb872) (o := .cells #[.int .i64 t868, .int .i64 t869, .int .i64 t870] 27 (0, 0)) (by (with_reducible repeat (first | refine blk_drewN ?_ _ | refine blk_drew ?_ | refine blk_alloc ?_ _)); refine blk_put (cs := #[.int .i64 t868, .int .i64 t869, .int .i64 0]) ?_ 2 _ rfl; (with_reducible repeat (first | refine blk_drewN ?_ _ | refine blk_drew ?_ | refine blk_alloc ?_ _)); refine blk_put (cs := #[.int .i64 t868, .int .i64 0, .int .i64 0]) ?_ 1 _ rfl; (with_reducible repeat (first | refine blk_drewN ?_ _ | refine blk_drew ?_ | refine blk_alloc ?_ _)); refine blk_put (cs := #[.int .i64 0, .int .i64 0, .int .i64 0]) ?_ 0 _ rfl; (with_reducible repeat (first | refine blk_drewN ?_ _ | refine blk_drew ?_ | refine blk_alloc ?_ _)); exact BK872.out) hb); replace HB := Aside0.mk (below_step (tG4 GE802.out GE807.out GE867.out GE872.out) hb); have hcz225_0 : w224.cell? ⟨gb867, 0, none⟩ = some (.int .i64 t863) := (blk_cell BK867.out 0).trans rfl; have hcz225_1 : w224.cell? ⟨gb867, 1, none⟩ = some (.int .i64 t864) := (blk_cell BK867.out 1).trans rfl; have hcz225_2 : w224.cell? ⟨gb867, 2, none⟩ = some (.int .i64 t865) := (blk_cell BK867.out 2).trans rfl; have hfz225_0 := blk_frozen BK867.out 0; have hfz225_1 := blk_frozen BK867.out 1; have hfz225_2 := blk_frozen BK867.out 2; have hcz226_0 : w224.cell? ⟨gb872, 0, none⟩ = some (.int .i64 t868) := (blk_cell BK872.out 0).trans rfl; have hcz226_1 : w224.cell? ⟨gb872, 1, none⟩ = some (.int .i64 t869) := (blk_cell BK872.out 1).trans rfl; have hcz226_2 : w224.cell? ⟨gb872, 2, none⟩ = some (.int .i64 t870) := (blk_cell BK872.out 2).trans rfl; have hfz226_0 := blk_frozen BK872.out 0; have hfz226_1 := blk_frozen BK872.out 1; have hfz226_2 := blk_frozen BK872.out 2) | (go_at_call 20; (with_reducible refine (impl_BranchSum.calls kj138 _ _ t823 t874 _ ?side1 ?side2 A209.out).mono ?_); (case side1 => exact C_l ((Kd.N_reads' HO_15.out).2.2)); (case side2 => exact (Kd.N_reads' HO_15.out).2.1); rintro e w227 ⟨rfl, hb⟩; replace HO_13 := Aside0.mk (nB HO_13.out hb); replace HO_15 := Aside0.mk (nB HO_15.out hb); replace HO_19 := Aside0.mk (rB HO_19.out hb); replace HO_20 := Aside0.mk (nB HO_20.out hb); replace BK802 := Aside0.mk (bB BK802 hb); replace BK807 := Aside0.mk (bB BK807 hb); replace BK867 := Aside0.mk (bB BK867 hb); replace BK872 := Aside0.mk (bB BK872 hb); replace HB := Aside0.mk (below_step (tG4 GE802.out GE807.out GE867.out GE872.out) hb)) | (go_at_call 20; (with_reducible refine (impl_BranchSum.calls kj138 _ _ t819 t875 _ ?side1 ?side2 A210.out).mono ?_); (case side1 => exact C_l ((Kd.N_reads' HO_13.out).2.2)); (case side2 => exact (Kd.N_reads' HO_13.out).2.1); rintro e w228 ⟨rfl, hb⟩; replace HO_13 := Aside0.mk (nB HO_13.out hb); replace HO_15 := Aside0.mk (nB HO_15.out hb); replace HO_19 := Aside0.mk (rB HO_19.out hb); replace HO_20 := Aside0.mk (nB HO_20.out hb); replace BK802 := Aside0.mk (bB BK802 hb); replace BK807 := Aside0.mk (bB BK807 hb); replace BK867 := Aside0.mk (bB BK867 hb); replace BK872 := Aside0.mk (bB BK872 hb); replace HB := Aside0.mk (below_step (tG4 GE802.out GE807.out GE867.out GE872.out) hb)))
              go_meet
              case rel => exact ⟨_, H', ⟨by have := HJ15.out; have := HJ138.out; first | omega | exact Nat.le_refl _⟩, ⟨R_l HO_19.out⟩, ⟨N_l (Kd.N_mono HO_20.out (fun _ hk => ⟨hk.1.1.2.2.1, ⟨hk.1.1.2.2.2.1, hk.1.1.2.2.2.2⟩⟩))⟩, ⟨by (with_reducible repeat (first | refine blk_drewN ?_ _ | refine blk_drew ?_ | refine blk_alloc ?_ _)); exact BK802.out⟩, ⟨by (with_reducible repeat (first | refine blk_drewN ?_ _ | refine blk_drew ?_ | refine blk_alloc ?_ _)); exact BK807.out⟩, ⟨tG4 GE802.out GE807.out GE867.out GE872.out⟩⟩
             ·rw [if_neg c211] at H
              have c211b0 : (t874 == t875) = false := beq_eq_false_iff_ne.mpr c211
              have c211b1 : (t874 != t875) = true := bne_iff_ne.mpr c211
              exact absurd H (by simp)
          ·replace c178 := Bool.eq_false_iff.mpr c178
           subst c178
           rw [if_neg (show ¬ (false = true) by decide)] at H
           exact absurd H (by simp)
         ·replace c174 := Bool.eq_false_iff.mpr c174
          subst c174
          rw [if_neg (show ¬ (false = true) by decide)] at H
          have H' := Aside0.mk H
          clear H
          go_wp2
          go_meet
          case rel => exact ⟨_, H', ⟨by have := HJ15.out; have := HJ138.out; first | omega | exact Nat.le_refl _⟩, ⟨R_l HO_19.out⟩, ⟨N_l (Kd.N_mono HO_20.out (fun _ hk => ⟨hk.2.2.1, ⟨hk.2.2.2.1, hk.2.2.2.2⟩⟩))⟩, ⟨by (with_reducible repeat (first | refine blk_drewN ?_ _ | refine blk_drew ?_ | refine blk_alloc ?_ _)); exact BK802.out⟩, ⟨by (with_reducible repeat (first | refine blk_drewN ?_ _ | refine blk_drew ?_ | refine blk_alloc ?_ _)); exact BK807.out⟩, ⟨tG2 GE802.out GE807.out⟩⟩
        case rest => as_aux_lemma =>
         clear HC173
         try clear c1
         try clear c2
         try clear p2
         try clear c6
         try clear p6
         try clear c8
         try clear p8
         try clear q8
         try clear hx8
         try clear qi8
         try clear c16
         try clear c17
         try clear c18
         try clear c19
         try clear c20
         try clear c21
         try clear c22
         try clear c23
         try clear c24
         try clear c25
         try clear p64
         try clear c86
         try clear p86
         try clear q86
         try clear hx86
         try clear qi86
         try clear c162
         try clear c163
         try clear c163b0
         try clear c166
         try clear c166b0
         try clear c166b1
         try clear c172
         try clear c174
         try clear c178
         try clear c179
         try clear c179b0
         try clear c179b1
         try clear c179b2
         try clear c182
         try clear c183
         try clear c188
         try clear c189
         try clear c190
         try clear c193
         try clear c193b0
         try clear c196
         try clear c197
         try clear c202
         try clear c203
         try clear c204
         try clear c211
         try clear c211b0
         try clear c211b1
         try clear c214
         try clear c215
         try clear c220
         try clear c221
         try clear c222
         try clear c231
         try clear c232
         try clear c237
         try clear c238
         try clear c239
         try clear c248
         try clear c249
         try clear c254
         try clear c255
         try clear c256
         try clear hcz184_0
         try clear hcz184_1
         try clear hcz184_2
         try clear hcz191_0
         try clear hcz191_1
         try clear hcz191_2
         try clear hcz198_0
         try clear hcz198_1
         try clear hcz198_2
         try clear hcz205_0
         try clear hcz205_1
         try clear hcz205_2
         try clear hcz207_0
         try clear hcz207_1
         try clear hcz207_2
         try clear hcz208_0
         try clear hcz208_1
         try clear hcz208_2
         try clear hcz216_0
         try clear hcz216_1
         try clear hcz216_2
         try clear hcz223_0
         try clear hcz223_1
         try clear hcz223_2
         try clear hcz225_0
         try clear hcz225_1
         try clear hcz225_2
         try clear hcz226_0
         try clear hcz226_1
         try clear hcz226_2
         try clear hcz233_0
         try clear hcz233_1
         try clear hcz233_2
         try clear hcz240_0
         try clear hcz240_1
         try clear hcz240_2
         try clear hcz242_0
         try clear hcz242_1
         try clear hcz242_2
         try clear hcz243_0
         try clear hcz243_1
         try clear hcz243_2
         try clear hcz250_0
         try clear hcz250_1
         try clear hcz250_2
         try clear hcz257_0
         try clear hcz257_1
         try clear hcz257_2
         try clear hfz184_0
         try clear hfz184_1
         try clear hfz184_2
         try clear hfz191_0
         try clear hfz191_1
         try clear hfz191_2
         try clear hfz198_0
         try clear hfz198_1
         try clear hfz198_2
         try clear hfz205_0
         try clear hfz205_1
         try clear hfz205_2
         try clear hfz207_0
         try clear hfz207_1
         try clear hfz207_2
         try clear hfz208_0
         try clear hfz208_1
         try clear hfz208_2
         try clear hfz216_0
         try clear hfz216_1
         try clear hfz216_2
         try clear hfz223_0
         try clear hfz223_1
         try clear hfz223_2
         try clear hfz225_0
         try clear hfz225_1
         try clear hfz225_2
         try clear hfz226_0
         try clear hfz226_1
         try clear hfz226_2
         try clear hfz233_0
         try clear hfz233_1
         try clear hfz233_2
         try clear hfz240_0
         try clear hfz240_1
         try clear hfz240_2
         try clear hfz242_0
         try clear hfz242_1
         try clear hfz242_2
         try clear hfz243_0
         try clear hfz243_1
         try clear hfz243_2
         try clear hfz250_0
         try clear hfz250_1
         try clear hfz250_2
         try clear hfz257_0
         try clear hfz257_1
         try clear hfz257_2
         try clear hx861_0
         try clear p2
         try clear p6
         try clear p64
         try clear p8
         try clear p86
         try clear p861
         try clear q8
         try clear q86
         try clear q861
         obtain ⟨kq, HA, HJ172, HO_19, HO_20, BK802, BK807, HB⟩ := hcut
         cases kq with
         | zero => exact absurd HA.out (by simp [laws_FnBranches.j2])
         | succ kj172 =>
          have H := HA.out
          clear HA
          simp only [laws_FnBranches.j2] at H
          have HC259 := Aside0.mk H
          clear H
          go_upto_region 24 with (fail)
          go_cut [211] (fun v211 wc => ∃ (kq : Nat) (x211_258 : Bool), v211 = .bool x211_258 ∧ Aside0 (laws_FnBranches.j3 kq t831 t834 x211_258 = some true) ∧ Aside0 (kq ≤ kj172) ∧ Aside0 (Kd.R (Kd.int .i64) 3 wc w.heap.size (fun _ => True) (.slice Ao35 t831.length co35) t831) ∧ Aside0 (Kd.N (Kd.slice 3 (Kd.int .i64)) 35 wc w.heap.size (fun k_ => some k_ ≠ ((.slice Ao35 t831.length co35) : Value).ownBlock ∧ k_ ≠ gb802 ∧ k_ ≠ gb807) v835 t834) ∧ Aside0 (wc.heap[gb802]? = some (.cells #[.int .i64 t798, .int .i64 t799, .int .i64 t800] 27 (0, 0))) ∧ Aside0 (wc.heap[gb807]? = some (.cells #[.int .i64 t803, .int .i64 t804, .int .i64 t805] 27 (0, 0))) ∧ Aside0 (Below w.heap.size w wc))
          case first => as_aux_lemma =>
           have H := HC259.out
           clear HC259
           by_cases c260 : t837 = true
           ·subst c260
            rw [if_pos rfl] at H
            obtain ⟨t876, A261, H⟩ := bs H
            have H' := Aside0.mk H
            clear H
            go_wp2_with (first | (go_at_call 25; (with_reducible refine (spec_MapParts.calls kj172 _ _ t831 t876 _ ?side1 ?side2 A261.out).mono ?_); (case side1 => exact C_l ((Kd.R_reads' HO_19.out).2.2)); (case side2 => exact (Kd.R_reads' HO_19.out).2.1); rintro e w262 ⟨rfl, hb⟩; replace HO_19 := Aside0.mk (rB HO_19.out hb); replace HO_20 := Aside0.mk (nB HO_20.out hb); replace BK802 := Aside0.mk (bB BK802 hb); replace BK807 := Aside0.mk (bB BK807 hb); replace HB := Aside0.mk (below_step (tG2 GE802.out GE807.out) hb)))
            go_meet
            case rel => exact ⟨_, ((t876 == 1)), rS, H', ⟨by have := HJ15.out; have := HJ138.out; have := HJ172.out; first | omega | exact Nat.le_refl _⟩, ⟨R_l HO_19.out⟩, ⟨N_l HO_20.out⟩, ⟨by (with_reducible repeat (first | refine blk_drewN ?_ _ | refine blk_drew ?_ | refine blk_alloc ?_ _)); exact BK802.out⟩, ⟨by (with_reducible repeat (first | refine blk_drewN ?_ _ | refine blk_drew ?_ | refine blk_alloc ?_ _)); exact BK807.out⟩, ⟨tG2 GE802.out GE807.out⟩⟩
           ·replace c260 := Bool.eq_false_iff.mpr c260
            subst c260
            rw [if_neg (show ¬ (false = true) by decide)] at H
            have H' := Aside0.mk H
            clear H
            go_wp2
            go_meet
            case rel => exact ⟨_, (false), rS, H', ⟨by have := HJ15.out; have := HJ138.out; have := HJ172.out; first | omega | exact Nat.le_refl _⟩, ⟨R_l HO_19.out⟩, ⟨N_l HO_20.out⟩, ⟨by (with_reducible repeat (first | refine blk_drewN ?_ _ | refine blk_drew ?_ | refine blk_alloc ?_ _)); exact BK802.out⟩, ⟨by (with_reducible repeat (first | refine blk_drewN ?_ _ | refine blk_drew ?_ | refine blk_alloc ?_ _)); exact BK807.out⟩, ⟨tG2 GE802.out GE807.out⟩⟩
          case rest => as_aux_lemma =>
           clear HC259
           try clear c1
           try clear c2
           try clear p2
           try clear c6
           try clear p6
           try clear c8
           try clear p8
           try clear q8
           try clear hx8
           try clear qi8
           try clear c16
           try clear c17
           try clear c18
           try clear c19
           try clear c20
           try clear c21
           try clear c22
           try clear c23
           try clear c24
           try clear c25
           try clear c26
           try clear p64
           try clear c86
           try clear p86
           try clear q86
           try clear hx86
           try clear qi86
           try clear c162
           try clear c163
           try clear c163b0
           try clear c166
           try clear c166b0
           try clear c166b1
           try clear c172
           try clear c174
           try clear c178
           try clear c179
           try clear c179b0
           try clear c179b1
           try clear c179b2
           try clear c182
           try clear c183
           try clear c188
           try clear c189
           try clear c190
           try clear c193
           try clear c193b0
           try clear c196
           try clear c197
           try clear c202
           try clear c203
           try clear c204
           try clear c211
           try clear c211b0
           try clear c211b1
           try clear c214
           try clear c215
           try clear c220
           try clear c221
           try clear c222
           try clear c231
           try clear c232
           try clear c237
           try clear c238
           try clear c239
           try clear c248
           try clear c249
           try clear c254
           try clear c255
           try clear c256
           try clear c260
           try clear hcz184_0
           try clear hcz184_1
           try clear hcz184_2
           try clear hcz191_0
           try clear hcz191_1
           try clear hcz191_2
           try clear hcz198_0
           try clear hcz198_1
           try clear hcz198_2
           try clear hcz205_0
           try clear hcz205_1
           try clear hcz205_2
           try clear hcz207_0
           try clear hcz207_1
           try clear hcz207_2
           try clear hcz208_0
           try clear hcz208_1
           try clear hcz208_2
           try clear hcz216_0
           try clear hcz216_1
           try clear hcz216_2
           try clear hcz223_0
           try clear hcz223_1
           try clear hcz223_2
           try clear hcz225_0
           try clear hcz225_1
           try clear hcz225_2
           try clear hcz226_0
           try clear hcz226_1
           try clear hcz226_2
           try clear hcz233_0
           try clear hcz233_1
           try clear hcz233_2
           try clear hcz240_0
           try clear hcz240_1
           try clear hcz240_2
           try clear hcz242_0
           try clear hcz242_1
           try clear hcz242_2
           try clear hcz243_0
           try clear hcz243_1
           try clear hcz243_2
           try clear hcz250_0
           try clear hcz250_1
           try clear hcz250_2
           try clear hcz257_0
           try clear hcz257_1
           try clear hcz257_2
           try clear hfz184_0
           try clear hfz184_1
           try clear hfz184_2
           try clear hfz191_0
           try clear hfz191_1
           try clear hfz191_2
           try clear hfz198_0
           try clear hfz198_1
           try clear hfz198_2
           try clear hfz205_0
           try clear hfz205_1
           try clear hfz205_2
           try clear hfz207_0
           try clear hfz207_1
           try clear hfz207_2
           try clear hfz208_0
           try clear hfz208_1
           try clear hfz208_2
           try clear hfz216_0
           try clear hfz216_1
           try clear hfz216_2
           try clear hfz223_0
           try clear hfz223_1
           try clear hfz223_2
           try clear hfz225_0
           try clear hfz225_1
           try clear hfz225_2
           try clear hfz226_0
           try clear hfz226_1
           try clear hfz226_2
           try clear hfz233_0
           try clear hfz233_1
           try clear hfz233_2
           try clear hfz240_0
           try clear hfz240_1
           try clear hfz240_2
           try clear hfz242_0
           try clear hfz242_1
           try clear hfz242_2
           try clear hfz243_0
           try clear hfz243_1
           try clear hfz243_2
           try clear hfz250_0
           try clear hfz250_1
           try clear hfz250_2
           try clear hfz257_0
           try clear hfz257_1
           try clear hfz257_2
           try clear hx861_0
           try clear p2
           try clear p6
           try clear p64
           try clear p8
           try clear p86
           try clear p861
           try clear q8
           try clear q86
           try clear q861
           obtain ⟨kq, x211_258, rfl, HA, HJ258, HO_19, HO_20, BK802, BK807, HB⟩ := hcut
           cases kq with
           | zero => exact absurd HA.out (by simp [laws_FnBranches.j3])
           | succ kj258 =>
            have H := HA.out
            clear HA
            simp only [laws_FnBranches.j3] at H
            by_cases c263 : x211_258 = true
            ·subst c263
             rw [if_pos rfl] at H
             obtain ⟨⟨t877, t878, t879, t880⟩, A264, H⟩ := bs H
             try dsimp only at H
             by_cases c265 : t880 = true
             ·subst c265
              rw [if_pos rfl] at H
              obtain ⟨t882, A266, H⟩ := bs H
              have hq_ : (t877 == t882) = true := Option.some.inj H
              obtain ⟨Ao267, co267, eo267⟩ := Kd.N_slice HO_20.out
              subst eo267
              try go_wp2_with (first | ((with_reducible refine gate_callee (f := 6) rfl ?_); refine goesL_ (some 214) rfl rfl Try.func6 (by kernel_rfl) rfl #[.slice Ao267 t834.length co267] rfl mp_ ?_; (with_reducible refine (impl_BranchCover.calls kj258 _ _ t834 t877 t878 t879 true _ ?side1 ?side2 A264.out).mono ?_); (case side1 => exact C_l ((Kd.N_reads' HO_20.out).2.2)); (case side2 => exact (Kd.N_reads' HO_20.out).2.1); rintro e w268 ⟨rfl, hb⟩; refine ⟨_, rfl, ?_⟩; replace HO_19 := Aside0.mk (rB HO_19.out hb); replace HO_20 := Aside0.mk (nB HO_20.out hb); replace BK802 := Aside0.mk (bB BK802 hb); replace BK807 := Aside0.mk (bB BK807 hb); replace HB := Aside0.mk (below_step (tG2 GE802.out GE807.out) hb)) | ((with_reducible refine gate_dst (N := 28) rfl ?_); (try (refine gate_guard (by rfl) ?_; dsimp only)); refine box_event ?hg (N := 28) ?hd (cs := #[.int .i64 0, .int .i64 0, .int .i64 0]) (t := 27) ?hr ?_; (case hd => rfl); (case hg => rfl); (case hr => exact gS); intro gb881 hg w269 hbox hb; replace HO_19 := Aside0.mk (rB HO_19.out hb); replace HO_20 := Aside0.mk (Kd.N_below (Kd.N_elderB (N_l HO_20.out) gb881 (Nat.le_of_eq hg.symm)) hb); have BK881 := Aside0.mk (hbox); have GW881 := Aside0.mk (gW hg (tG2 GE802.out GE807.out)); have GE881 := Aside0.mk (gW hg (tG2 GE802.out GE807.out)); replace HB := Aside0.mk (below_step (tG2 GE802.out GE807.out) hb); have NB802_881 := Aside0.mk (neL BK802 hg); have NB881_802 := Aside0.mk (neG BK802 hg); replace BK802 := Aside0.mk (bB BK802 hb); have NB807_881 := Aside0.mk (neL BK807 hg); have NB881_807 := Aside0.mk (neG BK807 hg); replace BK807 := Aside0.mk (bB BK807 hb); clear hb hbox hg; have hnb270 := NB881_802.out; have hnc270 := NB802_881.out; have hnb271 := NB881_807.out; have hnc271 := NB807_881.out; have hcz272_0 : w269.cell? ⟨gb881, 0, none⟩ = some (.int .i64 0) := (blk_cell BK881.out 0).trans rfl; have hcz272_1 : w269.cell? ⟨gb881, 1, none⟩ = some (.int .i64 0) := (blk_cell BK881.out 1).trans rfl; have hcz272_2 : w269.cell? ⟨gb881, 2, none⟩ = some (.int .i64 0) := (blk_cell BK881.out 2).trans rfl; have hfz272_0 := blk_frozen BK881.out 0; have hfz272_1 := blk_frozen BK881.out 1; have hfz272_2 := blk_frozen BK881.out 2))
              have n0_ : Aside0 (Kd.R (Kd.int .i64) 3 (((w269.setCell ⟨gb881, 0, none⟩ (.int .i64 t877)).setCell ⟨gb881, 1, none⟩ (.int .i64 t878)).setCell ⟨gb881, 2, none⟩ (.int .i64 t879)) w.heap.size (fun _ => True) (.slice Ao35 t831.length co35) t831) := ⟨R_l (Kd.R_mono (Kd.R_far (p := ⟨gb881, 2, none⟩) (Kd.R_far (p := ⟨gb881, 1, none⟩) (Kd.R_far (p := ⟨gb881, 0, none⟩) (Kd.R_types HO_19.out BK881.out (by decide)) (fun _ hk => hk.2) (.int .i64 t877)) (fun _ hk => hk.2) (.int .i64 t878)) (fun _ hk => hk.2) (.int .i64 t879)) (fun _ hk => trivial))⟩
              have n1_ : Aside0 (Kd.N (Kd.slice 3 (Kd.int .i64)) 35 (((w269.setCell ⟨gb881, 0, none⟩ (.int .i64 t877)).setCell ⟨gb881, 1, none⟩ (.int .i64 t878)).setCell ⟨gb881, 2, none⟩ (.int .i64 t879)) w.heap.size (fun k_ => some k_ ≠ (.slice Ao35 t831.length co35 : Value).ownBlock ∧ k_ ≠ gb802 ∧ k_ ≠ gb807 ∧ k_ ≠ gb881) (.slice Ao267 t834.length co267) t834) := ⟨N_l (Kd.N_mono (Kd.N_far (p := ⟨gb881, 2, none⟩) (Kd.N_far (p := ⟨gb881, 1, none⟩) (Kd.N_far (p := ⟨gb881, 0, none⟩) (Kd.N_mono HO_20.out (fun k_ hk => (⟨hk, hk.2⟩ : _ ∧ k_ ≠ gb881))) (fun _ hk => hk.2) (.int .i64 t877)) (fun _ hk => hk.2) (.int .i64 t878)) (fun _ hk => hk.2) (.int .i64 t879)) (fun _ hk => ⟨hk.1.1.1, ⟨hk.1.1.2.1, ⟨hk.1.1.2.2, hk.1.2⟩⟩⟩))⟩
              have n2_ : Aside0 ((((w269.setCell ⟨gb881, 0, none⟩ (.int .i64 t877)).setCell ⟨gb881, 1, none⟩ (.int .i64 t878)).setCell ⟨gb881, 2, none⟩ (.int .i64 t879)).heap[gb802]? = some (.cells #[.int .i64 t798, .int .i64 t799, .int .i64 t800] 27 (0, 0))) := ⟨by (with_reducible repeat (first | refine blk_drewN ?_ _ | refine blk_drew ?_ | refine blk_alloc ?_ _)); refine blk_far ?_ NB802_881.out _; (with_reducible repeat (first | refine blk_drewN ?_ _ | refine blk_drew ?_ | refine blk_alloc ?_ _)); refine blk_far ?_ NB802_881.out _; (with_reducible repeat (first | refine blk_drewN ?_ _ | refine blk_drew ?_ | refine blk_alloc ?_ _)); refine blk_far ?_ NB802_881.out _; (with_reducible repeat (first | refine blk_drewN ?_ _ | refine blk_drew ?_ | refine blk_alloc ?_ _)); exact BK802.out⟩
              have n3_ : Aside0 ((((w269.setCell ⟨gb881, 0, none⟩ (.int .i64 t877)).setCell ⟨gb881, 1, none⟩ (.int .i64 t878)).setCell ⟨gb881, 2, none⟩ (.int .i64 t879)).heap[gb807]? = some (.cells #[.int .i64 t803, .int .i64 t804, .int .i64 t805] 27 (0, 0))) := ⟨by (with_reducible repeat (first | refine blk_drewN ?_ _ | refine blk_drew ?_ | refine blk_alloc ?_ _)); refine blk_far ?_ NB807_881.out _; (with_reducible repeat (first | refine blk_drewN ?_ _ | refine blk_drew ?_ | refine blk_alloc ?_ _)); refine blk_far ?_ NB807_881.out _; (with_reducible repeat (first | refine blk_drewN ?_ _ | refine blk_drew ?_ | refine blk_alloc ?_ _)); refine blk_far ?_ NB807_881.out _; (with_reducible repeat (first | refine blk_drewN ?_ _ | refine blk_drew ?_ | refine blk_alloc ?_ _)); exact BK807.out⟩
              have n4_ : Aside0 ((((w269.setCell ⟨gb881, 0, none⟩ (.int .i64 t877)).setCell ⟨gb881, 1, none⟩ (.int .i64 t878)).setCell ⟨gb881, 2, none⟩ (.int .i64 t879)).heap[gb881]? = some (.cells #[.int .i64 t877, .int .i64 t878, .int .i64 t879] 27 (0, 0))) := ⟨by (with_reducible repeat (first | refine blk_drewN ?_ _ | refine blk_drew ?_ | refine blk_alloc ?_ _)); refine blk_put (cs := #[.int .i64 t877, .int .i64 t878, .int .i64 0]) ?_ 2 _ rfl; (with_reducible repeat (first | refine blk_drewN ?_ _ | refine blk_drew ?_ | refine blk_alloc ?_ _)); refine blk_put (cs := #[.int .i64 t877, .int .i64 0, .int .i64 0]) ?_ 1 _ rfl; (with_reducible repeat (first | refine blk_drewN ?_ _ | refine blk_drew ?_ | refine blk_alloc ?_ _)); refine blk_put (cs := #[.int .i64 0, .int .i64 0, .int .i64 0]) ?_ 0 _ rfl; (with_reducible repeat (first | refine blk_drewN ?_ _ | refine blk_drew ?_ | refine blk_alloc ?_ _)); exact BK881.out⟩
              have n5_ : Aside0 (Below w.heap.size w (((w269.setCell ⟨gb881, 0, none⟩ (.int .i64 t877)).setCell ⟨gb881, 1, none⟩ (.int .i64 t878)).setCell ⟨gb881, 2, none⟩ (.int .i64 t879))) := ⟨tG3 GE802.out GE807.out GE881.out⟩
              (try clear HO_19)
              (try clear HO_20)
              (try clear BK802)
              (try clear BK807)
              (try clear BK881)
              (try clear HB)
              generalize (((w269.setCell ⟨gb881, 0, none⟩ (.int .i64 t877)).setCell ⟨gb881, 1, none⟩ (.int .i64 t878)).setCell ⟨gb881, 2, none⟩ (.int .i64 t879)) = w273 at n0_ n1_ n2_ n3_ n4_ n5_ ⊢
              have HO_19 := n0_
              have HO_20 := n1_
              have BK802 := n2_
              have BK807 := n3_
              have BK881 := n4_
              have HB := n5_
              clear n0_ n1_ n2_ n3_ n4_ n5_
              replace HO_19 := Aside0.mk (Kd.R_drew HO_19.out); replace HO_20 := Aside0.mk (Kd.N_drew HO_20.out); replace BK802 := Aside0.mk (blk_drew BK802.out); replace BK807 := Aside0.mk (blk_drew BK807.out); replace BK881 := Aside0.mk (blk_drew BK881.out); replace HB := Aside0.mk (below_drew1 HB.out)
              refine start_ (n := 9) (S := fun w' => w'.cell? ⟨gb881, 0, none⟩ = some (.int .i64 t877) ∧ w'.cell? ⟨gb881, 1, none⟩ = some (.int .i64 t878) ∧ w'.cell? ⟨gb881, 2, none⟩ = some (.int .i64 t879)) (ds := []) #[false, false, false, false, false, false, false, false, false] (by kernel_rfl) rfl rfl ⟨(blk_cell BK881.out 0).trans rfl, (blk_cell BK881.out 1).trans rfl, (blk_cell BK881.out 2).trans rfl⟩ (fun hHeld => ?_); refine with_tabW laws_FnBranches.tab26 laws_FnBranches.bits26 (fun HT_ HW_ => ?_)
              generalize w273.drew = w274 at HO_19 HO_20 BK802 BK807 BK881 HB hHeld ⊢
              refine pu_ 0 (some 217) ?_
              refine pu_ 1 (some 218) ?_
              refine pu_ 2 (some 219) ?_
              refine pu_ 4 (some 221) ?_
              refine take_ (i := 3) (N := some 220) (v := ?_) (a' := ?_) #[true, true, true, true, true, false, false, false, false] rfl rfl (take_ofW HT_.out HW_.out (by kernel_rfl)) (fun _ _ _ h => h) (Or.inl ⟨by rfl, ?_⟩) hHeld ?_ ?_
              rotate_left
              ·rintro w' ⟨s0, s1, s2⟩
               go_simp
               with_reducible rfl
              rotate_left
              ·simp only [Act.put, List.setIfInBounds_toArray, List.set_cons_zero, List.set_cons_succ, i64_w, i32_w]
               rfl
              refine one_ (i := 5) (N := some 222) #[true, true, true, true, true, true, false, false, false] rfl rfl (one_of HT_.out (by kernel_rfl)) (by decide) (fun K hK => ?_)
              refine goes_ Try.func26 (by kernel_rfl) rfl #[.slice Ao35 t831.length co35] (by rfl) rfl rfl mp_ ?_
              with_reducible refine (spec_GenusOf.calls kj258 _ _ t831 t882 _ ?side1 ?side2 A266.out).mono ?_
              (case side1 => exact C_l ((Kd.R_reads' HO_19.out).2.2))
              (case side2 => exact (Kd.R_reads' HO_19.out).2.1)
              rintro e w275 ⟨rfl, hb⟩
              refine ⟨_, rfl, ?_⟩
              replace HO_19 := Aside0.mk (rB HO_19.out hb); replace HO_20 := Aside0.mk (nB HO_20.out hb); replace BK802 := Aside0.mk (bB BK802 hb); replace BK807 := Aside0.mk (bB BK807 hb); replace BK881 := Aside0.mk (bB BK881 hb); replace HB := Aside0.mk (below_step (tG3 GE802.out GE807.out GE881.out) hb)
              (try clear hb)
              (try clear hb2)
              (try clear hk)
              (try clear hi)
              refine hK.out _ _ ⟨(blk_cell BK881.out 0).trans rfl, (blk_cell BK881.out 1).trans rfl, (blk_cell BK881.out 2).trans rfl⟩ (fun hHeld => ?_)
              clear hK K
              refine norm_ (a' := ?_) ?_ ?_
              rotate_left
              ·show Act.put _ (some 222) _ = _
               simp only [Act.put, List.setIfInBounds_toArray, List.set_cons_zero, List.set_cons_succ, i64_w, i32_w]
               rfl
              refine pu_ 6 (some 223) ?_
              refine pu_ 7 (some 224) ?_
              refine pu_ 8 (some 2) ?_
              refine done_ (done_of HT_.out (by kernel_rfl)) ?_
              try go_wp2
              go_ret
              exact ⟨rE, tG3 GE802.out GE807.out GE881.out⟩
             ·replace c265 := Bool.eq_false_iff.mpr c265
              subst c265
              rw [if_neg (show ¬ (false = true) by decide)] at H
              exact absurd H (by simp)
            ·replace c263 := Bool.eq_false_iff.mpr c263
             subst c263
             have H1 : (some true) = some true := rfl
             clear H
             have H := H1
             clear H1
             clear H
             go_wp2
             go_ret
             exact ⟨rE, tG2 GE802.out GE807.out⟩

/-- THE ONE PURE STATEMENT of laws_FnBranches: yours. -/
def laws_FnBranches.Pure : Prop := ∀ (l0 : List Int), l0.length ≤ maxLen → l0.length * 1 ≤ 140737488351232 → (∀ x ∈ l0, (Lit.int .u8 x).wf = true) → ∃ k, laws_FnBranches.f k l0 = some true
theorem laws_FnBranches.walk (P : laws_FnBranches.Pure) (a0 : Option Addr) (len0 cap0 : Nat) (z0 : List Int) (w : World) (w0 : (a0 = none ∧ len0 = 0 ∧ cap0 = 0 ∧ z0 = []) ∨ ∃ x, a0 = some x ∧ len0 ≤ cap0 ∧ cap0 ≤ maxLen ∧ z0.length = cap0 ∧ (∀ i, i < z0.length → w.cell? (x.add i) = some (.int .u8 (z0.getD i 0))) ∧ ∀ n ∈ z0, (Lit.int .u8 n).wf = true) (y0 : len0 * 1 ≤ 140737488351232) :
  Calls Try.prog 3 #[.slice a0 len0 cap0] w fun e w' => e = .returned (.bool true) ∧ Below w.heap.size w w' := by
 obtain ⟨l0, rfl, hr0, hm0, hw0, hc0⟩ := ReadsInt.ofRowC w0
 obtain ⟨k, h⟩ := P l0 hm0 y0 hw0
 refine (laws_FnBranches.calls k _ _ l0 w (Kd.C_of_reads (d := (0 : Int)) (h1 := fun _ => rfl) hr0) hc0 h).mono ?_
 rintro e w' ⟨rfl, hd⟩
 exact ⟨rfl, hd⟩
end Go.Proofs.Ytkbkkpgllphdhaa.PFnBranches
