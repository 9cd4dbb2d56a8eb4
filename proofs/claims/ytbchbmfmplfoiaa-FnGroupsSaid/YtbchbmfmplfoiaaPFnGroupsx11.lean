import Derived.Test.YtbchbmfmplfoiaaWSpanB
import Derived.Test.YtbchbmfmplfoiaaPFnGroupsx0
import Derived.Test.YtbchbmfmplfoiaaPFnGroupsx1
import Derived.Test.YtbchbmfmplfoiaaPFnGroupsx4
import Derived.Test.YtbchbmfmplfoiaaPFnGroupsx6
import Derived.Test.YtbchbmfmplfoiaaPFnGroupsx9
import Derived.Test.YtbchbmfmplfoiaaPFnGroupsx10
namespace Go.Proofs.Ytbchbmfmplfoiaa.PFnGroups
open Go.RowKit Go.Proofs.YtbchbmfmplfoiaaW.PrintWords Go.Proofs.YtbchbmfmplfoiaaW.PrintLast Go.Proofs.YtbchbmfmplfoiaaW.PrintMore
attribute [local go_sem] max2_int min2_int max_two min_two max_three min_three max_four min_four   -- for this text's walks alone
set_option linter.unusedVariables false
set_option linter.unusedSimpArgs false

/-! ### spec_AreEqualWords: function 14 -/
def spec_AreEqualWords.j0 : Nat → Int → List Int → List Int → Bool → Option (Bool)
 | 0, _, _, _, _ => none
 | k + 1, x0, x1, x2, x24 => if x24 = true then (some false) else ((some (([] : List Int) : List Int)).bind fun y639 => (if y639.length + x1.length < 17592186044416 then ((some (y639 ++ x1 : List Int)).bind fun y642 => ((spec_l2Inverse.f k x2).bind fun t645 => (if y642.length + t645.length < 17592186044416 then ((spec_l8Trivial.f k x0 (y642 ++ t645)).bind fun t651 => (some t651)) else (none)))) else (none)))
def spec_AreEqualWords.f (k : Nat) (a0 : Int) (l1 : List Int) (l2 : List Int) : Option (Bool) := (spec_l8Fits.f k a0 l1).bind fun t637 => (if t637 = true then ((spec_l8Fits.f k a0 l2).bind fun t638 => (if t638 = true then (spec_AreEqualWords.j0 k a0 l1 l2 (decide ((wrap64 ((l1.length : Int) + (l2.length : Int))) > 24))) else (spec_AreEqualWords.j0 k a0 l1 l2 true))) else (spec_AreEqualWords.j0 k a0 l1 l2 true))
set_option maxHeartbeats 8000000 in
set_option maxRecDepth 100000 in
theorem spec_AreEqualWords.calls (k : Nat) (a0 : Int) (A1 : Option Addr) (c1 : Nat) (l1 : List Int) (A2 : Option Addr) (c2 : Nat) (l2 : List Int) (r : Bool) (w : World) (hr1 : Kd.C (Kd.int .i64) w A1 l1.length l1) (hc1 : l1.length ≤ c1) (hr2 : Kd.C (Kd.int .i64) w A2 l2.length l2) (hc2 : l2.length ≤ c2) (h : spec_AreEqualWords.f k a0 l1 l2 = some r) :
  Calls Try.prog 14 #[.int .i64 a0, .slice A1 l1.length c1, .slice A2 l2.length c2] w fun e w' => e = .returned (.bool r) ∧ Below w.heap.size w w' := by
 have HR1 := Aside0.mk hr1
 have HC1 := Aside0.mk hc1
 clear hr1 hc1
 have HR2 := Aside0.mk hr2
 have HC2 := Aside0.mk hc2
 clear hr2 hc2
 have HB := Aside0.mk (Below.refl w.heap.size w)
 have H : ((spec_l8Fits.f k a0 l1).bind fun t637 => (if t637 = true then ((spec_l8Fits.f k a0 l2).bind fun t638 => (if t638 = true then (spec_AreEqualWords.j0 k a0 l1 l2 (decide ((wrap64 ((l1.length : Int) + (l2.length : Int))) > 24))) else (spec_AreEqualWords.j0 k a0 l1 l2 true))) else (spec_AreEqualWords.j0 k a0 l1 l2 true))) = some r := h
 clear h
 have HC4 := Aside0.mk H
 clear H
 go_enter Try.func14, Try.ntmps14
 go_upto_region 1 with (fail)
 go_cut [24] (fun v24 wc => ∃ (kq : Nat) (x24_3 : Bool), v24 = .bool x24_3 ∧ Aside0 (spec_AreEqualWords.j0 kq a0 l1 l2 x24_3 = some r) ∧ Aside0 (kq ≤ k) ∧ Aside0 (Below w.heap.size w wc))
 case first =>
  have H := HC4.out
  clear HC4
  obtain ⟨t637, A5, H⟩ := bs H
  by_cases c6 : t637 = true
  ·subst c6
   rw [if_pos rfl] at H
   obtain ⟨t638, A7, H⟩ := bs H
   by_cases c8 : t638 = true
   ·subst c8
    rw [if_pos rfl] at H
    have H' := Aside0.mk H
    clear H
    go_wp2_with (first | (refine gL 38 (some 9) Try.func38 #[.int .i64 a0, .slice A1 l1.length c1] ?_; (with_reducible refine (spec_l8Fits.calls k a0 _ _ l1 true _ ?side1 ?side2 A5.out).mono ?_); (case side1 => exact C_l (Kd.C_below HR1.out HB.out)); (case side2 => exact HC1.out); rintro e w' ⟨rfl, ⟨nd, rfl⟩⟩; refine ⟨_, rfl, ?_⟩) | (go_at_call 38; (with_reducible refine (spec_l8Fits.calls k a0 _ _ l2 true _ ?side1 ?side2 A7.out).mono ?_); (case side1 => exact C_l (Kd.C_below HR2.out tb)); (case side2 => exact HC2.out); rintro e w' ⟨rfl, ⟨nd, rfl⟩⟩))
    go_meet
    case rel => exact ⟨_, (decide ((wrap64 ((l1.length : Int) + (l2.length : Int))) > 24)), rS, H', ⟨by first | omega | exact Nat.le_refl _⟩, ⟨tb⟩⟩
   ·replace c8 := Bool.eq_false_iff.mpr c8
    subst c8
    rw [if_neg (show ¬ (false = true) by decide)] at H
    have H' := Aside0.mk H
    clear H
    go_wp2_with (first | (refine gL 38 (some 9) Try.func38 #[.int .i64 a0, .slice A1 l1.length c1] ?_; (with_reducible refine (spec_l8Fits.calls k a0 _ _ l1 true _ ?side1 ?side2 A5.out).mono ?_); (case side1 => exact C_l (Kd.C_below HR1.out HB.out)); (case side2 => exact HC1.out); rintro e w' ⟨rfl, ⟨nd, rfl⟩⟩; refine ⟨_, rfl, ?_⟩) | (go_at_call 38; (with_reducible refine (spec_l8Fits.calls k a0 _ _ l2 false _ ?side1 ?side2 A7.out).mono ?_); (case side1 => exact C_l (Kd.C_below HR2.out tb)); (case side2 => exact HC2.out); rintro e w' ⟨rfl, ⟨nd, rfl⟩⟩))
    go_meet
    case rel => exact ⟨_, (true), rS, H', ⟨by first | omega | exact Nat.le_refl _⟩, ⟨tb⟩⟩
  ·replace c6 := Bool.eq_false_iff.mpr c6
   subst c6
   rw [if_neg (show ¬ (false = true) by decide)] at H
   have H' := Aside0.mk H
   clear H
   go_wp2_with (first | (refine gL 38 (some 9) Try.func38 #[.int .i64 a0, .slice A1 l1.length c1] ?_; (with_reducible refine (spec_l8Fits.calls k a0 _ _ l1 false _ ?side1 ?side2 A5.out).mono ?_); (case side1 => exact C_l (Kd.C_below HR1.out HB.out)); (case side2 => exact HC1.out); rintro e w' ⟨rfl, ⟨nd, rfl⟩⟩; refine ⟨_, rfl, ?_⟩))
   go_meet
   case rel => exact ⟨_, (true), rS, H', ⟨by first | omega | exact Nat.le_refl _⟩, ⟨tb⟩⟩
 case rest =>
  clear HC4
  try clear c1
  try clear c2
  try clear p2
  try clear c3
  try clear c6
  try clear p6
  try clear c8
  obtain ⟨kq, x24_3, rfl, HA, HJ3, HB⟩ := hcut
  cases kq with
  | zero => exact absurd HA.out (by simp [spec_AreEqualWords.j0])
  | succ kj3 =>
   have H := HA.out
   clear HA
   simp only [spec_AreEqualWords.j0] at H
   by_cases c9 : x24_3 = true
   ·subst c9
    rw [if_pos rfl] at H
    obtain rfl := Option.some.inj H
    go_wp2
    go_ret
    exact ⟨rE, tb⟩
   ·replace c9 := Bool.eq_false_iff.mpr c9
    subst c9
    rw [if_neg (show ¬ (false = true) by decide)] at H
    obtain ⟨y639, Ny639, H⟩ := bn H
    by_cases c10 : y639.length + l1.length < 17592186044416
    ·rw [if_pos c10] at H
     have LMc10 := Aside0.mk c10
     clear c10
     obtain ⟨y642, Ny642, H⟩ := bn H
     obtain ⟨t645, A11, H⟩ := bs H
     obtain ⟨LMc12, H⟩ := gda H
     generalize hy648 : (y642 ++ t645 : List Int) = y648 at H
     have Ny648 := Aside0.mk hy648.symm; clear hy648
     obtain ⟨t651, A13, H⟩ := bs H
     obtain rfl := Option.some.inj H
     go_wp2_with (first | ((with_reducible refine gate_dst (N := 26) rfl ?_); (try (refine gate_guard (by rfl) ?_; dsimp only)); refine Kd.R_lit (Kd.int .i64) _ 3 ?hg (N := 26) ?hd (xs := ([] : List Int)) (inner := []) (ok := fun _ => True) (okp := fun _ => True) ?hr ?hp (fun _ hk => hk) trivial (Below.refl _ _) (Nat.le_refl _) (by simp) ?_; (case hd => rfl); (case hg => rfl); (case hr => exact gS); (case hp => exact (Reps.none _ _)); intro v640 w14 ho15 hb hg_ hnew_; clear hg_ hnew_; (first | rw [← Ny639.out] at ho15 | (simp only [Int.reduceToNat] at ho15; rw [← Ny639.out] at ho15)); have HO641 := Aside0.mk (Kd.R_lower ho15 (below_size tb)); replace HB := Aside0.mk (below_step tb hb); clear hb ho15) | ((with_reducible refine gate_builtin (b := .append) (xs := #[.tmp 26, .tmp 27]) rfl ?_); (try (refine gate_guard (by rfl) ?_; dsimp only)); at_builtin; refine Kd.R_append_rows (Kd.int .i64) (w0 := w) w.heap.size rfl (.tmp 26) (.tmp 27) 24 3 (.int .i64 0) 8 rfl Try.underlying24 info3 rfl (by decide) (by omega) v640 y639 l1 _ _ _ (fun _ => True) (fun _ => False) rfl rfl ?aO ?aR (fun _ _ h => h) (fun _ h => h.elim) ?aF ?aB ?aS ?aL ?_; (case aR => exact C_l (Kd.C_below HR1.out HB.out)); (case aB => exact tb); (case aF => exact (fun _ _ => trivial)); (case aO => exact (R_l HO641.out)); (case aS => exact (below_size tb)); (case aL => have := LMc10.out; omega); intro v643 w16 ho hb hg hat; rw [← Ny642.out] at ho; replace HB := Aside0.mk (hb); have HO644 := Aside0.mk (ho); clear HO641; clear ho hb hg hat) | (refine gL 46 (some 30) Try.func46 #[.slice A2 l2.length c2] ?_; (with_reducible refine (spec_l2Inverse.calls kj3 _ _ l2 t645 _ ?side1 ?side2 A11.out).mono ?_); (case side1 => exact C_l (Kd.C_below HR2.out HB.out)); (case side2 => exact HC2.out); rintro e w17 ⟨v646, rfl, ho0, hb⟩; refine ⟨_, rfl, ?_⟩; have HO647 := Aside0.mk (Kd.R_lower (Kd.R_new' ho0 (Kd.R_lt (R_l HO644.out))) (below_size tb)); replace HO644 := Aside0.mk (Kd.R_elder' (R_l HO644.out) (Kd.R_base ho0) hb); replace HB := Aside0.mk (below_step tb hb); obtain ⟨Ao19, co19, eo19⟩ := Kd.R_slice HO647.out; subst eo19) | ((with_reducible refine gate_builtin (b := .append) (xs := #[.tmp 28, .tmp 30]) rfl ?_); (try (refine gate_guard (by rfl) ?_; dsimp only)); at_builtin; refine Kd.R_append_rows (Kd.int .i64) (w0 := w) w.heap.size rfl (.tmp 28) (.tmp 30) 24 3 (.int .i64 0) 8 rfl Try.underlying24 info3 rfl (by decide) (by omega) v643 y642 t645 _ _ _ (fun k_ => some k_ ≠ (.slice Ao19 t645.length co19 : Value).ownBlock) (fun _ => False) rfl rfl ?aO ?aR (fun _ _ h => h) (fun _ h => h.elim) ?aF ?aB ?aS ?aL ?_; (case aR => exact C_l ((Kd.R_reads' HO647.out).2.2)); (case aB => exact tb); (case aF => exact (fun k_ hk => Kd.fresh' (Kd.R_lt (R_l HO647.out)) k_ hk)); (case aO => exact (R_l (Kd.R_mono HO644.out (fun _ hk => hk.2)))); (case aS => exact (below_size tb)); (case aL => have := LMc12.out; omega); intro v649 w18 ho hb hg hat; rw [← Ny648.out] at ho; replace HO647 := Aside0.mk (Kd.R_after (ok := (fun _ => True)) (R_l HO647.out) hg hat); replace HB := Aside0.mk (hb); have HO650 := Aside0.mk (ho); clear HO644; clear ho hb hg hat; obtain ⟨Ao20, co20, eo20⟩ := Kd.R_slice HO650.out; subst eo20) | (refine gL 45 (some 32) Try.func45 #[.int .i64 a0, .slice Ao20 y648.length co20] ?_; (with_reducible refine (spec_l8Trivial.calls kj3 a0 _ _ y648 t651 _ ?side1 ?side2 A13.out).mono ?_); (case side1 => exact C_l ((Kd.R_reads' HO650.out).2.2)); (case side2 => exact (Kd.R_reads' HO650.out).2.1); rintro e w21 ⟨rfl, hb⟩; refine ⟨_, rfl, ?_⟩; replace HO647 := Aside0.mk (rB HO647.out hb); replace HO650 := Aside0.mk (rB HO650.out hb); replace HB := Aside0.mk (below_step tb hb)))
     go_ret
     exact ⟨rE, tb⟩
    ·rw [if_neg c10] at H
     exact absurd H (by simp)

/-! ### impl_CommuteIn: function 15 -/
def impl_CommuteIn.f (k : Nat) (a0 : Int) (l1 : List Int) (l2 : List Int) : Option (Bool) := (impl_copyOf.f l1).bind fun t652 => (if t652.length + l2.length < 17592186044416 then ((impl_copyOf.f l2).bind fun t658 => (if t658.length + l1.length < 17592186044416 then ((impl_AreEqualWords.f k a0 (t652 ++ l2) (t658 ++ l1)).bind fun t664 => (some t664)) else (none))) else (none))
set_option maxHeartbeats 8000000 in
set_option maxRecDepth 100000 in
theorem impl_CommuteIn.calls (k : Nat) (a0 : Int) (A1 : Option Addr) (c1 : Nat) (l1 : List Int) (A2 : Option Addr) (c2 : Nat) (l2 : List Int) (r : Bool) (w : World) (hr1 : Kd.C (Kd.int .i64) w A1 l1.length l1) (hc1 : l1.length ≤ c1) (hr2 : Kd.C (Kd.int .i64) w A2 l2.length l2) (hc2 : l2.length ≤ c2) (h : impl_CommuteIn.f k a0 l1 l2 = some r) :
  Calls Try.prog 15 #[.int .i64 a0, .slice A1 l1.length c1, .slice A2 l2.length c2] w fun e w' => e = .returned (.bool r) ∧ Below w.heap.size w w' := by
 have HR1 := Aside0.mk hr1
 have HC1 := Aside0.mk hc1
 clear hr1 hc1
 have HR2 := Aside0.mk hr2
 have HC2 := Aside0.mk hc2
 clear hr2 hc2
 have HB := Aside0.mk (Below.refl w.heap.size w)
 have H : ((impl_copyOf.f l1).bind fun t652 => (if t652.length + l2.length < 17592186044416 then ((impl_copyOf.f l2).bind fun t658 => (if t658.length + l1.length < 17592186044416 then ((impl_AreEqualWords.f k a0 (t652 ++ l2) (t658 ++ l1)).bind fun t664 => (some t664)) else (none))) else (none))) = some r := h
 clear h
 obtain ⟨t652, A4, H⟩ := bs H
 by_cases c5 : t652.length + l2.length < 17592186044416
 ·rw [if_pos c5] at H
  have LMc5 := Aside0.mk c5
  clear c5
  generalize hy655 : (t652 ++ l2 : List Int) = y655 at H
  have Ny655 := Aside0.mk hy655.symm; clear hy655
  obtain ⟨t658, A6, H⟩ := bs H
  obtain ⟨LMc7, H⟩ := gda H
  generalize hy661 : (t658 ++ l1 : List Int) = y661 at H
  have Ny661 := Aside0.mk hy661.symm; clear hy661
  obtain ⟨t664, A8, H⟩ := bs H
  obtain rfl := Option.some.inj H
  go_enter Try.func15, Try.ntmps15
  go_wp2_with (first | (refine gL 37 (some 9) Try.func37 #[.slice A1 l1.length c1] ?_; (with_reducible refine (impl_copyOf.calls _ _ l1 t652 _ ?side1 ?side2 A4.out).mono ?_); (case side1 => exact C_l HR1.out); (case side2 => exact HC1.out); rintro e w9 ⟨v653, rfl, ho0, hb⟩; refine ⟨_, rfl, ?_⟩; have HO654 := Aside0.mk (Kd.R_lower ho0 (below_size tb)); replace HB := Aside0.mk (below_step tb hb)) | ((with_reducible refine gate_builtin (b := .append) (xs := #[.tmp 9, .tmp 10]) rfl ?_); at_builtin; refine Kd.R_append_rows (Kd.int .i64) (w0 := w) w.heap.size rfl (.tmp 9) (.tmp 10) 24 3 (.int .i64 0) 8 rfl Try.underlying24 info3 rfl (by decide) (by omega) v653 t652 l2 _ _ _ (fun _ => True) (fun _ => False) rfl rfl ?aO ?aR (fun _ _ h => h) (fun _ h => h.elim) ?aF ?aB ?aS ?aL ?_; (case aR => exact C_l (Kd.C_below HR2.out HB.out)); (case aB => exact tb); (case aF => exact (fun _ _ => trivial)); (case aO => exact (R_l HO654.out)); (case aS => exact (below_size tb)); (case aL => have := LMc5.out; omega); intro v656 w10 ho hb hg hat; rw [← Ny655.out] at ho; replace HB := Aside0.mk (hb); have HO657 := Aside0.mk (ho); clear HO654; clear ho hb hg hat) | (refine gL 37 (some 13) Try.func37 #[.slice A2 l2.length c2] ?_; (with_reducible refine (impl_copyOf.calls _ _ l2 t658 _ ?side1 ?side2 A6.out).mono ?_); (case side1 => exact C_l (Kd.C_below HR2.out HB.out)); (case side2 => exact HC2.out); rintro e w11 ⟨v659, rfl, ho0, hb⟩; refine ⟨_, rfl, ?_⟩; have HO660 := Aside0.mk (Kd.R_lower (Kd.R_new' ho0 (Kd.R_lt (R_l HO657.out))) (below_size tb)); replace HO657 := Aside0.mk (Kd.R_elder' (R_l HO657.out) (Kd.R_base ho0) hb); replace HB := Aside0.mk (below_step tb hb)) | ((with_reducible refine gate_builtin (b := .append) (xs := #[.tmp 13, .tmp 14]) rfl ?_); at_builtin; refine Kd.R_append_rows (Kd.int .i64) (w0 := w) w.heap.size rfl (.tmp 13) (.tmp 14) 24 3 (.int .i64 0) 8 rfl Try.underlying24 info3 rfl (by decide) (by omega) v659 t658 l1 _ _ _ (fun k_ => some k_ ≠ (v656 : Value).ownBlock) (fun _ => False) rfl rfl ?aO ?aR (fun _ _ h => h) (fun _ h => h.elim) ?aF ?aB ?aS ?aL ?_; (case aR => exact C_l (Kd.C_below HR1.out HB.out)); (case aB => exact tb); (case aF => exact (fun k_ hk => Kd.fresh' (Kd.R_lt (R_l HO657.out)) k_ hk)); (case aO => exact (R_l (Kd.R_mono HO660.out (fun _ hk => hk.2)))); (case aS => exact (below_size tb)); (case aL => have := LMc7.out; omega); intro v662 w12 ho hb hg hat; rw [← Ny661.out] at ho; replace HO657 := Aside0.mk (Kd.R_after (ok := (fun _ => True)) (R_l HO657.out) hg hat); replace HB := Aside0.mk (hb); have HO663 := Aside0.mk (ho); clear HO660; clear ho hb hg hat; obtain ⟨Ao13, co13, eo13⟩ := Kd.R_slice HO657.out; subst eo13; obtain ⟨Ao14, co14, eo14⟩ := Kd.R_slice HO663.out; subst eo14) | (refine gL 13 (some 16) Try.func13 #[.int .i64 a0, .slice Ao13 y655.length co13, .slice Ao14 y661.length co14] ?_; (with_reducible refine (impl_AreEqualWords.calls k a0 _ _ y655 _ _ y661 t664 _ ?side1 ?side2 ?side3 ?side4 A8.out).mono ?_); (case side1 => exact C_l ((Kd.R_reads' HO657.out).2.2)); (case side2 => exact (Kd.R_reads' HO657.out).2.1); (case side3 => exact C_l ((Kd.R_reads' HO663.out).2.2)); (case side4 => exact (Kd.R_reads' HO663.out).2.1); rintro e w15 ⟨rfl, hb⟩; refine ⟨_, rfl, ?_⟩; replace HO657 := Aside0.mk (rB HO657.out hb); replace HO663 := Aside0.mk (rB HO663.out hb); replace HB := Aside0.mk (below_step tb hb)))
  go_ret
  exact ⟨rE, tb⟩
 ·rw [if_neg c5] at H
  exact absurd H (by simp)

/-! ### spec_CommuteIn: function 16 -/
def spec_CommuteIn.j0 : Nat → Int → List Int → List Int → Bool → Option (Bool)
 | 0, _, _, _, _ => none
 | k + 1, x0, x1, x2, x27 => if x27 = true then (some false) else ((some (([] : List Int) : List Int)).bind fun y667 => (if y667.length + x1.length < 17592186044416 then ((some (y667 ++ x1 : List Int)).bind fun y670 => (if y670.length + x2.length < 17592186044416 then ((some (y670 ++ x2 : List Int)).bind fun y673 => ((some (([] : List Int) : List Int)).bind fun y676 => (if y676.length + x2.length < 17592186044416 then ((some (y676 ++ x2 : List Int)).bind fun y679 => (if y679.length + x1.length < 17592186044416 then ((spec_l2Inverse.f k (y679 ++ x1)).bind fun t685 => (if y673.length + t685.length < 17592186044416 then ((spec_l8Trivial.f k x0 (y673 ++ t685)).bind fun t691 => (some t691)) else (none))) else (none))) else (none)))) else (none))) else (none)))
def spec_CommuteIn.f (k : Nat) (a0 : Int) (l1 : List Int) (l2 : List Int) : Option (Bool) := (spec_l8Fits.f k a0 l1).bind fun t665 => (if t665 = true then ((spec_l8Fits.f k a0 l2).bind fun t666 => (if t666 = true then (spec_CommuteIn.j0 k a0 l1 l2 (decide ((wrap64 (2 * (wrap64 ((l1.length : Int) + (l2.length : Int))))) > 24))) else (spec_CommuteIn.j0 k a0 l1 l2 true))) else (spec_CommuteIn.j0 k a0 l1 l2 true))
set_option maxHeartbeats 8000000 in
set_option maxRecDepth 100000 in
theorem spec_CommuteIn.calls (k : Nat) (a0 : Int) (A1 : Option Addr) (c1 : Nat) (l1 : List Int) (A2 : Option Addr) (c2 : Nat) (l2 : List Int) (r : Bool) (w : World) (hr1 : Kd.C (Kd.int .i64) w A1 l1.length l1) (hc1 : l1.length ≤ c1) (hr2 : Kd.C (Kd.int .i64) w A2 l2.length l2) (hc2 : l2.length ≤ c2) (h : spec_CommuteIn.f k a0 l1 l2 = some r) :
  Calls Try.prog 16 #[.int .i64 a0, .slice A1 l1.length c1, .slice A2 l2.length c2] w fun e w' => e = .returned (.bool r) ∧ Below w.heap.size w w' := by
 have HR1 := Aside0.mk hr1
 have HC1 := Aside0.mk hc1
 clear hr1 hc1
 have HR2 := Aside0.mk hr2
 have HC2 := Aside0.mk hc2
 clear hr2 hc2
 have HB := Aside0.mk (Below.refl w.heap.size w)
 have H : ((spec_l8Fits.f k a0 l1).bind fun t665 => (if t665 = true then ((spec_l8Fits.f k a0 l2).bind fun t666 => (if t666 = true then (spec_CommuteIn.j0 k a0 l1 l2 (decide ((wrap64 (2 * (wrap64 ((l1.length : Int) + (l2.length : Int))))) > 24))) else (spec_CommuteIn.j0 k a0 l1 l2 true))) else (spec_CommuteIn.j0 k a0 l1 l2 true))) = some r := h
 clear h
 have HC4 := Aside0.mk H
 clear H
 go_enter Try.func16, Try.ntmps16
 go_upto_region 1 with (fail)
 go_cut [27] (fun v27 wc => ∃ (kq : Nat) (x27_3 : Bool), v27 = .bool x27_3 ∧ Aside0 (spec_CommuteIn.j0 kq a0 l1 l2 x27_3 = some r) ∧ Aside0 (kq ≤ k) ∧ Aside0 (Below w.heap.size w wc))
 case first =>
  have H := HC4.out
  clear HC4
  obtain ⟨t665, A5, H⟩ := bs H
  by_cases c6 : t665 = true
  ·subst c6
   rw [if_pos rfl] at H
   obtain ⟨t666, A7, H⟩ := bs H
   by_cases c8 : t666 = true
   ·subst c8
    rw [if_pos rfl] at H
    have H' := Aside0.mk H
    clear H
    go_wp2_with (first | (refine gL 38 (some 11) Try.func38 #[.int .i64 a0, .slice A1 l1.length c1] ?_; (with_reducible refine (spec_l8Fits.calls k a0 _ _ l1 true _ ?side1 ?side2 A5.out).mono ?_); (case side1 => exact C_l (Kd.C_below HR1.out HB.out)); (case side2 => exact HC1.out); rintro e w' ⟨rfl, ⟨nd, rfl⟩⟩; refine ⟨_, rfl, ?_⟩) | (go_at_call 38; (with_reducible refine (spec_l8Fits.calls k a0 _ _ l2 true _ ?side1 ?side2 A7.out).mono ?_); (case side1 => exact C_l (Kd.C_below HR2.out tb)); (case side2 => exact HC2.out); rintro e w' ⟨rfl, ⟨nd, rfl⟩⟩))
    go_meet
    case rel => exact ⟨_, (decide ((wrap64 (2 * (wrap64 ((l1.length : Int) + (l2.length : Int))))) > 24)), rS, H', ⟨by first | omega | exact Nat.le_refl _⟩, ⟨tb⟩⟩
   ·replace c8 := Bool.eq_false_iff.mpr c8
    subst c8
    rw [if_neg (show ¬ (false = true) by decide)] at H
    have H' := Aside0.mk H
    clear H
    go_wp2_with (first | (refine gL 38 (some 11) Try.func38 #[.int .i64 a0, .slice A1 l1.length c1] ?_; (with_reducible refine (spec_l8Fits.calls k a0 _ _ l1 true _ ?side1 ?side2 A5.out).mono ?_); (case side1 => exact C_l (Kd.C_below HR1.out HB.out)); (case side2 => exact HC1.out); rintro e w' ⟨rfl, ⟨nd, rfl⟩⟩; refine ⟨_, rfl, ?_⟩) | (go_at_call 38; (with_reducible refine (spec_l8Fits.calls k a0 _ _ l2 false _ ?side1 ?side2 A7.out).mono ?_); (case side1 => exact C_l (Kd.C_below HR2.out tb)); (case side2 => exact HC2.out); rintro e w' ⟨rfl, ⟨nd, rfl⟩⟩))
    go_meet
    case rel => exact ⟨_, (true), rS, H', ⟨by first | omega | exact Nat.le_refl _⟩, ⟨tb⟩⟩
  ·replace c6 := Bool.eq_false_iff.mpr c6
   subst c6
   rw [if_neg (show ¬ (false = true) by decide)] at H
   have H' := Aside0.mk H
   clear H
   go_wp2_with (first | (refine gL 38 (some 11) Try.func38 #[.int .i64 a0, .slice A1 l1.length c1] ?_; (with_reducible refine (spec_l8Fits.calls k a0 _ _ l1 false _ ?side1 ?side2 A5.out).mono ?_); (case side1 => exact C_l (Kd.C_below HR1.out HB.out)); (case side2 => exact HC1.out); rintro e w' ⟨rfl, ⟨nd, rfl⟩⟩; refine ⟨_, rfl, ?_⟩))
   go_meet
   case rel => exact ⟨_, (true), rS, H', ⟨by first | omega | exact Nat.le_refl _⟩, ⟨tb⟩⟩
 case rest =>
  clear HC4
  try clear c1
  try clear c2
  try clear p2
  try clear c3
  try clear c6
  try clear p6
  try clear c8
  obtain ⟨kq, x27_3, rfl, HA, HJ3, HB⟩ := hcut
  cases kq with
  | zero => exact absurd HA.out (by simp [spec_CommuteIn.j0])
  | succ kj3 =>
   have H := HA.out
   clear HA
   simp only [spec_CommuteIn.j0] at H
   by_cases c9 : x27_3 = true
   ·subst c9
    rw [if_pos rfl] at H
    obtain rfl := Option.some.inj H
    go_wp2
    go_ret
    exact ⟨rE, tb⟩
   ·replace c9 := Bool.eq_false_iff.mpr c9
    subst c9
    rw [if_neg (show ¬ (false = true) by decide)] at H
    obtain ⟨y667, Ny667, H⟩ := bn H
    by_cases c10 : y667.length + l1.length < 17592186044416
    ·rw [if_pos c10] at H
     have LMc10 := Aside0.mk c10
     clear c10
     obtain ⟨y670, Ny670, H⟩ := bn H
     obtain ⟨LMc11, H⟩ := gda H
     obtain ⟨y673, Ny673, H⟩ := bn H
     obtain ⟨y676, Ny676, H⟩ := bn H
     obtain ⟨LMc12, H⟩ := gda H
     obtain ⟨y679, Ny679, H⟩ := bn H
     obtain ⟨LMc13, H⟩ := gda H
     generalize hy682 : (y679 ++ l1 : List Int) = y682 at H
     have Ny682 := Aside0.mk hy682.symm; clear hy682
     obtain ⟨t685, A14, H⟩ := bs H
     obtain ⟨LMc15, H⟩ := gda H
     generalize hy688 : (y673 ++ t685 : List Int) = y688 at H
     have Ny688 := Aside0.mk hy688.symm; clear hy688
     obtain ⟨t691, A16, H⟩ := bs H
     obtain rfl := Option.some.inj H
     go_wp2_with (first | ((with_reducible refine gate_dst (N := 28) rfl ?_); (try (refine gate_guard (by rfl) ?_; dsimp only)); refine Kd.R_lit (Kd.int .i64) _ 3 ?hg (N := 28) ?hd (xs := ([] : List Int)) (inner := []) (ok := fun _ => True) (okp := fun _ => True) ?hr ?hp (fun _ hk => hk) trivial (Below.refl _ _) (Nat.le_refl _) (by simp) ?_; (case hd => rfl); (case hg => rfl); (case hr => exact gS); (case hp => exact (Reps.none _ _)); intro v668 w17 ho18 hb hg_ hnew_; clear hg_ hnew_; (first | rw [← Ny667.out] at ho18 | (simp only [Int.reduceToNat] at ho18; rw [← Ny667.out] at ho18)); have HO669 := Aside0.mk (Kd.R_lower ho18 (below_size tb)); replace HB := Aside0.mk (below_step tb hb); clear hb ho18) | ((with_reducible refine gate_builtin (b := .append) (xs := #[.tmp 28, .tmp 29]) rfl ?_); (try (refine gate_guard (by rfl) ?_; dsimp only)); at_builtin; refine Kd.R_append_rows (Kd.int .i64) (w0 := w) w.heap.size rfl (.tmp 28) (.tmp 29) 24 3 (.int .i64 0) 8 rfl Try.underlying24 info3 rfl (by decide) (by omega) v668 y667 l1 _ _ _ (fun _ => True) (fun _ => False) rfl rfl ?aO ?aR (fun _ _ h => h) (fun _ h => h.elim) ?aF ?aB ?aS ?aL ?_; (case aR => exact C_l (Kd.C_below HR1.out HB.out)); (case aB => exact tb); (case aF => exact (fun _ _ => trivial)); (case aO => exact (R_l HO669.out)); (case aS => exact (below_size tb)); (case aL => have := LMc10.out; omega); intro v671 w19 ho hb hg hat; rw [← Ny670.out] at ho; replace HB := Aside0.mk (hb); have HO672 := Aside0.mk (ho); clear HO669; clear ho hb hg hat) | ((with_reducible refine gate_builtin (b := .append) (xs := #[.tmp 30, .tmp 31]) rfl ?_); (try (refine gate_guard (by rfl) ?_; dsimp only)); at_builtin; refine Kd.R_append_rows (Kd.int .i64) (w0 := w) w.heap.size rfl (.tmp 30) (.tmp 31) 24 3 (.int .i64 0) 8 rfl Try.underlying24 info3 rfl (by decide) (by omega) v671 y670 l2 _ _ _ (fun _ => True) (fun _ => False) rfl rfl ?aO ?aR (fun _ _ h => h) (fun _ h => h.elim) ?aF ?aB ?aS ?aL ?_; (case aR => exact C_l (Kd.C_below HR2.out HB.out)); (case aB => exact tb); (case aF => exact (fun _ _ => trivial)); (case aO => exact (R_l HO672.out)); (case aS => exact (below_size tb)); (case aL => have := LMc11.out; omega); intro v674 w20 ho hb hg hat; rw [← Ny673.out] at ho; replace HB := Aside0.mk (hb); have HO675 := Aside0.mk (ho); clear HO672; clear ho hb hg hat) | ((with_reducible refine gate_dst (N := 33) rfl ?_); (try (refine gate_guard (by rfl) ?_; dsimp only)); refine Kd.R_lit (Kd.int .i64) _ 3 ?hg (N := 33) ?hd (xs := ([] : List Int)) (inner := []) (ok := fun _ => True) (okp := fun _ => True) ?hr ?hp (fun _ hk => hk) trivial (Below.refl _ _) (Nat.le_refl _) (by simp) ?_; (case hd => rfl); (case hg => rfl); (case hr => exact gS); (case hp => exact (Reps.none _ _)); intro v677 w21 ho22 hb hg_ hnew_; clear hg_ hnew_; (first | rw [← Ny676.out] at ho22 | (simp only [Int.reduceToNat] at ho22; rw [← Ny676.out] at ho22)); have HO678 := Aside0.mk (Kd.R_lower (Kd.R_new' ho22 (Kd.R_lt (R_l HO675.out))) (below_size tb)); replace HO675 := Aside0.mk (Kd.R_elder' (R_l HO675.out) (Kd.R_base ho22) hb); replace HB := Aside0.mk (below_step tb hb); clear hb ho22) | ((with_reducible refine gate_builtin (b := .append) (xs := #[.tmp 33, .tmp 34]) rfl ?_); (try (refine gate_guard (by rfl) ?_; dsimp only)); at_builtin; refine Kd.R_append_rows (Kd.int .i64) (w0 := w) w.heap.size rfl (.tmp 33) (.tmp 34) 24 3 (.int .i64 0) 8 rfl Try.underlying24 info3 rfl (by decide) (by omega) v677 y676 l2 _ _ _ (fun k_ => some k_ ≠ (v674 : Value).ownBlock) (fun _ => False) rfl rfl ?aO ?aR (fun _ _ h => h) (fun _ h => h.elim) ?aF ?aB ?aS ?aL ?_; (case aR => exact C_l (Kd.C_below HR2.out HB.out)); (case aB => exact tb); (case aF => exact (fun k_ hk => Kd.fresh' (Kd.R_lt (R_l HO675.out)) k_ hk)); (case aO => exact (R_l (Kd.R_mono HO678.out (fun _ hk => hk.2)))); (case aS => exact (below_size tb)); (case aL => have := LMc12.out; omega); intro v680 w23 ho hb hg hat; rw [← Ny679.out] at ho; replace HO675 := Aside0.mk (Kd.R_after (ok := (fun _ => True)) (R_l HO675.out) hg hat); replace HB := Aside0.mk (hb); have HO681 := Aside0.mk (ho); clear HO678; clear ho hb hg hat) | ((with_reducible refine gate_builtin (b := .append) (xs := #[.tmp 35, .tmp 36]) rfl ?_); (try (refine gate_guard (by rfl) ?_; dsimp only)); at_builtin; refine Kd.R_append_rows (Kd.int .i64) (w0 := w) w.heap.size rfl (.tmp 35) (.tmp 36) 24 3 (.int .i64 0) 8 rfl Try.underlying24 info3 rfl (by decide) (by omega) v680 y679 l1 _ _ _ (fun k_ => some k_ ≠ (v674 : Value).ownBlock) (fun _ => False) rfl rfl ?aO ?aR (fun _ _ h => h) (fun _ h => h.elim) ?aF ?aB ?aS ?aL ?_; (case aR => exact C_l (Kd.C_below HR1.out HB.out)); (case aB => exact tb); (case aF => exact (fun k_ hk => Kd.fresh' (Kd.R_lt (R_l HO675.out)) k_ hk)); (case aO => exact (R_l HO681.out)); (case aS => exact (below_size tb)); (case aL => have := LMc13.out; omega); intro v683 w24 ho hb hg hat; rw [← Ny682.out] at ho; replace HO675 := Aside0.mk (Kd.R_after (ok := (fun _ => True)) (R_l HO675.out) hg hat); replace HB := Aside0.mk (hb); have HO684 := Aside0.mk (ho); clear HO681; clear ho hb hg hat; obtain ⟨Ao25, co25, eo25⟩ := Kd.R_slice HO684.out; subst eo25) | (refine gL 46 (some 41) Try.func46 #[.slice Ao25 y682.length co25] ?_; (with_reducible refine (spec_l2Inverse.calls kj3 _ _ y682 t685 _ ?side1 ?side2 A14.out).mono ?_); (case side1 => exact C_l ((Kd.R_reads' HO684.out).2.2)); (case side2 => exact (Kd.R_reads' HO684.out).2.1); rintro e w26 ⟨v686, rfl, ho0, hb⟩; refine ⟨_, rfl, ?_⟩; have HO687 := Aside0.mk (Kd.R_lower (Kd.R_new' (Kd.R_new' ho0 (Kd.R_lt (R_l HO675.out))) (Kd.R_lt (R_l HO684.out))) (below_size tb)); replace HO675 := Aside0.mk (Kd.R_elder' (R_l HO675.out) (Kd.R_base ho0) hb); replace HO684 := Aside0.mk (Kd.R_elder' (R_l HO684.out) (Kd.R_base ho0) hb); replace HB := Aside0.mk (below_step tb hb); obtain ⟨Ao28, co28, eo28⟩ := Kd.R_slice HO687.out; subst eo28) | ((with_reducible refine gate_builtin (b := .append) (xs := #[.tmp 39, .tmp 41]) rfl ?_); (try (refine gate_guard (by rfl) ?_; dsimp only)); at_builtin; refine Kd.R_append_rows (Kd.int .i64) (w0 := w) w.heap.size rfl (.tmp 39) (.tmp 41) 24 3 (.int .i64 0) 8 rfl Try.underlying24 info3 rfl (by decide) (by omega) v674 y673 t685 _ _ _ (fun k_ => some k_ ≠ (.slice Ao25 y682.length co25 : Value).ownBlock ∧ some k_ ≠ (.slice Ao28 t685.length co28 : Value).ownBlock) (fun _ => False) rfl rfl ?aO ?aR (fun _ _ h => h) (fun _ h => h.elim) ?aF ?aB ?aS ?aL ?_; (case aR => exact C_l ((Kd.R_reads' HO687.out).2.2)); (case aB => exact tb); (case aF => exact (fun k_ hk => ⟨Kd.fresh' (Kd.R_lt (R_l HO684.out)) k_ hk, Kd.fresh' (Kd.R_lt (R_l HO687.out)) k_ hk⟩)); (case aO => exact (R_l (Kd.R_mono HO675.out (fun _ hk => ⟨hk.1.2, hk.2⟩)))); (case aS => exact (below_size tb)); (case aL => have := LMc15.out; omega); intro v689 w27 ho hb hg hat; rw [← Ny688.out] at ho; replace HO684 := Aside0.mk (Kd.R_after (ok := (fun k_ => some k_ ≠ (.slice Ao28 t685.length co28 : Value).ownBlock)) (R_l (Kd.R_mono HO684.out (fun _ hk => ⟨hk.2, hk.1⟩))) hg hat); replace HO687 := Aside0.mk (Kd.R_after (ok := (fun k_ => some k_ ≠ (.slice Ao25 y682.length co25 : Value).ownBlock)) (R_l (Kd.R_mono HO687.out (fun _ hk => ⟨hk.2, hk.1.2⟩))) hg hat); replace HB := Aside0.mk (hb); have HO690 := Aside0.mk (ho); clear HO675; clear ho hb hg hat; obtain ⟨Ao29, co29, eo29⟩ := Kd.R_slice HO690.out; subst eo29) | (refine gL 45 (some 43) Try.func45 #[.int .i64 a0, .slice Ao29 y688.length co29] ?_; (with_reducible refine (spec_l8Trivial.calls kj3 a0 _ _ y688 t691 _ ?side1 ?side2 A16.out).mono ?_); (case side1 => exact C_l ((Kd.R_reads' HO690.out).2.2)); (case side2 => exact (Kd.R_reads' HO690.out).2.1); rintro e w30 ⟨rfl, hb⟩; refine ⟨_, rfl, ?_⟩; replace HO684 := Aside0.mk (rB HO684.out hb); replace HO687 := Aside0.mk (rB HO687.out hb); replace HO690 := Aside0.mk (rB HO690.out hb); replace HB := Aside0.mk (below_step tb hb)))
     go_ret
     exact ⟨rE, tb⟩
    ·rw [if_neg c10] at H
     exact absurd H (by simp)

/-! ### impl_Relator: function 17 -/
def impl_Relator.f (a0 : Int) : Option (List Int) := if a0 = 1 then ((impl_relator.f a0).bind fun t692 => (some t692)) else (if a0 = 2 then ((impl_relator.f a0).bind fun t695 => (some t695)) else (some ([] : List Int)))
set_option maxHeartbeats 8000000 in
set_option maxRecDepth 100000 in
theorem impl_Relator.calls (a0 : Int) (r : List Int) (w : World) (h : impl_Relator.f a0 = some r) :
  Calls Try.prog 17 #[.int .i64 a0] w fun e w' => ∃ v0_ : Value, e = .returned (v0_) ∧ Kd.R (Kd.int .i64) 3 w' w.heap.size (fun _ => True) v0_ r ∧ Below w.heap.size w w' := by
 have HB := Aside0.mk (Below.refl w.heap.size w)
 have H : (if a0 = 1 then ((impl_relator.f a0).bind fun t692 => (some t692)) else (if a0 = 2 then ((impl_relator.f a0).bind fun t695 => (some t695)) else (some ([] : List Int)))) = some r := h
 clear h
 by_cases c2 : a0 = 1
 ·rw [if_pos c2] at H
  have c2b0 : (a0 == 1) = true := beq_iff_eq.mpr c2
  have c2b1 : (a0 != 1) = false := bne_eq_false_iff_eq.mpr c2
  clear c2
  obtain ⟨t692, A3, H⟩ := bs H
  obtain rfl := Option.some.inj H
  go_enter Try.func17, Try.ntmps17
  go_wp2_with (first | (refine gL 33 (some 10) Try.func33 #[.int .i64 a0] ?_; (with_reducible refine (impl_relator.calls a0 t692 _ A3.out).mono ?_); rintro e w4 ⟨v693, rfl, ho0, hb⟩; refine ⟨_, rfl, ?_⟩; have HO694 := Aside0.mk (Kd.R_lower ho0 (below_size tb)); replace HB := Aside0.mk (below_step tb hb)))
  go_ret
  exact ⟨_, rE, R_l HO694.out, tb⟩
 ·rw [if_neg c2] at H
  have c2b0 : (a0 == 1) = false := beq_eq_false_iff_ne.mpr c2
  have c2b1 : (a0 != 1) = true := bne_iff_ne.mpr c2
  by_cases c5 : a0 = 2
  ·rw [if_pos c5] at H
   have c5b0 : (a0 == 2) = true := beq_iff_eq.mpr c5
   have c5b1 : (a0 != 2) = false := bne_eq_false_iff_eq.mpr c5
   clear c5
   obtain ⟨t695, A6, H⟩ := bs H
   obtain rfl := Option.some.inj H
   go_enter Try.func17, Try.ntmps17
   go_wp2_with (first | (refine gL 33 (some 10) Try.func33 #[.int .i64 a0] ?_; (with_reducible refine (impl_relator.calls a0 t695 _ A6.out).mono ?_); rintro e w7 ⟨v696, rfl, ho0, hb⟩; refine ⟨_, rfl, ?_⟩; have HO697 := Aside0.mk (Kd.R_lower ho0 (below_size tb)); replace HB := Aside0.mk (below_step tb hb)))
   go_ret
   exact ⟨_, rE, R_l HO697.out, tb⟩
  ·rw [if_neg c5] at H
   have c5b0 : (a0 == 2) = false := beq_eq_false_iff_ne.mpr c5
   have c5b1 : (a0 != 2) = true := bne_iff_ne.mpr c5
   obtain rfl := Option.some.inj H
   go_enter Try.func17, Try.ntmps17
   go_wp2
   go_ret
   exact ⟨_, rE, by first | exact Kd.R_nil _ _ _ _ _ | exact Kd.N_nil _ _ _ _ _ | exact Kd.V_nil _ _ _ _ _ | exact Kd.Q_nil _ _ _ _ _ | exact Kd.S_nil _ _ _ _ _, tb⟩

/-! ### spec_DehnWord: function 19 -/
def spec_DehnWord.f (k : Nat) (a0 : Int) (l1 : List Int) : Option (List Int) := (spec_l8Fits.f k a0 l1).bind fun t698 => (if t698 = true then ((spec_l8Dehn.f k a0 l1).bind fun t699 => (some t699)) else (some (([] : List Int))))
set_option maxHeartbeats 8000000 in
set_option maxRecDepth 100000 in
theorem spec_DehnWord.calls (k : Nat) (a0 : Int) (A1 : Option Addr) (c1 : Nat) (l1 : List Int) (r : List Int) (w : World) (hr1 : Kd.C (Kd.int .i64) w A1 l1.length l1) (hc1 : l1.length ≤ c1) (h : spec_DehnWord.f k a0 l1 = some r) :
  Calls Try.prog 19 #[.int .i64 a0, .slice A1 l1.length c1] w fun e w' => ∃ v0_ : Value, e = .returned (v0_) ∧ Kd.R (Kd.int .i64) 3 w' w.heap.size (fun _ => True) v0_ r ∧ Below w.heap.size w w' := by
 have HR1 := Aside0.mk hr1
 have HC1 := Aside0.mk hc1
 clear hr1 hc1
 have HB := Aside0.mk (Below.refl w.heap.size w)
 have H : ((spec_l8Fits.f k a0 l1).bind fun t698 => (if t698 = true then ((spec_l8Dehn.f k a0 l1).bind fun t699 => (some t699)) else (some (([] : List Int))))) = some r := h
 clear h
 obtain ⟨t698, A3, H⟩ := bs H
 by_cases c4 : t698 = true
 ·subst c4
  rw [if_pos rfl] at H
  obtain ⟨t699, A5, H⟩ := bs H
  obtain rfl := Option.some.inj H
  go_enter Try.func19, Try.ntmps19
  go_wp2_with (first | (refine gL 38 (some 7) Try.func38 #[.int .i64 a0, .slice A1 l1.length c1] ?_; (with_reducible refine (spec_l8Fits.calls k a0 _ _ l1 true _ ?side1 ?side2 A3.out).mono ?_); (case side1 => exact C_l HR1.out); (case side2 => exact HC1.out); rintro e w' ⟨rfl, ⟨nd, rfl⟩⟩; refine ⟨_, rfl, ?_⟩) | (refine gL 47 (some 12) Try.func47 #[.int .i64 a0, .slice A1 l1.length c1] ?_; (with_reducible refine (spec_l8Dehn.calls k a0 _ _ l1 t699 _ ?side1 ?side2 A5.out).mono ?_); (case side1 => exact C_l HR1.out); (case side2 => exact HC1.out); rintro e w6 ⟨v700, rfl, ho0, hb⟩; refine ⟨_, rfl, ?_⟩; have HO701 := Aside0.mk (Kd.R_lower ho0 (below_size tb)); replace HB := Aside0.mk (below_step tb hb)))
  go_ret
  exact ⟨_, rE, R_l HO701.out, tb⟩
 ·replace c4 := Bool.eq_false_iff.mpr c4
  subst c4
  rw [if_neg (show ¬ (false = true) by decide)] at H
  generalize hy702 : (([] : List Int) : List Int) = y702 at H
  have Ny702 := Aside0.mk hy702.symm; clear hy702
  obtain rfl := Option.some.inj H
  go_enter Try.func19, Try.ntmps19
  go_wp2_with (first | (refine gL 38 (some 7) Try.func38 #[.int .i64 a0, .slice A1 l1.length c1] ?_; (with_reducible refine (spec_l8Fits.calls k a0 _ _ l1 false _ ?side1 ?side2 A3.out).mono ?_); (case side1 => exact C_l HR1.out); (case side2 => exact HC1.out); rintro e w' ⟨rfl, ⟨nd, rfl⟩⟩; refine ⟨_, rfl, ?_⟩) | ((with_reducible refine gate_dst (N := 9) rfl ?_); refine Kd.R_lit (Kd.int .i64) _ 3 ?hg (N := 9) ?hd (xs := ([] : List Int)) (inner := []) (ok := fun _ => True) (okp := fun _ => True) ?hr ?hp (fun _ hk => hk) trivial (Below.refl _ _) (Nat.le_refl _) (by simp) ?_; (case hd => rfl); (case hg => rfl); (case hr => exact gS); (case hp => exact (Reps.none _ _)); intro v703 w7 ho8 hb hg_ hnew_; clear hg_ hnew_; (first | rw [← Ny702.out] at ho8 | (simp only [Int.reduceToNat] at ho8; rw [← Ny702.out] at ho8)); have HO704 := Aside0.mk (Kd.R_lower ho8 (below_size tb)); replace HB := Aside0.mk (below_step tb hb); clear hb ho8))
  go_ret
  exact ⟨_, rE, R_l HO704.out, tb⟩

/-! ### spec_IsTrivialWord: function 21 -/
def spec_IsTrivialWord.f (k : Nat) (a0 : Int) (l1 : List Int) : Option (Bool) := (spec_l8Fits.f k a0 l1).bind fun t705 => (if t705 = true then ((spec_l8Trivial.f k a0 l1).bind fun t706 => (some t706)) else (some false))
set_option maxHeartbeats 8000000 in
set_option maxRecDepth 100000 in
theorem spec_IsTrivialWord.calls (k : Nat) (a0 : Int) (A1 : Option Addr) (c1 : Nat) (l1 : List Int) (r : Bool) (w : World) (hr1 : Kd.C (Kd.int .i64) w A1 l1.length l1) (hc1 : l1.length ≤ c1) (h : spec_IsTrivialWord.f k a0 l1 = some r) :
  Calls Try.prog 21 #[.int .i64 a0, .slice A1 l1.length c1] w fun e w' => e = .returned (.bool r) ∧ Below w.heap.size w w' := by
 have HR1 := Aside0.mk hr1
 have HC1 := Aside0.mk hc1
 clear hr1 hc1
 have HB := Aside0.mk (Below.refl w.heap.size w)
 have H : ((spec_l8Fits.f k a0 l1).bind fun t705 => (if t705 = true then ((spec_l8Trivial.f k a0 l1).bind fun t706 => (some t706)) else (some false))) = some r := h
 clear h
 obtain ⟨t705, A3, H⟩ := bs H
 by_cases c4 : t705 = true
 ·subst c4
  rw [if_pos rfl] at H
  obtain ⟨t706, A5, H⟩ := bs H
  obtain rfl := Option.some.inj H
  go_enter Try.func21, Try.ntmps21
  go_wp2_with (first | (refine gL 38 (some 7) Try.func38 #[.int .i64 a0, .slice A1 l1.length c1] ?_; (with_reducible refine (spec_l8Fits.calls k a0 _ _ l1 true _ ?side1 ?side2 A3.out).mono ?_); (case side1 => exact C_l HR1.out); (case side2 => exact HC1.out); rintro e w' ⟨rfl, ⟨nd, rfl⟩⟩; refine ⟨_, rfl, ?_⟩) | (go_at_call 45; (with_reducible refine (spec_l8Trivial.calls k a0 _ _ l1 t706 _ ?side1 ?side2 A5.out).mono ?_); (case side1 => exact C_l HR1.out); (case side2 => exact HC1.out); rintro e w6 ⟨rfl, hb⟩; replace HB := Aside0.mk (below_step tb hb)))
  go_ret
  exact ⟨rE, tb⟩
 ·replace c4 := Bool.eq_false_iff.mpr c4
  subst c4
  rw [if_neg (show ¬ (false = true) by decide)] at H
  obtain rfl := Option.some.inj H
  go_enter Try.func21, Try.ntmps21
  go_wp2_with (first | (refine gL 38 (some 7) Try.func38 #[.int .i64 a0, .slice A1 l1.length c1] ?_; (with_reducible refine (spec_l8Fits.calls k a0 _ _ l1 false _ ?side1 ?side2 A3.out).mono ?_); (case side1 => exact C_l HR1.out); (case side2 => exact HC1.out); rintro e w' ⟨rfl, ⟨nd, rfl⟩⟩; refine ⟨_, rfl, ?_⟩))
  go_ret
  exact ⟨rE, tb⟩

/-! ### impl_HomologyOf: function 22 -/
def impl_HomologyOf.f (k : Nat) (a0 : Int) (l1 : List Int) : Option (List Int) := (impl_isGroupWord.f k a0 l1).bind fun t707 => (if t707 = true then ((impl_LetterSums.f k l1).bind fun t708 => (if 0 ≤ (wrap64 (2 * a0)) then (if (wrap64 (2 * a0)) ≤ (t708.length : Int) then (some (t708.take ((wrap64 (2 * a0)) : Int).toNat)) else (none)) else (none))) else (some ([] : List Int)))
set_option maxHeartbeats 8000000 in
set_option maxRecDepth 100000 in
theorem impl_HomologyOf.calls (k : Nat) (a0 : Int) (A1 : Option Addr) (c1 : Nat) (l1 : List Int) (r : List Int) (w : World) (hr1 : Kd.C (Kd.int .i64) w A1 l1.length l1) (hc1 : l1.length ≤ c1) (h : impl_HomologyOf.f k a0 l1 = some r) :
  Calls Try.prog 22 #[.int .i64 a0, .slice A1 l1.length c1] w fun e w' => ∃ v0_ : Value, e = .returned (v0_) ∧ Kd.R (Kd.int .i64) 3 w' w.heap.size (fun _ => True) v0_ r ∧ Below w.heap.size w w' := by
 have HR1 := Aside0.mk hr1
 have HC1 := Aside0.mk hc1
 clear hr1 hc1
 have HB := Aside0.mk (Below.refl w.heap.size w)
 have H : ((impl_isGroupWord.f k a0 l1).bind fun t707 => (if t707 = true then ((impl_LetterSums.f k l1).bind fun t708 => (if 0 ≤ (wrap64 (2 * a0)) then (if (wrap64 (2 * a0)) ≤ (t708.length : Int) then (some (t708.take ((wrap64 (2 * a0)) : Int).toNat)) else (none)) else (none))) else (some ([] : List Int)))) = some r := h
 clear h
 obtain ⟨t707, A3, H⟩ := bs H
 by_cases c4 : t707 = true
 ·subst c4
  rw [if_pos rfl] at H
  obtain ⟨t708, A5, H⟩ := bs H
  obtain ⟨ji6, hji6⟩ : ∃ j_ : Int, (wrap64 (2 * a0)) = j_ := ⟨_, rfl⟩
  replace H : (if 0 ≤ (ji6) then (if (ji6) ≤ (t708.length : Int) then (some (t708.take ((ji6) : Int).toNat)) else (none)) else (none)) = some r := by first | (rw [hji6] at H; exact H) | (simp only [hji6] at H ⊢; exact H)
  (try rw [hji6] at A3)
  (try rw [hji6] at A5)
  have hji6w : (IntKind.i64.wrap (2 * a0)) = ji6 := (i64_w _).trans hji6
  obtain ⟨c7, H⟩ := gd H
  have c7b0 := eq_true c7
  have c7b1 : decide (0 ≤ (ji6)) = true := decide_eq_true c7
  clear c7
  obtain ⟨c8, H⟩ := gd H
  have c8b0 := eq_true c8
  have c8b1 : decide ((ji6) ≤ (t708.length : Int)) = true := decide_eq_true c8
  clear c8
  generalize hy711 : (t708.take ((ji6) : Int).toNat : List Int) = y711 at H
  have Ny711 := Aside0.mk hy711.symm; clear hy711
  obtain rfl := Option.some.inj H
  go_enter Try.func22, Try.ntmps22
  go_wp2_with (first | (refine gL 31 (some 7) Try.func31 #[.int .i64 a0, .slice A1 l1.length c1] ?_; (with_reducible refine (impl_isGroupWord.calls k a0 _ _ l1 true _ ?side1 ?side2 A3.out).mono ?_); (case side1 => exact C_l HR1.out); (case side2 => exact HC1.out); rintro e w9 ⟨rfl, hb⟩; refine ⟨_, rfl, ?_⟩; replace HB := Aside0.mk (below_step tb hb)) | (refine gL 48 (some 10) Try.func48 #[.slice A1 l1.length c1] ?_; (with_reducible refine (impl_LetterSums.calls k _ _ l1 t708 _ ?side1 ?side2 A5.out).mono ?_); (case side1 => exact C_l (Kd.C_below HR1.out HB.out)); (case side2 => exact HC1.out); rintro e w10 ⟨v709, rfl, ho0, hb⟩; refine ⟨_, rfl, ?_⟩; have HO710 := Aside0.mk (Kd.R_lower ho0 (below_size tb)); replace HB := Aside0.mk (below_step tb hb); obtain ⟨Ao11, co11, eo11⟩ := Kd.R_slice HO710.out; subst eo11; have q12 : ((ji6) : Int) ≤ ((t708.length : Int) : Int) := dT; obtain ⟨i012, hi012, _, hsz12, _⟩ := info_parts info3; have hcut12 := cut_to (P := Try.prog) 24 3 .i64 Try.underlying24 hi012 Ao11 t708.length co11 (ji6) dT q12 (Kd.R_reads' HO710.out).2.1; have hr12 := Kd.R_take (m := ((ji6) : Int).toNat) HO710.out (by omega); have hy12 : y711.length = ((ji6) : Int).toNat := (by rw [Ny711.out, List.length_take]; omega); rw [← Ny711.out] at hr12; rw [← hy12] at hr12 hcut12; clear hy12 hi012 hsz12 HO710; have HO713 := Aside0.mk hr12; clear hr12; replace q12 := eq_true q12))
  go_ret
  exact ⟨_, by first | rfl | (simp [errW_none, errW_some] <;> rfl) | (simp only [← hji6]; first | rfl | (simp [errW_none, errW_some] <;> rfl)) | (simp [*, errW_none, errW_some] <;> rfl), R_l HO713.out, tb⟩
 ·replace c4 := Bool.eq_false_iff.mpr c4
  subst c4
  rw [if_neg (show ¬ (false = true) by decide)] at H
  obtain rfl := Option.some.inj H
  go_enter Try.func22, Try.ntmps22
  go_wp2_with (first | (refine gL 31 (some 7) Try.func31 #[.int .i64 a0, .slice A1 l1.length c1] ?_; (with_reducible refine (impl_isGroupWord.calls k a0 _ _ l1 false _ ?side1 ?side2 A3.out).mono ?_); (case side1 => exact C_l HR1.out); (case side2 => exact HC1.out); rintro e w13 ⟨rfl, hb⟩; refine ⟨_, rfl, ?_⟩; replace HB := Aside0.mk (below_step tb hb)))
  go_ret
  exact ⟨_, rE, by first | exact Kd.R_nil _ _ _ _ _ | exact Kd.N_nil _ _ _ _ _ | exact Kd.V_nil _ _ _ _ _ | exact Kd.Q_nil _ _ _ _ _ | exact Kd.S_nil _ _ _ _ _, tb⟩

end Go.Proofs.Ytbchbmfmplfoiaa.PFnGroups
