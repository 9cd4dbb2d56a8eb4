import Derived.Test.YtomjfejacjphnaaDoorWSpanB
import Derived.Test.YtomjfejacjphnaaDoorPFnSlopesx0
import Derived.Test.YtomjfejacjphnaaDoorPFnSlopesx2
import Derived.Test.YtomjfejacjphnaaDoorPFnSlopesx3
namespace Go.Proofs.YtomjfejacjphnaaDoor.PFnSlopes
open Go.RowKit Go.Proofs.YtomjfejacjphnaaDoorW.PrintWords Go.Proofs.YtomjfejacjphnaaDoorW.PrintLast Go.Proofs.YtomjfejacjphnaaDoorW.PrintMore
attribute [local go_sem] max2_int min2_int max_two min_two max_three min_three max_four min_four   -- for this text's walks alone
set_option linter.unusedVariables false
set_option linter.unusedSimpArgs false

/-! ### spec_FormatInt: function 51 -/
def spec_FormatInt.l0 : Nat → Int → Bool → ByteArray → Option (ByteArray)
 | 0, _, _, _ => none
 | k + 1, x0, x3, x4 => if x0 = 0 then (if x3 = true then (if 1 + x4.size ≤ 9223372036854775807 then (some ((⟨#[45]⟩ : ByteArray) ++ x4)) else (none)) else (some x4)) else (if (Int.tmod x0 10) < 0 then ((some (([(wrap64 (48 + (wrap64 (-(Int.tmod x0 10))))) % 256] : List Int) : List Int)).bind fun y261 => (if (strOfNums y261).size + x4.size ≤ 9223372036854775807 then (spec_FormatInt.l0 k (wrap64 (Int.tdiv x0 10)) x3 ((strOfNums y261) ++ x4)) else (none))) else ((some (([(wrap64 (48 + (Int.tmod x0 10))) % 256] : List Int) : List Int)).bind fun y264 => (if (strOfNums y264).size + x4.size ≤ 9223372036854775807 then (spec_FormatInt.l0 k (wrap64 (Int.tdiv x0 10)) x3 ((strOfNums y264) ++ x4)) else (none))))
def spec_FormatInt.f (k : Nat) (a0 : Int) : Option (ByteArray) := if a0 = 0 then (some (⟨#[48]⟩ : ByteArray)) else (spec_FormatInt.l0 k a0 (decide (a0 < 0)) (⟨#[]⟩ : ByteArray))
set_option maxHeartbeats 8000000 in
set_option maxRecDepth 100000 in
theorem spec_FormatInt.calls (k : Nat) (a0 : Int) (r : ByteArray) (w : World) (h : spec_FormatInt.f k a0 = some r) :
  Calls Tryd.prog 51 #[.int .i64 a0] w fun e w' => e = .returned (.string r) ∧ Below w.heap.size w w' := by
 have HB := Aside0.mk (Below.refl w.heap.size w)
 have H : (if a0 = 0 then (some (⟨#[48]⟩ : ByteArray)) else (spec_FormatInt.l0 k a0 (decide (a0 < 0)) (⟨#[]⟩ : ByteArray))) = some r := h
 clear h
 by_cases c2 : a0 = 0
 ·rw [if_pos c2] at H
  have c2b0 : (a0 == 0) = true := beq_iff_eq.mpr c2
  have c2b1 : (a0 != 0) = false := bne_eq_false_iff_eq.mpr c2
  clear c2
  obtain rfl := Option.some.inj H
  go_enter Tryd.func51, Tryd.ntmps51
  go_wp2
  go_ret
  exact ⟨rE, tb⟩
 ·rw [if_neg c2] at H
  have c2b0 : (a0 == 0) = false := beq_eq_false_iff_ne.mpr c2
  have c2b1 : (a0 != 0) = true := bne_iff_ne.mpr c2
  have H' := Aside0.mk H
  clear H
  go_enter Tryd.func51, Tryd.ntmps51
  go_wp2
  go_loopg [0, 4] k (fun kq v0 v4 w' => ∃ (x0_1 : Int) (x4_1 : ByteArray), v0 = .int .i64 x0_1 ∧ v4 = .string x4_1 ∧ Aside0 (spec_FormatInt.l0 kq x0_1 (decide (a0 < 0)) x4_1 = some r) ∧ Aside0 (kq ≤ k) ∧ Aside0 (Below w.heap.size w w'))
  case atStart => exact ⟨(a0), ((⟨#[]⟩ : ByteArray)), rS, rS, H', ⟨Nat.le_refl _⟩, ⟨tb⟩⟩
  case round =>
   clear H'
   try clear c2
   try clear c2b0
   try clear c2b1
   try clear p2
   obtain ⟨x0_1, x4_1, rfl, rfl, HA, HK1, HB⟩ := hrel
   cases gk with
   | zero => exact absurd HA.out (by simp [spec_FormatInt.l0])
   | succ k1 =>
    have H := HA.out
    clear HA
    simp only [spec_FormatInt.l0] at H
    by_cases c3 : x0_1 = 0
    ·rw [if_pos c3] at H
     have c3b0 : (x0_1 == 0) = true := beq_iff_eq.mpr c3
     have c3b1 : (x0_1 != 0) = false := bne_eq_false_iff_eq.mpr c3
     clear c3
     by_cases c4 : (decide (a0 < 0)) = true
     ·rw [if_pos c4] at H
      have c4b0 : (decide (a0 < 0)) = true := c4
      (try rw [c4b0])
      clear c4
      obtain ⟨c5, H⟩ := gd H
      have c5b0 := eq_true c5
      have c5b1 : decide (1 + x4_1.size ≤ 9223372036854775807) = true := decide_eq_true c5
      try have c5b2 : (9223372036854775807 < 1 + x4_1.size) = False := eq_false (Nat.not_lt.2 c5)
      obtain rfl := Option.some.inj H
      go_wp2
      go_ret
      exact ⟨rE, tb⟩
     ·rw [if_neg c4] at H
      have c4b0 : (decide (a0 < 0)) = false := by simpa using c4
      (try rw [c4b0])
      clear c4
      obtain rfl := Option.some.inj H
      go_wp2
      go_ret
      exact ⟨rE, tb⟩
    ·rw [if_neg c3] at H
     have c3b0 : (x0_1 == 0) = false := beq_eq_false_iff_ne.mpr c3
     have c3b1 : (x0_1 != 0) = true := bne_iff_ne.mpr c3
     obtain ⟨c6b0, H⟩ | ⟨c6b0, H⟩ := gi H
     ·obtain ⟨y261, hy261⟩ : ∃ y_ : List Int, y_ = (([(wrap64 (48 + (wrap64 (-(Int.tmod x0_1 10))))) % 256] : List Int)) := ⟨_, rfl⟩
      replace H : (if (strOfNums y261).size + x4_1.size ≤ 9223372036854775807 then (spec_FormatInt.l0 k1 (wrap64 (Int.tdiv x0_1 10)) (decide (a0 < 0)) ((strOfNums y261) ++ x4_1)) else (none)) = some r := by first | (rw [hy261]; with_reducible exact H) | (have H2_ := (Option.bind_some _ _).symm.trans H; rw [hy261]; with_reducible exact H2_) | (have H2_ := (Option.bind_some _ _).symm.trans H; with_reducible exact H2_) | with_reducible exact H | (rw [hy261]; exact H) | exact H
      have Ny261 := Aside0.mk hy261
      clear hy261
      obtain ⟨c7, H⟩ := gd H
      have c7b0 := eq_true c7
      have c7b1 : decide ((strOfNums y261).size + x4_1.size ≤ 9223372036854775807) = true := decide_eq_true c7
      try have c7b2 : (9223372036854775807 < (strOfNums y261).size + x4_1.size) = False := eq_false (Nat.not_lt.2 c7)
      have H' := Aside0.mk H
      clear H
      go_wp2_with (first | ((with_reducible refine gate_dst (N := 21) rfl ?_); refine Kd.R_lit (Kd.int .u8) _ 5 ?hg (N := 21) ?hd (xs := ([(wrap64 (48 + (wrap64 (-(Int.tmod x0_1 10))))) % 256] : List Int)) (inner := [.int .u8 ((wrap64 (48 + (wrap64 (-(Int.tmod x0_1 10))))) % 256)]) (ok := fun _ => True) (okp := fun _ => True) ?hr ?hp (fun _ hk => hk) trivial (Below.refl _ _) (Nat.le_refl _) (by simp) ?_; (case hd => rfl); (case hg => rfl); (case hr => exact gS); (case hp => exact (Reps.one (show Kd.M (Kd.int .u8) _ _ _ ((wrap64 (48 + (wrap64 (-(Int.tmod x0_1 10))))) % 256) [.int .u8 ((wrap64 (48 + (wrap64 (-(Int.tmod x0_1 10))))) % 256)] from rfl) (Reps.none _ _))); intro v262 w8 ho9 hb hg_ hnew_; clear hg_ hnew_; (first | rw [← Ny261.out] at ho9 | (simp only [Int.reduceToNat] at ho9; rw [← Ny261.out] at ho9)); have HO263 := Aside0.mk (Kd.R_lower ho9 (below_size tb)); replace HB := Aside0.mk (below_step tb hb); clear hb ho9; have hcv10 := own_string (P := Tryd.prog) Tryd.underlying22 Tryd.underlying5 Tryd.underlying9 (Kd.own_of_R HO263.out)))
      go_roundg k1
      case measure => exact oK
      case rel => exact ⟨(wrap64 (Int.tdiv x0_1 10)), ((strOfNums y261) ++ x4_1), rS, rS, H', ⟨oK⟩, ⟨tb⟩⟩
     ·obtain ⟨y264, hy264⟩ : ∃ y_ : List Int, y_ = (([(wrap64 (48 + (Int.tmod x0_1 10))) % 256] : List Int)) := ⟨_, rfl⟩
      replace H : (if (strOfNums y264).size + x4_1.size ≤ 9223372036854775807 then (spec_FormatInt.l0 k1 (wrap64 (Int.tdiv x0_1 10)) (decide (a0 < 0)) ((strOfNums y264) ++ x4_1)) else (none)) = some r := by first | (rw [hy264]; with_reducible exact H) | (have H2_ := (Option.bind_some _ _).symm.trans H; rw [hy264]; with_reducible exact H2_) | (have H2_ := (Option.bind_some _ _).symm.trans H; with_reducible exact H2_) | with_reducible exact H | (rw [hy264]; exact H) | exact H
      have Ny264 := Aside0.mk hy264
      clear hy264
      by_cases c11 : (strOfNums y264).size + x4_1.size ≤ 9223372036854775807
      ·rw [if_pos c11] at H
       have c11b0 := eq_true c11
       have c11b1 : decide ((strOfNums y264).size + x4_1.size ≤ 9223372036854775807) = true := decide_eq_true c11
       try have c11b2 : (9223372036854775807 < (strOfNums y264).size + x4_1.size) = False := eq_false (Nat.not_lt.2 c11)
       have H' := Aside0.mk H
       clear H
       go_wp2_with (first | ((with_reducible refine gate_dst (N := 21) rfl ?_); refine Kd.R_lit (Kd.int .u8) _ 5 ?hg (N := 21) ?hd (xs := ([(wrap64 (48 + (Int.tmod x0_1 10))) % 256] : List Int)) (inner := [.int .u8 ((wrap64 (48 + (Int.tmod x0_1 10))) % 256)]) (ok := fun _ => True) (okp := fun _ => True) ?hr ?hp (fun _ hk => hk) trivial (Below.refl _ _) (Nat.le_refl _) (by simp) ?_; (case hd => rfl); (case hg => rfl); (case hr => exact gS); (case hp => exact (Reps.one (show Kd.M (Kd.int .u8) _ _ _ ((wrap64 (48 + (Int.tmod x0_1 10))) % 256) [.int .u8 ((wrap64 (48 + (Int.tmod x0_1 10))) % 256)] from rfl) (Reps.none _ _))); intro v265 w12 ho13 hb hg_ hnew_; clear hg_ hnew_; (first | rw [← Ny264.out] at ho13 | (simp only [Int.reduceToNat] at ho13; rw [← Ny264.out] at ho13)); have HO266 := Aside0.mk (Kd.R_lower ho13 (below_size tb)); replace HB := Aside0.mk (below_step tb hb); clear hb ho13; have hcv14 := own_string (P := Tryd.prog) Tryd.underlying22 Tryd.underlying5 Tryd.underlying9 (Kd.own_of_R HO266.out)))
       go_roundg k1
       case measure => exact oK
       case rel => exact ⟨(wrap64 (Int.tdiv x0_1 10)), ((strOfNums y264) ++ x4_1), rS, rS, H', ⟨oK⟩, ⟨tb⟩⟩
      ·rw [if_neg c11] at H
       exact absurd H (by simp)

/-! ### spec_SlopeText: function 26 -/
def spec_SlopeText.f (k : Nat) (a0_0 : Int) (a0_1 : Int) : Option (ByteArray) := (spec_IsSlope.f k a0_0 a0_1).bind fun t268 => (if t268 = true then ((spec_FormatInt.f k a0_0).bind fun t269 => (if t269.size + 1 ≤ 9223372036854775807 then ((spec_FormatInt.f k a0_1).bind fun t270 => (if (t269 ++ (⟨#[47]⟩ : ByteArray)).size + t270.size ≤ 9223372036854775807 then (some ((t269 ++ (⟨#[47]⟩ : ByteArray)) ++ t270)) else (none))) else (none))) else (some (⟨#[]⟩ : ByteArray)))
def spec_SlopeText.T3 : Bool × List (List Nat × List Nat) := (true, [([], []), ([0], [0]), ([1], [1]), ([2], [2]), ([], []), ([4], [4]), ([5, 2], [5]), ([3, 6], [3, 6]), ([7, 6, 0, 1, 2, 3, 4, 5, 6, 7], [7])])
def spec_SlopeText.B3 : List Nat := [0, 1, 3, 7, 0, 16, 55, 127, 255]
theorem spec_SlopeText.tab3 : rtab .any (opsOf Tryd.f26 3) = spec_SlopeText.T3 := by kernel_rfl
theorem spec_SlopeText.bits3 : waitsOk spec_SlopeText.T3.2 spec_SlopeText.B3 = true := by kernel_rfl
set_option maxHeartbeats 8000000 in
set_option maxRecDepth 100000 in
theorem spec_SlopeText.calls (k : Nat) (a0_0 : Int) (a0_1 : Int) (r : ByteArray) (w : World) (h : spec_SlopeText.f k a0_0 a0_1 = some r) :
  Calls Tryd.prog 26 #[.agg #[.int .i64 a0_0, .int .i64 a0_1]] w fun e w' => e = .returned (.string r) ∧ Below w.heap.size w w' := by
 have hu25 := Tryd.underlying25
 have HB := Aside0.mk (Below.refl w.heap.size w)
 have H : ((spec_IsSlope.f k a0_0 a0_1).bind fun t268 => (if t268 = true then ((spec_FormatInt.f k a0_0).bind fun t269 => (if t269.size + 1 ≤ 9223372036854775807 then ((spec_FormatInt.f k a0_1).bind fun t270 => (if (t269 ++ (⟨#[47]⟩ : ByteArray)).size + t270.size ≤ 9223372036854775807 then (some ((t269 ++ (⟨#[47]⟩ : ByteArray)) ++ t270)) else (none))) else (none))) else (some (⟨#[]⟩ : ByteArray)))) = some r := h
 clear h
 obtain ⟨t268, A2, H⟩ := bs H
 by_cases c3 : t268 = true
 ·subst c3
  rw [if_pos rfl] at H
  obtain ⟨t269, A4, H⟩ := bs H
  obtain ⟨c5, H⟩ := gd H
  have c5b0 := eq_true c5
  have c5b1 : decide (t269.size + 1 ≤ 9223372036854775807) = true := decide_eq_true c5
  try have c5b2 : (9223372036854775807 < t269.size + 1) = False := eq_false (Nat.not_lt.2 c5)
  obtain ⟨t270, A6, H⟩ := bs H
  obtain ⟨c7, H⟩ := gd H
  have c7b0 := eq_true c7
  have c7b1 : decide ((t269 ++ (⟨#[47]⟩ : ByteArray)).size + t270.size ≤ 9223372036854775807) = true := decide_eq_true c7
  try have c7b2 : (9223372036854775807 < (t269 ++ (⟨#[47]⟩ : ByteArray)).size + t270.size) = False := eq_false (Nat.not_lt.2 c7)
  have c7b3 : (9223372036854775807 < t269.size + 1 + t270.size) = False := eq_false (by have := c7; rw [ByteArray.size_append] at this; have e_ : (⟨#[47]⟩ : ByteArray).size = 1 := rfl; omega)
  obtain rfl := Option.some.inj H
  go_enter Tryd.func26, Tryd.ntmps26
  try go_wp2_with (first | ((with_reducible refine gate_dst (N := 1) rfl ?_); refine box_event ?hg (N := 1) ?hd (cs := #[.int .i64 a0_0, .int .i64 a0_1]) (t := 25) ?hr ?_; (case hd => rfl); (case hg => rfl); (case hr => exact gS); intro gb267 hg w8 hbox hb; have BK267 := Aside0.mk (hbox); have GW267 := Aside0.mk (gW hg tb); have GE267 := Aside0.mk (gW hg tb); replace HB := Aside0.mk (below_step tb hb); clear hb hbox hg; have hcz9_0 : w8.cell? ⟨gb267, 0, none⟩ = some (.int .i64 a0_0) := (blk_cell BK267.out 0).trans rfl; have hcz9_1 : w8.cell? ⟨gb267, 1, none⟩ = some (.int .i64 a0_1) := (blk_cell BK267.out 1).trans rfl; have hfz9_0 := blk_frozen BK267.out 0; have hfz9_1 := blk_frozen BK267.out 1) | ((with_reducible refine gate_callee (f := 23) rfl ?_); refine goesL_ (some 4) rfl rfl Tryd.func23 (by kernel_rfl) rfl #[.agg #[.int .i64 a0_0, .int .i64 a0_1]] rfl mp_ ?_; (with_reducible refine (spec_IsSlope.calls k a0_0 a0_1 true _ A2.out).mono ?_); rintro e w10 ⟨rfl, hb⟩; refine ⟨_, rfl, ?_⟩; replace BK267 := Aside0.mk (bB BK267 hb); replace HB := Aside0.mk (below_step (tG1 GE267.out) hb)))
  replace BK267 := Aside0.mk (blk_drew BK267.out); replace HB := Aside0.mk (below_drew1 HB.out)
  refine start_ (n := 9) (S := fun w' => w'.cell? ⟨gb267, 0, none⟩ = some (.int .i64 a0_0) ∧ w'.cell? ⟨gb267, 1, none⟩ = some (.int .i64 a0_1)) (ds := []) #[false, false, false, false, false, false, false, false, false] (by kernel_rfl) rfl rfl ⟨(blk_cell BK267.out 0).trans rfl, (blk_cell BK267.out 1).trans rfl⟩ (fun hHeld => ?_); refine with_tabW spec_SlopeText.tab3 spec_SlopeText.bits3 (fun HT_ HW_ => ?_)
  generalize w10.drew = w11 at BK267 HB hHeld ⊢
  refine pu_ 0 (some 6) ?_
  refine pu_ 4 (some 10) ?_
  refine take_ (i := 1) (N := some 7) (v := ?_) (a' := ?_) #[true, true, false, false, true, false, false, false, false] rfl rfl (take_ofW HT_.out HW_.out (by kernel_rfl)) (fun _ _ _ h => h) (Or.inl ⟨by rfl, ?_⟩) hHeld ?_ ?_
  rotate_left
  ·rintro w' ⟨s0, s1⟩
   go_simp
   with_reducible rfl
  rotate_left
  ·simp only [Act.put, List.setIfInBounds_toArray, List.set_cons_zero, List.set_cons_succ, i64_w, i32_w]
   rfl
  refine take_ (i := 5) (N := some 11) (v := ?_) (a' := ?_) #[true, true, false, false, true, true, false, false, false] rfl rfl (take_ofW HT_.out HW_.out (by kernel_rfl)) (fun _ _ _ h => h) (Or.inl ⟨by rfl, ?_⟩) hHeld ?_ ?_
  rotate_left
  ·rintro w' ⟨s0, s1⟩
   go_simp
   with_reducible rfl
  rotate_left
  ·simp only [Act.put, List.setIfInBounds_toArray, List.set_cons_zero, List.set_cons_succ, i64_w, i32_w]
   rfl
  refine one_ (i := 2) (N := some 8) #[true, true, true, false, true, true, false, false, false] rfl rfl (one_of HT_.out (by kernel_rfl)) (by decide) (fun K hK => ?_)
  refine goes_ Tryd.func51 (by kernel_rfl) rfl #[.int .i64 a0_0] (by rfl) rfl rfl mp_ ?_
  with_reducible refine (spec_FormatInt.calls k a0_0 t269 _ A4.out).mono ?_
  rintro e w12 ⟨rfl, hb⟩
  refine ⟨_, rfl, ?_⟩
  replace BK267 := Aside0.mk (bB BK267 hb); replace HB := Aside0.mk (below_step (tG1 GE267.out) hb)
  (try clear hb)
  (try clear hb2)
  (try clear hk)
  (try clear hi)
  refine hK.out _ _ ⟨(blk_cell BK267.out 0).trans rfl, (blk_cell BK267.out 1).trans rfl⟩ (fun hHeld => ?_)
  clear hK K
  refine norm_ (a' := ?_) ?_ ?_
  rotate_left
  ·show Act.put _ (some 8) _ = _
   simp only [Act.put, List.setIfInBounds_toArray, List.set_cons_zero, List.set_cons_succ, i64_w, i32_w]
   rfl
  refine pu_ 3 (some 9) ?_
  refine one_ (i := 6) (N := some 12) #[true, true, true, true, true, true, true, false, false] rfl rfl (one_of HT_.out (by kernel_rfl)) (by decide) (fun K hK => ?_)
  refine goes_ Tryd.func51 (by kernel_rfl) rfl #[.int .i64 a0_1] (by rfl) rfl rfl mp_ ?_
  with_reducible refine (spec_FormatInt.calls k a0_1 t270 _ A6.out).mono ?_
  rintro e w13 ⟨rfl, hb⟩
  refine ⟨_, rfl, ?_⟩
  replace BK267 := Aside0.mk (bB BK267 hb); replace HB := Aside0.mk (below_step (tG1 GE267.out) hb)
  (try clear hb)
  (try clear hb2)
  (try clear hk)
  (try clear hi)
  refine hK.out _ _ ⟨(blk_cell BK267.out 0).trans rfl, (blk_cell BK267.out 1).trans rfl⟩ (fun hHeld => ?_)
  clear hK K
  refine norm_ (a' := ?_) ?_ ?_
  rotate_left
  ·show Act.put _ (some 12) _ = _
   simp only [Act.put, List.setIfInBounds_toArray, List.set_cons_zero, List.set_cons_succ, i64_w, i32_w]
   rfl
  refine pu_ 7 (some 13) ?_
  refine pu_ 8 (some 2) ?_
  refine done_ (done_of HT_.out (by kernel_rfl)) ?_
  try go_wp2
  go_ret
  exact ⟨rE, tG1 GE267.out⟩
 ·replace c3 := Bool.eq_false_iff.mpr c3
  subst c3
  rw [if_neg (show ¬ (false = true) by decide)] at H
  obtain rfl := Option.some.inj H
  go_enter Tryd.func26, Tryd.ntmps26
  go_wp2_with (first | ((with_reducible refine gate_dst (N := 1) rfl ?_); refine box_event ?hg (N := 1) ?hd (cs := #[.int .i64 a0_0, .int .i64 a0_1]) (t := 25) ?hr ?_; (case hd => rfl); (case hg => rfl); (case hr => exact gS); intro gb267 hg w14 hbox hb; have BK267 := Aside0.mk (hbox); have GW267 := Aside0.mk (gW hg tb); have GE267 := Aside0.mk (gW hg tb); replace HB := Aside0.mk (below_step tb hb); clear hb hbox hg; have hcz15_0 : w14.cell? ⟨gb267, 0, none⟩ = some (.int .i64 a0_0) := (blk_cell BK267.out 0).trans rfl; have hcz15_1 : w14.cell? ⟨gb267, 1, none⟩ = some (.int .i64 a0_1) := (blk_cell BK267.out 1).trans rfl; have hfz15_0 := blk_frozen BK267.out 0; have hfz15_1 := blk_frozen BK267.out 1) | ((with_reducible refine gate_callee (f := 23) rfl ?_); refine goesL_ (some 4) rfl rfl Tryd.func23 (by kernel_rfl) rfl #[.agg #[.int .i64 a0_0, .int .i64 a0_1]] rfl mp_ ?_; (with_reducible refine (spec_IsSlope.calls k a0_0 a0_1 false _ A2.out).mono ?_); rintro e w16 ⟨rfl, hb⟩; refine ⟨_, rfl, ?_⟩; replace BK267 := Aside0.mk (bB BK267 hb); replace HB := Aside0.mk (below_step (tG1 GE267.out) hb)))
  go_ret
  exact ⟨rE, tG1 GE267.out⟩

/-! ### spec_l1Pick: function 55 -/
def spec_l1Pick.f (s0_0 : List Int) (s0_1 : Int) (s0_2 : Int) (l1 : List ByteArray) : Option (ByteArray × Int × Int) := (spec_l1Below.f s0_0 s0_1 s0_2 (l1.length : Int)).bind fun bt271 => (if 0 ≤ bt271.1 then (if bt271.1 < (l1.length : Int) then (some (rdOf ByteArray.empty l1 bt271.1, bt271.2.1, bt271.2.2)) else (none)) else (none))
set_option maxHeartbeats 8000000 in
set_option maxRecDepth 100000 in
theorem spec_l1Pick.calls (g : Nat) (s0_0 : List Int) (s0_1 : Int) (s0_2 : Int) (A1 : Option Addr) (c1 : Nat) (l1 : List ByteArray) (r1 : ByteArray) (r2 : Int) (r3 : Int) (w0 w : World) (hI : IsS66 w0 w g s0_0 s0_1 s0_2) (hB : Below w0.heap.size w0 w) (hr1 : Kd.C Kd.string w A1 l1.length l1) (hc1 : l1.length ≤ c1) (hf1 : ∀ ad, A1 = some ad → 0 < l1.length → ad.block ≠ g) (h : spec_l1Pick.f s0_0 s0_1 s0_2 l1 = some (r1, r2, r3)) :
  Calls Tryd.prog 55 #[.pointer (some ⟨g, 0, none⟩), .slice A1 l1.length c1] w fun e w' => e = .returned (.string r1) ∧ IsS66 w0 w' g s0_0 r2 r3 ∧ Below w0.heap.size w0 w' ∧ KeepBut w w' g none := by
 have HR1 := Aside0.mk hr1
 have HC1 := Aside0.mk hc1
 clear hr1 hc1
 have HI0 := Aside0.mk hI
 have HK := Aside0.mk (KeepBut.refl w g none)
 have HL := Aside0.mk hB.size
 clear hI
 have HW0 := Aside0.mk hB.size
 have HB := Aside0.mk hB
 clear hB
 have H : ((spec_l1Below.f s0_0 s0_1 s0_2 (l1.length : Int)).bind fun bt271 => (if 0 ≤ bt271.1 then (if bt271.1 < (l1.length : Int) then (some (rdOf ByteArray.empty l1 bt271.1, bt271.2.1, bt271.2.2)) else (none)) else (none))) = some (r1, r2, r3) := h
 clear h
 obtain ⟨⟨t271, t272, t273⟩, A3, H⟩ := bs H
 try dsimp only at H
 by_cases c4 : 0 ≤ t271
 ·rw [if_pos c4] at H
  have c4b0 : decide (0 ≤ t271) = true := decide_eq_true c4
  clear c4
  obtain ⟨c5b0, H⟩ := gdt H
  simp only [Option.some.injEq, Prod.mk.injEq] at H
  obtain ⟨rfl, rfl, rfl⟩ := H
  go_enter Tryd.func55, Tryd.ntmps55
  go_wp2_with (first | ((with_reducible refine gate_callee (f := 33) rfl ?_); refine goesL_ (some 9) rfl rfl Tryd.func33 (by kernel_rfl) rfl #[.pointer (some ⟨g, 0, none⟩), .int .i64 (l1.length : Int)] rfl mp_ ?_; (with_reducible refine (spec_l1Below.calls g s0_0 s0_1 s0_2 (l1.length : Int) t271 t272 t273 w0 _ ?side1 ?side2 A3.out).mono ?_); (case side1 => exact tI); (case side2 => exact tB); rintro e w6 ⟨rfl, hi, hb, hk⟩; refine ⟨_, rfl, ?_⟩; replace HK := Aside0.mk (KeepBut.trans tK hk (.inl rfl)); replace HB := Aside0.mk (hb); replace HI0 := Aside0.mk (hi); have p274 : 0 ≤ (t271 : Int) := dT; have q274 : t271 < (l1.length : Int) := dT; obtain ⟨ad274, e274, hx274_0⟩ := Kd.at_string HR1.out t271 p274 q274; cases e274; replace hx274_0 := keep_cell HK.out hx274_0 (by first | (rw [add_block]; exact hf1 _ rfl (by omega)) | exact hf1 _ rfl (by omega) | exact hf1 ad274 rfl (by omega)); replace p274 := eq_true p274; replace q274 := eq_true q274))
  go_ret
  exact ⟨rE, tI, tB, tK⟩
 ·rw [if_neg c4] at H
  exact absurd H (by simp)

/-! ### spec_l1Turned: function 40 -/
def spec_l1Turned.f (s0_0 : List Int) (s0_1 : Int) (s0_2 : Int) (a1 : ByteArray) (l2 : List ByteArray) : Option (ByteArray × Int × Int) := (spec_l1Below.f s0_0 s0_1 s0_2 (wrap64 ((a1.size : Int) + 1))).bind fun bt275 => ((spec_l1Below.f s0_0 bt275.2.1 bt275.2.2 6).bind fun bt278 => (if bt278.1 = 0 then (if 0 ≤ bt275.1 then (if bt275.1 ≤ (a1.size : Int) then ((spec_l1Pick.f s0_0 bt278.2.1 bt278.2.2 l2).bind fun bt281 => (if (a1.extract 0 (bt275.1 : Int).toNat).size + bt281.1.size ≤ 9223372036854775807 then (if ((a1.extract 0 (bt275.1 : Int).toNat) ++ bt281.1).size + (a1.extract (bt275.1 : Int).toNat a1.size).size ≤ 9223372036854775807 then (some (((a1.extract 0 (bt275.1 : Int).toNat) ++ bt281.1) ++ (a1.extract (bt275.1 : Int).toNat a1.size), bt281.2.1, bt281.2.2)) else (none)) else (none))) else (none)) else (none)) else (if bt278.1 = 1 then (if 0 ≤ bt275.1 then (if bt275.1 ≤ (a1.size : Int) then (some (a1.extract 0 (bt275.1 : Int).toNat, bt278.2.1, bt278.2.2)) else (none)) else (none)) else (some (a1, bt278.2.1, bt278.2.2)))))
def spec_l1Turned.T4 : Bool × List (List Nat × List Nat) := (true, [([], []), ([], []), ([0, 1], [0, 1]), ([], []), ([], []), ([3, 4], [3, 4]), ([2, 5], [2, 5]), ([], []), ([], []), ([7, 8], [7, 8]), ([6, 9], [6, 9]), ([10, 5, 0, 1, 2, 3, 4, 5, 6, 7, 8, 9, 10], [10])])
def spec_l1Turned.B4 : List Nat := [0, 0, 3, 0, 0, 24, 63, 0, 0, 384, 1023, 2047]
theorem spec_l1Turned.tab4 : rtab .any (opsOf Tryd.f40 4) = spec_l1Turned.T4 := by kernel_rfl
theorem spec_l1Turned.bits4 : waitsOk spec_l1Turned.T4.2 spec_l1Turned.B4 = true := by kernel_rfl
set_option maxHeartbeats 8000000 in
set_option maxRecDepth 100000 in
theorem spec_l1Turned.calls (g : Nat) (s0_0 : List Int) (s0_1 : Int) (s0_2 : Int) (a1 : ByteArray) (A2 : Option Addr) (c2 : Nat) (l2 : List ByteArray) (r1 : ByteArray) (r2 : Int) (r3 : Int) (w0 w : World) (hI : IsS66 w0 w g s0_0 s0_1 s0_2) (hB : Below w0.heap.size w0 w) (hr2 : Kd.C Kd.string w A2 l2.length l2) (hc2 : l2.length ≤ c2) (hf2 : ∀ ad, A2 = some ad → 0 < l2.length → ad.block ≠ g) (h : spec_l1Turned.f s0_0 s0_1 s0_2 a1 l2 = some (r1, r2, r3)) :
  Calls Tryd.prog 40 #[.pointer (some ⟨g, 0, none⟩), .string a1, .slice A2 l2.length c2] w fun e w' => e = .returned (.string r1) ∧ IsS66 w0 w' g s0_0 r2 r3 ∧ Below w0.heap.size w0 w' ∧ KeepBut w w' g none := by
 have HR2 := Aside0.mk hr2
 have HC2 := Aside0.mk hc2
 clear hr2 hc2
 have HI0 := Aside0.mk hI
 have HK := Aside0.mk (KeepBut.refl w g none)
 have HL := Aside0.mk hB.size
 clear hI
 have HW0 := Aside0.mk hB.size
 have HB := Aside0.mk hB
 clear hB
 have H : ((spec_l1Below.f s0_0 s0_1 s0_2 (wrap64 ((a1.size : Int) + 1))).bind fun bt275 => ((spec_l1Below.f s0_0 bt275.2.1 bt275.2.2 6).bind fun bt278 => (if bt278.1 = 0 then (if 0 ≤ bt275.1 then (if bt275.1 ≤ (a1.size : Int) then ((spec_l1Pick.f s0_0 bt278.2.1 bt278.2.2 l2).bind fun bt281 => (if (a1.extract 0 (bt275.1 : Int).toNat).size + bt281.1.size ≤ 9223372036854775807 then (if ((a1.extract 0 (bt275.1 : Int).toNat) ++ bt281.1).size + (a1.extract (bt275.1 : Int).toNat a1.size).size ≤ 9223372036854775807 then (some (((a1.extract 0 (bt275.1 : Int).toNat) ++ bt281.1) ++ (a1.extract (bt275.1 : Int).toNat a1.size), bt281.2.1, bt281.2.2)) else (none)) else (none))) else (none)) else (none)) else (if bt278.1 = 1 then (if 0 ≤ bt275.1 then (if bt275.1 ≤ (a1.size : Int) then (some (a1.extract 0 (bt275.1 : Int).toNat, bt278.2.1, bt278.2.2)) else (none)) else (none)) else (some (a1, bt278.2.1, bt278.2.2)))))) = some (r1, r2, r3) := h
 clear h
 obtain ⟨⟨t275, t276, t277⟩, A4, H⟩ := bs H
 try dsimp only at H
 obtain ⟨⟨t278, t279, t280⟩, A5, H⟩ := bs H
 try dsimp only at H
 by_cases c6 : t278 = 0
 ·rw [if_pos c6] at H
  have c6b0 : (t278 == 0) = true := beq_iff_eq.mpr c6
  have c6b1 : (t278 != 0) = false := bne_eq_false_iff_eq.mpr c6
  clear c6
  obtain ⟨c7, H⟩ := gd H
  have c7b0 := eq_true c7
  have c7b1 : decide (0 ≤ t275) = true := decide_eq_true c7
  clear c7
  obtain ⟨c8, H⟩ := gd H
  have c8b0 := eq_true c8
  have c8b1 : decide (t275 ≤ (a1.size : Int)) = true := decide_eq_true c8
  clear c8
  obtain ⟨⟨t281, t282, t283⟩, A9, H⟩ := bs H
  try dsimp only at H
  obtain ⟨c10, H⟩ := gd H
  have c10b0 := eq_true c10
  have c10b1 : decide ((a1.extract 0 (t275 : Int).toNat).size + t281.size ≤ 9223372036854775807) = true := decide_eq_true c10
  try have c10b2 : (9223372036854775807 < (a1.extract 0 (t275 : Int).toNat).size + t281.size) = False := eq_false (Nat.not_lt.2 c10)
  have c10b3 : (9223372036854775807 < t275.toNat + t281.size) = False := eq_false (by have h_ := c10; have h1_ := of_eq_true c8b0; rw [ByteArray.size_extract] at h_; omega)
  have c11b0 := eq_true (dT : 0 ≤ t275)
  have c12b0 := eq_true (dT : t275 ≤ (a1.size : Int))
  obtain ⟨c13, H⟩ := gd H
  have c13b0 := eq_true c13
  have c13b1 : decide (((a1.extract 0 (t275 : Int).toNat) ++ t281).size + (a1.extract (t275 : Int).toNat a1.size).size ≤ 9223372036854775807) = true := decide_eq_true c13
  try have c13b2 : (9223372036854775807 < ((a1.extract 0 (t275 : Int).toNat) ++ t281).size + (a1.extract (t275 : Int).toNat a1.size).size) = False := eq_false (Nat.not_lt.2 c13)
  have c13b3 : (9223372036854775807 < t275.toNat + t281.size + (a1.size - t275.toNat)) = False := eq_false (by have h_ := c13; have h1_ := of_eq_true c8b0; rw [ByteArray.size_append, ByteArray.size_extract, ByteArray.size_extract] at h_; omega)
  simp only [Option.some.injEq, Prod.mk.injEq] at H
  obtain ⟨rfl, rfl, rfl⟩ := H
  go_enter Tryd.func40, Tryd.ntmps40
  try go_wp2_with (first | ((with_reducible refine gate_callee (f := 33) rfl ?_); refine goesL_ (some 12) rfl rfl Tryd.func33 (by kernel_rfl) rfl #[.pointer (some ⟨g, 0, none⟩), .int .i64 (wrap64 ((a1.size : Int) + 1))] rfl mp_ ?_; (with_reducible refine (spec_l1Below.calls g s0_0 s0_1 s0_2 (wrap64 ((a1.size : Int) + 1)) t275 t276 t277 w0 _ ?side1 ?side2 A4.out).mono ?_); (case side1 => exact tI); (case side2 => exact tB); rintro e w14 ⟨rfl, hi, hb, hk⟩; refine ⟨_, rfl, ?_⟩; replace HK := Aside0.mk (KeepBut.trans tK hk (.inl rfl)); replace HB := Aside0.mk (hb); replace HI0 := Aside0.mk (hi)) | ((with_reducible refine gate_callee (f := 33) rfl ?_); refine goesL_ (some 14) rfl rfl Tryd.func33 (by kernel_rfl) rfl #[.pointer (some ⟨g, 0, none⟩), .int .i64 6] rfl mp_ ?_; (with_reducible refine (spec_l1Below.calls g s0_0 t276 t277 6 t278 t279 t280 w0 _ ?side1 ?side2 A5.out).mono ?_); (case side1 => exact tI); (case side2 => exact tB); rintro e w15 ⟨rfl, hi, hb, hk⟩; refine ⟨_, rfl, ?_⟩; replace HK := Aside0.mk (KeepBut.trans tK hk (.inl rfl)); replace HB := Aside0.mk (hb); replace HI0 := Aside0.mk (hi)))
  replace HI0 := Aside0.mk (IsS66.drew HI0.out); replace HK := Aside0.mk (keep_drew HK.out); replace HB := Aside0.mk (below_drew1 HB.out)
  refine start_ (n := 12) (S := fun w' => True) (ds := []) #[false, false, false, false, false, false, false, false, false, false, false, false] (by kernel_rfl) rfl rfl trivial (fun hHeld => ?_); refine with_tabW spec_l1Turned.tab4 spec_l1Turned.bits4 (fun HT_ HW_ => ?_)
  generalize w15.drew = w16 at HI0 HK HB hHeld ⊢
  refine pu_ 0 (some 17) ?_
  refine pu_ 1 (some 18) ?_
  refine pu_ 2 (some 19) ?_
  refine pu_ 3 (some 20) ?_
  refine pu_ 4 (some 21) ?_
  refine pu_ 7 (some 24) ?_
  refine pu_ 8 (some 25) ?_
  refine pu_ 9 (some 26) ?_
  refine one_ (i := 5) (N := some 22) #[true, true, true, true, true, true, false, true, true, true, false, false] rfl rfl (one_of HT_.out (by kernel_rfl)) (by decide) (fun K hK => ?_)
  refine goes_ Tryd.func55 (by kernel_rfl) rfl #[.pointer (some ⟨g, 0, none⟩), .slice A2 l2.length c2] (by rfl) rfl rfl mp_ ?_
  with_reducible refine (spec_l1Pick.calls g s0_0 t279 t280 _ _ l2 t281 t282 t283 w0 _ ?side1 ?side2 ?side3 ?side4 ?side5 A9.out).mono ?_
  (case side1 => exact tI)
  (case side2 => exact tB)
  (case side3 => exact Kd.C_keep (⟨#[]⟩ : ByteArray) HR2.out tK hf2)
  (case side4 => exact HC2.out)
  (case side5 => exact hf2)
  rintro e w17 ⟨rfl, hi, hb, hk⟩
  refine ⟨_, rfl, ?_⟩
  replace HK := Aside0.mk (KeepBut.trans tK hk (.inl rfl)); replace HB := Aside0.mk (hb); replace HI0 := Aside0.mk (hi)
  (try clear hb)
  (try clear hb2)
  (try clear hk)
  (try clear hi)
  refine hK.out _ _ trivial (fun hHeld => ?_)
  clear hK K
  refine norm_ (a' := ?_) ?_ ?_
  rotate_left
  ·show Act.put _ (some 22) _ = _
   simp only [Act.put, List.setIfInBounds_toArray, List.set_cons_zero, List.set_cons_succ, i64_w, i32_w]
   rfl
  refine pu_ 6 (some 23) ?_
  refine pu_ 10 (some 27) ?_
  refine pu_ 11 (some 6) ?_
  refine done_ (done_of HT_.out (by kernel_rfl)) ?_
  try go_wp2
  go_ret
  exact ⟨rE, tI, tB, tK⟩
 ·rw [if_neg c6] at H
  have c6b0 : (t278 == 0) = false := beq_eq_false_iff_ne.mpr c6
  have c6b1 : (t278 != 0) = true := bne_iff_ne.mpr c6
  by_cases c18 : t278 = 1
  ·rw [if_pos c18] at H
   have c18b0 : (t278 == 1) = true := beq_iff_eq.mpr c18
   have c18b1 : (t278 != 1) = false := bne_eq_false_iff_eq.mpr c18
   clear c18
   obtain ⟨c19, H⟩ := gd H
   have c19b0 := eq_true c19
   have c19b1 : decide (0 ≤ t275) = true := decide_eq_true c19
   clear c19
   obtain ⟨c20, H⟩ := gd H
   have c20b0 := eq_true c20
   have c20b1 : decide (t275 ≤ (a1.size : Int)) = true := decide_eq_true c20
   clear c20
   simp only [Option.some.injEq, Prod.mk.injEq] at H
   obtain ⟨rfl, rfl, rfl⟩ := H
   go_enter Tryd.func40, Tryd.ntmps40
   go_wp2_with (first | ((with_reducible refine gate_callee (f := 33) rfl ?_); refine goesL_ (some 12) rfl rfl Tryd.func33 (by kernel_rfl) rfl #[.pointer (some ⟨g, 0, none⟩), .int .i64 (wrap64 ((a1.size : Int) + 1))] rfl mp_ ?_; (with_reducible refine (spec_l1Below.calls g s0_0 s0_1 s0_2 (wrap64 ((a1.size : Int) + 1)) t275 t276 t277 w0 _ ?side1 ?side2 A4.out).mono ?_); (case side1 => exact tI); (case side2 => exact tB); rintro e w21 ⟨rfl, hi, hb, hk⟩; refine ⟨_, rfl, ?_⟩; replace HK := Aside0.mk (KeepBut.trans tK hk (.inl rfl)); replace HB := Aside0.mk (hb); replace HI0 := Aside0.mk (hi)) | ((with_reducible refine gate_callee (f := 33) rfl ?_); refine goesL_ (some 14) rfl rfl Tryd.func33 (by kernel_rfl) rfl #[.pointer (some ⟨g, 0, none⟩), .int .i64 6] rfl mp_ ?_; (with_reducible refine (spec_l1Below.calls g s0_0 t276 t277 6 t278 t279 t280 w0 _ ?side1 ?side2 A5.out).mono ?_); (case side1 => exact tI); (case side2 => exact tB); rintro e w22 ⟨rfl, hi, hb, hk⟩; refine ⟨_, rfl, ?_⟩; replace HK := Aside0.mk (KeepBut.trans tK hk (.inl rfl)); replace HB := Aside0.mk (hb); replace HI0 := Aside0.mk (hi)))
   go_ret
   exact ⟨rE, tI, tB, tK⟩
  ·rw [if_neg c18] at H
   have c18b0 : (t278 == 1) = false := beq_eq_false_iff_ne.mpr c18
   have c18b1 : (t278 != 1) = true := bne_iff_ne.mpr c18
   simp only [Option.some.injEq, Prod.mk.injEq] at H
   obtain ⟨rfl, rfl, rfl⟩ := H
   go_enter Tryd.func40, Tryd.ntmps40
   go_wp2_with (first | ((with_reducible refine gate_callee (f := 33) rfl ?_); refine goesL_ (some 12) rfl rfl Tryd.func33 (by kernel_rfl) rfl #[.pointer (some ⟨g, 0, none⟩), .int .i64 (wrap64 ((a1.size : Int) + 1))] rfl mp_ ?_; (with_reducible refine (spec_l1Below.calls g s0_0 s0_1 s0_2 (wrap64 ((a1.size : Int) + 1)) t275 t276 t277 w0 _ ?side1 ?side2 A4.out).mono ?_); (case side1 => exact tI); (case side2 => exact tB); rintro e w23 ⟨rfl, hi, hb, hk⟩; refine ⟨_, rfl, ?_⟩; replace HK := Aside0.mk (KeepBut.trans tK hk (.inl rfl)); replace HB := Aside0.mk (hb); replace HI0 := Aside0.mk (hi)) | ((with_reducible refine gate_callee (f := 33) rfl ?_); refine goesL_ (some 14) rfl rfl Tryd.func33 (by kernel_rfl) rfl #[.pointer (some ⟨g, 0, none⟩), .int .i64 6] rfl mp_ ?_; (with_reducible refine (spec_l1Below.calls g s0_0 t276 t277 6 t278 t279 t280 w0 _ ?side1 ?side2 A5.out).mono ?_); (case side1 => exact tI); (case side2 => exact tB); rintro e w24 ⟨rfl, hi, hb, hk⟩; refine ⟨_, rfl, ?_⟩; replace HK := Aside0.mk (KeepBut.trans tK hk (.inl rfl)); replace HB := Aside0.mk (hb); replace HI0 := Aside0.mk (hi)))
   go_ret
   exact ⟨rE, tI, tB, tK⟩

/-! ### spec_DrawParseSlope: function 10 -/
def spec_DrawParseSlope.f (k : Nat) (l0 : List Int) : Option (ByteArray) := (spec_l1New.f k l0).bind fun bt284 => ((spec_l12Draw.f k bt284.1 bt284.2.1 bt284.2.2).bind fun bt288 => ((spec_SlopeText.f k bt288.1 bt288.2.1).bind fun t292 => ((spec_l1Turned.f bt284.1 bt288.2.2.1 bt288.2.2.2 t292 (([(⟨#[47]⟩ : ByteArray), (⟨#[45]⟩ : ByteArray), (⟨#[49]⟩ : ByteArray), (⟨#[48]⟩ : ByteArray), (⟨#[50]⟩ : ByteArray)] : List ByteArray))).bind fun bt296 => (some bt296.1))))
set_option maxHeartbeats 8000000 in
set_option maxRecDepth 100000 in
theorem spec_DrawParseSlope.calls (k : Nat) (A0 : Option Addr) (c0 : Nat) (l0 : List Int) (r : ByteArray) (w : World) (hr0 : Kd.C (Kd.int .u8) w A0 l0.length l0) (hc0 : l0.length ≤ c0) (h : spec_DrawParseSlope.f k l0 = some r) :
  Calls Tryd.prog 10 #[.slice A0 l0.length c0] w fun e w' => e = .returned (.string r) ∧ Below w.heap.size w w' := by
 have HR0 := Aside0.mk hr0
 have HC0 := Aside0.mk hc0
 clear hr0 hc0
 have HB := Aside0.mk (Below.refl w.heap.size w)
 have H : ((spec_l1New.f k l0).bind fun bt284 => ((spec_l12Draw.f k bt284.1 bt284.2.1 bt284.2.2).bind fun bt288 => ((spec_SlopeText.f k bt288.1 bt288.2.1).bind fun t292 => ((spec_l1Turned.f bt284.1 bt288.2.2.1 bt288.2.2.2 t292 (([(⟨#[47]⟩ : ByteArray), (⟨#[45]⟩ : ByteArray), (⟨#[49]⟩ : ByteArray), (⟨#[48]⟩ : ByteArray), (⟨#[50]⟩ : ByteArray)] : List ByteArray))).bind fun bt296 => (some bt296.1))))) = some r := h
 clear h
 obtain ⟨⟨t284, t285, t286⟩, A2, H⟩ := bs H
 try dsimp only at H
 obtain ⟨⟨t288, t289, t290, t291⟩, A3, H⟩ := bs H
 try dsimp only at H
 obtain ⟨t292, A4, H⟩ := bs H
 generalize hy293 : (([(⟨#[47]⟩ : ByteArray), (⟨#[45]⟩ : ByteArray), (⟨#[49]⟩ : ByteArray), (⟨#[48]⟩ : ByteArray), (⟨#[50]⟩ : ByteArray)] : List ByteArray) : List ByteArray) = y293 at H
 have Ny293 := Aside0.mk hy293.symm; clear hy293
 obtain ⟨⟨t296, t297, t298⟩, A5, H⟩ := bs H
 try dsimp only at H
 obtain rfl := Option.some.inj H
 go_enter Tryd.func10, Tryd.ntmps10
 go_wp2_with (first | ((with_reducible refine gate_callee (f := 32) rfl ?_); refine goesL_ (some 5) rfl rfl Tryd.func32 (by kernel_rfl) rfl #[.slice A0 l0.length c0] rfl mp_ ?_; (with_reducible refine (spec_l1New.calls k _ _ l0 t284 t285 t286 w _ ?side1 ?side2 ?side3 A2.out).mono ?_); (case side1 => exact tb); (case side2 => exact HR0.out); (case side3 => exact HC0.out); rintro e w6 ⟨g287, rfl, hi, hb, hb2⟩; refine ⟨_, rfl, ?_⟩; replace HB := Aside0.mk (hb); have HI287 := Aside0.mk (hi)) | ((with_reducible refine gate_callee (f := 41) rfl ?_); refine goesL_ (some 8) rfl rfl Tryd.func41 (by kernel_rfl) rfl #[.pointer (some ⟨g287, 0, none⟩)] rfl mp_ ?_; (with_reducible refine (spec_l12Draw.calls k g287 t284 t285 t286 t288 t289 t290 t291 w _ ?side1 ?side2 A3.out).mono ?_); (case side1 => repeat (first | (with_reducible first | exact HI287.out | apply IsS66.alloc | apply IsS66.drewN | apply IsS66.drew | apply IsS66.set_1 | apply IsS66.set_2) | exact HI287.out)); (case side2 => repeat (first | (with_reducible first | exact HB.out | apply below_alloc | apply pw_below_drewN | apply below_drew1 | refine below_set ?_ (IsS66.ge HI287.out)) | exact HB.out)); rintro e w7 ⟨rfl, hi, hb, hk⟩; refine ⟨_, rfl, ?_⟩; replace HB := Aside0.mk (hb); replace HI287 := Aside0.mk (hi)) | ((with_reducible refine gate_callee (f := 26) rfl ?_); refine goesL_ (some 9) rfl rfl Tryd.func26 (by kernel_rfl) rfl #[.agg #[.int .i64 t288, .int .i64 t289]] rfl mp_ ?_; (with_reducible refine (spec_SlopeText.calls k t288 t289 t292 _ A4.out).mono ?_); rintro e w8 ⟨rfl, hb⟩; refine ⟨_, rfl, ?_⟩; replace HB := Aside0.mk (below_step (by repeat (first | (with_reducible first | exact HB.out | apply below_alloc | apply pw_below_drewN | apply below_drew1 | refine below_set ?_ (IsS66.ge HI287.out)) | exact HB.out)) hb); replace HI287 := Aside0.mk (IsS66.below (by repeat (first | (with_reducible first | exact HI287.out | apply IsS66.alloc | apply IsS66.drewN | apply IsS66.drew | apply IsS66.set_1 | apply IsS66.set_2) | exact HI287.out)) hb)) | ((with_reducible refine gate_dst (N := 10) rfl ?_); refine Kd.R_lit Kd.string _ 9 ?hg (N := 10) ?hd (xs := ([(⟨#[47]⟩ : ByteArray), (⟨#[45]⟩ : ByteArray), (⟨#[49]⟩ : ByteArray), (⟨#[48]⟩ : ByteArray), (⟨#[50]⟩ : ByteArray)] : List ByteArray)) (inner := [.string (⟨#[47]⟩ : ByteArray), .string (⟨#[45]⟩ : ByteArray), .string (⟨#[49]⟩ : ByteArray), .string (⟨#[48]⟩ : ByteArray), .string (⟨#[50]⟩ : ByteArray)]) (ok := fun _ => True) (okp := fun _ => True) ?hr ?hp (fun _ hk => hk) trivial (Below.refl _ _) (Nat.le_refl _) (by simp) ?_; (case hd => rfl); (case hg => rfl); (case hr => exact gS); (case hp => exact (Reps.one (show Kd.M Kd.string _ _ _ (⟨#[47]⟩ : ByteArray) [.string (⟨#[47]⟩ : ByteArray)] from rfl) (Reps.one (show Kd.M Kd.string _ _ _ (⟨#[45]⟩ : ByteArray) [.string (⟨#[45]⟩ : ByteArray)] from rfl) (Reps.one (show Kd.M Kd.string _ _ _ (⟨#[49]⟩ : ByteArray) [.string (⟨#[49]⟩ : ByteArray)] from rfl) (Reps.one (show Kd.M Kd.string _ _ _ (⟨#[48]⟩ : ByteArray) [.string (⟨#[48]⟩ : ByteArray)] from rfl) (Reps.one (show Kd.M Kd.string _ _ _ (⟨#[50]⟩ : ByteArray) [.string (⟨#[50]⟩ : ByteArray)] from rfl) (Reps.none _ _))))))); intro v294 w9 ho10 hb hg_ hnew_; clear hg_ hnew_; (first | rw [← Ny293.out] at ho10 | (simp only [Int.reduceToNat] at ho10; rw [← Ny293.out] at ho10)); have HO295 := Aside0.mk (Kd.R_lower ho10 (below_size (by repeat (first | (with_reducible first | exact HB.out | apply below_alloc | apply pw_below_drewN | apply below_drew1 | refine below_set ?_ (IsS66.ge HI287.out)) | exact HB.out)))); replace HB := Aside0.mk (below_step (by repeat (first | (with_reducible first | exact HB.out | apply below_alloc | apply pw_below_drewN | apply below_drew1 | refine below_set ?_ (IsS66.ge HI287.out)) | exact HB.out)) hb); replace HI287 := Aside0.mk (IsS66.below (by repeat (first | (with_reducible first | exact HI287.out | apply IsS66.alloc | apply IsS66.drewN | apply IsS66.drew | apply IsS66.set_1 | apply IsS66.set_2) | exact HI287.out)) hb); clear hb ho10; obtain ⟨Ao11, co11, eo11⟩ := Kd.R_slice HO295.out; subst eo11) | ((with_reducible refine gate_callee (f := 40) rfl ?_); refine goesL_ (some 11) rfl rfl Tryd.func40 (by kernel_rfl) rfl #[.pointer (some ⟨g287, 0, none⟩), .string t292, .slice Ao11 y293.length co11] rfl mp_ ?_; (with_reducible refine (spec_l1Turned.calls g287 t284 t290 t291 t292 _ _ y293 t296 t297 t298 w _ ?side1 ?side2 ?side3 ?side4 ?side5 A5.out).mono ?_); (case side1 => repeat (first | (with_reducible first | exact HI287.out | apply IsS66.alloc | apply IsS66.drewN | apply IsS66.drew | apply IsS66.set_1 | apply IsS66.set_2) | exact HI287.out)); (case side2 => repeat (first | (with_reducible first | exact HB.out | apply below_alloc | apply pw_below_drewN | apply below_drew1 | refine below_set ?_ (IsS66.ge HI287.out)) | exact HB.out)); (case side3 => exact C_l ((Kd.R_reads' HO295.out).2.2)); (case side4 => exact (Kd.R_reads' HO295.out).2.1); (case side5 => exact far_slice (IsS66.own_ne HI287.out HO295.out (by decide))); rintro e w12 ⟨rfl, hi, hb, hk⟩; refine ⟨_, rfl, ?_⟩; replace HO295 := Aside0.mk (Kd.R_mono (Kd.R_keep (IsS66.apart (show IsS66 w _ g287 t284 t290 t291 from by repeat (first | (with_reducible first | exact HI287.out | apply IsS66.alloc | apply IsS66.drewN | apply IsS66.drew | apply IsS66.set_1 | apply IsS66.set_2) | exact HI287.out)) (R_l HO295.out) (by decide)) hk (fun _ h => h.2)) (fun _ h => h.1)); replace HB := Aside0.mk (hb); replace HI287 := Aside0.mk (hi)))
 go_ret
 exact ⟨rE, by repeat (first | (with_reducible first | exact HB.out | apply below_alloc | apply pw_below_drewN | apply below_drew1 | refine below_set ?_ (IsS66.ge HI287.out)) | exact HB.out)⟩

/-! ### impl_SplitByte: function 42 -/
def impl_SplitByte.l0 : Nat → ByteArray → Int → List ByteArray → Int → Int → Int → Option (List ByteArray)
 | 0, _, _, _, _, _, _ => none
 | k + 1, x0, x1, x5, x6, x10, x11 => if x11 < x10 then (if 0 ≤ x11 then (if x11 < (x0.size : Int) then (if (bt x0 x11) = x1 then (if 0 ≤ x6 then (if x6 ≤ x11 then (if x11 ≤ (x0.size : Int) then (if x5.length < 8796093022208 then (impl_SplitByte.l0 k x0 x1 (x5 ++ [x0.extract (x6 : Int).toNat (x11 : Int).toNat]) (wrap64 (x11 + 1)) x10 (wrap64 (x11 + 1))) else (none)) else (none)) else (none)) else (none)) else (impl_SplitByte.l0 k x0 x1 x5 x6 x10 (wrap64 (x11 + 1)))) else (none)) else (none)) else (if 0 ≤ x6 then (if x6 ≤ (x0.size : Int) then (if x5.length < 8796093022208 then (some (x5 ++ [x0.extract (x6 : Int).toNat x0.size])) else (none)) else (none)) else (none))
def impl_SplitByte.f (k : Nat) (a0 : ByteArray) (a1 : Int) : Option (List ByteArray) := impl_SplitByte.l0 k a0 a1 (([] : List ByteArray)) 0 (a0.size : Int) 0
set_option maxHeartbeats 8000000 in
set_option maxRecDepth 100000 in
theorem impl_SplitByte.calls (k : Nat) (a0 : ByteArray) (a1 : Int) (r : List ByteArray) (w : World) (h : impl_SplitByte.f k a0 a1 = some r) :
  Calls Tryd.prog 42 #[.string a0, .int .u8 a1] w fun e w' => ∃ v0_ : Value, e = .returned (v0_) ∧ Kd.R Kd.string 9 w' w.heap.size (fun _ => True) v0_ r ∧ Below w.heap.size w w' := by
 have HB := Aside0.mk (Below.refl w.heap.size w)
 have H : (impl_SplitByte.l0 k a0 a1 (([] : List ByteArray)) 0 (a0.size : Int) 0) = some r := h
 clear h
 generalize hy299 : (([] : List ByteArray) : List ByteArray) = y299 at H
 have Ny299 := Aside0.mk hy299.symm; clear hy299
 have H' := Aside0.mk H
 clear H
 go_enter Tryd.func42, Tryd.ntmps42
 go_wp2_with (first | ((with_reducible refine gate_dst (N := 8) rfl ?_); refine Kd.R_lit Kd.string _ 9 ?hg (N := 8) ?hd (xs := ([] : List ByteArray)) (inner := []) (ok := fun _ => True) (okp := fun _ => True) ?hr ?hp (fun _ hk => hk) trivial (Below.refl _ _) (Nat.le_refl _) (by simp) ?_; (case hd => rfl); (case hg => rfl); (case hr => exact gS); (case hp => exact (Reps.none _ _)); intro v300 w3 ho4 hb hg_ hnew_; clear hg_ hnew_; (first | rw [← Ny299.out] at ho4 | (simp only [Int.reduceToNat] at ho4; rw [← Ny299.out] at ho4)); have HO301 := Aside0.mk (Kd.R_lower ho4 (below_size tb)); replace HB := Aside0.mk (below_step tb hb); clear hb ho4))
 go_loopg [5, 6, 11] k (fun kq v5 v6 v11 w' => ∃ (x5_1 : List ByteArray) (x6_1 : Int) (x11_1 : Int), v6 = .int .i64 x6_1 ∧ v11 = .int .i64 x11_1 ∧ Aside0 (impl_SplitByte.l0 kq a0 a1 x5_1 x6_1 (a0.size : Int) x11_1 = some r) ∧ Aside0 (kq ≤ k) ∧ Aside0 (Kd.R Kd.string 9 w' w.heap.size (fun _ => True) v5 x5_1) ∧ Aside0 (Below w.heap.size w w'))
 case atStart => exact ⟨(y299), (0), (0), rS, rS, H', ⟨Nat.le_refl _⟩, ⟨R_l HO301.out⟩, ⟨tb⟩⟩
 case round =>
  clear H'
  try clear p2
  try clear c4
  obtain ⟨x5_1, x6_1, x11_1, rfl, rfl, HA, HK1, HO_5, HB⟩ := hrel
  cases gk with
  | zero => exact absurd HA.out (by simp [impl_SplitByte.l0])
  | succ k1 =>
   have H := HA.out
   clear HA
   simp only [impl_SplitByte.l0] at H
   obtain ⟨c5b0, H⟩ | ⟨c5b0, H⟩ := gi H
   ·obtain ⟨c6b0, H⟩ := gdt H
    obtain ⟨c7b0, H⟩ := gdt H
    by_cases c9 : (bt a0 x11_1) = a1
    ·rw [if_pos c9] at H
     have c9b0 : ((bt a0 x11_1) == a1) = true := beq_iff_eq.mpr c9
     have c9b1 : ((bt a0 x11_1) != a1) = false := bne_eq_false_iff_eq.mpr c9
     clear c9
     obtain ⟨c10, H⟩ := gd H
     have c10b0 := eq_true c10
     have c10b1 : decide (0 ≤ x6_1) = true := decide_eq_true c10
     clear c10
     obtain ⟨c11, H⟩ := gd H
     have c11b0 := eq_true c11
     have c11b1 : decide (x6_1 ≤ x11_1) = true := decide_eq_true c11
     clear c11
     obtain ⟨c12, H⟩ := gd H
     have c12b0 := eq_true c12
     have c12b1 : decide (x11_1 ≤ (a0.size : Int)) = true := decide_eq_true c12
     clear c12
     obtain ⟨LMc13, H⟩ := gda H
     generalize hy302 : (x5_1 ++ [a0.extract (x6_1 : Int).toNat (x11_1 : Int).toNat] : List ByteArray) = y302 at H
     have Ny302 := Aside0.mk hy302.symm; clear hy302
     have H' := Aside0.mk H
     clear H
     have p8 : 0 ≤ (x11_1 : Int) := dT
     have q8 : x11_1 < (a0.size : Int) := dT
     have hx8 := bt_at a0 x11_1
     replace p8 := eq_true p8
     replace q8 := eq_true q8
     go_wp2_with (first | ((with_reducible refine gate_builtin (b := .append) (xs := #[.tmp 19, .tmp 24]) rfl ?_); at_builtin; refine Kd.R_append Kd.string (w0 := w) w.heap.size rfl (.tmp 19) (.tmp 24) 58 9 (.string ⟨#[]⟩) 16 rfl Tryd.underlying58 info9 rfl (by decide) (by omega) u5 x5_1 (a0.extract (x6_1 : Int).toNat (x11_1 : Int).toNat) [.string (a0.extract (x6_1 : Int).toNat (x11_1 : Int).toNat)] (fun _ => True) (fun _ => False) rfl rfl ?aP (fun _ hk => hk.elim) ?aF ?aO ?aB ?aS ?aL ?_; (case aP => exact rfl); (case aB => exact tb); (case aF => exact (fun _ _ => trivial)); (case aO => exact (R_l HO_5.out)); (case aS => exact (below_size tb)); (case aL => have := LMc13.out; omega); intro v303 w14 ho hb hg hat; rw [← Ny302.out] at ho; replace HB := Aside0.mk (hb); have HO304 := Aside0.mk (ho); clear HO_5; clear ho hb hg hat))
     go_roundg k1
     case measure => exact oK
     case rel => exact ⟨(y302), (wrap64 (x11_1 + 1)), (wrap64 (x11_1 + 1)), rS, rS, H', ⟨oK⟩, ⟨R_l HO304.out⟩, ⟨tb⟩⟩
    ·rw [if_neg c9] at H
     have c9b0 : ((bt a0 x11_1) == a1) = false := beq_eq_false_iff_ne.mpr c9
     have c9b1 : ((bt a0 x11_1) != a1) = true := bne_iff_ne.mpr c9
     have H' := Aside0.mk H
     clear H
     have p8 : 0 ≤ (x11_1 : Int) := dT
     have q8 : x11_1 < (a0.size : Int) := dT
     have hx8 := bt_at a0 x11_1
     replace p8 := eq_true p8
     replace q8 := eq_true q8
     go_wp2
     go_roundg k1
     case measure => exact oK
     case rel => exact ⟨(x5_1), (x6_1), (wrap64 (x11_1 + 1)), rS, rS, H', ⟨oK⟩, ⟨R_l HO_5.out⟩, ⟨tb⟩⟩
   ·by_cases c15 : 0 ≤ x6_1
    ·rw [if_pos c15] at H
     have c15b0 := eq_true c15
     have c15b1 : decide (0 ≤ x6_1) = true := decide_eq_true c15
     clear c15
     obtain ⟨c16, H⟩ := gd H
     have c16b0 := eq_true c16
     have c16b1 : decide (x6_1 ≤ (a0.size : Int)) = true := decide_eq_true c16
     clear c16
     obtain ⟨LMc17, H⟩ := gda H
     generalize hy305 : (x5_1 ++ [a0.extract (x6_1 : Int).toNat a0.size] : List ByteArray) = y305 at H
     have Ny305 := Aside0.mk hy305.symm; clear hy305
     obtain rfl := Option.some.inj H
     go_wp2_with (first | ((with_reducible refine gate_builtin (b := .append) (xs := #[.tmp 29, .tmp 33]) rfl ?_); at_builtin; refine Kd.R_append Kd.string (w0 := w) w.heap.size rfl (.tmp 29) (.tmp 33) 58 9 (.string ⟨#[]⟩) 16 rfl Tryd.underlying58 info9 rfl (by decide) (by omega) u5 x5_1 (a0.extract (x6_1 : Int).toNat a0.size) [.string (a0.extract (x6_1 : Int).toNat a0.size)] (fun _ => True) (fun _ => False) rfl rfl ?aP (fun _ hk => hk.elim) ?aF ?aO ?aB ?aS ?aL ?_; (case aP => exact rfl); (case aB => exact tb); (case aF => exact (fun _ _ => trivial)); (case aO => exact (R_l HO_5.out)); (case aS => exact (below_size tb)); (case aL => have := LMc17.out; omega); intro v306 w18 ho hb hg hat; rw [← Ny305.out] at ho; replace HB := Aside0.mk (hb); have HO307 := Aside0.mk (ho); clear HO_5; clear ho hb hg hat))
     go_ret
     exact ⟨_, rE, R_l HO307.out, tb⟩
    ·rw [if_neg c15] at H
     exact absurd H (by simp)

end Go.Proofs.YtomjfejacjphnaaDoor.PFnSlopes
