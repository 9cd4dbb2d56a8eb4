import Derived.Test.YtbchbmfmplfoiaaWSpanB
import Derived.Test.YtbchbmfmplfoiaaPFnGroupsx0
import Derived.Test.YtbchbmfmplfoiaaPFnGroupsx6
import Derived.Test.YtbchbmfmplfoiaaPFnGroupsx7
namespace Go.Proofs.Ytbchbmfmplfoiaa.PFnGroups
open Go.RowKit Go.Proofs.YtbchbmfmplfoiaaW.PrintWords Go.Proofs.YtbchbmfmplfoiaaW.PrintLast Go.Proofs.YtbchbmfmplfoiaaW.PrintMore
attribute [local go_sem] max2_int min2_int max_two min_two max_three min_three max_four min_four   -- for this text's walks alone
set_option linter.unusedVariables false
set_option linter.unusedSimpArgs false

/-! ### spec_l8Dehn: function 47 -/
def spec_l8Dehn.l0 : Nat → Int → List Int → Option (List Int)
 | 0, _, _ => none
 | k + 1, x0, x5 => (spec_l8Step.f k x0 x5).bind fun bt615 => (if bt615.2 = true then (spec_l8Dehn.l0 k x0 bt615.1) else (some x5))
def spec_l8Dehn.f (k : Nat) (a0 : Int) (l1 : List Int) : Option (List Int) := (spec_l2Reduce.f k l1).bind fun t612 => (spec_l8Dehn.l0 k a0 t612)
set_option maxHeartbeats 8000000 in
set_option maxRecDepth 100000 in
theorem spec_l8Dehn.calls (k : Nat) (a0 : Int) (A1 : Option Addr) (c1 : Nat) (l1 : List Int) (r : List Int) (w : World) (hr1 : Kd.C (Kd.int .i64) w A1 l1.length l1) (hc1 : l1.length ≤ c1) (h : spec_l8Dehn.f k a0 l1 = some r) :
  Calls Try.prog 47 #[.int .i64 a0, .slice A1 l1.length c1] w fun e w' => ∃ v0_ : Value, e = .returned (v0_) ∧ Kd.R (Kd.int .i64) 3 w' w.heap.size (fun _ => True) v0_ r ∧ Below w.heap.size w w' := by
 have HR1 := Aside0.mk hr1
 have HC1 := Aside0.mk hc1
 clear hr1 hc1
 have HB := Aside0.mk (Below.refl w.heap.size w)
 have H : ((spec_l2Reduce.f k l1).bind fun t612 => (spec_l8Dehn.l0 k a0 t612)) = some r := h
 clear h
 obtain ⟨t612, A3, H⟩ := bs H
 have H' := Aside0.mk H
 clear H
 go_enter Try.func47, Try.ntmps47
 go_wp2_with (first | (refine gL 40 (some 9) Try.func40 #[.slice A1 l1.length c1] ?_; (with_reducible refine (spec_l2Reduce.calls k _ _ l1 t612 _ ?side1 ?side2 A3.out).mono ?_); (case side1 => exact C_l HR1.out); (case side2 => exact HC1.out); rintro e w4 ⟨v613, rfl, ho0, hb⟩; refine ⟨_, rfl, ?_⟩; have HO614 := Aside0.mk (Kd.R_lower ho0 (below_size tb)); replace HB := Aside0.mk (below_step tb hb)))
 go_loopg [5] k (fun kq v5 w' => ∃ (x5_1 : List Int), Aside0 (spec_l8Dehn.l0 kq a0 x5_1 = some r) ∧ Aside0 (kq ≤ k) ∧ Aside0 (Kd.R (Kd.int .i64) 3 w' w.heap.size (fun _ => True) v5 x5_1) ∧ Aside0 (Below w.heap.size w w'))
 case atStart => exact ⟨(t612), H', ⟨Nat.le_refl _⟩, ⟨R_l HO614.out⟩, ⟨tb⟩⟩
 case round =>
  clear H'
  try clear c1
  try clear p2
  try clear c4
  obtain ⟨x5_1, HA, HK1, HO_5, HB⟩ := hrel
  cases gk with
  | zero => exact absurd HA.out (by simp [spec_l8Dehn.l0])
  | succ k1 =>
   have H := HA.out
   clear HA
   simp only [spec_l8Dehn.l0] at H
   obtain ⟨⟨t615, t616⟩, A5, H⟩ := bs H
   try dsimp only at H
   by_cases c6 : t616 = true
   ·subst c6
    rw [if_pos rfl] at H
    have H' := Aside0.mk H
    clear H
    obtain ⟨Ao7, co7, eo7⟩ := Kd.R_slice HO_5.out
    subst eo7
    go_wp2_with (first | (refine gL 39 (some 13) Try.func39 #[.int .i64 a0, .slice Ao7 x5_1.length co7] ?_; (with_reducible refine (spec_l8Step.calls k1 a0 _ _ x5_1 t615 true _ ?side1 ?side2 A5.out).mono ?_); (case side1 => exact C_l ((Kd.R_reads' HO_5.out).2.2)); (case side2 => exact (Kd.R_reads' HO_5.out).2.1); rintro e w8 ⟨v617, rfl, ho0, hb⟩; refine ⟨_, rfl, ?_⟩; have HO618 := Aside0.mk (Kd.R_lower (Kd.R_new' ho0 (Kd.R_lt (R_l HO_5.out))) (below_size tb)); replace HO_5 := Aside0.mk (Kd.R_elder' (R_l HO_5.out) (Kd.R_base ho0) hb); replace HB := Aside0.mk (below_step tb hb)))
    go_roundg k1
    case measure => exact oK
    case rel => exact ⟨(t615), H', ⟨oK⟩, ⟨R_l (Kd.R_mono HO618.out (fun _ hk => trivial))⟩, ⟨tb⟩⟩
   ·replace c6 := Bool.eq_false_iff.mpr c6
    subst c6
    rw [if_neg (show ¬ (false = true) by decide)] at H
    obtain rfl := Option.some.inj H
    obtain ⟨Ao9, co9, eo9⟩ := Kd.R_slice HO_5.out
    subst eo9
    go_wp2_with (first | (refine gL 39 (some 13) Try.func39 #[.int .i64 a0, .slice Ao9 x5_1.length co9] ?_; (with_reducible refine (spec_l8Step.calls k1 a0 _ _ x5_1 t615 false _ ?side1 ?side2 A5.out).mono ?_); (case side1 => exact C_l ((Kd.R_reads' HO_5.out).2.2)); (case side2 => exact (Kd.R_reads' HO_5.out).2.1); rintro e w10 ⟨v617, rfl, ho0, hb⟩; refine ⟨_, rfl, ?_⟩; have HO618 := Aside0.mk (Kd.R_lower (Kd.R_new' ho0 (Kd.R_lt (R_l HO_5.out))) (below_size tb)); replace HO_5 := Aside0.mk (Kd.R_elder' (R_l HO_5.out) (Kd.R_base ho0) hb); replace HB := Aside0.mk (below_step tb hb)))
    go_ret
    exact ⟨_, rE, R_l (Kd.R_mono HO_5.out (fun _ hk => trivial)), tb⟩

/-! ### spec_l1Bit: function 61 -/
def spec_l1Bit.f (a0 : Bool) : Option (Int) := if a0 = true then (some 1) else (some 0)
set_option maxHeartbeats 8000000 in
set_option maxRecDepth 100000 in
theorem spec_l1Bit.calls (a0 : Bool) (r : Int) (w : World) (h : spec_l1Bit.f a0 = some r) :
  Calls Try.prog 61 #[.bool a0] w fun e w' => e = .returned (.int .i64 r) ∧ Drawn0 w w' := by
 have H : (if a0 = true then (some 1) else (some 0)) = some r := h
 clear h
 by_cases c2 : a0 = true
 ·subst c2
  rw [if_pos rfl] at H
  obtain rfl := Option.some.inj H
  go_enter Try.func61, Try.ntmps61
  go_wp2
  go_ret
  exact ⟨rS, tD⟩
 ·replace c2 := Bool.eq_false_iff.mpr c2
  subst c2
  rw [if_neg (show ¬ (false = true) by decide)] at H
  obtain rfl := Option.some.inj H
  go_enter Try.func61, Try.ntmps61
  go_wp2
  go_ret
  exact ⟨rS, tD⟩

/-! ### spec_l8Trivial: function 45 -/
def spec_l8Trivial.l0 : Nat → List Int → List Int → Int → Option (Bool)
 | 0, _, _, _ => none
 | k + 1, x1, x5, x6 => if x6 < (x1.length : Int) then (if 0 ≤ x6 then ((spec_l3Abs.f (rd x1 x6)).bind fun t628 => ((spec_l3Abs.f (rd x1 x6)).bind fun t630 => (if 0 ≤ (wrap64 (t630 - 1)) then (if (wrap64 (t630 - 1)) < (x5.length : Int) then ((spec_l1Bit.f (decide ((rd x1 x6) > 0))).bind fun t633 => ((spec_l1Bit.f (decide ((rd x1 x6) < 0))).bind fun t635 => (if 0 ≤ (wrap64 (t628 - 1)) then (if (wrap64 (t628 - 1)) < (x5.length : Int) then (spec_l8Trivial.l0 k x1 (x5.set ((wrap64 (t628 - 1)) : Int).toNat (wrap64 ((wrap64 ((rd x5 (wrap64 (t630 - 1))) + t633)) - t635))) (wrap64 (x6 + 1))) else (none)) else (none)))) else (none)) else (none)))) else (none)) else (if 0 < (x5.length : Int) then (if (rd x5 0) = 0 then (if 1 < (x5.length : Int) then (some ((rd x5 1) == 0)) else (none)) else (some false)) else (none))
def spec_l8Trivial.f (k : Nat) (a0 : Int) (l1 : List Int) : Option (Bool) := if a0 = 2 then ((spec_l8Dehn.f k a0 l1).bind fun t619 => (some ((t619.length : Int) == 0))) else (if 2 ≤ 35184372088832 then (spec_l8Trivial.l0 k l1 (List.replicate 2 0) 0) else (none))
def spec_l8Trivial.T7 : Bool × List (List Nat × List Nat) := (true, [([], []), ([], []), ([], []), ([1, 2], [1, 2]), ([3], [3]), ([4], [4]), ([5], [5]), ([], []), ([], []), ([], []), ([8, 9], [8, 9]), ([10], [10]), ([11, 5], [11]), ([12], [12]), ([7, 13], [7, 13]), ([14], [14]), ([], []), ([], []), ([16, 17], [16, 17]), ([18], [18]), ([19], [19]), ([20, 12], [20]), ([15, 21], [15, 21]), ([], []), ([], []), ([23, 24], [23, 24]), ([25], [25]), ([26], [26]), ([27, 21], [27]), ([22, 28], [22, 28]), ([0, 6, 0, 1, 2, 3, 4, 5, 6, 7, 8, 9, 10, 11, 12, 13, 14, 15, 16, 17, 18, 19, 20, 21, 22, 23, 24, 25, 26, 27, 28, 29], [0, 6]), ([30, 29, 28, 0, 1, 2, 3, 4, 5, 6, 7, 8, 9, 10, 11, 12, 13, 14, 15, 16, 17, 18, 19, 20, 21, 22, 23, 24, 25, 26, 27, 28, 29], [29, 30])])
def spec_l8Trivial.B7 : List Nat := [0, 0, 0, 6, 14, 30, 62, 0, 0, 0, 768, 1792, 3902, 7998, 16318, 32702, 0, 0, 196608, 458752, 983040, 2039614, 4194238, 0, 0, 25165824, 58720256, 125829120, 264183614, 536870846, 1073741823, 2147483647]
theorem spec_l8Trivial.tab7 : rtab .any (opsOf Try.f45 7) = spec_l8Trivial.T7 := by kernel_rfl
theorem spec_l8Trivial.bits7 : waitsOk spec_l8Trivial.T7.2 spec_l8Trivial.B7 = true := by kernel_rfl
set_option maxHeartbeats 8000000 in
set_option maxRecDepth 100000 in
theorem spec_l8Trivial.calls (k : Nat) (a0 : Int) (A1 : Option Addr) (c1 : Nat) (l1 : List Int) (r : Bool) (w : World) (hr1 : Kd.C (Kd.int .i64) w A1 l1.length l1) (hc1 : l1.length ≤ c1) (h : spec_l8Trivial.f k a0 l1 = some r) :
  Calls Try.prog 45 #[.int .i64 a0, .slice A1 l1.length c1] w fun e w' => e = .returned (.bool r) ∧ Below w.heap.size w w' := by
 have HR1 := Aside0.mk hr1
 have HC1 := Aside0.mk hc1
 clear hr1 hc1
 have HB := Aside0.mk (Below.refl w.heap.size w)
 have H : (if a0 = 2 then ((spec_l8Dehn.f k a0 l1).bind fun t619 => (some ((t619.length : Int) == 0))) else (if 2 ≤ 35184372088832 then (spec_l8Trivial.l0 k l1 (List.replicate 2 0) 0) else (none))) = some r := h
 clear h
 by_cases c3 : a0 = 2
 ·rw [if_pos c3] at H
  have c3b0 : (a0 == 2) = true := beq_iff_eq.mpr c3
  have c3b1 : (a0 != 2) = false := bne_eq_false_iff_eq.mpr c3
  clear c3
  obtain ⟨t619, A4, H⟩ := bs H
  obtain rfl := Option.some.inj H
  go_enter Try.func45, Try.ntmps45
  go_wp2_with (first | (refine gL 47 (some 11) Try.func47 #[.int .i64 a0, .slice A1 l1.length c1] ?_; (with_reducible refine (spec_l8Dehn.calls k a0 _ _ l1 t619 _ ?side1 ?side2 A4.out).mono ?_); (case side1 => exact C_l HR1.out); (case side2 => exact HC1.out); rintro e w5 ⟨v620, rfl, ho0, hb⟩; refine ⟨_, rfl, ?_⟩; have HO621 := Aside0.mk (Kd.R_lower ho0 (below_size tb)); replace HB := Aside0.mk (below_step tb hb); obtain ⟨Ao6, co6, eo6⟩ := Kd.R_slice HO621.out; subst eo6))
  go_ret
  exact ⟨rE, tb⟩
 ·rw [if_neg c3] at H
  have c3b0 : (a0 == 2) = false := beq_eq_false_iff_ne.mpr c3
  have c3b1 : (a0 != 2) = true := bne_iff_ne.mpr c3
  by_cases c7 : 2 ≤ 35184372088832
  ·rw [if_pos c7] at H
   have c7b0 := eq_true c7
   have c7b1 : decide (2 ≤ 35184372088832) = true := decide_eq_true c7
   clear c7
   generalize hy622 : (List.replicate 2 0 : List Int) = y622 at H
   have Ny622 := Aside0.mk hy622.symm; clear hy622
   have H' := Aside0.mk H
   clear H
   go_enter Try.func45, Try.ntmps45
   go_wp2_with (first | ((with_reducible refine gate_dst (N := 14) rfl ?_); refine Kd.R_make (Kd.int .i64) _ 3 rfl (N := 14) rfl 24 _ _ rfl 2 rfl rfl Try.underlying24 (.int .i64 0) 8 info3 rfl (by decide) (by omega) 0 (ok := fun _ => True) (okp := fun _ => True) rfl (fun _ hk => hk) trivial (by omega) (by omega) (Below.refl _ _) (Nat.le_refl _) ?_; intro v623 w8 ho9 hb hg_ hnew_; clear hg_ hnew_; (first | rw [← Ny622.out] at ho9 | (simp only [Int.reduceToNat] at ho9; rw [← Ny622.out] at ho9)); have HO624 := Aside0.mk (Kd.R_lower ho9 (below_size tb)); replace HB := Aside0.mk (below_step tb hb); clear hb ho9))
   go_loopg [6] k (fun kq v6 w' => ∃ (x5_1 : List Int) (x6_1 : Int), v6 = .int .i64 x6_1 ∧ Aside0 (spec_l8Trivial.l0 kq l1 x5_1 x6_1 = some r) ∧ Aside0 (kq ≤ k) ∧ Aside0 (Kd.R (Kd.int .i64) 3 w' w.heap.size (fun _ => True) v623 x5_1) ∧ Aside0 (Below w.heap.size w w'))
   case atStart => exact ⟨(y622), (0), rS, H', ⟨Nat.le_refl _⟩, ⟨R_l HO624.out⟩, ⟨tb⟩⟩
   case round =>
    clear H'
    try clear c1
    try clear p2
    try clear c3
    try clear c3b0
    try clear c3b1
    try clear c4
    try clear c7
    try clear c7b0
    try clear c7b1
    obtain ⟨x5_1, x6_1, rfl, HA, HK1, HO_5, HB⟩ := hrel
    cases gk with
    | zero => exact absurd HA.out (by simp [spec_l8Trivial.l0])
    | succ k1 =>
     have H := HA.out
     clear HA
     simp only [spec_l8Trivial.l0] at H
     obtain ⟨c10b0, H⟩ | ⟨c10b0, H⟩ := gi H
     ·obtain ⟨c11b0, H⟩ := gdt H
      obtain ⟨t628, A12, H⟩ := bs H
      obtain ⟨t630, A13, H⟩ := bs H
      obtain ⟨ji14, hji14⟩ : ∃ j_ : Int, (wrap64 (t630 - 1)) = j_ := ⟨_, rfl⟩
      replace H : (if 0 ≤ (ji14) then (if (ji14) < (x5_1.length : Int) then ((spec_l1Bit.f (decide ((rd l1 x6_1) > 0))).bind fun t633 => ((spec_l1Bit.f (decide ((rd l1 x6_1) < 0))).bind fun t635 => (if 0 ≤ (wrap64 (t628 - 1)) then (if (wrap64 (t628 - 1)) < (x5_1.length : Int) then (spec_l8Trivial.l0 k1 l1 (x5_1.set ((wrap64 (t628 - 1)) : Int).toNat (wrap64 ((wrap64 ((rd x5_1 (ji14)) + t633)) - t635))) (wrap64 (x6_1 + 1))) else (none)) else (none)))) else (none)) else (none)) = some r := by first | (rw [hji14] at H; exact H) | (simp only [hji14] at H ⊢; exact H)
      (try rw [hji14] at A12)
      (try rw [hji14] at A13)
      have hji14w : (IntKind.i64.wrap (t630 - 1)) = ji14 := (i64_w _).trans hji14
      obtain ⟨c15b0, H⟩ := gdt H
      obtain ⟨c16b0, H⟩ := gdt H
      obtain ⟨t633, A17, H⟩ := bs H
      obtain ⟨t635, A18, H⟩ := bs H
      obtain ⟨ji19, hji19⟩ : ∃ j_ : Int, (wrap64 (t628 - 1)) = j_ := ⟨_, rfl⟩
      replace H : (if 0 ≤ (ji19) then (if (ji19) < (x5_1.length : Int) then (spec_l8Trivial.l0 k1 l1 (x5_1.set ((ji19) : Int).toNat (wrap64 ((wrap64 ((rd x5_1 (ji14)) + t633)) - t635))) (wrap64 (x6_1 + 1))) else (none)) else (none)) = some r := by first | (rw [hji19] at H; exact H) | (simp only [hji19] at H ⊢; exact H)
      (try rw [hji19] at A12)
      (try rw [hji19] at A13)
      (try rw [hji19] at A17)
      (try rw [hji19] at A18)
      have hji19w : (IntKind.i64.wrap (t628 - 1)) = ji19 := (i64_w _).trans hji19
      obtain ⟨c20b0, H⟩ := gdt H
      obtain ⟨c21b0, H⟩ := gdt H
      generalize hy636 : (x5_1.set ((ji19) : Int).toNat (wrap64 ((wrap64 ((rd x5_1 (ji14)) + t633)) - t635)) : List Int) = y636 at H
      have Ny636 := Aside0.mk hy636.symm; clear hy636
      have H' := Aside0.mk H
      clear H
      try go_wp2
      replace HO_5 := Aside0.mk (Kd.R_drew HO_5.out); replace HB := Aside0.mk (below_drew1 HB.out)
      have p627 : 0 ≤ (x6_1 : Int) := dT
      have q627 : x6_1 < (l1.length : Int) := dT
      obtain ⟨ad627, e627, hx627_0⟩ := Kd.at_int HR1.out x6_1 p627 q627
      have hw627_0 := hx627_0
      cases e627
      replace hx627_0 := cB HB hx627_0
      replace p627 := eq_true p627
      replace q627 := eq_true q627
      have p629 : 0 ≤ (x6_1 : Int) := dT
      have q629 : x6_1 < (l1.length : Int) := dT
      obtain ⟨ad629, e629, hx629_0⟩ := Kd.at_int HR1.out x6_1 p629 q629
      have hw629_0 := hx629_0
      obtain rfl : ad627 = ad629 := (by injection e629)
      replace hx629_0 := cB HB hx629_0
      replace p629 := eq_true p629
      replace q629 := eq_true q629
      have p632 : 0 ≤ (x6_1 : Int) := dT
      have q632 : x6_1 < (l1.length : Int) := dT
      obtain ⟨ad632, e632, hx632_0⟩ := Kd.at_int HR1.out x6_1 p632 q632
      have hw632_0 := hx632_0
      obtain rfl : ad627 = ad632 := (by injection e632)
      replace hx632_0 := cB HB hx632_0
      replace p632 := eq_true p632
      replace q632 := eq_true q632
      have p634 : 0 ≤ (x6_1 : Int) := dT
      have q634 : x6_1 < (l1.length : Int) := dT
      obtain ⟨ad634, e634, hx634_0⟩ := Kd.at_int HR1.out x6_1 p634 q634
      have hw634_0 := hx634_0
      obtain rfl : ad627 = ad634 := (by injection e634)
      replace hx634_0 := cB HB hx634_0
      replace p634 := eq_true p634
      replace q634 := eq_true q634
      have p631 : 0 ≤ ((ji14) : Int) := dT
      have q631 : (ji14) < (x5_1.length : Int) := dT
      (try (obtain ⟨Aqs_, cqs_, eqs_⟩ := Kd.R_slice HO_5.out; subst eqs_))
      obtain ⟨ad631, e631, hx631_0⟩ := Kd.at_int (Kd.R_reads' HO_5.out).2.2 (ji14) p631 q631
      cases e631
      replace p631 := eq_true p631
      replace q631 := eq_true q631
      refine start_ (n := 32) (S := fun w' => w'.cell? (ad627.add (x6_1).toNat) = some (.int .i64 (rd l1 x6_1)) ∧ w'.cell? (ad627.add (x6_1).toNat) = some (.int .i64 (rd l1 x6_1)) ∧ w'.cell? (ad627.add (x6_1).toNat) = some (.int .i64 (rd l1 x6_1)) ∧ w'.cell? (ad627.add (x6_1).toNat) = some (.int .i64 (rd l1 x6_1)) ∧ w'.cell? (ad631.add ((ji14)).toNat) = some (.int .i64 (rd x5_1 (ji14)))) (ds := [31]) #[false, false, false, false, false, false, false, false, false, false, false, false, false, false, false, false, false, false, false, false, false, false, false, false, false, false, false, false, false, false, false, false] (by kernel_rfl) rfl rfl ⟨((HB.out.cell (World.block_lt_of_cell? w _ hw627_0)).trans hw627_0), ((HB.out.cell (World.block_lt_of_cell? w _ hw629_0)).trans hw629_0), ((HB.out.cell (World.block_lt_of_cell? w _ hw632_0)).trans hw632_0), ((HB.out.cell (World.block_lt_of_cell? w _ hw634_0)).trans hw634_0), hx631_0⟩ (fun hHeld => ?_); refine with_tabW spec_l8Trivial.tab7 spec_l8Trivial.bits7 (fun HT_ HW_ => ?_)
      generalize wr.drew = w23 at HO_5 HB hx627_0 hx629_0 hx631_0 hx632_0 hx634_0 hHeld ⊢
      refine pu_ 0 (some 21) ?_
      refine pu_ 1 (some 22) ?_
      refine pu_ 2 (some 23) ?_
      refine pu_ 3 (some 24) ?_
      refine pu_ 7 (some 28) ?_
      refine pu_ 8 (some 29) ?_
      refine pu_ 9 (some 30) ?_
      refine pu_ 10 (some 31) ?_
      refine pu_ 16 (some 37) ?_
      refine pu_ 17 (some 38) ?_
      refine pu_ 18 (some 39) ?_
      refine pu_ 23 (some 44) ?_
      refine pu_ 24 (some 45) ?_
      refine pu_ 25 (some 46) ?_
      refine take_ (i := 4) (N := some 25) (v := ?_) (a' := ?_) #[true, true, true, true, true, false, false, true, true, true, true, false, false, false, false, false, true, true, true, false, false, false, false, true, true, true, false, false, false, false, false, false] rfl rfl (take_ofW HT_.out HW_.out (by kernel_rfl)) (fun _ _ _ h => h) (Or.inl ⟨by rfl, ?_⟩) hHeld ?_ ?_
      rotate_left
      ·rintro w' ⟨s0, s1, s2, s3, s4⟩
       go_simp
       with_reducible rfl
      rotate_left
      ·simp only [Act.put, List.setIfInBounds_toArray, List.set_cons_zero, List.set_cons_succ, i64_w, i32_w]
       rfl
      refine take_ (i := 11) (N := some 32) (v := ?_) (a' := ?_) #[true, true, true, true, true, false, false, true, true, true, true, true, false, false, false, false, true, true, true, false, false, false, false, true, true, true, false, false, false, false, false, false] rfl rfl (take_ofW HT_.out HW_.out (by kernel_rfl)) (fun _ _ _ h => h) (Or.inl ⟨by rfl, ?_⟩) hHeld ?_ ?_
      rotate_left
      ·rintro w' ⟨s0, s1, s2, s3, s4⟩
       go_simp
       with_reducible rfl
      rotate_left
      ·simp only [Act.put, List.setIfInBounds_toArray, List.set_cons_zero, List.set_cons_succ, i64_w, i32_w]
       rfl
      refine take_ (i := 19) (N := some 40) (v := ?_) (a' := ?_) #[true, true, true, true, true, false, false, true, true, true, true, true, false, false, false, false, true, true, true, true, false, false, false, true, true, true, false, false, false, false, false, false] rfl rfl (take_ofW HT_.out HW_.out (by kernel_rfl)) (fun _ _ _ h => h) (Or.inl ⟨by rfl, ?_⟩) hHeld ?_ ?_
      rotate_left
      ·rintro w' ⟨s0, s1, s2, s3, s4⟩
       go_simp
       with_reducible rfl
      rotate_left
      ·simp only [Act.put, List.setIfInBounds_toArray, List.set_cons_zero, List.set_cons_succ, i64_w, i32_w]
       rfl
      refine pu_ 20 (some 41) ?_
      refine take_ (i := 26) (N := some 47) (v := ?_) (a' := ?_) #[true, true, true, true, true, false, false, true, true, true, true, true, false, false, false, false, true, true, true, true, true, false, false, true, true, true, true, false, false, false, false, false] rfl rfl (take_ofW HT_.out HW_.out (by kernel_rfl)) (fun _ _ _ h => h) (Or.inl ⟨by rfl, ?_⟩) hHeld ?_ ?_
      rotate_left
      ·rintro w' ⟨s0, s1, s2, s3, s4⟩
       go_simp
       with_reducible rfl
      rotate_left
      ·simp only [Act.put, List.setIfInBounds_toArray, List.set_cons_zero, List.set_cons_succ, i64_w, i32_w]
       rfl
      refine pu_ 27 (some 48) ?_
      refine one_ (i := 5) (N := some 26) #[true, true, true, true, true, true, false, true, true, true, true, true, false, false, false, false, true, true, true, true, true, false, false, true, true, true, true, true, false, false, false, false] rfl rfl (one_of HT_.out (by kernel_rfl)) (by decide) (fun K hK => ?_)
      refine goes_ Try.func53 (by kernel_rfl) rfl #[.int .i64 (rd l1 x6_1)] (by rfl) rfl rfl mp_ ?_
      with_reducible refine (spec_l3Abs.calls (rd l1 x6_1) t628 _ A12.out).mono ?_
      rintro e w' ⟨rfl, ⟨nd, rfl⟩⟩
      refine ⟨_, rfl, ?_⟩
      refine hK.out _ _ ⟨((HB.out.cell (World.block_lt_of_cell? w _ hw627_0)).trans hw627_0), ((HB.out.cell (World.block_lt_of_cell? w _ hw629_0)).trans hw629_0), ((HB.out.cell (World.block_lt_of_cell? w _ hw632_0)).trans hw632_0), ((HB.out.cell (World.block_lt_of_cell? w _ hw634_0)).trans hw634_0), hHeld.2.2.2.2⟩ (fun hHeld => ?_)
      clear hK K
      refine norm_ (a' := ?_) ?_ ?_
      rotate_left
      ·show Act.put _ (some 26) _ = _
       simp only [Act.put, List.setIfInBounds_toArray, List.set_cons_zero, List.set_cons_succ, i64_w, i32_w]
       rfl
      refine pu_ 6 (some 27) ?_
      refine one_ (i := 12) (N := some 33) #[true, true, true, true, true, true, true, true, true, true, true, true, true, false, false, false, true, true, true, true, true, false, false, true, true, true, true, true, false, false, false, false] rfl rfl (one_of HT_.out (by kernel_rfl)) (by decide) (fun K hK => ?_)
      refine goes_ Try.func53 (by kernel_rfl) rfl #[.int .i64 (rd l1 x6_1)] (by rfl) rfl rfl mp_ ?_
      with_reducible refine (spec_l3Abs.calls (rd l1 x6_1) t630 _ A13.out).mono ?_
      rintro e w' ⟨rfl, ⟨nd, rfl⟩⟩
      refine ⟨_, rfl, ?_⟩
      obtain ⟨Ao24, co24, eo24⟩ := Kd.R_slice HO_5.out
      (first | subst eo24 | (injection eo24 with f1_ f2_ f3_; have f4_ := f1_.symm; have f5_ := f3_.symm; clear f1_ f2_ f3_; subst f4_; subst f5_))
      refine hK.out _ _ ⟨((HB.out.cell (World.block_lt_of_cell? w _ hw627_0)).trans hw627_0), ((HB.out.cell (World.block_lt_of_cell? w _ hw629_0)).trans hw629_0), ((HB.out.cell (World.block_lt_of_cell? w _ hw632_0)).trans hw632_0), ((HB.out.cell (World.block_lt_of_cell? w _ hw634_0)).trans hw634_0), hHeld.2.2.2.2⟩ (fun hHeld => ?_)
      clear hK K
      refine norm_ (a' := ?_) ?_ ?_
      rotate_left
      ·show Act.put _ (some 33) _ = _
       simp only [Act.put, List.setIfInBounds_toArray, List.set_cons_zero, List.set_cons_succ, i64_w, i32_w]
       rfl
      refine pu_ 13 (some 34) ?_
      refine pu_ 14 (some 35) ?_
      refine take_ (i := 15) (N := some 36) (v := ?_) (a' := ?_) #[true, true, true, true, true, true, true, true, true, true, true, true, true, true, true, true, true, true, true, true, true, false, false, true, true, true, true, true, false, false, false, false] rfl rfl (take_ofW HT_.out HW_.out (by kernel_rfl)) (fun _ _ _ h => h) (Or.inl ⟨by rfl, ?_⟩) hHeld ?_ ?_
      rotate_left
      ·rintro w' ⟨s0, s1, s2, s3, s4⟩
       go_simp
       with_reducible rfl
      rotate_left
      ·simp only [Act.put, List.setIfInBounds_toArray, List.set_cons_zero, List.set_cons_succ, i64_w, i32_w]
       rfl
      refine one_ (i := 21) (N := some 42) #[true, true, true, true, true, true, true, true, true, true, true, true, true, true, true, true, true, true, true, true, true, true, false, true, true, true, true, true, false, false, false, false] rfl rfl (one_of HT_.out (by kernel_rfl)) (by decide) (fun K hK => ?_)
      refine goes_ Try.func61 (by kernel_rfl) rfl #[.bool (decide ((rd l1 x6_1) > 0))] (by rfl) rfl rfl mp_ ?_
      with_reducible refine (spec_l1Bit.calls (decide ((rd l1 x6_1) > 0)) t633 _ A17.out).mono ?_
      rintro e w' ⟨rfl, ⟨nd, rfl⟩⟩
      refine ⟨_, rfl, ?_⟩
      refine hK.out _ _ ⟨((HB.out.cell (World.block_lt_of_cell? w _ hw627_0)).trans hw627_0), ((HB.out.cell (World.block_lt_of_cell? w _ hw629_0)).trans hw629_0), ((HB.out.cell (World.block_lt_of_cell? w _ hw632_0)).trans hw632_0), ((HB.out.cell (World.block_lt_of_cell? w _ hw634_0)).trans hw634_0), hHeld.2.2.2.2⟩ (fun hHeld => ?_)
      clear hK K
      refine norm_ (a' := ?_) ?_ ?_
      rotate_left
      ·show Act.put _ (some 42) _ = _
       simp only [Act.put, List.setIfInBounds_toArray, List.set_cons_zero, List.set_cons_succ, i64_w, i32_w]
       rfl
      refine pu_ 22 (some 43) ?_
      refine one_ (i := 28) (N := some 49) #[true, true, true, true, true, true, true, true, true, true, true, true, true, true, true, true, true, true, true, true, true, true, true, true, true, true, true, true, true, false, false, false] rfl rfl (one_of HT_.out (by kernel_rfl)) (by decide) (fun K hK => ?_)
      refine goes_ Try.func61 (by kernel_rfl) rfl #[.bool (decide ((rd l1 x6_1) < 0))] (by rfl) rfl rfl mp_ ?_
      with_reducible refine (spec_l1Bit.calls (decide ((rd l1 x6_1) < 0)) t635 _ A18.out).mono ?_
      rintro e w' ⟨rfl, ⟨nd, rfl⟩⟩
      refine ⟨_, rfl, ?_⟩
      have p22 : 0 ≤ ((ji19) : Int) := dT
      have q22 : ((ji19) : Int) < ((x5_1.length : Int) : Int) := dT
      obtain ⟨go22, co22, eo22, gb22, gl22, cl22, HG22⟩ := Kd.R_form HO_5.out (by omega)
      (first | cases eo22 | (injection eo22 with ea_ en_ ec_; (first | subst ea_ | (injection ea_ with ea_; subst ea_)); subst ec_; clear en_))
      have GB22 := Aside0.mk gb22
      have GG22 := Aside0.mk HG22
      clear gb22 gl22 HG22
      (first | simp only [add_plain] at hx631_0 | skip)
      obtain ⟨hx22_0, hf22_0⟩ := Kd.R_celln 0 HO_5.out ((ji19) : Int) p22 q22
      replace p22 := eq_true p22
      replace q22 := eq_true q22
      have HP25 := Kd.R_putn HO_5.out ((ji19) : Int) (wrap64 ((wrap64 ((rd x5_1 (ji14)) + t633)) - t635))
      rw [← Ny636.out] at HP25
      have HQ25 := Aside0.mk HP25
      clear HP25
      refine hK.out _ _ ⟨((HB.out.cell (World.block_lt_of_cell? w _ hw627_0)).trans hw627_0), ((HB.out.cell (World.block_lt_of_cell? w _ hw629_0)).trans hw629_0), ((HB.out.cell (World.block_lt_of_cell? w _ hw632_0)).trans hw632_0), ((HB.out.cell (World.block_lt_of_cell? w _ hw634_0)).trans hw634_0), hHeld.2.2.2.2⟩ (fun hHeld => ?_)
      clear hK K
      refine norm_ (a' := ?_) ?_ ?_
      rotate_left
      ·show Act.put _ (some 49) _ = _
       simp only [Act.put, List.setIfInBounds_toArray, List.set_cons_zero, List.set_cons_succ, i64_w, i32_w]
       rfl
      refine pu_ 29 (some 50) ?_
      refine pu_ 30 (some 51) ?_
      refine last_ (i := 31) (N := none) #[true, true, true, true, true, true, true, true, true, true, true, true, true, true, true, true, true, true, true, true, true, true, true, true, true, true, true, true, true, true, true, true] rfl rfl (one_of HT_.out (by kernel_rfl)) (by decide) (fun K hK => ?_)
      refine skip_ (w1 := ?_) (by rfl) rfl ?_ ?_
      rotate_left
      ·go_simp
       rfl
      refine hK.out _ _ ?_
      clear hK K
      refine done_ (done_of HT_.out (by kernel_rfl)) ?_
      try go_wp2
      go_roundg k1
      case measure => exact oK
      case rel => exact ⟨(y636), (wrap64 (x6_1 + 1)), rS, H', ⟨oK⟩, ⟨HQ25.out⟩, ⟨tG1 GB22.out⟩⟩
     ·obtain ⟨c26, H⟩ := gd H
      have c26b0 : decide (0 < (x5_1.length : Int)) = true := decide_eq_true c26
      have c26b1 : decide (0 < x5_1.length) = true := decide_eq_true (by omega)
      clear c26
      by_cases c27 : (rd x5_1 0) = 0
      ·rw [if_pos c27] at H
       have c27b0 : ((rd x5_1 0) == 0) = true := beq_iff_eq.mpr c27
       have c27b1 : ((rd x5_1 0) != 0) = false := bne_eq_false_iff_eq.mpr c27
       clear c27
       obtain ⟨c28, H⟩ := gd H
       have c28b0 : decide (1 < (x5_1.length : Int)) = true := decide_eq_true c28
       have c28b1 : decide (1 < x5_1.length) = true := decide_eq_true (by omega)
       clear c28
       obtain rfl := Option.some.inj H
       obtain ⟨Ao29, co29, eo29⟩ := Kd.R_slice HO_5.out
       subst eo29
       have p625 : 0 ≤ (0 : Int) := (by omega)
       have q625 : 0 < (x5_1.length : Int) := dT
       (try (obtain ⟨Aqs_, cqs_, eqs_⟩ := Kd.R_slice HO_5.out; subst eqs_))
       obtain ⟨ad625, e625, hx625_0⟩ := Kd.at_int (Kd.R_reads' HO_5.out).2.2 0 p625 q625
       cases e625
       have qi625 : (0 < x5_1.length) = True := eq_true (by omega)
       (try rw [show ((0 : Int)).toNat = 0 from rfl] at hx625_0)
       (try rw [Addr.add_zero'] at hx625_0)
       replace p625 := eq_true p625
       replace q625 := eq_true q625
       have p626 : 0 ≤ (1 : Int) := (by omega)
       have q626 : 1 < (x5_1.length : Int) := dT
       (try (obtain ⟨Aqs_, cqs_, eqs_⟩ := Kd.R_slice HO_5.out; subst eqs_))
       obtain ⟨ad626, e626, hx626_0⟩ := Kd.at_int (Kd.R_reads' HO_5.out).2.2 1 p626 q626
       obtain rfl : ad625 = ad626 := (by injection e626)
       (try simp only [show (1 : Int).toNat = 1 from rfl, Nat.reduceMul, Nat.reduceEqDiff, Go.Addr.add, ↓reduceIte] at hx626_0)
       have qi626 : (1 < x5_1.length) = True := eq_true (by omega)
       (try rw [show ((1 : Int)).toNat = 1 from rfl] at hx626_0)
       replace p626 := eq_true p626
       replace q626 := eq_true q626
       go_wp2
       go_ret
       exact ⟨rE, tb⟩
      ·rw [if_neg c27] at H
       have c27b0 : ((rd x5_1 0) == 0) = false := beq_eq_false_iff_ne.mpr c27
       have c27b1 : ((rd x5_1 0) != 0) = true := bne_iff_ne.mpr c27
       obtain rfl := Option.some.inj H
       obtain ⟨Ao30, co30, eo30⟩ := Kd.R_slice HO_5.out
       subst eo30
       have p625 : 0 ≤ (0 : Int) := (by omega)
       have q625 : 0 < (x5_1.length : Int) := dT
       (try (obtain ⟨Aqs_, cqs_, eqs_⟩ := Kd.R_slice HO_5.out; subst eqs_))
       obtain ⟨ad625, e625, hx625_0⟩ := Kd.at_int (Kd.R_reads' HO_5.out).2.2 0 p625 q625
       cases e625
       have qi625 : (0 < x5_1.length) = True := eq_true (by omega)
       (try rw [show ((0 : Int)).toNat = 0 from rfl] at hx625_0)
       (try rw [Addr.add_zero'] at hx625_0)
       replace p625 := eq_true p625
       replace q625 := eq_true q625
       go_wp2
       go_ret
       exact ⟨rE, tb⟩
  ·rw [if_neg c7] at H
   exact absurd H (by simp)

end Go.Proofs.Ytbchbmfmplfoiaa.PFnGroups
