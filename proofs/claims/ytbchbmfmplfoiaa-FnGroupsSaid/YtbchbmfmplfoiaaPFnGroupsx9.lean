import Derived.Test.YtbchbmfmplfoiaaWSpanB
import Derived.Test.YtbchbmfmplfoiaaPFnGroupsx0
import Derived.Test.YtbchbmfmplfoiaaPFnGroupsx3
import Derived.Test.YtbchbmfmplfoiaaPFnGroupsx4
import Derived.Test.YtbchbmfmplfoiaaPFnGroupsx5
namespace Go.Proofs.Ytbchbmfmplfoiaa.PFnGroups
open Go.RowKit Go.Proofs.YtbchbmfmplfoiaaW.PrintWords Go.Proofs.YtbchbmfmplfoiaaW.PrintLast Go.Proofs.YtbchbmfmplfoiaaW.PrintMore
attribute [local go_sem] max2_int min2_int max_two min_two max_three min_three max_four min_four   -- for this text's walks alone
set_option linter.unusedVariables false
set_option linter.unusedSimpArgs false

/-! ### impl_DehnWord: function 11 -/
def impl_DehnWord.l0 : Nat → Int → List Int → Option (List Int)
 | 0, _, _ => none
 | k + 1, x0, x5 => (impl_DehnStep.f k x0 x5).bind fun bt577 => (if bt577.2 = true then (impl_DehnWord.l0 k x0 bt577.1) else (some x5))
def impl_DehnWord.f (k : Nat) (a0 : Int) (l1 : List Int) : Option (List Int) := (impl_isGroupWord.f k a0 l1).bind fun t573 => (if t573 = true then ((impl_reduce.f k l1).bind fun t574 => (impl_DehnWord.l0 k a0 t574)) else (some ([] : List Int)))
set_option maxHeartbeats 8000000 in
set_option maxRecDepth 100000 in
theorem impl_DehnWord.calls (k : Nat) (a0 : Int) (A1 : Option Addr) (c1 : Nat) (l1 : List Int) (r : List Int) (w : World) (hr1 : Kd.C (Kd.int .i64) w A1 l1.length l1) (hc1 : l1.length ≤ c1) (h : impl_DehnWord.f k a0 l1 = some r) :
  Calls Try.prog 11 #[.int .i64 a0, .slice A1 l1.length c1] w fun e w' => ∃ v0_ : Value, e = .returned (v0_) ∧ Kd.R (Kd.int .i64) 3 w' w.heap.size (fun _ => True) v0_ r ∧ Below w.heap.size w w' := by
 have HR1 := Aside0.mk hr1
 have HC1 := Aside0.mk hc1
 clear hr1 hc1
 have HB := Aside0.mk (Below.refl w.heap.size w)
 have H : ((impl_isGroupWord.f k a0 l1).bind fun t573 => (if t573 = true then ((impl_reduce.f k l1).bind fun t574 => (impl_DehnWord.l0 k a0 t574)) else (some ([] : List Int)))) = some r := h
 clear h
 obtain ⟨t573, A3, H⟩ := bs H
 by_cases c4 : t573 = true
 ·subst c4
  rw [if_pos rfl] at H
  obtain ⟨t574, A5, H⟩ := bs H
  have H' := Aside0.mk H
  clear H
  go_enter Try.func11, Try.ntmps11
  go_wp2_with (first | (refine gL 31 (some 10) Try.func31 #[.int .i64 a0, .slice A1 l1.length c1] ?_; (with_reducible refine (impl_isGroupWord.calls k a0 _ _ l1 true _ ?side1 ?side2 A3.out).mono ?_); (case side1 => exact C_l HR1.out); (case side2 => exact HC1.out); rintro e w6 ⟨rfl, hb⟩; refine ⟨_, rfl, ?_⟩; replace HB := Aside0.mk (below_step tb hb)) | (refine gL 32 (some 13) Try.func32 #[.slice A1 l1.length c1] ?_; (with_reducible refine (impl_reduce.calls k _ _ l1 t574 _ ?side1 ?side2 A5.out).mono ?_); (case side1 => exact C_l (Kd.C_below HR1.out HB.out)); (case side2 => exact HC1.out); rintro e w7 ⟨v575, rfl, ho0, hb⟩; refine ⟨_, rfl, ?_⟩; have HO576 := Aside0.mk (Kd.R_lower ho0 (below_size tb)); replace HB := Aside0.mk (below_step tb hb)))
  go_loopg [5] k (fun kq v5 w' => ∃ (x5_1 : List Int), Aside0 (impl_DehnWord.l0 kq a0 x5_1 = some r) ∧ Aside0 (kq ≤ k) ∧ Aside0 (Kd.R (Kd.int .i64) 3 w' w.heap.size (fun _ => True) v5 x5_1) ∧ Aside0 (Below w.heap.size w w'))
  case atStart => exact ⟨(t574), H', ⟨Nat.le_refl _⟩, ⟨R_l HO576.out⟩, ⟨tb⟩⟩
  case round =>
   clear H'
   try clear c1
   try clear p2
   try clear c3
   try clear c4
   obtain ⟨x5_1, HA, HK1, HO_5, HB⟩ := hrel
   cases gk with
   | zero => exact absurd HA.out (by simp [impl_DehnWord.l0])
   | succ k1 =>
    have H := HA.out
    clear HA
    simp only [impl_DehnWord.l0] at H
    obtain ⟨⟨t577, t578⟩, A8, H⟩ := bs H
    try dsimp only at H
    by_cases c9 : t578 = true
    ·subst c9
     rw [if_pos rfl] at H
     have H' := Aside0.mk H
     clear H
     obtain ⟨Ao10, co10, eo10⟩ := Kd.R_slice HO_5.out
     subst eo10
     go_wp2_with (first | (refine gL 6 (some 17) Try.func6 #[.int .i64 a0, .slice Ao10 x5_1.length co10] ?_; (with_reducible refine (impl_DehnStep.calls k1 a0 _ _ x5_1 t577 true _ ?side1 ?side2 A8.out).mono ?_); (case side1 => exact C_l ((Kd.R_reads' HO_5.out).2.2)); (case side2 => exact (Kd.R_reads' HO_5.out).2.1); rintro e w11 ⟨v579, rfl, ho0, hb⟩; refine ⟨_, rfl, ?_⟩; have HO580 := Aside0.mk (Kd.R_lower (Kd.R_new' ho0 (Kd.R_lt (R_l HO_5.out))) (below_size tb)); replace HO_5 := Aside0.mk (Kd.R_elder' (R_l HO_5.out) (Kd.R_base ho0) hb); replace HB := Aside0.mk (below_step tb hb)))
     go_roundg k1
     case measure => exact oK
     case rel => exact ⟨(t577), H', ⟨oK⟩, ⟨R_l (Kd.R_mono HO580.out (fun _ hk => trivial))⟩, ⟨tb⟩⟩
    ·replace c9 := Bool.eq_false_iff.mpr c9
     subst c9
     rw [if_neg (show ¬ (false = true) by decide)] at H
     obtain rfl := Option.some.inj H
     obtain ⟨Ao12, co12, eo12⟩ := Kd.R_slice HO_5.out
     subst eo12
     go_wp2_with (first | (refine gL 6 (some 17) Try.func6 #[.int .i64 a0, .slice Ao12 x5_1.length co12] ?_; (with_reducible refine (impl_DehnStep.calls k1 a0 _ _ x5_1 t577 false _ ?side1 ?side2 A8.out).mono ?_); (case side1 => exact C_l ((Kd.R_reads' HO_5.out).2.2)); (case side2 => exact (Kd.R_reads' HO_5.out).2.1); rintro e w13 ⟨v579, rfl, ho0, hb⟩; refine ⟨_, rfl, ?_⟩; have HO580 := Aside0.mk (Kd.R_lower (Kd.R_new' ho0 (Kd.R_lt (R_l HO_5.out))) (below_size tb)); replace HO_5 := Aside0.mk (Kd.R_elder' (R_l HO_5.out) (Kd.R_base ho0) hb); replace HB := Aside0.mk (below_step tb hb)))
     go_ret
     exact ⟨_, rE, R_l (Kd.R_mono HO_5.out (fun _ hk => trivial)), tb⟩
 ·replace c4 := Bool.eq_false_iff.mpr c4
  subst c4
  rw [if_neg (show ¬ (false = true) by decide)] at H
  obtain rfl := Option.some.inj H
  go_enter Try.func11, Try.ntmps11
  go_wp2_with (first | (refine gL 31 (some 10) Try.func31 #[.int .i64 a0, .slice A1 l1.length c1] ?_; (with_reducible refine (impl_isGroupWord.calls k a0 _ _ l1 false _ ?side1 ?side2 A3.out).mono ?_); (case side1 => exact C_l HR1.out); (case side2 => exact HC1.out); rintro e w14 ⟨rfl, hb⟩; refine ⟨_, rfl, ?_⟩; replace HB := Aside0.mk (below_step tb hb)))
  go_ret
  exact ⟨_, rE, by first | exact Kd.R_nil _ _ _ _ _ | exact Kd.N_nil _ _ _ _ _ | exact Kd.V_nil _ _ _ _ _ | exact Kd.Q_nil _ _ _ _ _ | exact Kd.S_nil _ _ _ _ _, tb⟩

/-! ### laws_sameInts: function 12 -/
def laws_sameInts.l0 : Nat → List Int → List Int → Int → Option (Bool)
 | 0, _, _, _ => none
 | k + 1, x0, x1, x5 => if x5 < (x0.length : Int) then (if 0 ≤ x5 then (if x5 < (x1.length : Int) then (if (rd x0 x5) = (rd x1 x5) then (laws_sameInts.l0 k x0 x1 (wrap64 (x5 + 1))) else (some false)) else (none)) else (none)) else (some true)
def laws_sameInts.f (k : Nat) (l0 : List Int) (l1 : List Int) : Option (Bool) := if (l0.length : Int) = (l1.length : Int) then (laws_sameInts.l0 k l0 l1 0) else (some false)
set_option maxHeartbeats 8000000 in
set_option maxRecDepth 100000 in
theorem laws_sameInts.calls (k : Nat) (A0 : Option Addr) (c0 : Nat) (l0 : List Int) (A1 : Option Addr) (c1 : Nat) (l1 : List Int) (r : Bool) (w : World) (hr0 : Kd.C (Kd.int .i64) w A0 l0.length l0) (hc0 : l0.length ≤ c0) (hr1 : Kd.C (Kd.int .i64) w A1 l1.length l1) (hc1 : l1.length ≤ c1) (h : laws_sameInts.f k l0 l1 = some r) :
  Calls Try.prog 12 #[.slice A0 l0.length c0, .slice A1 l1.length c1] w fun e w' => e = .returned (.bool r) ∧ Drawn0 w w' := by
 have HR0 := Aside0.mk hr0
 have HC0 := Aside0.mk hc0
 clear hr0 hc0
 have HR1 := Aside0.mk hr1
 have HC1 := Aside0.mk hc1
 clear hr1 hc1
 have H : (if (l0.length : Int) = (l1.length : Int) then (laws_sameInts.l0 k l0 l1 0) else (some false)) = some r := h
 clear h
 by_cases c3 : (l0.length : Int) = (l1.length : Int)
 ·rw [if_pos c3] at H
  have c3b0 : ((l0.length : Int) == (l1.length : Int)) = true := beq_iff_eq.mpr c3
  have c3b1 : ((l0.length : Int) != (l1.length : Int)) = false := bne_eq_false_iff_eq.mpr c3
  have c3b2 : (l0.length == l1.length) = true := by first | simpa using c3 | (simp at c3 ⊢; omega)
  clear c3
  have H' := Aside0.mk H
  clear H
  go_enter Try.func12, Try.ntmps12
  go_wp2
  repeat (go_quiet (fail); try go_wp2)
  go_loopg [5] k (fun kq v5 w' => ∃ (x5_1 : Int), v5 = .int .i64 x5_1 ∧ Aside0 (laws_sameInts.l0 kq l0 l1 x5_1 = some r) ∧ Aside0 (kq ≤ k) ∧ Drawn0 w w')
  case atStart => exact ⟨(0), rS, H', ⟨Nat.le_refl _⟩, tD⟩
  case round =>
   clear H'
   try clear c1
   try clear p2
   try clear c3
   try clear c3b0
   try clear c3b1
   try clear c3b2
   obtain ⟨x5_1, rfl, HA, HK1, ⟨m1, rfl⟩⟩ := hrel
   cases gk with
   | zero => exact absurd HA.out (by simp [laws_sameInts.l0])
   | succ k1 =>
    have H := HA.out
    clear HA
    simp only [laws_sameInts.l0] at H
    obtain ⟨c4b0, H⟩ | ⟨c4b0, H⟩ := gi H
    ·obtain ⟨c5b0, H⟩ := gdt H
     obtain ⟨c6b0, H⟩ := gdt H
     by_cases c7 : (rd l0 x5_1) = (rd l1 x5_1)
     ·rw [if_pos c7] at H
      have c7b0 : ((rd l0 x5_1) == (rd l1 x5_1)) = true := beq_iff_eq.mpr c7
      have c7b1 : ((rd l0 x5_1) != (rd l1 x5_1)) = false := bne_eq_false_iff_eq.mpr c7
      clear c7
      have H' := Aside0.mk H
      clear H
      have p581 : 0 ≤ (x5_1 : Int) := dT
      have q581 : x5_1 < (l0.length : Int) := dT
      obtain ⟨ad581, e581, hx581_0⟩ := Kd.at_int HR0.out x5_1 p581 q581
      cases e581
      replace p581 := eq_true p581
      replace q581 := eq_true q581
      have p582 : 0 ≤ (x5_1 : Int) := dT
      have q582 : x5_1 < (l1.length : Int) := dT
      obtain ⟨ad582, e582, hx582_0⟩ := Kd.at_int HR1.out x5_1 p582 q582
      cases e582
      replace p582 := eq_true p582
      replace q582 := eq_true q582
      go_wp2
      repeat (go_quiet (fail); try go_wp2)
      go_roundg k1
      case measure => exact oK
      case rel => exact ⟨(wrap64 (x5_1 + 1)), rS, H', ⟨oK⟩, tD⟩
     ·rw [if_neg c7] at H
      have c7b0 : ((rd l0 x5_1) == (rd l1 x5_1)) = false := beq_eq_false_iff_ne.mpr c7
      have c7b1 : ((rd l0 x5_1) != (rd l1 x5_1)) = true := bne_iff_ne.mpr c7
      obtain rfl := Option.some.inj H
      have p581 : 0 ≤ (x5_1 : Int) := dT
      have q581 : x5_1 < (l0.length : Int) := dT
      obtain ⟨ad581, e581, hx581_0⟩ := Kd.at_int HR0.out x5_1 p581 q581
      cases e581
      replace p581 := eq_true p581
      replace q581 := eq_true q581
      have p582 : 0 ≤ (x5_1 : Int) := dT
      have q582 : x5_1 < (l1.length : Int) := dT
      obtain ⟨ad582, e582, hx582_0⟩ := Kd.at_int HR1.out x5_1 p582 q582
      cases e582
      replace p582 := eq_true p582
      replace q582 := eq_true q582
      go_wp2
      repeat (go_quiet (fail); try go_wp2)
      go_ret
      exact ⟨rS, tD⟩
    ·obtain rfl := Option.some.inj H
     go_wp2
     repeat (go_quiet (fail); try go_wp2)
     go_ret
     exact ⟨rS, tD⟩
 ·rw [if_neg c3] at H
  have c3b0 : ((l0.length : Int) == (l1.length : Int)) = false := beq_eq_false_iff_ne.mpr c3
  have c3b1 : ((l0.length : Int) != (l1.length : Int)) = true := bne_iff_ne.mpr c3
  have c3b2 : (l0.length == l1.length) = false := by first | simpa using c3 | (simp at c3 ⊢; omega)
  obtain rfl := Option.some.inj H
  go_enter Try.func12, Try.ntmps12
  go_wp2
  repeat (go_quiet (fail); try go_wp2)
  go_ret
  exact ⟨rS, tD⟩

/-! ### impl_LetterSums: function 48 -/
def impl_LetterSums.l0 : Nat → List Int → List Int → Int → Int → Option (List Int)
 | 0, _, _, _, _ => none
 | k + 1, x3, x10, x11, x12 => if x12 < x11 then (if 0 ≤ x12 then (if x12 < (x10.length : Int) then (if (rd x10 x12) > 0 then (if 0 ≤ (wrap64 ((rd x10 x12) - 1)) then (if (wrap64 ((rd x10 x12) - 1)) < (x3.length : Int) then (impl_LetterSums.l0 k (x3.set ((wrap64 ((rd x10 x12) - 1)) : Int).toNat (wrap64 ((rd x3 (wrap64 ((rd x10 x12) - 1))) + 1))) x10 x11 (wrap64 (x12 + 1))) else (none)) else (none)) else (if 0 ≤ (wrap64 ((wrap64 (-(rd x10 x12))) - 1)) then (if (wrap64 ((wrap64 (-(rd x10 x12))) - 1)) < (x3.length : Int) then (impl_LetterSums.l0 k (x3.set ((wrap64 ((wrap64 (-(rd x10 x12))) - 1)) : Int).toNat (wrap64 ((rd x3 (wrap64 ((wrap64 (-(rd x10 x12))) - 1))) - 1))) x10 x11 (wrap64 (x12 + 1))) else (none)) else (none))) else (none)) else (none)) else (some x3)
def impl_LetterSums.f (k : Nat) (l0 : List Int) : Option (List Int) := (impl_IsWord.f k l0).bind fun t583 => (if t583 = true then (if 8 ≤ 35184372088832 then (impl_LetterSums.l0 k (List.replicate 8 0) l0 (l0.length : Int) 0) else (none)) else (some ([] : List Int)))
set_option maxHeartbeats 8000000 in
set_option maxRecDepth 100000 in
theorem impl_LetterSums.calls (k : Nat) (A0 : Option Addr) (c0 : Nat) (l0 : List Int) (r : List Int) (w : World) (hr0 : Kd.C (Kd.int .i64) w A0 l0.length l0) (hc0 : l0.length ≤ c0) (h : impl_LetterSums.f k l0 = some r) :
  Calls Try.prog 48 #[.slice A0 l0.length c0] w fun e w' => ∃ v0_ : Value, e = .returned (v0_) ∧ Kd.R (Kd.int .i64) 3 w' w.heap.size (fun _ => True) v0_ r ∧ Below w.heap.size w w' := by
 have HR0 := Aside0.mk hr0
 have HC0 := Aside0.mk hc0
 clear hr0 hc0
 have HB := Aside0.mk (Below.refl w.heap.size w)
 have H : ((impl_IsWord.f k l0).bind fun t583 => (if t583 = true then (if 8 ≤ 35184372088832 then (impl_LetterSums.l0 k (List.replicate 8 0) l0 (l0.length : Int) 0) else (none)) else (some ([] : List Int)))) = some r := h
 clear h
 obtain ⟨t583, A2, H⟩ := bs H
 by_cases c3 : t583 = true
 ·subst c3
  rw [if_pos rfl] at H
  obtain ⟨c4, H⟩ := gd H
  have c4b0 := eq_true c4
  have c4b1 : decide (8 ≤ 35184372088832) = true := decide_eq_true c4
  clear c4
  generalize hy584 : (List.replicate 8 0 : List Int) = y584 at H
  have Ny584 := Aside0.mk hy584.symm; clear hy584
  have H' := Aside0.mk H
  clear H
  go_enter Try.func48, Try.ntmps48
  go_wp2_with (first | (refine gL 62 (some 7) Try.func62 #[.slice A0 l0.length c0] ?_; (with_reducible refine (impl_IsWord.calls k _ _ l0 true _ ?side1 ?side2 A2.out).mono ?_); (case side1 => exact C_l HR0.out); (case side2 => exact HC0.out); rintro e w' ⟨rfl, ⟨nd, rfl⟩⟩; refine ⟨_, rfl, ?_⟩) | ((with_reducible refine gate_dst (N := 9) rfl ?_); refine Kd.R_make (Kd.int .i64) _ 3 rfl (N := 9) rfl 24 _ _ rfl 8 rfl rfl Try.underlying24 (.int .i64 0) 8 info3 rfl (by decide) (by omega) 0 (ok := fun _ => True) (okp := fun _ => True) rfl (fun _ hk => hk) trivial (by omega) (by omega) (Below.refl _ _) (Nat.le_refl _) ?_; intro v585 w5 ho6 hb hg_ hnew_; clear hg_ hnew_; (first | rw [← Ny584.out] at ho6 | (simp only [Int.reduceToNat] at ho6; rw [← Ny584.out] at ho6)); have HO586 := Aside0.mk (Kd.R_lower ho6 (below_size tb)); replace HB := Aside0.mk (below_step tb hb); clear hb ho6))
  go_loopg [12] k (fun kq v12 w' => ∃ (x3_1 : List Int) (x12_1 : Int), v12 = .int .i64 x12_1 ∧ Aside0 (impl_LetterSums.l0 kq x3_1 l0 (l0.length : Int) x12_1 = some r) ∧ Aside0 (kq ≤ k) ∧ Aside0 (Kd.R (Kd.int .i64) 3 w' w.heap.size (fun _ => True) v585 x3_1) ∧ Aside0 (Below w.heap.size w w'))
  case atStart => exact ⟨(y584), (0), rS, H', ⟨Nat.le_refl _⟩, ⟨R_l HO586.out⟩, ⟨tb⟩⟩
  case round =>
   clear H'
   try clear p2
   try clear c3
   try clear c4
   try clear c4b0
   try clear c4b1
   try clear c6
   obtain ⟨x3_1, x12_1, rfl, HA, HK1, HO_3, HB⟩ := hrel
   cases gk with
   | zero => exact absurd HA.out (by simp [impl_LetterSums.l0])
   | succ k1 =>
    have H := HA.out
    clear HA
    simp only [impl_LetterSums.l0] at H
    obtain ⟨c7b0, H⟩ | ⟨c7b0, H⟩ := gi H
    ·obtain ⟨c8b0, H⟩ := gdt H
     obtain ⟨c9b0, H⟩ := gdt H
     by_cases c10 : (rd l0 x12_1) > 0
     ·rw [if_pos c10] at H
      have c10b0 : decide (0 < (rd l0 x12_1)) = true := decide_eq_true c10
      clear c10
      obtain ⟨ji11, hji11⟩ : ∃ j_ : Int, (wrap64 ((rd l0 x12_1) - 1)) = j_ := ⟨_, rfl⟩
      replace H : (if 0 ≤ (ji11) then (if (ji11) < (x3_1.length : Int) then (impl_LetterSums.l0 k1 (x3_1.set ((ji11) : Int).toNat (wrap64 ((rd x3_1 (ji11)) + 1))) l0 (l0.length : Int) (wrap64 (x12_1 + 1))) else (none)) else (none)) = some r := by first | (rw [hji11] at H; exact H) | (simp only [hji11] at H ⊢; exact H)
      have hji11w : (IntKind.i64.wrap ((rd l0 x12_1) - 1)) = ji11 := (i64_w _).trans hji11
      obtain ⟨c12b0, H⟩ := gdt H
      obtain ⟨c13b0, H⟩ := gdt H
      generalize hy589 : (x3_1.set ((ji11) : Int).toNat (wrap64 ((rd x3_1 (ji11)) + 1)) : List Int) = y589 at H
      have Ny589 := Aside0.mk hy589.symm; clear hy589
      have H' := Aside0.mk H
      clear H
      have p587 : 0 ≤ (x12_1 : Int) := dT
      have q587 : x12_1 < (l0.length : Int) := dT
      obtain ⟨ad587, e587, hx587_0⟩ := Kd.at_int HR0.out x12_1 p587 q587
      cases e587
      replace hx587_0 := cB HB hx587_0
      replace p587 := eq_true p587
      replace q587 := eq_true q587
      obtain ⟨Ao15, co15, eo15⟩ := Kd.R_slice HO_3.out
      subst eo15
      have p588 : 0 ≤ ((ji11) : Int) := dT
      have q588 : (ji11) < (x3_1.length : Int) := dT
      obtain ⟨ad588, e588, hx588_0⟩ := Kd.at_int (Kd.R_reads' HO_3.out).2.2 (ji11) p588 q588
      cases e588
      replace p588 := eq_true p588
      replace q588 := eq_true q588
      have p14 : 0 ≤ ((ji11) : Int) := dT
      have q14 : ((ji11) : Int) < ((x3_1.length : Int) : Int) := dT
      obtain ⟨go14, co14, eo14, gb14, gl14, cl14, HG14⟩ := Kd.R_form HO_3.out (by omega)
      (first | cases eo14 | (injection eo14 with ea_ en_ ec_; (first | subst ea_ | (injection ea_ with ea_; subst ea_)); subst ec_; clear en_))
      have GB14 := Aside0.mk gb14
      have GG14 := Aside0.mk HG14
      clear gb14 gl14 HG14
      (first | simp only [add_plain] at hx588_0 | skip)
      obtain ⟨hx14_0, hf14_0⟩ := Kd.R_celln 0 HO_3.out ((ji11) : Int) p14 q14
      replace p14 := eq_true p14
      replace q14 := eq_true q14
      have HP16 := Kd.R_putg HO_3.out ((ji11) : Int) (wrap64 ((rd x3_1 (ji11)) + 1))
      go_wp2_with (first | ((with_reducible refine gate_store (t := 3) (p := 24) rfl ?_); refine store_event (t := 3) (p := 24) (v := ?vo_w17) (w1 := (wr.setCell ⟨go14, ((ji11) : Int).toNat, none⟩ (.int .i64 (wrap64 ((rd x3_1 (ji11)) + 1))))) ?hg ?ho ?hn ?hr ?_; (case ho => rfl); (case hg => rfl); (case hn => rfl); (case hr => exact gS); intro w17 hw; have hg : wr.grownBy w17 (some go14) := (by rw [hw]; exact HP16.2); have hp_ : Kd.R (Kd.int .i64) 3 w17 w.heap.size (fun _ => True) (.slice (some ⟨go14, 0, none⟩) x3_1.length co15) y589 := (by rw [hw, Ny589.out]; exact HP16.1); clear HP16; replace HO_3 := Aside0.mk (hp_); replace HB := Aside0.mk ((by rw [hw]; exact below_set (HB.out) GB14.out : Below w.heap.size w w17)); clear hg hw hp_))
      go_roundg k1
      case measure => exact oK
      case rel => exact ⟨(y589), (wrap64 (x12_1 + 1)), rS, H', ⟨oK⟩, ⟨R_l HO_3.out⟩, ⟨tb⟩⟩
     ·rw [if_neg c10] at H
      have c10b0 : decide (0 < (rd l0 x12_1)) = false := decide_eq_false c10
      clear c10
      obtain ⟨ji18, hji18⟩ : ∃ j_ : Int, (wrap64 ((wrap64 (-(rd l0 x12_1))) - 1)) = j_ := ⟨_, rfl⟩
      replace H : (if 0 ≤ (ji18) then (if (ji18) < (x3_1.length : Int) then (impl_LetterSums.l0 k1 (x3_1.set ((ji18) : Int).toNat (wrap64 ((rd x3_1 (ji18)) - 1))) l0 (l0.length : Int) (wrap64 (x12_1 + 1))) else (none)) else (none)) = some r := by first | (rw [hji18] at H; exact H) | (simp only [hji18] at H ⊢; exact H)
      have hji18w : (IntKind.i64.wrap ((wrap64 (-(rd l0 x12_1))) - 1)) = ji18 := (i64_w _).trans hji18
      obtain ⟨c19b0, H⟩ := gdt H
      obtain ⟨c20b0, H⟩ := gdt H
      generalize hy591 : (x3_1.set ((ji18) : Int).toNat (wrap64 ((rd x3_1 (ji18)) - 1)) : List Int) = y591 at H
      have Ny591 := Aside0.mk hy591.symm; clear hy591
      have H' := Aside0.mk H
      clear H
      have p587 : 0 ≤ (x12_1 : Int) := dT
      have q587 : x12_1 < (l0.length : Int) := dT
      obtain ⟨ad587, e587, hx587_0⟩ := Kd.at_int HR0.out x12_1 p587 q587
      cases e587
      replace hx587_0 := cB HB hx587_0
      replace p587 := eq_true p587
      replace q587 := eq_true q587
      obtain ⟨Ao22, co22, eo22⟩ := Kd.R_slice HO_3.out
      subst eo22
      have p590 : 0 ≤ ((ji18) : Int) := dT
      have q590 : (ji18) < (x3_1.length : Int) := dT
      obtain ⟨ad590, e590, hx590_0⟩ := Kd.at_int (Kd.R_reads' HO_3.out).2.2 (ji18) p590 q590
      cases e590
      replace p590 := eq_true p590
      replace q590 := eq_true q590
      have p21 : 0 ≤ ((ji18) : Int) := dT
      have q21 : ((ji18) : Int) < ((x3_1.length : Int) : Int) := dT
      obtain ⟨go21, co21, eo21, gb21, gl21, cl21, HG21⟩ := Kd.R_form HO_3.out (by omega)
      (first | cases eo21 | (injection eo21 with ea_ en_ ec_; (first | subst ea_ | (injection ea_ with ea_; subst ea_)); subst ec_; clear en_))
      have GB21 := Aside0.mk gb21
      have GG21 := Aside0.mk HG21
      clear gb21 gl21 HG21
      (first | simp only [add_plain] at hx590_0 | skip)
      obtain ⟨hx21_0, hf21_0⟩ := Kd.R_celln 0 HO_3.out ((ji18) : Int) p21 q21
      replace p21 := eq_true p21
      replace q21 := eq_true q21
      have HP23 := Kd.R_putg HO_3.out ((ji18) : Int) (wrap64 ((rd x3_1 (ji18)) - 1))
      go_wp2_with (first | ((with_reducible refine gate_store (t := 3) (p := 32) rfl ?_); refine store_event (t := 3) (p := 32) (v := ?vo_w24) (w1 := (wr.setCell ⟨go21, ((ji18) : Int).toNat, none⟩ (.int .i64 (wrap64 ((rd x3_1 (ji18)) - 1))))) ?hg ?ho ?hn ?hr ?_; (case ho => rfl); (case hg => rfl); (case hn => rfl); (case hr => exact gS); intro w24 hw; have hg : wr.grownBy w24 (some go21) := (by rw [hw]; exact HP23.2); have hp_ : Kd.R (Kd.int .i64) 3 w24 w.heap.size (fun _ => True) (.slice (some ⟨go21, 0, none⟩) x3_1.length co22) y591 := (by rw [hw, Ny591.out]; exact HP23.1); clear HP23; replace HO_3 := Aside0.mk (hp_); replace HB := Aside0.mk ((by rw [hw]; exact below_set (HB.out) GB21.out : Below w.heap.size w w24)); clear hg hw hp_))
      go_roundg k1
      case measure => exact oK
      case rel => exact ⟨(y591), (wrap64 (x12_1 + 1)), rS, H', ⟨oK⟩, ⟨R_l HO_3.out⟩, ⟨tb⟩⟩
    ·obtain rfl := Option.some.inj H
     go_wp2
     go_ret
     exact ⟨_, rE, R_l HO_3.out, tb⟩
 ·replace c3 := Bool.eq_false_iff.mpr c3
  subst c3
  rw [if_neg (show ¬ (false = true) by decide)] at H
  obtain rfl := Option.some.inj H
  go_enter Try.func48, Try.ntmps48
  go_wp2_with (first | (refine gL 62 (some 7) Try.func62 #[.slice A0 l0.length c0] ?_; (with_reducible refine (impl_IsWord.calls k _ _ l0 false _ ?side1 ?side2 A2.out).mono ?_); (case side1 => exact C_l HR0.out); (case side2 => exact HC0.out); rintro e w' ⟨rfl, ⟨nd, rfl⟩⟩; refine ⟨_, rfl, ?_⟩))
  go_ret
  exact ⟨_, rE, by first | exact Kd.R_nil _ _ _ _ _ | exact Kd.N_nil _ _ _ _ _ | exact Kd.V_nil _ _ _ _ _ | exact Kd.Q_nil _ _ _ _ _ | exact Kd.S_nil _ _ _ _ _, tb⟩

/-! ### impl_IsTrivialWord: function 20 -/
def impl_IsTrivialWord.l0 : Nat → List Int → Int → Int → Option (Bool)
 | 0, _, _, _ => none
 | k + 1, x14, x15, x16 => if x16 < x15 then (if 0 ≤ x16 then (if x16 < (x14.length : Int) then (if (rd x14 x16) = 0 then (impl_IsTrivialWord.l0 k x14 x15 (wrap64 (x16 + 1))) else (some false)) else (none)) else (none)) else (some true)
def impl_IsTrivialWord.f (k : Nat) (a0 : Int) (l1 : List Int) : Option (Bool) := (impl_isGroupWord.f k a0 l1).bind fun t592 => (if t592 = true then (if a0 = 1 then ((impl_LetterSums.f k l1).bind fun t593 => (impl_IsTrivialWord.l0 k t593 (t593.length : Int) 0)) else ((impl_DehnWord.f k a0 l1).bind fun t597 => (some ((t597.length : Int) == 0)))) else (some false))
set_option maxHeartbeats 8000000 in
set_option maxRecDepth 100000 in
theorem impl_IsTrivialWord.calls (k : Nat) (a0 : Int) (A1 : Option Addr) (c1 : Nat) (l1 : List Int) (r : Bool) (w : World) (hr1 : Kd.C (Kd.int .i64) w A1 l1.length l1) (hc1 : l1.length ≤ c1) (h : impl_IsTrivialWord.f k a0 l1 = some r) :
  Calls Try.prog 20 #[.int .i64 a0, .slice A1 l1.length c1] w fun e w' => e = .returned (.bool r) ∧ Below w.heap.size w w' := by
 have HR1 := Aside0.mk hr1
 have HC1 := Aside0.mk hc1
 clear hr1 hc1
 have HB := Aside0.mk (Below.refl w.heap.size w)
 have H : ((impl_isGroupWord.f k a0 l1).bind fun t592 => (if t592 = true then (if a0 = 1 then ((impl_LetterSums.f k l1).bind fun t593 => (impl_IsTrivialWord.l0 k t593 (t593.length : Int) 0)) else ((impl_DehnWord.f k a0 l1).bind fun t597 => (some ((t597.length : Int) == 0)))) else (some false))) = some r := h
 clear h
 obtain ⟨t592, A3, H⟩ := bs H
 by_cases c4 : t592 = true
 ·subst c4
  rw [if_pos rfl] at H
  by_cases c5 : a0 = 1
  ·rw [if_pos c5] at H
   have c5b0 : (a0 == 1) = true := beq_iff_eq.mpr c5
   have c5b1 : (a0 != 1) = false := bne_eq_false_iff_eq.mpr c5
   clear c5
   obtain ⟨t593, A6, H⟩ := bs H
   have H' := Aside0.mk H
   clear H
   go_enter Try.func20, Try.ntmps20
   go_wp2_with (first | (refine gL 31 (some 9) Try.func31 #[.int .i64 a0, .slice A1 l1.length c1] ?_; (with_reducible refine (impl_isGroupWord.calls k a0 _ _ l1 true _ ?side1 ?side2 A3.out).mono ?_); (case side1 => exact C_l HR1.out); (case side2 => exact HC1.out); rintro e w7 ⟨rfl, hb⟩; refine ⟨_, rfl, ?_⟩; replace HB := Aside0.mk (below_step tb hb)) | (refine gL 48 (some 14) Try.func48 #[.slice A1 l1.length c1] ?_; (with_reducible refine (impl_LetterSums.calls k _ _ l1 t593 _ ?side1 ?side2 A6.out).mono ?_); (case side1 => exact C_l (Kd.C_below HR1.out HB.out)); (case side2 => exact HC1.out); rintro e w8 ⟨v594, rfl, ho0, hb⟩; refine ⟨_, rfl, ?_⟩; have HO595 := Aside0.mk (Kd.R_lower ho0 (below_size tb)); replace HB := Aside0.mk (below_step tb hb); obtain ⟨Ao9, co9, eo9⟩ := Kd.R_slice HO595.out; subst eo9))
   go_loopg [16] k (fun kq v16 w' => ∃ (x16_1 : Int), v16 = .int .i64 x16_1 ∧ Aside0 (impl_IsTrivialWord.l0 kq t593 (t593.length : Int) x16_1 = some r) ∧ Aside0 (kq ≤ k) ∧ Aside0 (Kd.R (Kd.int .i64) 3 w' w.heap.size (fun _ => True) (.slice Ao9 t593.length co9) t593) ∧ Aside0 (Below w.heap.size w w'))
   case atStart => exact ⟨(0), rS, H', ⟨Nat.le_refl _⟩, ⟨R_l HO595.out⟩, ⟨tb⟩⟩
   case round =>
    clear H'
    try clear c1
    try clear c2
    try clear p2
    try clear c3
    try clear c4
    try clear c5
    try clear c5b0
    try clear c5b1
    obtain ⟨x16_1, rfl, HA, HK1, HO_14, HB⟩ := hrel
    cases gk with
    | zero => exact absurd HA.out (by simp [impl_IsTrivialWord.l0])
    | succ k1 =>
     have H := HA.out
     clear HA
     simp only [impl_IsTrivialWord.l0] at H
     obtain ⟨c10b0, H⟩ | ⟨c10b0, H⟩ := gi H
     ·obtain ⟨c11b0, H⟩ := gdt H
      obtain ⟨c12b0, H⟩ := gdt H
      by_cases c13 : (rd t593 x16_1) = 0
      ·rw [if_pos c13] at H
       have c13b0 : ((rd t593 x16_1) == 0) = true := beq_iff_eq.mpr c13
       have c13b1 : ((rd t593 x16_1) != 0) = false := bne_eq_false_iff_eq.mpr c13
       clear c13
       have H' := Aside0.mk H
       clear H
       have p596 : 0 ≤ (x16_1 : Int) := dT
       have q596 : x16_1 < (t593.length : Int) := dT
       obtain ⟨ad596, e596, hx596_0⟩ := Kd.at_int (Kd.R_reads' HO_14.out).2.2 x16_1 p596 q596
       cases e596
       replace p596 := eq_true p596
       replace q596 := eq_true q596
       go_wp2
       go_roundg k1
       case measure => exact oK
       case rel => exact ⟨(wrap64 (x16_1 + 1)), rS, H', ⟨oK⟩, ⟨R_l HO_14.out⟩, ⟨tb⟩⟩
      ·rw [if_neg c13] at H
       have c13b0 : ((rd t593 x16_1) == 0) = false := beq_eq_false_iff_ne.mpr c13
       have c13b1 : ((rd t593 x16_1) != 0) = true := bne_iff_ne.mpr c13
       obtain rfl := Option.some.inj H
       have p596 : 0 ≤ (x16_1 : Int) := dT
       have q596 : x16_1 < (t593.length : Int) := dT
       obtain ⟨ad596, e596, hx596_0⟩ := Kd.at_int (Kd.R_reads' HO_14.out).2.2 x16_1 p596 q596
       cases e596
       replace p596 := eq_true p596
       replace q596 := eq_true q596
       go_wp2
       go_ret
       exact ⟨rE, tb⟩
     ·obtain rfl := Option.some.inj H
      go_wp2
      go_ret
      exact ⟨rE, tb⟩
  ·rw [if_neg c5] at H
   have c5b0 : (a0 == 1) = false := beq_eq_false_iff_ne.mpr c5
   have c5b1 : (a0 != 1) = true := bne_iff_ne.mpr c5
   obtain ⟨t597, A14, H⟩ := bs H
   obtain rfl := Option.some.inj H
   go_enter Try.func20, Try.ntmps20
   go_wp2_with (first | (refine gL 31 (some 9) Try.func31 #[.int .i64 a0, .slice A1 l1.length c1] ?_; (with_reducible refine (impl_isGroupWord.calls k a0 _ _ l1 true _ ?side1 ?side2 A3.out).mono ?_); (case side1 => exact C_l HR1.out); (case side2 => exact HC1.out); rintro e w15 ⟨rfl, hb⟩; refine ⟨_, rfl, ?_⟩; replace HB := Aside0.mk (below_step tb hb)) | (refine gL 11 (some 25) Try.func11 #[.int .i64 a0, .slice A1 l1.length c1] ?_; (with_reducible refine (impl_DehnWord.calls k a0 _ _ l1 t597 _ ?side1 ?side2 A14.out).mono ?_); (case side1 => exact C_l (Kd.C_below HR1.out HB.out)); (case side2 => exact HC1.out); rintro e w16 ⟨v598, rfl, ho0, hb⟩; refine ⟨_, rfl, ?_⟩; have HO599 := Aside0.mk (Kd.R_lower ho0 (below_size tb)); replace HB := Aside0.mk (below_step tb hb); obtain ⟨Ao17, co17, eo17⟩ := Kd.R_slice HO599.out; subst eo17))
   go_ret
   exact ⟨rE, tb⟩
 ·replace c4 := Bool.eq_false_iff.mpr c4
  subst c4
  rw [if_neg (show ¬ (false = true) by decide)] at H
  obtain rfl := Option.some.inj H
  go_enter Try.func20, Try.ntmps20
  go_wp2_with (first | (refine gL 31 (some 9) Try.func31 #[.int .i64 a0, .slice A1 l1.length c1] ?_; (with_reducible refine (impl_isGroupWord.calls k a0 _ _ l1 false _ ?side1 ?side2 A3.out).mono ?_); (case side1 => exact C_l HR1.out); (case side2 => exact HC1.out); rintro e w18 ⟨rfl, hb⟩; refine ⟨_, rfl, ?_⟩; replace HB := Aside0.mk (below_step tb hb)))
  go_ret
  exact ⟨rE, tb⟩

/-! ### impl_AreEqualWords: function 13 -/
def impl_AreEqualWords.j0 : Nat → Int → List Int → List Int → Bool → Option (Bool)
 | 0, _, _, _, _ => none
 | k + 1, x0, x1, x2, x24 => if x24 = true then (some false) else ((impl_copyOf.f x1).bind fun t602 => ((impl_inverse.f k x2).bind fun t605 => (if t602.length + t605.length < 17592186044416 then ((impl_IsTrivialWord.f k x0 (t602 ++ t605)).bind fun t611 => (some t611)) else (none))))
def impl_AreEqualWords.f (k : Nat) (a0 : Int) (l1 : List Int) (l2 : List Int) : Option (Bool) := (impl_isGroupWord.f k a0 l1).bind fun t600 => (if t600 = true then ((impl_isGroupWord.f k a0 l2).bind fun t601 => (if t601 = true then (impl_AreEqualWords.j0 k a0 l1 l2 (decide ((wrap64 ((l1.length : Int) + (l2.length : Int))) > 24))) else (impl_AreEqualWords.j0 k a0 l1 l2 true))) else (impl_AreEqualWords.j0 k a0 l1 l2 true))
set_option maxHeartbeats 8000000 in
set_option maxRecDepth 100000 in
theorem impl_AreEqualWords.calls (k : Nat) (a0 : Int) (A1 : Option Addr) (c1 : Nat) (l1 : List Int) (A2 : Option Addr) (c2 : Nat) (l2 : List Int) (r : Bool) (w : World) (hr1 : Kd.C (Kd.int .i64) w A1 l1.length l1) (hc1 : l1.length ≤ c1) (hr2 : Kd.C (Kd.int .i64) w A2 l2.length l2) (hc2 : l2.length ≤ c2) (h : impl_AreEqualWords.f k a0 l1 l2 = some r) :
  Calls Try.prog 13 #[.int .i64 a0, .slice A1 l1.length c1, .slice A2 l2.length c2] w fun e w' => e = .returned (.bool r) ∧ Below w.heap.size w w' := by
 have HR1 := Aside0.mk hr1
 have HC1 := Aside0.mk hc1
 clear hr1 hc1
 have HR2 := Aside0.mk hr2
 have HC2 := Aside0.mk hc2
 clear hr2 hc2
 have HB := Aside0.mk (Below.refl w.heap.size w)
 have H : ((impl_isGroupWord.f k a0 l1).bind fun t600 => (if t600 = true then ((impl_isGroupWord.f k a0 l2).bind fun t601 => (if t601 = true then (impl_AreEqualWords.j0 k a0 l1 l2 (decide ((wrap64 ((l1.length : Int) + (l2.length : Int))) > 24))) else (impl_AreEqualWords.j0 k a0 l1 l2 true))) else (impl_AreEqualWords.j0 k a0 l1 l2 true))) = some r := h
 clear h
 have HC4 := Aside0.mk H
 clear H
 go_enter Try.func13, Try.ntmps13
 go_upto_region 1 with (fail)
 go_cut [24] (fun v24 wc => ∃ (kq : Nat) (x24_3 : Bool), v24 = .bool x24_3 ∧ Aside0 (impl_AreEqualWords.j0 kq a0 l1 l2 x24_3 = some r) ∧ Aside0 (kq ≤ k) ∧ Aside0 (Below w.heap.size w wc))
 case first =>
  have H := HC4.out
  clear HC4
  obtain ⟨t600, A5, H⟩ := bs H
  by_cases c6 : t600 = true
  ·subst c6
   rw [if_pos rfl] at H
   obtain ⟨t601, A7, H⟩ := bs H
   by_cases c8 : t601 = true
   ·subst c8
    rw [if_pos rfl] at H
    have H' := Aside0.mk H
    clear H
    go_wp2_with (first | (refine gL 31 (some 9) Try.func31 #[.int .i64 a0, .slice A1 l1.length c1] ?_; (with_reducible refine (impl_isGroupWord.calls k a0 _ _ l1 true _ ?side1 ?side2 A5.out).mono ?_); (case side1 => exact C_l (Kd.C_below HR1.out HB.out)); (case side2 => exact HC1.out); rintro e w9 ⟨rfl, hb⟩; refine ⟨_, rfl, ?_⟩; replace HB := Aside0.mk (below_step tb hb)) | (go_at_call 31; (with_reducible refine (impl_isGroupWord.calls k a0 _ _ l2 true _ ?side1 ?side2 A7.out).mono ?_); (case side1 => exact C_l (Kd.C_below HR2.out HB.out)); (case side2 => exact HC2.out); rintro e w10 ⟨rfl, hb⟩; replace HB := Aside0.mk (below_step tb hb)))
    go_meet
    case rel => exact ⟨_, (decide ((wrap64 ((l1.length : Int) + (l2.length : Int))) > 24)), rS, H', ⟨by first | omega | exact Nat.le_refl _⟩, ⟨tb⟩⟩
   ·replace c8 := Bool.eq_false_iff.mpr c8
    subst c8
    rw [if_neg (show ¬ (false = true) by decide)] at H
    have H' := Aside0.mk H
    clear H
    go_wp2_with (first | (refine gL 31 (some 9) Try.func31 #[.int .i64 a0, .slice A1 l1.length c1] ?_; (with_reducible refine (impl_isGroupWord.calls k a0 _ _ l1 true _ ?side1 ?side2 A5.out).mono ?_); (case side1 => exact C_l (Kd.C_below HR1.out HB.out)); (case side2 => exact HC1.out); rintro e w11 ⟨rfl, hb⟩; refine ⟨_, rfl, ?_⟩; replace HB := Aside0.mk (below_step tb hb)) | (go_at_call 31; (with_reducible refine (impl_isGroupWord.calls k a0 _ _ l2 false _ ?side1 ?side2 A7.out).mono ?_); (case side1 => exact C_l (Kd.C_below HR2.out HB.out)); (case side2 => exact HC2.out); rintro e w12 ⟨rfl, hb⟩; replace HB := Aside0.mk (below_step tb hb)))
    go_meet
    case rel => exact ⟨_, (true), rS, H', ⟨by first | omega | exact Nat.le_refl _⟩, ⟨tb⟩⟩
  ·replace c6 := Bool.eq_false_iff.mpr c6
   subst c6
   rw [if_neg (show ¬ (false = true) by decide)] at H
   have H' := Aside0.mk H
   clear H
   go_wp2_with (first | (refine gL 31 (some 9) Try.func31 #[.int .i64 a0, .slice A1 l1.length c1] ?_; (with_reducible refine (impl_isGroupWord.calls k a0 _ _ l1 false _ ?side1 ?side2 A5.out).mono ?_); (case side1 => exact C_l (Kd.C_below HR1.out HB.out)); (case side2 => exact HC1.out); rintro e w13 ⟨rfl, hb⟩; refine ⟨_, rfl, ?_⟩; replace HB := Aside0.mk (below_step tb hb)))
   go_meet
   case rel => exact ⟨_, (true), rS, H', ⟨by first | omega | exact Nat.le_refl _⟩, ⟨tb⟩⟩
 case rest =>
  clear HC4
  try clear c1
  try clear c2
  try clear p2
  try clear c3
  try clear c6
  try clear p6
  try clear c8
  try clear c13
  obtain ⟨kq, x24_3, rfl, HA, HJ3, HB⟩ := hcut
  cases kq with
  | zero => exact absurd HA.out (by simp [impl_AreEqualWords.j0])
  | succ kj3 =>
   have H := HA.out
   clear HA
   simp only [impl_AreEqualWords.j0] at H
   by_cases c14 : x24_3 = true
   ·subst c14
    rw [if_pos rfl] at H
    obtain rfl := Option.some.inj H
    go_wp2
    go_ret
    exact ⟨rE, tb⟩
   ·replace c14 := Bool.eq_false_iff.mpr c14
    subst c14
    rw [if_neg (show ¬ (false = true) by decide)] at H
    obtain ⟨t602, A15, H⟩ := bs H
    obtain ⟨t605, A16, H⟩ := bs H
    by_cases c17 : t602.length + t605.length < 17592186044416
    ·rw [if_pos c17] at H
     have LMc17 := Aside0.mk c17
     clear c17
     generalize hy608 : (t602 ++ t605 : List Int) = y608 at H
     have Ny608 := Aside0.mk hy608.symm; clear hy608
     obtain ⟨t611, A18, H⟩ := bs H
     obtain rfl := Option.some.inj H
     go_wp2_with (first | (refine gL 37 (some 27) Try.func37 #[.slice A1 l1.length c1] ?_; (with_reducible refine (impl_copyOf.calls _ _ l1 t602 _ ?side1 ?side2 A15.out).mono ?_); (case side1 => exact C_l (Kd.C_below HR1.out HB.out)); (case side2 => exact HC1.out); rintro e w19 ⟨v603, rfl, ho0, hb⟩; refine ⟨_, rfl, ?_⟩; have HO604 := Aside0.mk (Kd.R_lower ho0 (below_size tb)); replace HB := Aside0.mk (below_step tb hb)) | (refine gL 34 (some 29) Try.func34 #[.slice A2 l2.length c2] ?_; (with_reducible refine (impl_inverse.calls kj3 _ _ l2 t605 _ ?side1 ?side2 A16.out).mono ?_); (case side1 => exact C_l (Kd.C_below HR2.out HB.out)); (case side2 => exact HC2.out); rintro e w20 ⟨v606, rfl, ho0, hb⟩; refine ⟨_, rfl, ?_⟩; have HO607 := Aside0.mk (Kd.R_lower (Kd.R_new' ho0 (Kd.R_lt (R_l HO604.out))) (below_size tb)); replace HO604 := Aside0.mk (Kd.R_elder' (R_l HO604.out) (Kd.R_base ho0) hb); replace HB := Aside0.mk (below_step tb hb); obtain ⟨Ao22, co22, eo22⟩ := Kd.R_slice HO607.out; subst eo22) | ((with_reducible refine gate_builtin (b := .append) (xs := #[.tmp 27, .tmp 29]) rfl ?_); (try (refine gate_guard (by rfl) ?_; dsimp only)); at_builtin; refine Kd.R_append_rows (Kd.int .i64) (w0 := w) w.heap.size rfl (.tmp 27) (.tmp 29) 24 3 (.int .i64 0) 8 rfl Try.underlying24 info3 rfl (by decide) (by omega) v603 t602 t605 _ _ _ (fun k_ => some k_ ≠ (.slice Ao22 t605.length co22 : Value).ownBlock) (fun _ => False) rfl rfl ?aO ?aR (fun _ _ h => h) (fun _ h => h.elim) ?aF ?aB ?aS ?aL ?_; (case aR => exact C_l ((Kd.R_reads' HO607.out).2.2)); (case aB => exact tb); (case aF => exact (fun k_ hk => Kd.fresh' (Kd.R_lt (R_l HO607.out)) k_ hk)); (case aO => exact (R_l (Kd.R_mono HO604.out (fun _ hk => hk.2)))); (case aS => exact (below_size tb)); (case aL => have := LMc17.out; omega); intro v609 w21 ho hb hg hat; rw [← Ny608.out] at ho; replace HO607 := Aside0.mk (Kd.R_after (ok := (fun _ => True)) (R_l HO607.out) hg hat); replace HB := Aside0.mk (hb); have HO610 := Aside0.mk (ho); clear HO604; clear ho hb hg hat; obtain ⟨Ao23, co23, eo23⟩ := Kd.R_slice HO610.out; subst eo23) | (refine gL 20 (some 31) Try.func20 #[.int .i64 a0, .slice Ao23 y608.length co23] ?_; (with_reducible refine (impl_IsTrivialWord.calls kj3 a0 _ _ y608 t611 _ ?side1 ?side2 A18.out).mono ?_); (case side1 => exact C_l ((Kd.R_reads' HO610.out).2.2)); (case side2 => exact (Kd.R_reads' HO610.out).2.1); rintro e w24 ⟨rfl, hb⟩; refine ⟨_, rfl, ?_⟩; replace HO607 := Aside0.mk (rB HO607.out hb); replace HO610 := Aside0.mk (rB HO610.out hb); replace HB := Aside0.mk (below_step tb hb)))
     go_ret
     exact ⟨rE, tb⟩
    ·rw [if_neg c17] at H
     exact absurd H (by simp)

end Go.Proofs.Ytbchbmfmplfoiaa.PFnGroups
