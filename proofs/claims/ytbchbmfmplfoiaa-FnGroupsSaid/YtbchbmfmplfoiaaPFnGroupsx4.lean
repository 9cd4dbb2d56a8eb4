import Derived.Test.YtbchbmfmplfoiaaWSpanB
import Derived.Test.YtbchbmfmplfoiaaPFnGroupsx0
import Derived.Test.YtbchbmfmplfoiaaPFnGroupsx3
namespace Go.Proofs.Ytbchbmfmplfoiaa.PFnGroups
open Go.RowKit Go.Proofs.YtbchbmfmplfoiaaW.PrintWords Go.Proofs.YtbchbmfmplfoiaaW.PrintLast Go.Proofs.YtbchbmfmplfoiaaW.PrintMore
attribute [local go_sem] max2_int min2_int max_two min_two max_three min_three max_four min_four   -- for this text's walks alone
set_option linter.unusedVariables false
set_option linter.unusedSimpArgs false

/-! ### impl_hasLetters: function 56 -/
def impl_hasLetters.l0 : Nat → List Int → Int → List Int → Int → Int → Option (Bool)
 | 0, _, _, _, _, _ => none
 | k + 1, x0, x1, x7, x8, x9 => if x9 < x8 then (if 0 ≤ x9 then (if x9 < (x7.length : Int) then ((impl_size.f (rd x7 x9)).bind fun t285 => (if t285 > x1 then (some false) else (impl_hasLetters.l0 k x0 x1 x7 x8 (wrap64 (x9 + 1))))) else (none)) else (none)) else ((impl_IsWord.f k x0).bind fun t286 => (some t286))
def impl_hasLetters.f (k : Nat) (l0 : List Int) (a1 : Int) : Option (Bool) := impl_hasLetters.l0 k l0 a1 l0 (l0.length : Int) 0
set_option maxHeartbeats 8000000 in
set_option maxRecDepth 100000 in
theorem impl_hasLetters.calls (k : Nat) (A0 : Option Addr) (c0 : Nat) (l0 : List Int) (a1 : Int) (r : Bool) (w : World) (hr0 : Kd.C (Kd.int .i64) w A0 l0.length l0) (hc0 : l0.length ≤ c0) (h : impl_hasLetters.f k l0 a1 = some r) :
  Calls Try.prog 56 #[.slice A0 l0.length c0, .int .i64 a1] w fun e w' => e = .returned (.bool r) ∧ Below w.heap.size w w' := by
 have HR0 := Aside0.mk hr0
 have HC0 := Aside0.mk hc0
 clear hr0 hc0
 have HB := Aside0.mk (Below.refl w.heap.size w)
 have H : (impl_hasLetters.l0 k l0 a1 l0 (l0.length : Int) 0) = some r := h
 clear h
 have H' := Aside0.mk H
 clear H
 go_enter Try.func56, Try.ntmps56
 go_wp2
 go_loopg [9] k (fun kq v9 w' => ∃ (x9_1 : Int), v9 = .int .i64 x9_1 ∧ Aside0 (impl_hasLetters.l0 kq l0 a1 l0 (l0.length : Int) x9_1 = some r) ∧ Aside0 (kq ≤ k) ∧ Aside0 (Below w.heap.size w w'))
 case atStart => exact ⟨(0), rS, H', ⟨Nat.le_refl _⟩, ⟨tb⟩⟩
 case round =>
  clear H'
  try clear p2
  obtain ⟨x9_1, rfl, HA, HK1, HB⟩ := hrel
  cases gk with
  | zero => exact absurd HA.out (by simp [impl_hasLetters.l0])
  | succ k1 =>
   have H := HA.out
   clear HA
   simp only [impl_hasLetters.l0] at H
   obtain ⟨c3b0, H⟩ | ⟨c3b0, H⟩ := gi H
   ·obtain ⟨c4b0, H⟩ := gdt H
    obtain ⟨c5b0, H⟩ := gdt H
    obtain ⟨t285, A6, H⟩ := bs H
    by_cases c7 : t285 > a1
    ·rw [if_pos c7] at H
     have c7b0 : decide (a1 < t285) = true := decide_eq_true c7
     clear c7
     obtain rfl := Option.some.inj H
     have p284 : 0 ≤ (x9_1 : Int) := dT
     have q284 : x9_1 < (l0.length : Int) := dT
     obtain ⟨ad284, e284, hx284_0⟩ := Kd.at_int HR0.out x9_1 p284 q284
     cases e284
     replace hx284_0 := cB HB hx284_0
     replace p284 := eq_true p284
     replace q284 := eq_true q284
     go_wp2_with (first | (refine gL 67 (some 14) Try.func67 #[.int .i64 (rd l0 x9_1)] ?_; (with_reducible refine (impl_size.calls (rd l0 x9_1) t285 _ A6.out).mono ?_); rintro e w8 ⟨rfl, hb⟩; refine ⟨_, rfl, ?_⟩; replace HB := Aside0.mk (below_step tb hb)))
     go_ret
     exact ⟨rE, tb⟩
    ·rw [if_neg c7] at H
     have c7b0 : decide (a1 < t285) = false := decide_eq_false c7
     clear c7
     have H' := Aside0.mk H
     clear H
     have p284 : 0 ≤ (x9_1 : Int) := dT
     have q284 : x9_1 < (l0.length : Int) := dT
     obtain ⟨ad284, e284, hx284_0⟩ := Kd.at_int HR0.out x9_1 p284 q284
     cases e284
     replace hx284_0 := cB HB hx284_0
     replace p284 := eq_true p284
     replace q284 := eq_true q284
     go_wp2_with (first | (refine gL 67 (some 14) Try.func67 #[.int .i64 (rd l0 x9_1)] ?_; (with_reducible refine (impl_size.calls (rd l0 x9_1) t285 _ A6.out).mono ?_); rintro e w9 ⟨rfl, hb⟩; refine ⟨_, rfl, ?_⟩; replace HB := Aside0.mk (below_step tb hb)))
     go_roundg k1
     case measure => exact oK
     case rel => exact ⟨(wrap64 (x9_1 + 1)), rS, H', ⟨oK⟩, ⟨tb⟩⟩
   ·obtain ⟨t286, A10, H⟩ := bs H
    obtain rfl := Option.some.inj H
    go_wp2_with (first | (refine gL 62 (some 19) Try.func62 #[.slice A0 l0.length c0] ?_; (with_reducible refine (impl_IsWord.calls k1 _ _ l0 t286 _ ?side1 ?side2 A10.out).mono ?_); (case side1 => exact C_l (Kd.C_below HR0.out HB.out)); (case side2 => exact HC0.out); rintro e w' ⟨rfl, ⟨nd, rfl⟩⟩; refine ⟨_, rfl, ?_⟩))
    go_ret
    exact ⟨rE, tb⟩

/-! ### impl_isGroupWord: function 31 -/
def impl_isGroupWord.f (k : Nat) (a0 : Int) (l1 : List Int) : Option (Bool) := if a0 = 1 then ((impl_hasLetters.f k l1 (wrap64 (2 * a0))).bind fun t287 => (some t287)) else (if a0 = 2 then ((impl_hasLetters.f k l1 (wrap64 (2 * a0))).bind fun t288 => (some t288)) else (some false))
set_option maxHeartbeats 8000000 in
set_option maxRecDepth 100000 in
theorem impl_isGroupWord.calls (k : Nat) (a0 : Int) (A1 : Option Addr) (c1 : Nat) (l1 : List Int) (r : Bool) (w : World) (hr1 : Kd.C (Kd.int .i64) w A1 l1.length l1) (hc1 : l1.length ≤ c1) (h : impl_isGroupWord.f k a0 l1 = some r) :
  Calls Try.prog 31 #[.int .i64 a0, .slice A1 l1.length c1] w fun e w' => e = .returned (.bool r) ∧ Below w.heap.size w w' := by
 have HR1 := Aside0.mk hr1
 have HC1 := Aside0.mk hc1
 clear hr1 hc1
 have HB := Aside0.mk (Below.refl w.heap.size w)
 have H : (if a0 = 1 then ((impl_hasLetters.f k l1 (wrap64 (2 * a0))).bind fun t287 => (some t287)) else (if a0 = 2 then ((impl_hasLetters.f k l1 (wrap64 (2 * a0))).bind fun t288 => (some t288)) else (some false))) = some r := h
 clear h
 by_cases c3 : a0 = 1
 ·rw [if_pos c3] at H
  have c3b0 : (a0 == 1) = true := beq_iff_eq.mpr c3
  have c3b1 : (a0 != 1) = false := bne_eq_false_iff_eq.mpr c3
  clear c3
  obtain ⟨t287, A4, H⟩ := bs H
  obtain rfl := Option.some.inj H
  go_enter Try.func31, Try.ntmps31
  go_wp2_with (first | (go_at_call 56; (with_reducible refine (impl_hasLetters.calls k _ _ l1 (wrap64 (2 * a0)) t287 _ ?side1 ?side2 A4.out).mono ?_); (case side1 => exact C_l HR1.out); (case side2 => exact HC1.out); rintro e w5 ⟨rfl, hb⟩; replace HB := Aside0.mk (below_step tb hb)))
  go_ret
  exact ⟨rE, tb⟩
 ·rw [if_neg c3] at H
  have c3b0 : (a0 == 1) = false := beq_eq_false_iff_ne.mpr c3
  have c3b1 : (a0 != 1) = true := bne_iff_ne.mpr c3
  by_cases c6 : a0 = 2
  ·rw [if_pos c6] at H
   have c6b0 : (a0 == 2) = true := beq_iff_eq.mpr c6
   have c6b1 : (a0 != 2) = false := bne_eq_false_iff_eq.mpr c6
   clear c6
   obtain ⟨t288, A7, H⟩ := bs H
   obtain rfl := Option.some.inj H
   go_enter Try.func31, Try.ntmps31
   go_wp2_with (first | (go_at_call 56; (with_reducible refine (impl_hasLetters.calls k _ _ l1 (wrap64 (2 * a0)) t288 _ ?side1 ?side2 A7.out).mono ?_); (case side1 => exact C_l HR1.out); (case side2 => exact HC1.out); rintro e w8 ⟨rfl, hb⟩; replace HB := Aside0.mk (below_step tb hb)))
   go_ret
   exact ⟨rE, tb⟩
  ·rw [if_neg c6] at H
   have c6b0 : (a0 == 2) = false := beq_eq_false_iff_ne.mpr c6
   have c6b1 : (a0 != 2) = true := bne_iff_ne.mpr c6
   obtain rfl := Option.some.inj H
   go_enter Try.func31, Try.ntmps31
   go_wp2
   go_ret
   exact ⟨rE, tb⟩

/-! ### impl_reduce: function 32 -/
def impl_reduce.l0 : Nat → List Int → List Int → Int → Int → Option (List Int)
 | 0, _, _, _, _ => none
 | k + 1, x3, x8, x9, x10 => if x10 < x9 then (if 0 ≤ x10 then (if x10 < (x8.length : Int) then (if (x3.length : Int) > 0 then (if 0 ≤ (wrap64 ((x3.length : Int) - 1)) then (if (wrap64 ((x3.length : Int) - 1)) < (x3.length : Int) then (if (rd x3 (wrap64 ((x3.length : Int) - 1))) = (wrap64 (-(rd x8 x10))) then (if (wrap64 ((x3.length : Int) - 1)) ≤ (x3.length : Int) then (impl_reduce.l0 k (x3.take ((wrap64 ((x3.length : Int) - 1)) : Int).toNat) x8 x9 (wrap64 (x10 + 1))) else (none)) else (if x3.length < 17592186044416 then (impl_reduce.l0 k (x3 ++ [rd x8 x10]) x8 x9 (wrap64 (x10 + 1))) else (none))) else (none)) else (none)) else (if x3.length < 17592186044416 then (impl_reduce.l0 k (x3 ++ [rd x8 x10]) x8 x9 (wrap64 (x10 + 1))) else (none))) else (none)) else (none)) else (some x3)
def impl_reduce.f (k : Nat) (l0 : List Int) : Option (List Int) := impl_reduce.l0 k (([] : List Int)) l0 (l0.length : Int) 0
set_option maxHeartbeats 8000000 in
set_option maxRecDepth 100000 in
theorem impl_reduce.calls (k : Nat) (A0 : Option Addr) (c0 : Nat) (l0 : List Int) (r : List Int) (w : World) (hr0 : Kd.C (Kd.int .i64) w A0 l0.length l0) (hc0 : l0.length ≤ c0) (h : impl_reduce.f k l0 = some r) :
  Calls Try.prog 32 #[.slice A0 l0.length c0] w fun e w' => ∃ v0_ : Value, e = .returned (v0_) ∧ Kd.R (Kd.int .i64) 3 w' w.heap.size (fun _ => True) v0_ r ∧ Below w.heap.size w w' := by
 have HR0 := Aside0.mk hr0
 have HC0 := Aside0.mk hc0
 clear hr0 hc0
 have HB := Aside0.mk (Below.refl w.heap.size w)
 have H : (impl_reduce.l0 k (([] : List Int)) l0 (l0.length : Int) 0) = some r := h
 clear h
 generalize hy289 : (([] : List Int) : List Int) = y289 at H
 have Ny289 := Aside0.mk hy289.symm; clear hy289
 have H' := Aside0.mk H
 clear H
 go_enter Try.func32, Try.ntmps32
 go_wp2_with (first | ((with_reducible refine gate_dst (N := 7) rfl ?_); refine Kd.R_lit (Kd.int .i64) _ 3 ?hg (N := 7) ?hd (xs := ([] : List Int)) (inner := []) (ok := fun _ => True) (okp := fun _ => True) ?hr ?hp (fun _ hk => hk) trivial (Below.refl _ _) (Nat.le_refl _) (by simp) ?_; (case hd => rfl); (case hg => rfl); (case hr => exact gS); (case hp => exact (Reps.none _ _)); intro v290 w2 ho3 hb hg_ hnew_; clear hg_ hnew_; (first | rw [← Ny289.out] at ho3 | (simp only [Int.reduceToNat] at ho3; rw [← Ny289.out] at ho3)); have HO291 := Aside0.mk (Kd.R_lower ho3 (below_size tb)); replace HB := Aside0.mk (below_step tb hb); clear hb ho3))
 go_loopg [3, 10] k (fun kq v3 v10 w' => ∃ (x3_1 : List Int) (x10_1 : Int), v10 = .int .i64 x10_1 ∧ Aside0 (impl_reduce.l0 kq x3_1 l0 (l0.length : Int) x10_1 = some r) ∧ Aside0 (kq ≤ k) ∧ Aside0 (Kd.R (Kd.int .i64) 3 w' w.heap.size (fun _ => True) v3 x3_1) ∧ Aside0 (Below w.heap.size w w'))
 case atStart => exact ⟨(y289), (0), rS, H', ⟨Nat.le_refl _⟩, ⟨R_l HO291.out⟩, ⟨tb⟩⟩
 case round =>
  clear H'
  try clear p2
  try clear c3
  obtain ⟨x3_1, x10_1, rfl, HA, HK1, HO_3, HB⟩ := hrel
  cases gk with
  | zero => exact absurd HA.out (by simp [impl_reduce.l0])
  | succ k1 =>
   have H := HA.out
   clear HA
   simp only [impl_reduce.l0] at H
   obtain ⟨c4b0, H⟩ | ⟨c4b0, H⟩ := gi H
   ·obtain ⟨c5b0, H⟩ := gdt H
    obtain ⟨c6b0, H⟩ := gdt H
    by_cases c7 : (x3_1.length : Int) > 0
    ·rw [if_pos c7] at H
     have c7b0 : decide (0 < (x3_1.length : Int)) = true := decide_eq_true c7
     have c7b1 : decide (0 < x3_1.length) = true := decide_eq_true (by omega)
     clear c7
     obtain ⟨ji8, hji8⟩ : ∃ j_ : Int, (wrap64 ((x3_1.length : Int) - 1)) = j_ := ⟨_, rfl⟩
     replace H : (if 0 ≤ (ji8) then (if (ji8) < (x3_1.length : Int) then (if (rd x3_1 (ji8)) = (wrap64 (-(rd l0 x10_1))) then (if (ji8) ≤ (x3_1.length : Int) then (impl_reduce.l0 k1 (x3_1.take ((ji8) : Int).toNat) l0 (l0.length : Int) (wrap64 (x10_1 + 1))) else (none)) else (if x3_1.length < 17592186044416 then (impl_reduce.l0 k1 (x3_1 ++ [rd l0 x10_1]) l0 (l0.length : Int) (wrap64 (x10_1 + 1))) else (none))) else (none)) else (none)) = some r := by first | (rw [hji8] at H; exact H) | (simp only [hji8] at H ⊢; exact H)
     have hji8w : (IntKind.i64.wrap ((x3_1.length : Int) - 1)) = ji8 := (i64_w _).trans hji8
     obtain ⟨c9b0, H⟩ := gdt H
     obtain ⟨c10b0, H⟩ := gdt H
     by_cases c11 : (rd x3_1 (ji8)) = (wrap64 (-(rd l0 x10_1)))
     ·rw [if_pos c11] at H
      have c11b0 : ((rd x3_1 (ji8)) == (wrap64 (-(rd l0 x10_1)))) = true := beq_iff_eq.mpr c11
      have c11b1 : ((rd x3_1 (ji8)) != (wrap64 (-(rd l0 x10_1)))) = false := bne_eq_false_iff_eq.mpr c11
      clear c11
      obtain ⟨c12, H⟩ := gd H
      have c12b0 := eq_true c12
      have c12b1 : decide ((ji8) ≤ (x3_1.length : Int)) = true := decide_eq_true c12
      clear c12
      generalize hy294 : (x3_1.take ((ji8) : Int).toNat : List Int) = y294 at H
      have Ny294 := Aside0.mk hy294.symm; clear hy294
      have H' := Aside0.mk H
      clear H
      have p292 : 0 ≤ (x10_1 : Int) := dT
      have q292 : x10_1 < (l0.length : Int) := dT
      obtain ⟨ad292, e292, hx292_0⟩ := Kd.at_int HR0.out x10_1 p292 q292
      cases e292
      replace hx292_0 := cB HB hx292_0
      replace p292 := eq_true p292
      replace q292 := eq_true q292
      obtain ⟨Ao13, co13, eo13⟩ := Kd.R_slice HO_3.out
      subst eo13
      have p293 : 0 ≤ ((ji8) : Int) := dT
      have q293 : (ji8) < (x3_1.length : Int) := dT
      obtain ⟨ad293, e293, hx293_0⟩ := Kd.at_int (Kd.R_reads' HO_3.out).2.2 (ji8) p293 q293
      cases e293
      replace p293 := eq_true p293
      replace q293 := eq_true q293
      have q14 : ((ji8) : Int) ≤ ((x3_1.length : Int) : Int) := dT
      obtain ⟨i014, hi014, _, hsz14, _⟩ := info_parts info3
      have hcut14 := cut_to (P := Try.prog) 24 3 .i64 Try.underlying24 hi014 (some ad293) x3_1.length co13 (ji8) dT q14 (Kd.R_reads' HO_3.out).2.1
      have hr14 := Kd.R_take (m := ((ji8) : Int).toNat) HO_3.out (by omega)
      have hy14 : y294.length = ((ji8) : Int).toNat := (by rw [Ny294.out, List.length_take]; omega)
      rw [← Ny294.out] at hr14
      rw [← hy14] at hr14 hcut14
      clear hy14 hi014 hsz14 HO_3
      have HO296 := Aside0.mk hr14
      clear hr14
      replace q14 := eq_true q14
      go_wp2
      go_roundg k1
      case measure => exact oK
      case rel => exact ⟨(y294), (wrap64 (x10_1 + 1)), rS, H', ⟨oK⟩, ⟨R_l HO296.out⟩, ⟨tb⟩⟩
     ·rw [if_neg c11] at H
      have c11b0 : ((rd x3_1 (ji8)) == (wrap64 (-(rd l0 x10_1)))) = false := beq_eq_false_iff_ne.mpr c11
      have c11b1 : ((rd x3_1 (ji8)) != (wrap64 (-(rd l0 x10_1)))) = true := bne_iff_ne.mpr c11
      obtain ⟨LMc15, H⟩ := gda H
      generalize hy297 : (x3_1 ++ [rd l0 x10_1] : List Int) = y297 at H
      have Ny297 := Aside0.mk hy297.symm; clear hy297
      have H' := Aside0.mk H
      clear H
      have p292 : 0 ≤ (x10_1 : Int) := dT
      have q292 : x10_1 < (l0.length : Int) := dT
      obtain ⟨ad292, e292, hx292_0⟩ := Kd.at_int HR0.out x10_1 p292 q292
      cases e292
      replace hx292_0 := cB HB hx292_0
      replace p292 := eq_true p292
      replace q292 := eq_true q292
      obtain ⟨Ao16, co16, eo16⟩ := Kd.R_slice HO_3.out
      subst eo16
      have p293 : 0 ≤ ((ji8) : Int) := dT
      have q293 : (ji8) < (x3_1.length : Int) := dT
      obtain ⟨ad293, e293, hx293_0⟩ := Kd.at_int (Kd.R_reads' HO_3.out).2.2 (ji8) p293 q293
      cases e293
      replace p293 := eq_true p293
      replace q293 := eq_true q293
      go_wp2_with (first | ((with_reducible refine gate_builtin (b := .append) (xs := #[.tmp 32, .tmp 34]) rfl ?_); at_builtin; refine Kd.R_append (Kd.int .i64) (w0 := w) w.heap.size rfl (.tmp 32) (.tmp 34) 24 3 (.int .i64 0) 8 rfl Try.underlying24 info3 rfl (by decide) (by omega) (.slice (some ad293) x3_1.length co16) x3_1 (rd l0 x10_1) [.int .i64 (rd l0 x10_1)] (fun _ => True) (fun _ => False) rfl rfl ?aP (fun _ hk => hk.elim) ?aF ?aO ?aB ?aS ?aL ?_; (case aP => exact rfl); (case aB => exact tb); (case aF => exact (fun _ _ => trivial)); (case aO => exact (R_l HO_3.out)); (case aS => exact (below_size tb)); (case aL => have := LMc15.out; omega); intro v298 w17 ho hb hg hat; rw [← Ny297.out] at ho; replace HB := Aside0.mk (hb); have HO299 := Aside0.mk (ho); clear HO_3; clear ho hb hg hat))
      go_roundg k1
      case measure => exact oK
      case rel => exact ⟨(y297), (wrap64 (x10_1 + 1)), rS, H', ⟨oK⟩, ⟨R_l HO299.out⟩, ⟨tb⟩⟩
    ·rw [if_neg c7] at H
     have c7b0 : decide (0 < (x3_1.length : Int)) = false := decide_eq_false c7
     have c7b1 : decide (0 < x3_1.length) = false := decide_eq_false (by omega)
     clear c7
     obtain ⟨LMc18, H⟩ := gda H
     generalize hy300 : (x3_1 ++ [rd l0 x10_1] : List Int) = y300 at H
     have Ny300 := Aside0.mk hy300.symm; clear hy300
     have H' := Aside0.mk H
     clear H
     have p292 : 0 ≤ (x10_1 : Int) := dT
     have q292 : x10_1 < (l0.length : Int) := dT
     obtain ⟨ad292, e292, hx292_0⟩ := Kd.at_int HR0.out x10_1 p292 q292
     cases e292
     replace hx292_0 := cB HB hx292_0
     replace p292 := eq_true p292
     replace q292 := eq_true q292
     obtain ⟨Ao19, co19, eo19⟩ := Kd.R_slice HO_3.out
     subst eo19
     go_wp2_with (first | ((with_reducible refine gate_builtin (b := .append) (xs := #[.tmp 32, .tmp 34]) rfl ?_); at_builtin; refine Kd.R_append (Kd.int .i64) (w0 := w) w.heap.size rfl (.tmp 32) (.tmp 34) 24 3 (.int .i64 0) 8 rfl Try.underlying24 info3 rfl (by decide) (by omega) (.slice Ao19 x3_1.length co19) x3_1 (rd l0 x10_1) [.int .i64 (rd l0 x10_1)] (fun _ => True) (fun _ => False) rfl rfl ?aP (fun _ hk => hk.elim) ?aF ?aO ?aB ?aS ?aL ?_; (case aP => exact rfl); (case aB => exact tb); (case aF => exact (fun _ _ => trivial)); (case aO => exact (R_l HO_3.out)); (case aS => exact (below_size tb)); (case aL => have := LMc18.out; omega); intro v301 w20 ho hb hg hat; rw [← Ny300.out] at ho; replace HB := Aside0.mk (hb); have HO302 := Aside0.mk (ho); clear HO_3; clear ho hb hg hat))
     go_roundg k1
     case measure => exact oK
     case rel => exact ⟨(y300), (wrap64 (x10_1 + 1)), rS, H', ⟨oK⟩, ⟨R_l HO302.out⟩, ⟨tb⟩⟩
   ·obtain rfl := Option.some.inj H
    go_wp2
    go_ret
    exact ⟨_, rE, R_l HO_3.out, tb⟩

/-! ### impl_relator: function 33 -/
def impl_relator.f (a0 : Int) : Option (List Int) := if a0 = 1 then (some (([1, 2, (-1), (-2)] : List Int))) else (some (([1, 2, (-1), (-2), 3, 4, (-3), (-4)] : List Int)))
set_option maxHeartbeats 8000000 in
set_option maxRecDepth 100000 in
theorem impl_relator.calls (a0 : Int) (r : List Int) (w : World) (h : impl_relator.f a0 = some r) :
  Calls Try.prog 33 #[.int .i64 a0] w fun e w' => ∃ v0_ : Value, e = .returned (v0_) ∧ Kd.R (Kd.int .i64) 3 w' w.heap.size (fun _ => True) v0_ r ∧ Below w.heap.size w w' := by
 have HB := Aside0.mk (Below.refl w.heap.size w)
 have H : (if a0 = 1 then (some (([1, 2, (-1), (-2)] : List Int))) else (some (([1, 2, (-1), (-2), 3, 4, (-3), (-4)] : List Int)))) = some r := h
 clear h
 by_cases c2 : a0 = 1
 ·rw [if_pos c2] at H
  have c2b0 : (a0 == 1) = true := beq_iff_eq.mpr c2
  have c2b1 : (a0 != 1) = false := bne_eq_false_iff_eq.mpr c2
  clear c2
  generalize hy303 : (([1, 2, (-1), (-2)] : List Int) : List Int) = y303 at H
  have Ny303 := Aside0.mk hy303.symm; clear hy303
  obtain rfl := Option.some.inj H
  go_enter Try.func33, Try.ntmps33
  go_wp2_with (first | ((with_reducible refine gate_dst (N := 5) rfl ?_); refine Kd.R_lit (Kd.int .i64) _ 3 ?hg (N := 5) ?hd (xs := ([1, 2, (-1), (-2)] : List Int)) (inner := [.int .i64 1, .int .i64 2, .int .i64 (-1), .int .i64 (-2)]) (ok := fun _ => True) (okp := fun _ => True) ?hr ?hp (fun _ hk => hk) trivial (Below.refl _ _) (Nat.le_refl _) (by simp) ?_; (case hd => rfl); (case hg => rfl); (case hr => exact gS); (case hp => exact (Reps.one (show Kd.M (Kd.int .i64) _ _ _ 1 [.int .i64 1] from rfl) (Reps.one (show Kd.M (Kd.int .i64) _ _ _ 2 [.int .i64 2] from rfl) (Reps.one (show Kd.M (Kd.int .i64) _ _ _ (-1) [.int .i64 (-1)] from rfl) (Reps.one (show Kd.M (Kd.int .i64) _ _ _ (-2) [.int .i64 (-2)] from rfl) (Reps.none _ _)))))); intro v304 w3 ho4 hb hg_ hnew_; clear hg_ hnew_; (first | rw [← Ny303.out] at ho4 | (simp only [Int.reduceToNat] at ho4; rw [← Ny303.out] at ho4)); have HO305 := Aside0.mk (Kd.R_lower ho4 (below_size tb)); replace HB := Aside0.mk (below_step tb hb); clear hb ho4))
  go_ret
  exact ⟨_, rE, R_l HO305.out, tb⟩
 ·rw [if_neg c2] at H
  have c2b0 : (a0 == 1) = false := beq_eq_false_iff_ne.mpr c2
  have c2b1 : (a0 != 1) = true := bne_iff_ne.mpr c2
  generalize hy306 : (([1, 2, (-1), (-2), 3, 4, (-3), (-4)] : List Int) : List Int) = y306 at H
  have Ny306 := Aside0.mk hy306.symm; clear hy306
  obtain rfl := Option.some.inj H
  go_enter Try.func33, Try.ntmps33
  go_wp2_with (first | ((with_reducible refine gate_dst (N := 6) rfl ?_); refine Kd.R_lit (Kd.int .i64) _ 3 ?hg (N := 6) ?hd (xs := ([1, 2, (-1), (-2), 3, 4, (-3), (-4)] : List Int)) (inner := [.int .i64 1, .int .i64 2, .int .i64 (-1), .int .i64 (-2), .int .i64 3, .int .i64 4, .int .i64 (-3), .int .i64 (-4)]) (ok := fun _ => True) (okp := fun _ => True) ?hr ?hp (fun _ hk => hk) trivial (Below.refl _ _) (Nat.le_refl _) (by simp) ?_; (case hd => rfl); (case hg => rfl); (case hr => exact gS); (case hp => exact (Reps.one (show Kd.M (Kd.int .i64) _ _ _ 1 [.int .i64 1] from rfl) (Reps.one (show Kd.M (Kd.int .i64) _ _ _ 2 [.int .i64 2] from rfl) (Reps.one (show Kd.M (Kd.int .i64) _ _ _ (-1) [.int .i64 (-1)] from rfl) (Reps.one (show Kd.M (Kd.int .i64) _ _ _ (-2) [.int .i64 (-2)] from rfl) (Reps.one (show Kd.M (Kd.int .i64) _ _ _ 3 [.int .i64 3] from rfl) (Reps.one (show Kd.M (Kd.int .i64) _ _ _ 4 [.int .i64 4] from rfl) (Reps.one (show Kd.M (Kd.int .i64) _ _ _ (-3) [.int .i64 (-3)] from rfl) (Reps.one (show Kd.M (Kd.int .i64) _ _ _ (-4) [.int .i64 (-4)] from rfl) (Reps.none _ _)))))))))); intro v307 w5 ho6 hb hg_ hnew_; clear hg_ hnew_; (first | rw [← Ny306.out] at ho6 | (simp only [Int.reduceToNat] at ho6; rw [← Ny306.out] at ho6)); have HO308 := Aside0.mk (Kd.R_lower ho6 (below_size tb)); replace HB := Aside0.mk (below_step tb hb); clear hb ho6))
  go_ret
  exact ⟨_, rE, R_l HO308.out, tb⟩

/-! ### impl_inverse: function 34 -/
def impl_inverse.l0 : Nat → List Int → List Int → Int → Option (List Int)
 | 0, _, _, _ => none
 | k + 1, x0, x3, x4 => if x4 ≥ 0 then (if 0 ≤ x4 then (if x4 < (x0.length : Int) then (if x3.length < 17592186044416 then (impl_inverse.l0 k x0 (x3 ++ [wrap64 (-(rd x0 x4))]) (wrap64 (x4 - 1))) else (none)) else (none)) else (none)) else (some x3)
def impl_inverse.f (k : Nat) (l0 : List Int) : Option (List Int) := impl_inverse.l0 k l0 (([] : List Int)) (wrap64 ((l0.length : Int) - 1))
set_option maxHeartbeats 8000000 in
set_option maxRecDepth 100000 in
theorem impl_inverse.calls (k : Nat) (A0 : Option Addr) (c0 : Nat) (l0 : List Int) (r : List Int) (w : World) (hr0 : Kd.C (Kd.int .i64) w A0 l0.length l0) (hc0 : l0.length ≤ c0) (h : impl_inverse.f k l0 = some r) :
  Calls Try.prog 34 #[.slice A0 l0.length c0] w fun e w' => ∃ v0_ : Value, e = .returned (v0_) ∧ Kd.R (Kd.int .i64) 3 w' w.heap.size (fun _ => True) v0_ r ∧ Below w.heap.size w w' := by
 have HR0 := Aside0.mk hr0
 have HC0 := Aside0.mk hc0
 clear hr0 hc0
 have HB := Aside0.mk (Below.refl w.heap.size w)
 have H : (impl_inverse.l0 k l0 (([] : List Int)) (wrap64 ((l0.length : Int) - 1))) = some r := h
 clear h
 generalize hy309 : (([] : List Int) : List Int) = y309 at H
 have Ny309 := Aside0.mk hy309.symm; clear hy309
 have H' := Aside0.mk H
 clear H
 go_enter Try.func34, Try.ntmps34
 go_wp2_with (first | ((with_reducible refine gate_dst (N := 5) rfl ?_); refine Kd.R_lit (Kd.int .i64) _ 3 ?hg (N := 5) ?hd (xs := ([] : List Int)) (inner := []) (ok := fun _ => True) (okp := fun _ => True) ?hr ?hp (fun _ hk => hk) trivial (Below.refl _ _) (Nat.le_refl _) (by simp) ?_; (case hd => rfl); (case hg => rfl); (case hr => exact gS); (case hp => exact (Reps.none _ _)); intro v310 w2 ho3 hb hg_ hnew_; clear hg_ hnew_; (first | rw [← Ny309.out] at ho3 | (simp only [Int.reduceToNat] at ho3; rw [← Ny309.out] at ho3)); have HO311 := Aside0.mk (Kd.R_lower ho3 (below_size tb)); replace HB := Aside0.mk (below_step tb hb); clear hb ho3))
 go_loopg [3, 4] k (fun kq v3 v4 w' => ∃ (x3_1 : List Int) (x4_1 : Int), v4 = .int .i64 x4_1 ∧ Aside0 (impl_inverse.l0 kq l0 x3_1 x4_1 = some r) ∧ Aside0 (kq ≤ k) ∧ Aside0 (Kd.R (Kd.int .i64) 3 w' w.heap.size (fun _ => True) v3 x3_1) ∧ Aside0 (Below w.heap.size w w'))
 case atStart => exact ⟨(y309), (wrap64 ((l0.length : Int) - 1)), rS, H', ⟨Nat.le_refl _⟩, ⟨R_l HO311.out⟩, ⟨tb⟩⟩
 case round =>
  clear H'
  try clear p2
  try clear c3
  obtain ⟨x3_1, x4_1, rfl, HA, HK1, HO_3, HB⟩ := hrel
  cases gk with
  | zero => exact absurd HA.out (by simp [impl_inverse.l0])
  | succ k1 =>
   have H := HA.out
   clear HA
   simp only [impl_inverse.l0] at H
   by_cases c4 : x4_1 ≥ 0
   ·rw [if_pos c4] at H
    have c4b0 : decide (0 ≤ x4_1) = true := decide_eq_true c4
    clear c4
    obtain ⟨c5b0, H⟩ := gdt H
    obtain ⟨c6b0, H⟩ := gdt H
    obtain ⟨LMc7, H⟩ := gda H
    generalize hy313 : (x3_1 ++ [wrap64 (-(rd l0 x4_1))] : List Int) = y313 at H
    have Ny313 := Aside0.mk hy313.symm; clear hy313
    have H' := Aside0.mk H
    clear H
    have p312 : 0 ≤ (x4_1 : Int) := dT
    have q312 : x4_1 < (l0.length : Int) := dT
    obtain ⟨ad312, e312, hx312_0⟩ := Kd.at_int HR0.out x4_1 p312 q312
    cases e312
    replace hx312_0 := cB HB hx312_0
    replace p312 := eq_true p312
    replace q312 := eq_true q312
    go_wp2_with (first | ((with_reducible refine gate_builtin (b := .append) (xs := #[.tmp 13, .tmp 19]) rfl ?_); at_builtin; refine Kd.R_append (Kd.int .i64) (w0 := w) w.heap.size rfl (.tmp 13) (.tmp 19) 24 3 (.int .i64 0) 8 rfl Try.underlying24 info3 rfl (by decide) (by omega) u3 x3_1 (wrap64 (-(rd l0 x4_1))) [.int .i64 (wrap64 (-(rd l0 x4_1)))] (fun _ => True) (fun _ => False) rfl rfl ?aP (fun _ hk => hk.elim) ?aF ?aO ?aB ?aS ?aL ?_; (case aP => exact rfl); (case aB => exact tb); (case aF => exact (fun _ _ => trivial)); (case aO => exact (R_l HO_3.out)); (case aS => exact (below_size tb)); (case aL => have := LMc7.out; omega); intro v314 w8 ho hb hg hat; rw [← Ny313.out] at ho; replace HB := Aside0.mk (hb); have HO315 := Aside0.mk (ho); clear HO_3; clear ho hb hg hat))
    go_roundg k1
    case measure => exact oK
    case rel => exact ⟨(y313), (wrap64 (x4_1 - 1)), rS, H', ⟨oK⟩, ⟨R_l HO315.out⟩, ⟨tb⟩⟩
   ·rw [if_neg c4] at H
    have c4b0 : decide (0 ≤ x4_1) = false := decide_eq_false c4
    clear c4
    obtain rfl := Option.some.inj H
    go_wp2
    go_ret
    exact ⟨_, rE, R_l HO_3.out, tb⟩

/-! ### impl_common: function 35 -/
def impl_common.l0 : Nat → List Int → Int → List Int → Int → Int → Option (Int)
 | 0, _, _, _, _, _ => none
 | k + 1, x0, x1, x2, x3, x9 => if x9 < (x2.length : Int) then (if (wrap64 (x1 + x9)) < (x0.length : Int) then (if 0 ≤ (wrap64 (x1 + x9)) then (if (x2.length : Int) = 0 then (none) else (if 0 ≤ (Int.tmod (wrap64 (x3 + x9)) (x2.length : Int)) then (if (Int.tmod (wrap64 (x3 + x9)) (x2.length : Int)) < (x2.length : Int) then (if (rd x0 (wrap64 (x1 + x9))) = (rd x2 (Int.tmod (wrap64 (x3 + x9)) (x2.length : Int))) then (impl_common.l0 k x0 x1 x2 x3 (wrap64 (x9 + 1))) else (some x9)) else (none)) else (none))) else (none)) else (some x9)) else (some x9)
def impl_common.f (k : Nat) (l0 : List Int) (a1 : Int) (l2 : List Int) (a3 : Int) : Option (Int) := impl_common.l0 k l0 a1 l2 a3 0
set_option maxHeartbeats 8000000 in
set_option maxRecDepth 100000 in
theorem impl_common.calls (k : Nat) (A0 : Option Addr) (c0 : Nat) (l0 : List Int) (a1 : Int) (A2 : Option Addr) (c2 : Nat) (l2 : List Int) (a3 : Int) (r : Int) (w : World) (hr0 : Kd.C (Kd.int .i64) w A0 l0.length l0) (hc0 : l0.length ≤ c0) (hr2 : Kd.C (Kd.int .i64) w A2 l2.length l2) (hc2 : l2.length ≤ c2) (h : impl_common.f k l0 a1 l2 a3 = some r) :
  Calls Try.prog 35 #[.slice A0 l0.length c0, .int .i64 a1, .slice A2 l2.length c2, .int .i64 a3] w fun e w' => e = .returned (.int .i64 r) ∧ Drawn0 w w' := by
 have HR0 := Aside0.mk hr0
 have HC0 := Aside0.mk hc0
 clear hr0 hc0
 have HR2 := Aside0.mk hr2
 have HC2 := Aside0.mk hc2
 clear hr2 hc2
 have H : (impl_common.l0 k l0 a1 l2 a3 0) = some r := h
 clear h
 have H' := Aside0.mk H
 clear H
 go_enter Try.func35, Try.ntmps35
 go_wp2
 repeat (go_quiet (fail); try go_wp2)
 go_loopg [9] k (fun kq v9 w' => ∃ (x9_1 : Int), v9 = .int .i64 x9_1 ∧ Aside0 (impl_common.l0 kq l0 a1 l2 a3 x9_1 = some r) ∧ Aside0 (kq ≤ k) ∧ Drawn0 w w')
 case atStart => exact ⟨(0), rS, H', ⟨Nat.le_refl _⟩, tD⟩
 case round =>
  clear H'
  try clear c2
  try clear p2
  try clear c3
  obtain ⟨x9_1, rfl, HA, HK1, ⟨m1, rfl⟩⟩ := hrel
  cases gk with
  | zero => exact absurd HA.out (by simp [impl_common.l0])
  | succ k1 =>
   have H := HA.out
   clear HA
   simp only [impl_common.l0] at H
   obtain ⟨c5b0, H⟩ | ⟨c5b0, H⟩ := gi H
   ·obtain ⟨c6b0, H⟩ | ⟨c6b0, H⟩ := gi H
    ·obtain ⟨ji7, hji7⟩ : ∃ j_ : Int, (wrap64 (a1 + x9_1)) = j_ := ⟨_, rfl⟩
     replace H : (if 0 ≤ (ji7) then (if (l2.length : Int) = 0 then (none) else (if 0 ≤ (Int.tmod (wrap64 (a3 + x9_1)) (l2.length : Int)) then (if (Int.tmod (wrap64 (a3 + x9_1)) (l2.length : Int)) < (l2.length : Int) then (if (rd l0 (ji7)) = (rd l2 (Int.tmod (wrap64 (a3 + x9_1)) (l2.length : Int))) then (impl_common.l0 k1 l0 a1 l2 a3 (wrap64 (x9_1 + 1))) else (some x9_1)) else (none)) else (none))) else (none)) = some r := by first | (rw [hji7] at H; exact H) | (simp only [hji7] at H ⊢; exact H)
     (try rw [hji7] at c6b0)
     have hji7w : (IntKind.i64.wrap (a1 + x9_1)) = ji7 := (i64_w _).trans hji7
     obtain ⟨c8b0, H⟩ := gdt H
     by_cases c9 : (l2.length : Int) = 0
     ·rw [if_pos c9] at H
      exact absurd H (by simp)
     ·rw [if_neg c9] at H
      have c9b0 : ((l2.length : Int) == 0) = false := beq_eq_false_iff_ne.mpr c9
      have c9b1 : ((l2.length : Int) != 0) = true := bne_iff_ne.mpr c9
      have c9b2 : ¬ (l2 = []) := fun h_ => c9 (by rw [h_]; rfl)
      obtain ⟨ji10, hji10⟩ : ∃ j_ : Int, (Int.tmod (wrap64 (a3 + x9_1)) (l2.length : Int)) = j_ := ⟨_, rfl⟩
      replace H : (if 0 ≤ (ji10) then (if (ji10) < (l2.length : Int) then (if (rd l0 (ji7)) = (rd l2 (ji10)) then (impl_common.l0 k1 l0 a1 l2 a3 (wrap64 (x9_1 + 1))) else (some x9_1)) else (none)) else (none)) = some r := by first | (rw [hji10] at H; exact H) | (simp only [hji10] at H ⊢; exact H)
      obtain ⟨c11b0, H⟩ := gdt H
      obtain ⟨c12b0, H⟩ := gdt H
      by_cases c13 : (rd l0 (ji7)) = (rd l2 (ji10))
      ·rw [if_pos c13] at H
       have c13b0 : ((rd l0 (ji7)) == (rd l2 (ji10))) = true := beq_iff_eq.mpr c13
       have c13b1 : ((rd l0 (ji7)) != (rd l2 (ji10))) = false := bne_eq_false_iff_eq.mpr c13
       clear c13
       have H' := Aside0.mk H
       clear H
       have p316 : 0 ≤ ((ji7) : Int) := dT
       have q316 : (ji7) < (l0.length : Int) := dT
       obtain ⟨ad316, e316, hx316_0⟩ := Kd.at_int HR0.out (ji7) p316 q316
       cases e316
       replace p316 := eq_true p316
       replace q316 := eq_true q316
       have p317 : 0 ≤ ((ji10) : Int) := dT
       have q317 : (ji10) < (l2.length : Int) := dT
       obtain ⟨ad317, e317, hx317_0⟩ := Kd.at_int HR2.out (ji10) p317 q317
       cases e317
       replace p317 := eq_true p317
       replace q317 := eq_true q317
       go_wp2
       repeat (go_quiet (fail); try go_wp2)
       go_roundg k1
       case measure => exact oK
       case rel => exact ⟨(wrap64 (x9_1 + 1)), rS, H', ⟨oK⟩, tD⟩
      ·rw [if_neg c13] at H
       have c13b0 : ((rd l0 (ji7)) == (rd l2 (ji10))) = false := beq_eq_false_iff_ne.mpr c13
       have c13b1 : ((rd l0 (ji7)) != (rd l2 (ji10))) = true := bne_iff_ne.mpr c13
       obtain rfl := Option.some.inj H
       have p316 : 0 ≤ ((ji7) : Int) := dT
       have q316 : (ji7) < (l0.length : Int) := dT
       obtain ⟨ad316, e316, hx316_0⟩ := Kd.at_int HR0.out (ji7) p316 q316
       cases e316
       replace p316 := eq_true p316
       replace q316 := eq_true q316
       have p317 : 0 ≤ ((ji10) : Int) := dT
       have q317 : (ji10) < (l2.length : Int) := dT
       obtain ⟨ad317, e317, hx317_0⟩ := Kd.at_int HR2.out (ji10) p317 q317
       cases e317
       replace p317 := eq_true p317
       replace q317 := eq_true q317
       go_wp2
       repeat (go_quiet (fail); try go_wp2)
       go_ret
       exact ⟨by first | rfl | (simp; done) | (simp only [← hji7, ← hji10] <;> (first | rfl | simp)) | (simp [*]; done), tD⟩
    ·obtain rfl := Option.some.inj H
     go_wp2
     repeat (go_quiet (fail); try go_wp2)
     go_ret
     exact ⟨rS, tD⟩
   ·obtain rfl := Option.some.inj H
    go_wp2
    repeat (go_quiet (fail); try go_wp2)
    go_ret
    exact ⟨rS, tD⟩

/-! ### impl_copyOf: function 37 -/
def impl_copyOf.f (l0 : List Int) : Option (List Int) := (some (([] : List Int) : List Int)).bind fun y318 => (if y318.length + l0.length < 17592186044416 then (some (y318 ++ l0)) else (none))
set_option maxHeartbeats 8000000 in
set_option maxRecDepth 100000 in
theorem impl_copyOf.calls (A0 : Option Addr) (c0 : Nat) (l0 : List Int) (r : List Int) (w : World) (hr0 : Kd.C (Kd.int .i64) w A0 l0.length l0) (hc0 : l0.length ≤ c0) (h : impl_copyOf.f l0 = some r) :
  Calls Try.prog 37 #[.slice A0 l0.length c0] w fun e w' => ∃ v0_ : Value, e = .returned (v0_) ∧ Kd.R (Kd.int .i64) 3 w' w.heap.size (fun _ => True) v0_ r ∧ Below w.heap.size w w' := by
 have HR0 := Aside0.mk hr0
 have HC0 := Aside0.mk hc0
 clear hr0 hc0
 have HB := Aside0.mk (Below.refl w.heap.size w)
 have H : ((some (([] : List Int) : List Int)).bind fun y318 => (if y318.length + l0.length < 17592186044416 then (some (y318 ++ l0)) else (none))) = some r := h
 clear h
 obtain ⟨y318, Ny318, H⟩ := bn H
 by_cases c2 : y318.length + l0.length < 17592186044416
 ·rw [if_pos c2] at H
  have LMc2 := Aside0.mk c2
  clear c2
  generalize hy321 : (y318 ++ l0 : List Int) = y321 at H
  have Ny321 := Aside0.mk hy321.symm; clear hy321
  obtain rfl := Option.some.inj H
  go_enter Try.func37, Try.ntmps37
  go_wp2_with (first | ((with_reducible refine gate_dst (N := 3) rfl ?_); refine Kd.R_lit (Kd.int .i64) _ 3 ?hg (N := 3) ?hd (xs := ([] : List Int)) (inner := []) (ok := fun _ => True) (okp := fun _ => True) ?hr ?hp (fun _ hk => hk) trivial (Below.refl _ _) (Nat.le_refl _) (by simp) ?_; (case hd => rfl); (case hg => rfl); (case hr => exact gS); (case hp => exact (Reps.none _ _)); intro v319 w3 ho4 hb hg_ hnew_; clear hg_ hnew_; (first | rw [← Ny318.out] at ho4 | (simp only [Int.reduceToNat] at ho4; rw [← Ny318.out] at ho4)); have HO320 := Aside0.mk (Kd.R_lower ho4 (below_size tb)); replace HB := Aside0.mk (below_step tb hb); clear hb ho4) | ((with_reducible refine gate_builtin (b := .append) (xs := #[.tmp 3, .tmp 4]) rfl ?_); at_builtin; refine Kd.R_append_rows (Kd.int .i64) (w0 := w) w.heap.size rfl (.tmp 3) (.tmp 4) 24 3 (.int .i64 0) 8 rfl Try.underlying24 info3 rfl (by decide) (by omega) v319 y318 l0 _ _ _ (fun _ => True) (fun _ => False) rfl rfl ?aO ?aR (fun _ _ h => h) (fun _ h => h.elim) ?aF ?aB ?aS ?aL ?_; (case aR => exact C_l (Kd.C_below HR0.out HB.out)); (case aB => exact tb); (case aF => exact (fun _ _ => trivial)); (case aO => exact (R_l HO320.out)); (case aS => exact (below_size tb)); (case aL => have := LMc2.out; omega); intro v322 w5 ho hb hg hat; rw [← Ny321.out] at ho; replace HB := Aside0.mk (hb); have HO323 := Aside0.mk (ho); clear HO320; clear ho hb hg hat))
  go_ret
  exact ⟨_, rE, R_l HO323.out, tb⟩
 ·rw [if_neg c2] at H
  exact absurd H (by simp)

/-! ### impl_mod: function 57 -/
def impl_mod.f (a0 : Int) (a1 : Int) : Option (Int) := if a1 = 0 then (none) else (if (Int.tmod a0 a1) < 0 then (some (wrap64 ((Int.tmod a0 a1) + a1))) else (some (Int.tmod a0 a1)))
set_option maxHeartbeats 8000000 in
set_option maxRecDepth 100000 in
theorem impl_mod.calls (a0 : Int) (a1 : Int) (r : Int) (w : World) (h : impl_mod.f a0 a1 = some r) :
  Calls Try.prog 57 #[.int .i64 a0, .int .i64 a1] w fun e w' => e = .returned (.int .i64 r) ∧ Drawn0 w w' := by
 have H : (if a1 = 0 then (none) else (if (Int.tmod a0 a1) < 0 then (some (wrap64 ((Int.tmod a0 a1) + a1))) else (some (Int.tmod a0 a1)))) = some r := h
 clear h
 by_cases c3 : a1 = 0
 ·rw [if_pos c3] at H
  exact absurd H (by simp)
 ·rw [if_neg c3] at H
  have c3b0 : (a1 == 0) = false := beq_eq_false_iff_ne.mpr c3
  have c3b1 : (a1 != 0) = true := bne_iff_ne.mpr c3
  obtain ⟨c4b0, H⟩ | ⟨c4b0, H⟩ := gi H
  ·obtain rfl := Option.some.inj H
   go_enter Try.func57, Try.ntmps57
   go_wp2
   go_ret
   exact ⟨rS, tD⟩
  ·obtain rfl := Option.some.inj H
   go_enter Try.func57, Try.ntmps57
   go_wp2
   go_ret
   exact ⟨rS, tD⟩

end Go.Proofs.Ytbchbmfmplfoiaa.PFnGroups
