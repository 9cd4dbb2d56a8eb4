import Derived.Test.YtbchbmfmplfoiaaWSpanB
import Derived.Test.YtbchbmfmplfoiaaPFnGroupsx0
import Derived.Test.YtbchbmfmplfoiaaPFnGroupsx1
import Derived.Test.YtbchbmfmplfoiaaPFnGroupsx5
import Derived.Test.YtbchbmfmplfoiaaPFnGroupsx6
namespace Go.Proofs.Ytbchbmfmplfoiaa.PFnGroups
open Go.RowKit Go.Proofs.YtbchbmfmplfoiaaW.PrintWords Go.Proofs.YtbchbmfmplfoiaaW.PrintLast Go.Proofs.YtbchbmfmplfoiaaW.PrintMore
attribute [local go_sem] max2_int min2_int max_two min_two max_three min_three max_four min_four   -- for this text's walks alone
set_option linter.unusedVariables false
set_option linter.unusedSimpArgs false

/-! ### spec_LetterSums: function 49 -/
def spec_LetterSums.l0 : Nat → List Int → List Int → Int → Option (List Int)
 | 0, _, _, _ => none
 | k + 1, x0, x3, x4 => if x4 < (x0.length : Int) then (if 0 ≤ x4 then (if (rd x0 x4) > 0 then (if 0 ≤ (wrap64 ((rd x0 x4) - 1)) then (if (wrap64 ((rd x0 x4) - 1)) < (x3.length : Int) then (spec_LetterSums.l0 k x0 (x3.set ((wrap64 ((rd x0 x4) - 1)) : Int).toNat (wrap64 ((rd x3 (wrap64 ((rd x0 x4) - 1))) + 1))) (wrap64 (x4 + 1))) else (none)) else (none)) else (if 0 ≤ (wrap64 ((wrap64 (-(rd x0 x4))) - 1)) then (if (wrap64 ((wrap64 (-(rd x0 x4))) - 1)) < (x3.length : Int) then (spec_LetterSums.l0 k x0 (x3.set ((wrap64 ((wrap64 (-(rd x0 x4))) - 1)) : Int).toNat (wrap64 ((rd x3 (wrap64 ((wrap64 (-(rd x0 x4))) - 1))) - 1))) (wrap64 (x4 + 1))) else (none)) else (none))) else (none)) else (some x3)
def spec_LetterSums.f (k : Nat) (l0 : List Int) : Option (List Int) := (spec_IsWord.f k l0).bind fun t714 => (if t714 = true then (if 8 ≤ 35184372088832 then (spec_LetterSums.l0 k l0 (List.replicate 8 0) 0) else (none)) else (some (([] : List Int))))
def spec_LetterSums.T8 : Bool × List (List Nat × List Nat) := (true, [([], []), ([], []), ([], []), ([1, 2], [1, 2]), ([3], [3]), ([4], [4]), ([], []), ([], []), ([], []), ([7, 8], [7, 8]), ([9], [9]), ([10], [10]), ([6, 11], [6, 11]), ([12], [12]), ([13], [13]), ([0, 5, 0, 1, 2, 3, 4, 5, 6, 7, 8, 9, 10, 11, 12, 13, 14], [0, 5]), ([15, 14, 0, 1, 2, 3, 4, 5, 6, 7, 8, 9, 10, 11, 12, 13, 14], [14, 15])])
def spec_LetterSums.B8 : List Nat := [0, 0, 0, 6, 14, 30, 0, 0, 0, 384, 896, 1920, 4032, 8128, 16320, 32767, 65535]
theorem spec_LetterSums.tab8 : rtab .any (opsOf Try.f49 8) = spec_LetterSums.T8 := by kernel_rfl
theorem spec_LetterSums.bits8 : waitsOk spec_LetterSums.T8.2 spec_LetterSums.B8 = true := by kernel_rfl
def spec_LetterSums.T9 : Bool × List (List Nat × List Nat) := (true, [([], []), ([], []), ([], []), ([1, 2], [1, 2]), ([3], [3]), ([4], [4]), ([5], [5]), ([], []), ([], []), ([], []), ([8, 9], [8, 9]), ([10], [10]), ([11], [11]), ([12], [12]), ([7, 13], [7, 13]), ([14], [14]), ([15], [15]), ([0, 6, 0, 1, 2, 3, 4, 5, 6, 7, 8, 9, 10, 11, 12, 13, 14, 15, 16], [0, 6]), ([17, 16, 0, 1, 2, 3, 4, 5, 6, 7, 8, 9, 10, 11, 12, 13, 14, 15, 16], [16, 17])])
def spec_LetterSums.B9 : List Nat := [0, 0, 0, 6, 14, 30, 62, 0, 0, 0, 768, 1792, 3840, 7936, 16256, 32640, 65408, 131071, 262143]
theorem spec_LetterSums.tab9 : rtab .any (opsOf Try.f49 9) = spec_LetterSums.T9 := by kernel_rfl
theorem spec_LetterSums.bits9 : waitsOk spec_LetterSums.T9.2 spec_LetterSums.B9 = true := by kernel_rfl
set_option maxHeartbeats 8000000 in
set_option maxRecDepth 100000 in
theorem spec_LetterSums.calls (k : Nat) (A0 : Option Addr) (c0 : Nat) (l0 : List Int) (r : List Int) (w : World) (hr0 : Kd.C (Kd.int .i64) w A0 l0.length l0) (hc0 : l0.length ≤ c0) (h : spec_LetterSums.f k l0 = some r) :
  Calls Try.prog 49 #[.slice A0 l0.length c0] w fun e w' => ∃ v0_ : Value, e = .returned (v0_) ∧ Kd.R (Kd.int .i64) 3 w' w.heap.size (fun _ => True) v0_ r ∧ Below w.heap.size w w' := by
 have HR0 := Aside0.mk hr0
 have HC0 := Aside0.mk hc0
 clear hr0 hc0
 have HB := Aside0.mk (Below.refl w.heap.size w)
 have H : ((spec_IsWord.f k l0).bind fun t714 => (if t714 = true then (if 8 ≤ 35184372088832 then (spec_LetterSums.l0 k l0 (List.replicate 8 0) 0) else (none)) else (some (([] : List Int))))) = some r := h
 clear h
 obtain ⟨t714, A2, H⟩ := bs H
 by_cases c3 : t714 = true
 ·subst c3
  rw [if_pos rfl] at H
  obtain ⟨c4, H⟩ := gd H
  have c4b0 := eq_true c4
  have c4b1 : decide (8 ≤ 35184372088832) = true := decide_eq_true c4
  clear c4
  generalize hy718 : (List.replicate 8 0 : List Int) = y718 at H
  have Ny718 := Aside0.mk hy718.symm; clear hy718
  have H' := Aside0.mk H
  clear H
  go_enter Try.func49, Try.ntmps49
  go_wp2_with (first | (refine gL 50 (some 6) Try.func50 #[.slice A0 l0.length c0] ?_; (with_reducible refine (spec_IsWord.calls k _ _ l0 true _ ?side1 ?side2 A2.out).mono ?_); (case side1 => exact C_l HR0.out); (case side2 => exact HC0.out); rintro e w' ⟨rfl, ⟨nd, rfl⟩⟩; refine ⟨_, rfl, ?_⟩) | ((with_reducible refine gate_dst (N := 9) rfl ?_); refine Kd.R_make (Kd.int .i64) _ 3 rfl (N := 9) rfl 24 _ _ rfl 8 rfl rfl Try.underlying24 (.int .i64 0) 8 info3 rfl (by decide) (by omega) 0 (ok := fun _ => True) (okp := fun _ => True) rfl (fun _ hk => hk) trivial (by omega) (by omega) (Below.refl _ _) (Nat.le_refl _) ?_; intro v719 w5 ho6 hb hg_ hnew_; clear hg_ hnew_; (first | rw [← Ny718.out] at ho6 | (simp only [Int.reduceToNat] at ho6; rw [← Ny718.out] at ho6)); have HO720 := Aside0.mk (Kd.R_lower ho6 (below_size tb)); replace HB := Aside0.mk (below_step tb hb); clear hb ho6))
  go_loopg [4] k (fun kq v4 w' => ∃ (x3_1 : List Int) (x4_1 : Int), v4 = .int .i64 x4_1 ∧ Aside0 (spec_LetterSums.l0 kq l0 x3_1 x4_1 = some r) ∧ Aside0 (kq ≤ k) ∧ Aside0 (Kd.R (Kd.int .i64) 3 w' w.heap.size (fun _ => True) v719 x3_1) ∧ Aside0 (Below w.heap.size w w'))
  case atStart => exact ⟨(y718), (0), rS, H', ⟨Nat.le_refl _⟩, ⟨R_l HO720.out⟩, ⟨tb⟩⟩
  case round =>
   clear H'
   try clear p2
   try clear c3
   try clear c4
   try clear c4b0
   try clear c4b1
   try clear c5
   obtain ⟨x3_1, x4_1, rfl, HA, HK1, HO_3, HB⟩ := hrel
   cases gk with
   | zero => exact absurd HA.out (by simp [spec_LetterSums.l0])
   | succ k1 =>
    have H := HA.out
    clear HA
    simp only [spec_LetterSums.l0] at H
    obtain ⟨c7b0, H⟩ | ⟨c7b0, H⟩ := gi H
    ·obtain ⟨c8b0, H⟩ := gdt H
     by_cases c9 : (rd l0 x4_1) > 0
     ·rw [if_pos c9] at H
      have c9b0 : decide (0 < (rd l0 x4_1)) = true := decide_eq_true c9
      clear c9
      obtain ⟨ji10, hji10⟩ : ∃ j_ : Int, (wrap64 ((rd l0 x4_1) - 1)) = j_ := ⟨_, rfl⟩
      replace H : (if 0 ≤ (ji10) then (if (ji10) < (x3_1.length : Int) then (spec_LetterSums.l0 k1 l0 (x3_1.set ((ji10) : Int).toNat (wrap64 ((rd x3_1 (ji10)) + 1))) (wrap64 (x4_1 + 1))) else (none)) else (none)) = some r := by first | (rw [hji10] at H; exact H) | (simp only [hji10] at H ⊢; exact H)
      have hji10w : (IntKind.i64.wrap ((rd l0 x4_1) - 1)) = ji10 := (i64_w _).trans hji10
      obtain ⟨c11b0, H⟩ := gdt H
      obtain ⟨c12b0, H⟩ := gdt H
      generalize hy725 : (x3_1.set ((ji10) : Int).toNat (wrap64 ((rd x3_1 (ji10)) + 1)) : List Int) = y725 at H
      have Ny725 := Aside0.mk hy725.symm; clear hy725
      have H' := Aside0.mk H
      clear H
      have p721 : 0 ≤ (x4_1 : Int) := dT
      have q721 : x4_1 < (l0.length : Int) := dT
      obtain ⟨ad721, e721, hx721_0⟩ := Kd.at_int HR0.out x4_1 p721 q721
      cases e721
      replace hx721_0 := cB HB hx721_0
      replace p721 := eq_true p721
      replace q721 := eq_true q721
      try go_wp2
      replace HO_3 := Aside0.mk (Kd.R_drew HO_3.out); replace HB := Aside0.mk (below_drew1 HB.out)
      have p722 : 0 ≤ (x4_1 : Int) := dT
      have q722 : x4_1 < (l0.length : Int) := dT
      obtain ⟨ad722, e722, hx722_0⟩ := Kd.at_int HR0.out x4_1 p722 q722
      have hw722_0 := hx722_0
      obtain rfl : ad721 = ad722 := (by injection e722)
      replace hx722_0 := cB HB hx722_0
      replace p722 := eq_true p722
      replace q722 := eq_true q722
      have p723 : 0 ≤ (x4_1 : Int) := dT
      have q723 : x4_1 < (l0.length : Int) := dT
      obtain ⟨ad723, e723, hx723_0⟩ := Kd.at_int HR0.out x4_1 p723 q723
      have hw723_0 := hx723_0
      obtain rfl : ad721 = ad723 := (by injection e723)
      replace hx723_0 := cB HB hx723_0
      replace p723 := eq_true p723
      replace q723 := eq_true q723
      obtain ⟨Ao15, co15, eo15⟩ := Kd.R_slice HO_3.out
      (first | subst eo15 | (injection eo15 with f1_ f2_ f3_; have f4_ := f1_.symm; have f5_ := f3_.symm; clear f1_ f2_ f3_; subst f4_; subst f5_))
      have p724 : 0 ≤ ((ji10) : Int) := dT
      have q724 : (ji10) < (x3_1.length : Int) := dT
      obtain ⟨ad724, e724, hx724_0⟩ := Kd.at_int (Kd.R_reads' HO_3.out).2.2 (ji10) p724 q724
      cases e724
      replace p724 := eq_true p724
      replace q724 := eq_true q724
      have p13 : 0 ≤ ((ji10) : Int) := dT
      have q13 : ((ji10) : Int) < ((x3_1.length : Int) : Int) := dT
      obtain ⟨go13, co13, eo13, gb13, gl13, cl13, HG13⟩ := Kd.R_form HO_3.out (by omega)
      (first | cases eo13 | (injection eo13 with ea_ en_ ec_; (first | subst ea_ | (injection ea_ with ea_; subst ea_)); subst ec_; clear en_))
      have GB13 := Aside0.mk gb13
      have GG13 := Aside0.mk HG13
      clear gb13 gl13 HG13
      (first | simp only [add_plain] at hx724_0 | skip)
      obtain ⟨hx13_0, hf13_0⟩ := Kd.R_celln 0 HO_3.out ((ji10) : Int) p13 q13
      replace p13 := eq_true p13
      replace q13 := eq_true q13
      have HP16 := Kd.R_putn HO_3.out ((ji10) : Int) (wrap64 ((rd x3_1 (ji10)) + 1))
      rw [← Ny725.out] at HP16
      have HQ16 := Aside0.mk HP16
      clear HP16
      refine start_ (n := 17) (S := fun w' => w'.cell? (ad721.add (x4_1).toNat) = some (.int .i64 (rd l0 x4_1)) ∧ w'.cell? (ad721.add (x4_1).toNat) = some (.int .i64 (rd l0 x4_1)) ∧ w'.cell? ⟨go13, ((ji10)).toNat, none⟩ = some (.int .i64 (rd x3_1 (ji10)))) (ds := [16]) #[false, false, false, false, false, false, false, false, false, false, false, false, false, false, false, false, false] (by kernel_rfl) rfl rfl ⟨((HB.out.cell (World.block_lt_of_cell? w _ hw722_0)).trans hw722_0), ((HB.out.cell (World.block_lt_of_cell? w _ hw723_0)).trans hw723_0), hx724_0⟩ (fun hHeld => ?_); refine with_tabW spec_LetterSums.tab8 spec_LetterSums.bits8 (fun HT_ HW_ => ?_)
      generalize wr.drew = w14 at HO_3 HB GG13 HQ16 hf13_0 hx13_0 hx722_0 hx723_0 hx724_0 hHeld ⊢
      refine pu_ 0 (some 21) ?_
      refine pu_ 1 (some 22) ?_
      refine pu_ 2 (some 23) ?_
      refine pu_ 3 (some 24) ?_
      refine pu_ 6 (some 27) ?_
      refine pu_ 7 (some 28) ?_
      refine pu_ 8 (some 29) ?_
      refine pu_ 9 (some 30) ?_
      refine take_ (i := 4) (N := some 25) (v := ?_) (a' := ?_) #[true, true, true, true, true, false, true, true, true, true, false, false, false, false, false, false, false] rfl rfl (take_ofW HT_.out HW_.out (by kernel_rfl)) (fun _ _ _ h => h) (Or.inl ⟨by rfl, ?_⟩) hHeld ?_ ?_
      rotate_left
      ·rintro w' ⟨s0, s1, s2⟩
       go_simp
       with_reducible rfl
      rotate_left
      ·simp only [Act.put, List.setIfInBounds_toArray, List.set_cons_zero, List.set_cons_succ, i64_w, i32_w]
       rfl
      refine pu_ 5 (some 26) ?_
      refine take_ (i := 10) (N := some 31) (v := ?_) (a' := ?_) #[true, true, true, true, true, true, true, true, true, true, true, false, false, false, false, false, false] rfl rfl (take_ofW HT_.out HW_.out (by kernel_rfl)) (fun _ _ _ h => h) (Or.inl ⟨by rfl, ?_⟩) hHeld ?_ ?_
      rotate_left
      ·rintro w' ⟨s0, s1, s2⟩
       go_simp
       with_reducible rfl
      rotate_left
      ·simp only [Act.put, List.setIfInBounds_toArray, List.set_cons_zero, List.set_cons_succ, i64_w, i32_w]
       rfl
      refine pu_ 11 (some 32) ?_
      refine pu_ 12 (some 33) ?_
      refine take_ (i := 13) (N := some 34) (v := ?_) (a' := ?_) #[true, true, true, true, true, true, true, true, true, true, true, true, true, true, false, false, false] rfl rfl (take_ofW HT_.out HW_.out (by kernel_rfl)) (fun _ _ _ h => h) (Or.inl ⟨by rfl, ?_⟩) hHeld ?_ ?_
      rotate_left
      ·rintro w' ⟨s0, s1, s2⟩
       go_simp
       with_reducible rfl
      rotate_left
      ·simp only [Act.put, List.setIfInBounds_toArray, List.set_cons_zero, List.set_cons_succ, i64_w, i32_w]
       rfl
      refine pu_ 14 (some 35) ?_
      refine pu_ 15 (some 36) ?_
      refine last_ (i := 16) (N := none) #[true, true, true, true, true, true, true, true, true, true, true, true, true, true, true, true, true] rfl rfl (one_of HT_.out (by kernel_rfl)) (by decide) (fun K hK => ?_)
      refine skip_ (w1 := ?_) (by rfl) rfl ?_ ?_
      rotate_left
      ·go_simp
       rfl
      refine hK.out _ _ ?_
      clear hK K
      refine done_ (done_of HT_.out (by kernel_rfl)) ?_
      try go_wp2
      go_roundg k1
      case measure => exact oK
      case rel => exact ⟨(y725), (wrap64 (x4_1 + 1)), rS, H', ⟨oK⟩, ⟨R_l HQ16.out⟩, ⟨tG1 GB13.out⟩⟩
     ·rw [if_neg c9] at H
      have c9b0 : decide (0 < (rd l0 x4_1)) = false := decide_eq_false c9
      clear c9
      obtain ⟨ji17, hji17⟩ : ∃ j_ : Int, (wrap64 ((wrap64 (-(rd l0 x4_1))) - 1)) = j_ := ⟨_, rfl⟩
      replace H : (if 0 ≤ (ji17) then (if (ji17) < (x3_1.length : Int) then (spec_LetterSums.l0 k1 l0 (x3_1.set ((ji17) : Int).toNat (wrap64 ((rd x3_1 (ji17)) - 1))) (wrap64 (x4_1 + 1))) else (none)) else (none)) = some r := by first | (rw [hji17] at H; exact H) | (simp only [hji17] at H ⊢; exact H)
      have hji17w : (IntKind.i64.wrap ((wrap64 (-(rd l0 x4_1))) - 1)) = ji17 := (i64_w _).trans hji17
      obtain ⟨c18b0, H⟩ := gdt H
      obtain ⟨c19b0, H⟩ := gdt H
      generalize hy729 : (x3_1.set ((ji17) : Int).toNat (wrap64 ((rd x3_1 (ji17)) - 1)) : List Int) = y729 at H
      have Ny729 := Aside0.mk hy729.symm; clear hy729
      have H' := Aside0.mk H
      clear H
      have p721 : 0 ≤ (x4_1 : Int) := dT
      have q721 : x4_1 < (l0.length : Int) := dT
      obtain ⟨ad721, e721, hx721_0⟩ := Kd.at_int HR0.out x4_1 p721 q721
      cases e721
      replace hx721_0 := cB HB hx721_0
      replace p721 := eq_true p721
      replace q721 := eq_true q721
      try go_wp2
      replace HO_3 := Aside0.mk (Kd.R_drew HO_3.out); replace HB := Aside0.mk (below_drew1 HB.out)
      have p726 : 0 ≤ (x4_1 : Int) := dT
      have q726 : x4_1 < (l0.length : Int) := dT
      obtain ⟨ad726, e726, hx726_0⟩ := Kd.at_int HR0.out x4_1 p726 q726
      have hw726_0 := hx726_0
      obtain rfl : ad721 = ad726 := (by injection e726)
      replace hx726_0 := cB HB hx726_0
      replace p726 := eq_true p726
      replace q726 := eq_true q726
      have p727 : 0 ≤ (x4_1 : Int) := dT
      have q727 : x4_1 < (l0.length : Int) := dT
      obtain ⟨ad727, e727, hx727_0⟩ := Kd.at_int HR0.out x4_1 p727 q727
      have hw727_0 := hx727_0
      obtain rfl : ad721 = ad727 := (by injection e727)
      replace hx727_0 := cB HB hx727_0
      replace p727 := eq_true p727
      replace q727 := eq_true q727
      obtain ⟨Ao22, co22, eo22⟩ := Kd.R_slice HO_3.out
      (first | subst eo22 | (injection eo22 with f1_ f2_ f3_; have f4_ := f1_.symm; have f5_ := f3_.symm; clear f1_ f2_ f3_; subst f4_; subst f5_))
      have p728 : 0 ≤ ((ji17) : Int) := dT
      have q728 : (ji17) < (x3_1.length : Int) := dT
      obtain ⟨ad728, e728, hx728_0⟩ := Kd.at_int (Kd.R_reads' HO_3.out).2.2 (ji17) p728 q728
      cases e728
      replace p728 := eq_true p728
      replace q728 := eq_true q728
      have p20 : 0 ≤ ((ji17) : Int) := dT
      have q20 : ((ji17) : Int) < ((x3_1.length : Int) : Int) := dT
      obtain ⟨go20, co20, eo20, gb20, gl20, cl20, HG20⟩ := Kd.R_form HO_3.out (by omega)
      (first | cases eo20 | (injection eo20 with ea_ en_ ec_; (first | subst ea_ | (injection ea_ with ea_; subst ea_)); subst ec_; clear en_))
      have GB20 := Aside0.mk gb20
      have GG20 := Aside0.mk HG20
      clear gb20 gl20 HG20
      (first | simp only [add_plain] at hx728_0 | skip)
      obtain ⟨hx20_0, hf20_0⟩ := Kd.R_celln 0 HO_3.out ((ji17) : Int) p20 q20
      replace p20 := eq_true p20
      replace q20 := eq_true q20
      have HP23 := Kd.R_putn HO_3.out ((ji17) : Int) (wrap64 ((rd x3_1 (ji17)) - 1))
      rw [← Ny729.out] at HP23
      have HQ23 := Aside0.mk HP23
      clear HP23
      refine start_ (n := 19) (S := fun w' => w'.cell? (ad721.add (x4_1).toNat) = some (.int .i64 (rd l0 x4_1)) ∧ w'.cell? (ad721.add (x4_1).toNat) = some (.int .i64 (rd l0 x4_1)) ∧ w'.cell? ⟨go20, ((ji17)).toNat, none⟩ = some (.int .i64 (rd x3_1 (ji17)))) (ds := [18]) #[false, false, false, false, false, false, false, false, false, false, false, false, false, false, false, false, false, false, false] (by kernel_rfl) rfl rfl ⟨((HB.out.cell (World.block_lt_of_cell? w _ hw726_0)).trans hw726_0), ((HB.out.cell (World.block_lt_of_cell? w _ hw727_0)).trans hw727_0), hx728_0⟩ (fun hHeld => ?_); refine with_tabW spec_LetterSums.tab9 spec_LetterSums.bits9 (fun HT_ HW_ => ?_)
      generalize wr.drew = w21 at HO_3 HB GG20 HQ23 hf20_0 hx20_0 hx726_0 hx727_0 hx728_0 hHeld ⊢
      refine pu_ 0 (some 37) ?_
      refine pu_ 1 (some 38) ?_
      refine pu_ 2 (some 39) ?_
      refine pu_ 3 (some 40) ?_
      refine pu_ 7 (some 44) ?_
      refine pu_ 8 (some 45) ?_
      refine pu_ 9 (some 46) ?_
      refine pu_ 10 (some 47) ?_
      refine take_ (i := 4) (N := some 41) (v := ?_) (a' := ?_) #[true, true, true, true, true, false, false, true, true, true, true, false, false, false, false, false, false, false, false] rfl rfl (take_ofW HT_.out HW_.out (by kernel_rfl)) (fun _ _ _ h => h) (Or.inl ⟨by rfl, ?_⟩) hHeld ?_ ?_
      rotate_left
      ·rintro w' ⟨s0, s1, s2⟩
       go_simp
       with_reducible rfl
      rotate_left
      ·simp only [Act.put, List.setIfInBounds_toArray, List.set_cons_zero, List.set_cons_succ, i64_w, i32_w]
       rfl
      refine pu_ 5 (some 42) ?_
      refine pu_ 6 (some 43) ?_
      refine take_ (i := 11) (N := some 48) (v := ?_) (a' := ?_) #[true, true, true, true, true, true, true, true, true, true, true, true, false, false, false, false, false, false, false] rfl rfl (take_ofW HT_.out HW_.out (by kernel_rfl)) (fun _ _ _ h => h) (Or.inl ⟨by rfl, ?_⟩) hHeld ?_ ?_
      rotate_left
      ·rintro w' ⟨s0, s1, s2⟩
       go_simp
       with_reducible rfl
      rotate_left
      ·simp only [Act.put, List.setIfInBounds_toArray, List.set_cons_zero, List.set_cons_succ, i64_w, i32_w]
       rfl
      refine pu_ 12 (some 49) ?_
      refine pu_ 13 (some 50) ?_
      refine pu_ 14 (some 51) ?_
      refine take_ (i := 15) (N := some 52) (v := ?_) (a' := ?_) #[true, true, true, true, true, true, true, true, true, true, true, true, true, true, true, true, false, false, false] rfl rfl (take_ofW HT_.out HW_.out (by kernel_rfl)) (fun _ _ _ h => h) (Or.inl ⟨by rfl, ?_⟩) hHeld ?_ ?_
      rotate_left
      ·rintro w' ⟨s0, s1, s2⟩
       go_simp
       with_reducible rfl
      rotate_left
      ·simp only [Act.put, List.setIfInBounds_toArray, List.set_cons_zero, List.set_cons_succ, i64_w, i32_w]
       rfl
      refine pu_ 16 (some 53) ?_
      refine pu_ 17 (some 54) ?_
      refine last_ (i := 18) (N := none) #[true, true, true, true, true, true, true, true, true, true, true, true, true, true, true, true, true, true, true] rfl rfl (one_of HT_.out (by kernel_rfl)) (by decide) (fun K hK => ?_)
      refine skip_ (w1 := ?_) (by rfl) rfl ?_ ?_
      rotate_left
      ·go_simp
       rfl
      refine hK.out _ _ ?_
      clear hK K
      refine done_ (done_of HT_.out (by kernel_rfl)) ?_
      try go_wp2
      go_roundg k1
      case measure => exact oK
      case rel => exact ⟨(y729), (wrap64 (x4_1 + 1)), rS, H', ⟨oK⟩, ⟨R_l HQ23.out⟩, ⟨tG1 GB20.out⟩⟩
    ·obtain rfl := Option.some.inj H
     go_wp2
     go_ret
     exact ⟨_, rE, R_l HO_3.out, tb⟩
 ·replace c3 := Bool.eq_false_iff.mpr c3
  subst c3
  rw [if_neg (show ¬ (false = true) by decide)] at H
  generalize hy715 : (([] : List Int) : List Int) = y715 at H
  have Ny715 := Aside0.mk hy715.symm; clear hy715
  obtain rfl := Option.some.inj H
  go_enter Try.func49, Try.ntmps49
  go_wp2_with (first | (refine gL 50 (some 6) Try.func50 #[.slice A0 l0.length c0] ?_; (with_reducible refine (spec_IsWord.calls k _ _ l0 false _ ?side1 ?side2 A2.out).mono ?_); (case side1 => exact C_l HR0.out); (case side2 => exact HC0.out); rintro e w' ⟨rfl, ⟨nd, rfl⟩⟩; refine ⟨_, rfl, ?_⟩) | ((with_reducible refine gate_dst (N := 8) rfl ?_); refine Kd.R_lit (Kd.int .i64) _ 3 ?hg (N := 8) ?hd (xs := ([] : List Int)) (inner := []) (ok := fun _ => True) (okp := fun _ => True) ?hr ?hp (fun _ hk => hk) trivial (Below.refl _ _) (Nat.le_refl _) (by simp) ?_; (case hd => rfl); (case hg => rfl); (case hr => exact gS); (case hp => exact (Reps.none _ _)); intro v716 w24 ho25 hb hg_ hnew_; clear hg_ hnew_; (first | rw [← Ny715.out] at ho25 | (simp only [Int.reduceToNat] at ho25; rw [← Ny715.out] at ho25)); have HO717 := Aside0.mk (Kd.R_lower ho25 (below_size tb)); replace HB := Aside0.mk (below_step tb hb); clear hb ho25))
  go_ret
  exact ⟨_, rE, R_l HO717.out, tb⟩

/-! ### spec_HomologyOf: function 23 -/
def spec_HomologyOf.f (k : Nat) (a0 : Int) (l1 : List Int) : Option (List Int) := (spec_l8Fits.f k a0 l1).bind fun t730 => (if t730 = true then ((spec_LetterSums.f k l1).bind fun t731 => (if 0 ≤ (wrap64 (2 * a0)) then (if (wrap64 (2 * a0)) ≤ (t731.length : Int) then (some (t731.take ((wrap64 (2 * a0)) : Int).toNat)) else (none)) else (none))) else (some (([] : List Int))))
set_option maxHeartbeats 8000000 in
set_option maxRecDepth 100000 in
theorem spec_HomologyOf.calls (k : Nat) (a0 : Int) (A1 : Option Addr) (c1 : Nat) (l1 : List Int) (r : List Int) (w : World) (hr1 : Kd.C (Kd.int .i64) w A1 l1.length l1) (hc1 : l1.length ≤ c1) (h : spec_HomologyOf.f k a0 l1 = some r) :
  Calls Try.prog 23 #[.int .i64 a0, .slice A1 l1.length c1] w fun e w' => ∃ v0_ : Value, e = .returned (v0_) ∧ Kd.R (Kd.int .i64) 3 w' w.heap.size (fun _ => True) v0_ r ∧ Below w.heap.size w w' := by
 have HR1 := Aside0.mk hr1
 have HC1 := Aside0.mk hc1
 clear hr1 hc1
 have HB := Aside0.mk (Below.refl w.heap.size w)
 have H : ((spec_l8Fits.f k a0 l1).bind fun t730 => (if t730 = true then ((spec_LetterSums.f k l1).bind fun t731 => (if 0 ≤ (wrap64 (2 * a0)) then (if (wrap64 (2 * a0)) ≤ (t731.length : Int) then (some (t731.take ((wrap64 (2 * a0)) : Int).toNat)) else (none)) else (none))) else (some (([] : List Int))))) = some r := h
 clear h
 obtain ⟨t730, A3, H⟩ := bs H
 by_cases c4 : t730 = true
 ·subst c4
  rw [if_pos rfl] at H
  obtain ⟨t731, A5, H⟩ := bs H
  obtain ⟨ji6, hji6⟩ : ∃ j_ : Int, (wrap64 (2 * a0)) = j_ := ⟨_, rfl⟩
  replace H : (if 0 ≤ (ji6) then (if (ji6) ≤ (t731.length : Int) then (some (t731.take ((ji6) : Int).toNat)) else (none)) else (none)) = some r := by first | (rw [hji6] at H; exact H) | (simp only [hji6] at H ⊢; exact H)
  (try rw [hji6] at A3)
  (try rw [hji6] at A5)
  have hji6w : (IntKind.i64.wrap (2 * a0)) = ji6 := (i64_w _).trans hji6
  obtain ⟨c7, H⟩ := gd H
  have c7b0 := eq_true c7
  have c7b1 : decide (0 ≤ (ji6)) = true := decide_eq_true c7
  clear c7
  obtain ⟨c8, H⟩ := gd H
  have c8b0 := eq_true c8
  have c8b1 : decide ((ji6) ≤ (t731.length : Int)) = true := decide_eq_true c8
  clear c8
  generalize hy734 : (t731.take ((ji6) : Int).toNat : List Int) = y734 at H
  have Ny734 := Aside0.mk hy734.symm; clear hy734
  obtain rfl := Option.some.inj H
  go_enter Try.func23, Try.ntmps23
  go_wp2_with (first | (refine gL 38 (some 7) Try.func38 #[.int .i64 a0, .slice A1 l1.length c1] ?_; (with_reducible refine (spec_l8Fits.calls k a0 _ _ l1 true _ ?side1 ?side2 A3.out).mono ?_); (case side1 => exact C_l HR1.out); (case side2 => exact HC1.out); rintro e w' ⟨rfl, ⟨nd, rfl⟩⟩; refine ⟨_, rfl, ?_⟩) | (refine gL 49 (some 11) Try.func49 #[.slice A1 l1.length c1] ?_; (with_reducible refine (spec_LetterSums.calls k _ _ l1 t731 _ ?side1 ?side2 A5.out).mono ?_); (case side1 => exact C_l HR1.out); (case side2 => exact HC1.out); rintro e w9 ⟨v732, rfl, ho0, hb⟩; refine ⟨_, rfl, ?_⟩; have HO733 := Aside0.mk (Kd.R_lower ho0 (below_size tb)); replace HB := Aside0.mk (below_step tb hb); obtain ⟨Ao10, co10, eo10⟩ := Kd.R_slice HO733.out; subst eo10; have q11 : ((ji6) : Int) ≤ ((t731.length : Int) : Int) := dT; obtain ⟨i011, hi011, _, hsz11, _⟩ := info_parts info3; have hcut11 := cut_to (P := Try.prog) 24 3 .i64 Try.underlying24 hi011 Ao10 t731.length co10 (ji6) dT q11 (Kd.R_reads' HO733.out).2.1; have hr11 := Kd.R_take (m := ((ji6) : Int).toNat) HO733.out (by omega); have hy11 : y734.length = ((ji6) : Int).toNat := (by rw [Ny734.out, List.length_take]; omega); rw [← Ny734.out] at hr11; rw [← hy11] at hr11 hcut11; clear hy11 hi011 hsz11 HO733; have HO736 := Aside0.mk hr11; clear hr11; replace q11 := eq_true q11))
  go_ret
  exact ⟨_, by first | rfl | (simp [errW_none, errW_some] <;> rfl) | (simp only [← hji6]; first | rfl | (simp [errW_none, errW_some] <;> rfl)) | (simp [*, errW_none, errW_some] <;> rfl), R_l HO736.out, tb⟩
 ·replace c4 := Bool.eq_false_iff.mpr c4
  subst c4
  rw [if_neg (show ¬ (false = true) by decide)] at H
  generalize hy737 : (([] : List Int) : List Int) = y737 at H
  have Ny737 := Aside0.mk hy737.symm; clear hy737
  obtain rfl := Option.some.inj H
  go_enter Try.func23, Try.ntmps23
  go_wp2_with (first | (refine gL 38 (some 7) Try.func38 #[.int .i64 a0, .slice A1 l1.length c1] ?_; (with_reducible refine (spec_l8Fits.calls k a0 _ _ l1 false _ ?side1 ?side2 A3.out).mono ?_); (case side1 => exact C_l HR1.out); (case side2 => exact HC1.out); rintro e w' ⟨rfl, ⟨nd, rfl⟩⟩; refine ⟨_, rfl, ?_⟩) | ((with_reducible refine gate_dst (N := 9) rfl ?_); refine Kd.R_lit (Kd.int .i64) _ 3 ?hg (N := 9) ?hd (xs := ([] : List Int)) (inner := []) (ok := fun _ => True) (okp := fun _ => True) ?hr ?hp (fun _ hk => hk) trivial (Below.refl _ _) (Nat.le_refl _) (by simp) ?_; (case hd => rfl); (case hg => rfl); (case hr => exact gS); (case hp => exact (Reps.none _ _)); intro v738 w12 ho13 hb hg_ hnew_; clear hg_ hnew_; (first | rw [← Ny737.out] at ho13 | (simp only [Int.reduceToNat] at ho13; rw [← Ny737.out] at ho13)); have HO739 := Aside0.mk (Kd.R_lower ho13 (below_size tb)); replace HB := Aside0.mk (below_step tb hb); clear hb ho13))
  go_ret
  exact ⟨_, rE, R_l HO739.out, tb⟩

/-! ### spec_ReduceWord: function 24 -/
def spec_ReduceWord.f (k : Nat) (l0 : List Int) : Option (List Int) := (spec_IsWord.f k l0).bind fun t740 => (if t740 = true then ((spec_l2Reduce.f k l0).bind fun t741 => (some t741)) else (some (([] : List Int))))
set_option maxHeartbeats 8000000 in
set_option maxRecDepth 100000 in
theorem spec_ReduceWord.calls (k : Nat) (A0 : Option Addr) (c0 : Nat) (l0 : List Int) (r : List Int) (w : World) (hr0 : Kd.C (Kd.int .i64) w A0 l0.length l0) (hc0 : l0.length ≤ c0) (h : spec_ReduceWord.f k l0 = some r) :
  Calls Try.prog 24 #[.slice A0 l0.length c0] w fun e w' => ∃ v0_ : Value, e = .returned (v0_) ∧ Kd.R (Kd.int .i64) 3 w' w.heap.size (fun _ => True) v0_ r ∧ Below w.heap.size w w' := by
 have HR0 := Aside0.mk hr0
 have HC0 := Aside0.mk hc0
 clear hr0 hc0
 have HB := Aside0.mk (Below.refl w.heap.size w)
 have H : ((spec_IsWord.f k l0).bind fun t740 => (if t740 = true then ((spec_l2Reduce.f k l0).bind fun t741 => (some t741)) else (some (([] : List Int))))) = some r := h
 clear h
 obtain ⟨t740, A2, H⟩ := bs H
 by_cases c3 : t740 = true
 ·subst c3
  rw [if_pos rfl] at H
  obtain ⟨t741, A4, H⟩ := bs H
  obtain rfl := Option.some.inj H
  go_enter Try.func24, Try.ntmps24
  go_wp2_with (first | (refine gL 50 (some 4) Try.func50 #[.slice A0 l0.length c0] ?_; (with_reducible refine (spec_IsWord.calls k _ _ l0 true _ ?side1 ?side2 A2.out).mono ?_); (case side1 => exact C_l HR0.out); (case side2 => exact HC0.out); rintro e w' ⟨rfl, ⟨nd, rfl⟩⟩; refine ⟨_, rfl, ?_⟩) | (refine gL 40 (some 8) Try.func40 #[.slice A0 l0.length c0] ?_; (with_reducible refine (spec_l2Reduce.calls k _ _ l0 t741 _ ?side1 ?side2 A4.out).mono ?_); (case side1 => exact C_l HR0.out); (case side2 => exact HC0.out); rintro e w5 ⟨v742, rfl, ho0, hb⟩; refine ⟨_, rfl, ?_⟩; have HO743 := Aside0.mk (Kd.R_lower ho0 (below_size tb)); replace HB := Aside0.mk (below_step tb hb)))
  go_ret
  exact ⟨_, rE, R_l HO743.out, tb⟩
 ·replace c3 := Bool.eq_false_iff.mpr c3
  subst c3
  rw [if_neg (show ¬ (false = true) by decide)] at H
  generalize hy744 : (([] : List Int) : List Int) = y744 at H
  have Ny744 := Aside0.mk hy744.symm; clear hy744
  obtain rfl := Option.some.inj H
  go_enter Try.func24, Try.ntmps24
  go_wp2_with (first | (refine gL 50 (some 4) Try.func50 #[.slice A0 l0.length c0] ?_; (with_reducible refine (spec_IsWord.calls k _ _ l0 false _ ?side1 ?side2 A2.out).mono ?_); (case side1 => exact C_l HR0.out); (case side2 => exact HC0.out); rintro e w' ⟨rfl, ⟨nd, rfl⟩⟩; refine ⟨_, rfl, ?_⟩) | ((with_reducible refine gate_dst (N := 6) rfl ?_); refine Kd.R_lit (Kd.int .i64) _ 3 ?hg (N := 6) ?hd (xs := ([] : List Int)) (inner := []) (ok := fun _ => True) (okp := fun _ => True) ?hr ?hp (fun _ hk => hk) trivial (Below.refl _ _) (Nat.le_refl _) (by simp) ?_; (case hd => rfl); (case hg => rfl); (case hr => exact gS); (case hp => exact (Reps.none _ _)); intro v745 w6 ho7 hb hg_ hnew_; clear hg_ hnew_; (first | rw [← Ny744.out] at ho7 | (simp only [Int.reduceToNat] at ho7; rw [← Ny744.out] at ho7)); have HO746 := Aside0.mk (Kd.R_lower ho7 (below_size tb)); replace HB := Aside0.mk (below_step tb hb); clear hb ho7))
  go_ret
  exact ⟨_, rE, R_l HO746.out, tb⟩

/-! ### laws_total: function 25 -/
def laws_total.l0 : Nat → List Int → Int → Int → Option (Int)
 | 0, _, _, _ => none
 | k + 1, x0, x3, x4 => if x4 < (x0.length : Int) then (if 0 ≤ x4 then (laws_total.l0 k x0 (wrap64 (x3 + (rd x0 x4))) (wrap64 (x4 + 1))) else (none)) else (some x3)
def laws_total.f (k : Nat) (l0 : List Int) : Option (Int) := laws_total.l0 k l0 0 0
set_option maxHeartbeats 8000000 in
set_option maxRecDepth 100000 in
theorem laws_total.calls (k : Nat) (A0 : Option Addr) (c0 : Nat) (l0 : List Int) (r : Int) (w : World) (hr0 : Kd.C (Kd.int .i64) w A0 l0.length l0) (hc0 : l0.length ≤ c0) (h : laws_total.f k l0 = some r) :
  Calls Try.prog 25 #[.slice A0 l0.length c0] w fun e w' => e = .returned (.int .i64 r) ∧ Drawn0 w w' := by
 have HR0 := Aside0.mk hr0
 have HC0 := Aside0.mk hc0
 clear hr0 hc0
 have H : (laws_total.l0 k l0 0 0) = some r := h
 clear h
 have H' := Aside0.mk H
 clear H
 go_enter Try.func25, Try.ntmps25
 go_wp2
 go_loopg [3, 4] k (fun kq v3 v4 w' => ∃ (x3_1 : Int) (x4_1 : Int), v3 = .int .i64 x3_1 ∧ v4 = .int .i64 x4_1 ∧ Aside0 (laws_total.l0 kq l0 x3_1 x4_1 = some r) ∧ Aside0 (kq ≤ k) ∧ Drawn0 w w')
 case atStart => exact ⟨(0), (0), rS, rS, H', ⟨Nat.le_refl _⟩, tD⟩
 case round =>
  clear H'
  obtain ⟨x3_1, x4_1, rfl, rfl, HA, HK1, ⟨m1, rfl⟩⟩ := hrel
  cases gk with
  | zero => exact absurd HA.out (by simp [laws_total.l0])
  | succ k1 =>
   have H := HA.out
   clear HA
   simp only [laws_total.l0] at H
   obtain ⟨c2b0, H⟩ | ⟨c2b0, H⟩ := gi H
   ·obtain ⟨c3b0, H⟩ := gdt H
    have H' := Aside0.mk H
    clear H
    have p747 : 0 ≤ (x4_1 : Int) := dT
    have q747 : x4_1 < (l0.length : Int) := dT
    obtain ⟨ad747, e747, hx747_0⟩ := Kd.at_int HR0.out x4_1 p747 q747
    cases e747
    replace p747 := eq_true p747
    replace q747 := eq_true q747
    go_wp2
    go_roundg k1
    case measure => exact oK
    case rel => exact ⟨(wrap64 (x3_1 + (rd l0 x4_1))), (wrap64 (x4_1 + 1)), rS, rS, H', ⟨oK⟩, tD⟩
   ·obtain rfl := Option.some.inj H
    go_wp2
    go_ret
    exact ⟨rS, tD⟩

/-! ### spec_InverseWord: function 26 -/
def spec_InverseWord.f (k : Nat) (l0 : List Int) : Option (List Int) := (spec_IsWord.f k l0).bind fun t748 => (if t748 = true then ((spec_l2Inverse.f k l0).bind fun t749 => (some t749)) else (some (([] : List Int))))
set_option maxHeartbeats 8000000 in
set_option maxRecDepth 100000 in
theorem spec_InverseWord.calls (k : Nat) (A0 : Option Addr) (c0 : Nat) (l0 : List Int) (r : List Int) (w : World) (hr0 : Kd.C (Kd.int .i64) w A0 l0.length l0) (hc0 : l0.length ≤ c0) (h : spec_InverseWord.f k l0 = some r) :
  Calls Try.prog 26 #[.slice A0 l0.length c0] w fun e w' => ∃ v0_ : Value, e = .returned (v0_) ∧ Kd.R (Kd.int .i64) 3 w' w.heap.size (fun _ => True) v0_ r ∧ Below w.heap.size w w' := by
 have HR0 := Aside0.mk hr0
 have HC0 := Aside0.mk hc0
 clear hr0 hc0
 have HB := Aside0.mk (Below.refl w.heap.size w)
 have H : ((spec_IsWord.f k l0).bind fun t748 => (if t748 = true then ((spec_l2Inverse.f k l0).bind fun t749 => (some t749)) else (some (([] : List Int))))) = some r := h
 clear h
 obtain ⟨t748, A2, H⟩ := bs H
 by_cases c3 : t748 = true
 ·subst c3
  rw [if_pos rfl] at H
  obtain ⟨t749, A4, H⟩ := bs H
  obtain rfl := Option.some.inj H
  go_enter Try.func26, Try.ntmps26
  go_wp2_with (first | (refine gL 50 (some 4) Try.func50 #[.slice A0 l0.length c0] ?_; (with_reducible refine (spec_IsWord.calls k _ _ l0 true _ ?side1 ?side2 A2.out).mono ?_); (case side1 => exact C_l HR0.out); (case side2 => exact HC0.out); rintro e w' ⟨rfl, ⟨nd, rfl⟩⟩; refine ⟨_, rfl, ?_⟩) | (refine gL 46 (some 8) Try.func46 #[.slice A0 l0.length c0] ?_; (with_reducible refine (spec_l2Inverse.calls k _ _ l0 t749 _ ?side1 ?side2 A4.out).mono ?_); (case side1 => exact C_l HR0.out); (case side2 => exact HC0.out); rintro e w5 ⟨v750, rfl, ho0, hb⟩; refine ⟨_, rfl, ?_⟩; have HO751 := Aside0.mk (Kd.R_lower ho0 (below_size tb)); replace HB := Aside0.mk (below_step tb hb)))
  go_ret
  exact ⟨_, rE, R_l HO751.out, tb⟩
 ·replace c3 := Bool.eq_false_iff.mpr c3
  subst c3
  rw [if_neg (show ¬ (false = true) by decide)] at H
  generalize hy752 : (([] : List Int) : List Int) = y752 at H
  have Ny752 := Aside0.mk hy752.symm; clear hy752
  obtain rfl := Option.some.inj H
  go_enter Try.func26, Try.ntmps26
  go_wp2_with (first | (refine gL 50 (some 4) Try.func50 #[.slice A0 l0.length c0] ?_; (with_reducible refine (spec_IsWord.calls k _ _ l0 false _ ?side1 ?side2 A2.out).mono ?_); (case side1 => exact C_l HR0.out); (case side2 => exact HC0.out); rintro e w' ⟨rfl, ⟨nd, rfl⟩⟩; refine ⟨_, rfl, ?_⟩) | ((with_reducible refine gate_dst (N := 6) rfl ?_); refine Kd.R_lit (Kd.int .i64) _ 3 ?hg (N := 6) ?hd (xs := ([] : List Int)) (inner := []) (ok := fun _ => True) (okp := fun _ => True) ?hr ?hp (fun _ hk => hk) trivial (Below.refl _ _) (Nat.le_refl _) (by simp) ?_; (case hd => rfl); (case hg => rfl); (case hr => exact gS); (case hp => exact (Reps.none _ _)); intro v753 w6 ho7 hb hg_ hnew_; clear hg_ hnew_; (first | rw [← Ny752.out] at ho7 | (simp only [Int.reduceToNat] at ho7; rw [← Ny752.out] at ho7)); have HO754 := Aside0.mk (Kd.R_lower ho7 (below_size tb)); replace HB := Aside0.mk (below_step tb hb); clear hb ho7))
  go_ret
  exact ⟨_, rE, R_l HO754.out, tb⟩

end Go.Proofs.Ytbchbmfmplfoiaa.PFnGroups
