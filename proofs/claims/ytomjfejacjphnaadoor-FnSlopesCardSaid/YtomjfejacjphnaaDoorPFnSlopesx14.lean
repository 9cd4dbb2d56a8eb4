-- written by a copy of the print that takes contracts by hand (stubprint.py)
import Derived.Test.YtomjfejacjphnaaDoorWSpanB
import Derived.Test.YtomjfejacjphnaaDoorPFnSlopesx0
import Derived.Test.YtomjfejacjphnaaDoorPFnSlopesx13
namespace Go.Proofs.YtomjfejacjphnaaDoor.PFnSlopes
open Go.RowKit Go.Proofs.YtomjfejacjphnaaDoorW.PrintWords Go.Proofs.YtomjfejacjphnaaDoorW.PrintLast Go.Proofs.YtomjfejacjphnaaDoorW.PrintMore
attribute [local go_sem] max2_int min2_int max_two min_two max_three min_three max_four min_four   -- for this text's walks alone
set_option linter.unusedVariables false
set_option linter.unusedSimpArgs false

/-! ### spec_LetterSums: function 28 -/
def spec_LetterSums.l0 : Nat → List Int → List Int → Int → Option (List Int)
  | 0, _, _, _ => none
  | k + 1, x0, x3, x4 => if x4 < (x0.length : Int) then (if 0 ≤ x4 then (if (rd x0 x4) > 0 then (if 0 ≤ (wrap64 ((rd x0 x4) - 1)) then (if (wrap64 ((rd x0 x4) - 1)) < (x3.length : Int) then (spec_LetterSums.l0 k x0 (x3.set ((wrap64 ((rd x0 x4) - 1)) : Int).toNat (wrap64 ((rd x3 (wrap64 ((rd x0 x4) - 1))) + 1))) (wrap64 (x4 + 1))) else (none)) else (none)) else (if 0 ≤ (wrap64 ((wrap64 (-(rd x0 x4))) - 1)) then (if (wrap64 ((wrap64 (-(rd x0 x4))) - 1)) < (x3.length : Int) then (spec_LetterSums.l0 k x0 (x3.set ((wrap64 ((wrap64 (-(rd x0 x4))) - 1)) : Int).toNat (wrap64 ((rd x3 (wrap64 ((wrap64 (-(rd x0 x4))) - 1))) - 1))) (wrap64 (x4 + 1))) else (none)) else (none))) else (none)) else (some x3)
def spec_LetterSums.f (k : Nat) (l0 : List Int) : Option (List Int) := (spec_IsWord.f k l0).bind fun t472 => (if t472 = true then (if 8 ≤ 35184372088832 then (spec_LetterSums.l0 k l0 (List.replicate 8 0) 0) else (none)) else (some (([] : List Int))))
def spec_LetterSums.T8 : Bool × List (List Nat × List Nat) := (true, [([], []), ([], []), ([], []), ([1, 2], [1, 2]), ([3], [3]), ([4], [4]), ([], []), ([], []), ([], []), ([7, 8], [7, 8]), ([9], [9]), ([10], [10]), ([6, 11], [6, 11]), ([12], [12]), ([13], [13]), ([0, 5, 0, 1, 2, 3, 4, 5, 6, 7, 8, 9, 10, 11, 12, 13, 14], [0, 5]), ([15, 14, 0, 1, 2, 3, 4, 5, 6, 7, 8, 9, 10, 11, 12, 13, 14], [14, 15])])
def spec_LetterSums.B8 : List Nat := [0, 0, 0, 6, 14, 30, 0, 0, 0, 384, 896, 1920, 4032, 8128, 16320, 32767, 65535]
theorem spec_LetterSums.tab8 : rtab .any (opsOf Tryd.f28 8) = spec_LetterSums.T8 := by kernel_rfl
theorem spec_LetterSums.bits8 : waitsOk spec_LetterSums.T8.2 spec_LetterSums.B8 = true := by kernel_rfl
def spec_LetterSums.T9 : Bool × List (List Nat × List Nat) := (true, [([], []), ([], []), ([], []), ([1, 2], [1, 2]), ([3], [3]), ([4], [4]), ([5], [5]), ([], []), ([], []), ([], []), ([8, 9], [8, 9]), ([10], [10]), ([11], [11]), ([12], [12]), ([7, 13], [7, 13]), ([14], [14]), ([15], [15]), ([0, 6, 0, 1, 2, 3, 4, 5, 6, 7, 8, 9, 10, 11, 12, 13, 14, 15, 16], [0, 6]), ([17, 16, 0, 1, 2, 3, 4, 5, 6, 7, 8, 9, 10, 11, 12, 13, 14, 15, 16], [16, 17])])
def spec_LetterSums.B9 : List Nat := [0, 0, 0, 6, 14, 30, 62, 0, 0, 0, 768, 1792, 3840, 7936, 16256, 32640, 65408, 131071, 262143]
theorem spec_LetterSums.tab9 : rtab .any (opsOf Tryd.f28 9) = spec_LetterSums.T9 := by kernel_rfl
theorem spec_LetterSums.bits9 : waitsOk spec_LetterSums.T9.2 spec_LetterSums.B9 = true := by kernel_rfl
set_option maxHeartbeats 8000000 in
set_option maxRecDepth 100000 in
theorem spec_LetterSums.calls (k : Nat) (A0 : Option Addr) (c0 : Nat) (l0 : List Int) (r : List Int) (w : World) (hr0 : Kd.C (Kd.int .i64) w A0 l0.length l0) (hc0 : l0.length ≤ c0) (h : spec_LetterSums.f k l0 = some r) :
    Calls Tryd.prog 28 #[.slice A0 l0.length c0] w fun e w' => ∃ v0_ : Value, e = .returned (v0_) ∧ Kd.R (Kd.int .i64) 3 w' w.heap.size (fun _ => True) v0_ r ∧ Below w.heap.size w w' := by
  have HR0 := Aside0.mk hr0
  have HC0 := Aside0.mk hc0
  clear hr0 hc0
  have HB := Aside0.mk (Below.refl w.heap.size w)
  have H : ((spec_IsWord.f k l0).bind fun t472 => (if t472 = true then (if 8 ≤ 35184372088832 then (spec_LetterSums.l0 k l0 (List.replicate 8 0) 0) else (none)) else (some (([] : List Int))))) = some r := h
  clear h
  obtain ⟨t472, A2, H⟩ := bs H
  by_cases c3 : t472 = true
  · subst c3
    rw [if_pos rfl] at H
    obtain ⟨c4, H⟩ := gd H
    have c4b0 := eq_true c4
    have c4b1 : decide (8 ≤ 35184372088832) = true := decide_eq_true c4
    clear c4
    generalize hy476 : (List.replicate 8 0 : List Int) = y476 at H
    have Ny476 := Aside0.mk hy476.symm; clear hy476
    have H' := Aside0.mk H
    clear H
    go_enter Tryd.func28, Tryd.ntmps28
    go_wp2_with (first | ((with_reducible refine gate_callee (f := 52) rfl ?_); refine goesL_ (some 6) rfl rfl Tryd.func52 (by kernel_rfl) rfl #[.slice A0 l0.length c0] rfl mp_ ?_; (with_reducible refine (spec_IsWord.calls k _ _ l0 true _ ?side1 ?side2 A2.out).mono ?_); (case side1 => exact C_l HR0.out); (case side2 => exact HC0.out); rintro e w' ⟨rfl, ⟨nd, rfl⟩⟩; refine ⟨_, rfl, ?_⟩) | ((with_reducible refine gate_dst (N := 9) rfl ?_); refine Kd.R_make (Kd.int .i64) _ 3 rfl (N := 9) rfl 39 _ _ rfl 8 rfl rfl Tryd.underlying39 (.int .i64 0) 8 info3 rfl (by decide) (by omega) 0 (ok := fun _ => True) (okp := fun _ => True) rfl (fun _ hk => hk) trivial (by omega) (by omega) (Below.refl _ _) (Nat.le_refl _) ?_; intro v477 w5 ho6 hb hg_ hnew_; clear hg_ hnew_; (first | rw [← Ny476.out] at ho6 | (simp only [Int.reduceToNat] at ho6; rw [← Ny476.out] at ho6)); have HO478 := Aside0.mk (Kd.R_lower ho6 (below_size tb)); replace HB := Aside0.mk (below_step tb hb); clear hb ho6))
    go_loopg [4] k (fun kq v4 w' => ∃ (x3_1 : List Int) (x4_1 : Int), v4 = .int .i64 x4_1 ∧ Aside0 (spec_LetterSums.l0 kq l0 x3_1 x4_1 = some r) ∧ Aside0 (kq ≤ k) ∧ Aside0 (Kd.R (Kd.int .i64) 3 w' w.heap.size (fun _ => True) v477 x3_1) ∧ Aside0 (Below w.heap.size w w'))
    case atStart => exact ⟨(y476), (0), rS, H', ⟨Nat.le_refl _⟩, ⟨R_l HO478.out⟩, ⟨tb⟩⟩
    case round =>
      clear H'
      try clear c2
      try clear p2
      try clear c3
      try clear c4
      try clear c4b0
      try clear c4b1
      try clear c5
      obtain ⟨x3_1, x4_1, rfl, HA, HK1, HO_3, HB⟩ := hrel
      cases gk with
      | zero => exact absurd HA.out (by simp [spec_LetterSums.l0])
      | succ k1 =>
        have H := HA.out
        clear HA
        simp only [spec_LetterSums.l0] at H
        obtain ⟨c7b0, H⟩ | ⟨c7b0, H⟩ := gi H
        · obtain ⟨c8b0, H⟩ := gdt H
          by_cases c9 : (rd l0 x4_1) > 0
          · rw [if_pos c9] at H
            have c9b0 : decide (0 < (rd l0 x4_1)) = true := decide_eq_true c9
            clear c9
            obtain ⟨ji10, hji10⟩ : ∃ j_ : Int, (wrap64 ((rd l0 x4_1) - 1)) = j_ := ⟨_, rfl⟩
            replace H : (if 0 ≤ (ji10) then (if (ji10) < (x3_1.length : Int) then (spec_LetterSums.l0 k1 l0 (x3_1.set ((ji10) : Int).toNat (wrap64 ((rd x3_1 (ji10)) + 1))) (wrap64 (x4_1 + 1))) else (none)) else (none)) = some r := by first | (rw [hji10] at H; exact H) | (simp only [hji10] at H ⊢; exact H)
            have hji10w : (IntKind.i64.wrap ((rd l0 x4_1) - 1)) = ji10 := (i64_w _).trans hji10
            obtain ⟨c11b0, H⟩ := gdt H
            obtain ⟨c12b0, H⟩ := gdt H
            generalize hy483 : (x3_1.set ((ji10) : Int).toNat (wrap64 ((rd x3_1 (ji10)) + 1)) : List Int) = y483 at H
            have Ny483 := Aside0.mk hy483.symm; clear hy483
            have H' := Aside0.mk H
            clear H
            have p479 : 0 ≤ (x4_1 : Int) := dT
            have q479 : x4_1 < (l0.length : Int) := dT
            obtain ⟨ad479, e479, hx479_0⟩ := Kd.at_int HR0.out x4_1 p479 q479
            cases e479
            replace hx479_0 := cB HB hx479_0
            replace p479 := eq_true p479
            replace q479 := eq_true q479
            try go_wp2
            replace HO_3 := Aside0.mk (Kd.R_drew HO_3.out); replace HB := Aside0.mk (below_drew1 HB.out)
            have p480 : 0 ≤ (x4_1 : Int) := dT
            have q480 : x4_1 < (l0.length : Int) := dT
            obtain ⟨ad480, e480, hx480_0⟩ := Kd.at_int HR0.out x4_1 p480 q480
            have hw480_0 := hx480_0
            obtain rfl : ad479 = ad480 := (by injection e480)
            replace hx480_0 := cB HB hx480_0
            replace p480 := eq_true p480
            replace q480 := eq_true q480
            have p481 : 0 ≤ (x4_1 : Int) := dT
            have q481 : x4_1 < (l0.length : Int) := dT
            obtain ⟨ad481, e481, hx481_0⟩ := Kd.at_int HR0.out x4_1 p481 q481
            have hw481_0 := hx481_0
            obtain rfl : ad479 = ad481 := (by injection e481)
            replace hx481_0 := cB HB hx481_0
            replace p481 := eq_true p481
            replace q481 := eq_true q481
            obtain ⟨Ao15, co15, eo15⟩ := Kd.R_slice HO_3.out
            (first | subst eo15 | (injection eo15 with f1_ f2_ f3_; have f4_ := f1_.symm; have f5_ := f3_.symm; clear f1_ f2_ f3_; subst f4_; subst f5_))
            have p482 : 0 ≤ ((ji10) : Int) := dT
            have q482 : (ji10) < (x3_1.length : Int) := dT
            obtain ⟨ad482, e482, hx482_0⟩ := Kd.at_int (Kd.R_reads' HO_3.out).2.2 (ji10) p482 q482
            cases e482
            replace p482 := eq_true p482
            replace q482 := eq_true q482
            have p13 : 0 ≤ ((ji10) : Int) := dT
            have q13 : ((ji10) : Int) < ((x3_1.length : Int) : Int) := dT
            obtain ⟨go13, co13, eo13, gb13, gl13, cl13, HG13⟩ := Kd.R_form HO_3.out (by omega)
            (first | cases eo13 | (injection eo13 with ea_ en_ ec_; (first | subst ea_ | (injection ea_ with ea_; subst ea_)); subst ec_; clear en_))
            have GB13 := Aside0.mk gb13
            have GG13 := Aside0.mk HG13
            clear gb13 gl13 HG13
            (first | simp only [add_plain] at hx482_0 | skip)
            obtain ⟨hx13_0, hf13_0⟩ := Kd.R_celln 0 HO_3.out ((ji10) : Int) p13 q13
            replace p13 := eq_true p13
            replace q13 := eq_true q13
            have HP16 := Kd.R_putn HO_3.out ((ji10) : Int) (wrap64 ((rd x3_1 (ji10)) + 1))
            rw [← Ny483.out] at HP16
            have HQ16 := Aside0.mk HP16
            clear HP16
            refine start_ (n := 17) (S := fun w' => w'.cell? (ad479.add (x4_1).toNat) = some (.int .i64 (rd l0 x4_1)) ∧ w'.cell? (ad479.add (x4_1).toNat) = some (.int .i64 (rd l0 x4_1)) ∧ w'.cell? ⟨go13, ((ji10)).toNat, none⟩ = some (.int .i64 (rd x3_1 (ji10)))) (ds := [16]) #[false, false, false, false, false, false, false, false, false, false, false, false, false, false, false, false, false] (by kernel_rfl) rfl rfl ⟨((HB.out.cell (World.block_lt_of_cell? w _ hw480_0)).trans hw480_0), ((HB.out.cell (World.block_lt_of_cell? w _ hw481_0)).trans hw481_0), hx482_0⟩ (fun hHeld => ?_); refine with_tabW spec_LetterSums.tab8 spec_LetterSums.bits8 (fun HT_ HW_ => ?_)
            generalize wr.drew = w14 at HO_3 HB GG13 HQ16 hf13_0 hx13_0 hx480_0 hx481_0 hx482_0 hHeld ⊢
            refine pu_ 0 (some 21) ?_
            refine pu_ 1 (some 22) ?_
            refine pu_ 2 (some 23) ?_
            refine pu_ 3 (some 24) ?_
            refine pu_ 6 (some 27) ?_
            refine pu_ 7 (some 28) ?_
            refine pu_ 8 (some 29) ?_
            refine pu_ 9 (some 30) ?_
            refine take_ (i := 4) (N := some 25) (v := ?_) (a' := ?_) #[true, true, true, true, true, false, true, true, true, true, false, false, false, false, false, false, false] rfl rfl (take_ofW HT_.out HW_.out (by kernel_rfl)) (fun _ _ _ h => h) (Or.inl ⟨by rfl, ?_⟩) hHeld ?_ ?_
            rotate_left
            · rintro w' ⟨s0, s1, s2⟩
              go_simp
              with_reducible rfl
            rotate_left
            · simp only [Act.put, List.setIfInBounds_toArray, List.set_cons_zero, List.set_cons_succ, i64_w, i32_w]
              rfl
            refine pu_ 5 (some 26) ?_
            refine take_ (i := 10) (N := some 31) (v := ?_) (a' := ?_) #[true, true, true, true, true, true, true, true, true, true, true, false, false, false, false, false, false] rfl rfl (take_ofW HT_.out HW_.out (by kernel_rfl)) (fun _ _ _ h => h) (Or.inl ⟨by rfl, ?_⟩) hHeld ?_ ?_
            rotate_left
            · rintro w' ⟨s0, s1, s2⟩
              go_simp
              with_reducible rfl
            rotate_left
            · simp only [Act.put, List.setIfInBounds_toArray, List.set_cons_zero, List.set_cons_succ, i64_w, i32_w]
              rfl
            refine pu_ 11 (some 32) ?_
            refine pu_ 12 (some 33) ?_
            refine take_ (i := 13) (N := some 34) (v := ?_) (a' := ?_) #[true, true, true, true, true, true, true, true, true, true, true, true, true, true, false, false, false] rfl rfl (take_ofW HT_.out HW_.out (by kernel_rfl)) (fun _ _ _ h => h) (Or.inl ⟨by rfl, ?_⟩) hHeld ?_ ?_
            rotate_left
            · rintro w' ⟨s0, s1, s2⟩
              go_simp
              with_reducible rfl
            rotate_left
            · simp only [Act.put, List.setIfInBounds_toArray, List.set_cons_zero, List.set_cons_succ, i64_w, i32_w]
              rfl
            refine pu_ 14 (some 35) ?_
            refine pu_ 15 (some 36) ?_
            refine last_ (i := 16) (N := none) #[true, true, true, true, true, true, true, true, true, true, true, true, true, true, true, true, true] rfl rfl (one_of HT_.out (by kernel_rfl)) (by decide) (fun K hK => ?_)
            refine skip_ (w1 := ?_) (by rfl) rfl ?_ ?_
            rotate_left
            · go_simp
              rfl
            refine hK.out _ _ ?_
            clear hK K
            refine done_ (done_of HT_.out (by kernel_rfl)) ?_
            try go_wp2
            go_roundg k1
            case measure => exact oK
            case rel => exact ⟨(y483), (wrap64 (x4_1 + 1)), rS, H', ⟨oK⟩, ⟨R_l HQ16.out⟩, ⟨tG1 GB13.out⟩⟩
          · rw [if_neg c9] at H
            have c9b0 : decide (0 < (rd l0 x4_1)) = false := decide_eq_false c9
            clear c9
            obtain ⟨ji17, hji17⟩ : ∃ j_ : Int, (wrap64 ((wrap64 (-(rd l0 x4_1))) - 1)) = j_ := ⟨_, rfl⟩
            replace H : (if 0 ≤ (ji17) then (if (ji17) < (x3_1.length : Int) then (spec_LetterSums.l0 k1 l0 (x3_1.set ((ji17) : Int).toNat (wrap64 ((rd x3_1 (ji17)) - 1))) (wrap64 (x4_1 + 1))) else (none)) else (none)) = some r := by first | (rw [hji17] at H; exact H) | (simp only [hji17] at H ⊢; exact H)
            have hji17w : (IntKind.i64.wrap ((wrap64 (-(rd l0 x4_1))) - 1)) = ji17 := (i64_w _).trans hji17
            obtain ⟨c18b0, H⟩ := gdt H
            obtain ⟨c19b0, H⟩ := gdt H
            generalize hy487 : (x3_1.set ((ji17) : Int).toNat (wrap64 ((rd x3_1 (ji17)) - 1)) : List Int) = y487 at H
            have Ny487 := Aside0.mk hy487.symm; clear hy487
            have H' := Aside0.mk H
            clear H
            have p479 : 0 ≤ (x4_1 : Int) := dT
            have q479 : x4_1 < (l0.length : Int) := dT
            obtain ⟨ad479, e479, hx479_0⟩ := Kd.at_int HR0.out x4_1 p479 q479
            cases e479
            replace hx479_0 := cB HB hx479_0
            replace p479 := eq_true p479
            replace q479 := eq_true q479
            try go_wp2
            replace HO_3 := Aside0.mk (Kd.R_drew HO_3.out); replace HB := Aside0.mk (below_drew1 HB.out)
            have p484 : 0 ≤ (x4_1 : Int) := dT
            have q484 : x4_1 < (l0.length : Int) := dT
            obtain ⟨ad484, e484, hx484_0⟩ := Kd.at_int HR0.out x4_1 p484 q484
            have hw484_0 := hx484_0
            obtain rfl : ad479 = ad484 := (by injection e484)
            replace hx484_0 := cB HB hx484_0
            replace p484 := eq_true p484
            replace q484 := eq_true q484
            have p485 : 0 ≤ (x4_1 : Int) := dT
            have q485 : x4_1 < (l0.length : Int) := dT
            obtain ⟨ad485, e485, hx485_0⟩ := Kd.at_int HR0.out x4_1 p485 q485
            have hw485_0 := hx485_0
            obtain rfl : ad479 = ad485 := (by injection e485)
            replace hx485_0 := cB HB hx485_0
            replace p485 := eq_true p485
            replace q485 := eq_true q485
            obtain ⟨Ao22, co22, eo22⟩ := Kd.R_slice HO_3.out
            (first | subst eo22 | (injection eo22 with f1_ f2_ f3_; have f4_ := f1_.symm; have f5_ := f3_.symm; clear f1_ f2_ f3_; subst f4_; subst f5_))
            have p486 : 0 ≤ ((ji17) : Int) := dT
            have q486 : (ji17) < (x3_1.length : Int) := dT
            obtain ⟨ad486, e486, hx486_0⟩ := Kd.at_int (Kd.R_reads' HO_3.out).2.2 (ji17) p486 q486
            cases e486
            replace p486 := eq_true p486
            replace q486 := eq_true q486
            have p20 : 0 ≤ ((ji17) : Int) := dT
            have q20 : ((ji17) : Int) < ((x3_1.length : Int) : Int) := dT
            obtain ⟨go20, co20, eo20, gb20, gl20, cl20, HG20⟩ := Kd.R_form HO_3.out (by omega)
            (first | cases eo20 | (injection eo20 with ea_ en_ ec_; (first | subst ea_ | (injection ea_ with ea_; subst ea_)); subst ec_; clear en_))
            have GB20 := Aside0.mk gb20
            have GG20 := Aside0.mk HG20
            clear gb20 gl20 HG20
            (first | simp only [add_plain] at hx486_0 | skip)
            obtain ⟨hx20_0, hf20_0⟩ := Kd.R_celln 0 HO_3.out ((ji17) : Int) p20 q20
            replace p20 := eq_true p20
            replace q20 := eq_true q20
            have HP23 := Kd.R_putn HO_3.out ((ji17) : Int) (wrap64 ((rd x3_1 (ji17)) - 1))
            rw [← Ny487.out] at HP23
            have HQ23 := Aside0.mk HP23
            clear HP23
            refine start_ (n := 19) (S := fun w' => w'.cell? (ad479.add (x4_1).toNat) = some (.int .i64 (rd l0 x4_1)) ∧ w'.cell? (ad479.add (x4_1).toNat) = some (.int .i64 (rd l0 x4_1)) ∧ w'.cell? ⟨go20, ((ji17)).toNat, none⟩ = some (.int .i64 (rd x3_1 (ji17)))) (ds := [18]) #[false, false, false, false, false, false, false, false, false, false, false, false, false, false, false, false, false, false, false] (by kernel_rfl) rfl rfl ⟨((HB.out.cell (World.block_lt_of_cell? w _ hw484_0)).trans hw484_0), ((HB.out.cell (World.block_lt_of_cell? w _ hw485_0)).trans hw485_0), hx486_0⟩ (fun hHeld => ?_); refine with_tabW spec_LetterSums.tab9 spec_LetterSums.bits9 (fun HT_ HW_ => ?_)
            generalize wr.drew = w21 at HO_3 HB GG20 HQ23 hf20_0 hx20_0 hx484_0 hx485_0 hx486_0 hHeld ⊢
            refine pu_ 0 (some 37) ?_
            refine pu_ 1 (some 38) ?_
            refine pu_ 2 (some 39) ?_
            refine pu_ 3 (some 40) ?_
            refine pu_ 7 (some 44) ?_
            refine pu_ 8 (some 45) ?_
            refine pu_ 9 (some 46) ?_
            refine pu_ 10 (some 47) ?_
            refine take_ (i := 4) (N := some 41) (v := ?_) (a' := ?_) #[true, true, true, true, true, false, false, true, true, true, true, false, false, false, false, false, false, false, false] rfl rfl (take_ofW HT_.out HW_.out (by kernel_rfl)) (fun _ _ _ h => h) (Or.inl ⟨by rfl, ?_⟩) hHeld ?_ ?_
            rotate_left
            · rintro w' ⟨s0, s1, s2⟩
              go_simp
              with_reducible rfl
            rotate_left
            · simp only [Act.put, List.setIfInBounds_toArray, List.set_cons_zero, List.set_cons_succ, i64_w, i32_w]
              rfl
            refine pu_ 5 (some 42) ?_
            refine pu_ 6 (some 43) ?_
            refine take_ (i := 11) (N := some 48) (v := ?_) (a' := ?_) #[true, true, true, true, true, true, true, true, true, true, true, true, false, false, false, false, false, false, false] rfl rfl (take_ofW HT_.out HW_.out (by kernel_rfl)) (fun _ _ _ h => h) (Or.inl ⟨by rfl, ?_⟩) hHeld ?_ ?_
            rotate_left
            · rintro w' ⟨s0, s1, s2⟩
              go_simp
              with_reducible rfl
            rotate_left
            · simp only [Act.put, List.setIfInBounds_toArray, List.set_cons_zero, List.set_cons_succ, i64_w, i32_w]
              rfl
            refine pu_ 12 (some 49) ?_
            refine pu_ 13 (some 50) ?_
            refine pu_ 14 (some 51) ?_
            refine take_ (i := 15) (N := some 52) (v := ?_) (a' := ?_) #[true, true, true, true, true, true, true, true, true, true, true, true, true, true, true, true, false, false, false] rfl rfl (take_ofW HT_.out HW_.out (by kernel_rfl)) (fun _ _ _ h => h) (Or.inl ⟨by rfl, ?_⟩) hHeld ?_ ?_
            rotate_left
            · rintro w' ⟨s0, s1, s2⟩
              go_simp
              with_reducible rfl
            rotate_left
            · simp only [Act.put, List.setIfInBounds_toArray, List.set_cons_zero, List.set_cons_succ, i64_w, i32_w]
              rfl
            refine pu_ 16 (some 53) ?_
            refine pu_ 17 (some 54) ?_
            refine last_ (i := 18) (N := none) #[true, true, true, true, true, true, true, true, true, true, true, true, true, true, true, true, true, true, true] rfl rfl (one_of HT_.out (by kernel_rfl)) (by decide) (fun K hK => ?_)
            refine skip_ (w1 := ?_) (by rfl) rfl ?_ ?_
            rotate_left
            · go_simp
              rfl
            refine hK.out _ _ ?_
            clear hK K
            refine done_ (done_of HT_.out (by kernel_rfl)) ?_
            try go_wp2
            go_roundg k1
            case measure => exact oK
            case rel => exact ⟨(y487), (wrap64 (x4_1 + 1)), rS, H', ⟨oK⟩, ⟨R_l HQ23.out⟩, ⟨tG1 GB20.out⟩⟩
        · obtain rfl := Option.some.inj H
          go_wp2
          go_ret
          exact ⟨_, rE, R_l HO_3.out, tb⟩
  · replace c3 := Bool.eq_false_iff.mpr c3
    subst c3
    rw [if_neg (show ¬ (false = true) by decide)] at H
    generalize hy473 : (([] : List Int) : List Int) = y473 at H
    have Ny473 := Aside0.mk hy473.symm; clear hy473
    obtain rfl := Option.some.inj H
    go_enter Tryd.func28, Tryd.ntmps28
    go_wp2_with (first | ((with_reducible refine gate_callee (f := 52) rfl ?_); refine goesL_ (some 6) rfl rfl Tryd.func52 (by kernel_rfl) rfl #[.slice A0 l0.length c0] rfl mp_ ?_; (with_reducible refine (spec_IsWord.calls k _ _ l0 false _ ?side1 ?side2 A2.out).mono ?_); (case side1 => exact C_l HR0.out); (case side2 => exact HC0.out); rintro e w' ⟨rfl, ⟨nd, rfl⟩⟩; refine ⟨_, rfl, ?_⟩) | ((with_reducible refine gate_dst (N := 8) rfl ?_); refine Kd.R_lit (Kd.int .i64) _ 3 ?hg (N := 8) ?hd (xs := ([] : List Int)) (inner := []) (ok := fun _ => True) (okp := fun _ => True) ?hr ?hp (fun _ hk => hk) trivial (Below.refl _ _) (Nat.le_refl _) (by simp) ?_; (case hd => rfl); (case hg => rfl); (case hr => exact gS); (case hp => exact (Reps.none _ _)); intro v474 w24 ho25 hb hg_ hnew_; clear hg_ hnew_; (first | rw [← Ny473.out] at ho25 | (simp only [Int.reduceToNat] at ho25; rw [← Ny473.out] at ho25)); have HO475 := Aside0.mk (Kd.R_lower ho25 (below_size tb)); replace HB := Aside0.mk (below_step tb hb); clear hb ho25))
    go_ret
    exact ⟨_, rE, R_l HO475.out, tb⟩

/-! ### spec_l2Reduce: function 61 -/
def spec_l2Reduce.l0 : Nat → List Int → List Int → Int → Option (List Int)
  | 0, _, _, _ => none
  | k + 1, x0, x3, x4 => if x4 < (x0.length : Int) then (if (x3.length : Int) > 0 then (if 0 ≤ (wrap64 ((x3.length : Int) - 1)) then (if (wrap64 ((x3.length : Int) - 1)) < (x3.length : Int) then (if 0 ≤ x4 then (if (rd x3 (wrap64 ((x3.length : Int) - 1))) = (wrap64 (-(rd x0 x4))) then (if (wrap64 ((x3.length : Int) - 1)) ≤ (x3.length : Int) then (spec_l2Reduce.l0 k x0 (x3.take ((wrap64 ((x3.length : Int) - 1)) : Int).toNat) (wrap64 (x4 + 1))) else (none)) else (if x3.length < 17592186044416 then (spec_l2Reduce.l0 k x0 (x3 ++ [rd x0 x4]) (wrap64 (x4 + 1))) else (none))) else (none)) else (none)) else (none)) else (if 0 ≤ x4 then (if x3.length < 17592186044416 then (spec_l2Reduce.l0 k x0 (x3 ++ [rd x0 x4]) (wrap64 (x4 + 1))) else (none)) else (none))) else (some x3)
def spec_l2Reduce.f (k : Nat) (l0 : List Int) : Option (List Int) := spec_l2Reduce.l0 k l0 (([] : List Int)) 0
set_option maxHeartbeats 8000000 in
set_option maxRecDepth 100000 in
theorem spec_l2Reduce.calls (k : Nat) (A0 : Option Addr) (c0 : Nat) (l0 : List Int) (r : List Int) (w : World) (hr0 : Kd.C (Kd.int .i64) w A0 l0.length l0) (hc0 : l0.length ≤ c0) (h : spec_l2Reduce.f k l0 = some r) :
    Calls Tryd.prog 61 #[.slice A0 l0.length c0] w fun e w' => ∃ v0_ : Value, e = .returned (v0_) ∧ Kd.R (Kd.int .i64) 3 w' w.heap.size (fun _ => True) v0_ r ∧ Below w.heap.size w w' := by
  have HR0 := Aside0.mk hr0
  have HC0 := Aside0.mk hc0
  clear hr0 hc0
  have HB := Aside0.mk (Below.refl w.heap.size w)
  have H : (spec_l2Reduce.l0 k l0 (([] : List Int)) 0) = some r := h
  clear h
  generalize hy488 : (([] : List Int) : List Int) = y488 at H
  have Ny488 := Aside0.mk hy488.symm; clear hy488
  have H' := Aside0.mk H
  clear H
  go_enter Tryd.func61, Tryd.ntmps61
  go_wp2_with (first | ((with_reducible refine gate_dst (N := 5) rfl ?_); (try (refine gate_guard (by rfl) ?_; dsimp only)); refine Kd.R_lit (Kd.int .i64) _ 3 ?hg (N := 5) ?hd (xs := ([] : List Int)) (inner := []) (ok := fun _ => True) (okp := fun _ => True) ?hr ?hp (fun _ hk => hk) trivial (Below.refl _ _) (Nat.le_refl _) (by simp) ?_; (case hd => rfl); (case hg => rfl); (case hr => exact gS); (case hp => exact (Reps.none _ _)); intro v489 w2 ho3 hb hg_ hnew_; clear hg_ hnew_; (first | rw [← Ny488.out] at ho3 | (simp only [Int.reduceToNat] at ho3; rw [← Ny488.out] at ho3)); have HO490 := Aside0.mk (Kd.R_lower ho3 (below_size tb)); replace HB := Aside0.mk (below_step tb hb); clear hb ho3))
  repeat (go_quiet (first | ((with_reducible refine gate_dst (N := 5) rfl ?_); (try (refine gate_guard (by rfl) ?_; dsimp only)); refine Kd.R_lit (Kd.int .i64) _ 3 ?hg (N := 5) ?hd (xs := ([] : List Int)) (inner := []) (ok := fun _ => True) (okp := fun _ => True) ?hr ?hp (fun _ hk => hk) trivial (Below.refl _ _) (Nat.le_refl _) (by simp) ?_; (case hd => rfl); (case hg => rfl); (case hr => exact gS); (case hp => exact (Reps.none _ _)); intro v489 w2 ho3 hb hg_ hnew_; clear hg_ hnew_; (first | rw [← Ny488.out] at ho3 | (simp only [Int.reduceToNat] at ho3; rw [← Ny488.out] at ho3)); have HO490 := Aside0.mk (Kd.R_lower ho3 (below_size tb)); replace HB := Aside0.mk (below_step tb hb); clear hb ho3)); try go_wp2_with (first | ((with_reducible refine gate_dst (N := 5) rfl ?_); (try (refine gate_guard (by rfl) ?_; dsimp only)); refine Kd.R_lit (Kd.int .i64) _ 3 ?hg (N := 5) ?hd (xs := ([] : List Int)) (inner := []) (ok := fun _ => True) (okp := fun _ => True) ?hr ?hp (fun _ hk => hk) trivial (Below.refl _ _) (Nat.le_refl _) (by simp) ?_; (case hd => rfl); (case hg => rfl); (case hr => exact gS); (case hp => exact (Reps.none _ _)); intro v489 w2 ho3 hb hg_ hnew_; clear hg_ hnew_; (first | rw [← Ny488.out] at ho3 | (simp only [Int.reduceToNat] at ho3; rw [← Ny488.out] at ho3)); have HO490 := Aside0.mk (Kd.R_lower ho3 (below_size tb)); replace HB := Aside0.mk (below_step tb hb); clear hb ho3)))
  go_loopg [3, 4] k (fun kq v3 v4 w' => ∃ (x3_1 : List Int) (x4_1 : Int), v4 = .int .i64 x4_1 ∧ Aside0 (spec_l2Reduce.l0 kq l0 x3_1 x4_1 = some r) ∧ Aside0 (kq ≤ k) ∧ Aside0 (Kd.R (Kd.int .i64) 3 w' w.heap.size (fun _ => True) v3 x3_1) ∧ Aside0 (Below w.heap.size w w'))
  case atStart => exact ⟨(y488), (0), rS, H', ⟨Nat.le_refl _⟩, ⟨R_l HO490.out⟩, ⟨tb⟩⟩
  case round =>
    clear H'
    try clear p2
    obtain ⟨x3_1, x4_1, rfl, HA, HK1, HO_3, HB⟩ := hrel
    cases gk with
    | zero => exact absurd HA.out (by simp [spec_l2Reduce.l0])
    | succ k1 =>
      have H := HA.out
      clear HA
      simp only [spec_l2Reduce.l0] at H
      obtain ⟨c4b0, H⟩ | ⟨c4b0, H⟩ := gi H
      · by_cases c5 : (x3_1.length : Int) > 0
        · rw [if_pos c5] at H
          have c5b0 : decide (0 < (x3_1.length : Int)) = true := decide_eq_true c5
          have c5b1 : decide (0 < x3_1.length) = true := decide_eq_true (by omega)
          clear c5
          obtain ⟨ji6, hji6⟩ : ∃ j_ : Int, (wrap64 ((x3_1.length : Int) - 1)) = j_ := ⟨_, rfl⟩
          replace H : (if 0 ≤ (ji6) then (if (ji6) < (x3_1.length : Int) then (if 0 ≤ x4_1 then (if (rd x3_1 (ji6)) = (wrap64 (-(rd l0 x4_1))) then (if (ji6) ≤ (x3_1.length : Int) then (spec_l2Reduce.l0 k1 l0 (x3_1.take ((ji6) : Int).toNat) (wrap64 (x4_1 + 1))) else (none)) else (if x3_1.length < 17592186044416 then (spec_l2Reduce.l0 k1 l0 (x3_1 ++ [rd l0 x4_1]) (wrap64 (x4_1 + 1))) else (none))) else (none)) else (none)) else (none)) = some r := by first | (rw [hji6] at H; exact H) | (simp only [hji6] at H ⊢; exact H)
          have hji6w : (IntKind.i64.wrap ((x3_1.length : Int) - 1)) = ji6 := (i64_w _).trans hji6
          obtain ⟨c7b0, H⟩ := gdt H
          obtain ⟨c8b0, H⟩ := gdt H
          obtain ⟨c9b0, H⟩ := gdt H
          by_cases c10 : (rd x3_1 (ji6)) = (wrap64 (-(rd l0 x4_1)))
          · rw [if_pos c10] at H
            have c10b0 : ((rd x3_1 (ji6)) == (wrap64 (-(rd l0 x4_1)))) = true := beq_iff_eq.mpr c10
            have c10b1 : ((rd x3_1 (ji6)) != (wrap64 (-(rd l0 x4_1)))) = false := bne_eq_false_iff_eq.mpr c10
            clear c10
            obtain ⟨c11, H⟩ := gd H
            have c11b0 := eq_true c11
            have c11b1 : decide ((ji6) ≤ (x3_1.length : Int)) = true := decide_eq_true c11
            clear c11
            generalize hy493 : (x3_1.take ((ji6) : Int).toNat : List Int) = y493 at H
            have Ny493 := Aside0.mk hy493.symm; clear hy493
            have H' := Aside0.mk H
            clear H
            obtain ⟨Ao12, co12, eo12⟩ := Kd.R_slice HO_3.out
            subst eo12
            have p491 : 0 ≤ ((ji6) : Int) := dT
            have q491 : (ji6) < (x3_1.length : Int) := dT
            obtain ⟨ad491, e491, hx491_0⟩ := Kd.at_int (Kd.R_reads' HO_3.out).2.2 (ji6) p491 q491
            cases e491
            replace p491 := eq_true p491
            replace q491 := eq_true q491
            have p492 : 0 ≤ (x4_1 : Int) := dT
            have q492 : x4_1 < (l0.length : Int) := dT
            obtain ⟨ad492, e492, hx492_0⟩ := Kd.at_int HR0.out x4_1 p492 q492
            cases e492
            replace hx492_0 := cB HB hx492_0
            replace p492 := eq_true p492
            replace q492 := eq_true q492
            have q13 : ((ji6) : Int) ≤ ((x3_1.length : Int) : Int) := dT
            obtain ⟨i013, hi013, _, hsz13, _⟩ := info_parts info3
            have hcut13 := cut_to (P := Tryd.prog) 39 3 .i64 Tryd.underlying39 hi013 (some ad491) x3_1.length co12 (ji6) dT q13 (Kd.R_reads' HO_3.out).2.1
            have hr13 := Kd.R_take (m := ((ji6) : Int).toNat) HO_3.out (by omega)
            have hy13 : y493.length = ((ji6) : Int).toNat := (by rw [Ny493.out, List.length_take]; omega)
            rw [← Ny493.out] at hr13
            rw [← hy13] at hr13 hcut13
            clear hy13 hi013 hsz13 HO_3
            have HO495 := Aside0.mk hr13
            clear hr13
            replace q13 := eq_true q13
            go_wp2
            repeat (go_quiet (fail); try go_wp2)
            go_roundg k1
            case measure => exact oK
            case rel => exact ⟨(y493), (wrap64 (x4_1 + 1)), rS, H', ⟨oK⟩, ⟨R_l HO495.out⟩, ⟨tb⟩⟩
          · rw [if_neg c10] at H
            have c10b0 : ((rd x3_1 (ji6)) == (wrap64 (-(rd l0 x4_1)))) = false := beq_eq_false_iff_ne.mpr c10
            have c10b1 : ((rd x3_1 (ji6)) != (wrap64 (-(rd l0 x4_1)))) = true := bne_iff_ne.mpr c10
            obtain ⟨LMc14, H⟩ := gda H
            generalize hy497 : (x3_1 ++ [rd l0 x4_1] : List Int) = y497 at H
            have Ny497 := Aside0.mk hy497.symm; clear hy497
            have H' := Aside0.mk H
            clear H
            obtain ⟨Ao15, co15, eo15⟩ := Kd.R_slice HO_3.out
            subst eo15
            have p491 : 0 ≤ ((ji6) : Int) := dT
            have q491 : (ji6) < (x3_1.length : Int) := dT
            obtain ⟨ad491, e491, hx491_0⟩ := Kd.at_int (Kd.R_reads' HO_3.out).2.2 (ji6) p491 q491
            cases e491
            replace p491 := eq_true p491
            replace q491 := eq_true q491
            have p492 : 0 ≤ (x4_1 : Int) := dT
            have q492 : x4_1 < (l0.length : Int) := dT
            obtain ⟨ad492, e492, hx492_0⟩ := Kd.at_int HR0.out x4_1 p492 q492
            cases e492
            replace hx492_0 := cB HB hx492_0
            replace p492 := eq_true p492
            replace q492 := eq_true q492
            have p496 : 0 ≤ (x4_1 : Int) := dT
            have q496 : x4_1 < (l0.length : Int) := dT
            obtain ⟨ad496, e496, hx496_0⟩ := Kd.at_int HR0.out x4_1 p496 q496
            obtain rfl : ad492 = ad496 := (by injection e496)
            replace hx496_0 := cB HB hx496_0
            replace p496 := eq_true p496
            replace q496 := eq_true q496
            go_wp2_with (first | ((with_reducible refine gate_builtin (b := .append) (xs := #[.tmp 34, .tmp 39]) rfl ?_); (try (refine gate_guard (by rfl) ?_; dsimp only)); at_builtin; refine Kd.R_append (Kd.int .i64) (w0 := w) w.heap.size rfl (.tmp 34) (.tmp 39) 39 3 (.int .i64 0) 8 rfl Tryd.underlying39 info3 rfl (by decide) (by omega) (.slice (some ad491) x3_1.length co15) x3_1 (rd l0 x4_1) [.int .i64 (rd l0 x4_1)] (fun _ => True) (fun _ => False) rfl rfl ?aP (fun _ hk => hk.elim) ?aF ?aO ?aB ?aS ?aL ?_; (case aP => exact rfl); (case aB => exact tb); (case aF => exact (fun _ _ => trivial)); (case aO => exact (R_l HO_3.out)); (case aS => exact (below_size tb)); (case aL => have := LMc14.out; omega); intro v498 w16 ho hb hg hat; rw [← Ny497.out] at ho; replace HB := Aside0.mk (hb); have HO499 := Aside0.mk (ho); clear HO_3; clear ho hb hg hat))
            repeat (go_quiet (first | ((with_reducible refine gate_builtin (b := .append) (xs := #[.tmp 34, .tmp 39]) rfl ?_); (try (refine gate_guard (by rfl) ?_; dsimp only)); at_builtin; refine Kd.R_append (Kd.int .i64) (w0 := w) w.heap.size rfl (.tmp 34) (.tmp 39) 39 3 (.int .i64 0) 8 rfl Tryd.underlying39 info3 rfl (by decide) (by omega) (.slice (some ad491) x3_1.length co15) x3_1 (rd l0 x4_1) [.int .i64 (rd l0 x4_1)] (fun _ => True) (fun _ => False) rfl rfl ?aP (fun _ hk => hk.elim) ?aF ?aO ?aB ?aS ?aL ?_; (case aP => exact rfl); (case aB => exact tb); (case aF => exact (fun _ _ => trivial)); (case aO => exact (R_l HO_3.out)); (case aS => exact (below_size tb)); (case aL => have := LMc14.out; omega); intro v498 w16 ho hb hg hat; rw [← Ny497.out] at ho; replace HB := Aside0.mk (hb); have HO499 := Aside0.mk (ho); clear HO_3; clear ho hb hg hat)); try go_wp2_with (first | ((with_reducible refine gate_builtin (b := .append) (xs := #[.tmp 34, .tmp 39]) rfl ?_); (try (refine gate_guard (by rfl) ?_; dsimp only)); at_builtin; refine Kd.R_append (Kd.int .i64) (w0 := w) w.heap.size rfl (.tmp 34) (.tmp 39) 39 3 (.int .i64 0) 8 rfl Tryd.underlying39 info3 rfl (by decide) (by omega) (.slice (some ad491) x3_1.length co15) x3_1 (rd l0 x4_1) [.int .i64 (rd l0 x4_1)] (fun _ => True) (fun _ => False) rfl rfl ?aP (fun _ hk => hk.elim) ?aF ?aO ?aB ?aS ?aL ?_; (case aP => exact rfl); (case aB => exact tb); (case aF => exact (fun _ _ => trivial)); (case aO => exact (R_l HO_3.out)); (case aS => exact (below_size tb)); (case aL => have := LMc14.out; omega); intro v498 w16 ho hb hg hat; rw [← Ny497.out] at ho; replace HB := Aside0.mk (hb); have HO499 := Aside0.mk (ho); clear HO_3; clear ho hb hg hat)))
            go_roundg k1
            case measure => exact oK
            case rel => exact ⟨(y497), (wrap64 (x4_1 + 1)), rS, H', ⟨oK⟩, ⟨R_l HO499.out⟩, ⟨tb⟩⟩
        · rw [if_neg c5] at H
          have c5b0 : decide (0 < (x3_1.length : Int)) = false := decide_eq_false c5
          have c5b1 : decide (0 < x3_1.length) = false := decide_eq_false (by omega)
          clear c5
          obtain ⟨c17b0, H⟩ := gdt H
          obtain ⟨LMc18, H⟩ := gda H
          generalize hy501 : (x3_1 ++ [rd l0 x4_1] : List Int) = y501 at H
          have Ny501 := Aside0.mk hy501.symm; clear hy501
          have H' := Aside0.mk H
          clear H
          obtain ⟨Ao19, co19, eo19⟩ := Kd.R_slice HO_3.out
          subst eo19
          have p500 : 0 ≤ (x4_1 : Int) := dT
          have q500 : x4_1 < (l0.length : Int) := dT
          obtain ⟨ad500, e500, hx500_0⟩ := Kd.at_int HR0.out x4_1 p500 q500
          cases e500
          replace hx500_0 := cB HB hx500_0
          replace p500 := eq_true p500
          replace q500 := eq_true q500
          go_wp2_with (first | ((with_reducible refine gate_builtin (b := .append) (xs := #[.tmp 34, .tmp 39]) rfl ?_); (try (refine gate_guard (by rfl) ?_; dsimp only)); at_builtin; refine Kd.R_append (Kd.int .i64) (w0 := w) w.heap.size rfl (.tmp 34) (.tmp 39) 39 3 (.int .i64 0) 8 rfl Tryd.underlying39 info3 rfl (by decide) (by omega) (.slice Ao19 x3_1.length co19) x3_1 (rd l0 x4_1) [.int .i64 (rd l0 x4_1)] (fun _ => True) (fun _ => False) rfl rfl ?aP (fun _ hk => hk.elim) ?aF ?aO ?aB ?aS ?aL ?_; (case aP => exact rfl); (case aB => exact tb); (case aF => exact (fun _ _ => trivial)); (case aO => exact (R_l HO_3.out)); (case aS => exact (below_size tb)); (case aL => have := LMc18.out; omega); intro v502 w20 ho hb hg hat; rw [← Ny501.out] at ho; replace HB := Aside0.mk (hb); have HO503 := Aside0.mk (ho); clear HO_3; clear ho hb hg hat))
          repeat (go_quiet (first | ((with_reducible refine gate_builtin (b := .append) (xs := #[.tmp 34, .tmp 39]) rfl ?_); (try (refine gate_guard (by rfl) ?_; dsimp only)); at_builtin; refine Kd.R_append (Kd.int .i64) (w0 := w) w.heap.size rfl (.tmp 34) (.tmp 39) 39 3 (.int .i64 0) 8 rfl Tryd.underlying39 info3 rfl (by decide) (by omega) (.slice Ao19 x3_1.length co19) x3_1 (rd l0 x4_1) [.int .i64 (rd l0 x4_1)] (fun _ => True) (fun _ => False) rfl rfl ?aP (fun _ hk => hk.elim) ?aF ?aO ?aB ?aS ?aL ?_; (case aP => exact rfl); (case aB => exact tb); (case aF => exact (fun _ _ => trivial)); (case aO => exact (R_l HO_3.out)); (case aS => exact (below_size tb)); (case aL => have := LMc18.out; omega); intro v502 w20 ho hb hg hat; rw [← Ny501.out] at ho; replace HB := Aside0.mk (hb); have HO503 := Aside0.mk (ho); clear HO_3; clear ho hb hg hat)); try go_wp2_with (first | ((with_reducible refine gate_builtin (b := .append) (xs := #[.tmp 34, .tmp 39]) rfl ?_); (try (refine gate_guard (by rfl) ?_; dsimp only)); at_builtin; refine Kd.R_append (Kd.int .i64) (w0 := w) w.heap.size rfl (.tmp 34) (.tmp 39) 39 3 (.int .i64 0) 8 rfl Tryd.underlying39 info3 rfl (by decide) (by omega) (.slice Ao19 x3_1.length co19) x3_1 (rd l0 x4_1) [.int .i64 (rd l0 x4_1)] (fun _ => True) (fun _ => False) rfl rfl ?aP (fun _ hk => hk.elim) ?aF ?aO ?aB ?aS ?aL ?_; (case aP => exact rfl); (case aB => exact tb); (case aF => exact (fun _ _ => trivial)); (case aO => exact (R_l HO_3.out)); (case aS => exact (below_size tb)); (case aL => have := LMc18.out; omega); intro v502 w20 ho hb hg hat; rw [← Ny501.out] at ho; replace HB := Aside0.mk (hb); have HO503 := Aside0.mk (ho); clear HO_3; clear ho hb hg hat)))
          go_roundg k1
          case measure => exact oK
          case rel => exact ⟨(y501), (wrap64 (x4_1 + 1)), rS, H', ⟨oK⟩, ⟨R_l HO503.out⟩, ⟨tb⟩⟩
      · obtain rfl := Option.some.inj H
        go_wp2
        repeat (go_quiet (fail); try go_wp2)
        go_ret
        exact ⟨_, rE, R_l HO_3.out, tb⟩

end Go.Proofs.YtomjfejacjphnaaDoor.PFnSlopes
