import Derived.Test.YtbchbmfmplfoiaaWSpanB
import Derived.Test.YtbchbmfmplfoiaaPFnGroupsx0
import Derived.Test.YtbchbmfmplfoiaaPFnGroupsx5
import Derived.Test.YtbchbmfmplfoiaaPFnGroupsx13
namespace Go.Proofs.Ytbchbmfmplfoiaa.PFnGroups
open Go.RowKit Go.Proofs.YtbchbmfmplfoiaaW.PrintWords Go.Proofs.YtbchbmfmplfoiaaW.PrintLast Go.Proofs.YtbchbmfmplfoiaaW.PrintMore
attribute [local go_sem] max2_int min2_int max_two min_two max_three min_three max_four min_four   -- for this text's walks alone
set_option linter.unusedVariables false
set_option linter.unusedSimpArgs false

/-! ### spec_l9Perms: function 52 -/
def spec_l9Perms.l0 : Nat → List (List Int) → Int → Option (Bool)
 | 0, _, _ => none
 | k + 1, x0, x3 => if x3 < (x0.length : Int) then (if 0 ≤ x3 then (if 0 < (x0.length : Int) then (if ((rd_L2 x0 x3).length : Int) = ((rd_L2 x0 0).length : Int) then ((spec_l6Perm.f k (rd_L2 x0 x3)).bind fun t774 => (if t774 = true then (spec_l9Perms.l0 k x0 (wrap64 (x3 + 1))) else (some false))) else (some false)) else (none)) else (none)) else ((spec_l1In.f (x0.length : Int) 1 8).bind fun t775 => (if t775 = true then (if 0 < (x0.length : Int) then ((spec_l1In.f ((rd_L2 x0 0).length : Int) 1 5).bind fun t777 => (some t777)) else (none)) else (some false)))
def spec_l9Perms.f (k : Nat) (l0 : List (List Int)) : Option (Bool) := spec_l9Perms.l0 k l0 0
def spec_l9Perms.T4 : Bool × List (List Nat × List Nat) := (true, [([], []), ([], []), ([0, 1], [0, 1]), ([2], [2]), ([3], [3]), ([], []), ([5], [5]), ([6], [6]), ([7], [7]), ([4, 8], [4, 8]), ([9], [9]), ([10], [10]), ([10], [10]), ([11, 12, 10], [10, 11, 12]), ([13, 10], [10, 13]), ([14, 10, 10], [10, 14]), ([15, 10], [10, 15]), ([10, 16], [10, 16])])
def spec_l9Perms.B4 : List Nat := [0, 0, 3, 7, 15, 0, 32, 96, 224, 511, 1023, 2047, 2047, 8191, 16383, 32767, 65535, 131071]
theorem spec_l9Perms.tab4 : rtab .any (opsOf Try.f52 4) = spec_l9Perms.T4 := by kernel_rfl
theorem spec_l9Perms.bits4 : waitsOk spec_l9Perms.T4.2 spec_l9Perms.B4 = true := by kernel_rfl
set_option maxHeartbeats 8000000 in
set_option maxRecDepth 100000 in
theorem spec_l9Perms.calls (k : Nat) (A0 : Option Addr) (c0 : Nat) (l0 : List (List Int)) (r : Bool) (w : World) (hr0 : Kd.C (Kd.slice 3 (Kd.int .i64)) w A0 l0.length l0) (hc0 : l0.length ≤ c0) (h : spec_l9Perms.f k l0 = some r) :
  Calls Try.prog 52 #[.slice A0 l0.length c0] w fun e w' => e = .returned (.bool r) ∧ Below w.heap.size w w' := by
 have HR0 := Aside0.mk hr0
 have HC0 := Aside0.mk hc0
 clear hr0 hc0
 have HB := Aside0.mk (Below.refl w.heap.size w)
 have H : (spec_l9Perms.l0 k l0 0) = some r := h
 clear h
 have H' := Aside0.mk H
 clear H
 go_enter Try.func52, Try.ntmps52
 go_wp2
 go_loopg [3] k (fun kq v3 w' => ∃ (x3_1 : Int), v3 = .int .i64 x3_1 ∧ Aside0 (spec_l9Perms.l0 kq l0 x3_1 = some r) ∧ Aside0 (kq ≤ k) ∧ Aside0 (Below w.heap.size w w'))
 case atStart => exact ⟨(0), rS, H', ⟨Nat.le_refl _⟩, ⟨tb⟩⟩
 case round =>
  clear H'
  obtain ⟨x3_1, rfl, HA, HK1, HB⟩ := hrel
  cases gk with
  | zero => exact absurd HA.out (by simp [spec_l9Perms.l0])
  | succ k1 =>
   have H := HA.out
   clear HA
   simp only [spec_l9Perms.l0] at H
   obtain ⟨c2b0, H⟩ | ⟨c2b0, H⟩ := gi H
   ·obtain ⟨c3b0, H⟩ := gdt H
    obtain ⟨c4, H⟩ := gd H
    have c4b0 : decide (0 < (l0.length : Int)) = true := decide_eq_true c4
    have c4b1 : decide (0 < l0.length) = true := decide_eq_true (by omega)
    clear c4
    by_cases c5 : ((rd_L2 l0 x3_1).length : Int) = ((rd_L2 l0 0).length : Int)
    ·rw [if_pos c5] at H
     have c5b0 : (((rd_L2 l0 x3_1).length : Int) == ((rd_L2 l0 0).length : Int)) = true := beq_iff_eq.mpr c5
     have c5b1 : (((rd_L2 l0 x3_1).length : Int) != ((rd_L2 l0 0).length : Int)) = false := bne_eq_false_iff_eq.mpr c5
     have c5b2 : ((rd_L2 l0 x3_1).length == (rd_L2 l0 0).length) = true := by first | simpa using c5 | (simp at c5 ⊢; omega)
     clear c5
     obtain ⟨t774, A6, H⟩ := bs H
     by_cases c7 : t774 = true
     ·subst c7
      rw [if_pos rfl] at H
      have H' := Aside0.mk H
      clear H
      try go_wp2
      replace HB := Aside0.mk (below_drew1 HB.out)
      have p771 : 0 ≤ (x3_1 : Int) := dT
      have q771 : x3_1 < (l0.length : Int) := dT
      obtain ⟨ad771, A771_0, c771_0, e771, hx771_0, hl771_0, hi771_0⟩ := at_L2 HR0.out x3_1 p771 q771
      have hw771_0 := hx771_0
      cases e771
      replace hx771_0 := cB HB hx771_0
      have HR771_0 := Aside0.mk hi771_0
      have HC771_0 := Aside0.mk hl771_0
      clear hi771_0 hl771_0
      replace p771 := eq_true p771
      replace q771 := eq_true q771
      have p772 : 0 ≤ (0 : Int) := (by omega)
      have q772 : 0 < (l0.length : Int) := dT
      obtain ⟨ad772, A772_0, c772_0, e772, hx772_0, hl772_0, hi772_0⟩ := at_L2 HR0.out 0 p772 q772
      have hw772_0 := hx772_0
      (try rw [show ((0 : Int)).toNat = 0 from rfl] at hw772_0)
      (try rw [show 0 * 1 = 0 from rfl] at hw772_0)
      (try rw [Addr.add_zero'] at hw772_0)
      obtain rfl : ad771 = ad772 := (by injection e772)
      have qi772 : (0 < l0.length) = True := eq_true (by omega)
      (try rw [show ((0 : Int)).toNat = 0 from rfl] at hx772_0)
      (try rw [Addr.add_zero'] at hx772_0)
      replace hx772_0 := cB HB hx772_0
      have HR772_0 := Aside0.mk hi772_0
      have HC772_0 := Aside0.mk hl772_0
      clear hi772_0 hl772_0
      replace p772 := eq_true p772
      replace q772 := eq_true q772
      have p773 : 0 ≤ (x3_1 : Int) := dT
      have q773 : x3_1 < (l0.length : Int) := dT
      obtain ⟨ad773, A773_0, c773_0, e773, hx773_0, hl773_0, hi773_0⟩ := at_L2 HR0.out x3_1 p773 q773
      have hw773_0 := hx773_0
      obtain rfl : ad771 = ad773 := (by injection e773)
      replace hx773_0 := cB HB hx773_0
      have HR773_0 := Aside0.mk hi773_0
      have HC773_0 := Aside0.mk hl773_0
      clear hi773_0 hl773_0
      replace p773 := eq_true p773
      replace q773 := eq_true q773
      have ea_ := Option.some.inj (hx771_0.symm.trans hx773_0)
      injection ea_ with ea_ en_ ec_
      subst ea_
      subst ec_
      clear en_
      refine start_ (n := 18) (S := fun w' => w'.cell? (ad771.add (x3_1).toNat) = some (.slice A771_0 (rd_L2 l0 x3_1).length c771_0) ∧ w'.cell? ad771 = some (.slice A772_0 (rd_L2 l0 0).length c772_0) ∧ w'.cell? (ad771.add (x3_1).toNat) = some (.slice A771_0 (rd_L2 l0 x3_1).length c771_0)) (ds := []) #[false, false, false, false, false, false, false, false, false, false, false, false, false, false, false, false, false, false] (by kernel_rfl) rfl rfl ⟨((HB.out.cell (World.block_lt_of_cell? w _ hw771_0)).trans hw771_0), ((HB.out.cell (World.block_lt_of_cell? w _ hw772_0)).trans hw772_0), ((HB.out.cell (World.block_lt_of_cell? w _ hw773_0)).trans hw773_0)⟩ (fun hHeld => ?_); refine with_tabW spec_l9Perms.tab4 spec_l9Perms.bits4 (fun HT_ HW_ => ?_)
      generalize wr.drew = w8 at HB HR771_0 HR772_0 HR773_0 hx771_0 hx772_0 hx773_0 hHeld ⊢
      refine pu_ 0 (some 10) ?_
      refine pu_ 1 (some 11) ?_
      refine pu_ 2 (some 12) ?_
      refine pu_ 5 (some 15) ?_
      refine pu_ 6 (some 16) ?_
      refine take_ (i := 3) (N := some 13) (v := ?_) (a' := ?_) #[true, true, true, true, false, true, true, false, false, false, false, false, false, false, false, false, false, false] rfl rfl (take_ofW HT_.out HW_.out (by kernel_rfl)) (fun _ _ _ h => h) (Or.inl ⟨by rfl, ?_⟩) hHeld ?_ ?_
      rotate_left
      ·rintro w' ⟨s0, s1, s2⟩
       go_simp
       with_reducible rfl
      rotate_left
      ·simp only [Act.put, List.setIfInBounds_toArray, List.set_cons_zero, List.set_cons_succ, i64_w, i32_w]
       rfl
      refine pu_ 4 (some 14) ?_
      refine take_ (i := 7) (N := some 17) (v := ?_) (a' := ?_) #[true, true, true, true, true, true, true, true, false, false, false, false, false, false, false, false, false, false] rfl rfl (take_ofW HT_.out HW_.out (by kernel_rfl)) (fun _ _ _ h => h) (Or.inl ⟨by rfl, ?_⟩) hHeld ?_ ?_
      rotate_left
      ·rintro w' ⟨s0, s1, s2⟩
       go_simp
       with_reducible rfl
      rotate_left
      ·simp only [Act.put, List.setIfInBounds_toArray, List.set_cons_zero, List.set_cons_succ, i64_w, i32_w]
       rfl
      refine pu_ 8 (some 18) ?_
      refine pu_ 9 (some 19) ?_
      refine pu_ 10 (some 20) ?_
      refine pu_ 11 (some 21) ?_
      refine pu_ 12 (some 22) ?_
      refine pu_ 13 (some 23) ?_
      refine take_ (i := 14) (N := some 24) (v := ?_) (a' := ?_) #[true, true, true, true, true, true, true, true, true, true, true, true, true, true, true, false, false, false] rfl rfl (take_ofW HT_.out HW_.out (by kernel_rfl)) (fun _ _ _ h => h) (Or.inl ⟨by rfl, ?_⟩) hHeld ?_ ?_
      rotate_left
      ·rintro w' ⟨s0, s1, s2⟩
       go_simp
       with_reducible rfl
      rotate_left
      ·simp only [Act.put, List.setIfInBounds_toArray, List.set_cons_zero, List.set_cons_succ, i64_w, i32_w]
       rfl
      refine one_ (i := 15) (N := some 25) #[true, true, true, true, true, true, true, true, true, true, true, true, true, true, true, true, false, false] rfl rfl (one_of HT_.out (by kernel_rfl)) (by decide) (fun K hK => ?_)
      refine goes_ Try.func64 (by kernel_rfl) rfl #[.slice A771_0 (rd_L2 l0 x3_1).length c771_0] (by rfl) rfl rfl mp_ ?_
      with_reducible refine (spec_l6Perm.calls k1 _ _ (rd_L2 l0 x3_1) true _ ?side1 ?side2 A6.out).mono ?_
      (case side1 => exact C_l (Kd.C_below HR773_0.out HB.out))
      (case side2 => exact HC773_0.out)
      rintro e w9 ⟨rfl, hb⟩
      refine ⟨_, rfl, ?_⟩
      replace HB := Aside0.mk (below_step tb hb)
      (try clear hb)
      (try clear hb2)
      (try clear hk)
      (try clear hi)
      refine hK.out _ _ ⟨((HB.out.cell (World.block_lt_of_cell? w _ hw771_0)).trans hw771_0), ((HB.out.cell (World.block_lt_of_cell? w _ hw772_0)).trans hw772_0), ((HB.out.cell (World.block_lt_of_cell? w _ hw773_0)).trans hw773_0)⟩ (fun hHeld => ?_)
      clear hK K
      refine norm_ (a' := ?_) ?_ ?_
      rotate_left
      ·show Act.put _ (some 25) _ = _
       simp only [Act.put, List.setIfInBounds_toArray, List.set_cons_zero, List.set_cons_succ, i64_w, i32_w]
       rfl
      refine pu_ 16 (some 26) ?_
      refine pu_ 17 (some 27) ?_
      refine done_ (done_of HT_.out (by kernel_rfl)) ?_
      try go_wp2
      go_roundg k1
      case measure => exact oK
      case rel => exact ⟨(wrap64 (x3_1 + 1)), rS, H', ⟨oK⟩, ⟨tb⟩⟩
     ·replace c7 := Bool.eq_false_iff.mpr c7
      subst c7
      rw [if_neg (show ¬ (false = true) by decide)] at H
      obtain rfl := Option.some.inj H
      try go_wp2
      replace HB := Aside0.mk (below_drew1 HB.out)
      have p771 : 0 ≤ (x3_1 : Int) := dT
      have q771 : x3_1 < (l0.length : Int) := dT
      obtain ⟨ad771, A771_0, c771_0, e771, hx771_0, hl771_0, hi771_0⟩ := at_L2 HR0.out x3_1 p771 q771
      have hw771_0 := hx771_0
      cases e771
      replace hx771_0 := cB HB hx771_0
      have HR771_0 := Aside0.mk hi771_0
      have HC771_0 := Aside0.mk hl771_0
      clear hi771_0 hl771_0
      replace p771 := eq_true p771
      replace q771 := eq_true q771
      have p772 : 0 ≤ (0 : Int) := (by omega)
      have q772 : 0 < (l0.length : Int) := dT
      obtain ⟨ad772, A772_0, c772_0, e772, hx772_0, hl772_0, hi772_0⟩ := at_L2 HR0.out 0 p772 q772
      have hw772_0 := hx772_0
      (try rw [show ((0 : Int)).toNat = 0 from rfl] at hw772_0)
      (try rw [show 0 * 1 = 0 from rfl] at hw772_0)
      (try rw [Addr.add_zero'] at hw772_0)
      obtain rfl : ad771 = ad772 := (by injection e772)
      have qi772 : (0 < l0.length) = True := eq_true (by omega)
      (try rw [show ((0 : Int)).toNat = 0 from rfl] at hx772_0)
      (try rw [Addr.add_zero'] at hx772_0)
      replace hx772_0 := cB HB hx772_0
      have HR772_0 := Aside0.mk hi772_0
      have HC772_0 := Aside0.mk hl772_0
      clear hi772_0 hl772_0
      replace p772 := eq_true p772
      replace q772 := eq_true q772
      have p773 : 0 ≤ (x3_1 : Int) := dT
      have q773 : x3_1 < (l0.length : Int) := dT
      obtain ⟨ad773, A773_0, c773_0, e773, hx773_0, hl773_0, hi773_0⟩ := at_L2 HR0.out x3_1 p773 q773
      have hw773_0 := hx773_0
      obtain rfl : ad771 = ad773 := (by injection e773)
      replace hx773_0 := cB HB hx773_0
      have HR773_0 := Aside0.mk hi773_0
      have HC773_0 := Aside0.mk hl773_0
      clear hi773_0 hl773_0
      replace p773 := eq_true p773
      replace q773 := eq_true q773
      have ea_ := Option.some.inj (hx771_0.symm.trans hx773_0)
      injection ea_ with ea_ en_ ec_
      subst ea_
      subst ec_
      clear en_
      refine start_ (n := 18) (S := fun w' => w'.cell? (ad771.add (x3_1).toNat) = some (.slice A771_0 (rd_L2 l0 x3_1).length c771_0) ∧ w'.cell? ad771 = some (.slice A772_0 (rd_L2 l0 0).length c772_0) ∧ w'.cell? (ad771.add (x3_1).toNat) = some (.slice A771_0 (rd_L2 l0 x3_1).length c771_0)) (ds := []) #[false, false, false, false, false, false, false, false, false, false, false, false, false, false, false, false, false, false] (by kernel_rfl) rfl rfl ⟨((HB.out.cell (World.block_lt_of_cell? w _ hw771_0)).trans hw771_0), ((HB.out.cell (World.block_lt_of_cell? w _ hw772_0)).trans hw772_0), ((HB.out.cell (World.block_lt_of_cell? w _ hw773_0)).trans hw773_0)⟩ (fun hHeld => ?_); refine with_tabW spec_l9Perms.tab4 spec_l9Perms.bits4 (fun HT_ HW_ => ?_)
      generalize wr.drew = w10 at HB HR771_0 HR772_0 HR773_0 hx771_0 hx772_0 hx773_0 hHeld ⊢
      refine pu_ 0 (some 10) ?_
      refine pu_ 1 (some 11) ?_
      refine pu_ 2 (some 12) ?_
      refine pu_ 5 (some 15) ?_
      refine pu_ 6 (some 16) ?_
      refine take_ (i := 3) (N := some 13) (v := ?_) (a' := ?_) #[true, true, true, true, false, true, true, false, false, false, false, false, false, false, false, false, false, false] rfl rfl (take_ofW HT_.out HW_.out (by kernel_rfl)) (fun _ _ _ h => h) (Or.inl ⟨by rfl, ?_⟩) hHeld ?_ ?_
      rotate_left
      ·rintro w' ⟨s0, s1, s2⟩
       go_simp
       with_reducible rfl
      rotate_left
      ·simp only [Act.put, List.setIfInBounds_toArray, List.set_cons_zero, List.set_cons_succ, i64_w, i32_w]
       rfl
      refine pu_ 4 (some 14) ?_
      refine take_ (i := 7) (N := some 17) (v := ?_) (a' := ?_) #[true, true, true, true, true, true, true, true, false, false, false, false, false, false, false, false, false, false] rfl rfl (take_ofW HT_.out HW_.out (by kernel_rfl)) (fun _ _ _ h => h) (Or.inl ⟨by rfl, ?_⟩) hHeld ?_ ?_
      rotate_left
      ·rintro w' ⟨s0, s1, s2⟩
       go_simp
       with_reducible rfl
      rotate_left
      ·simp only [Act.put, List.setIfInBounds_toArray, List.set_cons_zero, List.set_cons_succ, i64_w, i32_w]
       rfl
      refine pu_ 8 (some 18) ?_
      refine pu_ 9 (some 19) ?_
      refine pu_ 10 (some 20) ?_
      refine pu_ 11 (some 21) ?_
      refine pu_ 12 (some 22) ?_
      refine pu_ 13 (some 23) ?_
      refine take_ (i := 14) (N := some 24) (v := ?_) (a' := ?_) #[true, true, true, true, true, true, true, true, true, true, true, true, true, true, true, false, false, false] rfl rfl (take_ofW HT_.out HW_.out (by kernel_rfl)) (fun _ _ _ h => h) (Or.inl ⟨by rfl, ?_⟩) hHeld ?_ ?_
      rotate_left
      ·rintro w' ⟨s0, s1, s2⟩
       go_simp
       with_reducible rfl
      rotate_left
      ·simp only [Act.put, List.setIfInBounds_toArray, List.set_cons_zero, List.set_cons_succ, i64_w, i32_w]
       rfl
      refine one_ (i := 15) (N := some 25) #[true, true, true, true, true, true, true, true, true, true, true, true, true, true, true, true, false, false] rfl rfl (one_of HT_.out (by kernel_rfl)) (by decide) (fun K hK => ?_)
      refine goes_ Try.func64 (by kernel_rfl) rfl #[.slice A771_0 (rd_L2 l0 x3_1).length c771_0] (by rfl) rfl rfl mp_ ?_
      with_reducible refine (spec_l6Perm.calls k1 _ _ (rd_L2 l0 x3_1) false _ ?side1 ?side2 A6.out).mono ?_
      (case side1 => exact C_l (Kd.C_below HR773_0.out HB.out))
      (case side2 => exact HC773_0.out)
      rintro e w11 ⟨rfl, hb⟩
      refine ⟨_, rfl, ?_⟩
      replace HB := Aside0.mk (below_step tb hb)
      (try clear hb)
      (try clear hb2)
      (try clear hk)
      (try clear hi)
      refine hK.out _ _ ⟨((HB.out.cell (World.block_lt_of_cell? w _ hw771_0)).trans hw771_0), ((HB.out.cell (World.block_lt_of_cell? w _ hw772_0)).trans hw772_0), ((HB.out.cell (World.block_lt_of_cell? w _ hw773_0)).trans hw773_0)⟩ (fun hHeld => ?_)
      clear hK K
      refine norm_ (a' := ?_) ?_ ?_
      rotate_left
      ·show Act.put _ (some 25) _ = _
       simp only [Act.put, List.setIfInBounds_toArray, List.set_cons_zero, List.set_cons_succ, i64_w, i32_w]
       rfl
      refine pu_ 16 (some 26) ?_
      refine pu_ 17 (some 27) ?_
      refine done_ (done_of HT_.out (by kernel_rfl)) ?_
      try go_wp2
      go_ret
      exact ⟨rE, tb⟩
    ·rw [if_neg c5] at H
     have c5b0 : (((rd_L2 l0 x3_1).length : Int) == ((rd_L2 l0 0).length : Int)) = false := beq_eq_false_iff_ne.mpr c5
     have c5b1 : (((rd_L2 l0 x3_1).length : Int) != ((rd_L2 l0 0).length : Int)) = true := bne_iff_ne.mpr c5
     have c5b2 : ((rd_L2 l0 x3_1).length == (rd_L2 l0 0).length) = false := by first | simpa using c5 | (simp at c5 ⊢; omega)
     obtain rfl := Option.some.inj H
     try go_wp2
     replace HB := Aside0.mk (below_drew1 HB.out)
     have p771 : 0 ≤ (x3_1 : Int) := dT
     have q771 : x3_1 < (l0.length : Int) := dT
     obtain ⟨ad771, A771_0, c771_0, e771, hx771_0, hl771_0, hi771_0⟩ := at_L2 HR0.out x3_1 p771 q771
     have hw771_0 := hx771_0
     cases e771
     replace hx771_0 := cB HB hx771_0
     have HR771_0 := Aside0.mk hi771_0
     have HC771_0 := Aside0.mk hl771_0
     clear hi771_0 hl771_0
     replace p771 := eq_true p771
     replace q771 := eq_true q771
     have p772 : 0 ≤ (0 : Int) := (by omega)
     have q772 : 0 < (l0.length : Int) := dT
     obtain ⟨ad772, A772_0, c772_0, e772, hx772_0, hl772_0, hi772_0⟩ := at_L2 HR0.out 0 p772 q772
     have hw772_0 := hx772_0
     (try rw [show ((0 : Int)).toNat = 0 from rfl] at hw772_0)
     (try rw [show 0 * 1 = 0 from rfl] at hw772_0)
     (try rw [Addr.add_zero'] at hw772_0)
     obtain rfl : ad771 = ad772 := (by injection e772)
     have qi772 : (0 < l0.length) = True := eq_true (by omega)
     (try rw [show ((0 : Int)).toNat = 0 from rfl] at hx772_0)
     (try rw [Addr.add_zero'] at hx772_0)
     replace hx772_0 := cB HB hx772_0
     have HR772_0 := Aside0.mk hi772_0
     have HC772_0 := Aside0.mk hl772_0
     clear hi772_0 hl772_0
     replace p772 := eq_true p772
     replace q772 := eq_true q772
     refine start_ (n := 18) (S := fun w' => w'.cell? (ad771.add (x3_1).toNat) = some (.slice A771_0 (rd_L2 l0 x3_1).length c771_0) ∧ w'.cell? ad771 = some (.slice A772_0 (rd_L2 l0 0).length c772_0)) (ds := []) #[false, false, false, false, false, false, false, false, false, false, false, false, false, false, false, false, false, false] (by kernel_rfl) rfl rfl ⟨((HB.out.cell (World.block_lt_of_cell? w _ hw771_0)).trans hw771_0), ((HB.out.cell (World.block_lt_of_cell? w _ hw772_0)).trans hw772_0)⟩ (fun hHeld => ?_); refine with_tabW spec_l9Perms.tab4 spec_l9Perms.bits4 (fun HT_ HW_ => ?_)
     generalize wr.drew = w12 at HB HR771_0 HR772_0 hx771_0 hx772_0 hHeld ⊢
     refine pu_ 0 (some 10) ?_
     refine pu_ 1 (some 11) ?_
     refine pu_ 2 (some 12) ?_
     refine pu_ 5 (some 15) ?_
     refine pu_ 6 (some 16) ?_
     refine take_ (i := 3) (N := some 13) (v := ?_) (a' := ?_) #[true, true, true, true, false, true, true, false, false, false, false, false, false, false, false, false, false, false] rfl rfl (take_ofW HT_.out HW_.out (by kernel_rfl)) (fun _ _ _ h => h) (Or.inl ⟨by rfl, ?_⟩) hHeld ?_ ?_
     rotate_left
     ·rintro w' ⟨s0, s1⟩
      go_simp
      with_reducible rfl
     rotate_left
     ·simp only [Act.put, List.setIfInBounds_toArray, List.set_cons_zero, List.set_cons_succ, i64_w, i32_w]
      rfl
     refine pu_ 4 (some 14) ?_
     refine take_ (i := 7) (N := some 17) (v := ?_) (a' := ?_) #[true, true, true, true, true, true, true, true, false, false, false, false, false, false, false, false, false, false] rfl rfl (take_ofW HT_.out HW_.out (by kernel_rfl)) (fun _ _ _ h => h) (Or.inl ⟨by rfl, ?_⟩) hHeld ?_ ?_
     rotate_left
     ·rintro w' ⟨s0, s1⟩
      go_simp
      with_reducible rfl
     rotate_left
     ·simp only [Act.put, List.setIfInBounds_toArray, List.set_cons_zero, List.set_cons_succ, i64_w, i32_w]
      rfl
     refine pu_ 8 (some 18) ?_
     refine pu_ 9 (some 19) ?_
     refine pu_ 10 (some 20) ?_
     refine pv_ 11 (some 21) ?_
     refine pv_ 12 (some 22) ?_
     refine pv_ 13 (some 23) ?_
     refine pv_ 14 (some 24) ?_
     refine pv_ 15 (some 25) ?_
     refine pv_ 16 (some 26) ?_
     refine pu_ 17 (some 27) ?_
     refine done_ (done_of HT_.out (by kernel_rfl)) ?_
     try go_wp2
     go_ret
     exact ⟨rE, tb⟩
   ·obtain ⟨t775, A13, H⟩ := bs H
    by_cases c14 : t775 = true
    ·subst c14
     rw [if_pos rfl] at H
     obtain ⟨c15, H⟩ := gd H
     have c15b0 : decide (0 < (l0.length : Int)) = true := decide_eq_true c15
     have c15b1 : decide (0 < l0.length) = true := decide_eq_true (by omega)
     clear c15
     obtain ⟨t777, A16, H⟩ := bs H
     obtain rfl := Option.some.inj H
     go_wp2_with (first | (refine gL 58 (some 30) Try.func58 #[.int .i64 (l0.length : Int), .int .i64 1, .int .i64 8] ?_; (with_reducible refine (spec_l1In.calls (l0.length : Int) 1 8 true _ A13.out).mono ?_); rintro e w' ⟨rfl, ⟨nd, rfl⟩⟩; refine ⟨_, rfl, ?_⟩; have p776 : 0 ≤ (0 : Int) := (by omega); have q776 : 0 < (l0.length : Int) := dT; obtain ⟨ad776, A776_0, c776_0, e776, hx776_0, hl776_0, hi776_0⟩ := at_L2 HR0.out 0 p776 q776; cases e776; have qi776 : (0 < l0.length) = True := eq_true (by omega); (try rw [show ((0 : Int)).toNat = 0 from rfl] at hx776_0); (try rw [Addr.add_zero'] at hx776_0); replace hx776_0 := cB HB hx776_0; have HR776_0 := Aside0.mk hi776_0; have HC776_0 := Aside0.mk hl776_0; clear hi776_0 hl776_0; replace p776 := eq_true p776; replace q776 := eq_true q776) | (go_at_call 58; (with_reducible refine (spec_l1In.calls ((rd_L2 l0 0).length : Int) 1 5 t777 _ A16.out).mono ?_); rintro e w' ⟨rfl, ⟨nd, rfl⟩⟩))
     go_ret
     exact ⟨rE, tb⟩
    ·replace c14 := Bool.eq_false_iff.mpr c14
     subst c14
     rw [if_neg (show ¬ (false = true) by decide)] at H
     obtain rfl := Option.some.inj H
     go_wp2_with (first | (refine gL 58 (some 30) Try.func58 #[.int .i64 (l0.length : Int), .int .i64 1, .int .i64 8] ?_; (with_reducible refine (spec_l1In.calls (l0.length : Int) 1 8 false _ A13.out).mono ?_); rintro e w' ⟨rfl, ⟨nd, rfl⟩⟩; refine ⟨_, rfl, ?_⟩))
     go_ret
     exact ⟨rE, tb⟩

/-! ### spec_l6Inverse: function 66 -/
def spec_l6Inverse.l0 : Nat → List Int → List Int → Int → Option (List Int)
 | 0, _, _, _ => none
 | k + 1, x0, x3, x4 => if x4 < (x0.length : Int) then (if 0 ≤ x4 then (if 0 ≤ (rd x0 x4) then (if (rd x0 x4) < (x3.length : Int) then (spec_l6Inverse.l0 k x0 (x3.set ((rd x0 x4) : Int).toNat x4) (wrap64 (x4 + 1))) else (none)) else (none)) else (none)) else (some x3)
def spec_l6Inverse.f (k : Nat) (l0 : List Int) : Option (List Int) := if 0 ≤ (l0.length : Int) then (if ((l0.length : Int) : Int).toNat ≤ 35184372088832 then (spec_l6Inverse.l0 k l0 (List.replicate ((l0.length : Int) : Int).toNat 0) 0) else (none)) else (none)
set_option maxHeartbeats 8000000 in
set_option maxRecDepth 100000 in
theorem spec_l6Inverse.calls (k : Nat) (A0 : Option Addr) (c0 : Nat) (l0 : List Int) (r : List Int) (w : World) (hr0 : Kd.C (Kd.int .i64) w A0 l0.length l0) (hc0 : l0.length ≤ c0) (h : spec_l6Inverse.f k l0 = some r) :
  Calls Try.prog 66 #[.slice A0 l0.length c0] w fun e w' => ∃ v0_ : Value, e = .returned (v0_) ∧ Kd.R (Kd.int .i64) 3 w' w.heap.size (fun _ => True) v0_ r ∧ Below w.heap.size w w' := by
 have HR0 := Aside0.mk hr0
 have HC0 := Aside0.mk hc0
 clear hr0 hc0
 have HB := Aside0.mk (Below.refl w.heap.size w)
 have H : (if 0 ≤ (l0.length : Int) then (if ((l0.length : Int) : Int).toNat ≤ 35184372088832 then (spec_l6Inverse.l0 k l0 (List.replicate ((l0.length : Int) : Int).toNat 0) 0) else (none)) else (none)) = some r := h
 clear h
 by_cases c2 : 0 ≤ (l0.length : Int)
 ·rw [if_pos c2] at H
  have c2b0 := eq_true c2
  have c2b1 : decide (0 ≤ (l0.length : Int)) = true := decide_eq_true c2
  clear c2
  obtain ⟨c3, H⟩ := gd H
  have c3b0 := eq_true c3
  have c3b1 : decide (((l0.length : Int) : Int).toNat ≤ 35184372088832) = true := decide_eq_true c3
  clear c3
  generalize hy778 : (List.replicate ((l0.length : Int) : Int).toNat 0 : List Int) = y778 at H
  have Ny778 := Aside0.mk hy778.symm; clear hy778
  have H' := Aside0.mk H
  clear H
  go_enter Try.func66, Try.ntmps66
  go_wp2_with (first | ((with_reducible refine gate_dst (N := 7) rfl ?_); refine Kd.R_make (Kd.int .i64) _ 3 rfl (N := 7) rfl 24 _ _ rfl (l0.length : Int) rfl rfl Try.underlying24 (.int .i64 0) 8 info3 rfl (by decide) (by omega) 0 (ok := fun _ => True) (okp := fun _ => True) rfl (fun _ hk => hk) trivial dT (Nat.le_trans (Nat.mul_le_mul_right _ (dT : (l0.length : Int).toNat ≤ 35184372088832)) (by omega)) (Below.refl _ _) (Nat.le_refl _) ?_; intro v779 w4 ho5 hb hg_ hnew_; clear hg_ hnew_; (first | rw [← Ny778.out] at ho5 | (simp only [Int.reduceToNat] at ho5; rw [← Ny778.out] at ho5)); have HO780 := Aside0.mk (Kd.R_lower ho5 (below_size tb)); replace HB := Aside0.mk (below_step tb hb); clear hb ho5))
  go_loopg [4] k (fun kq v4 w' => ∃ (x3_1 : List Int) (x4_1 : Int), v4 = .int .i64 x4_1 ∧ Aside0 (spec_l6Inverse.l0 kq l0 x3_1 x4_1 = some r) ∧ Aside0 (kq ≤ k) ∧ Aside0 (Kd.R (Kd.int .i64) 3 w' w.heap.size (fun _ => True) v779 x3_1) ∧ Aside0 (Below w.heap.size w w'))
  case atStart => exact ⟨(y778), (0), rS, H', ⟨Nat.le_refl _⟩, ⟨R_l HO780.out⟩, ⟨tb⟩⟩
  case round =>
   clear H'
   try clear c2
   try clear c2b0
   try clear c2b1
   try clear p2
   try clear c3
   try clear c3b0
   try clear c3b1
   obtain ⟨x3_1, x4_1, rfl, HA, HK1, HO_3, HB⟩ := hrel
   cases gk with
   | zero => exact absurd HA.out (by simp [spec_l6Inverse.l0])
   | succ k1 =>
    have H := HA.out
    clear HA
    simp only [spec_l6Inverse.l0] at H
    obtain ⟨c6b0, H⟩ | ⟨c6b0, H⟩ := gi H
    ·obtain ⟨c7b0, H⟩ := gdt H
     obtain ⟨c8b0, H⟩ := gdt H
     obtain ⟨c9b0, H⟩ := gdt H
     generalize hy782 : (x3_1.set ((rd l0 x4_1) : Int).toNat x4_1 : List Int) = y782 at H
     have Ny782 := Aside0.mk hy782.symm; clear hy782
     have H' := Aside0.mk H
     clear H
     have p781 : 0 ≤ (x4_1 : Int) := dT
     have q781 : x4_1 < (l0.length : Int) := dT
     obtain ⟨ad781, e781, hx781_0⟩ := Kd.at_int HR0.out x4_1 p781 q781
     cases e781
     replace hx781_0 := cB HB hx781_0
     replace p781 := eq_true p781
     replace q781 := eq_true q781
     have p10 : 0 ≤ ((rd l0 x4_1) : Int) := dT
     have q10 : ((rd l0 x4_1) : Int) < ((x3_1.length : Int) : Int) := dT
     obtain ⟨go10, co10, eo10, gb10, gl10, cl10, HG10⟩ := Kd.R_form HO_3.out (by omega)
     (first | cases eo10 | (injection eo10 with ea_ en_ ec_; (first | subst ea_ | (injection ea_ with ea_; subst ea_)); subst ec_; clear en_))
     have GB10 := Aside0.mk gb10
     have GG10 := Aside0.mk HG10
     clear gb10 gl10 HG10
     obtain ⟨hx10_0, hf10_0⟩ := Kd.R_celln 0 HO_3.out ((rd l0 x4_1) : Int) p10 q10
     replace p10 := eq_true p10
     replace q10 := eq_true q10
     have HP11 := Kd.R_putg HO_3.out ((rd l0 x4_1) : Int) x4_1
     go_wp2_with (first | ((with_reducible refine gate_store (t := 3) (p := 20) rfl ?_); refine store_event (t := 3) (p := 20) (v := ?vo_w12) (w1 := (wr.setCell ⟨go10, ((rd l0 x4_1) : Int).toNat, none⟩ (.int .i64 x4_1))) ?hg ?ho ?hn ?hr ?_; (case ho => rfl); (case hg => rfl); (case hn => rfl); (case hr => exact gS); intro w12 hw; have hg : wr.grownBy w12 (some go10) := (by rw [hw]; exact HP11.2); have hp_ : Kd.R (Kd.int .i64) 3 w12 w.heap.size (fun _ => True) (.slice (some ⟨go10, 0, none⟩) x3_1.length co10) y782 := (by rw [hw, Ny782.out]; exact HP11.1); clear HP11; replace HO_3 := Aside0.mk (hp_); replace HB := Aside0.mk ((by rw [hw]; exact below_set (HB.out) GB10.out : Below w.heap.size w w12)); clear hg hw hp_))
     go_roundg k1
     case measure => exact oK
     case rel => exact ⟨(y782), (wrap64 (x4_1 + 1)), rS, H', ⟨oK⟩, ⟨R_l HO_3.out⟩, ⟨tb⟩⟩
    ·obtain rfl := Option.some.inj H
     go_wp2
     go_ret
     exact ⟨_, rE, R_l HO_3.out, tb⟩
 ·rw [if_neg c2] at H
  exact absurd H (by simp)

end Go.Proofs.Ytbchbmfmplfoiaa.PFnGroups
