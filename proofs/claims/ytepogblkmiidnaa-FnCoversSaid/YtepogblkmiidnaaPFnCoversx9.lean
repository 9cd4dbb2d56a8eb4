import Derived.Test.YtepogblkmiidnaaWSpanB
import Derived.Test.YtepogblkmiidnaaPFnCoversx0
import Derived.Test.YtepogblkmiidnaaPFnCoversx8
namespace Go.Proofs.Ytepogblkmiidnaa.PFnCovers
open Go.RowKit Go.Proofs.YtepogblkmiidnaaW.PrintWords Go.Proofs.YtepogblkmiidnaaW.PrintLast Go.Proofs.YtepogblkmiidnaaW.PrintMore
attribute [local go_sem] max2_int min2_int max_two min_two max_three min_three max_four min_four   -- for this text's walks alone
set_option linter.unusedVariables false
set_option linter.unusedSimpArgs false

/-! ### spec_l9Perms: function 50 -/
def spec_l9Perms.l0 : Nat → List (List Int) → Int → Option (Bool)
 | 0, _, _ => none
 | k + 1, x0, x3 => if x3 < (x0.length : Int) then (if 0 ≤ x3 then (if 0 < (x0.length : Int) then (if ((rd_L2 x0 x3).length : Int) = ((rd_L2 x0 0).length : Int) then ((spec_l6Perm.f k (rd_L2 x0 x3)).bind fun t307 => (if t307 = true then (spec_l9Perms.l0 k x0 (wrap64 (x3 + 1))) else (some false))) else (some false)) else (none)) else (none)) else ((spec_l1In.f (x0.length : Int) 1 8).bind fun t308 => (if t308 = true then (if 0 < (x0.length : Int) then ((spec_l1In.f ((rd_L2 x0 0).length : Int) 1 5).bind fun t310 => (some t310)) else (none)) else (some false)))
def spec_l9Perms.f (k : Nat) (l0 : List (List Int)) : Option (Bool) := spec_l9Perms.l0 k l0 0
def spec_l9Perms.T4 : Bool × List (List Nat × List Nat) := (true, [([], []), ([], []), ([0, 1], [0, 1]), ([2], [2]), ([3], [3]), ([], []), ([5], [5]), ([6], [6]), ([7], [7]), ([4, 8], [4, 8]), ([9], [9]), ([10], [10]), ([10], [10]), ([11, 12, 10], [10, 11, 12]), ([13, 10], [10, 13]), ([14, 10, 10], [10, 14]), ([15, 10], [10, 15]), ([10, 16], [10, 16])])
def spec_l9Perms.B4 : List Nat := [0, 0, 3, 7, 15, 0, 32, 96, 224, 511, 1023, 2047, 2047, 8191, 16383, 32767, 65535, 131071]
theorem spec_l9Perms.tab4 : rtab .any (opsOf Try.f50 4) = spec_l9Perms.T4 := by kernel_rfl
theorem spec_l9Perms.bits4 : waitsOk spec_l9Perms.T4.2 spec_l9Perms.B4 = true := by kernel_rfl
set_option maxHeartbeats 8000000 in
set_option maxRecDepth 100000 in
theorem spec_l9Perms.calls (k : Nat) (A0 : Option Addr) (c0 : Nat) (l0 : List (List Int)) (r : Bool) (w : World) (hr0 : Kd.C (Kd.slice 3 (Kd.int .i64)) w A0 l0.length l0) (hc0 : l0.length ≤ c0) (h : spec_l9Perms.f k l0 = some r) :
  Calls Try.prog 50 #[.slice A0 l0.length c0] w fun e w' => e = .returned (.bool r) ∧ Below w.heap.size w w' := by
 have HR0 := Aside0.mk hr0
 have HC0 := Aside0.mk hc0
 clear hr0 hc0
 have HB := Aside0.mk (Below.refl w.heap.size w)
 have H : (spec_l9Perms.l0 k l0 0) = some r := h
 clear h
 have H' := Aside0.mk H
 clear H
 go_enter Try.func50, Try.ntmps50
 go_wp2
 go_loopg [3] k (fun kq v3 w' => ∃ (x3_1 : Int), v3 = .int .i64 x3_1 ∧ Aside0 (spec_l9Perms.l0 kq l0 x3_1 = some r) ∧ Aside0 (kq ≤ k) ∧ Aside0 (Below w.heap.size w w'))
 case atStart => exact ⟨(0), rS, H', ⟨Nat.le_refl _⟩, ⟨tb⟩⟩
 case round =>
  clear H'
  obtain ⟨x3_1, rfl, HA, HK1, HB⟩ := hrel
  cases gk with
  | zero => exact absurd HA.out (by simp [spec_l9Perms.l0])
  | succ k1 =>
   have H := HA.out
   clear HA
   simp only [spec_l9Perms.l0] at H
   obtain ⟨c2b0, H⟩ | ⟨c2b0, H⟩ := gi H
   ·obtain ⟨c3b0, H⟩ := gdt H
    obtain ⟨c4, H⟩ := gd H
    have c4b0 : decide (0 < (l0.length : Int)) = true := decide_eq_true c4
    have c4b1 : decide (0 < l0.length) = true := decide_eq_true (by omega)
    clear c4
    by_cases c5 : ((rd_L2 l0 x3_1).length : Int) = ((rd_L2 l0 0).length : Int)
    ·rw [if_pos c5] at H
     have c5b0 : (((rd_L2 l0 x3_1).length : Int) == ((rd_L2 l0 0).length : Int)) = true := beq_iff_eq.mpr c5
     have c5b1 : (((rd_L2 l0 x3_1).length : Int) != ((rd_L2 l0 0).length : Int)) = false := bne_eq_false_iff_eq.mpr c5
     have c5b2 : ((rd_L2 l0 x3_1).length == (rd_L2 l0 0).length) = true := by first | simpa using c5 | (simp at c5 ⊢; omega)
     clear c5
     obtain ⟨t307, A6, H⟩ := bs H
     by_cases c7 : t307 = true
     ·subst c7
      rw [if_pos rfl] at H
      have H' := Aside0.mk H
      clear H
      try go_wp2
      replace HB := Aside0.mk (below_drew1 HB.out)
      have p304 : 0 ≤ (x3_1 : Int) := dT
      have q304 : x3_1 < (l0.length : Int) := dT
      obtain ⟨ad304, A304_0, c304_0, e304, hx304_0, hl304_0, hi304_0⟩ := at_L2 HR0.out x3_1 p304 q304
      have hw304_0 := hx304_0
      cases e304
      replace hx304_0 := cB HB hx304_0
      have HR304_0 := Aside0.mk hi304_0
      have HC304_0 := Aside0.mk hl304_0
      clear hi304_0 hl304_0
      replace p304 := eq_true p304
      replace q304 := eq_true q304
      have p305 : 0 ≤ (0 : Int) := (by omega)
      have q305 : 0 < (l0.length : Int) := dT
      obtain ⟨ad305, A305_0, c305_0, e305, hx305_0, hl305_0, hi305_0⟩ := at_L2 HR0.out 0 p305 q305
      have hw305_0 := hx305_0
      (try rw [show ((0 : Int)).toNat = 0 from rfl] at hw305_0)
      (try rw [show 0 * 1 = 0 from rfl] at hw305_0)
      (try rw [Addr.add_zero'] at hw305_0)
      obtain rfl : ad304 = ad305 := (by injection e305)
      have qi305 : (0 < l0.length) = True := eq_true (by omega)
      (try rw [show ((0 : Int)).toNat = 0 from rfl] at hx305_0)
      (try rw [Addr.add_zero'] at hx305_0)
      replace hx305_0 := cB HB hx305_0
      have HR305_0 := Aside0.mk hi305_0
      have HC305_0 := Aside0.mk hl305_0
      clear hi305_0 hl305_0
      replace p305 := eq_true p305
      replace q305 := eq_true q305
      have p306 : 0 ≤ (x3_1 : Int) := dT
      have q306 : x3_1 < (l0.length : Int) := dT
      obtain ⟨ad306, A306_0, c306_0, e306, hx306_0, hl306_0, hi306_0⟩ := at_L2 HR0.out x3_1 p306 q306
      have hw306_0 := hx306_0
      obtain rfl : ad304 = ad306 := (by injection e306)
      replace hx306_0 := cB HB hx306_0
      have HR306_0 := Aside0.mk hi306_0
      have HC306_0 := Aside0.mk hl306_0
      clear hi306_0 hl306_0
      replace p306 := eq_true p306
      replace q306 := eq_true q306
      have ea_ := Option.some.inj (hx304_0.symm.trans hx306_0)
      injection ea_ with ea_ en_ ec_
      subst ea_
      subst ec_
      clear en_
      refine start_ (n := 18) (S := fun w' => w'.cell? (ad304.add (x3_1).toNat) = some (.slice A304_0 (rd_L2 l0 x3_1).length c304_0) ∧ w'.cell? ad304 = some (.slice A305_0 (rd_L2 l0 0).length c305_0) ∧ w'.cell? (ad304.add (x3_1).toNat) = some (.slice A304_0 (rd_L2 l0 x3_1).length c304_0)) (ds := []) #[false, false, false, false, false, false, false, false, false, false, false, false, false, false, false, false, false, false] (by kernel_rfl) rfl rfl ⟨((HB.out.cell (World.block_lt_of_cell? w _ hw304_0)).trans hw304_0), ((HB.out.cell (World.block_lt_of_cell? w _ hw305_0)).trans hw305_0), ((HB.out.cell (World.block_lt_of_cell? w _ hw306_0)).trans hw306_0)⟩ (fun hHeld => ?_); refine with_tabW spec_l9Perms.tab4 spec_l9Perms.bits4 (fun HT_ HW_ => ?_)
      generalize wr.drew = w8 at HB HR304_0 HR305_0 HR306_0 hx304_0 hx305_0 hx306_0 hHeld ⊢
      refine pu_ 0 (some 10) ?_
      refine pu_ 1 (some 11) ?_
      refine pu_ 2 (some 12) ?_
      refine pu_ 5 (some 15) ?_
      refine pu_ 6 (some 16) ?_
      refine take_ (i := 3) (N := some 13) (v := ?_) (a' := ?_) #[true, true, true, true, false, true, true, false, false, false, false, false, false, false, false, false, false, false] rfl rfl (take_ofW HT_.out HW_.out (by kernel_rfl)) (fun _ _ _ h => h) (Or.inl ⟨by rfl, ?_⟩) hHeld ?_ ?_
      rotate_left
      ·rintro w' ⟨s0, s1, s2⟩
       go_simp
       with_reducible rfl
      rotate_left
      ·simp only [Act.put, List.setIfInBounds_toArray, List.set_cons_zero, List.set_cons_succ, i64_w, i32_w]
       rfl
      refine pu_ 4 (some 14) ?_
      refine take_ (i := 7) (N := some 17) (v := ?_) (a' := ?_) #[true, true, true, true, true, true, true, true, false, false, false, false, false, false, false, false, false, false] rfl rfl (take_ofW HT_.out HW_.out (by kernel_rfl)) (fun _ _ _ h => h) (Or.inl ⟨by rfl, ?_⟩) hHeld ?_ ?_
      rotate_left
      ·rintro w' ⟨s0, s1, s2⟩
       go_simp
       with_reducible rfl
      rotate_left
      ·simp only [Act.put, List.setIfInBounds_toArray, List.set_cons_zero, List.set_cons_succ, i64_w, i32_w]
       rfl
      refine pu_ 8 (some 18) ?_
      refine pu_ 9 (some 19) ?_
      refine pu_ 10 (some 20) ?_
      refine pu_ 11 (some 21) ?_
      refine pu_ 12 (some 22) ?_
      refine pu_ 13 (some 23) ?_
      refine take_ (i := 14) (N := some 24) (v := ?_) (a' := ?_) #[true, true, true, true, true, true, true, true, true, true, true, true, true, true, true, false, false, false] rfl rfl (take_ofW HT_.out HW_.out (by kernel_rfl)) (fun _ _ _ h => h) (Or.inl ⟨by rfl, ?_⟩) hHeld ?_ ?_
      rotate_left
      ·rintro w' ⟨s0, s1, s2⟩
       go_simp
       with_reducible rfl
      rotate_left
      ·simp only [Act.put, List.setIfInBounds_toArray, List.set_cons_zero, List.set_cons_succ, i64_w, i32_w]
       rfl
      refine one_ (i := 15) (N := some 25) #[true, true, true, true, true, true, true, true, true, true, true, true, true, true, true, true, false, false] rfl rfl (one_of HT_.out (by kernel_rfl)) (by decide) (fun K hK => ?_)
      refine goes_ Try.func85 (by kernel_rfl) rfl #[.slice A304_0 (rd_L2 l0 x3_1).length c304_0] (by rfl) rfl rfl mp_ ?_
      with_reducible refine (spec_l6Perm.calls k1 _ _ (rd_L2 l0 x3_1) true _ ?side1 ?side2 A6.out).mono ?_
      (case side1 => exact C_l (Kd.C_below HR306_0.out HB.out))
      (case side2 => exact HC306_0.out)
      rintro e w9 ⟨rfl, hb⟩
      refine ⟨_, rfl, ?_⟩
      replace HB := Aside0.mk (below_step tb hb)
      (try clear hb)
      (try clear hb2)
      (try clear hk)
      (try clear hi)
      refine hK.out _ _ ⟨((HB.out.cell (World.block_lt_of_cell? w _ hw304_0)).trans hw304_0), ((HB.out.cell (World.block_lt_of_cell? w _ hw305_0)).trans hw305_0), ((HB.out.cell (World.block_lt_of_cell? w _ hw306_0)).trans hw306_0)⟩ (fun hHeld => ?_)
      clear hK K
      refine norm_ (a' := ?_) ?_ ?_
      rotate_left
      ·show Act.put _ (some 25) _ = _
       simp only [Act.put, List.setIfInBounds_toArray, List.set_cons_zero, List.set_cons_succ, i64_w, i32_w]
       rfl
      refine pu_ 16 (some 26) ?_
      refine pu_ 17 (some 27) ?_
      refine done_ (done_of HT_.out (by kernel_rfl)) ?_
      try go_wp2
      go_roundg k1
      case measure => exact oK
      case rel => exact ⟨(wrap64 (x3_1 + 1)), rS, H', ⟨oK⟩, ⟨tb⟩⟩
     ·replace c7 := Bool.eq_false_iff.mpr c7
      subst c7
      rw [if_neg (show ¬ (false = true) by decide)] at H
      obtain rfl := Option.some.inj H
      try go_wp2
      replace HB := Aside0.mk (below_drew1 HB.out)
      have p304 : 0 ≤ (x3_1 : Int) := dT
      have q304 : x3_1 < (l0.length : Int) := dT
      obtain ⟨ad304, A304_0, c304_0, e304, hx304_0, hl304_0, hi304_0⟩ := at_L2 HR0.out x3_1 p304 q304
      have hw304_0 := hx304_0
      cases e304
      replace hx304_0 := cB HB hx304_0
      have HR304_0 := Aside0.mk hi304_0
      have HC304_0 := Aside0.mk hl304_0
      clear hi304_0 hl304_0
      replace p304 := eq_true p304
      replace q304 := eq_true q304
      have p305 : 0 ≤ (0 : Int) := (by omega)
      have q305 : 0 < (l0.length : Int) := dT
      obtain ⟨ad305, A305_0, c305_0, e305, hx305_0, hl305_0, hi305_0⟩ := at_L2 HR0.out 0 p305 q305
      have hw305_0 := hx305_0
      (try rw [show ((0 : Int)).toNat = 0 from rfl] at hw305_0)
      (try rw [show 0 * 1 = 0 from rfl] at hw305_0)
      (try rw [Addr.add_zero'] at hw305_0)
      obtain rfl : ad304 = ad305 := (by injection e305)
      have qi305 : (0 < l0.length) = True := eq_true (by omega)
      (try rw [show ((0 : Int)).toNat = 0 from rfl] at hx305_0)
      (try rw [Addr.add_zero'] at hx305_0)
      replace hx305_0 := cB HB hx305_0
      have HR305_0 := Aside0.mk hi305_0
      have HC305_0 := Aside0.mk hl305_0
      clear hi305_0 hl305_0
      replace p305 := eq_true p305
      replace q305 := eq_true q305
      have p306 : 0 ≤ (x3_1 : Int) := dT
      have q306 : x3_1 < (l0.length : Int) := dT
      obtain ⟨ad306, A306_0, c306_0, e306, hx306_0, hl306_0, hi306_0⟩ := at_L2 HR0.out x3_1 p306 q306
      have hw306_0 := hx306_0
      obtain rfl : ad304 = ad306 := (by injection e306)
      replace hx306_0 := cB HB hx306_0
      have HR306_0 := Aside0.mk hi306_0
      have HC306_0 := Aside0.mk hl306_0
      clear hi306_0 hl306_0
      replace p306 := eq_true p306
      replace q306 := eq_true q306
      have ea_ := Option.some.inj (hx304_0.symm.trans hx306_0)
      injection ea_ with ea_ en_ ec_
      subst ea_
      subst ec_
      clear en_
      refine start_ (n := 18) (S := fun w' => w'.cell? (ad304.add (x3_1).toNat) = some (.slice A304_0 (rd_L2 l0 x3_1).length c304_0) ∧ w'.cell? ad304 = some (.slice A305_0 (rd_L2 l0 0).length c305_0) ∧ w'.cell? (ad304.add (x3_1).toNat) = some (.slice A304_0 (rd_L2 l0 x3_1).length c304_0)) (ds := []) #[false, false, false, false, false, false, false, false, false, false, false, false, false, false, false, false, false, false] (by kernel_rfl) rfl rfl ⟨((HB.out.cell (World.block_lt_of_cell? w _ hw304_0)).trans hw304_0), ((HB.out.cell (World.block_lt_of_cell? w _ hw305_0)).trans hw305_0), ((HB.out.cell (World.block_lt_of_cell? w _ hw306_0)).trans hw306_0)⟩ (fun hHeld => ?_); refine with_tabW spec_l9Perms.tab4 spec_l9Perms.bits4 (fun HT_ HW_ => ?_)
      generalize wr.drew = w10 at HB HR304_0 HR305_0 HR306_0 hx304_0 hx305_0 hx306_0 hHeld ⊢
      refine pu_ 0 (some 10) ?_
      refine pu_ 1 (some 11) ?_
      refine pu_ 2 (some 12) ?_
      refine pu_ 5 (some 15) ?_
      refine pu_ 6 (some 16) ?_
      refine take_ (i := 3) (N := some 13) (v := ?_) (a' := ?_) #[true, true, true, true, false, true, true, false, false, false, false, false, false, false, false, false, false, false] rfl rfl (take_ofW HT_.out HW_.out (by kernel_rfl)) (fun _ _ _ h => h) (Or.inl ⟨by rfl, ?_⟩) hHeld ?_ ?_
      rotate_left
      ·rintro w' ⟨s0, s1, s2⟩
       go_simp
       with_reducible rfl
      rotate_left
      ·simp only [Act.put, List.setIfInBounds_toArray, List.set_cons_zero, List.set_cons_succ, i64_w, i32_w]
       rfl
      refine pu_ 4 (some 14) ?_
      refine take_ (i := 7) (N := some 17) (v := ?_) (a' := ?_) #[true, true, true, true, true, true, true, true, false, false, false, false, false, false, false, false, false, false] rfl rfl (take_ofW HT_.out HW_.out (by kernel_rfl)) (fun _ _ _ h => h) (Or.inl ⟨by rfl, ?_⟩) hHeld ?_ ?_
      rotate_left
      ·rintro w' ⟨s0, s1, s2⟩
       go_simp
       with_reducible rfl
      rotate_left
      ·simp only [Act.put, List.setIfInBounds_toArray, List.set_cons_zero, List.set_cons_succ, i64_w, i32_w]
       rfl
      refine pu_ 8 (some 18) ?_
      refine pu_ 9 (some 19) ?_
      refine pu_ 10 (some 20) ?_
      refine pu_ 11 (some 21) ?_
      refine pu_ 12 (some 22) ?_
      refine pu_ 13 (some 23) ?_
      refine take_ (i := 14) (N := some 24) (v := ?_) (a' := ?_) #[true, true, true, true, true, true, true, true, true, true, true, true, true, true, true, false, false, false] rfl rfl (take_ofW HT_.out HW_.out (by kernel_rfl)) (fun _ _ _ h => h) (Or.inl ⟨by rfl, ?_⟩) hHeld ?_ ?_
      rotate_left
      ·rintro w' ⟨s0, s1, s2⟩
       go_simp
       with_reducible rfl
      rotate_left
      ·simp only [Act.put, List.setIfInBounds_toArray, List.set_cons_zero, List.set_cons_succ, i64_w, i32_w]
       rfl
      refine one_ (i := 15) (N := some 25) #[true, true, true, true, true, true, true, true, true, true, true, true, true, true, true, true, false, false] rfl rfl (one_of HT_.out (by kernel_rfl)) (by decide) (fun K hK => ?_)
      refine goes_ Try.func85 (by kernel_rfl) rfl #[.slice A304_0 (rd_L2 l0 x3_1).length c304_0] (by rfl) rfl rfl mp_ ?_
      with_reducible refine (spec_l6Perm.calls k1 _ _ (rd_L2 l0 x3_1) false _ ?side1 ?side2 A6.out).mono ?_
      (case side1 => exact C_l (Kd.C_below HR306_0.out HB.out))
      (case side2 => exact HC306_0.out)
      rintro e w11 ⟨rfl, hb⟩
      refine ⟨_, rfl, ?_⟩
      replace HB := Aside0.mk (below_step tb hb)
      (try clear hb)
      (try clear hb2)
      (try clear hk)
      (try clear hi)
      refine hK.out _ _ ⟨((HB.out.cell (World.block_lt_of_cell? w _ hw304_0)).trans hw304_0), ((HB.out.cell (World.block_lt_of_cell? w _ hw305_0)).trans hw305_0), ((HB.out.cell (World.block_lt_of_cell? w _ hw306_0)).trans hw306_0)⟩ (fun hHeld => ?_)
      clear hK K
      refine norm_ (a' := ?_) ?_ ?_
      rotate_left
      ·show Act.put _ (some 25) _ = _
       simp only [Act.put, List.setIfInBounds_toArray, List.set_cons_zero, List.set_cons_succ, i64_w, i32_w]
       rfl
      refine pu_ 16 (some 26) ?_
      refine pu_ 17 (some 27) ?_
      refine done_ (done_of HT_.out (by kernel_rfl)) ?_
      try go_wp2
      go_ret
      exact ⟨rE, tb⟩
    ·rw [if_neg c5] at H
     have c5b0 : (((rd_L2 l0 x3_1).length : Int) == ((rd_L2 l0 0).length : Int)) = false := beq_eq_false_iff_ne.mpr c5
     have c5b1 : (((rd_L2 l0 x3_1).length : Int) != ((rd_L2 l0 0).length : Int)) = true := bne_iff_ne.mpr c5
     have c5b2 : ((rd_L2 l0 x3_1).length == (rd_L2 l0 0).length) = false := by first | simpa using c5 | (simp at c5 ⊢; omega)
     obtain rfl := Option.some.inj H
     try go_wp2
     replace HB := Aside0.mk (below_drew1 HB.out)
     have p304 : 0 ≤ (x3_1 : Int) := dT
     have q304 : x3_1 < (l0.length : Int) := dT
     obtain ⟨ad304, A304_0, c304_0, e304, hx304_0, hl304_0, hi304_0⟩ := at_L2 HR0.out x3_1 p304 q304
     have hw304_0 := hx304_0
     cases e304
     replace hx304_0 := cB HB hx304_0
     have HR304_0 := Aside0.mk hi304_0
     have HC304_0 := Aside0.mk hl304_0
     clear hi304_0 hl304_0
     replace p304 := eq_true p304
     replace q304 := eq_true q304
     have p305 : 0 ≤ (0 : Int) := (by omega)
     have q305 : 0 < (l0.length : Int) := dT
     obtain ⟨ad305, A305_0, c305_0, e305, hx305_0, hl305_0, hi305_0⟩ := at_L2 HR0.out 0 p305 q305
     have hw305_0 := hx305_0
     (try rw [show ((0 : Int)).toNat = 0 from rfl] at hw305_0)
     (try rw [show 0 * 1 = 0 from rfl] at hw305_0)
     (try rw [Addr.add_zero'] at hw305_0)
     obtain rfl : ad304 = ad305 := (by injection e305)
     have qi305 : (0 < l0.length) = True := eq_true (by omega)
     (try rw [show ((0 : Int)).toNat = 0 from rfl] at hx305_0)
     (try rw [Addr.add_zero'] at hx305_0)
     replace hx305_0 := cB HB hx305_0
     have HR305_0 := Aside0.mk hi305_0
     have HC305_0 := Aside0.mk hl305_0
     clear hi305_0 hl305_0
     replace p305 := eq_true p305
     replace q305 := eq_true q305
     refine start_ (n := 18) (S := fun w' => w'.cell? (ad304.add (x3_1).toNat) = some (.slice A304_0 (rd_L2 l0 x3_1).length c304_0) ∧ w'.cell? ad304 = some (.slice A305_0 (rd_L2 l0 0).length c305_0)) (ds := []) #[false, false, false, false, false, false, false, false, false, false, false, false, false, false, false, false, false, false] (by kernel_rfl) rfl rfl ⟨((HB.out.cell (World.block_lt_of_cell? w _ hw304_0)).trans hw304_0), ((HB.out.cell (World.block_lt_of_cell? w _ hw305_0)).trans hw305_0)⟩ (fun hHeld => ?_); refine with_tabW spec_l9Perms.tab4 spec_l9Perms.bits4 (fun HT_ HW_ => ?_)
     generalize wr.drew = w12 at HB HR304_0 HR305_0 hx304_0 hx305_0 hHeld ⊢
     refine pu_ 0 (some 10) ?_
     refine pu_ 1 (some 11) ?_
     refine pu_ 2 (some 12) ?_
     refine pu_ 5 (some 15) ?_
     refine pu_ 6 (some 16) ?_
     refine take_ (i := 3) (N := some 13) (v := ?_) (a' := ?_) #[true, true, true, true, false, true, true, false, false, false, false, false, false, false, false, false, false, false] rfl rfl (take_ofW HT_.out HW_.out (by kernel_rfl)) (fun _ _ _ h => h) (Or.inl ⟨by rfl, ?_⟩) hHeld ?_ ?_
     rotate_left
     ·rintro w' ⟨s0, s1⟩
      go_simp
      with_reducible rfl
     rotate_left
     ·simp only [Act.put, List.setIfInBounds_toArray, List.set_cons_zero, List.set_cons_succ, i64_w, i32_w]
      rfl
     refine pu_ 4 (some 14) ?_
     refine take_ (i := 7) (N := some 17) (v := ?_) (a' := ?_) #[true, true, true, true, true, true, true, true, false, false, false, false, false, false, false, false, false, false] rfl rfl (take_ofW HT_.out HW_.out (by kernel_rfl)) (fun _ _ _ h => h) (Or.inl ⟨by rfl, ?_⟩) hHeld ?_ ?_
     rotate_left
     ·rintro w' ⟨s0, s1⟩
      go_simp
      with_reducible rfl
     rotate_left
     ·simp only [Act.put, List.setIfInBounds_toArray, List.set_cons_zero, List.set_cons_succ, i64_w, i32_w]
      rfl
     refine pu_ 8 (some 18) ?_
     refine pu_ 9 (some 19) ?_
     refine pu_ 10 (some 20) ?_
     refine pv_ 11 (some 21) ?_
     refine pv_ 12 (some 22) ?_
     refine pv_ 13 (some 23) ?_
     refine pv_ 14 (some 24) ?_
     refine pv_ 15 (some 25) ?_
     refine pv_ 16 (some 26) ?_
     refine pu_ 17 (some 27) ?_
     refine done_ (done_of HT_.out (by kernel_rfl)) ?_
     try go_wp2
     go_ret
     exact ⟨rE, tb⟩
   ·obtain ⟨t308, A13, H⟩ := bs H
    by_cases c14 : t308 = true
    ·subst c14
     rw [if_pos rfl] at H
     obtain ⟨c15, H⟩ := gd H
     have c15b0 : decide (0 < (l0.length : Int)) = true := decide_eq_true c15
     have c15b1 : decide (0 < l0.length) = true := decide_eq_true (by omega)
     clear c15
     obtain ⟨t310, A16, H⟩ := bs H
     obtain rfl := Option.some.inj H
     go_wp2_with (first | (refine gL 55 (some 30) Try.func55 #[.int .i64 (l0.length : Int), .int .i64 1, .int .i64 8] ?_; (with_reducible refine (spec_l1In.calls (l0.length : Int) 1 8 true _ A13.out).mono ?_); rintro e w' ⟨rfl, ⟨nd, rfl⟩⟩; refine ⟨_, rfl, ?_⟩; have p309 : 0 ≤ (0 : Int) := (by omega); have q309 : 0 < (l0.length : Int) := dT; obtain ⟨ad309, A309_0, c309_0, e309, hx309_0, hl309_0, hi309_0⟩ := at_L2 HR0.out 0 p309 q309; cases e309; have qi309 : (0 < l0.length) = True := eq_true (by omega); (try rw [show ((0 : Int)).toNat = 0 from rfl] at hx309_0); (try rw [Addr.add_zero'] at hx309_0); replace hx309_0 := cB HB hx309_0; have HR309_0 := Aside0.mk hi309_0; have HC309_0 := Aside0.mk hl309_0; clear hi309_0 hl309_0; replace p309 := eq_true p309; replace q309 := eq_true q309) | (go_at_call 55; (with_reducible refine (spec_l1In.calls ((rd_L2 l0 0).length : Int) 1 5 t310 _ A16.out).mono ?_); rintro e w' ⟨rfl, ⟨nd, rfl⟩⟩))
     go_ret
     exact ⟨rE, tb⟩
    ·replace c14 := Bool.eq_false_iff.mpr c14
     subst c14
     rw [if_neg (show ¬ (false = true) by decide)] at H
     obtain rfl := Option.some.inj H
     go_wp2_with (first | (refine gL 55 (some 30) Try.func55 #[.int .i64 (l0.length : Int), .int .i64 1, .int .i64 8] ?_; (with_reducible refine (spec_l1In.calls (l0.length : Int) 1 8 false _ A13.out).mono ?_); rintro e w' ⟨rfl, ⟨nd, rfl⟩⟩; refine ⟨_, rfl, ?_⟩))
     go_ret
     exact ⟨rE, tb⟩

/-! ### spec_l2Letter: function 86 -/
def spec_l2Letter.f (a0 : Int) : Option (Bool) := (spec_l1In.f a0 1 8).bind fun t311 => (if t311 = true then (some true) else ((spec_l1In.f a0 (-8) (-1)).bind fun t312 => (some t312)))
set_option maxHeartbeats 8000000 in
set_option maxRecDepth 100000 in
theorem spec_l2Letter.calls (a0 : Int) (r : Bool) (w : World) (h : spec_l2Letter.f a0 = some r) :
  Calls Try.prog 86 #[.int .i64 a0] w fun e w' => e = .returned (.bool r) ∧ Drawn0 w w' := by
 have H : ((spec_l1In.f a0 1 8).bind fun t311 => (if t311 = true then (some true) else ((spec_l1In.f a0 (-8) (-1)).bind fun t312 => (some t312)))) = some r := h
 clear h
 obtain ⟨t311, A2, H⟩ := bs H
 by_cases c3 : t311 = true
 ·subst c3
  rw [if_pos rfl] at H
  obtain rfl := Option.some.inj H
  go_enter Try.func86, Try.ntmps86
  go_wp2_with (first | (refine gL 55 (some 4) Try.func55 #[.int .i64 a0, .int .i64 1, .int .i64 8] ?_; (with_reducible refine (spec_l1In.calls a0 1 8 true _ A2.out).mono ?_); rintro e w' ⟨rfl, ⟨nd, rfl⟩⟩; refine ⟨_, rfl, ?_⟩))
  go_ret
  exact ⟨rS, tD⟩
 ·replace c3 := Bool.eq_false_iff.mpr c3
  subst c3
  rw [if_neg (show ¬ (false = true) by decide)] at H
  obtain ⟨t312, A4, H⟩ := bs H
  obtain rfl := Option.some.inj H
  go_enter Try.func86, Try.ntmps86
  go_wp2_with (first | (refine gL 55 (some 4) Try.func55 #[.int .i64 a0, .int .i64 1, .int .i64 8] ?_; (with_reducible refine (spec_l1In.calls a0 1 8 false _ A2.out).mono ?_); rintro e w' ⟨rfl, ⟨nd, rfl⟩⟩; refine ⟨_, rfl, ?_⟩) | (go_at_call 55; (with_reducible refine (spec_l1In.calls a0 (-8) (-1) t312 _ A4.out).mono ?_); rintro e w' ⟨rfl, ⟨nd, rfl⟩⟩))
  go_ret
  exact ⟨rS, tD⟩

/-! ### spec_IsWord: function 51 -/
def spec_IsWord.l0 : Nat → List Int → Int → Option (Bool)
 | 0, _, _ => none
 | k + 1, x0, x3 => if x3 < (x0.length : Int) then (if 0 ≤ x3 then ((spec_l2Letter.f (rd x0 x3)).bind fun t314 => (if t314 = true then (spec_IsWord.l0 k x0 (wrap64 (x3 + 1))) else (some false))) else (none)) else (some (decide ((x0.length : Int) ≤ 24)))
def spec_IsWord.f (k : Nat) (l0 : List Int) : Option (Bool) := spec_IsWord.l0 k l0 0
set_option maxHeartbeats 8000000 in
set_option maxRecDepth 100000 in
theorem spec_IsWord.calls (k : Nat) (A0 : Option Addr) (c0 : Nat) (l0 : List Int) (r : Bool) (w : World) (hr0 : Kd.C (Kd.int .i64) w A0 l0.length l0) (hc0 : l0.length ≤ c0) (h : spec_IsWord.f k l0 = some r) :
  Calls Try.prog 51 #[.slice A0 l0.length c0] w fun e w' => e = .returned (.bool r) ∧ Drawn0 w w' := by
 have HR0 := Aside0.mk hr0
 have HC0 := Aside0.mk hc0
 clear hr0 hc0
 have H : (spec_IsWord.l0 k l0 0) = some r := h
 clear h
 have H' := Aside0.mk H
 clear H
 go_enter Try.func51, Try.ntmps51
 go_wp2
 go_loopg [3] k (fun kq v3 w' => ∃ (x3_1 : Int), v3 = .int .i64 x3_1 ∧ Aside0 (spec_IsWord.l0 kq l0 x3_1 = some r) ∧ Aside0 (kq ≤ k) ∧ Drawn0 w w')
 case atStart => exact ⟨(0), rS, H', ⟨Nat.le_refl _⟩, tD⟩
 case round =>
  clear H'
  obtain ⟨x3_1, rfl, HA, HK1, ⟨m1, rfl⟩⟩ := hrel
  cases gk with
  | zero => exact absurd HA.out (by simp [spec_IsWord.l0])
  | succ k1 =>
   have H := HA.out
   clear HA
   simp only [spec_IsWord.l0] at H
   obtain ⟨c2b0, H⟩ | ⟨c2b0, H⟩ := gi H
   ·obtain ⟨c3b0, H⟩ := gdt H
    obtain ⟨t314, A4, H⟩ := bs H
    by_cases c5 : t314 = true
    ·subst c5
     rw [if_pos rfl] at H
     have H' := Aside0.mk H
     clear H
     have p313 : 0 ≤ (x3_1 : Int) := dT
     have q313 : x3_1 < (l0.length : Int) := dT
     obtain ⟨ad313, e313, hx313_0⟩ := Kd.at_int HR0.out x3_1 p313 q313
     cases e313
     replace p313 := eq_true p313
     replace q313 := eq_true q313
     go_wp2_with (first | (refine gL 86 (some 14) Try.func86 #[.int .i64 (rd l0 x3_1)] ?_; (with_reducible refine (spec_l2Letter.calls (rd l0 x3_1) true _ A4.out).mono ?_); rintro e w' ⟨rfl, ⟨nd, rfl⟩⟩; refine ⟨_, rfl, ?_⟩))
     go_roundg k1
     case measure => exact oK
     case rel => exact ⟨(wrap64 (x3_1 + 1)), rS, H', ⟨oK⟩, tD⟩
    ·replace c5 := Bool.eq_false_iff.mpr c5
     subst c5
     rw [if_neg (show ¬ (false = true) by decide)] at H
     obtain rfl := Option.some.inj H
     have p313 : 0 ≤ (x3_1 : Int) := dT
     have q313 : x3_1 < (l0.length : Int) := dT
     obtain ⟨ad313, e313, hx313_0⟩ := Kd.at_int HR0.out x3_1 p313 q313
     cases e313
     replace p313 := eq_true p313
     replace q313 := eq_true q313
     go_wp2_with (first | (refine gL 86 (some 14) Try.func86 #[.int .i64 (rd l0 x3_1)] ?_; (with_reducible refine (spec_l2Letter.calls (rd l0 x3_1) false _ A4.out).mono ?_); rintro e w' ⟨rfl, ⟨nd, rfl⟩⟩; refine ⟨_, rfl, ?_⟩))
     go_ret
     exact ⟨rS, tD⟩
   ·obtain rfl := Option.some.inj H
    go_wp2
    go_ret
    exact ⟨rS, tD⟩

end Go.Proofs.Ytepogblkmiidnaa.PFnCovers
