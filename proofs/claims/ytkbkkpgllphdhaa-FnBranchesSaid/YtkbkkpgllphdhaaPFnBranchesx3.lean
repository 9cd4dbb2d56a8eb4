import Derived.Test.YtkbkkpgllphdhaaWSpan
import Derived.Test.YtkbkkpgllphdhaaWLater
import Derived.Test.YtkbkkpgllphdhaaPFnBranchesx0
import Derived.Test.YtkbkkpgllphdhaaPFnBranchesx2
namespace Go.Proofs.Ytkbkkpgllphdhaa.PFnBranches
open Go.RowKit Go.Proofs.YtkbkkpgllphdhaaW.PrintWords Go.Proofs.YtkbkkpgllphdhaaW.PrintLast Go.Proofs.YtkbkkpgllphdhaaW.PrintMore
attribute [local go_sem] max2_int min2_int max_two min_two max_three min_three max_four min_four   -- for this text's walks alone
set_option linter.unusedVariables false
set_option linter.unusedSimpArgs false

/-! ### spec_l9Perms: function 39 -/
def spec_l9Perms.l0 : Nat → List (List Int) → Int → Option (Bool)
 | 0, _, _ => none
 | k + 1, x0, x3 => if x3 < (x0.length : Int) then (if 0 ≤ x3 then (if 0 < (x0.length : Int) then (if ((rd_L3 x0 x3).length : Int) = ((rd_L3 x0 0).length : Int) then ((spec_l6Perm.f k (rd_L3 x0 x3)).bind fun t113 => (if t113 = true then (spec_l9Perms.l0 k x0 (wrap64 (x3 + 1))) else (some false))) else (some false)) else (none)) else (none)) else ((spec_l1In.f (x0.length : Int) 1 8).bind fun t114 => (if t114 = true then (if 0 < (x0.length : Int) then ((spec_l1In.f ((rd_L3 x0 0).length : Int) 1 5).bind fun t116 => (some t116)) else (none)) else (some false)))
def spec_l9Perms.f (k : Nat) (l0 : List (List Int)) : Option (Bool) := spec_l9Perms.l0 k l0 0
def spec_l9Perms.T4 : Bool × List (List Nat × List Nat) := (true, [([], []), ([], []), ([0, 1], [0, 1]), ([2], [2]), ([3], [3]), ([], []), ([5], [5]), ([6], [6]), ([7], [7]), ([4, 8], [4, 8]), ([9], [9]), ([10], [10]), ([10], [10]), ([11, 12, 10], [10, 11, 12]), ([13, 10], [10, 13]), ([14, 10, 10], [10, 14]), ([15, 10], [10, 15]), ([10, 16], [10, 16])])
def spec_l9Perms.B4 : List Nat := [0, 0, 3, 7, 15, 0, 32, 96, 224, 511, 1023, 2047, 2047, 8191, 16383, 32767, 65535, 131071]
theorem spec_l9Perms.tab4 : rtab .any (opsOf Try.f39 4) = spec_l9Perms.T4 := by kernel_rfl
theorem spec_l9Perms.bits4 : waitsOk spec_l9Perms.T4.2 spec_l9Perms.B4 = true := by kernel_rfl
set_option maxHeartbeats 8000000 in
set_option maxRecDepth 100000 in
theorem spec_l9Perms.calls (k : Nat) (A0 : Option Addr) (c0 : Nat) (l0 : List (List Int)) (r : Bool) (w : World) (hr0 : Kd.C (Kd.slice 3 (Kd.int .i64)) w A0 l0.length l0) (hc0 : l0.length ≤ c0) (h : spec_l9Perms.f k l0 = some r) :
  Calls Try.prog 39 #[.slice A0 l0.length c0] w fun e w' => e = .returned (.bool r) ∧ Below w.heap.size w w' := by
 have HR0 := Aside0.mk hr0
 have HC0 := Aside0.mk hc0
 clear hr0 hc0
 have HB := Aside0.mk (Below.refl w.heap.size w)
 have H : (spec_l9Perms.l0 k l0 0) = some r := h
 clear h
 have H' := Aside0.mk H
 clear H
 go_enter Try.func39, Try.ntmps39
 go_wp2
 go_loopg [3] k (fun kq v3 w' => ∃ (x3_1 : Int), v3 = .int .i64 x3_1 ∧ Aside0 (spec_l9Perms.l0 kq l0 x3_1 = some r) ∧ Aside0 (kq ≤ k) ∧ Aside0 (Below w.heap.size w w'))
 case atStart => exact ⟨(0), rS, H', ⟨Nat.le_refl _⟩, ⟨B_l HB.out⟩⟩
 case round =>
  clear H'
  obtain ⟨x3_1, rfl, HA, HK1, HB⟩ := hrel
  cases gk with
  | zero => exact absurd HA.out (by simp [spec_l9Perms.l0])
  | succ k1 =>
   have H := HA.out
   clear HA
   simp only [spec_l9Perms.l0] at H
   obtain ⟨c2b0, H⟩ | ⟨c2b0, H⟩ := gi H
   ·obtain ⟨c3b0, H⟩ := gdt H
    obtain ⟨c4, H⟩ := gd H
    have c4b0 : decide (0 < (l0.length : Int)) = true := decide_eq_true c4
    have c4b1 : decide (0 < l0.length) = true := decide_eq_true (by omega)
    clear c4
    by_cases c5 : ((rd_L3 l0 x3_1).length : Int) = ((rd_L3 l0 0).length : Int)
    ·rw [if_pos c5] at H
     have c5b0 : (((rd_L3 l0 x3_1).length : Int) == ((rd_L3 l0 0).length : Int)) = true := beq_iff_eq.mpr c5
     have c5b1 : (((rd_L3 l0 x3_1).length : Int) != ((rd_L3 l0 0).length : Int)) = false := bne_eq_false_iff_eq.mpr c5
     have c5b2 : ((rd_L3 l0 x3_1).length == (rd_L3 l0 0).length) = true := by first | simpa using c5 | (simp at c5 ⊢; omega)
     clear c5
     obtain ⟨t113, A6, H⟩ := bs H
     by_cases c7 : t113 = true
     ·subst c7
      rw [if_pos rfl] at H
      have H' := Aside0.mk H
      clear H
      try go_wp2
      replace HB := Aside0.mk (below_drew1 HB.out)
      have p110 : 0 ≤ (x3_1 : Int) := dT
      have q110 : x3_1 < (l0.length : Int) := dT
      obtain ⟨ad110, A110_0, c110_0, e110, hx110_0, HC110_0, HR110_0⟩ := aL3 HR0.out x3_1 p110 q110
      have hw110_0 := hx110_0
      cases e110
      replace hx110_0 := cB HB hx110_0
      replace p110 := eq_true p110
      replace q110 := eq_true q110
      have p111 : 0 ≤ (0 : Int) := (by omega)
      have q111 : 0 < (l0.length : Int) := dT
      obtain ⟨ad111, A111_0, c111_0, e111, hx111_0, hl111_0, hi111_0⟩ := at_L3 HR0.out 0 p111 q111
      have hw111_0 := hx111_0
      (try rw [show ((0 : Int)).toNat = 0 from rfl] at hw111_0)
      (try rw [show 0 * 1 = 0 from rfl] at hw111_0)
      (try rw [Addr.add_zero'] at hw111_0)
      obtain rfl : ad110 = ad111 := (by injection e111)
      have qi111 : (0 < l0.length) = True := eq_true (by omega)
      (try rw [show ((0 : Int)).toNat = 0 from rfl] at hx111_0)
      (try rw [Addr.add_zero'] at hx111_0)
      replace hx111_0 := cB HB hx111_0
      have HR111_0 := Aside0.mk hi111_0
      have HC111_0 := Aside0.mk hl111_0
      clear hi111_0 hl111_0
      replace p111 := eq_true p111
      replace q111 := eq_true q111
      have p112 : 0 ≤ (x3_1 : Int) := dT
      have q112 : x3_1 < (l0.length : Int) := dT
      obtain ⟨ad112, A112_0, c112_0, e112, hx112_0, HC112_0, HR112_0⟩ := aL3 HR0.out x3_1 p112 q112
      have hw112_0 := hx112_0
      obtain rfl : ad110 = ad112 := (by injection e112)
      replace hx112_0 := cB HB hx112_0
      replace p112 := eq_true p112
      replace q112 := eq_true q112
      have ea_ := Option.some.inj (hx110_0.symm.trans hx112_0)
      injection ea_ with ea_ en_ ec_
      subst ea_
      subst ec_
      clear en_
      refine start_ (n := 18) (S := fun w' => w'.cell? (ad110.add (x3_1).toNat) = some (.slice A110_0 (rd_L3 l0 x3_1).length c110_0) ∧ w'.cell? ad110 = some (.slice A111_0 (rd_L3 l0 0).length c111_0) ∧ w'.cell? (ad110.add (x3_1).toNat) = some (.slice A110_0 (rd_L3 l0 x3_1).length c110_0)) (ds := []) #[false, false, false, false, false, false, false, false, false, false, false, false, false, false, false, false, false, false] (by kernel_rfl) rfl rfl ⟨((HB.out.cell (World.block_lt_of_cell? w _ hw110_0)).trans hw110_0), ((HB.out.cell (World.block_lt_of_cell? w _ hw111_0)).trans hw111_0), ((HB.out.cell (World.block_lt_of_cell? w _ hw112_0)).trans hw112_0)⟩ (fun hHeld => ?_); refine with_tabW spec_l9Perms.tab4 spec_l9Perms.bits4 (fun HT_ HW_ => ?_)
      generalize wr.drew = w8 at HB HR110_0 HR111_0 HR112_0 hx110_0 hx111_0 hx112_0 hHeld ⊢
      refine pu_ 0 (some 10) ?_
      refine pu_ 1 (some 11) ?_
      refine pu_ 2 (some 12) ?_
      refine pu_ 5 (some 15) ?_
      refine pu_ 6 (some 16) ?_
      refine take_ (i := 3) (N := some 13) (v := ?_) (a' := ?_) #[true, true, true, true, false, true, true, false, false, false, false, false, false, false, false, false, false, false] rfl rfl (take_ofW HT_.out HW_.out (by kernel_rfl)) (fun _ _ _ h => h) (Or.inl ⟨by rfl, ?_⟩) hHeld ?_ ?_
      rotate_left
      ·rintro w' ⟨s0, s1, s2⟩
       go_simp
       with_reducible rfl
      rotate_left
      ·simp only [Act.put, List.setIfInBounds_toArray, List.set_cons_zero, List.set_cons_succ, i64_w, i32_w]
       rfl
      refine pu_ 4 (some 14) ?_
      refine take_ (i := 7) (N := some 17) (v := ?_) (a' := ?_) #[true, true, true, true, true, true, true, true, false, false, false, false, false, false, false, false, false, false] rfl rfl (take_ofW HT_.out HW_.out (by kernel_rfl)) (fun _ _ _ h => h) (Or.inl ⟨by rfl, ?_⟩) hHeld ?_ ?_
      rotate_left
      ·rintro w' ⟨s0, s1, s2⟩
       go_simp
       with_reducible rfl
      rotate_left
      ·simp only [Act.put, List.setIfInBounds_toArray, List.set_cons_zero, List.set_cons_succ, i64_w, i32_w]
       rfl
      refine pu_ 8 (some 18) ?_
      refine pu_ 9 (some 19) ?_
      refine pu_ 10 (some 20) ?_
      refine pu_ 11 (some 21) ?_
      refine pu_ 12 (some 22) ?_
      refine pu_ 13 (some 23) ?_
      refine take_ (i := 14) (N := some 24) (v := ?_) (a' := ?_) #[true, true, true, true, true, true, true, true, true, true, true, true, true, true, true, false, false, false] rfl rfl (take_ofW HT_.out HW_.out (by kernel_rfl)) (fun _ _ _ h => h) (Or.inl ⟨by rfl, ?_⟩) hHeld ?_ ?_
      rotate_left
      ·rintro w' ⟨s0, s1, s2⟩
       go_simp
       with_reducible rfl
      rotate_left
      ·simp only [Act.put, List.setIfInBounds_toArray, List.set_cons_zero, List.set_cons_succ, i64_w, i32_w]
       rfl
      refine one_ (i := 15) (N := some 25) #[true, true, true, true, true, true, true, true, true, true, true, true, true, true, true, true, false, false] rfl rfl (one_of HT_.out (by kernel_rfl)) (by decide) (fun K hK => ?_)
      refine goes_ Try.func74 (by kernel_rfl) rfl #[.slice A110_0 (rd_L3 l0 x3_1).length c110_0] (by rfl) rfl rfl mp_ ?_
      with_reducible refine (spec_l6Perm.calls k1 _ _ (rd_L3 l0 x3_1) true _ ?side1 ?side2 A6.out).mono ?_
      (case side1 => exact C_l (Kd.C_below HR112_0.out HB.out))
      (case side2 => exact HC112_0.out)
      rintro e w9 ⟨rfl, hb⟩
      refine ⟨_, rfl, ?_⟩
      replace HB := Aside0.mk (zS HB hb)
      (try clear hb)
      (try clear hb2)
      (try clear hk)
      (try clear hi)
      refine hK.out _ _ ⟨((HB.out.cell (World.block_lt_of_cell? w _ hw110_0)).trans hw110_0), ((HB.out.cell (World.block_lt_of_cell? w _ hw111_0)).trans hw111_0), ((HB.out.cell (World.block_lt_of_cell? w _ hw112_0)).trans hw112_0)⟩ (fun hHeld => ?_)
      clear hK K
      refine norm_ (a' := ?_) ?_ ?_
      rotate_left
      ·show Act.put _ (some 25) _ = _
       simp only [Act.put, List.setIfInBounds_toArray, List.set_cons_zero, List.set_cons_succ, i64_w, i32_w]
       rfl
      refine pu_ 16 (some 26) ?_
      refine pu_ 17 (some 27) ?_
      refine done_ (done_of HT_.out (by kernel_rfl)) ?_
      try go_wp2
      go_roundg k1
      case measure => exact oK
      case rel => exact ⟨(wrap64 (x3_1 + 1)), rS, H', ⟨oK⟩, ⟨B_l HB.out⟩⟩
     ·replace c7 := Bool.eq_false_iff.mpr c7
      subst c7
      rw [if_neg (show ¬ (false = true) by decide)] at H
      obtain rfl := Option.some.inj H
      try go_wp2
      replace HB := Aside0.mk (below_drew1 HB.out)
      have p110 : 0 ≤ (x3_1 : Int) := dT
      have q110 : x3_1 < (l0.length : Int) := dT
      obtain ⟨ad110, A110_0, c110_0, e110, hx110_0, HC110_0, HR110_0⟩ := aL3 HR0.out x3_1 p110 q110
      have hw110_0 := hx110_0
      cases e110
      replace hx110_0 := cB HB hx110_0
      replace p110 := eq_true p110
      replace q110 := eq_true q110
      have p111 : 0 ≤ (0 : Int) := (by omega)
      have q111 : 0 < (l0.length : Int) := dT
      obtain ⟨ad111, A111_0, c111_0, e111, hx111_0, hl111_0, hi111_0⟩ := at_L3 HR0.out 0 p111 q111
      have hw111_0 := hx111_0
      (try rw [show ((0 : Int)).toNat = 0 from rfl] at hw111_0)
      (try rw [show 0 * 1 = 0 from rfl] at hw111_0)
      (try rw [Addr.add_zero'] at hw111_0)
      obtain rfl : ad110 = ad111 := (by injection e111)
      have qi111 : (0 < l0.length) = True := eq_true (by omega)
      (try rw [show ((0 : Int)).toNat = 0 from rfl] at hx111_0)
      (try rw [Addr.add_zero'] at hx111_0)
      replace hx111_0 := cB HB hx111_0
      have HR111_0 := Aside0.mk hi111_0
      have HC111_0 := Aside0.mk hl111_0
      clear hi111_0 hl111_0
      replace p111 := eq_true p111
      replace q111 := eq_true q111
      have p112 : 0 ≤ (x3_1 : Int) := dT
      have q112 : x3_1 < (l0.length : Int) := dT
      obtain ⟨ad112, A112_0, c112_0, e112, hx112_0, HC112_0, HR112_0⟩ := aL3 HR0.out x3_1 p112 q112
      have hw112_0 := hx112_0
      obtain rfl : ad110 = ad112 := (by injection e112)
      replace hx112_0 := cB HB hx112_0
      replace p112 := eq_true p112
      replace q112 := eq_true q112
      have ea_ := Option.some.inj (hx110_0.symm.trans hx112_0)
      injection ea_ with ea_ en_ ec_
      subst ea_
      subst ec_
      clear en_
      refine start_ (n := 18) (S := fun w' => w'.cell? (ad110.add (x3_1).toNat) = some (.slice A110_0 (rd_L3 l0 x3_1).length c110_0) ∧ w'.cell? ad110 = some (.slice A111_0 (rd_L3 l0 0).length c111_0) ∧ w'.cell? (ad110.add (x3_1).toNat) = some (.slice A110_0 (rd_L3 l0 x3_1).length c110_0)) (ds := []) #[false, false, false, false, false, false, false, false, false, false, false, false, false, false, false, false, false, false] (by kernel_rfl) rfl rfl ⟨((HB.out.cell (World.block_lt_of_cell? w _ hw110_0)).trans hw110_0), ((HB.out.cell (World.block_lt_of_cell? w _ hw111_0)).trans hw111_0), ((HB.out.cell (World.block_lt_of_cell? w _ hw112_0)).trans hw112_0)⟩ (fun hHeld => ?_); refine with_tabW spec_l9Perms.tab4 spec_l9Perms.bits4 (fun HT_ HW_ => ?_)
      generalize wr.drew = w10 at HB HR110_0 HR111_0 HR112_0 hx110_0 hx111_0 hx112_0 hHeld ⊢
      refine pu_ 0 (some 10) ?_
      refine pu_ 1 (some 11) ?_
      refine pu_ 2 (some 12) ?_
      refine pu_ 5 (some 15) ?_
      refine pu_ 6 (some 16) ?_
      refine take_ (i := 3) (N := some 13) (v := ?_) (a' := ?_) #[true, true, true, true, false, true, true, false, false, false, false, false, false, false, false, false, false, false] rfl rfl (take_ofW HT_.out HW_.out (by kernel_rfl)) (fun _ _ _ h => h) (Or.inl ⟨by rfl, ?_⟩) hHeld ?_ ?_
      rotate_left
      ·rintro w' ⟨s0, s1, s2⟩
       go_simp
       with_reducible rfl
      rotate_left
      ·simp only [Act.put, List.setIfInBounds_toArray, List.set_cons_zero, List.set_cons_succ, i64_w, i32_w]
       rfl
      refine pu_ 4 (some 14) ?_
      refine take_ (i := 7) (N := some 17) (v := ?_) (a' := ?_) #[true, true, true, true, true, true, true, true, false, false, false, false, false, false, false, false, false, false] rfl rfl (take_ofW HT_.out HW_.out (by kernel_rfl)) (fun _ _ _ h => h) (Or.inl ⟨by rfl, ?_⟩) hHeld ?_ ?_
      rotate_left
      ·rintro w' ⟨s0, s1, s2⟩
       go_simp
       with_reducible rfl
      rotate_left
      ·simp only [Act.put, List.setIfInBounds_toArray, List.set_cons_zero, List.set_cons_succ, i64_w, i32_w]
       rfl
      refine pu_ 8 (some 18) ?_
      refine pu_ 9 (some 19) ?_
      refine pu_ 10 (some 20) ?_
      refine pu_ 11 (some 21) ?_
      refine pu_ 12 (some 22) ?_
      refine pu_ 13 (some 23) ?_
      refine take_ (i := 14) (N := some 24) (v := ?_) (a' := ?_) #[true, true, true, true, true, true, true, true, true, true, true, true, true, true, true, false, false, false] rfl rfl (take_ofW HT_.out HW_.out (by kernel_rfl)) (fun _ _ _ h => h) (Or.inl ⟨by rfl, ?_⟩) hHeld ?_ ?_
      rotate_left
      ·rintro w' ⟨s0, s1, s2⟩
       go_simp
       with_reducible rfl
      rotate_left
      ·simp only [Act.put, List.setIfInBounds_toArray, List.set_cons_zero, List.set_cons_succ, i64_w, i32_w]
       rfl
      refine one_ (i := 15) (N := some 25) #[true, true, true, true, true, true, true, true, true, true, true, true, true, true, true, true, false, false] rfl rfl (one_of HT_.out (by kernel_rfl)) (by decide) (fun K hK => ?_)
      refine goes_ Try.func74 (by kernel_rfl) rfl #[.slice A110_0 (rd_L3 l0 x3_1).length c110_0] (by rfl) rfl rfl mp_ ?_
      with_reducible refine (spec_l6Perm.calls k1 _ _ (rd_L3 l0 x3_1) false _ ?side1 ?side2 A6.out).mono ?_
      (case side1 => exact C_l (Kd.C_below HR112_0.out HB.out))
      (case side2 => exact HC112_0.out)
      rintro e w11 ⟨rfl, hb⟩
      refine ⟨_, rfl, ?_⟩
      replace HB := Aside0.mk (zS HB hb)
      (try clear hb)
      (try clear hb2)
      (try clear hk)
      (try clear hi)
      refine hK.out _ _ ⟨((HB.out.cell (World.block_lt_of_cell? w _ hw110_0)).trans hw110_0), ((HB.out.cell (World.block_lt_of_cell? w _ hw111_0)).trans hw111_0), ((HB.out.cell (World.block_lt_of_cell? w _ hw112_0)).trans hw112_0)⟩ (fun hHeld => ?_)
      clear hK K
      refine norm_ (a' := ?_) ?_ ?_
      rotate_left
      ·show Act.put _ (some 25) _ = _
       simp only [Act.put, List.setIfInBounds_toArray, List.set_cons_zero, List.set_cons_succ, i64_w, i32_w]
       rfl
      refine pu_ 16 (some 26) ?_
      refine pu_ 17 (some 27) ?_
      refine done_ (done_of HT_.out (by kernel_rfl)) ?_
      try go_wp2
      go_ret
      exact ⟨rE, B_l HB.out⟩
    ·rw [if_neg c5] at H
     have c5b0 : (((rd_L3 l0 x3_1).length : Int) == ((rd_L3 l0 0).length : Int)) = false := beq_eq_false_iff_ne.mpr c5
     have c5b1 : (((rd_L3 l0 x3_1).length : Int) != ((rd_L3 l0 0).length : Int)) = true := bne_iff_ne.mpr c5
     have c5b2 : ((rd_L3 l0 x3_1).length == (rd_L3 l0 0).length) = false := by first | simpa using c5 | (simp at c5 ⊢; omega)
     obtain rfl := Option.some.inj H
     try go_wp2
     replace HB := Aside0.mk (below_drew1 HB.out)
     have p110 : 0 ≤ (x3_1 : Int) := dT
     have q110 : x3_1 < (l0.length : Int) := dT
     obtain ⟨ad110, A110_0, c110_0, e110, hx110_0, HC110_0, HR110_0⟩ := aL3 HR0.out x3_1 p110 q110
     have hw110_0 := hx110_0
     cases e110
     replace hx110_0 := cB HB hx110_0
     replace p110 := eq_true p110
     replace q110 := eq_true q110
     have p111 : 0 ≤ (0 : Int) := (by omega)
     have q111 : 0 < (l0.length : Int) := dT
     obtain ⟨ad111, A111_0, c111_0, e111, hx111_0, hl111_0, hi111_0⟩ := at_L3 HR0.out 0 p111 q111
     have hw111_0 := hx111_0
     (try rw [show ((0 : Int)).toNat = 0 from rfl] at hw111_0)
     (try rw [show 0 * 1 = 0 from rfl] at hw111_0)
     (try rw [Addr.add_zero'] at hw111_0)
     obtain rfl : ad110 = ad111 := (by injection e111)
     have qi111 : (0 < l0.length) = True := eq_true (by omega)
     (try rw [show ((0 : Int)).toNat = 0 from rfl] at hx111_0)
     (try rw [Addr.add_zero'] at hx111_0)
     replace hx111_0 := cB HB hx111_0
     have HR111_0 := Aside0.mk hi111_0
     have HC111_0 := Aside0.mk hl111_0
     clear hi111_0 hl111_0
     replace p111 := eq_true p111
     replace q111 := eq_true q111
     refine start_ (n := 18) (S := fun w' => w'.cell? (ad110.add (x3_1).toNat) = some (.slice A110_0 (rd_L3 l0 x3_1).length c110_0) ∧ w'.cell? ad110 = some (.slice A111_0 (rd_L3 l0 0).length c111_0)) (ds := []) #[false, false, false, false, false, false, false, false, false, false, false, false, false, false, false, false, false, false] (by kernel_rfl) rfl rfl ⟨((HB.out.cell (World.block_lt_of_cell? w _ hw110_0)).trans hw110_0), ((HB.out.cell (World.block_lt_of_cell? w _ hw111_0)).trans hw111_0)⟩ (fun hHeld => ?_); refine with_tabW spec_l9Perms.tab4 spec_l9Perms.bits4 (fun HT_ HW_ => ?_)
     generalize wr.drew = w12 at HB HR110_0 HR111_0 hx110_0 hx111_0 hHeld ⊢
     refine pu_ 0 (some 10) ?_
     refine pu_ 1 (some 11) ?_
     refine pu_ 2 (some 12) ?_
     refine pu_ 5 (some 15) ?_
     refine pu_ 6 (some 16) ?_
     refine take_ (i := 3) (N := some 13) (v := ?_) (a' := ?_) #[true, true, true, true, false, true, true, false, false, false, false, false, false, false, false, false, false, false] rfl rfl (take_ofW HT_.out HW_.out (by kernel_rfl)) (fun _ _ _ h => h) (Or.inl ⟨by rfl, ?_⟩) hHeld ?_ ?_
     rotate_left
     ·rintro w' ⟨s0, s1⟩
      go_simp
      with_reducible rfl
     rotate_left
     ·simp only [Act.put, List.setIfInBounds_toArray, List.set_cons_zero, List.set_cons_succ, i64_w, i32_w]
      rfl
     refine pu_ 4 (some 14) ?_
     refine take_ (i := 7) (N := some 17) (v := ?_) (a' := ?_) #[true, true, true, true, true, true, true, true, false, false, false, false, false, false, false, false, false, false] rfl rfl (take_ofW HT_.out HW_.out (by kernel_rfl)) (fun _ _ _ h => h) (Or.inl ⟨by rfl, ?_⟩) hHeld ?_ ?_
     rotate_left
     ·rintro w' ⟨s0, s1⟩
      go_simp
      with_reducible rfl
     rotate_left
     ·simp only [Act.put, List.setIfInBounds_toArray, List.set_cons_zero, List.set_cons_succ, i64_w, i32_w]
      rfl
     refine pu_ 8 (some 18) ?_
     refine pu_ 9 (some 19) ?_
     refine pu_ 10 (some 20) ?_
     refine pv_ 11 (some 21) ?_
     refine pv_ 12 (some 22) ?_
     refine pv_ 13 (some 23) ?_
     refine pv_ 14 (some 24) ?_
     refine pv_ 15 (some 25) ?_
     refine pv_ 16 (some 26) ?_
     refine pu_ 17 (some 27) ?_
     refine done_ (done_of HT_.out (by kernel_rfl)) ?_
     try go_wp2
     go_ret
     exact ⟨rE, B_l HB.out⟩
   ·obtain ⟨t114, A13, H⟩ := bs H
    by_cases c14 : t114 = true
    ·subst c14
     rw [if_pos rfl] at H
     obtain ⟨c15, H⟩ := gd H
     have c15b0 : decide (0 < (l0.length : Int)) = true := decide_eq_true c15
     have c15b1 : decide (0 < l0.length) = true := decide_eq_true (by omega)
     clear c15
     obtain ⟨t116, A16, H⟩ := bs H
     obtain rfl := Option.some.inj H
     go_wp2_with (first | (refine gL 38 (some 30) Try.func38 #[.int .i64 (l0.length : Int), .int .i64 1, .int .i64 8] ?_; (with_reducible refine (spec_l1In.calls (l0.length : Int) 1 8 true _ A13.out).mono ?_); rintro e w' ⟨rfl, ⟨nd, rfl⟩⟩; refine ⟨_, rfl, ?_⟩; have p115 : 0 ≤ (0 : Int) := (by omega); have q115 : 0 < (l0.length : Int) := dT; obtain ⟨ad115, A115_0, c115_0, e115, hx115_0, hl115_0, hi115_0⟩ := at_L3 HR0.out 0 p115 q115; cases e115; have qi115 : (0 < l0.length) = True := eq_true (by omega); (try rw [show ((0 : Int)).toNat = 0 from rfl] at hx115_0); (try rw [Addr.add_zero'] at hx115_0); replace hx115_0 := cB HB hx115_0; have HR115_0 := Aside0.mk hi115_0; have HC115_0 := Aside0.mk hl115_0; clear hi115_0 hl115_0; replace p115 := eq_true p115; replace q115 := eq_true q115) | (go_at_call 38; (with_reducible refine (spec_l1In.calls ((rd_L3 l0 0).length : Int) 1 5 t116 _ A16.out).mono ?_); rintro e w' ⟨rfl, ⟨nd, rfl⟩⟩))
     go_ret
     exact ⟨rE, B_l HB.out⟩
    ·replace c14 := Bool.eq_false_iff.mpr c14
     subst c14
     rw [if_neg (show ¬ (false = true) by decide)] at H
     obtain rfl := Option.some.inj H
     go_wp2_with (first | (refine gL 38 (some 30) Try.func38 #[.int .i64 (l0.length : Int), .int .i64 1, .int .i64 8] ?_; (with_reducible refine (spec_l1In.calls (l0.length : Int) 1 8 false _ A13.out).mono ?_); rintro e w' ⟨rfl, ⟨nd, rfl⟩⟩; refine ⟨_, rfl, ?_⟩))
     go_ret
     exact ⟨rE, B_l HB.out⟩

/-! ### spec_l6Inverse: function 40 -/
def spec_l6Inverse.l0 : Nat → List Int → List Int → Int → Option (List Int)
 | 0, _, _, _ => none
 | k + 1, x0, x3, x4 => if x4 < (x0.length : Int) then (if 0 ≤ x4 then (if 0 ≤ (rd x0 x4) then (if (rd x0 x4) < (x3.length : Int) then (spec_l6Inverse.l0 k x0 (x3.set ((rd x0 x4) : Int).toNat x4) (wrap64 (x4 + 1))) else (none)) else (none)) else (none)) else (some x3)
def spec_l6Inverse.f (k : Nat) (l0 : List Int) : Option (List Int) := if 0 ≤ (l0.length : Int) then (if ((l0.length : Int) : Int).toNat ≤ 35184372088832 then (spec_l6Inverse.l0 k l0 (List.replicate ((l0.length : Int) : Int).toNat 0) 0) else (none)) else (none)
set_option maxHeartbeats 8000000 in
set_option maxRecDepth 100000 in
theorem spec_l6Inverse.calls (k : Nat) (A0 : Option Addr) (c0 : Nat) (l0 : List Int) (r : List Int) (w : World) (hr0 : Kd.C (Kd.int .i64) w A0 l0.length l0) (hc0 : l0.length ≤ c0) (h : spec_l6Inverse.f k l0 = some r) :
  Calls Try.prog 40 #[.slice A0 l0.length c0] w fun e w' => ∃ v0_ : Value, e = .returned (v0_) ∧ Kd.R (Kd.int .i64) 3 w' w.heap.size (fun _ => True) v0_ r ∧ Below w.heap.size w w' := by
 have HR0 := Aside0.mk hr0
 have HC0 := Aside0.mk hc0
 clear hr0 hc0
 have HB := Aside0.mk (Below.refl w.heap.size w)
 have H : (if 0 ≤ (l0.length : Int) then (if ((l0.length : Int) : Int).toNat ≤ 35184372088832 then (spec_l6Inverse.l0 k l0 (List.replicate ((l0.length : Int) : Int).toNat 0) 0) else (none)) else (none)) = some r := h
 clear h
 by_cases c2 : 0 ≤ (l0.length : Int)
 ·rw [if_pos c2] at H
  have c2b0 := eq_true c2
  have c2b1 : decide (0 ≤ (l0.length : Int)) = true := decide_eq_true c2
  clear c2
  obtain ⟨c3, H⟩ := gd H
  have c3b0 := eq_true c3
  have c3b1 : decide (((l0.length : Int) : Int).toNat ≤ 35184372088832) = true := decide_eq_true c3
  clear c3
  generalize hy117 : (List.replicate ((l0.length : Int) : Int).toNat 0 : List Int) = y117 at H
  have Ny117 := Aside0.mk hy117.symm; clear hy117
  have H' := Aside0.mk H
  clear H
  go_enter Try.func40, Try.ntmps40
  go_wp2_with (first | ((with_reducible refine gate_dst (N := 7) rfl ?_); refine Kd.R_make (Kd.int .i64) _ 3 rfl (N := 7) rfl 35 _ _ rfl (l0.length : Int) rfl rfl Try.underlying35 (.int .i64 0) 8 info3 rfl (by decide) (by omega) 0 (ok := fun _ => True) (okp := fun _ => True) rfl (fun _ hk => hk) trivial dT (Nat.le_trans (Nat.mul_le_mul_right _ (dT : (l0.length : Int).toNat ≤ 35184372088832)) (by omega)) (Below.refl _ _) (Nat.le_refl _) ?_; intro v118 w4 ho5 hb hg_ hnew_; clear hg_ hnew_; (first | rw [← Ny117.out] at ho5 | (simp only [Int.reduceToNat] at ho5; rw [← Ny117.out] at ho5)); have HO119 := Aside0.mk (Kd.R_lower ho5 (zB HB)); replace HB := Aside0.mk (zS HB hb); clear hb ho5))
  go_loopg [4] k (fun kq v4 w' => ∃ (x3_1 : List Int) (x4_1 : Int), v4 = .int .i64 x4_1 ∧ Aside0 (spec_l6Inverse.l0 kq l0 x3_1 x4_1 = some r) ∧ Aside0 (kq ≤ k) ∧ Aside0 (Kd.R (Kd.int .i64) 3 w' w.heap.size (fun _ => True) v118 x3_1) ∧ Aside0 (Below w.heap.size w w'))
  case atStart => exact ⟨(y117), (0), rS, H', ⟨Nat.le_refl _⟩, ⟨R_l HO119.out⟩, ⟨B_l HB.out⟩⟩
  case round =>
   clear H'
   try clear c2
   try clear c2b0
   try clear c2b1
   try clear p2
   try clear c3
   try clear c3b0
   try clear c3b1
   try clear c4
   obtain ⟨x3_1, x4_1, rfl, HA, HK1, HO_3, HB⟩ := hrel
   cases gk with
   | zero => exact absurd HA.out (by simp [spec_l6Inverse.l0])
   | succ k1 =>
    have H := HA.out
    clear HA
    simp only [spec_l6Inverse.l0] at H
    obtain ⟨c6b0, H⟩ | ⟨c6b0, H⟩ := gi H
    ·obtain ⟨c7b0, H⟩ := gdt H
     obtain ⟨c8b0, H⟩ := gdt H
     obtain ⟨c9b0, H⟩ := gdt H
     generalize hy121 : (x3_1.set ((rd l0 x4_1) : Int).toNat x4_1 : List Int) = y121 at H
     have Ny121 := Aside0.mk hy121.symm; clear hy121
     have H' := Aside0.mk H
     clear H
     have p120 : 0 ≤ (x4_1 : Int) := dT
     have q120 : x4_1 < (l0.length : Int) := dT
     obtain ⟨ad120, e120, hx120_0⟩ := Kd.at_int HR0.out x4_1 p120 q120
     cases e120
     replace hx120_0 := cB HB hx120_0
     replace p120 := eq_true p120
     replace q120 := eq_true q120
     have p10 : 0 ≤ ((rd l0 x4_1) : Int) := dT
     have q10 : ((rd l0 x4_1) : Int) < ((x3_1.length : Int) : Int) := dT
     obtain ⟨go10, co10, eo10, gb10, gl10, cl10, HG10⟩ := Kd.R_form HO_3.out (by omega)
     (first | cases eo10 | (injection eo10 with ea_ en_ ec_; (first | subst ea_ | (injection ea_ with ea_; subst ea_)); subst ec_; clear en_))
     have GB10 := Aside0.mk gb10
     have GG10 := Aside0.mk HG10
     clear gb10 gl10 HG10
     obtain ⟨hx10_0, hf10_0⟩ := Kd.R_celln 0 HO_3.out ((rd l0 x4_1) : Int) p10 q10
     replace p10 := eq_true p10
     replace q10 := eq_true q10
     have HP11 := Kd.R_putg HO_3.out ((rd l0 x4_1) : Int) x4_1
     go_wp2_with (first | ((with_reducible refine gate_store (t := 3) (p := 20) rfl ?_); refine store_event (t := 3) (p := 20) (v := ?vo_w12) (w1 := (wr.setCell ⟨go10, ((rd l0 x4_1) : Int).toNat, none⟩ (.int .i64 x4_1))) ?hg ?ho ?hn ?hr ?_; (case ho => rfl); (case hg => rfl); (case hn => rfl); (case hr => exact gS); intro w12 hw; have hg : wr.grownBy w12 (some go10) := (by rw [hw]; exact HP11.2); have hp_ : Kd.R (Kd.int .i64) 3 w12 w.heap.size (fun _ => True) (.slice (some ⟨go10, 0, none⟩) x3_1.length co10) y121 := (by rw [hw, Ny121.out]; exact HP11.1); clear HP11; replace HO_3 := Aside0.mk (hp_); replace HB := Aside0.mk ((by rw [hw]; exact below_set (HB.out) GB10.out : Below w.heap.size w w12)); clear hg hw hp_))
     go_roundg k1
     case measure => exact oK
     case rel => exact ⟨(y121), (wrap64 (x4_1 + 1)), rS, H', ⟨oK⟩, ⟨R_l HO_3.out⟩, ⟨B_l HB.out⟩⟩
    ·obtain rfl := Option.some.inj H
     go_wp2
     go_ret
     exact ⟨_, rE, R_l HO_3.out, B_l HB.out⟩
 ·rw [if_neg c2] at H
  exact absurd H (by simp)

end Go.Proofs.Ytkbkkpgllphdhaa.PFnBranches
