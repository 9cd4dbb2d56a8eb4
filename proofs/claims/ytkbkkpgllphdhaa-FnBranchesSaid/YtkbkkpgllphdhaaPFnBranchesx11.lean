import Derived.Test.YtkbkkpgllphdhaaWSpan
import Derived.Test.YtkbkkpgllphdhaaPFnBranchesx0
import Derived.Test.YtkbkkpgllphdhaaPFnBranchesx10
namespace Go.Proofs.Ytkbkkpgllphdhaa.PFnBranches
open Go.RowKit Go.Proofs.YtkbkkpgllphdhaaW.PrintWords Go.Proofs.YtkbkkpgllphdhaaW.PrintLast Go.Proofs.YtkbkkpgllphdhaaW.PrintMore
attribute [local go_sem] max2_int min2_int max_two min_two max_three min_three max_four min_four   -- for this text's walks alone
set_option linter.unusedVariables false
set_option linter.unusedSimpArgs false

/-! ### spec_BranchSum: function 21 -/
def spec_BranchSum.l0 : Nat → List (List Int) → Int → Int → Option (Int)
 | 0, _, _, _ => none
 | k + 1, x0, x3, x4 => if x4 < (x0.length : Int) then (if 0 ≤ x4 then ((spec_l6Cycles.f k (rd_L3 x0 x4)).bind fun t395 => (spec_BranchSum.l0 k x0 (wrap64 ((wrap64 (x3 + ((rd_L3 x0 x4).length : Int))) - (t395.length : Int))) (wrap64 (x4 + 1)))) else (none)) else (some x3)
def spec_BranchSum.f (k : Nat) (l0 : List (List Int)) : Option (Int) := (spec_IsPassport.f k l0).bind fun t392 => (if t392 = true then (spec_BranchSum.l0 k l0 0 0) else (some (-1)))
def spec_BranchSum.T7 : Bool × List (List Nat × List Nat) := (true, [([], []), ([], []), ([], []), ([1, 2], [1, 2]), ([3], [3]), ([4], [4]), ([0, 5], [0, 5]), ([], []), ([], []), ([7, 8], [7, 8]), ([9], [9]), ([10], [10]), ([11], [11]), ([6, 12], [6, 12]), ([13, 11, 0, 1, 2, 3, 4, 5, 6, 7, 8, 9, 10, 11, 12, 13], [0, 13])])
def spec_BranchSum.B7 : List Nat := [0, 0, 0, 6, 14, 30, 63, 0, 0, 384, 896, 1920, 3968, 8191, 16383]
theorem spec_BranchSum.tab7 : rtab .any (opsOf Try.f21 7) = spec_BranchSum.T7 := by kernel_rfl
theorem spec_BranchSum.bits7 : waitsOk spec_BranchSum.T7.2 spec_BranchSum.B7 = true := by kernel_rfl
set_option maxHeartbeats 8000000 in
set_option maxRecDepth 100000 in
theorem spec_BranchSum.calls (k : Nat) (A0 : Option Addr) (c0 : Nat) (l0 : List (List Int)) (r : Int) (w : World) (hr0 : Kd.C (Kd.slice 3 (Kd.int .i64)) w A0 l0.length l0) (hc0 : l0.length ≤ c0) (h : spec_BranchSum.f k l0 = some r) :
  Calls Try.prog 21 #[.slice A0 l0.length c0] w fun e w' => e = .returned (.int .i64 r) ∧ Below w.heap.size w w' := by
 have HR0 := Aside0.mk hr0
 have HC0 := Aside0.mk hc0
 clear hr0 hc0
 have HB := Aside0.mk (Below.refl w.heap.size w)
 have H : ((spec_IsPassport.f k l0).bind fun t392 => (if t392 = true then (spec_BranchSum.l0 k l0 0 0) else (some (-1)))) = some r := h
 clear h
 obtain ⟨t392, A2, H⟩ := bs H
 by_cases c3 : t392 = true
 ·subst c3
  rw [if_pos rfl] at H
  have H' := Aside0.mk H
  clear H
  go_enter Try.func21, Try.ntmps21
  go_wp2_with (first | (refine gL 19 (some 6) Try.func19 #[.slice A0 l0.length c0] ?_; (with_reducible refine (spec_IsPassport.calls k _ _ l0 true _ ?side1 ?side2 A2.out).mono ?_); (case side1 => repeat (first | exact HR0.out | (with_reducible refine Kd.C_alloc ?_ _) | (with_reducible refine Kd.C_drewN ?_ _) | (with_reducible refine Kd.C_drew ?_))); (case side2 => exact HC0.out); rintro e w4 ⟨rfl, hb⟩; refine ⟨_, rfl, ?_⟩; replace HB := Aside0.mk (below_step tb hb); (try clear hb); (try clear hb2); (try clear hk); (try clear hi)))
  go_loopg [3, 4] k (fun kq v3 v4 w' => ∃ (x3_1 : Int) (x4_1 : Int), v3 = .int .i64 x3_1 ∧ v4 = .int .i64 x4_1 ∧ Aside0 (spec_BranchSum.l0 kq l0 x3_1 x4_1 = some r) ∧ Aside0 (kq ≤ k) ∧ Aside0 (Below w.heap.size w w'))
  case atStart => exact ⟨(0), (0), rS, rS, H', ⟨Nat.le_refl _⟩, ⟨tb⟩⟩
  case round =>
   clear H'
   try clear c1
   try clear c2
   try clear p2
   try clear c3
   obtain ⟨x3_1, x4_1, rfl, rfl, HA, HK1, HB⟩ := hrel
   cases gk with
   | zero => exact absurd HA.out (by simp [spec_BranchSum.l0])
   | succ k1 =>
    have H := HA.out
    clear HA
    simp only [spec_BranchSum.l0] at H
    obtain ⟨c5b0, H⟩ | ⟨c5b0, H⟩ := gi H
    ·obtain ⟨c6b0, H⟩ := gdt H
     obtain ⟨t395, A7, H⟩ := bs H
     have H' := Aside0.mk H
     clear H
     try go_wp2
     replace HB := Aside0.mk (below_drew1 HB.out)
     have p393 : 0 ≤ (x4_1 : Int) := dT
     have q393 : x4_1 < (l0.length : Int) := dT
     obtain ⟨ad393, A393_0, c393_0, e393, hx393_0, HC393_0, HR393_0⟩ := aL3 HR0.out x4_1 p393 q393
     have hw393_0 := hx393_0
     cases e393
     replace hx393_0 := cB HB hx393_0
     replace p393 := eq_true p393
     replace q393 := eq_true q393
     have p394 : 0 ≤ (x4_1 : Int) := dT
     have q394 : x4_1 < (l0.length : Int) := dT
     obtain ⟨ad394, A394_0, c394_0, e394, hx394_0, HC394_0, HR394_0⟩ := aL3 HR0.out x4_1 p394 q394
     have hw394_0 := hx394_0
     obtain rfl : ad393 = ad394 := (by injection e394)
     replace hx394_0 := cB HB hx394_0
     replace p394 := eq_true p394
     replace q394 := eq_true q394
     have ea_ := Option.some.inj (hx393_0.symm.trans hx394_0)
     injection ea_ with ea_ en_ ec_
     subst ea_
     subst ec_
     clear en_
     refine start_ (n := 15) (S := fun w' => w'.cell? (ad393.add (x4_1).toNat) = some (.slice A393_0 (rd_L3 l0 x4_1).length c393_0) ∧ w'.cell? (ad393.add (x4_1).toNat) = some (.slice A393_0 (rd_L3 l0 x4_1).length c393_0)) (ds := []) #[false, false, false, false, false, false, false, false, false, false, false, false, false, false, false] (by kernel_rfl) rfl rfl ⟨((HB.out.cell (World.block_lt_of_cell? w _ hw393_0)).trans hw393_0), ((HB.out.cell (World.block_lt_of_cell? w _ hw394_0)).trans hw394_0)⟩ (fun hHeld => ?_); refine with_tabW spec_BranchSum.tab7 spec_BranchSum.bits7 (fun HT_ HW_ => ?_)
     generalize wr.drew = w8 at HB HR393_0 HR394_0 hx393_0 hx394_0 hHeld ⊢
     refine pu_ 0 (some 14) ?_
     refine pu_ 1 (some 15) ?_
     refine pu_ 2 (some 16) ?_
     refine pu_ 3 (some 17) ?_
     refine pu_ 7 (some 21) ?_
     refine pu_ 8 (some 22) ?_
     refine pu_ 9 (some 23) ?_
     refine take_ (i := 4) (N := some 18) (v := ?_) (a' := ?_) #[true, true, true, true, true, false, false, true, true, true, false, false, false, false, false] rfl rfl (take_ofW HT_.out HW_.out (by kernel_rfl)) (fun _ _ _ h => h) (Or.inl ⟨by rfl, ?_⟩) hHeld ?_ ?_
     rotate_left
     ·rintro w' ⟨s0, s1⟩
      go_simp
      with_reducible rfl
     rotate_left
     ·simp only [Act.put, List.setIfInBounds_toArray, List.set_cons_zero, List.set_cons_succ, i64_w, i32_w]
      rfl
     refine pu_ 5 (some 19) ?_
     refine pu_ 6 (some 20) ?_
     refine take_ (i := 10) (N := some 24) (v := ?_) (a' := ?_) #[true, true, true, true, true, true, true, true, true, true, true, false, false, false, false] rfl rfl (take_ofW HT_.out HW_.out (by kernel_rfl)) (fun _ _ _ h => h) (Or.inl ⟨by rfl, ?_⟩) hHeld ?_ ?_
     rotate_left
     ·rintro w' ⟨s0, s1⟩
      go_simp
      with_reducible rfl
     rotate_left
     ·simp only [Act.put, List.setIfInBounds_toArray, List.set_cons_zero, List.set_cons_succ, i64_w, i32_w]
      rfl
     refine one_ (i := 11) (N := some 25) #[true, true, true, true, true, true, true, true, true, true, true, true, false, false, false] rfl rfl (one_of HT_.out (by kernel_rfl)) (by decide) (fun K hK => ?_)
     refine goes_ Try.func58 (by kernel_rfl) rfl #[.slice A393_0 (rd_L3 l0 x4_1).length c393_0] (by rfl) rfl rfl mp_ ?_
     with_reducible refine (spec_l6Cycles.calls k1 _ _ (rd_L3 l0 x4_1) t395 _ ?side1 ?side2 A7.out).mono ?_
     (case side1 => repeat (first | exact (Kd.C_below HR394_0.out HB.out) | (with_reducible refine Kd.C_alloc ?_ _) | (with_reducible refine Kd.C_drewN ?_ _) | (with_reducible refine Kd.C_drew ?_)))
     (case side2 => exact HC394_0.out)
     rintro e w9 ⟨v396, rfl, ho0, hb⟩
     refine ⟨_, rfl, ?_⟩
     have HO397 := Aside0.mk (Kd.S_lower ho0 (below_size tb)); replace HB := Aside0.mk (below_step tb hb)
     (try clear hb)
     (try clear hb2)
     (try clear hk)
     (try clear hi)
     (try clear ho0)
     obtain ⟨Ao10, co10, eo10⟩ := Kd.S_slice HO397.out
     (first | subst eo10 | (injection eo10 with f1_ f2_ f3_; have f4_ := f1_.symm; have f5_ := f3_.symm; clear f1_ f2_ f3_; subst f4_; subst f5_))
     refine hK.out _ _ ⟨((HB.out.cell (World.block_lt_of_cell? w _ hw393_0)).trans hw393_0), ((HB.out.cell (World.block_lt_of_cell? w _ hw394_0)).trans hw394_0)⟩ (fun hHeld => ?_)
     clear hK K
     refine norm_ (a' := ?_) ?_ ?_
     rotate_left
     ·show Act.put _ (some 25) _ = _
      simp only [Act.put, List.setIfInBounds_toArray, List.set_cons_zero, List.set_cons_succ, i64_w, i32_w]
      rfl
     refine pu_ 12 (some 26) ?_
     refine pu_ 13 (some 27) ?_
     refine pu_ 14 (some 3) ?_
     refine done_ (done_of HT_.out (by kernel_rfl)) ?_
     try go_wp2
     go_roundg k1
     case measure => exact oK
     case rel => exact ⟨(wrap64 ((wrap64 (x3_1 + ((rd_L3 l0 x4_1).length : Int))) - (t395.length : Int))), (wrap64 (x4_1 + 1)), rS, rS, H', ⟨oK⟩, ⟨tb⟩⟩
    ·obtain rfl := Option.some.inj H
     go_wp2
     go_ret
     exact ⟨rE, tb⟩
 ·replace c3 := Bool.eq_false_iff.mpr c3
  subst c3
  rw [if_neg (show ¬ (false = true) by decide)] at H
  obtain rfl := Option.some.inj H
  go_enter Try.func21, Try.ntmps21
  go_wp2_with (first | (refine gL 19 (some 6) Try.func19 #[.slice A0 l0.length c0] ?_; (with_reducible refine (spec_IsPassport.calls k _ _ l0 false _ ?side1 ?side2 A2.out).mono ?_); (case side1 => repeat (first | exact HR0.out | (with_reducible refine Kd.C_alloc ?_ _) | (with_reducible refine Kd.C_drewN ?_ _) | (with_reducible refine Kd.C_drew ?_))); (case side2 => exact HC0.out); rintro e w11 ⟨rfl, hb⟩; refine ⟨_, rfl, ?_⟩; replace HB := Aside0.mk (below_step tb hb); (try clear hb); (try clear hb2); (try clear hk); (try clear hi)))
  go_ret
  exact ⟨rE, tb⟩

/-! ### spec_l3Find: function 70 -/
def spec_l3Find.l0 : Nat → List Int → Int → Option (Int)
 | 0, _, _ => none
 | k + 1, x0, x1 => if 0 ≤ x1 then (if x1 < (x0.length : Int) then (if (rd x0 x1) = x1 then (some x1) else (spec_l3Find.l0 k x0 (rd x0 x1))) else (none)) else (none)
def spec_l3Find.f (k : Nat) (l0 : List Int) (a1 : Int) : Option (Int) := spec_l3Find.l0 k l0 a1
theorem spec_l3Find.mono_l : ∀ k, (∀ y0 y1, LeO (spec_l3Find.l0 k y0 y1) (spec_l3Find.l0 (k + 1) y0 y1))
 | 0 => fun _ _ r h => by simp [spec_l3Find.l0] at h
 | k + 1 => by
  have ih0 := spec_l3Find.mono_l k
  ·intro y0 y1
   unfold spec_l3Find.l0
   exact mM1 ih0
theorem spec_l3Find.mono : ∀ a0 a1 k, LeO (spec_l3Find.f k a0 a1) (spec_l3Find.f (k + 1) a0 a1) := by
 intro a0 a1 k
 have ih0 := spec_l3Find.mono_l k
 unfold spec_l3Find.f
 exact mM1 ih0
set_option maxHeartbeats 8000000 in
set_option maxRecDepth 100000 in
theorem spec_l3Find.calls (k : Nat) (A0 : Option Addr) (c0 : Nat) (l0 : List Int) (a1 : Int) (r : Int) (w : World) (hr0 : Kd.C (Kd.int .i64) w A0 l0.length l0) (hc0 : l0.length ≤ c0) (h : spec_l3Find.f k l0 a1 = some r) :
  Calls Try.prog 70 #[.slice A0 l0.length c0, .int .i64 a1] w fun e w' => e = .returned (.int .i64 r) ∧ Drawn0 w w' := by
 have HR0 := Aside0.mk hr0
 have HC0 := Aside0.mk hc0
 clear hr0 hc0
 have H : (spec_l3Find.l0 k l0 a1) = some r := h
 clear h
 have H' := Aside0.mk H
 clear H
 go_enter Try.func70, Try.ntmps70
 go_wp2
 go_loopg [1] k (fun kq v1 w' => ∃ (x1_1 : Int), v1 = .int .i64 x1_1 ∧ Aside0 (spec_l3Find.l0 kq l0 x1_1 = some r) ∧ Aside0 (kq ≤ k) ∧ Drawn0 w w')
 case atStart => exact ⟨(a1), rS, H', ⟨Nat.le_refl _⟩, tD⟩
 case round =>
  clear H'
  try clear p2
  obtain ⟨x1_1, rfl, HA, HK1, ⟨m1, rfl⟩⟩ := hrel
  cases gk with
  | zero => exact absurd HA.out (by simp [spec_l3Find.l0])
  | succ k1 =>
   have H := HA.out
   clear HA
   simp only [spec_l3Find.l0] at H
   by_cases c3 : 0 ≤ x1_1
   ·rw [if_pos c3] at H
    have c3b0 : decide (0 ≤ x1_1) = true := decide_eq_true c3
    clear c3
    obtain ⟨c4b0, H⟩ := gdt H
    by_cases c5 : (rd l0 x1_1) = x1_1
    ·rw [if_pos c5] at H
     have c5b0 : ((rd l0 x1_1) == x1_1) = true := beq_iff_eq.mpr c5
     have c5b1 : ((rd l0 x1_1) != x1_1) = false := bne_eq_false_iff_eq.mpr c5
     clear c5
     obtain rfl := Option.some.inj H
     have p398 : 0 ≤ (x1_1 : Int) := dT
     have q398 : x1_1 < (l0.length : Int) := dT
     obtain ⟨ad398, e398, hx398_0⟩ := Kd.at_int HR0.out x1_1 p398 q398
     cases e398
     replace p398 := eq_true p398
     replace q398 := eq_true q398
     go_wp2
     go_ret
     exact ⟨rS, tD⟩
    ·rw [if_neg c5] at H
     have c5b0 : ((rd l0 x1_1) == x1_1) = false := beq_eq_false_iff_ne.mpr c5
     have c5b1 : ((rd l0 x1_1) != x1_1) = true := bne_iff_ne.mpr c5
     have H' := Aside0.mk H
     clear H
     have p398 : 0 ≤ (x1_1 : Int) := dT
     have q398 : x1_1 < (l0.length : Int) := dT
     obtain ⟨ad398, e398, hx398_0⟩ := Kd.at_int HR0.out x1_1 p398 q398
     cases e398
     replace p398 := eq_true p398
     replace q398 := eq_true q398
     have p399 : 0 ≤ (x1_1 : Int) := dT
     have q399 : x1_1 < (l0.length : Int) := dT
     obtain ⟨ad399, e399, hx399_0⟩ := Kd.at_int HR0.out x1_1 p399 q399
     obtain rfl : ad398 = ad399 := (by injection e399)
     replace p399 := eq_true p399
     replace q399 := eq_true q399
     go_wp2
     go_roundg k1
     case measure => exact oK
     case rel => exact ⟨(rd l0 x1_1), rS, H', ⟨oK⟩, tD⟩
   ·rw [if_neg c3] at H
    exact absurd H (by simp)

/-! ### spec_l1Min: function 71 -/
def spec_l1Min.f (a0 : Int) (a1 : Int) : Option (Int) := if a0 < a1 then (some a0) else (some a1)
set_option maxHeartbeats 8000000 in
set_option maxRecDepth 100000 in
theorem spec_l1Min.calls (a0 : Int) (a1 : Int) (r : Int) (w : World) (h : spec_l1Min.f a0 a1 = some r) :
  Calls Try.prog 71 #[.int .i64 a0, .int .i64 a1] w fun e w' => e = .returned (.int .i64 r) ∧ Drawn0 w w' := by
 have H : (if a0 < a1 then (some a0) else (some a1)) = some r := h
 clear h
 obtain ⟨c3b0, H⟩ | ⟨c3b0, H⟩ := gi H
 ·obtain rfl := Option.some.inj H
  go_enter Try.func71, Try.ntmps71
  go_wp2
  go_ret
  exact ⟨rS, tD⟩
 ·obtain rfl := Option.some.inj H
  go_enter Try.func71, Try.ntmps71
  go_wp2
  go_ret
  exact ⟨rS, tD⟩

end Go.Proofs.Ytkbkkpgllphdhaa.PFnBranches
