import Derived.Test.YtkbkkpgllphdhaaWSpan
import Derived.Test.YtkbkkpgllphdhaaWLater
import Derived.Test.YtkbkkpgllphdhaaPFnBranchesx0
import Derived.Test.YtkbkkpgllphdhaaPFnBranchesx5
import Derived.Test.YtkbkkpgllphdhaaPFnBranchesx6
import Derived.Test.YtkbkkpgllphdhaaPFnBranchesx7
import Derived.Test.YtkbkkpgllphdhaaPFnBranchesx10
import Derived.Test.YtkbkkpgllphdhaaPFnBranchesx11
import Derived.Test.YtkbkkpgllphdhaaPFnBranchesx12
namespace Go.Proofs.Ytkbkkpgllphdhaa.PFnBranches
open Go.RowKit Go.Proofs.YtkbkkpgllphdhaaW.PrintWords Go.Proofs.YtkbkkpgllphdhaaW.PrintLast Go.Proofs.YtkbkkpgllphdhaaW.PrintMore
attribute [local go_sem] max2_int min2_int max_two min_two max_three min_three max_four min_four   -- for this text's walks alone
set_option linter.unusedVariables false
set_option linter.unusedSimpArgs false

/-! ### spec_BranchCover: function 7 -/
def spec_BranchCover.f (k : Nat) (l0 : List (List Int)) : Option (Int × Int × Int × Bool) := (spec_IsPassport.f k l0).bind fun t429 => (if t429 = true then ((spec_l9Parts.f k l0).bind fun t430 => (if (t430.length : Int) = 1 then (if 0 < (l0.length : Int) then ((spec_BranchSum.f k l0).bind fun t434 => (some (wrap64 (Int.tdiv (wrap64 ((wrap64 (2 - (wrap64 (2 * ((rd_L3 l0 0).length : Int))))) + t434)) 2), 0, 0, true))) else (none)) else (some (0, 0, 0, false)))) else (some (0, 0, 0, false)))
def spec_BranchCover.T3 : Bool × List (List Nat × List Nat) := (true, [([], []), ([0], [0]), ([1], [1]), ([2], [2]), ([3], [3]), ([4], [4]), ([], []), ([6], [6]), ([5, 7], [5, 7]), ([8], [8]), ([9], [9]), ([10, 7, 0, 1, 2, 3, 4, 5, 6, 7, 8, 9, 10], [10]), ([11, 0, 1, 2, 3, 4, 5, 6, 7, 8, 9, 10, 11], [])])
def spec_BranchCover.B3 : List Nat := [0, 1, 3, 7, 15, 31, 0, 64, 255, 511, 1023, 2047, 4095]
theorem spec_BranchCover.tab3 : rtab .any (opsOf Try.f7 3) = spec_BranchCover.T3 := by kernel_rfl
theorem spec_BranchCover.bits3 : waitsOk spec_BranchCover.T3.2 spec_BranchCover.B3 = true := by kernel_rfl
set_option maxHeartbeats 8000000 in
set_option maxRecDepth 100000 in
theorem spec_BranchCover.calls (k : Nat) (A0 : Option Addr) (c0 : Nat) (l0 : List (List Int)) (r1 : Int) (r2 : Int) (r3 : Int) (r4 : Bool) (w : World) (hr0 : Kd.C (Kd.slice 3 (Kd.int .i64)) w A0 l0.length l0) (hc0 : l0.length ≤ c0) (h : spec_BranchCover.f k l0 = some (r1, r2, r3, r4)) :
  Calls Try.prog 7 #[.slice A0 l0.length c0] w fun e w' => e = .returned (.tuple #[.agg #[.int .i64 r1, .int .i64 r2, .int .i64 r3], .bool r4]) ∧ Below w.heap.size w w' := by
 have hu27 := Try.underlying27
 have HR0 := Aside0.mk hr0
 have HC0 := Aside0.mk hc0
 clear hr0 hc0
 have HB := Aside0.mk (Below.refl w.heap.size w)
 have H : ((spec_IsPassport.f k l0).bind fun t429 => (if t429 = true then ((spec_l9Parts.f k l0).bind fun t430 => (if (t430.length : Int) = 1 then (if 0 < (l0.length : Int) then ((spec_BranchSum.f k l0).bind fun t434 => (some (wrap64 (Int.tdiv (wrap64 ((wrap64 (2 - (wrap64 (2 * ((rd_L3 l0 0).length : Int))))) + t434)) 2), 0, 0, true))) else (none)) else (some (0, 0, 0, false)))) else (some (0, 0, 0, false)))) = some (r1, r2, r3, r4) := h
 clear h
 obtain ⟨t429, A2, H⟩ := bs H
 by_cases c3 : t429 = true
 ·subst c3
  rw [if_pos rfl] at H
  obtain ⟨t430, A4, H⟩ := bs H
  by_cases c5 : (t430.length : Int) = 1
  ·rw [if_pos c5] at H
   have c5b0 : ((t430.length : Int) == 1) = true := beq_iff_eq.mpr c5
   have c5b1 : ((t430.length : Int) != 1) = false := bne_eq_false_iff_eq.mpr c5
   clear c5
   obtain ⟨c6, H⟩ := gd H
   have c6b0 : decide (0 < (l0.length : Int)) = true := decide_eq_true c6
   have c6b1 : decide (0 < l0.length) = true := decide_eq_true (by omega)
   clear c6
   obtain ⟨t434, A7, H⟩ := bs H
   simp only [Option.some.injEq, Prod.mk.injEq] at H
   obtain ⟨rfl, rfl, rfl, rfl⟩ := H
   go_enter Try.func7, Try.ntmps7
   try go_wp2_with (first | ((with_reducible refine gate_dst (N := 2) rfl ?_); (try (refine gate_guard (by rfl) ?_; dsimp only)); refine box_event ?hg (N := 2) ?hd (cs := #[.int .i64 0, .int .i64 0, .int .i64 0]) (t := 27) ?hr ?_; (case hd => rfl); (case hg => rfl); (case hr => exact gS); intro gb428 hg w8 hbox hb; have BK428 := Aside0.mk (hbox); have GW428 := Aside0.mk ((by rw [hg]; exact (zB HB) : w.heap.size ≤ gb428)); have GE428 := Aside0.mk ((by rw [hg]; exact (zB HB) : w.heap.size ≤ gb428)); replace HB := Aside0.mk (zS HB hb); clear hb hbox hg) | (refine gL 19 (some 5) Try.func19 #[.slice A0 l0.length c0] ?_; (with_reducible refine (spec_IsPassport.calls k _ _ l0 true _ ?side1 ?side2 A2.out).mono ?_); (case side1 => exact C_l (Kd.C_below HR0.out HB.out)); (case side2 => exact HC0.out); rintro e w9 ⟨rfl, hb⟩; refine ⟨_, rfl, ?_⟩; replace BK428 := Aside0.mk (blk_below (g := gb428) (o := .cells #[.int .i64 0, .int .i64 0, .int .i64 0] 27 (0, 0)) (by (with_reducible repeat (first | refine blk_drewN ?_ _ | refine blk_drew ?_ | refine blk_alloc ?_ _)); exact BK428.out) hb); replace HB := Aside0.mk (below_step (by repeat (first | (with_reducible first | exact HB.out | apply below_alloc | apply pw_below_drewN | apply below_drew1 | refine below_set ?_ GE428.out) | exact HB.out)) hb)) | (go_at_call 31; (with_reducible refine (spec_l9Parts.calls k _ _ l0 t430 _ ?side1 ?side2 A4.out).mono ?_); (case side1 => exact C_l (Kd.C_below HR0.out HB.out)); (case side2 => exact HC0.out); rintro e w10 ⟨v431, rfl, ho0, hb⟩; have HO432 := Aside0.mk (Kd.S_lower ho0 (below_size (by repeat (first | (with_reducible first | exact HB.out | apply below_alloc | apply pw_below_drewN | apply below_drew1 | refine below_set ?_ GE428.out) | exact HB.out)))); replace BK428 := Aside0.mk (blk_below (g := gb428) (o := .cells #[.int .i64 0, .int .i64 0, .int .i64 0] 27 (0, 0)) (by (with_reducible repeat (first | refine blk_drewN ?_ _ | refine blk_drew ?_ | refine blk_alloc ?_ _)); exact BK428.out) hb); replace HB := Aside0.mk (below_step (by repeat (first | (with_reducible first | exact HB.out | apply below_alloc | apply pw_below_drewN | apply below_drew1 | refine below_set ?_ GE428.out) | exact HB.out)) hb); obtain ⟨Ao11, co11, eo11⟩ := Kd.S_slice HO432.out; subst eo11))
   replace HO432 := Aside0.mk (Kd.S_drew HO432.out); replace BK428 := Aside0.mk (blk_drew BK428.out); replace HB := Aside0.mk (below_drew1 HB.out)
   have p433 : 0 ≤ (0 : Int) := (by omega)
   have q433 : 0 < (l0.length : Int) := dT
   obtain ⟨ad433, A433_0, c433_0, e433, hx433_0, hl433_0, hi433_0⟩ := at_L3 HR0.out 0 p433 q433
   have hw433_0 := hx433_0
   (try rw [show ((0 : Int)).toNat = 0 from rfl] at hw433_0)
   (try rw [show 0 * 1 = 0 from rfl] at hw433_0)
   (try rw [Addr.add_zero'] at hw433_0)
   cases e433
   have qi433 : (0 < l0.length) = True := eq_true (by omega)
   (try rw [show ((0 : Int)).toNat = 0 from rfl] at hx433_0)
   (try rw [Addr.add_zero'] at hx433_0)
   replace hx433_0 := cB HB hx433_0
   have HR433_0 := Aside0.mk hi433_0
   have HC433_0 := Aside0.mk hl433_0
   clear hi433_0 hl433_0
   replace p433 := eq_true p433
   replace q433 := eq_true q433
   refine start_ (n := 13) (S := fun w' => w'.cell? ad433 = some (.slice A433_0 (rd_L3 l0 0).length c433_0)) (ds := []) #[false, false, false, false, false, false, false, false, false, false, false, false, false] (by kernel_rfl) rfl rfl (((HB.out.cell (World.block_lt_of_cell? w _ hw433_0)).trans hw433_0)) (fun hHeld => ?_); refine with_tabW spec_BranchCover.tab3 spec_BranchCover.bits3 (fun HT_ HW_ => ?_)
   generalize w10.drew = w12 at HO432 BK428 HB HR433_0 hx433_0 hHeld ⊢
   refine pu_ 0 (some 14) ?_
   refine pu_ 1 (some 15) ?_
   refine pu_ 6 (some 20) ?_
   refine take_ (i := 2) (N := some 16) (v := ?_) (a' := ?_) #[true, true, true, false, false, false, true, false, false, false, false, false, false] rfl rfl (take_ofW HT_.out HW_.out (by kernel_rfl)) (fun _ _ _ h => h) (Or.inl ⟨by rfl, ?_⟩) hHeld ?_ ?_
   rotate_left
   ·intro w' s0
    go_simp
    with_reducible rfl
   rotate_left
   ·simp only [Act.put, List.setIfInBounds_toArray, List.set_cons_zero, List.set_cons_succ, i64_w, i32_w]
    rfl
   refine pu_ 3 (some 17) ?_
   refine pu_ 4 (some 18) ?_
   refine pu_ 5 (some 19) ?_
   refine one_ (i := 7) (N := some 21) #[true, true, true, true, true, true, true, true, false, false, false, false, false] rfl rfl (one_of HT_.out (by kernel_rfl)) (by decide) (fun K hK => ?_)
   refine goes_ Try.func21 (by kernel_rfl) rfl #[.slice (some ad433) l0.length c0] (by rfl) rfl rfl mp_ ?_
   with_reducible refine (spec_BranchSum.calls k _ _ l0 t434 _ ?side1 ?side2 A7.out).mono ?_
   (case side1 => exact C_l (Kd.C_below HR0.out HB.out))
   (case side2 => exact HC0.out)
   rintro e w13 ⟨rfl, hb⟩
   refine ⟨_, rfl, ?_⟩
   replace HO432 := Aside0.mk (Kd.S_below (S_l HO432.out) hb); replace BK428 := Aside0.mk (blk_below (g := gb428) (o := .cells #[.int .i64 0, .int .i64 0, .int .i64 0] 27 (0, 0)) (by (with_reducible repeat (first | refine blk_drewN ?_ _ | refine blk_drew ?_ | refine blk_alloc ?_ _)); exact BK428.out) hb); replace HB := Aside0.mk (below_step (by repeat (first | (with_reducible first | exact HB.out | apply below_alloc | apply pw_below_drewN | apply below_drew1 | refine below_set ?_ GE428.out) | exact HB.out)) hb)
   (try clear hb)
   (try clear hb2)
   (try clear hk)
   (try clear hi)
   refine hK.out _ _ (((HB.out.cell (World.block_lt_of_cell? w _ hw433_0)).trans hw433_0)) (fun hHeld => ?_)
   clear hK K
   refine norm_ (a' := ?_) ?_ ?_
   rotate_left
   ·show Act.put _ (some 21) _ = _
    simp only [Act.put, List.setIfInBounds_toArray, List.set_cons_zero, List.set_cons_succ, i64_w, i32_w]
    rfl
   refine pu_ 8 (some 22) ?_
   refine pu_ 9 (some 23) ?_
   refine pu_ 10 (some 24) ?_
   refine one_ (i := 11) (N := none) #[true, true, true, true, true, true, true, true, true, true, true, true, false] rfl rfl (one_of HT_.out (by kernel_rfl)) (by decide) (fun K hK => ?_)
   have hs14 : w13.cell? ⟨gb428, 0, none⟩ = some (.int .i64 0) := (blk_cell BK428.out 0).trans rfl
   have hfs14 := blk_frozen BK428.out 0
   have hs15 : w13.cell? ⟨gb428, 1, none⟩ = some (.int .i64 0) := (blk_cell BK428.out 1).trans rfl
   have hfs15 := blk_frozen BK428.out 1
   have hs16 : w13.cell? ⟨gb428, 2, none⟩ = some (.int .i64 0) := (blk_cell BK428.out 2).trans rfl
   have hfs16 := blk_frozen BK428.out 2
   refine skip_ (w1 := ?_) (by rfl) rfl ?_ ?_
   rotate_left
   ·go_simp
    rfl
   refine hK.out _ _ (((cell_far (p := ⟨gb428, _, none⟩) (by first | exact Nat.ne_of_lt (Nat.lt_of_lt_of_le (by have := World.block_lt_of_cell? _ _ hw433_0; first | rwa [add_block] at this | exact this) GW428.out) | (rw [add_block]; exact Nat.ne_of_lt (Nat.lt_of_lt_of_le (by have := World.block_lt_of_cell? _ _ hw433_0; first | rwa [add_block] at this | exact this) GW428.out)) | (show (Addr.add _ _).block ≠ _; rw [add_block]; exact Nat.ne_of_lt (Nat.lt_of_lt_of_le (by have := World.block_lt_of_cell? _ _ hw433_0; first | rwa [add_block] at this | exact this) GW428.out)) | (dsimp only; exact Nat.ne_of_lt (Nat.lt_of_lt_of_le (by have := World.block_lt_of_cell? _ _ hw433_0; first | rwa [add_block] at this | exact this) GW428.out))) _).trans (((cell_far (p := ⟨gb428, _, none⟩) (by first | exact Nat.ne_of_lt (Nat.lt_of_lt_of_le (by have := World.block_lt_of_cell? _ _ hw433_0; first | rwa [add_block] at this | exact this) GW428.out) | (rw [add_block]; exact Nat.ne_of_lt (Nat.lt_of_lt_of_le (by have := World.block_lt_of_cell? _ _ hw433_0; first | rwa [add_block] at this | exact this) GW428.out)) | (show (Addr.add _ _).block ≠ _; rw [add_block]; exact Nat.ne_of_lt (Nat.lt_of_lt_of_le (by have := World.block_lt_of_cell? _ _ hw433_0; first | rwa [add_block] at this | exact this) GW428.out)) | (dsimp only; exact Nat.ne_of_lt (Nat.lt_of_lt_of_le (by have := World.block_lt_of_cell? _ _ hw433_0; first | rwa [add_block] at this | exact this) GW428.out))) _).trans (((cell_far (p := ⟨gb428, _, none⟩) (by first | exact Nat.ne_of_lt (Nat.lt_of_lt_of_le (by have := World.block_lt_of_cell? _ _ hw433_0; first | rwa [add_block] at this | exact this) GW428.out) | (rw [add_block]; exact Nat.ne_of_lt (Nat.lt_of_lt_of_le (by have := World.block_lt_of_cell? _ _ hw433_0; first | rwa [add_block] at this | exact this) GW428.out)) | (show (Addr.add _ _).block ≠ _; rw [add_block]; exact Nat.ne_of_lt (Nat.lt_of_lt_of_le (by have := World.block_lt_of_cell? _ _ hw433_0; first | rwa [add_block] at this | exact this) GW428.out)) | (dsimp only; exact Nat.ne_of_lt (Nat.lt_of_lt_of_le (by have := World.block_lt_of_cell? _ _ hw433_0; first | rwa [add_block] at this | exact this) GW428.out))) _).trans (hHeld))))))) (fun hHeld => ?_)
   clear hK K
   refine pu_ 12 (some 3) ?_
   refine done_ (done_of HT_.out (by kernel_rfl)) ?_
   try go_wp2
   refine bodyPost_ret (results_ct rfl _ _ gb428 27 #[.int .i64 (wrap64 (Int.tdiv (wrap64 ((wrap64 (2 - (wrap64 (2 * ((rd_L3 l0 0).length : Int))))) + t434)) 2)), .int .i64 0, .int .i64 0] (0, 0) _ rfl (by (with_reducible repeat (first | refine blk_drewN ?_ _ | refine blk_drew ?_ | refine blk_alloc ?_ _)); refine blk_put (cs := #[.int .i64 (wrap64 (Int.tdiv (wrap64 ((wrap64 (2 - (wrap64 (2 * ((rd_L3 l0 0).length : Int))))) + t434)) 2)), .int .i64 0, .int .i64 0]) ?_ 2 _ rfl; (with_reducible repeat (first | refine blk_drewN ?_ _ | refine blk_drew ?_ | refine blk_alloc ?_ _)); refine blk_put (cs := #[.int .i64 (wrap64 (Int.tdiv (wrap64 ((wrap64 (2 - (wrap64 (2 * ((rd_L3 l0 0).length : Int))))) + t434)) 2)), .int .i64 0, .int .i64 0]) ?_ 1 _ rfl; (with_reducible repeat (first | refine blk_drewN ?_ _ | refine blk_drew ?_ | refine blk_alloc ?_ _)); refine blk_put (cs := #[.int .i64 0, .int .i64 0, .int .i64 0]) ?_ 0 _ rfl; (with_reducible repeat (first | refine blk_drewN ?_ _ | refine blk_drew ?_ | refine blk_alloc ?_ _)); exact BK428.out) Try.underlying27 rfl (by kernel_rfl)) rfl ?_
   exact ⟨rE, by repeat (first | (with_reducible first | exact HB.out | apply below_alloc | apply pw_below_drewN | apply below_drew1 | refine below_set ?_ GE428.out) | exact HB.out)⟩
  ·rw [if_neg c5] at H
   have c5b0 : ((t430.length : Int) == 1) = false := beq_eq_false_iff_ne.mpr c5
   have c5b1 : ((t430.length : Int) != 1) = true := bne_iff_ne.mpr c5
   simp only [Option.some.injEq, Prod.mk.injEq] at H
   obtain ⟨rfl, rfl, rfl, rfl⟩ := H
   go_enter Try.func7, Try.ntmps7
   go_wp2_with (first | ((with_reducible refine gate_dst (N := 2) rfl ?_); (try (refine gate_guard (by rfl) ?_; dsimp only)); refine box_event ?hg (N := 2) ?hd (cs := #[.int .i64 0, .int .i64 0, .int .i64 0]) (t := 27) ?hr ?_; (case hd => rfl); (case hg => rfl); (case hr => exact gS); intro gb428 hg w17 hbox hb; have BK428 := Aside0.mk (hbox); have GW428 := Aside0.mk ((by rw [hg]; exact (zB HB) : w.heap.size ≤ gb428)); have GE428 := Aside0.mk ((by rw [hg]; exact (zB HB) : w.heap.size ≤ gb428)); replace HB := Aside0.mk (zS HB hb); clear hb hbox hg) | (refine gL 19 (some 5) Try.func19 #[.slice A0 l0.length c0] ?_; (with_reducible refine (spec_IsPassport.calls k _ _ l0 true _ ?side1 ?side2 A2.out).mono ?_); (case side1 => exact C_l (Kd.C_below HR0.out HB.out)); (case side2 => exact HC0.out); rintro e w18 ⟨rfl, hb⟩; refine ⟨_, rfl, ?_⟩; replace BK428 := Aside0.mk (blk_below (g := gb428) (o := .cells #[.int .i64 0, .int .i64 0, .int .i64 0] 27 (0, 0)) (by (with_reducible repeat (first | refine blk_drewN ?_ _ | refine blk_drew ?_ | refine blk_alloc ?_ _)); exact BK428.out) hb); replace HB := Aside0.mk (below_step (by repeat (first | (with_reducible first | exact HB.out | apply below_alloc | apply pw_below_drewN | apply below_drew1 | refine below_set ?_ GE428.out) | exact HB.out)) hb)) | (go_at_call 31; (with_reducible refine (spec_l9Parts.calls k _ _ l0 t430 _ ?side1 ?side2 A4.out).mono ?_); (case side1 => exact C_l (Kd.C_below HR0.out HB.out)); (case side2 => exact HC0.out); rintro e w19 ⟨v431, rfl, ho0, hb⟩; have HO432 := Aside0.mk (Kd.S_lower ho0 (below_size (by repeat (first | (with_reducible first | exact HB.out | apply below_alloc | apply pw_below_drewN | apply below_drew1 | refine below_set ?_ GE428.out) | exact HB.out)))); replace BK428 := Aside0.mk (blk_below (g := gb428) (o := .cells #[.int .i64 0, .int .i64 0, .int .i64 0] 27 (0, 0)) (by (with_reducible repeat (first | refine blk_drewN ?_ _ | refine blk_drew ?_ | refine blk_alloc ?_ _)); exact BK428.out) hb); replace HB := Aside0.mk (below_step (by repeat (first | (with_reducible first | exact HB.out | apply below_alloc | apply pw_below_drewN | apply below_drew1 | refine below_set ?_ GE428.out) | exact HB.out)) hb); obtain ⟨Ao20, co20, eo20⟩ := Kd.S_slice HO432.out; subst eo20; have hcz21_0 : w19.cell? ⟨gb428, 0, none⟩ = some (.int .i64 0) := (blk_cell BK428.out 0).trans rfl; have hcz21_1 : w19.cell? ⟨gb428, 1, none⟩ = some (.int .i64 0) := (blk_cell BK428.out 1).trans rfl; have hcz21_2 : w19.cell? ⟨gb428, 2, none⟩ = some (.int .i64 0) := (blk_cell BK428.out 2).trans rfl; have hfz21_0 := blk_frozen BK428.out 0; have hfz21_1 := blk_frozen BK428.out 1; have hfz21_2 := blk_frozen BK428.out 2))
   refine bodyPost_ret (results_ct rfl _ _ gb428 27 #[.int .i64 0, .int .i64 0, .int .i64 0] (0, 0) _ rfl (by (with_reducible repeat (first | refine blk_drewN ?_ _ | refine blk_drew ?_ | refine blk_alloc ?_ _)); refine blk_put (cs := #[.int .i64 0, .int .i64 0, .int .i64 0]) ?_ 2 _ rfl; (with_reducible repeat (first | refine blk_drewN ?_ _ | refine blk_drew ?_ | refine blk_alloc ?_ _)); refine blk_put (cs := #[.int .i64 0, .int .i64 0, .int .i64 0]) ?_ 1 _ rfl; (with_reducible repeat (first | refine blk_drewN ?_ _ | refine blk_drew ?_ | refine blk_alloc ?_ _)); refine blk_put (cs := #[.int .i64 0, .int .i64 0, .int .i64 0]) ?_ 0 _ rfl; (with_reducible repeat (first | refine blk_drewN ?_ _ | refine blk_drew ?_ | refine blk_alloc ?_ _)); exact BK428.out) Try.underlying27 rfl (by kernel_rfl)) rfl ?_
   exact ⟨rE, by repeat (first | (with_reducible first | exact HB.out | apply below_alloc | apply pw_below_drewN | apply below_drew1 | refine below_set ?_ GE428.out) | exact HB.out)⟩
 ·replace c3 := Bool.eq_false_iff.mpr c3
  subst c3
  rw [if_neg (show ¬ (false = true) by decide)] at H
  simp only [Option.some.injEq, Prod.mk.injEq] at H
  obtain ⟨rfl, rfl, rfl, rfl⟩ := H
  go_enter Try.func7, Try.ntmps7
  go_wp2_with (first | ((with_reducible refine gate_dst (N := 2) rfl ?_); (try (refine gate_guard (by rfl) ?_; dsimp only)); refine box_event ?hg (N := 2) ?hd (cs := #[.int .i64 0, .int .i64 0, .int .i64 0]) (t := 27) ?hr ?_; (case hd => rfl); (case hg => rfl); (case hr => exact gS); intro gb428 hg w22 hbox hb; have BK428 := Aside0.mk (hbox); have GW428 := Aside0.mk ((by rw [hg]; exact (zB HB) : w.heap.size ≤ gb428)); have GE428 := Aside0.mk ((by rw [hg]; exact (zB HB) : w.heap.size ≤ gb428)); replace HB := Aside0.mk (zS HB hb); clear hb hbox hg) | (refine gL 19 (some 5) Try.func19 #[.slice A0 l0.length c0] ?_; (with_reducible refine (spec_IsPassport.calls k _ _ l0 false _ ?side1 ?side2 A2.out).mono ?_); (case side1 => exact C_l (Kd.C_below HR0.out HB.out)); (case side2 => exact HC0.out); rintro e w23 ⟨rfl, hb⟩; refine ⟨_, rfl, ?_⟩; replace BK428 := Aside0.mk (blk_below (g := gb428) (o := .cells #[.int .i64 0, .int .i64 0, .int .i64 0] 27 (0, 0)) (by (with_reducible repeat (first | refine blk_drewN ?_ _ | refine blk_drew ?_ | refine blk_alloc ?_ _)); exact BK428.out) hb); replace HB := Aside0.mk (below_step (by repeat (first | (with_reducible first | exact HB.out | apply below_alloc | apply pw_below_drewN | apply below_drew1 | refine below_set ?_ GE428.out) | exact HB.out)) hb); have hcz24_0 : w23.cell? ⟨gb428, 0, none⟩ = some (.int .i64 0) := (blk_cell BK428.out 0).trans rfl; have hcz24_1 : w23.cell? ⟨gb428, 1, none⟩ = some (.int .i64 0) := (blk_cell BK428.out 1).trans rfl; have hcz24_2 : w23.cell? ⟨gb428, 2, none⟩ = some (.int .i64 0) := (blk_cell BK428.out 2).trans rfl; have hfz24_0 := blk_frozen BK428.out 0; have hfz24_1 := blk_frozen BK428.out 1; have hfz24_2 := blk_frozen BK428.out 2))
  refine bodyPost_ret (results_ct rfl _ _ gb428 27 #[.int .i64 0, .int .i64 0, .int .i64 0] (0, 0) _ rfl (by (with_reducible repeat (first | refine blk_drewN ?_ _ | refine blk_drew ?_ | refine blk_alloc ?_ _)); refine blk_put (cs := #[.int .i64 0, .int .i64 0, .int .i64 0]) ?_ 2 _ rfl; (with_reducible repeat (first | refine blk_drewN ?_ _ | refine blk_drew ?_ | refine blk_alloc ?_ _)); refine blk_put (cs := #[.int .i64 0, .int .i64 0, .int .i64 0]) ?_ 1 _ rfl; (with_reducible repeat (first | refine blk_drewN ?_ _ | refine blk_drew ?_ | refine blk_alloc ?_ _)); refine blk_put (cs := #[.int .i64 0, .int .i64 0, .int .i64 0]) ?_ 0 _ rfl; (with_reducible repeat (first | refine blk_drewN ?_ _ | refine blk_drew ?_ | refine blk_alloc ?_ _)); exact BK428.out) Try.underlying27 rfl (by kernel_rfl)) rfl ?_
  exact ⟨rE, by repeat (first | (with_reducible first | exact HB.out | apply below_alloc | apply pw_below_drewN | apply below_drew1 | refine below_set ?_ GE428.out) | exact HB.out)⟩

/-! ### spec_DrawCloseUp: function 8 -/
def spec_DrawCloseUp.f (k : Nat) (l0 : List Int) : Option ((List (List Int))) := (spec_l1New.f k l0).bind fun bt435 => ((spec_l10Draw.f k bt435.1 bt435.2.1 bt435.2.2).bind fun bt439 => ((spec_l1Once.f bt435.1 bt439.2.1 bt439.2.2 2).bind fun bt444 => (if bt444.1 = true then (if 1 ≤ (bt439.1.length : Int) then (some (bt439.1.take (1 : Int).toNat)) else (none)) else (some bt439.1))))
set_option maxHeartbeats 8000000 in
set_option maxRecDepth 100000 in
theorem spec_DrawCloseUp.calls (k : Nat) (A0 : Option Addr) (c0 : Nat) (l0 : List Int) (r : List (List Int)) (w : World) (hr0 : Kd.C (Kd.int .u8) w A0 l0.length l0) (hc0 : l0.length ≤ c0) (h : spec_DrawCloseUp.f k l0 = some r) :
  Calls Try.prog 8 #[.slice A0 l0.length c0] w fun e w' => ∃ v0_ : Value, e = .returned (v0_) ∧ Kd.S (Kd.slice 3 (Kd.int .i64)) 35 w' w.heap.size (fun _ => True) v0_ r ∧ Below w.heap.size w w' := by
 have HR0 := Aside0.mk hr0
 have HC0 := Aside0.mk hc0
 clear hr0 hc0
 have HB := Aside0.mk (Below.refl w.heap.size w)
 have H : ((spec_l1New.f k l0).bind fun bt435 => ((spec_l10Draw.f k bt435.1 bt435.2.1 bt435.2.2).bind fun bt439 => ((spec_l1Once.f bt435.1 bt439.2.1 bt439.2.2 2).bind fun bt444 => (if bt444.1 = true then (if 1 ≤ (bt439.1.length : Int) then (some (bt439.1.take (1 : Int).toNat)) else (none)) else (some bt439.1))))) = some r := h
 clear h
 obtain ⟨⟨t435, t436, t437⟩, A2, H⟩ := bs H
 try dsimp only at H
 obtain ⟨⟨t439, t442, t443⟩, A3, H⟩ := bs H
 try dsimp only at H
 obtain ⟨⟨t444, t445, t446⟩, A4, H⟩ := bs H
 try dsimp only at H
 by_cases c5 : t444 = true
 ·subst c5
  rw [if_pos rfl] at H
  obtain ⟨c6, H⟩ := gd H
  have c6b0 := eq_true c6
  have c6b1 : decide (1 ≤ (t439.length : Int)) = true := decide_eq_true c6
  clear c6
  generalize hy447 : (t439.take (1 : Int).toNat : List (List Int)) = y447 at H
  have Ny447 := Aside0.mk hy447.symm; clear hy447
  obtain rfl := Option.some.inj H
  go_enter Try.func8, Try.ntmps8
  go_wp2_with (first | (refine gL 28 (some 6) Try.func28 #[.slice A0 l0.length c0] ?_; (with_reducible refine (spec_l1New.calls k _ _ l0 t435 t436 t437 w _ ?side1 ?side2 ?side3 A2.out).mono ?_); (case side1 => exact tb); (case side2 => exact HR0.out); (case side3 => exact HC0.out); rintro e w7 ⟨g438, rfl, hi, hb, hb2⟩; refine ⟨_, rfl, ?_⟩; replace HB := Aside0.mk (hb); have HI438 := Aside0.mk (hi)) | (refine gL 27 (some 8) Try.func27 #[.pointer (some ⟨g438, 0, none⟩)] ?_; (with_reducible refine (spec_l10Draw.calls k g438 t435 t436 t437 t439 t442 t443 w _ ?side1 ?side2 A3.out).mono ?_); (case side1 => repeat (first | (with_reducible first | exact HI438.out | apply IsS66.alloc | apply IsS66.drewN | apply IsS66.drew | apply IsS66.set_1 | apply IsS66.set_2) | exact HI438.out)); (case side2 => repeat (first | (with_reducible first | exact HB.out | apply below_alloc | apply pw_below_drewN | apply below_drew1 | refine below_set ?_ (IsS66.ge HI438.out)) | exact HB.out)); rintro e w8 ⟨v440, rfl, ho0, hi, hb, hk⟩; refine ⟨_, rfl, ?_⟩; have HO441 := Aside0.mk (Kd.S_lower ho0 (below_size (by repeat (first | (with_reducible first | exact HB.out | apply below_alloc | apply pw_below_drewN | apply below_drew1 | refine below_set ?_ (IsS66.ge HI438.out)) | exact HB.out)))); replace HB := Aside0.mk (hb); replace HI438 := Aside0.mk (hi)) | (refine gL 32 (some 10) Try.func32 #[.pointer (some ⟨g438, 0, none⟩), .int .i64 2] ?_; (with_reducible refine (spec_l1Once.calls g438 t435 t442 t443 2 true t445 t446 w _ ?side1 ?side2 A4.out).mono ?_); (case side1 => repeat (first | (with_reducible first | exact HI438.out | apply IsS66.alloc | apply IsS66.drewN | apply IsS66.drew | apply IsS66.set_1 | apply IsS66.set_2) | exact HI438.out)); (case side2 => repeat (first | (with_reducible first | exact HB.out | apply below_alloc | apply pw_below_drewN | apply below_drew1 | refine below_set ?_ (IsS66.ge HI438.out)) | exact HB.out)); rintro e w9 ⟨rfl, hi, hb, hk⟩; refine ⟨_, rfl, ?_⟩; replace HO441 := Aside0.mk (Kd.S_mono (Kd.S_keep (IsS66.apartS (show IsS66 w _ g438 t435 t442 t443 from by repeat (first | (with_reducible first | exact HI438.out | apply IsS66.alloc | apply IsS66.drewN | apply IsS66.drew | apply IsS66.set_1 | apply IsS66.set_2) | exact HI438.out)) (S_l HO441.out) (by decide)) hk (fun _ h => h.2)) (fun _ h => h.1)); replace HB := Aside0.mk (hb); replace HI438 := Aside0.mk (hi); obtain ⟨Ao10, co10, eo10⟩ := Kd.S_slice HO441.out; subst eo10; have q11 : (1 : Int) ≤ ((t439.length : Int) : Int) := dT; obtain ⟨i011, hi011, _, hsz11, _⟩ := info_parts info35; have hcut11 := cut_to (P := Try.prog) 24 35 .i64 Try.underlying24 hi011 Ao10 t439.length co10 1 (by omega) q11 (Kd.S_reads' HO441.out).2.1; have hr11 := Kd.S_take (m := (1 : Int).toNat) HO441.out (by omega); have hy11 : y447.length = (1 : Int).toNat := (by rw [Ny447.out, List.length_take]; omega); rw [← Ny447.out] at hr11; rw [← hy11] at hr11 hcut11; clear hy11 hi011 hsz11 HO441; have HO449 := Aside0.mk hr11; clear hr11; replace q11 := eq_true q11))
  go_ret
  exact ⟨_, rE, S_l HO449.out, by repeat (first | (with_reducible first | exact HB.out | apply below_alloc | apply pw_below_drewN | apply below_drew1 | refine below_set ?_ (IsS66.ge HI438.out)) | exact HB.out)⟩
 ·replace c5 := Bool.eq_false_iff.mpr c5
  subst c5
  rw [if_neg (show ¬ (false = true) by decide)] at H
  obtain rfl := Option.some.inj H
  go_enter Try.func8, Try.ntmps8
  go_wp2_with (first | (refine gL 28 (some 6) Try.func28 #[.slice A0 l0.length c0] ?_; (with_reducible refine (spec_l1New.calls k _ _ l0 t435 t436 t437 w _ ?side1 ?side2 ?side3 A2.out).mono ?_); (case side1 => exact tb); (case side2 => exact HR0.out); (case side3 => exact HC0.out); rintro e w12 ⟨g438, rfl, hi, hb, hb2⟩; refine ⟨_, rfl, ?_⟩; replace HB := Aside0.mk (hb); have HI438 := Aside0.mk (hi)) | (refine gL 27 (some 8) Try.func27 #[.pointer (some ⟨g438, 0, none⟩)] ?_; (with_reducible refine (spec_l10Draw.calls k g438 t435 t436 t437 t439 t442 t443 w _ ?side1 ?side2 A3.out).mono ?_); (case side1 => repeat (first | (with_reducible first | exact HI438.out | apply IsS66.alloc | apply IsS66.drewN | apply IsS66.drew | apply IsS66.set_1 | apply IsS66.set_2) | exact HI438.out)); (case side2 => repeat (first | (with_reducible first | exact HB.out | apply below_alloc | apply pw_below_drewN | apply below_drew1 | refine below_set ?_ (IsS66.ge HI438.out)) | exact HB.out)); rintro e w13 ⟨v440, rfl, ho0, hi, hb, hk⟩; refine ⟨_, rfl, ?_⟩; have HO441 := Aside0.mk (Kd.S_lower ho0 (below_size (by repeat (first | (with_reducible first | exact HB.out | apply below_alloc | apply pw_below_drewN | apply below_drew1 | refine below_set ?_ (IsS66.ge HI438.out)) | exact HB.out)))); replace HB := Aside0.mk (hb); replace HI438 := Aside0.mk (hi)) | (refine gL 32 (some 10) Try.func32 #[.pointer (some ⟨g438, 0, none⟩), .int .i64 2] ?_; (with_reducible refine (spec_l1Once.calls g438 t435 t442 t443 2 false t445 t446 w _ ?side1 ?side2 A4.out).mono ?_); (case side1 => repeat (first | (with_reducible first | exact HI438.out | apply IsS66.alloc | apply IsS66.drewN | apply IsS66.drew | apply IsS66.set_1 | apply IsS66.set_2) | exact HI438.out)); (case side2 => repeat (first | (with_reducible first | exact HB.out | apply below_alloc | apply pw_below_drewN | apply below_drew1 | refine below_set ?_ (IsS66.ge HI438.out)) | exact HB.out)); rintro e w14 ⟨rfl, hi, hb, hk⟩; refine ⟨_, rfl, ?_⟩; replace HO441 := Aside0.mk (Kd.S_mono (Kd.S_keep (IsS66.apartS (show IsS66 w _ g438 t435 t442 t443 from by repeat (first | (with_reducible first | exact HI438.out | apply IsS66.alloc | apply IsS66.drewN | apply IsS66.drew | apply IsS66.set_1 | apply IsS66.set_2) | exact HI438.out)) (S_l HO441.out) (by decide)) hk (fun _ h => h.2)) (fun _ h => h.1)); replace HB := Aside0.mk (hb); replace HI438 := Aside0.mk (hi)))
  go_ret
  exact ⟨_, rE, S_l HO441.out, by repeat (first | (with_reducible first | exact HB.out | apply below_alloc | apply pw_below_drewN | apply below_drew1 | refine below_set ?_ (IsS66.ge HI438.out)) | exact HB.out)⟩

/-! ### impl_copyOf: function 50 -/
def impl_copyOf.f (l0 : List Int) : Option (List Int) := (some (([] : List Int) : List Int)).bind fun y450 => (if y450.length + l0.length < 17592186044416 then (some (y450 ++ l0)) else (none))
set_option maxHeartbeats 8000000 in
set_option maxRecDepth 100000 in
theorem impl_copyOf.calls (A0 : Option Addr) (c0 : Nat) (l0 : List Int) (r : List Int) (w : World) (hr0 : Kd.C (Kd.int .i64) w A0 l0.length l0) (hc0 : l0.length ≤ c0) (h : impl_copyOf.f l0 = some r) :
  Calls Try.prog 50 #[.slice A0 l0.length c0] w fun e w' => ∃ v0_ : Value, e = .returned (v0_) ∧ Kd.R (Kd.int .i64) 3 w' w.heap.size (fun _ => True) v0_ r ∧ Below w.heap.size w w' := by
 have HR0 := Aside0.mk hr0
 have HC0 := Aside0.mk hc0
 clear hr0 hc0
 have HB := Aside0.mk (Below.refl w.heap.size w)
 have H : ((some (([] : List Int) : List Int)).bind fun y450 => (if y450.length + l0.length < 17592186044416 then (some (y450 ++ l0)) else (none))) = some r := h
 clear h
 obtain ⟨y450, Ny450, H⟩ := bn H
 by_cases c2 : y450.length + l0.length < 17592186044416
 ·rw [if_pos c2] at H
  have LMc2 := Aside0.mk c2
  clear c2
  generalize hy453 : (y450 ++ l0 : List Int) = y453 at H
  have Ny453 := Aside0.mk hy453.symm; clear hy453
  obtain rfl := Option.some.inj H
  go_enter Try.func50, Try.ntmps50
  go_wp2_with (first | ((with_reducible refine gate_dst (N := 3) rfl ?_); refine Kd.R_lit (Kd.int .i64) _ 3 ?hg (N := 3) ?hd (xs := ([] : List Int)) (inner := []) (ok := fun _ => True) (okp := fun _ => True) ?hr ?hp (fun _ hk => hk) trivial (Below.refl _ _) (Nat.le_refl _) (by simp) ?_; (case hd => rfl); (case hg => rfl); (case hr => exact gS); (case hp => exact (Reps.none _ _)); intro v451 w3 ho4 hb hg_ hnew_; clear hg_ hnew_; (first | rw [← Ny450.out] at ho4 | (simp only [Int.reduceToNat] at ho4; rw [← Ny450.out] at ho4)); have HO452 := Aside0.mk (Kd.R_lower ho4 (zB HB)); replace HB := Aside0.mk (zS HB hb); clear hb ho4) | ((with_reducible refine gate_builtin (b := .append) (xs := #[.tmp 3, .tmp 4]) rfl ?_); at_builtin; refine Kd.R_append_rows (Kd.int .i64) (w0 := w) w.heap.size rfl (.tmp 3) (.tmp 4) 35 3 (.int .i64 0) 8 rfl Try.underlying35 info3 rfl (by decide) (by omega) v451 y450 l0 _ _ _ (fun _ => True) (fun _ => False) rfl rfl ?aO ?aR (fun _ _ h => h) (fun _ h => h.elim) ?aF ?aB ?aS ?aL ?_; (case aR => exact C_l (Kd.C_below HR0.out HB.out)); (case aB => exact (B_l HB.out)); (case aF => exact (fun _ _ => trivial)); (case aO => exact (R_l HO452.out)); (case aS => exact (zB HB)); (case aL => have := LMc2.out; omega); intro v454 w5 ho hb hg hat; rw [← Ny453.out] at ho; replace HB := Aside0.mk (hb); have HO455 := Aside0.mk (ho); clear HO452; clear ho hb hg hat))
  go_ret
  exact ⟨_, rE, R_l HO455.out, B_l HB.out⟩
 ·rw [if_neg c2] at H
  exact absurd H (by simp)

/-! ### impl_copyRows: function 35 -/
def impl_copyRows.l0 : Nat → List (List Int) → List (List Int) → Int → Int → Option ((List (List Int)))
 | 0, _, _, _, _ => none
 | k + 1, x3, x7, x8, x9 => if x9 < x8 then (if 0 ≤ x9 then (if x9 < (x7.length : Int) then ((impl_copyOf.f (rd_L3 x7 x9)).bind fun t460 => (if x3.length < 5864062014805 then (impl_copyRows.l0 k (x3 ++ [t460]) x7 x8 (wrap64 (x9 + 1))) else (none))) else (none)) else (none)) else (some x3)
def impl_copyRows.f (k : Nat) (l0 : List (List Int)) : Option ((List (List Int))) := impl_copyRows.l0 k (([] : List (List Int))) l0 (l0.length : Int) 0
set_option maxHeartbeats 8000000 in
set_option maxRecDepth 100000 in
theorem impl_copyRows.calls (k : Nat) (A0 : Option Addr) (c0 : Nat) (l0 : List (List Int)) (r : List (List Int)) (w : World) (hr0 : Kd.C (Kd.slice 3 (Kd.int .i64)) w A0 l0.length l0) (hc0 : l0.length ≤ c0) (h : impl_copyRows.f k l0 = some r) :
  Calls Try.prog 35 #[.slice A0 l0.length c0] w fun e w' => ∃ v0_ : Value, e = .returned (v0_) ∧ Kd.S (Kd.slice 3 (Kd.int .i64)) 35 w' w.heap.size (fun _ => True) v0_ r ∧ Below w.heap.size w w' := by
 have HR0 := Aside0.mk hr0
 have HC0 := Aside0.mk hc0
 clear hr0 hc0
 have HB := Aside0.mk (Below.refl w.heap.size w)
 have H : (impl_copyRows.l0 k (([] : List (List Int))) l0 (l0.length : Int) 0) = some r := h
 clear h
 generalize hy456 : (([] : List (List Int)) : List (List Int)) = y456 at H
 have Ny456 := Aside0.mk hy456.symm; clear hy456
 have H' := Aside0.mk H
 clear H
 go_enter Try.func35, Try.ntmps35
 go_wp2_with (first | ((with_reducible refine gate_dst (N := 6) rfl ?_); refine Kd.S_lit (Kd.slice 3 (Kd.int .i64)) _ 35 ?hg (N := 6) ?hd (xs := ([] : List (List Int))) (inner := []) (ok := fun _ => True) (okp := fun _ => True) ?hr ?hp (fun _ hk => hk) trivial (Below.refl _ _) (Nat.le_refl _) (by simp) ?_; (case hd => rfl); (case hg => rfl); (case hr => exact gS); (case hp => exact (Reps.none _ _)); intro v457 w2 ho3 hb hg_ hnew_; clear hg_ hnew_; (first | rw [← Ny456.out] at ho3 | (simp only [Int.reduceToNat] at ho3; rw [← Ny456.out] at ho3)); have HO458 := Aside0.mk (Kd.S_lower ho3 (zB HB)); replace HB := Aside0.mk (zS HB hb); clear hb ho3))
 go_loopg [3, 9] k (fun kq v3 v9 w' => ∃ (x3_1 : List (List Int)) (x9_1 : Int), v9 = .int .i64 x9_1 ∧ Aside0 (impl_copyRows.l0 kq x3_1 l0 (l0.length : Int) x9_1 = some r) ∧ Aside0 (kq ≤ k) ∧ Aside0 (Kd.S (Kd.slice 3 (Kd.int .i64)) 35 w' w.heap.size (fun _ => True) v3 x3_1) ∧ Aside0 (Below w.heap.size w w'))
 case atStart => exact ⟨(y456), (0), rS, H', ⟨Nat.le_refl _⟩, ⟨S_l HO458.out⟩, ⟨B_l HB.out⟩⟩
 case round =>
  clear H'
  try clear p2
  try clear c3
  obtain ⟨x3_1, x9_1, rfl, HA, HK1, HO_3, HB⟩ := hrel
  cases gk with
  | zero => exact absurd HA.out (by simp [impl_copyRows.l0])
  | succ k1 =>
   have H := HA.out
   clear HA
   simp only [impl_copyRows.l0] at H
   obtain ⟨c4b0, H⟩ | ⟨c4b0, H⟩ := gi H
   ·obtain ⟨c5b0, H⟩ := gdt H
    obtain ⟨c6b0, H⟩ := gdt H
    obtain ⟨t460, A7, H⟩ := bs H
    obtain ⟨LMc8, H⟩ := gda H
    generalize hy463 : (x3_1 ++ [t460] : List (List Int)) = y463 at H
    have Ny463 := Aside0.mk hy463.symm; clear hy463
    have H' := Aside0.mk H
    clear H
    have p459 : 0 ≤ (x9_1 : Int) := dT
    have q459 : x9_1 < (l0.length : Int) := dT
    obtain ⟨ad459, A459_0, c459_0, e459, hx459_0, HC459_0, HR459_0⟩ := aL3 HR0.out x9_1 p459 q459
    cases e459
    replace hx459_0 := cB HB hx459_0
    replace p459 := eq_true p459
    replace q459 := eq_true q459
    go_wp2_with (first | (refine gL 50 (some 15) Try.func50 #[.slice A459_0 (rd_L3 l0 x9_1).length c459_0] ?_; (with_reducible refine (impl_copyOf.calls _ _ (rd_L3 l0 x9_1) t460 _ ?side1 ?side2 A7.out).mono ?_); (case side1 => exact C_l (Kd.C_below HR459_0.out HB.out)); (case side2 => exact HC459_0.out); rintro e w9 ⟨v461, rfl, ho0, hb⟩; refine ⟨_, rfl, ?_⟩; replace HO_3 := Aside0.mk (Kd.S_elder' (S_l HO_3.out) (Kd.R_base ho0) hb); have HO462 := Aside0.mk (Kd.R_lower ho0 (zB HB)); replace HB := Aside0.mk (zS HB hb); obtain ⟨Ao11, co11, eo11⟩ := Kd.R_slice HO462.out; subst eo11) | ((with_reducible refine gate_builtin (b := .append) (xs := #[.tmp 13, .tmp 16]) rfl ?_); at_builtin; refine Kd.S_append (Kd.slice 3 (Kd.int .i64)) (w0 := w) w.heap.size rfl (.tmp 13) (.tmp 16) 24 35 (.slice none 0 0) 24 rfl Try.underlying24 info35 rfl (by decide) (by omega) u3 x3_1 t460 [.slice Ao11 t460.length co11] (fun _ => True) (fun k_ => some k_ = (.slice Ao11 t460.length co11 : Value).ownBlock) rfl rfl ?aP (fun k_ hk_ => ((Kd.R_mono (ok' := fun k_ => ((fun _ => True)) k_ ∧ some k_ ≠ (u3 : Value).ownBlock) (Kd.R_apart' (HO462.out) (Kd.S_typed HO_3.out) (by decide)) (fun k_ hk => ⟨trivial, hk.2⟩))).1 k_ hk_.symm) ?aF ?aO ?aB ?aS ?aL ?_; (case aP => exact Kd.M_row (Kd.R_mono (Kd.R_tight rfl (Kd.R_mono (ok' := fun k_ => ((fun _ => True)) k_ ∧ some k_ ≠ (u3 : Value).ownBlock) (Kd.R_apart' (HO462.out) (Kd.S_typed HO_3.out) (by decide)) (fun k_ hk => ⟨trivial, hk.2⟩))) (fun _ h_ => h_))); (case aB => exact (B_l HB.out)); (case aF => exact (fun _ _ => trivial)); (case aO => exact (S_l (Kd.S_mono HO_3.out (fun k_ hk => ⟨trivial, fun e_ => hk.2 e_⟩)))); (case aS => exact (zB HB)); (case aL => have := LMc8.out; omega); intro v464 w10 ho hb hg hat; rw [← Ny463.out] at ho; replace HB := Aside0.mk (hb); have HO465 := Aside0.mk (ho); clear HO_3 HO462; clear ho hb hg hat))
    go_roundg k1
    case measure => exact oK
    case rel => exact ⟨(y463), (wrap64 (x9_1 + 1)), rS, H', ⟨oK⟩, ⟨S_l HO465.out⟩, ⟨B_l HB.out⟩⟩
   ·obtain rfl := Option.some.inj H
    go_wp2
    go_ret
    exact ⟨_, rE, S_l HO_3.out, B_l HB.out⟩

/-! ### impl_inversePermutation: function 36 -/
def impl_inversePermutation.l0 : Nat → List Int → List Int → Int → Int → Option (List Int)
 | 0, _, _, _, _ => none
 | k + 1, x3, x9, x10, x11 => if x11 < x10 then (if 0 ≤ x11 then (if x11 < (x9.length : Int) then (if 0 ≤ (rd x9 x11) then (if (rd x9 x11) < (x3.length : Int) then (impl_inversePermutation.l0 k (x3.set ((rd x9 x11) : Int).toNat x11) x9 x10 (wrap64 (x11 + 1))) else (none)) else (none)) else (none)) else (none)) else (some x3)
def impl_inversePermutation.f (k : Nat) (l0 : List Int) : Option (List Int) := if 0 ≤ (l0.length : Int) then (if ((l0.length : Int) : Int).toNat ≤ 35184372088832 then (impl_inversePermutation.l0 k (List.replicate ((l0.length : Int) : Int).toNat 0) l0 (l0.length : Int) 0) else (none)) else (none)
set_option maxHeartbeats 8000000 in
set_option maxRecDepth 100000 in
theorem impl_inversePermutation.calls (k : Nat) (A0 : Option Addr) (c0 : Nat) (l0 : List Int) (r : List Int) (w : World) (hr0 : Kd.C (Kd.int .i64) w A0 l0.length l0) (hc0 : l0.length ≤ c0) (h : impl_inversePermutation.f k l0 = some r) :
  Calls Try.prog 36 #[.slice A0 l0.length c0] w fun e w' => ∃ v0_ : Value, e = .returned (v0_) ∧ Kd.R (Kd.int .i64) 3 w' w.heap.size (fun _ => True) v0_ r ∧ Below w.heap.size w w' := by
 have HR0 := Aside0.mk hr0
 have HC0 := Aside0.mk hc0
 clear hr0 hc0
 have HB := Aside0.mk (Below.refl w.heap.size w)
 have H : (if 0 ≤ (l0.length : Int) then (if ((l0.length : Int) : Int).toNat ≤ 35184372088832 then (impl_inversePermutation.l0 k (List.replicate ((l0.length : Int) : Int).toNat 0) l0 (l0.length : Int) 0) else (none)) else (none)) = some r := h
 clear h
 by_cases c2 : 0 ≤ (l0.length : Int)
 ·rw [if_pos c2] at H
  have c2b0 := eq_true c2
  have c2b1 : decide (0 ≤ (l0.length : Int)) = true := decide_eq_true c2
  clear c2
  obtain ⟨c3, H⟩ := gd H
  have c3b0 := eq_true c3
  have c3b1 : decide (((l0.length : Int) : Int).toNat ≤ 35184372088832) = true := decide_eq_true c3
  clear c3
  generalize hy466 : (List.replicate ((l0.length : Int) : Int).toNat 0 : List Int) = y466 at H
  have Ny466 := Aside0.mk hy466.symm; clear hy466
  have H' := Aside0.mk H
  clear H
  go_enter Try.func36, Try.ntmps36
  go_wp2_with (first | ((with_reducible refine gate_dst (N := 8) rfl ?_); refine Kd.R_make (Kd.int .i64) _ 3 rfl (N := 8) rfl 35 _ _ rfl (l0.length : Int) rfl rfl Try.underlying35 (.int .i64 0) 8 info3 rfl (by decide) (by omega) 0 (ok := fun _ => True) (okp := fun _ => True) rfl (fun _ hk => hk) trivial dT (Nat.le_trans (Nat.mul_le_mul_right _ (dT : (l0.length : Int).toNat ≤ 35184372088832)) (by omega)) (Below.refl _ _) (Nat.le_refl _) ?_; intro v467 w4 ho5 hb hg_ hnew_; clear hg_ hnew_; (first | rw [← Ny466.out] at ho5 | (simp only [Int.reduceToNat] at ho5; rw [← Ny466.out] at ho5)); have HO468 := Aside0.mk (Kd.R_lower ho5 (zB HB)); replace HB := Aside0.mk (zS HB hb); clear hb ho5))
  go_loopg [11] k (fun kq v11 w' => ∃ (x3_1 : List Int) (x11_1 : Int), v11 = .int .i64 x11_1 ∧ Aside0 (impl_inversePermutation.l0 kq x3_1 l0 (l0.length : Int) x11_1 = some r) ∧ Aside0 (kq ≤ k) ∧ Aside0 (Kd.R (Kd.int .i64) 3 w' w.heap.size (fun _ => True) v467 x3_1) ∧ Aside0 (Below w.heap.size w w'))
  case atStart => exact ⟨(y466), (0), rS, H', ⟨Nat.le_refl _⟩, ⟨R_l HO468.out⟩, ⟨B_l HB.out⟩⟩
  case round =>
   clear H'
   try clear c2
   try clear c2b0
   try clear c2b1
   try clear p2
   try clear c3
   try clear c3b0
   try clear c3b1
   obtain ⟨x3_1, x11_1, rfl, HA, HK1, HO_3, HB⟩ := hrel
   cases gk with
   | zero => exact absurd HA.out (by simp [impl_inversePermutation.l0])
   | succ k1 =>
    have H := HA.out
    clear HA
    simp only [impl_inversePermutation.l0] at H
    obtain ⟨c6b0, H⟩ | ⟨c6b0, H⟩ := gi H
    ·obtain ⟨c7b0, H⟩ := gdt H
     obtain ⟨c8b0, H⟩ := gdt H
     obtain ⟨c9b0, H⟩ := gdt H
     obtain ⟨c10b0, H⟩ := gdt H
     generalize hy470 : (x3_1.set ((rd l0 x11_1) : Int).toNat x11_1 : List Int) = y470 at H
     have Ny470 := Aside0.mk hy470.symm; clear hy470
     have H' := Aside0.mk H
     clear H
     have p469 : 0 ≤ (x11_1 : Int) := dT
     have q469 : x11_1 < (l0.length : Int) := dT
     obtain ⟨ad469, e469, hx469_0⟩ := Kd.at_int HR0.out x11_1 p469 q469
     cases e469
     replace hx469_0 := cB HB hx469_0
     replace p469 := eq_true p469
     replace q469 := eq_true q469
     have p11 : 0 ≤ ((rd l0 x11_1) : Int) := dT
     have q11 : ((rd l0 x11_1) : Int) < ((x3_1.length : Int) : Int) := dT
     obtain ⟨go11, co11, eo11, gb11, gl11, cl11, HG11⟩ := Kd.R_form HO_3.out (by omega)
     (first | cases eo11 | (injection eo11 with ea_ en_ ec_; (first | subst ea_ | (injection ea_ with ea_; subst ea_)); subst ec_; clear en_))
     have GB11 := Aside0.mk gb11
     have GG11 := Aside0.mk HG11
     clear gb11 gl11 HG11
     obtain ⟨hx11_0, hf11_0⟩ := Kd.R_celln 0 HO_3.out ((rd l0 x11_1) : Int) p11 q11
     replace p11 := eq_true p11
     replace q11 := eq_true q11
     have HP12 := Kd.R_putg HO_3.out ((rd l0 x11_1) : Int) x11_1
     go_wp2_with (first | ((with_reducible refine gate_store (t := 3) (p := 19) rfl ?_); refine store_event (t := 3) (p := 19) (v := ?vo_w13) (w1 := (wr.setCell ⟨go11, ((rd l0 x11_1) : Int).toNat, none⟩ (.int .i64 x11_1))) ?hg ?ho ?hn ?hr ?_; (case ho => rfl); (case hg => rfl); (case hn => rfl); (case hr => exact gS); intro w13 hw; have hg : wr.grownBy w13 (some go11) := (by rw [hw]; exact HP12.2); have hp_ : Kd.R (Kd.int .i64) 3 w13 w.heap.size (fun _ => True) (.slice (some ⟨go11, 0, none⟩) x3_1.length co11) y470 := (by rw [hw, Ny470.out]; exact HP12.1); clear HP12; replace HO_3 := Aside0.mk (hp_); replace HB := Aside0.mk ((by rw [hw]; exact below_set (HB.out) GB11.out : Below w.heap.size w w13)); clear hg hw hp_))
     go_roundg k1
     case measure => exact oK
     case rel => exact ⟨(y470), (wrap64 (x11_1 + 1)), rS, H', ⟨oK⟩, ⟨R_l HO_3.out⟩, ⟨B_l HB.out⟩⟩
    ·obtain rfl := Option.some.inj H
     go_wp2
     go_ret
     exact ⟨_, rE, R_l HO_3.out, B_l HB.out⟩
 ·rw [if_neg c2] at H
  exact absurd H (by simp)

/-! ### impl_CloseUp: function 9 -/
def impl_CloseUp.j0 : Nat → List (List Int) → Bool → Option ((List (List Int)) × Bool)
 | 0, _, _ => none
 | k + 1, x0, x12 => if x12 = true then (some (([] : List (List Int)), false)) else ((impl_copyRows.f k x0).bind fun t473 => ((impl_product.f k x0).bind fun t476 => ((impl_inversePermutation.f k t476).bind fun t479 => (if t473.length < 5864062014805 then (some ((t473 ++ [t479]), true)) else (none)))))
def impl_CloseUp.f (k : Nat) (l0 : List (List Int)) : Option ((List (List Int)) × Bool) := (impl_within.f (l0.length : Int) 1 4).bind fun t471 => (if t471 = true then ((impl_areSheets.f k l0).bind fun t472 => (impl_CloseUp.j0 k l0 (!t472))) else (impl_CloseUp.j0 k l0 true))
set_option maxHeartbeats 8000000 in
set_option maxRecDepth 100000 in
theorem impl_CloseUp.calls (k : Nat) (A0 : Option Addr) (c0 : Nat) (l0 : List (List Int)) (r1 : List (List Int)) (r2 : Bool) (w : World) (hr0 : Kd.C (Kd.slice 3 (Kd.int .i64)) w A0 l0.length l0) (hc0 : l0.length ≤ c0) (h : impl_CloseUp.f k l0 = some (r1, r2)) :
  Calls Try.prog 9 #[.slice A0 l0.length c0] w fun e w' => ∃ v0_ : Value, e = .returned (.tuple #[v0_, .bool r2]) ∧ Kd.S (Kd.slice 3 (Kd.int .i64)) 35 w' w.heap.size (fun _ => True) v0_ r1 ∧ Below w.heap.size w w' := by
 have HR0 := Aside0.mk hr0
 have HC0 := Aside0.mk hc0
 clear hr0 hc0
 have HB := Aside0.mk (Below.refl w.heap.size w)
 have H : ((impl_within.f (l0.length : Int) 1 4).bind fun t471 => (if t471 = true then ((impl_areSheets.f k l0).bind fun t472 => (impl_CloseUp.j0 k l0 (!t472))) else (impl_CloseUp.j0 k l0 true))) = some (r1, r2) := h
 clear h
 have HC2 := Aside0.mk H
 clear H
 go_enter Try.func9, Try.ntmps9
 go_upto_region 1 with (fail)
 go_cut [12] (fun v12 wc => ∃ (kq : Nat) (x12_1 : Bool), v12 = .bool x12_1 ∧ Aside0 (impl_CloseUp.j0 kq l0 x12_1 = some (r1, r2)) ∧ Aside0 (kq ≤ k) ∧ Aside0 (Below w.heap.size w wc))
 case first =>
  have H := HC2.out
  clear HC2
  obtain ⟨t471, A3, H⟩ := bs H
  by_cases c4 : t471 = true
  ·subst c4
   rw [if_pos rfl] at H
   obtain ⟨t472, A5, H⟩ := bs H
   have H' := Aside0.mk H
   clear H
   go_wp2_with (first | (refine gL 33 (some 6) Try.func33 #[.int .i64 (l0.length : Int), .int .i64 1, .int .i64 4] ?_; (with_reducible refine (impl_within.calls (l0.length : Int) 1 4 true _ A3.out).mono ?_); rintro e w' ⟨rfl, ⟨nd, rfl⟩⟩; refine ⟨_, rfl, ?_⟩) | (go_at_call 34; (with_reducible refine (impl_areSheets.calls k _ _ l0 t472 _ ?side1 ?side2 A5.out).mono ?_); (case side1 => exact C_l (Kd.C_below HR0.out HB.out)); (case side2 => exact HC0.out); rintro e w6 ⟨rfl, hb⟩; replace HB := Aside0.mk (zS HB hb)))
   go_meet
   case rel => exact ⟨_, (!t472), rS, H', ⟨by first | omega | exact Nat.le_refl _⟩, ⟨B_l HB.out⟩⟩
  ·replace c4 := Bool.eq_false_iff.mpr c4
   subst c4
   rw [if_neg (show ¬ (false = true) by decide)] at H
   have H' := Aside0.mk H
   clear H
   go_wp2_with (first | (refine gL 33 (some 6) Try.func33 #[.int .i64 (l0.length : Int), .int .i64 1, .int .i64 4] ?_; (with_reducible refine (impl_within.calls (l0.length : Int) 1 4 false _ A3.out).mono ?_); rintro e w' ⟨rfl, ⟨nd, rfl⟩⟩; refine ⟨_, rfl, ?_⟩))
   go_meet
   case rel => exact ⟨_, (true), rS, H', ⟨by first | omega | exact Nat.le_refl _⟩, ⟨B_l HB.out⟩⟩
 case rest =>
  clear HC2
  try clear p2
  try clear c3
  try clear c4
  obtain ⟨kq, x12_1, rfl, HA, HJ1, HB⟩ := hcut
  cases kq with
  | zero => exact absurd HA.out (by simp [impl_CloseUp.j0])
  | succ kj1 =>
   have H := HA.out
   clear HA
   simp only [impl_CloseUp.j0] at H
   by_cases c7 : x12_1 = true
   ·subst c7
    rw [if_pos rfl] at H
    simp only [Option.some.injEq, Prod.mk.injEq] at H
    obtain ⟨rfl, rfl⟩ := H
    go_wp2
    go_ret2
    exact ⟨_, rE, by first | exact Kd.S_nil _ _ _ _ _ | exact Kd.N_nil _ _ _ _ _ | exact Kd.V_nil _ _ _ _ _ | exact Kd.Q_nil _ _ _ _ _ | exact Kd.R_nil _ _ _ _ _, B_l HB.out⟩
   ·replace c7 := Bool.eq_false_iff.mpr c7
    subst c7
    rw [if_neg (show ¬ (false = true) by decide)] at H
    obtain ⟨t473, A8, H⟩ := bs H
    obtain ⟨t476, A9, H⟩ := bs H
    obtain ⟨t479, A10, H⟩ := bs H
    by_cases c11 : t473.length < 5864062014805
    ·rw [if_pos c11] at H
     have LMc11 := Aside0.mk c11
     clear c11
     generalize hy482 : (t473 ++ [t479] : List (List Int)) = y482 at H
     have Ny482 := Aside0.mk hy482.symm; clear hy482
     simp only [Option.some.injEq, Prod.mk.injEq] at H
     obtain ⟨rfl, rfl⟩ := H
     go_wp2_with (first | (refine gL 35 (some 14) Try.func35 #[.slice A0 l0.length c0] ?_; (with_reducible refine (impl_copyRows.calls kj1 _ _ l0 t473 _ ?side1 ?side2 A8.out).mono ?_); (case side1 => exact C_l (Kd.C_below HR0.out HB.out)); (case side2 => exact HC0.out); rintro e w12 ⟨v474, rfl, ho0, hb⟩; refine ⟨_, rfl, ?_⟩; have HO475 := Aside0.mk (Kd.S_lower ho0 (zB HB)); replace HB := Aside0.mk (zS HB hb)) | (refine gL 37 (some 16) Try.func37 #[.slice A0 l0.length c0] ?_; (with_reducible refine (impl_product.calls kj1 _ _ l0 t476 _ ?side1 ?side2 A9.out).mono ?_); (case side1 => exact C_l (Kd.C_below HR0.out HB.out)); (case side2 => exact HC0.out); rintro e w13 ⟨v477, rfl, ho0, hb⟩; refine ⟨_, rfl, ?_⟩; replace HO475 := Aside0.mk (Kd.S_elder' (S_l HO475.out) (Kd.R_base ho0) hb); have HO478 := Aside0.mk (Kd.R_lower ho0 (zB HB)); replace HB := Aside0.mk (zS HB hb); obtain ⟨Ao14, co14, eo14⟩ := Kd.R_slice HO478.out; subst eo14) | (refine gL 36 (some 17) Try.func36 #[.slice Ao14 t476.length co14] ?_; (with_reducible refine (impl_inversePermutation.calls kj1 _ _ t476 t479 _ ?side1 ?side2 A10.out).mono ?_); (case side1 => exact C_l ((Kd.R_reads' HO478.out).2.2)); (case side2 => exact (Kd.R_reads' HO478.out).2.1); rintro e w15 ⟨v480, rfl, ho0, hb⟩; refine ⟨_, rfl, ?_⟩; replace HO475 := Aside0.mk (Kd.S_elder' (S_l HO475.out) (Kd.R_base ho0) hb); have HO481 := Aside0.mk (Kd.R_lower (Kd.R_new' ho0 (Kd.R_lt (R_l HO478.out))) (zB HB)); replace HO478 := Aside0.mk (Kd.R_elder' (R_l HO478.out) (Kd.R_base ho0) hb); replace HB := Aside0.mk (zS HB hb); obtain ⟨Ao17, co17, eo17⟩ := Kd.R_slice HO481.out; subst eo17) | ((with_reducible refine gate_builtin (b := .append) (xs := #[.tmp 14, .tmp 18]) rfl ?_); at_builtin; refine Kd.S_append (Kd.slice 3 (Kd.int .i64)) (w0 := w) w.heap.size rfl (.tmp 14) (.tmp 18) 24 35 (.slice none 0 0) 24 rfl Try.underlying24 info35 rfl (by decide) (by omega) v474 t473 t479 [.slice Ao17 t479.length co17] (fun k_ => some k_ ≠ (.slice Ao14 t476.length co14 : Value).ownBlock) (fun k_ => some k_ = (.slice Ao17 t479.length co17 : Value).ownBlock) rfl rfl ?aP (fun k_ hk_ => ((Kd.R_mono (ok' := fun k_ => ((fun k_ => some k_ ≠ (.slice Ao14 t476.length co14 : Value).ownBlock)) k_ ∧ some k_ ≠ (v474 : Value).ownBlock) (Kd.R_apart' (HO481.out) (Kd.S_typed HO475.out) (by decide)) (fun k_ hk => ⟨hk.1.2, hk.2⟩))).1 k_ hk_.symm) ?aF ?aO ?aB ?aS ?aL ?_; (case aP => exact Kd.M_row (Kd.R_mono (Kd.R_tight rfl (Kd.R_mono (ok' := fun k_ => ((fun k_ => some k_ ≠ (.slice Ao14 t476.length co14 : Value).ownBlock)) k_ ∧ some k_ ≠ (v474 : Value).ownBlock) (Kd.R_apart' (HO481.out) (Kd.S_typed HO475.out) (by decide)) (fun k_ hk => ⟨hk.1.2, hk.2⟩))) (fun _ h_ => h_))); (case aB => exact (B_l HB.out)); (case aF => exact (fun k_ hk => Kd.fresh' (Kd.R_lt (R_l HO478.out)) k_ hk)); (case aO => exact (S_l (Kd.S_mono HO475.out (fun k_ hk => ⟨hk.1.2, fun e_ => hk.2 e_⟩)))); (case aS => exact (zB HB)); (case aL => have := LMc11.out; omega); intro v483 w16 ho hb hg hat; rw [← Ny482.out] at ho; replace HO478 := Aside0.mk (Kd.R_over' (R_l HO478.out) (Kd.S_typed (S_l HO475.out)) (by decide) hg); replace HB := Aside0.mk (hb); have HO484 := Aside0.mk (ho); clear HO475 HO481; clear ho hb hg hat))
     go_ret2
     exact ⟨_, rE, S_l (Kd.S_mono HO484.out (fun _ hk => trivial)), B_l HB.out⟩
    ·rw [if_neg c11] at H
     exact absurd H (by simp)

/-! ### spec_l1Bit: function 45 -/
def spec_l1Bit.f (a0 : Bool) : Option (Int) := if a0 = true then (some 1) else (some 0)
set_option maxHeartbeats 8000000 in
set_option maxRecDepth 100000 in
theorem spec_l1Bit.calls (a0 : Bool) (r : Int) (w : World) (h : spec_l1Bit.f a0 = some r) :
  Calls Try.prog 45 #[.bool a0] w fun e w' => e = .returned (.int .i64 r) ∧ Drawn0 w w' := by
 have H : (if a0 = true then (some 1) else (some 0)) = some r := h
 clear h
 by_cases c2 : a0 = true
 ·subst c2
  rw [if_pos rfl] at H
  obtain rfl := Option.some.inj H
  go_enter Try.func45, Try.ntmps45
  go_wp2
  go_ret
  exact ⟨rS, tD⟩
 ·replace c2 := Bool.eq_false_iff.mpr c2
  subst c2
  rw [if_neg (show ¬ (false = true) by decide)] at H
  obtain rfl := Option.some.inj H
  go_enter Try.func45, Try.ntmps45
  go_wp2
  go_ret
  exact ⟨rS, tD⟩

/-! ### spec_DrawBraidPassport: function 11 -/
def spec_DrawBraidPassport.f (k : Nat) (l0 : List Int) : Option ((List (List Int)) × Int) := (spec_l1New.f k l0).bind fun bt485 => ((spec_l10Draw.f k bt485.1 bt485.2.1 bt485.2.2).bind fun bt489 => ((spec_l1Below.f bt485.1 bt489.2.1 bt489.2.2 (bt489.1.length : Int)).bind fun bt494 => ((spec_l1Once.f bt485.1 bt494.2.1 bt494.2.2 12).bind fun bt497 => ((spec_l1Bit.f bt497.1).bind fun t500 => (some (bt489.1, wrap64 (bt494.1 - t500)))))))
set_option maxHeartbeats 8000000 in
set_option maxRecDepth 100000 in
theorem spec_DrawBraidPassport.calls (k : Nat) (A0 : Option Addr) (c0 : Nat) (l0 : List Int) (r1 : List (List Int)) (r2 : Int) (w : World) (hr0 : Kd.C (Kd.int .u8) w A0 l0.length l0) (hc0 : l0.length ≤ c0) (h : spec_DrawBraidPassport.f k l0 = some (r1, r2)) :
  Calls Try.prog 11 #[.slice A0 l0.length c0] w fun e w' => ∃ v0_ : Value, e = .returned (.tuple #[v0_, .int .i64 r2]) ∧ Kd.S (Kd.slice 3 (Kd.int .i64)) 35 w' w.heap.size (fun _ => True) v0_ r1 ∧ Below w.heap.size w w' := by
 have HR0 := Aside0.mk hr0
 have HC0 := Aside0.mk hc0
 clear hr0 hc0
 have HB := Aside0.mk (Below.refl w.heap.size w)
 have H : ((spec_l1New.f k l0).bind fun bt485 => ((spec_l10Draw.f k bt485.1 bt485.2.1 bt485.2.2).bind fun bt489 => ((spec_l1Below.f bt485.1 bt489.2.1 bt489.2.2 (bt489.1.length : Int)).bind fun bt494 => ((spec_l1Once.f bt485.1 bt494.2.1 bt494.2.2 12).bind fun bt497 => ((spec_l1Bit.f bt497.1).bind fun t500 => (some (bt489.1, wrap64 (bt494.1 - t500)))))))) = some (r1, r2) := h
 clear h
 obtain ⟨⟨t485, t486, t487⟩, A2, H⟩ := bs H
 try dsimp only at H
 obtain ⟨⟨t489, t492, t493⟩, A3, H⟩ := bs H
 try dsimp only at H
 obtain ⟨⟨t494, t495, t496⟩, A4, H⟩ := bs H
 try dsimp only at H
 obtain ⟨⟨t497, t498, t499⟩, A5, H⟩ := bs H
 try dsimp only at H
 obtain ⟨t500, A6, H⟩ := bs H
 simp only [Option.some.injEq, Prod.mk.injEq] at H
 obtain ⟨rfl, rfl⟩ := H
 go_enter Try.func11, Try.ntmps11
 go_wp2_with (first | (refine gL 28 (some 7) Try.func28 #[.slice A0 l0.length c0] ?_; (with_reducible refine (spec_l1New.calls k _ _ l0 t485 t486 t487 w _ ?side1 ?side2 ?side3 A2.out).mono ?_); (case side1 => exact tb); (case side2 => exact HR0.out); (case side3 => exact HC0.out); rintro e w7 ⟨g488, rfl, hi, hb, hb2⟩; refine ⟨_, rfl, ?_⟩; replace HB := Aside0.mk (hb); have HI488 := Aside0.mk (hi)) | (refine gL 27 (some 9) Try.func27 #[.pointer (some ⟨g488, 0, none⟩)] ?_; (with_reducible refine (spec_l10Draw.calls k g488 t485 t486 t487 t489 t492 t493 w _ ?side1 ?side2 A3.out).mono ?_); (case side1 => repeat (first | (with_reducible first | exact HI488.out | apply IsS66.alloc | apply IsS66.drewN | apply IsS66.drew | apply IsS66.set_1 | apply IsS66.set_2) | exact HI488.out)); (case side2 => repeat (first | (with_reducible first | exact HB.out | apply below_alloc | apply pw_below_drewN | apply below_drew1 | refine below_set ?_ (IsS66.ge HI488.out)) | exact HB.out)); rintro e w8 ⟨v490, rfl, ho0, hi, hb, hk⟩; refine ⟨_, rfl, ?_⟩; have HO491 := Aside0.mk (Kd.S_lower ho0 (below_size (by repeat (first | (with_reducible first | exact HB.out | apply below_alloc | apply pw_below_drewN | apply below_drew1 | refine below_set ?_ (IsS66.ge HI488.out)) | exact HB.out)))); replace HB := Aside0.mk (hb); replace HI488 := Aside0.mk (hi); obtain ⟨Ao9, co9, eo9⟩ := Kd.S_slice HO491.out; subst eo9) | (refine gL 44 (some 14) Try.func44 #[.pointer (some ⟨g488, 0, none⟩), .int .i64 (t489.length : Int)] ?_; (with_reducible refine (spec_l1Below.calls g488 t485 t492 t493 (t489.length : Int) t494 t495 t496 w _ ?side1 ?side2 A4.out).mono ?_); (case side1 => repeat (first | (with_reducible first | exact HI488.out | apply IsS66.alloc | apply IsS66.drewN | apply IsS66.drew | apply IsS66.set_1 | apply IsS66.set_2) | exact HI488.out)); (case side2 => repeat (first | (with_reducible first | exact HB.out | apply below_alloc | apply pw_below_drewN | apply below_drew1 | refine below_set ?_ (IsS66.ge HI488.out)) | exact HB.out)); rintro e w10 ⟨rfl, hi, hb, hk⟩; refine ⟨_, rfl, ?_⟩; replace HO491 := Aside0.mk (Kd.S_mono (Kd.S_keep (IsS66.apartS (show IsS66 w _ g488 t485 t492 t493 from by repeat (first | (with_reducible first | exact HI488.out | apply IsS66.alloc | apply IsS66.drewN | apply IsS66.drew | apply IsS66.set_1 | apply IsS66.set_2) | exact HI488.out)) (S_l HO491.out) (by decide)) hk (fun _ h => h.2)) (fun _ h => h.1)); replace HB := Aside0.mk (hb); replace HI488 := Aside0.mk (hi)) | (refine gL 32 (some 16) Try.func32 #[.pointer (some ⟨g488, 0, none⟩), .int .i64 12] ?_; (with_reducible refine (spec_l1Once.calls g488 t485 t495 t496 12 t497 t498 t499 w _ ?side1 ?side2 A5.out).mono ?_); (case side1 => repeat (first | (with_reducible first | exact HI488.out | apply IsS66.alloc | apply IsS66.drewN | apply IsS66.drew | apply IsS66.set_1 | apply IsS66.set_2) | exact HI488.out)); (case side2 => repeat (first | (with_reducible first | exact HB.out | apply below_alloc | apply pw_below_drewN | apply below_drew1 | refine below_set ?_ (IsS66.ge HI488.out)) | exact HB.out)); rintro e w11 ⟨rfl, hi, hb, hk⟩; refine ⟨_, rfl, ?_⟩; replace HO491 := Aside0.mk (Kd.S_mono (Kd.S_keep (IsS66.apartS (show IsS66 w _ g488 t485 t495 t496 from by repeat (first | (with_reducible first | exact HI488.out | apply IsS66.alloc | apply IsS66.drewN | apply IsS66.drew | apply IsS66.set_1 | apply IsS66.set_2) | exact HI488.out)) (S_l HO491.out) (by decide)) hk (fun _ h => h.2)) (fun _ h => h.1)); replace HB := Aside0.mk (hb); replace HI488 := Aside0.mk (hi)) | (refine gL 45 (some 17) Try.func45 #[.bool t497] ?_; (with_reducible refine (spec_l1Bit.calls t497 t500 _ A6.out).mono ?_); rintro e w' ⟨rfl, ⟨nd, rfl⟩⟩; refine ⟨_, rfl, ?_⟩))
 go_ret2
 exact ⟨_, rE, S_l HO491.out, by repeat (first | (with_reducible first | exact HB.out | apply below_alloc | apply pw_below_drewN | apply below_drew1 | refine below_set ?_ (IsS66.ge HI488.out)) | exact HB.out)⟩

end Go.Proofs.Ytkbkkpgllphdhaa.PFnBranches
