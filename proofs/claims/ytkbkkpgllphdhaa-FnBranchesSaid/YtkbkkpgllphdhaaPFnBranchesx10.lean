import Derived.Test.YtkbkkpgllphdhaaWSpan
import Derived.Test.YtkbkkpgllphdhaaWLater
import Derived.Test.YtkbkkpgllphdhaaPFnBranchesx0
import Derived.Test.YtkbkkpgllphdhaaPFnBranchesx2
import Derived.Test.YtkbkkpgllphdhaaPFnBranchesx3
import Derived.Test.YtkbkkpgllphdhaaPFnBranchesx4
import Derived.Test.YtkbkkpgllphdhaaPFnBranchesx7
import Derived.Test.YtkbkkpgllphdhaaPFnBranchesx8
import Derived.Test.YtkbkkpgllphdhaaPFnBranchesx9
namespace Go.Proofs.Ytkbkkpgllphdhaa.PFnBranches
open Go.RowKit Go.Proofs.YtkbkkpgllphdhaaW.PrintWords Go.Proofs.YtkbkkpgllphdhaaW.PrintLast Go.Proofs.YtkbkkpgllphdhaaW.PrintMore
attribute [local go_sem] max2_int min2_int max_two min_two max_three min_three max_four min_four   -- for this text's walks alone
set_option linter.unusedVariables false
set_option linter.unusedSimpArgs false

/-! ### impl_BranchCover: function 6 -/
def impl_BranchCover.j0 : Nat → List (List Int) → Bool → Option (Int × Int × Int × Bool)
 | 0, _, _ => none
 | k + 1, x0, x12 => if x12 = true then (some (0, 0, 0, false)) else (if 0 < (x0.length : Int) then ((impl_BranchSum.f k x0).bind fun t358 => ((impl_surfaceWith.f (wrap64 ((wrap64 (2 * ((rd_L3 x0 0).length : Int))) - t358)) 0 true).bind fun bt359 => (some (bt359.1, bt359.2.1, bt359.2.2.1, bt359.2.2.2)))) else (none))
def impl_BranchCover.f (k : Nat) (l0 : List (List Int)) : Option (Int × Int × Int × Bool) := (impl_IsPassport.f k l0).bind fun t353 => (if t353 = true then ((impl_parts.f k l0).bind fun t354 => (impl_BranchCover.j0 k l0 ((t354.length : Int) != 1))) else (impl_BranchCover.j0 k l0 true))
def impl_BranchCover.T3 : Bool × List (List Nat × List Nat) := (true, [([], []), ([0], [0]), ([1], [1]), ([2], [2]), ([3], [3]), ([], []), ([5], [5]), ([4, 6], [4, 6]), ([7, 6], [7]), ([8], [8]), ([8], [8]), ([9, 8, 0, 1, 2, 3, 4, 5, 6, 7, 8, 9, 10], [9]), ([10, 11, 0, 1, 2, 3, 4, 5, 6, 7, 8, 9, 10, 11], [10])])
def impl_BranchCover.B3 : List Nat := [0, 1, 3, 7, 15, 0, 32, 127, 255, 511, 511, 2047, 4095]
theorem impl_BranchCover.tab3 : rtab .any (opsOf Try.f6 3) = impl_BranchCover.T3 := by kernel_rfl
theorem impl_BranchCover.bits3 : waitsOk impl_BranchCover.T3.2 impl_BranchCover.B3 = true := by kernel_rfl
set_option maxHeartbeats 8000000 in
set_option maxRecDepth 100000 in
theorem impl_BranchCover.calls (k : Nat) (A0 : Option Addr) (c0 : Nat) (l0 : List (List Int)) (r1 : Int) (r2 : Int) (r3 : Int) (r4 : Bool) (w : World) (hr0 : Kd.C (Kd.slice 3 (Kd.int .i64)) w A0 l0.length l0) (hc0 : l0.length ≤ c0) (h : impl_BranchCover.f k l0 = some (r1, r2, r3, r4)) :
  Calls Try.prog 6 #[.slice A0 l0.length c0] w fun e w' => e = .returned (.tuple #[.agg #[.int .i64 r1, .int .i64 r2, .int .i64 r3], .bool r4]) ∧ Below w.heap.size w w' := by
 have hu27 := Try.underlying27
 have HR0 := Aside0.mk hr0
 have HC0 := Aside0.mk hc0
 clear hr0 hc0
 have HB := Aside0.mk (Below.refl w.heap.size w)
 have H : ((impl_IsPassport.f k l0).bind fun t353 => (if t353 = true then ((impl_parts.f k l0).bind fun t354 => (impl_BranchCover.j0 k l0 ((t354.length : Int) != 1))) else (impl_BranchCover.j0 k l0 true))) = some (r1, r2, r3, r4) := h
 clear h
 have HC2 := Aside0.mk H
 clear H
 go_enter Try.func6, Try.ntmps6
 go_upto_region 1 with (first | ((with_reducible refine gate_dst (N := 2) rfl ?_); (try (refine gate_guard (by rfl) ?_; dsimp only)); refine box_event ?hg (N := 2) ?hd (cs := #[.int .i64 0, .int .i64 0, .int .i64 0]) (t := 27) ?hr ?_; (case hd => rfl); (case hg => rfl); (case hr => exact gS); intro gb352 hg w3 hbox hb; have BK352 := Aside0.mk (hbox); have GW352 := Aside0.mk ((by rw [hg]; exact (zB HB) : w.heap.size ≤ gb352)); have GE352 := Aside0.mk ((by rw [hg]; exact (zB HB) : w.heap.size ≤ gb352)); replace HB := Aside0.mk (zS HB hb); clear hb hbox hg))
 (try simp only [Act.put, List.setIfInBounds_toArray, List.set_cons_zero, List.set_cons_succ])
 go_cut [12] (fun v12 wc => ∃ (kq : Nat) (x12_1 : Bool), v12 = .bool x12_1 ∧ Aside0 (impl_BranchCover.j0 kq l0 x12_1 = some (r1, r2, r3, r4)) ∧ Aside0 (kq ≤ k) ∧ Aside0 (wc.heap[gb352]? = some (.cells #[.int .i64 0, .int .i64 0, .int .i64 0] 27 (0, 0))) ∧ Aside0 (Below w.heap.size w wc))
 case first =>
  have H := HC2.out
  clear HC2
  obtain ⟨t353, A4, H⟩ := bs H
  by_cases c5 : t353 = true
  ·subst c5
   rw [if_pos rfl] at H
   obtain ⟨t354, A6, H⟩ := bs H
   have H' := Aside0.mk H
   clear H
   go_wp2_with (first | (refine gL 18 (some 5) Try.func18 #[.slice A0 l0.length c0] ?_; (with_reducible refine (impl_IsPassport.calls k _ _ l0 true _ ?side1 ?side2 A4.out).mono ?_); (case side1 => exact C_l (Kd.C_below HR0.out HB.out)); (case side2 => exact HC0.out); rintro e w7 ⟨rfl, hb⟩; refine ⟨_, rfl, ?_⟩; replace BK352 := Aside0.mk (blk_below (g := gb352) (o := .cells #[.int .i64 0, .int .i64 0, .int .i64 0] 27 (0, 0)) (by (with_reducible repeat (first | refine blk_drewN ?_ _ | refine blk_drew ?_ | refine blk_alloc ?_ _)); exact BK352.out) hb); replace HB := Aside0.mk (below_step (by repeat (first | (with_reducible first | exact HB.out | apply below_alloc | apply pw_below_drewN | apply below_drew1 | refine below_set ?_ GE352.out) | exact HB.out)) hb)) | (go_at_call 29; (with_reducible refine (impl_parts.calls k _ _ l0 t354 _ ?side1 ?side2 A6.out).mono ?_); (case side1 => exact C_l (Kd.C_below HR0.out HB.out)); (case side2 => exact HC0.out); rintro e w8 ⟨v355, rfl, ho0, hb⟩; have HO356 := Aside0.mk (Kd.S_lower ho0 (below_size (by repeat (first | (with_reducible first | exact HB.out | apply below_alloc | apply pw_below_drewN | apply below_drew1 | refine below_set ?_ GE352.out) | exact HB.out)))); replace BK352 := Aside0.mk (blk_below (g := gb352) (o := .cells #[.int .i64 0, .int .i64 0, .int .i64 0] 27 (0, 0)) (by (with_reducible repeat (first | refine blk_drewN ?_ _ | refine blk_drew ?_ | refine blk_alloc ?_ _)); exact BK352.out) hb); replace HB := Aside0.mk (below_step (by repeat (first | (with_reducible first | exact HB.out | apply below_alloc | apply pw_below_drewN | apply below_drew1 | refine below_set ?_ GE352.out) | exact HB.out)) hb); obtain ⟨Ao9, co9, eo9⟩ := Kd.S_slice HO356.out; subst eo9))
   go_meet
   case rel => exact ⟨_, (((t354.length : Int) != 1)), rS, H', ⟨by first | omega | exact Nat.le_refl _⟩, ⟨by (with_reducible repeat (first | refine blk_drewN ?_ _ | refine blk_drew ?_ | refine blk_alloc ?_ _)); exact BK352.out⟩, ⟨by repeat (first | (with_reducible first | exact HB.out | apply below_alloc | apply pw_below_drewN | apply below_drew1 | refine below_set ?_ GE352.out) | exact HB.out)⟩⟩
  ·replace c5 := Bool.eq_false_iff.mpr c5
   subst c5
   rw [if_neg (show ¬ (false = true) by decide)] at H
   have H' := Aside0.mk H
   clear H
   go_wp2_with (first | (refine gL 18 (some 5) Try.func18 #[.slice A0 l0.length c0] ?_; (with_reducible refine (impl_IsPassport.calls k _ _ l0 false _ ?side1 ?side2 A4.out).mono ?_); (case side1 => exact C_l (Kd.C_below HR0.out HB.out)); (case side2 => exact HC0.out); rintro e w10 ⟨rfl, hb⟩; refine ⟨_, rfl, ?_⟩; replace BK352 := Aside0.mk (blk_below (g := gb352) (o := .cells #[.int .i64 0, .int .i64 0, .int .i64 0] 27 (0, 0)) (by (with_reducible repeat (first | refine blk_drewN ?_ _ | refine blk_drew ?_ | refine blk_alloc ?_ _)); exact BK352.out) hb); replace HB := Aside0.mk (below_step (by repeat (first | (with_reducible first | exact HB.out | apply below_alloc | apply pw_below_drewN | apply below_drew1 | refine below_set ?_ GE352.out) | exact HB.out)) hb)))
   go_meet
   case rel => exact ⟨_, (true), rS, H', ⟨by first | omega | exact Nat.le_refl _⟩, ⟨by (with_reducible repeat (first | refine blk_drewN ?_ _ | refine blk_drew ?_ | refine blk_alloc ?_ _)); exact BK352.out⟩, ⟨by repeat (first | (with_reducible first | exact HB.out | apply below_alloc | apply pw_below_drewN | apply below_drew1 | refine below_set ?_ GE352.out) | exact HB.out)⟩⟩
 case rest =>
  clear HC2
  try clear c1
  try clear p2
  try clear c5
  try clear c6
  obtain ⟨kq, x12_1, rfl, HA, HJ1, BK352, HB⟩ := hcut
  cases kq with
  | zero => exact absurd HA.out (by simp [impl_BranchCover.j0])
  | succ kj1 =>
   have H := HA.out
   clear HA
   simp only [impl_BranchCover.j0] at H
   by_cases c11 : x12_1 = true
   ·subst c11
    rw [if_pos rfl] at H
    simp only [Option.some.injEq, Prod.mk.injEq] at H
    obtain ⟨rfl, rfl, rfl, rfl⟩ := H
    have hcz12_0 : wc.cell? ⟨gb352, 0, none⟩ = some (.int .i64 0) := (blk_cell BK352.out 0).trans rfl
    have hcz12_1 : wc.cell? ⟨gb352, 1, none⟩ = some (.int .i64 0) := (blk_cell BK352.out 1).trans rfl
    have hcz12_2 : wc.cell? ⟨gb352, 2, none⟩ = some (.int .i64 0) := (blk_cell BK352.out 2).trans rfl
    have hfz12_0 := blk_frozen BK352.out 0
    have hfz12_1 := blk_frozen BK352.out 1
    have hfz12_2 := blk_frozen BK352.out 2
    go_wp2
    refine bodyPost_ret (results_ct rfl _ _ gb352 27 #[.int .i64 0, .int .i64 0, .int .i64 0] (0, 0) _ rfl (by (with_reducible repeat (first | refine blk_drewN ?_ _ | refine blk_drew ?_ | refine blk_alloc ?_ _)); refine blk_put (cs := #[.int .i64 0, .int .i64 0, .int .i64 0]) ?_ 2 _ rfl; (with_reducible repeat (first | refine blk_drewN ?_ _ | refine blk_drew ?_ | refine blk_alloc ?_ _)); refine blk_put (cs := #[.int .i64 0, .int .i64 0, .int .i64 0]) ?_ 1 _ rfl; (with_reducible repeat (first | refine blk_drewN ?_ _ | refine blk_drew ?_ | refine blk_alloc ?_ _)); refine blk_put (cs := #[.int .i64 0, .int .i64 0, .int .i64 0]) ?_ 0 _ rfl; (with_reducible repeat (first | refine blk_drewN ?_ _ | refine blk_drew ?_ | refine blk_alloc ?_ _)); exact BK352.out) Try.underlying27 rfl (by kernel_rfl)) rfl ?_
    exact ⟨rE, by repeat (first | (with_reducible first | exact HB.out | apply below_alloc | apply pw_below_drewN | apply below_drew1 | refine below_set ?_ GE352.out) | exact HB.out)⟩
   ·replace c11 := Bool.eq_false_iff.mpr c11
    subst c11
    rw [if_neg (show ¬ (false = true) by decide)] at H
    by_cases c13 : 0 < (l0.length : Int)
    ·rw [if_pos c13] at H
     have c13b0 : decide (0 < (l0.length : Int)) = true := decide_eq_true c13
     have c13b1 : decide (0 < l0.length) = true := decide_eq_true (by omega)
     clear c13
     obtain ⟨t358, A14, H⟩ := bs H
     obtain ⟨⟨t359, t360, t361, t362⟩, A15, H⟩ := bs H
     try dsimp only at H
     simp only [Option.some.injEq, Prod.mk.injEq] at H
     obtain ⟨rfl, rfl, rfl, rfl⟩ := H
     try go_wp2
     replace BK352 := Aside0.mk (blk_drew BK352.out); replace HB := Aside0.mk (below_drew1 HB.out)
     have p357 : 0 ≤ (0 : Int) := (by omega)
     have q357 : 0 < (l0.length : Int) := dT
     obtain ⟨ad357, A357_0, c357_0, e357, hx357_0, hl357_0, hi357_0⟩ := at_L3 HR0.out 0 p357 q357
     have hw357_0 := hx357_0
     (try rw [show ((0 : Int)).toNat = 0 from rfl] at hw357_0)
     (try rw [show 0 * 1 = 0 from rfl] at hw357_0)
     (try rw [Addr.add_zero'] at hw357_0)
     cases e357
     have qi357 : (0 < l0.length) = True := eq_true (by omega)
     (try rw [show ((0 : Int)).toNat = 0 from rfl] at hx357_0)
     (try rw [Addr.add_zero'] at hx357_0)
     replace hx357_0 := cB HB hx357_0
     have HR357_0 := Aside0.mk hi357_0
     have HC357_0 := Aside0.mk hl357_0
     clear hi357_0 hl357_0
     replace p357 := eq_true p357
     replace q357 := eq_true q357
     refine start_ (n := 13) (S := fun w' => w'.cell? ad357 = some (.slice A357_0 (rd_L3 l0 0).length c357_0)) (ds := []) #[false, false, false, false, false, false, false, false, false, false, false, false, false] (by kernel_rfl) rfl rfl (((HB.out.cell (World.block_lt_of_cell? w _ hw357_0)).trans hw357_0)) (fun hHeld => ?_); refine with_tabW impl_BranchCover.tab3 impl_BranchCover.bits3 (fun HT_ HW_ => ?_)
     generalize wc.drew = w16 at BK352 HB HR357_0 hx357_0 hHeld ⊢
     refine pu_ 0 (some 14) ?_
     refine pu_ 1 (some 15) ?_
     refine pu_ 5 (some 19) ?_
     refine take_ (i := 2) (N := some 16) (v := ?_) (a' := ?_) #[true, true, true, false, false, true, false, false, false, false, false, false, false] rfl rfl (take_ofW HT_.out HW_.out (by kernel_rfl)) (fun _ _ _ h => h) (Or.inl ⟨by rfl, ?_⟩) hHeld ?_ ?_
     rotate_left
     ·intro w' s0
      go_simp
      with_reducible rfl
     rotate_left
     ·simp only [Act.put, List.setIfInBounds_toArray, List.set_cons_zero, List.set_cons_succ, i64_w, i32_w]
      rfl
     refine pu_ 3 (some 17) ?_
     refine pu_ 4 (some 18) ?_
     refine one_ (i := 6) (N := some 20) #[true, true, true, true, true, true, true, false, false, false, false, false, false] rfl rfl (one_of HT_.out (by kernel_rfl)) (by decide) (fun K hK => ?_)
     refine goes_ Try.func20 (by kernel_rfl) rfl #[.slice (some ad357) l0.length c0] (by rfl) rfl rfl mp_ ?_
     with_reducible refine (impl_BranchSum.calls kj1 _ _ l0 t358 _ ?side1 ?side2 A14.out).mono ?_
     (case side1 => exact C_l (Kd.C_below HR0.out HB.out))
     (case side2 => exact HC0.out)
     rintro e w17 ⟨rfl, hb⟩
     refine ⟨_, rfl, ?_⟩
     replace BK352 := Aside0.mk (blk_below (g := gb352) (o := .cells #[.int .i64 0, .int .i64 0, .int .i64 0] 27 (0, 0)) (by (with_reducible repeat (first | refine blk_drewN ?_ _ | refine blk_drew ?_ | refine blk_alloc ?_ _)); exact BK352.out) hb); replace HB := Aside0.mk (below_step (by repeat (first | (with_reducible first | exact HB.out | apply below_alloc | apply pw_below_drewN | apply below_drew1 | refine below_set ?_ GE352.out) | exact HB.out)) hb)
     (try clear hb)
     (try clear hb2)
     (try clear hk)
     (try clear hi)
     refine hK.out _ _ (((HB.out.cell (World.block_lt_of_cell? w _ hw357_0)).trans hw357_0)) (fun hHeld => ?_)
     clear hK K
     refine norm_ (a' := ?_) ?_ ?_
     rotate_left
     ·show Act.put _ (some 20) _ = _
      simp only [Act.put, List.setIfInBounds_toArray, List.set_cons_zero, List.set_cons_succ, i64_w, i32_w]
      rfl
     refine pu_ 7 (some 21) ?_
     refine one_ (i := 8) (N := some 22) #[true, true, true, true, true, true, true, true, true, false, false, false, false] rfl rfl (one_of HT_.out (by kernel_rfl)) (by decide) (fun K hK => ?_)
     refine goes_ Try.func30 (by kernel_rfl) rfl #[.int .i64 (wrap64 ((wrap64 (2 * ((rd_L3 l0 0).length : Int))) - t358)), .int .i64 0, .bool true] (by rfl) rfl rfl mp_ ?_
     with_reducible refine (impl_surfaceWith.calls (wrap64 ((wrap64 (2 * ((rd_L3 l0 0).length : Int))) - t358)) 0 true t359 t360 t361 t362 _ A15.out).mono ?_
     rintro e w18 ⟨rfl, hb⟩
     refine ⟨_, rfl, ?_⟩
     replace BK352 := Aside0.mk (blk_below (g := gb352) (o := .cells #[.int .i64 0, .int .i64 0, .int .i64 0] 27 (0, 0)) (by (with_reducible repeat (first | refine blk_drewN ?_ _ | refine blk_drew ?_ | refine blk_alloc ?_ _)); exact BK352.out) hb); replace HB := Aside0.mk (below_step (by repeat (first | (with_reducible first | exact HB.out | apply below_alloc | apply pw_below_drewN | apply below_drew1 | refine below_set ?_ GE352.out) | exact HB.out)) hb)
     (try clear hb)
     (try clear hb2)
     (try clear hk)
     (try clear hi)
     refine hK.out _ _ (((HB.out.cell (World.block_lt_of_cell? w _ hw357_0)).trans hw357_0)) (fun hHeld => ?_)
     clear hK K
     refine norm_ (a' := ?_) ?_ ?_
     rotate_left
     ·show Act.put _ (some 22) _ = _
      simp only [Act.put, List.setIfInBounds_toArray, List.set_cons_zero, List.set_cons_succ, i64_w, i32_w]
      rfl
     refine pu_ 9 (some 23) ?_
     refine pu_ 10 (some 24) ?_
     refine one_ (i := 11) (N := none) #[true, true, true, true, true, true, true, true, true, true, true, true, false] rfl rfl (one_of HT_.out (by kernel_rfl)) (by decide) (fun K hK => ?_)
     have hs19 : w18.cell? ⟨gb352, 0, none⟩ = some (.int .i64 0) := (blk_cell BK352.out 0).trans rfl
     have hfs19 := blk_frozen BK352.out 0
     have hs20 : w18.cell? ⟨gb352, 1, none⟩ = some (.int .i64 0) := (blk_cell BK352.out 1).trans rfl
     have hfs20 := blk_frozen BK352.out 1
     have hs21 : w18.cell? ⟨gb352, 2, none⟩ = some (.int .i64 0) := (blk_cell BK352.out 2).trans rfl
     have hfs21 := blk_frozen BK352.out 2
     refine skip_ (w1 := ?_) (by rfl) rfl ?_ ?_
     rotate_left
     ·go_simp
      rfl
     refine hK.out _ _ (((cell_far (p := ⟨gb352, _, none⟩) (by first | exact Nat.ne_of_lt (Nat.lt_of_lt_of_le (by have := World.block_lt_of_cell? _ _ hw357_0; first | rwa [add_block] at this | exact this) GW352.out) | (rw [add_block]; exact Nat.ne_of_lt (Nat.lt_of_lt_of_le (by have := World.block_lt_of_cell? _ _ hw357_0; first | rwa [add_block] at this | exact this) GW352.out)) | (show (Addr.add _ _).block ≠ _; rw [add_block]; exact Nat.ne_of_lt (Nat.lt_of_lt_of_le (by have := World.block_lt_of_cell? _ _ hw357_0; first | rwa [add_block] at this | exact this) GW352.out)) | (dsimp only; exact Nat.ne_of_lt (Nat.lt_of_lt_of_le (by have := World.block_lt_of_cell? _ _ hw357_0; first | rwa [add_block] at this | exact this) GW352.out))) _).trans (((cell_far (p := ⟨gb352, _, none⟩) (by first | exact Nat.ne_of_lt (Nat.lt_of_lt_of_le (by have := World.block_lt_of_cell? _ _ hw357_0; first | rwa [add_block] at this | exact this) GW352.out) | (rw [add_block]; exact Nat.ne_of_lt (Nat.lt_of_lt_of_le (by have := World.block_lt_of_cell? _ _ hw357_0; first | rwa [add_block] at this | exact this) GW352.out)) | (show (Addr.add _ _).block ≠ _; rw [add_block]; exact Nat.ne_of_lt (Nat.lt_of_lt_of_le (by have := World.block_lt_of_cell? _ _ hw357_0; first | rwa [add_block] at this | exact this) GW352.out)) | (dsimp only; exact Nat.ne_of_lt (Nat.lt_of_lt_of_le (by have := World.block_lt_of_cell? _ _ hw357_0; first | rwa [add_block] at this | exact this) GW352.out))) _).trans (((cell_far (p := ⟨gb352, _, none⟩) (by first | exact Nat.ne_of_lt (Nat.lt_of_lt_of_le (by have := World.block_lt_of_cell? _ _ hw357_0; first | rwa [add_block] at this | exact this) GW352.out) | (rw [add_block]; exact Nat.ne_of_lt (Nat.lt_of_lt_of_le (by have := World.block_lt_of_cell? _ _ hw357_0; first | rwa [add_block] at this | exact this) GW352.out)) | (show (Addr.add _ _).block ≠ _; rw [add_block]; exact Nat.ne_of_lt (Nat.lt_of_lt_of_le (by have := World.block_lt_of_cell? _ _ hw357_0; first | rwa [add_block] at this | exact this) GW352.out)) | (dsimp only; exact Nat.ne_of_lt (Nat.lt_of_lt_of_le (by have := World.block_lt_of_cell? _ _ hw357_0; first | rwa [add_block] at this | exact this) GW352.out))) _).trans (hHeld))))))) (fun hHeld => ?_)
     clear hK K
     refine pu_ 12 (some 3) ?_
     refine done_ (done_of HT_.out (by kernel_rfl)) ?_
     try go_wp2
     refine bodyPost_ret (results_ct rfl _ _ gb352 27 #[.int .i64 t359, .int .i64 t360, .int .i64 t361] (0, 0) _ rfl (by (with_reducible repeat (first | refine blk_drewN ?_ _ | refine blk_drew ?_ | refine blk_alloc ?_ _)); refine blk_put (cs := #[.int .i64 t359, .int .i64 t360, .int .i64 0]) ?_ 2 _ rfl; (with_reducible repeat (first | refine blk_drewN ?_ _ | refine blk_drew ?_ | refine blk_alloc ?_ _)); refine blk_put (cs := #[.int .i64 t359, .int .i64 0, .int .i64 0]) ?_ 1 _ rfl; (with_reducible repeat (first | refine blk_drewN ?_ _ | refine blk_drew ?_ | refine blk_alloc ?_ _)); refine blk_put (cs := #[.int .i64 0, .int .i64 0, .int .i64 0]) ?_ 0 _ rfl; (with_reducible repeat (first | refine blk_drewN ?_ _ | refine blk_drew ?_ | refine blk_alloc ?_ _)); exact BK352.out) Try.underlying27 rfl (by kernel_rfl)) rfl ?_
     exact ⟨rE, by repeat (first | (with_reducible first | exact HB.out | apply below_alloc | apply pw_below_drewN | apply below_drew1 | refine below_set ?_ GE352.out) | exact HB.out)⟩
    ·rw [if_neg c13] at H
     exact absurd H (by simp)

/-! ### spec_l9Whole: function 56 -/
def spec_l9Whole.l0 : Nat → List Int → Int → Option (Bool)
 | 0, _, _ => none
 | k + 1, x0, x3 => if x3 < (x0.length : Int) then (if 0 ≤ x3 then (if (rd x0 x3) = x3 then (spec_l9Whole.l0 k x0 (wrap64 (x3 + 1))) else (some false)) else (none)) else (some (decide ((x0.length : Int) > 0)))
def spec_l9Whole.f (k : Nat) (l0 : List Int) : Option (Bool) := spec_l9Whole.l0 k l0 0
set_option maxHeartbeats 8000000 in
set_option maxRecDepth 100000 in
theorem spec_l9Whole.calls (k : Nat) (A0 : Option Addr) (c0 : Nat) (l0 : List Int) (r : Bool) (w : World) (hr0 : Kd.C (Kd.int .i64) w A0 l0.length l0) (hc0 : l0.length ≤ c0) (h : spec_l9Whole.f k l0 = some r) :
  Calls Try.prog 56 #[.slice A0 l0.length c0] w fun e w' => e = .returned (.bool r) ∧ Drawn0 w w' := by
 have HR0 := Aside0.mk hr0
 have HC0 := Aside0.mk hc0
 clear hr0 hc0
 have H : (spec_l9Whole.l0 k l0 0) = some r := h
 clear h
 have H' := Aside0.mk H
 clear H
 go_enter Try.func56, Try.ntmps56
 go_wp2
 go_loopg [3] k (fun kq v3 w' => ∃ (x3_1 : Int), v3 = .int .i64 x3_1 ∧ Aside0 (spec_l9Whole.l0 kq l0 x3_1 = some r) ∧ Aside0 (kq ≤ k) ∧ Drawn0 w w')
 case atStart => exact ⟨(0), rS, H', ⟨Nat.le_refl _⟩, tD⟩
 case round =>
  clear H'
  obtain ⟨x3_1, rfl, HA, HK1, ⟨m1, rfl⟩⟩ := hrel
  cases gk with
  | zero => exact absurd HA.out (by simp [spec_l9Whole.l0])
  | succ k1 =>
   have H := HA.out
   clear HA
   simp only [spec_l9Whole.l0] at H
   obtain ⟨c2b0, H⟩ | ⟨c2b0, H⟩ := gi H
   ·obtain ⟨c3b0, H⟩ := gdt H
    by_cases c4 : (rd l0 x3_1) = x3_1
    ·rw [if_pos c4] at H
     have c4b0 : ((rd l0 x3_1) == x3_1) = true := beq_iff_eq.mpr c4
     have c4b1 : ((rd l0 x3_1) != x3_1) = false := bne_eq_false_iff_eq.mpr c4
     clear c4
     have H' := Aside0.mk H
     clear H
     have p363 : 0 ≤ (x3_1 : Int) := dT
     have q363 : x3_1 < (l0.length : Int) := dT
     obtain ⟨ad363, e363, hx363_0⟩ := Kd.at_int HR0.out x3_1 p363 q363
     cases e363
     replace p363 := eq_true p363
     replace q363 := eq_true q363
     go_wp2
     go_roundg k1
     case measure => exact oK
     case rel => exact ⟨(wrap64 (x3_1 + 1)), rS, H', ⟨oK⟩, tD⟩
    ·rw [if_neg c4] at H
     have c4b0 : ((rd l0 x3_1) == x3_1) = false := beq_eq_false_iff_ne.mpr c4
     have c4b1 : ((rd l0 x3_1) != x3_1) = true := bne_iff_ne.mpr c4
     obtain rfl := Option.some.inj H
     have p363 : 0 ≤ (x3_1 : Int) := dT
     have q363 : x3_1 < (l0.length : Int) := dT
     obtain ⟨ad363, e363, hx363_0⟩ := Kd.at_int HR0.out x3_1 p363 q363
     cases e363
     replace p363 := eq_true p363
     replace q363 := eq_true q363
     go_wp2
     go_ret
     exact ⟨rS, tD⟩
   ·obtain rfl := Option.some.inj H
    go_wp2
    go_ret
    exact ⟨rS, tD⟩

/-! ### spec_IsPassport: function 19 -/
def spec_IsPassport.f (k : Nat) (l0 : List (List Int)) : Option (Bool) := (spec_l1In.f (l0.length : Int) 1 5).bind fun t364 => (if t364 = true then ((spec_l9Perms.f k l0).bind fun t365 => (if t365 = true then ((spec_l10Letters.f k (l0.length : Int)).bind fun t366 => ((spec_ActWord.f k l0 t366).bind fun t369 => ((spec_l9Whole.f k t369).bind fun t372 => (some t372)))) else (some false))) else (some false))
set_option maxHeartbeats 8000000 in
set_option maxRecDepth 100000 in
theorem spec_IsPassport.calls (k : Nat) (A0 : Option Addr) (c0 : Nat) (l0 : List (List Int)) (r : Bool) (w : World) (hr0 : Kd.C (Kd.slice 3 (Kd.int .i64)) w A0 l0.length l0) (hc0 : l0.length ≤ c0) (h : spec_IsPassport.f k l0 = some r) :
  Calls Try.prog 19 #[.slice A0 l0.length c0] w fun e w' => e = .returned (.bool r) ∧ Below w.heap.size w w' := by
 have HR0 := Aside0.mk hr0
 have HC0 := Aside0.mk hc0
 clear hr0 hc0
 have HB := Aside0.mk (Below.refl w.heap.size w)
 have H : ((spec_l1In.f (l0.length : Int) 1 5).bind fun t364 => (if t364 = true then ((spec_l9Perms.f k l0).bind fun t365 => (if t365 = true then ((spec_l10Letters.f k (l0.length : Int)).bind fun t366 => ((spec_ActWord.f k l0 t366).bind fun t369 => ((spec_l9Whole.f k t369).bind fun t372 => (some t372)))) else (some false))) else (some false))) = some r := h
 clear h
 obtain ⟨t364, A2, H⟩ := bs H
 by_cases c3 : t364 = true
 ·subst c3
  rw [if_pos rfl] at H
  obtain ⟨t365, A4, H⟩ := bs H
  by_cases c5 : t365 = true
  ·subst c5
   rw [if_pos rfl] at H
   obtain ⟨t366, A6, H⟩ := bs H
   obtain ⟨t369, A7, H⟩ := bs H
   obtain ⟨t372, A8, H⟩ := bs H
   obtain rfl := Option.some.inj H
   go_enter Try.func19, Try.ntmps19
   go_wp2_with (first | (refine gL 38 (some 5) Try.func38 #[.int .i64 (l0.length : Int), .int .i64 1, .int .i64 5] ?_; (with_reducible refine (spec_l1In.calls (l0.length : Int) 1 5 true _ A2.out).mono ?_); rintro e w' ⟨rfl, ⟨nd, rfl⟩⟩; refine ⟨_, rfl, ?_⟩) | (go_at_call 39; (with_reducible refine (spec_l9Perms.calls k _ _ l0 true _ ?side1 ?side2 A4.out).mono ?_); (case side1 => exact C_l HR0.out); (case side2 => exact HC0.out); rintro e w9 ⟨rfl, hb⟩; replace HB := Aside0.mk (zS HB hb)) | (go_at_call 42; (with_reducible refine (spec_l10Letters.calls k (l0.length : Int) t366 _ A6.out).mono ?_); rintro e w10 ⟨v367, rfl, ho0, hb⟩; have HO368 := Aside0.mk (Kd.R_lower ho0 (zB HB)); replace HB := Aside0.mk (zS HB hb); obtain ⟨Ao11, co11, eo11⟩ := Kd.R_slice HO368.out; subst eo11) | (go_at_call 41; (with_reducible refine (spec_ActWord.calls k _ _ l0 _ _ t366 t369 _ ?side1 ?side2 ?side3 ?side4 A7.out).mono ?_); (case side1 => exact C_l (Kd.C_below HR0.out HB.out)); (case side2 => exact HC0.out); (case side3 => exact C_l ((Kd.R_reads' HO368.out).2.2)); (case side4 => exact (Kd.R_reads' HO368.out).2.1); rintro e w12 ⟨v370, rfl, ho0, hb⟩; have HO371 := Aside0.mk (Kd.R_lower (Kd.R_new' ho0 (Kd.R_lt (R_l HO368.out))) (zB HB)); replace HO368 := Aside0.mk (Kd.R_elder' (R_l HO368.out) (Kd.R_base ho0) hb); replace HB := Aside0.mk (zS HB hb); obtain ⟨Ao13, co13, eo13⟩ := Kd.R_slice HO371.out; subst eo13) | (go_at_call 56; (with_reducible refine (spec_l9Whole.calls k _ _ t369 t372 _ ?side1 ?side2 A8.out).mono ?_); (case side1 => exact C_l ((Kd.R_reads' HO371.out).2.2)); (case side2 => exact (Kd.R_reads' HO371.out).2.1); rintro e w' ⟨rfl, ⟨nd, rfl⟩⟩))
   go_ret
   exact ⟨rE, B_l HB.out⟩
  ·replace c5 := Bool.eq_false_iff.mpr c5
   subst c5
   rw [if_neg (show ¬ (false = true) by decide)] at H
   obtain rfl := Option.some.inj H
   go_enter Try.func19, Try.ntmps19
   go_wp2_with (first | (refine gL 38 (some 5) Try.func38 #[.int .i64 (l0.length : Int), .int .i64 1, .int .i64 5] ?_; (with_reducible refine (spec_l1In.calls (l0.length : Int) 1 5 true _ A2.out).mono ?_); rintro e w' ⟨rfl, ⟨nd, rfl⟩⟩; refine ⟨_, rfl, ?_⟩) | (go_at_call 39; (with_reducible refine (spec_l9Perms.calls k _ _ l0 false _ ?side1 ?side2 A4.out).mono ?_); (case side1 => exact C_l HR0.out); (case side2 => exact HC0.out); rintro e w14 ⟨rfl, hb⟩; replace HB := Aside0.mk (zS HB hb)))
   go_ret
   exact ⟨rE, B_l HB.out⟩
 ·replace c3 := Bool.eq_false_iff.mpr c3
  subst c3
  rw [if_neg (show ¬ (false = true) by decide)] at H
  obtain rfl := Option.some.inj H
  go_enter Try.func19, Try.ntmps19
  go_wp2_with (first | (refine gL 38 (some 5) Try.func38 #[.int .i64 (l0.length : Int), .int .i64 1, .int .i64 5] ?_; (with_reducible refine (spec_l1In.calls (l0.length : Int) 1 5 false _ A2.out).mono ?_); rintro e w' ⟨rfl, ⟨nd, rfl⟩⟩; refine ⟨_, rfl, ?_⟩))
  go_ret
  exact ⟨rE, B_l HB.out⟩

/-! ### spec_l6Cycles: function 58 -/
mutual
def spec_l6Cycles.l0 : Nat → List Int → List (List Int) → List Bool → Int → Option ((List (List Int)))
 | 0, _, _, _, _ => none
 | k + 1, x0, x3, x4, x5 => if x5 < (x0.length : Int) then (if 0 ≤ x5 then (if x5 < (x4.length : Int) then (if rdOf false x4 x5 = true then (spec_l6Cycles.l0 k x0 x3 x4 (wrap64 (x5 + 1))) else (spec_l6Cycles.l1 k x0 x3 x4 x5 (([] : List Int)) x5)) else (none)) else (none)) else (some x3)
def spec_l6Cycles.l1 : Nat → List Int → List (List Int) → List Bool → Int → List Int → Int → Option ((List (List Int)))
 | 0, _, _, _, _, _, _ => none
 | k + 1, x0, x3, x4, x5, x6, x7 => if 0 ≤ x7 then (if x7 < (x4.length : Int) then (if rdOf false x4 x7 = true then (if x3.length < 5864062014805 then (spec_l6Cycles.l0 k x0 (x3 ++ [x6]) x4 (wrap64 (x5 + 1))) else (none)) else (if x6.length < 17592186044416 then (if x7 < (x0.length : Int) then (spec_l6Cycles.l1 k x0 x3 (x4.set (x7 : Int).toNat true) x5 (x6 ++ [x7]) (rd x0 x7)) else (none)) else (none))) else (none)) else (none)
end
def spec_l6Cycles.f (k : Nat) (l0 : List Int) : Option ((List (List Int))) := if 0 ≤ (l0.length : Int) then (if ((l0.length : Int) : Int).toNat ≤ 281474976710656 then (spec_l6Cycles.l0 k l0 (([] : List (List Int))) (List.replicate ((l0.length : Int) : Int).toNat false) 0) else (none)) else (none)
theorem spec_l6Cycles.mono_l : ∀ k, (∀ y0 y1 y2 y3, LeO (spec_l6Cycles.l0 k y0 y1 y2 y3) (spec_l6Cycles.l0 (k + 1) y0 y1 y2 y3)) ∧ (∀ y0 y1 y2 y3 y4 y5, LeO (spec_l6Cycles.l1 k y0 y1 y2 y3 y4 y5) (spec_l6Cycles.l1 (k + 1) y0 y1 y2 y3 y4 y5))
 | 0 => ⟨fun _ _ _ _ r h => by simp [spec_l6Cycles.l0] at h, fun _ _ _ _ _ _ r h => by simp [spec_l6Cycles.l1] at h⟩
 | k + 1 => by
  obtain ⟨ih0, ih1⟩ := spec_l6Cycles.mono_l k
  refine ⟨?_, ?_⟩
  ·intro y0 y1 y2 y3
   unfold spec_l6Cycles.l0
   exact mM2 ih0 ih1
  ·intro y0 y1 y2 y3 y4 y5
   unfold spec_l6Cycles.l1
   exact mM2 ih0 ih1
theorem spec_l6Cycles.mono : ∀ a0 k, LeO (spec_l6Cycles.f k a0) (spec_l6Cycles.f (k + 1) a0) := by
 intro a0 k
 obtain ⟨ih0, ih1⟩ := spec_l6Cycles.mono_l k
 unfold spec_l6Cycles.f
 exact mM2 ih0 ih1
set_option maxHeartbeats 8000000 in
set_option maxRecDepth 100000 in
theorem spec_l6Cycles.calls (k : Nat) (A0 : Option Addr) (c0 : Nat) (l0 : List Int) (r : List (List Int)) (w : World) (hr0 : Kd.C (Kd.int .i64) w A0 l0.length l0) (hc0 : l0.length ≤ c0) (h : spec_l6Cycles.f k l0 = some r) :
  Calls Try.prog 58 #[.slice A0 l0.length c0] w fun e w' => ∃ v0_ : Value, e = .returned (v0_) ∧ Kd.S (Kd.slice 3 (Kd.int .i64)) 35 w' w.heap.size (fun _ => True) v0_ r ∧ Below w.heap.size w w' := by
 have HR0 := Aside0.mk hr0
 have HC0 := Aside0.mk hc0
 clear hr0 hc0
 have HB := Aside0.mk (Below.refl w.heap.size w)
 have H : (if 0 ≤ (l0.length : Int) then (if ((l0.length : Int) : Int).toNat ≤ 281474976710656 then (spec_l6Cycles.l0 k l0 (([] : List (List Int))) (List.replicate ((l0.length : Int) : Int).toNat false) 0) else (none)) else (none)) = some r := h
 clear h
 generalize hy373 : (([] : List (List Int)) : List (List Int)) = y373 at H
 have Ny373 := Aside0.mk hy373.symm; clear hy373
 by_cases c2 : 0 ≤ (l0.length : Int)
 ·rw [if_pos c2] at H
  have c2b0 := eq_true c2
  have c2b1 : decide (0 ≤ (l0.length : Int)) = true := decide_eq_true c2
  clear c2
  obtain ⟨c3, H⟩ := gd H
  have c3b0 := eq_true c3
  have c3b1 : decide (((l0.length : Int) : Int).toNat ≤ 281474976710656) = true := decide_eq_true c3
  clear c3
  generalize hy376 : (List.replicate ((l0.length : Int) : Int).toNat false : List Bool) = y376 at H
  have Ny376 := Aside0.mk hy376.symm; clear hy376
  have H' := Aside0.mk H
  clear H
  go_enter Try.func58, Try.ntmps58
  go_wp2_with (first | ((with_reducible refine gate_dst (N := 8) rfl ?_); refine Kd.S_lit (Kd.slice 3 (Kd.int .i64)) _ 35 ?hg (N := 8) ?hd (xs := ([] : List (List Int))) (inner := []) (ok := fun _ => True) (okp := fun _ => True) ?hr ?hp (fun _ hk => hk) trivial (Below.refl _ _) (Nat.le_refl _) (by simp) ?_; (case hd => rfl); (case hg => rfl); (case hr => exact gS); (case hp => exact (Reps.none _ _)); intro v374 w4 ho5 hb hg_ hnew_; clear hg_ hnew_; (first | rw [← Ny373.out] at ho5 | (simp only [Int.reduceToNat] at ho5; rw [← Ny373.out] at ho5)); have HO375 := Aside0.mk (Kd.S_lower ho5 (zB HB)); replace HB := Aside0.mk (zS HB hb); clear hb ho5) | ((with_reducible refine gate_dst (N := 11) rfl ?_); refine Kd.R_make Kd.bool _ 4 rfl (N := 11) rfl 77 _ _ rfl (l0.length : Int) rfl rfl Try.underlying77 (.bool false) 1 info4 rfl (by decide) (by omega) false (ok := fun _ => True) (okp := fun _ => True) rfl (fun _ hk => hk) trivial dT (Nat.le_trans (Nat.mul_le_mul_right _ (dT : (l0.length : Int).toNat ≤ 281474976710656)) (by omega)) (Below.refl _ _) (Nat.le_refl _) ?_; intro v377 w6 ho7 hb hg_ hnew_; clear hg_ hnew_; (first | rw [← Ny376.out] at ho7 | (simp only [Int.reduceToNat] at ho7; rw [← Ny376.out] at ho7)); replace HO375 := Aside0.mk (Kd.S_below (S_l HO375.out) hb); have HO378 := Aside0.mk (Kd.R_lower ho7 (zB HB)); replace HB := Aside0.mk (zS HB hb); clear hb ho7))
  go_loopg [3, 5] k (fun kq v3 v5 w' => ∃ (x3_1 : List (List Int)) (x4_1 : List Bool) (x5_1 : Int), v5 = .int .i64 x5_1 ∧ Aside0 (spec_l6Cycles.l0 kq l0 x3_1 x4_1 x5_1 = some r) ∧ Aside0 (kq ≤ k) ∧ Aside0 (Kd.S (Kd.slice 3 (Kd.int .i64)) 35 w' w.heap.size (fun _ => True) v3 x3_1) ∧ Aside0 (Kd.R Kd.bool 4 w' w.heap.size (fun _ => True) v377 x4_1) ∧ Aside0 (Below w.heap.size w w'))
  case atStart => exact ⟨(y373), (y376), (0), rS, H', ⟨Nat.le_refl _⟩, ⟨S_l HO375.out⟩, ⟨R_l HO378.out⟩, ⟨B_l HB.out⟩⟩
  case round =>
   clear H'
   try clear c2
   try clear c2b0
   try clear c2b1
   try clear p2
   try clear c3
   try clear c3b0
   try clear c3b1
   try clear c5
   obtain ⟨x3_1, x4_1, x5_1, rfl, HA, HK1, HO_3, HO_4, HB⟩ := hrel
   cases gk with
   | zero => exact absurd HA.out (by simp [spec_l6Cycles.l0])
   | succ k1 =>
    have H := HA.out
    clear HA
    simp only [spec_l6Cycles.l0] at H
    obtain ⟨c8b0, H⟩ | ⟨c8b0, H⟩ := gi H
    ·obtain ⟨c9b0, H⟩ := gdt H
     obtain ⟨c10b0, H⟩ := gdt H
     obtain ⟨bq11, hbq11⟩ : ∃ b_ : Bool, b_ = (rdOf false x4_1 x5_1) := ⟨_, rfl⟩
     replace H : (if bq11 = true then (spec_l6Cycles.l0 k1 l0 x3_1 x4_1 (wrap64 (x5_1 + 1))) else (spec_l6Cycles.l1 k1 l0 x3_1 x4_1 x5_1 (([] : List Int)) x5_1)) = some r := by rw [← hbq11] at H; exact H
     have Nbq11 := Aside0.mk hbq11
     clear hbq11
     by_cases c12 : bq11 = true
     ·subst c12
      rw [if_pos rfl] at H
      have H' := Aside0.mk H
      clear H
      obtain ⟨Ao13, co13, eo13⟩ := Kd.R_slice HO_4.out
      subst eo13
      have p379 : 0 ≤ (x5_1 : Int) := dT
      have q379 : x5_1 < (x4_1.length : Int) := dT
      obtain ⟨ad379, e379, hx379_0⟩ := Kd.at_bool (Kd.R_reads' HO_4.out).2.2 x5_1 p379 q379
      (try rw [← Nbq11.out] at hx379_0)
      cases e379
      replace p379 := eq_true p379
      replace q379 := eq_true q379
      go_wp2
      go_roundg k1
      case measure => exact oK
      case rel => exact ⟨(x3_1), (x4_1), (wrap64 (x5_1 + 1)), rS, H', ⟨oK⟩, ⟨S_l HO_3.out⟩, ⟨R_l HO_4.out⟩, ⟨B_l HB.out⟩⟩
     ·replace c12 := Bool.eq_false_iff.mpr c12
      subst c12
      rw [if_neg (show ¬ (false = true) by decide)] at H
      generalize hy380 : (([] : List Int) : List Int) = y380 at H
      have Ny380 := Aside0.mk hy380.symm; clear hy380
      have H' := Aside0.mk H
      clear H
      obtain ⟨Ao14, co14, eo14⟩ := Kd.R_slice HO_4.out
      subst eo14
      have p379 : 0 ≤ (x5_1 : Int) := dT
      have q379 : x5_1 < (x4_1.length : Int) := dT
      obtain ⟨ad379, e379, hx379_0⟩ := Kd.at_bool (Kd.R_reads' HO_4.out).2.2 x5_1 p379 q379
      (try rw [← Nbq11.out] at hx379_0)
      cases e379
      replace p379 := eq_true p379
      replace q379 := eq_true q379
      go_wp2_with (first | ((with_reducible refine gate_dst (N := 22) rfl ?_); refine Kd.R_lit (Kd.int .i64) _ 3 ?hg (N := 22) ?hd (xs := ([] : List Int)) (inner := []) (ok := fun _ => True) (okp := fun _ => True) ?hr ?hp (fun _ hk => hk) trivial (Below.refl _ _) (Nat.le_refl _) (by simp) ?_; (case hd => rfl); (case hg => rfl); (case hr => exact gS); (case hp => exact (Reps.none _ _)); intro v381 w15 ho16 hb hg_ hnew_; clear hg_ hnew_; (first | rw [← Ny380.out] at ho16 | (simp only [Int.reduceToNat] at ho16; rw [← Ny380.out] at ho16)); replace HO_3 := Aside0.mk (Kd.S_elder' (S_l HO_3.out) (Kd.R_base ho16) hb); replace HO_4 := Aside0.mk (Kd.R_below (R_l HO_4.out) hb); have HO382 := Aside0.mk (Kd.R_lower ho16 (zB HB)); replace HB := Aside0.mk (zS HB hb); clear hb ho16))
      go_loopg [6, 7] k1 (fun kq v6 v7 w' => ∃ (x4_2 : List Bool) (x6_2 : List Int) (x7_2 : Int), v7 = .int .i64 x7_2 ∧ Aside0 (spec_l6Cycles.l1 kq l0 x3_1 x4_2 x5_1 x6_2 x7_2 = some r) ∧ Aside0 (kq ≤ k1) ∧ Aside0 (Kd.S (Kd.slice 3 (Kd.int .i64)) 35 w' w.heap.size (fun k_ => some k_ ≠ (v6 : Value).ownBlock) u3 x3_1) ∧ Aside0 (Kd.R Kd.bool 4 w' w.heap.size (fun _ => True) (.slice (some ad379) x4_1.length co14) x4_2) ∧ Aside0 (Kd.R (Kd.int .i64) 3 w' w.heap.size (fun _ => True) v6 x6_2) ∧ Aside0 (Below w.heap.size w w'))
      case atStart => exact ⟨(x4_1), (y380), (x5_1), rS, H', ⟨Nat.le_refl _⟩, ⟨S_l (Kd.S_mono HO_3.out (fun _ hk => hk.2))⟩, ⟨R_l HO_4.out⟩, ⟨R_l HO382.out⟩, ⟨B_l HB.out⟩⟩
      case round =>
       clear H'
       try clear c1
       try clear q1
       try clear c2
       try clear c2b0
       try clear c2b1
       try clear p2
       try clear c3
       try clear c3b0
       try clear c3b1
       try clear p3
       try clear q3
       try clear hx3
       try clear c5
       try clear p6
       try clear c8
       try clear c8b0
       try clear c9
       try clear c9b0
       try clear c10
       try clear c10b0
       try clear q11
       try clear c12
       try clear hx379_0
       try clear p2
       try clear p379
       try clear q379
       obtain ⟨x4_2, x6_2, x7_2, rfl, HA, HK2, HO_3, HO_4, HO_6, HB⟩ := hrel
       have hl4_2 := (Kd.R_reads' HO_4.out).1
       rw [hl4_2] at HO_4
       (try simp only [hl4_2])
       (try simp only [hl4_2] at HO_3)
       (try simp only [hl4_2] at HO_6)
       cases gk with
       | zero => exact absurd HA.out (by simp [spec_l6Cycles.l1])
       | succ k2 =>
        have H := HA.out
        clear HA
        simp only [spec_l6Cycles.l1] at H
        obtain ⟨c17b0, H⟩ := gdt H
        obtain ⟨c18b0, H⟩ := gdt H
        obtain ⟨bq19, hbq19⟩ : ∃ b_ : Bool, b_ = (rdOf false x4_2 x7_2) := ⟨_, rfl⟩
        replace H : (if bq19 = true then (if x3_1.length < 5864062014805 then (spec_l6Cycles.l0 k2 l0 (x3_1 ++ [x6_2]) x4_2 (wrap64 (x5_1 + 1))) else (none)) else (if x6_2.length < 17592186044416 then (if x7_2 < (l0.length : Int) then (spec_l6Cycles.l1 k2 l0 x3_1 (x4_2.set (x7_2 : Int).toNat true) x5_1 (x6_2 ++ [x7_2]) (rd l0 x7_2)) else (none)) else (none))) = some r := by rw [← hbq19] at H; exact H
        have Nbq19 := Aside0.mk hbq19
        clear hbq19
        by_cases c20 : bq19 = true
        ·subst c20
         rw [if_pos rfl] at H
         obtain ⟨LMc21, H⟩ := gda H
         generalize hy384 : (x3_1 ++ [x6_2] : List (List Int)) = y384 at H
         have Ny384 := Aside0.mk hy384.symm; clear hy384
         have H' := Aside0.mk H
         clear H
         have p383 : 0 ≤ (x7_2 : Int) := dT
         have q383 : x7_2 < (x4_2.length : Int) := dT
         obtain ⟨ad383, e383, hx383_0⟩ := Kd.at_bool (Kd.R_reads' HO_4.out).2.2 x7_2 p383 q383
         (try rw [← Nbq11.out] at hx383_0)
         (try rw [← Nbq19.out] at hx383_0)
         obtain rfl : ad379 = ad383 := (by injection e383)
         replace p383 := eq_true p383
         replace q383 := eq_true q383
         obtain ⟨Ao23, co23, eo23⟩ := Kd.R_slice HO_6.out
         subst eo23
         go_wp2_with (first | ((with_reducible refine gate_builtin (b := .append) (xs := #[.tmp 40, .tmp 42]) rfl ?_); at_builtin; refine Kd.S_append (Kd.slice 3 (Kd.int .i64)) (w0 := w) w.heap.size rfl (.tmp 40) (.tmp 42) 24 35 (.slice none 0 0) 24 rfl Try.underlying24 info35 rfl (by decide) (by omega) u3 x3_1 x6_2 [.slice Ao23 x6_2.length co23] (fun _ => True) (fun k_ => some k_ = (.slice Ao23 x6_2.length co23 : Value).ownBlock) rfl rfl ?aP (fun k_ hk_ => ((Kd.R_mono (ok' := fun k_ => ((fun _ => True)) k_ ∧ some k_ ≠ (u3 : Value).ownBlock) (Kd.R_apart' (HO_6.out) (Kd.S_typed HO_3.out) (by decide)) (fun k_ hk => ⟨trivial, hk.2⟩))).1 k_ hk_.symm) ?aF ?aO ?aB ?aS ?aL ?_; (case aP => exact Kd.M_row (Kd.R_mono (Kd.R_tight rfl (Kd.R_mono (ok' := fun k_ => ((fun _ => True)) k_ ∧ some k_ ≠ (u3 : Value).ownBlock) (Kd.R_apart' (HO_6.out) (Kd.S_typed HO_3.out) (by decide)) (fun k_ hk => ⟨trivial, hk.2⟩))) (fun _ h_ => h_))); (case aB => exact (B_l HB.out)); (case aF => exact (fun _ _ => trivial)); (case aO => exact (S_l (Kd.S_mono HO_3.out (fun k_ hk => ⟨trivial, fun e_ => hk e_⟩)))); (case aS => exact (zB HB)); (case aL => have := LMc21.out; omega); intro v385 w22 ho hb hg hat; rw [← Ny384.out] at ho; replace HO_4 := Aside0.mk (Kd.R_over' (R_l HO_4.out) (Kd.S_typed (S_l HO_3.out)) (by decide) hg); replace HB := Aside0.mk (hb); have HO386 := Aside0.mk (ho); clear HO_3 HO_6; clear ho hb hg hat))
         (try simp only [← hl4_2])
         go_roundg k2
         case measure => exact oK
         case rel => exact ⟨(y384), (x4_2), (wrap64 (x5_1 + 1)), rS, H', ⟨oK⟩, ⟨by (try simp only [hl4_2]); (with_reducible repeat (first | apply Kd.S_alloc | apply Kd.S_drewN | apply Kd.S_drew)); exact HO386.out⟩, ⟨by (try simp only [hl4_2]); (with_reducible repeat (first | apply Kd.R_alloc | apply Kd.R_drewN | apply Kd.R_drew)); exact HO_4.out⟩, ⟨B_l HB.out⟩⟩
        ·replace c20 := Bool.eq_false_iff.mpr c20
         subst c20
         rw [if_neg (show ¬ (false = true) by decide)] at H
         generalize hy387 : (x4_2.set (x7_2 : Int).toNat true : List Bool) = y387 at H
         have Ny387 := Aside0.mk hy387.symm; clear hy387
         obtain ⟨LMc25, H⟩ := gda H
         generalize hy388 : (x6_2 ++ [x7_2] : List Int) = y388 at H
         have Ny388 := Aside0.mk hy388.symm; clear hy388
         obtain ⟨c26b0, H⟩ := gdt H
         have H' := Aside0.mk H
         clear H
         have p383 : 0 ≤ (x7_2 : Int) := dT
         have q383 : x7_2 < (x4_2.length : Int) := dT
         obtain ⟨ad383, e383, hx383_0⟩ := Kd.at_bool (Kd.R_reads' HO_4.out).2.2 x7_2 p383 q383
         (try rw [← Nbq11.out] at hx383_0)
         (try rw [← Nbq19.out] at hx383_0)
         obtain rfl : ad379 = ad383 := (by injection e383)
         replace p383 := eq_true p383
         replace q383 := eq_true q383
         have p24 : 0 ≤ (x7_2 : Int) := dT
         have q24 : (x7_2 : Int) < ((x4_2.length : Int) : Int) := dT
         obtain ⟨go24, co24, eo24, gb24, gl24, cl24, HG24⟩ := Kd.R_form HO_4.out (by omega)
         (first | cases eo24 | (injection eo24 with ea_ en_ ec_; (first | subst ea_ | (injection ea_ with ea_; subst ea_)); subst ec_; clear en_))
         (try simp only [add_plain] at *)
         have GB24 := Aside0.mk gb24
         have GG24 := Aside0.mk HG24
         clear gb24 gl24 HG24
         (first | simp only [add_plain] at hx379_0 | skip)
         (first | simp only [add_plain] at hx383_0 | skip)
         obtain ⟨hx24_0, hf24_0⟩ := Kd.R_celln false HO_4.out (x7_2 : Int) p24 q24
         replace p24 := eq_true p24
         replace q24 := eq_true q24
         have HP27 := Kd.R_putg HO_4.out (x7_2 : Int) true
         go_wp2_with (first | ((with_reducible refine gate_store (t := 4) (p := 35) rfl ?_); refine store_event (t := 4) (p := 35) (v := ?vo_w28) (w1 := (wr.setCell ⟨go24, (x7_2 : Int).toNat, none⟩ (.bool true))) ?hg ?ho ?hn ?hr ?_; (case ho => rfl); (case hg => rfl); (case hn => rfl); (case hr => exact gS); intro w28 hw; have hg : wr.grownBy w28 (some go24) := (by rw [hw]; exact HP27.2); have hp_ : Kd.R Kd.bool 4 w28 w.heap.size (fun _ => True) (.slice (some ⟨go24, 0, none⟩) x4_2.length co14) y387 := (by rw [hw, Ny387.out]; exact HP27.1); clear HP27; replace HO_3 := Aside0.mk (Kd.S_over' (v := (.slice (some ⟨go24, 0, none⟩) x4_2.length co14)) (S_l HO_3.out) (Kd.R_typed HO_4.out) (by decide) hg); replace HO_6 := Aside0.mk (Kd.R_over' (v := (.slice (some ⟨go24, 0, none⟩) x4_2.length co14)) (R_l HO_6.out) (Kd.R_typed HO_4.out) (by decide) hg); replace HO_4 := Aside0.mk (hp_); replace HB := Aside0.mk ((by rw [hw]; exact below_set (HB.out) GB24.out : Below w.heap.size w w28)); clear hg hw hp_) | ((with_reducible refine gate_builtin (b := .append) (xs := #[.tmp 36, .tmp 38]) rfl ?_); at_builtin; refine Kd.R_append (Kd.int .i64) (w0 := w) w.heap.size rfl (.tmp 36) (.tmp 38) 35 3 (.int .i64 0) 8 rfl Try.underlying35 info3 rfl (by decide) (by omega) u6 x6_2 x7_2 [.int .i64 x7_2] (fun _ => True) (fun _ => False) rfl rfl ?aP (fun _ hk => hk.elim) ?aF ?aO ?aB ?aS ?aL ?_; (case aP => exact rfl); (case aB => exact (B_l HB.out)); (case aF => exact (fun _ _ => trivial)); (case aO => exact (R_l HO_6.out)); (case aS => exact (zB HB)); (case aL => have := LMc25.out; omega); intro v389 w29 ho hb hg hat; rw [← Ny388.out] at ho; replace HO_3 := Aside0.mk (Kd.S_after (ok := (fun _ => True)) (S_l (Kd.S_mono HO_3.out (fun _ hk => ⟨trivial, hk⟩))) hg hat); replace HO_4 := Aside0.mk (Kd.R_over' (R_l HO_4.out) (Kd.R_typed (R_l HO_6.out)) (by decide) hg); replace HB := Aside0.mk (hb); have HO390 := Aside0.mk (ho); clear HO_6; clear ho hb hg hat; have p391 : 0 ≤ (x7_2 : Int) := dT; have q391 : x7_2 < (l0.length : Int) := dT; obtain ⟨ad391, e391, hx391_0⟩ := Kd.at_int HR0.out x7_2 p391 q391; cases e391; replace hx391_0 := cB HB hx391_0; replace p391 := eq_true p391; replace q391 := eq_true q391))
         (try simp only [← hl4_2])
         go_roundg k2
         case measure => exact oK
         case rel => exact ⟨(y387), (y388), (rd l0 x7_2), rS, H', ⟨oK⟩, ⟨by (try simp only [hl4_2]); (with_reducible repeat (first | apply Kd.S_alloc | apply Kd.S_drewN | apply Kd.S_drew)); exact Kd.S_mono HO_3.out (fun _ hk => hk.2)⟩, ⟨by (try simp only [hl4_2]); (with_reducible repeat (first | apply Kd.R_alloc | apply Kd.R_drewN | apply Kd.R_drew)); exact HO_4.out⟩, ⟨by (try simp only [hl4_2]); (with_reducible repeat (first | apply Kd.R_alloc | apply Kd.R_drewN | apply Kd.R_drew)); exact HO390.out⟩, ⟨B_l HB.out⟩⟩
    ·obtain rfl := Option.some.inj H
     go_wp2
     go_ret
     exact ⟨_, rE, S_l HO_3.out, B_l HB.out⟩
 ·rw [if_neg c2] at H
  exact absurd H (by simp)

end Go.Proofs.Ytkbkkpgllphdhaa.PFnBranches
