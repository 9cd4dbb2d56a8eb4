import Derived.Test.YtepogblkmiidnaaWSpan
import Derived.Test.YtepogblkmiidnaaPFnCoversx0
import Derived.Test.YtepogblkmiidnaaPFnCoversx2
import Derived.Test.YtepogblkmiidnaaPFnCoversx3
import Derived.Test.YtepogblkmiidnaaPFnCoversx10
import Derived.Test.YtepogblkmiidnaaPFnCoversx11
import Derived.Test.YtepogblkmiidnaaPFnCoversx12
import Derived.Test.YtepogblkmiidnaaPFnCoversx13
namespace Go.Proofs.Ytepogblkmiidnaa.PFnCovers
open Go.RowKit Go.Proofs.YtepogblkmiidnaaW.PrintWords Go.Proofs.YtepogblkmiidnaaW.PrintLast Go.Proofs.YtepogblkmiidnaaW.PrintMore
attribute [local go_sem] max2_int min2_int max_two min_two max_three min_three max_four min_four   -- for this text's walks alone
set_option linter.unusedVariables false
set_option linter.unusedSimpArgs false

/-! ### spec_CoverOf: function 7 -/
mutual
def spec_CoverOf.l0 : Nat → Int → List (S46) → List (List Int) → List (List Int) → Int → Option ((List (S46)) × Bool)
 | 0, _, _, _, _, _ => none
 | k + 1, x0, x6, x7, x8, x9 => if x9 < (x7.length : Int) then (if 0 ≤ x9 then (if x0 = 0 then (spec_CoverOf.l1 k x0 x6 x7 x8 x9 ((rd_L2 x7 x9).length : Int) 0 0 0 0) else (if x6.length < 5864062014805 then (spec_CoverOf.l0 k x0 (x6 ++ [(⟨wrap64 (1 + (wrap64 (((rd_L2 x7 x9).length : Int) * (wrap64 (x0 - 1))))), 0, 0⟩ : S46)]) x7 x8 (wrap64 (x9 + 1))) else (none))) else (none)) else (some (x6, true))
def spec_CoverOf.l1 : Nat → Int → List (S46) → List (List Int) → List (List Int) → Int → Int → Int → Int → Int → Int → Option ((List (S46)) × Bool)
 | 0, _, _, _, _, _, _, _, _, _, _ => none
 | k + 1, x0, x6, x7, x8, x9, x10, x12, x439000, x439001, x439002 => if x12 < (x8.length : Int) then (if 0 ≤ x9 then (if x9 < (x7.length : Int) then (if 0 ≤ x12 then (if 0 < ((rd_L2 x8 x12).length : Int) then ((spec_l3Find2.f k (rd_L2 x7 x9) (rd (rd_L2 x8 x12) 0)).bind fun t442 => ((spec_l1Bit.f t442).bind fun t443 => (spec_CoverOf.l1 k x0 x6 x7 x8 x9 x10 (wrap64 (x12 + 1)) x439000 x439001 (wrap64 (x439002 + t443))))) else (none)) else (none)) else (none)) else (none)) else (if x6.length < 5864062014805 then (spec_CoverOf.l0 k x0 (x6 ++ [(⟨wrap64 (Int.tdiv (wrap64 ((wrap64 (2 + x10)) - x439002)) 2), x439001, x439002⟩ : S46)]) x7 x8 (wrap64 (x9 + 1))) else (none))
end
def spec_CoverOf.f (k : Nat) (a0 : Int) (l1 : List (List Int)) : Option ((List (S46)) × Bool) := (spec_IsAction.f k a0 l1).bind fun t418 => (if t418 = true then ((spec_l9Parts.f k l1).bind fun t425 => ((spec_Relator.f 1).bind fun t428 => ((spec_ActWord.f k l1 t428).bind fun t431 => ((spec_l6Cycles.f k t431).bind fun t434 => (spec_CoverOf.l0 k a0 (([] : List (S46))) t425 t434 0))))) else (some ((([] : List (S46))), false)))
def spec_CoverOf.T15 : Bool × List (List Nat × List Nat) := (true, [([], []), ([0], [0]), ([], []), ([], []), ([2, 3], [2, 3]), ([4], [4]), ([], []), ([], []), ([6, 7], [6, 7]), ([8], [8]), ([9], [9]), ([10], [10]), ([5, 11], [5, 11]), ([12, 12], [12]), ([1, 13], [1, 13]), ([0, 1, 2, 3, 4, 5, 6, 7, 8, 9, 10, 11, 12, 13, 14], []), ([15, 14, 13, 0, 1, 2, 3, 4, 5, 6, 7, 8, 9, 10, 11, 12, 13, 14], [14, 15])])
def spec_CoverOf.B15 : List Nat := [0, 1, 0, 0, 12, 28, 0, 0, 192, 448, 960, 1984, 4092, 8188, 16383, 32767, 65535]
theorem spec_CoverOf.tab15 : rtab .any (opsOf Try.f7 15) = spec_CoverOf.T15 := by kernel_rfl
theorem spec_CoverOf.bits15 : waitsOk spec_CoverOf.T15.2 spec_CoverOf.B15 = true := by kernel_rfl
set_option maxHeartbeats 8000000 in
set_option maxRecDepth 100000 in
theorem spec_CoverOf.calls (k : Nat) (a0 : Int) (A1 : Option Addr) (c1 : Nat) (l1 : List (List Int)) (r1 : List (S46)) (r2 : Bool) (w : World) (hr1 : Kd.C (Kd.slice 3 (Kd.int .i64)) w A1 l1.length l1) (hc1 : l1.length ≤ c1) (h : spec_CoverOf.f k a0 l1 = some (r1, r2)) :
  Calls Try.prog 7 #[.int .i64 a0, .slice A1 l1.length c1] w fun e w' => ∃ v0_ : Value, e = .returned (.tuple #[v0_, .bool r2]) ∧ Kd.R k46 46 w' w.heap.size (fun _ => True) v0_ r1 ∧ Below w.heap.size w w' := by
 have hu46 := Try.underlying46
 have HR1 := Aside0.mk hr1
 have HC1 := Aside0.mk hc1
 clear hr1 hc1
 have HB := Aside0.mk (Below.refl w.heap.size w)
 have H : ((spec_IsAction.f k a0 l1).bind fun t418 => (if t418 = true then ((spec_l9Parts.f k l1).bind fun t425 => ((spec_Relator.f 1).bind fun t428 => ((spec_ActWord.f k l1 t428).bind fun t431 => ((spec_l6Cycles.f k t431).bind fun t434 => (spec_CoverOf.l0 k a0 (([] : List (S46))) t425 t434 0))))) else (some ((([] : List (S46))), false)))) = some (r1, r2) := h
 clear h
 obtain ⟨t418, A3, H⟩ := bs H
 by_cases c4 : t418 = true
 ·subst c4
  rw [if_pos rfl] at H
  generalize hy422 : (([] : List (S46)) : List (S46)) = y422 at H
  have Ny422 := Aside0.mk hy422.symm; clear hy422
  obtain ⟨t425, A5, H⟩ := bs H
  obtain ⟨t428, A6, H⟩ := bs H
  obtain ⟨t431, A7, H⟩ := bs H
  obtain ⟨t434, A8, H⟩ := bs H
  have H' := Aside0.mk H
  clear H
  go_enter Try.func7, Try.ntmps7
  go_wp2_with (first | (refine gL 24 (some 15) Try.func24 #[.int .i64 a0, .slice A1 l1.length c1] ?_; (with_reducible refine (spec_IsAction.calls k a0 _ _ l1 true _ ?side1 ?side2 A3.out).mono ?_); (case side1 => repeat (first | exact HR1.out | (with_reducible refine Kd.C_alloc ?_ _) | (with_reducible refine Kd.C_drewN ?_ _) | (with_reducible refine Kd.C_drew ?_))); (case side2 => exact HC1.out); rintro e w9 ⟨rfl, hb⟩; refine ⟨_, rfl, ?_⟩; replace HB := Aside0.mk (below_step tb hb); (try clear hb); (try clear hb2); (try clear hk); (try clear hi)) | ((with_reducible refine gate_dst (N := 18) rfl ?_); refine Kd.R_lit k46 _ 46 ?hg (N := 18) ?hd (xs := ([] : List (S46))) (inner := []) (ok := fun _ => True) (okp := fun _ => True) ?hr ?hp (fun _ hk => hk) trivial (Below.refl _ _) (Nat.le_refl _) (by simp) ?_; (case hd => rfl); (case hg => rfl); (case hr => exact gS); (case hp => exact (Reps.none _ _)); intro v423 w10 ho11 hb hg_ hnew_; clear hg_ hnew_; (first | rw [← Ny422.out] at ho11 | (simp only [Int.reduceToNat] at ho11; rw [← Ny422.out] at ho11)); have HO424 := Aside0.mk (Kd.R_lower ho11 (below_size tb)); replace HB := Aside0.mk (below_step tb hb); clear hb ho11) | (refine gL 37 (some 20) Try.func37 #[.slice A1 l1.length c1] ?_; (with_reducible refine (spec_l9Parts.calls k _ _ l1 t425 _ ?side1 ?side2 A5.out).mono ?_); (case side1 => repeat (first | exact (Kd.C_below HR1.out HB.out) | (with_reducible refine Kd.C_alloc ?_ _) | (with_reducible refine Kd.C_drewN ?_ _) | (with_reducible refine Kd.C_drew ?_))); (case side2 => exact HC1.out); rintro e w12 ⟨v426, rfl, ho0, hb⟩; refine ⟨_, rfl, ?_⟩; replace HO424 := Aside0.mk (Kd.R_below (by (with_reducible repeat (first | apply Kd.R_alloc | apply Kd.R_drewN | apply Kd.R_drew)); exact HO424.out) hb); have HO427 := Aside0.mk (Kd.S_lower ho0 (below_size tb)); replace HB := Aside0.mk (below_step tb hb); (try clear hb); (try clear hb2); (try clear hk); (try clear hi); (try clear ho0)) | (refine gL 39 (some 22) Try.func39 #[.int .i64 1] ?_; (with_reducible refine (spec_Relator.calls 1 t428 _ A6.out).mono ?_); rintro e w13 ⟨v429, rfl, ho0, hb⟩; refine ⟨_, rfl, ?_⟩; replace HO424 := Aside0.mk (Kd.R_below (by (with_reducible repeat (first | apply Kd.R_alloc | apply Kd.R_drewN | apply Kd.R_drew)); exact HO424.out) hb); replace HO427 := Aside0.mk (Kd.S_elder' (by (with_reducible repeat (first | apply Kd.S_alloc | apply Kd.S_drewN | apply Kd.S_drew)); exact HO427.out) (Kd.R_base ho0) hb); have HO430 := Aside0.mk (Kd.R_lower ho0 (below_size tb)); replace HB := Aside0.mk (below_step tb hb); (try clear hb); (try clear hb2); (try clear hk); (try clear hi); (try clear ho0); obtain ⟨Ao14, co14, eo14⟩ := Kd.R_slice HO430.out; subst eo14) | (refine gL 16 (some 23) Try.func16 #[.slice A1 l1.length c1, .slice Ao14 t428.length co14] ?_; (with_reducible refine (spec_ActWord.calls k _ _ l1 _ _ t428 t431 _ ?side1 ?side2 ?side3 ?side4 A7.out).mono ?_); (case side1 => repeat (first | exact (Kd.C_below HR1.out HB.out) | (with_reducible refine Kd.C_alloc ?_ _) | (with_reducible refine Kd.C_drewN ?_ _) | (with_reducible refine Kd.C_drew ?_))); (case side2 => exact HC1.out); (case side3 => repeat (first | exact (Kd.R_reads' HO430.out).2.2 | (with_reducible refine Kd.C_alloc ?_ _) | (with_reducible refine Kd.C_drewN ?_ _) | (with_reducible refine Kd.C_drew ?_))); (case side4 => exact (Kd.R_reads' HO430.out).2.1); rintro e w15 ⟨v432, rfl, ho0, hb⟩; refine ⟨_, rfl, ?_⟩; replace HO424 := Aside0.mk (Kd.R_below (by (with_reducible repeat (first | apply Kd.R_alloc | apply Kd.R_drewN | apply Kd.R_drew)); exact HO424.out) hb); replace HO427 := Aside0.mk (Kd.S_elder' (by (with_reducible repeat (first | apply Kd.S_alloc | apply Kd.S_drewN | apply Kd.S_drew)); exact HO427.out) (Kd.R_base ho0) hb); have HO433 := Aside0.mk (Kd.R_lower (Kd.R_new' ho0 (Kd.R_lt (by (with_reducible repeat (first | apply Kd.R_alloc | apply Kd.R_drewN | apply Kd.R_drew)); exact HO430.out))) (below_size tb)); replace HO430 := Aside0.mk (Kd.R_elder' (by (with_reducible repeat (first | apply Kd.R_alloc | apply Kd.R_drewN | apply Kd.R_drew)); exact HO430.out) (Kd.R_base ho0) hb); replace HB := Aside0.mk (below_step tb hb); (try clear hb); (try clear hb2); (try clear hk); (try clear hi); (try clear ho0); obtain ⟨Ao16, co16, eo16⟩ := Kd.R_slice HO433.out; subst eo16) | (refine gL 38 (some 24) Try.func38 #[.slice Ao16 t431.length co16] ?_; (with_reducible refine (spec_l6Cycles.calls k _ _ t431 t434 _ ?side1 ?side2 A8.out).mono ?_); (case side1 => repeat (first | exact (Kd.R_reads' HO433.out).2.2 | (with_reducible refine Kd.C_alloc ?_ _) | (with_reducible refine Kd.C_drewN ?_ _) | (with_reducible refine Kd.C_drew ?_))); (case side2 => exact (Kd.R_reads' HO433.out).2.1); rintro e w17 ⟨v435, rfl, ho0, hb⟩; refine ⟨_, rfl, ?_⟩; replace HO424 := Aside0.mk (Kd.R_below (by (with_reducible repeat (first | apply Kd.R_alloc | apply Kd.R_drewN | apply Kd.R_drew)); exact HO424.out) hb); have HO436 := Aside0.mk (Kd.S_lower (Kd.S_new' (Kd.S_new' (Kd.S_new' ho0 (Kd.S_lt (by (with_reducible repeat (first | apply Kd.S_alloc | apply Kd.S_drewN | apply Kd.S_drew)); exact HO427.out))) (Kd.R_lt (by (with_reducible repeat (first | apply Kd.R_alloc | apply Kd.R_drewN | apply Kd.R_drew)); exact HO430.out))) (Kd.R_lt (by (with_reducible repeat (first | apply Kd.R_alloc | apply Kd.R_drewN | apply Kd.R_drew)); exact HO433.out))) (below_size tb)); replace HO427 := Aside0.mk (Kd.S_elder' (by (with_reducible repeat (first | apply Kd.S_alloc | apply Kd.S_drewN | apply Kd.S_drew)); exact HO427.out) (Kd.S_base ho0) hb); replace HO430 := Aside0.mk (Kd.R_below (by (with_reducible repeat (first | apply Kd.R_alloc | apply Kd.R_drewN | apply Kd.R_drew)); exact HO430.out) hb); replace HO433 := Aside0.mk (Kd.R_below (by (with_reducible repeat (first | apply Kd.R_alloc | apply Kd.R_drewN | apply Kd.R_drew)); exact HO433.out) hb); replace HB := Aside0.mk (below_step tb hb); (try clear hb); (try clear hb2); (try clear hk); (try clear hi); (try clear ho0)))
  go_loopg [6, 9] k (fun kq v6 v9 w' => ∃ (x6_1 : List (S46)) (x9_1 : Int), v9 = .int .i64 x9_1 ∧ Aside0 (spec_CoverOf.l0 kq a0 x6_1 t425 t434 x9_1 = some (r1, r2)) ∧ Aside0 (kq ≤ k) ∧ Aside0 (Kd.R k46 46 w' w.heap.size (fun _ => True) v6 x6_1) ∧ Aside0 (Kd.S (Kd.slice 3 (Kd.int .i64)) 30 w' w.heap.size (fun k_ => some k_ ≠ (v435 : Value).ownBlock) v426 t425) ∧ Aside0 (Kd.S (Kd.slice 3 (Kd.int .i64)) 30 w' w.heap.size (fun k_ => some k_ ≠ (v426 : Value).ownBlock) v435 t434) ∧ Aside0 (Below w.heap.size w w'))
  case atStart => exact ⟨(y422), (0), rS, H', ⟨Nat.le_refl _⟩, ⟨by (with_reducible repeat (first | apply Kd.R_alloc | apply Kd.R_drewN | apply Kd.R_drew)); exact HO424.out⟩, ⟨by (with_reducible repeat (first | apply Kd.S_alloc | apply Kd.S_drewN | apply Kd.S_drew)); exact Kd.S_mono HO427.out (fun _ hk => hk.2)⟩, ⟨by (with_reducible repeat (first | apply Kd.S_alloc | apply Kd.S_drewN | apply Kd.S_drew)); exact Kd.S_mono HO436.out (fun _ hk => hk.1.1.2)⟩, ⟨tb⟩⟩
  case round =>
   clear H'
   try clear c1
   try clear c2
   try clear p2
   try clear c3
   try clear c4
   try clear c7
   try clear c16
   obtain ⟨x6_1, x9_1, rfl, HA, HK1, HO_6, HO_7, HO_8, HB⟩ := hrel
   cases gk with
   | zero => exact absurd HA.out (by simp [spec_CoverOf.l0])
   | succ k1 =>
    have H := HA.out
    clear HA
    simp only [spec_CoverOf.l0] at H
    obtain ⟨c18b0, H⟩ | ⟨c18b0, H⟩ := gi H
    ·obtain ⟨c19b0, H⟩ := gdt H
     by_cases c20 : a0 = 0
     ·rw [if_pos c20] at H
      have c20b0 : (a0 == 0) = true := beq_iff_eq.mpr c20
      have c20b1 : (a0 != 0) = false := bne_eq_false_iff_eq.mpr c20
      clear c20
      have H' := Aside0.mk H
      clear H
      obtain ⟨Ao21, co21, eo21⟩ := Kd.S_slice HO_7.out
      subst eo21
      have p437 : 0 ≤ (x9_1 : Int) := dT
      have q437 : x9_1 < (t425.length : Int) := dT
      obtain ⟨ad437, A437_0, c437_0, e437, hx437_0, hl437_0, hi437_0⟩ := at_L2 (Kd.S_reads' HO_7.out).2.2 x9_1 p437 q437
      cases e437
      obtain ⟨ce437, hce437, hMe437, hcc437⟩ := Kd.S_get HO_7.out [] x9_1 p437 (by first | exact q437 | exact dT | (have e_ := (Kd.S_reads' HO_7.out).1; omega))
      obtain ⟨ve437_0, rfl, ge437_0⟩ := hMe437
      have hv437_0 := hcc437 0 _ rfl
      rw [Nat.add_zero, show ((Kd.slice 3 (Kd.int .i64))).sz = 1 from rfl, Nat.mul_one] at hv437_0
      replace hv437_0 := Option.some.inj (hv437_0.symm.trans hx437_0)
      rw [hv437_0] at ge437_0
      have HL437_0 := Aside0.mk (show Kd.R (Kd.int .i64) 3 _ _ _ _ (rd_L2 t425 x9_1) from ge437_0)
      clear hv437_0 ge437_0
      clear hcc437 hce437
      have HR437_0 := Aside0.mk hi437_0
      have HC437_0 := Aside0.mk hl437_0
      clear hi437_0 hl437_0
      replace p437 := eq_true p437
      replace q437 := eq_true q437
      go_wp2_with (first | ((with_reducible refine gate_dst (N := 11) rfl ?_); refine box_event ?hg (N := 11) ?hd (cs := #[.int .i64 0, .int .i64 0, .int .i64 0]) (t := 46) ?hr ?_; (case hd => rfl); (case hg => rfl); (case hr => exact gS); intro gb438 hg w22 hbox hb; replace HO_6 := Aside0.mk (Kd.R_below (Kd.R_elderB (by (with_reducible repeat (first | apply Kd.R_alloc | apply Kd.R_drewN | apply Kd.R_drew)); exact HO_6.out) gb438 (Nat.le_of_eq hg.symm)) hb); replace HO_7 := Aside0.mk (Kd.S_below (by (with_reducible repeat (first | apply Kd.S_alloc | apply Kd.S_drewN | apply Kd.S_drew)); exact HO_7.out) hb); replace HO_8 := Aside0.mk (Kd.S_below (by (with_reducible repeat (first | apply Kd.S_alloc | apply Kd.S_drewN | apply Kd.S_drew)); exact HO_8.out) hb); replace HL437_0 := Aside0.mk (Kd.R_below (by (with_reducible repeat (first | apply Kd.R_alloc | apply Kd.R_drewN | apply Kd.R_drew)); exact HL437_0.out) hb); replace HR437_0 := Aside0.mk (Kd.C_below (by repeat (first | (with_reducible exact HR437_0.out) | (with_reducible refine Kd.C_alloc ?_ _) | (with_reducible refine Kd.C_drewN ?_ _) | (with_reducible refine Kd.C_drew ?_) | exact HR437_0.out)) hb); have BK438 := Aside0.mk (hbox); have GW438 := Aside0.mk ((by rw [hg]; exact (below_size tb) : w.heap.size ≤ gb438)); have GE438 := Aside0.mk ((by rw [hg]; exact (below_size tb) : w.heap.size ≤ gb438)); replace HB := Aside0.mk (below_step tb hb); clear hb hbox hg; have hcz23_0 : w22.cell? ⟨gb438, 0, none⟩ = some (.int .i64 0) := (blk_cell BK438.out 0).trans rfl; have hcz23_1 : w22.cell? ⟨gb438, 1, none⟩ = some (.int .i64 0) := (blk_cell BK438.out 1).trans rfl; have hcz23_2 : w22.cell? ⟨gb438, 2, none⟩ = some (.int .i64 0) := (blk_cell BK438.out 2).trans rfl; have hfz23_0 := blk_frozen BK438.out 0; have hfz23_1 := blk_frozen BK438.out 1; have hfz23_2 := blk_frozen BK438.out 2))
      go_loopg [12] k1 (fun kq v12 w' => ∃ (x12_2 : Int) (x439002_2 : Int), v12 = .int .i64 x12_2 ∧ Aside0 (spec_CoverOf.l1 kq a0 x6_1 t425 t434 x9_1 ((rd_L2 t425 x9_1).length : Int) x12_2 0 0 x439002_2 = some (r1, r2)) ∧ Aside0 (kq ≤ k1) ∧ Aside0 (Kd.R k46 46 w' w.heap.size (fun k_ => k_ ≠ gb438) u6 x6_1) ∧ Aside0 (Kd.S (Kd.slice 3 (Kd.int .i64)) 30 w' w.heap.size (fun k_ => some k_ ≠ (v435 : Value).ownBlock) (.slice (some ad437) t425.length co21) t425) ∧ Aside0 (Kd.S (Kd.slice 3 (Kd.int .i64)) 30 w' w.heap.size (fun k_ => some k_ ≠ ((.slice (some ad437) t425.length co21) : Value).ownBlock) v435 t434) ∧ Aside0 (w'.heap[gb438]? = some (.cells #[.int .i64 0, .int .i64 0, .int .i64 x439002_2] 46 (0, 0))) ∧ Aside0 (Below w.heap.size w w'))
      case atStart => exact ⟨(0), (0), rS, H', ⟨Nat.le_refl _⟩, ⟨by (with_reducible repeat (first | apply Kd.R_alloc | apply Kd.R_drewN | apply Kd.R_drew)); exact Kd.R_mono (Kd.R_far (p := ⟨gb438, 2, none⟩) (Kd.R_far (p := ⟨gb438, 1, none⟩) (Kd.R_far (p := ⟨gb438, 0, none⟩) (Kd.R_mono HO_6.out (fun k_ hk => (⟨hk, hk.2⟩ : _ ∧ k_ ≠ gb438))) (fun _ hk => hk.2) (.int .i64 0)) (fun _ hk => hk.2) (.int .i64 0)) (fun _ hk => hk.2) (.int .i64 0)) (fun _ hk => hk.1.2)⟩, ⟨by (with_reducible repeat (first | apply Kd.S_alloc | apply Kd.S_drewN | apply Kd.S_drew)); exact Kd.S_mono (Kd.S_far (p := ⟨gb438, 2, none⟩) (Kd.S_far (p := ⟨gb438, 1, none⟩) (Kd.S_far (p := ⟨gb438, 0, none⟩) (Kd.S_types HO_7.out BK438.out (by decide)) (fun _ hk => hk.2) (.int .i64 0)) (fun _ hk => hk.2) (.int .i64 0)) (fun _ hk => hk.2) (.int .i64 0)) (fun _ hk => hk.1)⟩, ⟨by (with_reducible repeat (first | apply Kd.S_alloc | apply Kd.S_drewN | apply Kd.S_drew)); exact Kd.S_mono (Kd.S_far (p := ⟨gb438, 2, none⟩) (Kd.S_far (p := ⟨gb438, 1, none⟩) (Kd.S_far (p := ⟨gb438, 0, none⟩) (Kd.S_types HO_8.out BK438.out (by decide)) (fun _ hk => hk.2) (.int .i64 0)) (fun _ hk => hk.2) (.int .i64 0)) (fun _ hk => hk.2) (.int .i64 0)) (fun _ hk => hk.1)⟩, ⟨by (with_reducible repeat (first | refine blk_drewN ?_ _ | refine blk_drew ?_ | refine blk_alloc ?_ _)); refine blk_put (cs := #[.int .i64 0, .int .i64 0, .int .i64 0]) ?_ 2 _ rfl; (with_reducible repeat (first | refine blk_drewN ?_ _ | refine blk_drew ?_ | refine blk_alloc ?_ _)); refine blk_put (cs := #[.int .i64 0, .int .i64 0, .int .i64 0]) ?_ 1 _ rfl; (with_reducible repeat (first | refine blk_drewN ?_ _ | refine blk_drew ?_ | refine blk_alloc ?_ _)); refine blk_put (cs := #[.int .i64 0, .int .i64 0, .int .i64 0]) ?_ 0 _ rfl; (with_reducible repeat (first | refine blk_drewN ?_ _ | refine blk_drew ?_ | refine blk_alloc ?_ _)); exact BK438.out⟩, ⟨by repeat (first | (with_reducible first | exact HB.out | apply below_alloc | apply pw_below_drewN | apply below_drew1 | refine below_set ?_ GE438.out) | exact HB.out)⟩⟩
      case round =>
       clear H'
       try clear c1
       try clear c2
       try clear p2
       try clear c3
       try clear c4
       try clear p4
       try clear q4
       try clear hx4
       try clear c7
       try clear c16
       try clear c18
       try clear c18b0
       try clear c19
       try clear c19b0
       try clear c20
       try clear c20b0
       try clear c20b1
       try clear hcz23_0
       try clear hcz23_1
       try clear hcz23_2
       try clear hfz23_0
       try clear hfz23_1
       try clear hfz23_2
       try clear hx437_0
       try clear p2
       try clear p437
       try clear q437
       obtain ⟨x12_2, x439002_2, rfl, HA, HK2, HO_6, HO_7, HO_8, BK438, HB⟩ := hrel
       cases gk with
       | zero => exact absurd HA.out (by simp [spec_CoverOf.l1])
       | succ k2 =>
        have H := HA.out
        clear HA
        simp only [spec_CoverOf.l1] at H
        obtain ⟨c24b0, H⟩ | ⟨c24b0, H⟩ := gi H
        ·obtain ⟨c25b0, H⟩ := gdt H
         obtain ⟨c26b0, H⟩ := gdt H
         obtain ⟨c27b0, H⟩ := gdt H
         obtain ⟨c28, H⟩ := gd H
         have c28b0 : decide (0 < ((rd_L2 t434 x12_2).length : Int)) = true := decide_eq_true c28
         have c28b1 : decide (0 < (rd_L2 t434 x12_2).length) = true := decide_eq_true (by omega)
         clear c28
         obtain ⟨t442, A29, H⟩ := bs H
         obtain ⟨t443, A30, H⟩ := bs H
         have H' := Aside0.mk H
         clear H
         obtain ⟨Ao31, co31, eo31⟩ := Kd.S_slice HO_8.out
         subst eo31
         try go_wp2
         have n0_ := Aside0.mk (Kd.R_drew HO_6.out)
         have n1_ := Aside0.mk (Kd.S_drew HO_7.out)
         have n2_ := Aside0.mk (Kd.S_drew HO_8.out)
         have n3_ := Aside0.mk (blk_drew BK438.out)
         have n4_ := True.intro
         have n5_ := Aside0.mk (below_drew1 HB.out)
         clear HO_6
         clear HO_7
         clear HO_8
         clear BK438
         skip
         clear HB
         have HO_6 := n0_
         have HO_7 := n1_
         have HO_8 := n2_
         have BK438 := n3_
         skip
         have HB := n5_
         clear n0_ n1_ n2_ n3_ n4_ n5_
         have p439 : 0 ≤ (x9_1 : Int) := dT
         have q439 : x9_1 < (t425.length : Int) := dT
         obtain ⟨ad439, A439_0, c439_0, e439, hx439_0, hl439_0, hi439_0⟩ := at_L2 (Kd.S_reads' HO_7.out).2.2 x9_1 p439 q439
         obtain rfl : ad437 = ad439 := (by injection e439)
         obtain ⟨ce439, hce439, hMe439, hcc439⟩ := Kd.S_get HO_7.out [] x9_1 p439 (by first | exact q439 | exact dT | (have e_ := (Kd.S_reads' HO_7.out).1; omega))
         obtain ⟨ve439_0, rfl, ge439_0⟩ := hMe439
         have hv439_0 := hcc439 0 _ rfl
         rw [Nat.add_zero, show ((Kd.slice 3 (Kd.int .i64))).sz = 1 from rfl, Nat.mul_one] at hv439_0
         replace hv439_0 := Option.some.inj (hv439_0.symm.trans hx439_0)
         rw [hv439_0] at ge439_0
         have HL439_0 := Aside0.mk (show Kd.R (Kd.int .i64) 3 _ _ _ _ (rd_L2 t425 x9_1) from ge439_0)
         clear hv439_0 ge439_0
         clear hcc439 hce439
         have HR439_0 := Aside0.mk hi439_0
         have HC439_0 := Aside0.mk hl439_0
         clear hi439_0 hl439_0
         replace p439 := eq_true p439
         replace q439 := eq_true q439
         have p440 : 0 ≤ (x12_2 : Int) := dT
         have q440 : x12_2 < (t434.length : Int) := dT
         obtain ⟨ad440, A440_0, c440_0, e440, hx440_0, hl440_0, hi440_0⟩ := at_L2 (Kd.S_reads' HO_8.out).2.2 x12_2 p440 q440
         cases e440
         obtain ⟨ce440, hce440, hMe440, hcc440⟩ := Kd.S_get HO_8.out [] x12_2 p440 (by first | exact q440 | exact dT | (have e_ := (Kd.S_reads' HO_8.out).1; omega))
         obtain ⟨ve440_0, rfl, ge440_0⟩ := hMe440
         have hv440_0 := hcc440 0 _ rfl
         rw [Nat.add_zero, show ((Kd.slice 3 (Kd.int .i64))).sz = 1 from rfl, Nat.mul_one] at hv440_0
         replace hv440_0 := Option.some.inj (hv440_0.symm.trans hx440_0)
         rw [hv440_0] at ge440_0
         have HL440_0 := Aside0.mk (show Kd.R (Kd.int .i64) 3 _ _ _ _ (rd_L2 t434 x12_2) from ge440_0)
         clear hv440_0 ge440_0
         clear hcc440 hce440
         have HR440_0 := Aside0.mk hi440_0
         have HC440_0 := Aside0.mk hl440_0
         clear hi440_0 hl440_0
         replace p440 := eq_true p440
         replace q440 := eq_true q440
         have p441 : 0 ≤ (0 : Int) := (by omega)
         have q441 : 0 < ((rd_L2 t434 x12_2).length : Int) := dT
         obtain ⟨ad441, e441, hx441_0⟩ := Kd.at_int (by repeat (first | (with_reducible exact HR440_0.out) | (with_reducible refine Kd.C_alloc ?_ _) | (with_reducible refine Kd.C_drewN ?_ _) | (with_reducible refine Kd.C_drew ?_) | exact HR440_0.out)) 0 p441 q441
         cases e441
         have qi441 : (0 < (rd_L2 t434 x12_2).length) = True := eq_true (by omega)
         (try rw [show ((0 : Int)).toNat = 0 from rfl] at hx441_0)
         (try rw [Addr.add_zero'] at hx441_0)
         replace p441 := eq_true p441
         replace q441 := eq_true q441
         refine start_ (n := 17) (S := fun w' => w'.cell? ⟨gb438, 0, none⟩ = some (.int .i64 0) ∧ w'.cell? ⟨gb438, 1, none⟩ = some (.int .i64 0) ∧ w'.cell? ⟨gb438, 2, none⟩ = some (.int .i64 x439002_2) ∧ w'.cell? (ad437.add (x9_1).toNat) = some (.slice A439_0 (rd_L2 t425 x9_1).length c439_0) ∧ w'.cell? (ad440.add (x12_2).toNat) = some (.slice (some ad441) (rd_L2 t434 x12_2).length c440_0) ∧ w'.cell? ad441 = some (.int .i64 (rd (rd_L2 t434 x12_2) 0))) (ds := [16]) #[false, false, false, false, false, false, false, false, false, false, false, false, false, false, false, false, false] (by kernel_rfl) rfl rfl ⟨(blk_cell BK438.out 0).trans rfl, (blk_cell BK438.out 1).trans rfl, (blk_cell BK438.out 2).trans rfl, hx439_0, hx440_0, hx441_0⟩ (fun hHeld => ?_); refine with_tabW spec_CoverOf.tab15 spec_CoverOf.bits15 (fun HT_ HW_ => ?_)
         generalize wr.drew = w32 at HO_6 HO_7 HO_8 BK438 HB HL439_0 HL440_0 HR439_0 HR440_0 hx439_0 hx440_0 hx441_0 hHeld ⊢
         refine pu_ 0 (some 45) ?_
         refine pu_ 2 (some 47) ?_
         refine pu_ 3 (some 48) ?_
         refine pu_ 4 (some 49) ?_
         refine pu_ 6 (some 51) ?_
         refine pu_ 7 (some 52) ?_
         refine pu_ 8 (some 53) ?_
         refine take_ (i := 1) (N := some 46) (v := ?_) (a' := ?_) #[true, true, true, true, true, false, true, true, true, false, false, false, false, false, false, false, false] rfl rfl (take_ofW HT_.out HW_.out (by kernel_rfl)) (fun _ _ _ h => h) (Or.inl ⟨by rfl, ?_⟩) hHeld ?_ ?_
         rotate_left
         ·rintro w' ⟨s0, s1, s2, s3, s4, s5⟩
          go_simp
          with_reducible rfl
         rotate_left
         ·simp only [Act.put, List.setIfInBounds_toArray, List.set_cons_zero, List.set_cons_succ, i64_w, i32_w]
          rfl
         refine take_ (i := 5) (N := some 50) (v := ?_) (a' := ?_) #[true, true, true, true, true, true, true, true, true, false, false, false, false, false, false, false, false] rfl rfl (take_ofW HT_.out HW_.out (by kernel_rfl)) (fun _ _ _ h => h) (Or.inl ⟨by rfl, ?_⟩) hHeld ?_ ?_
         rotate_left
         ·rintro w' ⟨s0, s1, s2, s3, s4, s5⟩
          go_simp
          with_reducible rfl
         rotate_left
         ·simp only [Act.put, List.setIfInBounds_toArray, List.set_cons_zero, List.set_cons_succ, i64_w, i32_w]
          rfl
         refine take_ (i := 9) (N := some 54) (v := ?_) (a' := ?_) #[true, true, true, true, true, true, true, true, true, true, false, false, false, false, false, false, false] rfl rfl (take_ofW HT_.out HW_.out (by kernel_rfl)) (fun _ _ _ h => h) (Or.inl ⟨by rfl, ?_⟩) hHeld ?_ ?_
         rotate_left
         ·rintro w' ⟨s0, s1, s2, s3, s4, s5⟩
          go_simp
          with_reducible rfl
         rotate_left
         ·simp only [Act.put, List.setIfInBounds_toArray, List.set_cons_zero, List.set_cons_succ, i64_w, i32_w]
          rfl
         refine pu_ 10 (some 55) ?_
         refine take_ (i := 11) (N := some 56) (v := ?_) (a' := ?_) #[true, true, true, true, true, true, true, true, true, true, true, true, false, false, false, false, false] rfl rfl (take_ofW HT_.out HW_.out (by kernel_rfl)) (fun _ _ _ h => h) (Or.inl ⟨by rfl, ?_⟩) hHeld ?_ ?_
         rotate_left
         ·rintro w' ⟨s0, s1, s2, s3, s4, s5⟩
          go_simp
          with_reducible rfl
         rotate_left
         ·simp only [Act.put, List.setIfInBounds_toArray, List.set_cons_zero, List.set_cons_succ, i64_w, i32_w]
          rfl
         refine one_ (i := 12) (N := some 57) #[true, true, true, true, true, true, true, true, true, true, true, true, true, false, false, false, false] rfl rfl (one_of HT_.out (by kernel_rfl)) (by decide) (fun K hK => ?_)
         refine goes_ Try.func41 (by kernel_rfl) rfl #[.slice A439_0 (rd_L2 t425 x9_1).length c439_0, .int .i64 (rd (rd_L2 t434 x12_2) 0)] (by rfl) rfl rfl mp_ ?_
         with_reducible refine (spec_l3Find2.calls k2 _ _ (rd_L2 t425 x9_1) (rd (rd_L2 t434 x12_2) 0) t442 _ ?side1 ?side2 A29.out).mono ?_
         (case side1 => repeat (first | exact (by repeat (first | (with_reducible exact HR439_0.out) | (with_reducible refine Kd.C_alloc ?_ _) | (with_reducible refine Kd.C_drewN ?_ _) | (with_reducible refine Kd.C_drew ?_) | exact HR439_0.out)) | (with_reducible refine Kd.C_alloc ?_ _) | (with_reducible refine Kd.C_drewN ?_ _) | (with_reducible refine Kd.C_drew ?_)))
         (case side2 => exact HC439_0.out)
         rintro e w' ⟨rfl, ⟨nd, rfl⟩⟩
         refine ⟨_, rfl, ?_⟩
         refine hK.out _ _ ⟨(blk_cell BK438.out 0).trans rfl, (blk_cell BK438.out 1).trans rfl, (blk_cell BK438.out 2).trans rfl, hHeld.2.2.2.1, hHeld.2.2.2.2.1, hHeld.2.2.2.2.2⟩ (fun hHeld => ?_)
         clear hK K
         refine norm_ (a' := ?_) ?_ ?_
         rotate_left
         ·show Act.put _ (some 57) _ = _
          simp only [Act.put, List.setIfInBounds_toArray, List.set_cons_zero, List.set_cons_succ, i64_w, i32_w]
          rfl
         refine one_ (i := 13) (N := some 58) #[true, true, true, true, true, true, true, true, true, true, true, true, true, true, false, false, false] rfl rfl (one_of HT_.out (by kernel_rfl)) (by decide) (fun K hK => ?_)
         refine goes_ Try.func40 (by kernel_rfl) rfl #[.bool t442] (by rfl) rfl rfl mp_ ?_
         with_reducible refine (spec_l1Bit.calls t442 t443 _ A30.out).mono ?_
         rintro e w' ⟨rfl, ⟨nd, rfl⟩⟩
         refine ⟨_, rfl, ?_⟩
         refine hK.out _ _ ⟨(blk_cell BK438.out 0).trans rfl, (blk_cell BK438.out 1).trans rfl, (blk_cell BK438.out 2).trans rfl, hHeld.2.2.2.1, hHeld.2.2.2.2.1, hHeld.2.2.2.2.2⟩ (fun hHeld => ?_)
         clear hK K
         refine norm_ (a' := ?_) ?_ ?_
         rotate_left
         ·show Act.put _ (some 58) _ = _
          simp only [Act.put, List.setIfInBounds_toArray, List.set_cons_zero, List.set_cons_succ, i64_w, i32_w]
          rfl
         refine pu_ 14 (some 59) ?_
         refine pu_ 15 (some 60) ?_
         refine last_ (i := 16) (N := none) #[true, true, true, true, true, true, true, true, true, true, true, true, true, true, true, true, true] rfl rfl (one_of HT_.out (by kernel_rfl)) (by decide) (fun K hK => ?_)
         have hs33 : w32.cell? ⟨gb438, 2, none⟩ = some (.int .i64 x439002_2) := (blk_cell BK438.out 2).trans rfl
         have hfs33 := blk_frozen BK438.out 2
         refine skip_ (w1 := ?_) (by rfl) rfl ?_ ?_
         rotate_left
         ·go_simp
          rfl
         refine hK.out _ _ ?_
         clear hK K
         refine done_ (done_of HT_.out (by kernel_rfl)) ?_
         try go_wp2
         go_roundg k2
         case measure => exact oK
         case rel => exact ⟨(wrap64 (x12_2 + 1)), (wrap64 (x439002_2 + t443)), rS, H', ⟨oK⟩, ⟨by (with_reducible repeat (first | apply Kd.R_alloc | apply Kd.R_drewN | apply Kd.R_drew)); exact Kd.R_mono (Kd.R_far (p := ⟨gb438, 2, none⟩) (Kd.R_mono HO_6.out (fun k_ hk => (⟨hk, hk⟩ : _ ∧ k_ ≠ gb438))) (fun _ hk => hk.2) (.int .i64 (wrap64 (x439002_2 + t443)))) (fun _ hk => hk.1)⟩, ⟨by (with_reducible repeat (first | apply Kd.S_alloc | apply Kd.S_drewN | apply Kd.S_drew)); exact Kd.S_mono (Kd.S_far (p := ⟨gb438, 2, none⟩) (Kd.S_types HO_7.out BK438.out (by decide)) (fun _ hk => hk.2) (.int .i64 (wrap64 (x439002_2 + t443)))) (fun _ hk => hk.1)⟩, ⟨by (with_reducible repeat (first | apply Kd.S_alloc | apply Kd.S_drewN | apply Kd.S_drew)); exact Kd.S_mono (Kd.S_far (p := ⟨gb438, 2, none⟩) (Kd.S_types HO_8.out BK438.out (by decide)) (fun _ hk => hk.2) (.int .i64 (wrap64 (x439002_2 + t443)))) (fun _ hk => hk.1)⟩, ⟨by (with_reducible repeat (first | refine blk_drewN ?_ _ | refine blk_drew ?_ | refine blk_alloc ?_ _)); refine blk_put (cs := #[.int .i64 0, .int .i64 0, .int .i64 x439002_2]) ?_ 2 _ rfl; (with_reducible repeat (first | refine blk_drewN ?_ _ | refine blk_drew ?_ | refine blk_alloc ?_ _)); exact BK438.out⟩, ⟨by repeat (first | (with_reducible first | exact HB.out | apply below_alloc | apply pw_below_drewN | apply below_drew1 | refine below_set ?_ GE438.out) | exact HB.out)⟩⟩
        ·obtain ⟨LMc34, H⟩ := gda H
         generalize hy444 : (x6_1 ++ [(⟨wrap64 (Int.tdiv (wrap64 ((wrap64 (2 + ((rd_L2 t425 x9_1).length : Int))) - x439002_2)) 2), 0, x439002_2⟩ : S46)] : List (S46)) = y444 at H
         have Ny444 := Aside0.mk hy444.symm; clear hy444
         have H' := Aside0.mk H
         clear H
         obtain ⟨Ao35, co35, eo35⟩ := Kd.S_slice HO_8.out
         subst eo35
         have hcz36_0 : wr.cell? ⟨gb438, 0, none⟩ = some (.int .i64 0) := (blk_cell BK438.out 0).trans rfl
         have hcz36_1 : wr.cell? ⟨gb438, 1, none⟩ = some (.int .i64 0) := (blk_cell BK438.out 1).trans rfl
         have hcz36_2 : wr.cell? ⟨gb438, 2, none⟩ = some (.int .i64 x439002_2) := (blk_cell BK438.out 2).trans rfl
         have hfz36_0 := blk_frozen BK438.out 0
         have hfz36_1 := blk_frozen BK438.out 1
         have hfz36_2 := blk_frozen BK438.out 2
         go_wp2_with (first | ((with_reducible refine gate_builtin (b := .append) (xs := #[.tmp 74, .tmp 76]) rfl ?_); at_builtin; refine Kd.R_append k46 (w0 := w) w.heap.size rfl (.tmp 74) (.tmp 76) 27 46 (.agg #[(.int .i64 0), (.int .i64 0), (.int .i64 0)]) 24 rfl Try.underlying27 info46 rfl (by decide) (by omega) u6 x6_1 (⟨wrap64 (Int.tdiv (wrap64 ((wrap64 (2 + ((rd_L2 t425 x9_1).length : Int))) - x439002_2)) 2), 0, x439002_2⟩ : S46) [.int .i64 (wrap64 (Int.tdiv (wrap64 ((wrap64 (2 + ((rd_L2 t425 x9_1).length : Int))) - x439002_2)) 2)), .int .i64 0, .int .i64 x439002_2] (fun k_ => k_ ≠ gb438) (fun _ => False) rfl (by first | (go_simp; done) | (go_simp; rfl)) ?aP (fun _ hk => hk.elim) ?aF ?aO ?aB ?aS ?aL ?_; (case aP => exact k46_mkM _ _ _ (⟨wrap64 (Int.tdiv (wrap64 ((wrap64 (2 + ((rd_L2 t425 x9_1).length : Int))) - x439002_2)) 2), 0, x439002_2⟩ : S46)); (case aB => exact (by repeat (first | (with_reducible first | exact HB.out | apply below_alloc | apply pw_below_drewN | apply below_drew1 | refine below_set ?_ GE438.out) | exact HB.out))); (case aF => exact (fun k_ hk => Kd.freshB (g := gb438) (o := .cells #[.int .i64 (wrap64 (Int.tdiv (wrap64 ((wrap64 (2 + ((rd_L2 t425 x9_1).length : Int))) - x439002_2)) 2)), .int .i64 0, .int .i64 x439002_2] 46 (0, 0)) (by (with_reducible repeat (first | refine blk_drewN ?_ _ | refine blk_drew ?_ | refine blk_alloc ?_ _)); refine blk_put (cs := #[.int .i64 0, .int .i64 0, .int .i64 x439002_2]) ?_ 0 _ rfl; (with_reducible repeat (first | refine blk_drewN ?_ _ | refine blk_drew ?_ | refine blk_alloc ?_ _)); exact BK438.out) k_ hk)); (case aO => exact (by (with_reducible repeat (first | apply Kd.R_alloc | apply Kd.R_drewN | apply Kd.R_drew)); exact Kd.R_mono (Kd.R_far (p := ⟨gb438, 0, none⟩) (Kd.R_mono HO_6.out (fun k_ hk => (⟨hk, hk⟩ : _ ∧ k_ ≠ gb438))) (fun _ hk => hk.2) (.int .i64 (wrap64 (Int.tdiv (wrap64 ((wrap64 (2 + ((rd_L2 t425 x9_1).length : Int))) - x439002_2)) 2)))) (fun _ hk => hk.1))); (case aS => exact (below_size (by repeat (first | (with_reducible first | exact HB.out | apply below_alloc | apply pw_below_drewN | apply below_drew1 | refine below_set ?_ GE438.out) | exact HB.out)))); (case aL => have := LMc34.out; omega); intro v445 w37 ho hb hg hat; rw [← Ny444.out] at ho; replace HO_7 := Aside0.mk (Kd.S_over' (by (with_reducible repeat (first | apply Kd.S_alloc | apply Kd.S_drewN | apply Kd.S_drew)); exact (Kd.S_mono (Kd.S_far (p := ⟨gb438, 0, none⟩) (Kd.S_types HO_7.out BK438.out (by decide)) (fun _ hk => hk.2) (.int .i64 (wrap64 (Int.tdiv (wrap64 ((wrap64 (2 + ((rd_L2 t425 x9_1).length : Int))) - x439002_2)) 2)))) (fun _ h_ => h_.1))) (Kd.R_typed (by (with_reducible repeat (first | apply Kd.R_alloc | apply Kd.R_drewN | apply Kd.R_drew)); exact (Kd.R_mono (Kd.R_far (p := ⟨gb438, 0, none⟩) (Kd.R_mono HO_6.out (fun k_ hk => (⟨hk, hk⟩ : _ ∧ k_ ≠ gb438))) (fun _ hk => hk.2) (.int .i64 (wrap64 (Int.tdiv (wrap64 ((wrap64 (2 + ((rd_L2 t425 x9_1).length : Int))) - x439002_2)) 2)))) (fun _ h_ => h_.1)))) (by decide) hg); replace HO_8 := Aside0.mk (Kd.S_over' (by (with_reducible repeat (first | apply Kd.S_alloc | apply Kd.S_drewN | apply Kd.S_drew)); exact (Kd.S_mono (Kd.S_far (p := ⟨gb438, 0, none⟩) (Kd.S_types HO_8.out BK438.out (by decide)) (fun _ hk => hk.2) (.int .i64 (wrap64 (Int.tdiv (wrap64 ((wrap64 (2 + ((rd_L2 t425 x9_1).length : Int))) - x439002_2)) 2)))) (fun _ h_ => h_.1))) (Kd.R_typed (by (with_reducible repeat (first | apply Kd.R_alloc | apply Kd.R_drewN | apply Kd.R_drew)); exact (Kd.R_mono (Kd.R_far (p := ⟨gb438, 0, none⟩) (Kd.R_mono HO_6.out (fun k_ hk => (⟨hk, hk⟩ : _ ∧ k_ ≠ gb438))) (fun _ hk => hk.2) (.int .i64 (wrap64 (Int.tdiv (wrap64 ((wrap64 (2 + ((rd_L2 t425 x9_1).length : Int))) - x439002_2)) 2)))) (fun _ h_ => h_.1)))) (by decide) hg); replace BK438 := Aside0.mk (blk_grown (g := gb438) (o := .cells #[.int .i64 (wrap64 (Int.tdiv (wrap64 ((wrap64 (2 + ((rd_L2 t425 x9_1).length : Int))) - x439002_2)) 2)), .int .i64 0, .int .i64 x439002_2] 46 (0, 0)) (by (with_reducible repeat (first | refine blk_drewN ?_ _ | refine blk_drew ?_ | refine blk_alloc ?_ _)); refine blk_put (cs := #[.int .i64 0, .int .i64 0, .int .i64 x439002_2]) ?_ 0 _ rfl; (with_reducible repeat (first | refine blk_drewN ?_ _ | refine blk_drew ?_ | refine blk_alloc ?_ _)); exact BK438.out) hg (Kd.R_away HO_6.out (fun _ hk => hk))); replace HB := Aside0.mk (hb); have HO446 := Aside0.mk (ho); clear HO_6; clear ho hb hg hat))
         go_roundg k2
         case measure => exact oK
         case rel => exact ⟨(y444), (wrap64 (x9_1 + 1)), rS, H', ⟨oK⟩, ⟨by (with_reducible repeat (first | apply Kd.R_alloc | apply Kd.R_drewN | apply Kd.R_drew)); exact Kd.R_mono HO446.out (fun _ hk => trivial)⟩, ⟨by (with_reducible repeat (first | apply Kd.S_alloc | apply Kd.S_drewN | apply Kd.S_drew)); exact HO_7.out⟩, ⟨by (with_reducible repeat (first | apply Kd.S_alloc | apply Kd.S_drewN | apply Kd.S_drew)); exact HO_8.out⟩, ⟨by repeat (first | (with_reducible first | exact HB.out | apply below_alloc | apply pw_below_drewN | apply below_drew1 | refine below_set ?_ GE438.out) | exact HB.out)⟩⟩
     ·rw [if_neg c20] at H
      have c20b0 : (a0 == 0) = false := beq_eq_false_iff_ne.mpr c20
      have c20b1 : (a0 != 0) = true := bne_iff_ne.mpr c20
      obtain ⟨LMc38, H⟩ := gda H
      generalize hy447 : (x6_1 ++ [(⟨wrap64 (1 + (wrap64 (((rd_L2 t425 x9_1).length : Int) * (wrap64 (a0 - 1))))), 0, 0⟩ : S46)] : List (S46)) = y447 at H
      have Ny447 := Aside0.mk hy447.symm; clear hy447
      have H' := Aside0.mk H
      clear H
      obtain ⟨Ao39, co39, eo39⟩ := Kd.S_slice HO_7.out
      subst eo39
      have p437 : 0 ≤ (x9_1 : Int) := dT
      have q437 : x9_1 < (t425.length : Int) := dT
      obtain ⟨ad437, A437_0, c437_0, e437, hx437_0, hl437_0, hi437_0⟩ := at_L2 (Kd.S_reads' HO_7.out).2.2 x9_1 p437 q437
      cases e437
      obtain ⟨ce437, hce437, hMe437, hcc437⟩ := Kd.S_get HO_7.out [] x9_1 p437 (by first | exact q437 | exact dT | (have e_ := (Kd.S_reads' HO_7.out).1; omega))
      obtain ⟨ve437_0, rfl, ge437_0⟩ := hMe437
      have hv437_0 := hcc437 0 _ rfl
      rw [Nat.add_zero, show ((Kd.slice 3 (Kd.int .i64))).sz = 1 from rfl, Nat.mul_one] at hv437_0
      replace hv437_0 := Option.some.inj (hv437_0.symm.trans hx437_0)
      rw [hv437_0] at ge437_0
      have HL437_0 := Aside0.mk (show Kd.R (Kd.int .i64) 3 _ _ _ _ (rd_L2 t425 x9_1) from ge437_0)
      clear hv437_0 ge437_0
      clear hcc437 hce437
      have HR437_0 := Aside0.mk hi437_0
      have HC437_0 := Aside0.mk hl437_0
      clear hi437_0 hl437_0
      replace p437 := eq_true p437
      replace q437 := eq_true q437
      go_wp2_with (first | ((with_reducible refine gate_dst (N := 11) rfl ?_); refine box_event ?hg (N := 11) ?hd (cs := #[.int .i64 0, .int .i64 0, .int .i64 0]) (t := 46) ?hr ?_; (case hd => rfl); (case hg => rfl); (case hr => exact gS); intro gb438 hg w40 hbox hb; replace HO_6 := Aside0.mk (Kd.R_below (Kd.R_elderB (by (with_reducible repeat (first | apply Kd.R_alloc | apply Kd.R_drewN | apply Kd.R_drew)); exact HO_6.out) gb438 (Nat.le_of_eq hg.symm)) hb); replace HO_7 := Aside0.mk (Kd.S_below (by (with_reducible repeat (first | apply Kd.S_alloc | apply Kd.S_drewN | apply Kd.S_drew)); exact HO_7.out) hb); replace HO_8 := Aside0.mk (Kd.S_below (by (with_reducible repeat (first | apply Kd.S_alloc | apply Kd.S_drewN | apply Kd.S_drew)); exact HO_8.out) hb); replace HL437_0 := Aside0.mk (Kd.R_below (by (with_reducible repeat (first | apply Kd.R_alloc | apply Kd.R_drewN | apply Kd.R_drew)); exact HL437_0.out) hb); replace HR437_0 := Aside0.mk (Kd.C_below (by repeat (first | (with_reducible exact HR437_0.out) | (with_reducible refine Kd.C_alloc ?_ _) | (with_reducible refine Kd.C_drewN ?_ _) | (with_reducible refine Kd.C_drew ?_) | exact HR437_0.out)) hb); have BK438 := Aside0.mk (hbox); have GW438 := Aside0.mk ((by rw [hg]; exact (below_size tb) : w.heap.size ≤ gb438)); have GE438 := Aside0.mk ((by rw [hg]; exact (below_size tb) : w.heap.size ≤ gb438)); replace HB := Aside0.mk (below_step tb hb); clear hb hbox hg; have hcz41_0 : w40.cell? ⟨gb438, 0, none⟩ = some (.int .i64 0) := (blk_cell BK438.out 0).trans rfl; have hcz41_1 : w40.cell? ⟨gb438, 1, none⟩ = some (.int .i64 0) := (blk_cell BK438.out 1).trans rfl; have hcz41_2 : w40.cell? ⟨gb438, 2, none⟩ = some (.int .i64 0) := (blk_cell BK438.out 2).trans rfl; have hfz41_0 := blk_frozen BK438.out 0; have hfz41_1 := blk_frozen BK438.out 1; have hfz41_2 := blk_frozen BK438.out 2) | ((with_reducible refine gate_builtin (b := .append) (xs := #[.tmp 74, .tmp 76]) rfl ?_); at_builtin; refine Kd.R_append k46 (w0 := w) w.heap.size rfl (.tmp 74) (.tmp 76) 27 46 (.agg #[(.int .i64 0), (.int .i64 0), (.int .i64 0)]) 24 rfl Try.underlying27 info46 rfl (by decide) (by omega) u6 x6_1 (⟨wrap64 (1 + (wrap64 (((rd_L2 t425 x9_1).length : Int) * (wrap64 (a0 - 1))))), 0, 0⟩ : S46) [.int .i64 (wrap64 (1 + (wrap64 (((rd_L2 t425 x9_1).length : Int) * (wrap64 (a0 - 1)))))), .int .i64 0, .int .i64 0] (fun k_ => k_ ≠ gb438) (fun _ => False) rfl (by first | (go_simp; done) | (go_simp; rfl)) ?aP (fun _ hk => hk.elim) ?aF ?aO ?aB ?aS ?aL ?_; (case aP => exact k46_mkM _ _ _ (⟨wrap64 (1 + (wrap64 (((rd_L2 t425 x9_1).length : Int) * (wrap64 (a0 - 1))))), 0, 0⟩ : S46)); (case aB => exact (by repeat (first | (with_reducible first | exact HB.out | apply below_alloc | apply pw_below_drewN | apply below_drew1 | refine below_set ?_ GE438.out) | exact HB.out))); (case aF => exact (fun k_ hk => Kd.freshB (g := gb438) (o := .cells #[.int .i64 (wrap64 (1 + (wrap64 (((rd_L2 t425 x9_1).length : Int) * (wrap64 (a0 - 1)))))), .int .i64 0, .int .i64 0] 46 (0, 0)) (by (with_reducible repeat (first | refine blk_drewN ?_ _ | refine blk_drew ?_ | refine blk_alloc ?_ _)); refine blk_put (cs := #[.int .i64 0, .int .i64 0, .int .i64 0]) ?_ 0 _ rfl; (with_reducible repeat (first | refine blk_drewN ?_ _ | refine blk_drew ?_ | refine blk_alloc ?_ _)); refine blk_put (cs := #[.int .i64 0, .int .i64 0, .int .i64 0]) ?_ 2 _ rfl; (with_reducible repeat (first | refine blk_drewN ?_ _ | refine blk_drew ?_ | refine blk_alloc ?_ _)); refine blk_put (cs := #[.int .i64 0, .int .i64 0, .int .i64 0]) ?_ 1 _ rfl; (with_reducible repeat (first | refine blk_drewN ?_ _ | refine blk_drew ?_ | refine blk_alloc ?_ _)); refine blk_put (cs := #[.int .i64 0, .int .i64 0, .int .i64 0]) ?_ 0 _ rfl; (with_reducible repeat (first | refine blk_drewN ?_ _ | refine blk_drew ?_ | refine blk_alloc ?_ _)); exact BK438.out) k_ hk)); (case aO => exact (by (with_reducible repeat (first | apply Kd.R_alloc | apply Kd.R_drewN | apply Kd.R_drew)); exact Kd.R_mono (Kd.R_far (p := ⟨gb438, 0, none⟩) (Kd.R_far (p := ⟨gb438, 2, none⟩) (Kd.R_far (p := ⟨gb438, 1, none⟩) (Kd.R_far (p := ⟨gb438, 0, none⟩) (Kd.R_mono HO_6.out (fun k_ hk => (⟨hk, hk.2⟩ : _ ∧ k_ ≠ gb438))) (fun _ hk => hk.2) (.int .i64 0)) (fun _ hk => hk.2) (.int .i64 0)) (fun _ hk => hk.2) (.int .i64 0)) (fun _ hk => hk.2) (.int .i64 (wrap64 (1 + (wrap64 (((rd_L2 t425 x9_1).length : Int) * (wrap64 (a0 - 1)))))))) (fun _ hk => hk.1.2))); (case aS => exact (below_size (by repeat (first | (with_reducible first | exact HB.out | apply below_alloc | apply pw_below_drewN | apply below_drew1 | refine below_set ?_ GE438.out) | exact HB.out)))); (case aL => have := LMc38.out; omega); intro v448 w42 ho hb hg hat; rw [← Ny447.out] at ho; replace HO_7 := Aside0.mk (Kd.S_over' (by (with_reducible repeat (first | apply Kd.S_alloc | apply Kd.S_drewN | apply Kd.S_drew)); exact (Kd.S_mono (Kd.S_far (p := ⟨gb438, 0, none⟩) (Kd.S_far (p := ⟨gb438, 2, none⟩) (Kd.S_far (p := ⟨gb438, 1, none⟩) (Kd.S_far (p := ⟨gb438, 0, none⟩) (Kd.S_types HO_7.out BK438.out (by decide)) (fun _ hk => hk.2) (.int .i64 0)) (fun _ hk => hk.2) (.int .i64 0)) (fun _ hk => hk.2) (.int .i64 0)) (fun _ hk => hk.2) (.int .i64 (wrap64 (1 + (wrap64 (((rd_L2 t425 x9_1).length : Int) * (wrap64 (a0 - 1)))))))) (fun _ h_ => h_.1))) (Kd.R_typed (by (with_reducible repeat (first | apply Kd.R_alloc | apply Kd.R_drewN | apply Kd.R_drew)); exact (Kd.R_mono (Kd.R_far (p := ⟨gb438, 0, none⟩) (Kd.R_far (p := ⟨gb438, 2, none⟩) (Kd.R_far (p := ⟨gb438, 1, none⟩) (Kd.R_far (p := ⟨gb438, 0, none⟩) (Kd.R_mono HO_6.out (fun k_ hk => (⟨hk, hk.2⟩ : _ ∧ k_ ≠ gb438))) (fun _ hk => hk.2) (.int .i64 0)) (fun _ hk => hk.2) (.int .i64 0)) (fun _ hk => hk.2) (.int .i64 0)) (fun _ hk => hk.2) (.int .i64 (wrap64 (1 + (wrap64 (((rd_L2 t425 x9_1).length : Int) * (wrap64 (a0 - 1)))))))) (fun _ h_ => h_.1)))) (by decide) hg); replace HO_8 := Aside0.mk (Kd.S_over' (by (with_reducible repeat (first | apply Kd.S_alloc | apply Kd.S_drewN | apply Kd.S_drew)); exact (Kd.S_mono (Kd.S_far (p := ⟨gb438, 0, none⟩) (Kd.S_far (p := ⟨gb438, 2, none⟩) (Kd.S_far (p := ⟨gb438, 1, none⟩) (Kd.S_far (p := ⟨gb438, 0, none⟩) (Kd.S_types HO_8.out BK438.out (by decide)) (fun _ hk => hk.2) (.int .i64 0)) (fun _ hk => hk.2) (.int .i64 0)) (fun _ hk => hk.2) (.int .i64 0)) (fun _ hk => hk.2) (.int .i64 (wrap64 (1 + (wrap64 (((rd_L2 t425 x9_1).length : Int) * (wrap64 (a0 - 1)))))))) (fun _ h_ => h_.1))) (Kd.R_typed (by (with_reducible repeat (first | apply Kd.R_alloc | apply Kd.R_drewN | apply Kd.R_drew)); exact (Kd.R_mono (Kd.R_far (p := ⟨gb438, 0, none⟩) (Kd.R_far (p := ⟨gb438, 2, none⟩) (Kd.R_far (p := ⟨gb438, 1, none⟩) (Kd.R_far (p := ⟨gb438, 0, none⟩) (Kd.R_mono HO_6.out (fun k_ hk => (⟨hk, hk.2⟩ : _ ∧ k_ ≠ gb438))) (fun _ hk => hk.2) (.int .i64 0)) (fun _ hk => hk.2) (.int .i64 0)) (fun _ hk => hk.2) (.int .i64 0)) (fun _ hk => hk.2) (.int .i64 (wrap64 (1 + (wrap64 (((rd_L2 t425 x9_1).length : Int) * (wrap64 (a0 - 1)))))))) (fun _ h_ => h_.1)))) (by decide) hg); replace HL437_0 := Aside0.mk (Kd.R_over' (by (with_reducible repeat (first | apply Kd.R_alloc | apply Kd.R_drewN | apply Kd.R_drew)); exact (Kd.R_mono (Kd.R_far (p := ⟨gb438, 0, none⟩) (Kd.R_far (p := ⟨gb438, 2, none⟩) (Kd.R_far (p := ⟨gb438, 1, none⟩) (Kd.R_far (p := ⟨gb438, 0, none⟩) (Kd.R_types HL437_0.out BK438.out (by decide)) (fun _ hk => hk.2) (.int .i64 0)) (fun _ hk => hk.2) (.int .i64 0)) (fun _ hk => hk.2) (.int .i64 0)) (fun _ hk => hk.2) (.int .i64 (wrap64 (1 + (wrap64 (((rd_L2 t425 x9_1).length : Int) * (wrap64 (a0 - 1)))))))) (fun _ h_ => h_.1))) (Kd.R_typed (by (with_reducible repeat (first | apply Kd.R_alloc | apply Kd.R_drewN | apply Kd.R_drew)); exact (Kd.R_mono (Kd.R_far (p := ⟨gb438, 0, none⟩) (Kd.R_far (p := ⟨gb438, 2, none⟩) (Kd.R_far (p := ⟨gb438, 1, none⟩) (Kd.R_far (p := ⟨gb438, 0, none⟩) (Kd.R_mono HO_6.out (fun k_ hk => (⟨hk, hk.2⟩ : _ ∧ k_ ≠ gb438))) (fun _ hk => hk.2) (.int .i64 0)) (fun _ hk => hk.2) (.int .i64 0)) (fun _ hk => hk.2) (.int .i64 0)) (fun _ hk => hk.2) (.int .i64 (wrap64 (1 + (wrap64 (((rd_L2 t425 x9_1).length : Int) * (wrap64 (a0 - 1)))))))) (fun _ h_ => h_.1)))) (by decide) hg); replace BK438 := Aside0.mk (blk_grown (g := gb438) (o := .cells #[.int .i64 (wrap64 (1 + (wrap64 (((rd_L2 t425 x9_1).length : Int) * (wrap64 (a0 - 1)))))), .int .i64 0, .int .i64 0] 46 (0, 0)) (by (with_reducible repeat (first | refine blk_drewN ?_ _ | refine blk_drew ?_ | refine blk_alloc ?_ _)); refine blk_put (cs := #[.int .i64 0, .int .i64 0, .int .i64 0]) ?_ 0 _ rfl; (with_reducible repeat (first | refine blk_drewN ?_ _ | refine blk_drew ?_ | refine blk_alloc ?_ _)); refine blk_put (cs := #[.int .i64 0, .int .i64 0, .int .i64 0]) ?_ 2 _ rfl; (with_reducible repeat (first | refine blk_drewN ?_ _ | refine blk_drew ?_ | refine blk_alloc ?_ _)); refine blk_put (cs := #[.int .i64 0, .int .i64 0, .int .i64 0]) ?_ 1 _ rfl; (with_reducible repeat (first | refine blk_drewN ?_ _ | refine blk_drew ?_ | refine blk_alloc ?_ _)); refine blk_put (cs := #[.int .i64 0, .int .i64 0, .int .i64 0]) ?_ 0 _ rfl; (with_reducible repeat (first | refine blk_drewN ?_ _ | refine blk_drew ?_ | refine blk_alloc ?_ _)); exact BK438.out) hg (Kd.R_away HO_6.out (fun _ hk => hk.2))); replace HB := Aside0.mk (hb); have HO449 := Aside0.mk (ho); clear HO_6; clear ho hb hg hat))
      go_roundg k1
      case measure => exact oK
      case rel => exact ⟨(y447), (wrap64 (x9_1 + 1)), rS, H', ⟨oK⟩, ⟨by (with_reducible repeat (first | apply Kd.R_alloc | apply Kd.R_drewN | apply Kd.R_drew)); exact Kd.R_mono HO449.out (fun _ hk => trivial)⟩, ⟨by (with_reducible repeat (first | apply Kd.S_alloc | apply Kd.S_drewN | apply Kd.S_drew)); exact HO_7.out⟩, ⟨by (with_reducible repeat (first | apply Kd.S_alloc | apply Kd.S_drewN | apply Kd.S_drew)); exact HO_8.out⟩, ⟨by repeat (first | (with_reducible first | exact HB.out | apply below_alloc | apply pw_below_drewN | apply below_drew1 | refine below_set ?_ GE438.out) | exact HB.out)⟩⟩
    ·simp only [Option.some.injEq, Prod.mk.injEq] at H
     obtain ⟨rfl, rfl⟩ := H
     obtain ⟨Ao43, co43, eo43⟩ := Kd.S_slice HO_7.out
     subst eo43
     go_wp2
     go_ret2
     exact ⟨_, rE, by (with_reducible repeat (first | apply Kd.R_alloc | apply Kd.R_drewN | apply Kd.R_drew)); exact HO_6.out, tb⟩
 ·replace c4 := Bool.eq_false_iff.mpr c4
  subst c4
  rw [if_neg (show ¬ (false = true) by decide)] at H
  generalize hy419 : (([] : List (S46)) : List (S46)) = y419 at H
  have Ny419 := Aside0.mk hy419.symm; clear hy419
  simp only [Option.some.injEq, Prod.mk.injEq] at H
  obtain ⟨rfl, rfl⟩ := H
  go_enter Try.func7, Try.ntmps7
  go_wp2_with (first | (refine gL 24 (some 15) Try.func24 #[.int .i64 a0, .slice A1 l1.length c1] ?_; (with_reducible refine (spec_IsAction.calls k a0 _ _ l1 false _ ?side1 ?side2 A3.out).mono ?_); (case side1 => repeat (first | exact HR1.out | (with_reducible refine Kd.C_alloc ?_ _) | (with_reducible refine Kd.C_drewN ?_ _) | (with_reducible refine Kd.C_drew ?_))); (case side2 => exact HC1.out); rintro e w44 ⟨rfl, hb⟩; refine ⟨_, rfl, ?_⟩; replace HB := Aside0.mk (below_step tb hb); (try clear hb); (try clear hb2); (try clear hk); (try clear hi)) | ((with_reducible refine gate_dst (N := 17) rfl ?_); refine Kd.R_lit k46 _ 46 ?hg (N := 17) ?hd (xs := ([] : List (S46))) (inner := []) (ok := fun _ => True) (okp := fun _ => True) ?hr ?hp (fun _ hk => hk) trivial (Below.refl _ _) (Nat.le_refl _) (by simp) ?_; (case hd => rfl); (case hg => rfl); (case hr => exact gS); (case hp => exact (Reps.none _ _)); intro v420 w45 ho46 hb hg_ hnew_; clear hg_ hnew_; (first | rw [← Ny419.out] at ho46 | (simp only [Int.reduceToNat] at ho46; rw [← Ny419.out] at ho46)); have HO421 := Aside0.mk (Kd.R_lower ho46 (below_size tb)); replace HB := Aside0.mk (below_step tb hb); clear hb ho46))
  go_ret2
  exact ⟨_, rE, by (with_reducible repeat (first | apply Kd.R_alloc | apply Kd.R_drewN | apply Kd.R_drew)); exact HO421.out, tb⟩

/-! ### spec_l2Draw: function 42 -/
def spec_l2Draw.l0 : Nat → Int → List Int → Int → List Int → Int → Int → Option (List Int × Int × Int)
 | 0, _, _, _, _, _, _ => none
 | k + 1, x1, x7, x8, x1000, x1001, x1002 => if x8 > 0 then ((spec_l1Below.f x1000 x1001 x1002 x1).bind fun bt456 => ((spec_l1Once.f x1000 bt456.2.1 bt456.2.2 2).bind fun bt459 => (if bt459.1 = true then (if x7.length < 17592186044416 then (spec_l2Draw.l0 k x1 (x7 ++ [wrap64 (-(wrap64 (1 + bt456.1)))]) (wrap64 (x8 - 1)) x1000 bt459.2.1 bt459.2.2) else (none)) else (if x7.length < 17592186044416 then (spec_l2Draw.l0 k x1 (x7 ++ [wrap64 (1 + bt456.1)]) (wrap64 (x8 - 1)) x1000 bt459.2.1 bt459.2.2) else (none))))) else (some (x7, x1001, x1002))
def spec_l2Draw.f (k : Nat) (s0_0 : List Int) (s0_1 : Int) (s0_2 : Int) (a1 : Int) (a2 : Int) : Option (List Int × Int × Int) := (spec_l1Below.f s0_0 s0_1 s0_2 (wrap64 (a2 + 1))).bind fun bt453 => (spec_l2Draw.l0 k a1 (([] : List Int)) bt453.1 s0_0 bt453.2.1 bt453.2.2)
set_option maxHeartbeats 8000000 in
set_option maxRecDepth 100000 in
theorem spec_l2Draw.calls (k : Nat) (g : Nat) (s0_0 : List Int) (s0_1 : Int) (s0_2 : Int) (a1 : Int) (a2 : Int) (r1 : List Int) (r2 : Int) (r3 : Int) (w0 w : World) (hI : IsS77 w0 w g s0_0 s0_1 s0_2) (hB : Below w0.heap.size w0 w) (h : spec_l2Draw.f k s0_0 s0_1 s0_2 a1 a2 = some (r1, r2, r3)) :
  Calls Try.prog 42 #[.pointer (some ⟨g, 0, none⟩), .int .i64 a1, .int .i64 a2] w fun e w' => ∃ v0_ : Value, e = .returned (v0_) ∧ Kd.R (Kd.int .i64) 3 w' w.heap.size (fun _ => True) v0_ r1 ∧ IsS77 w0 w' g s0_0 r2 r3 ∧ Below w0.heap.size w0 w' ∧ KeepBut w w' g none := by
 have HI0 := Aside0.mk hI
 have HK := Aside0.mk (KeepBut.refl w g none)
 have HL := Aside0.mk hB.size
 clear hI
 have HW0 := Aside0.mk hB.size
 have HB := Aside0.mk hB
 clear hB
 have H : ((spec_l1Below.f s0_0 s0_1 s0_2 (wrap64 (a2 + 1))).bind fun bt453 => (spec_l2Draw.l0 k a1 (([] : List Int)) bt453.1 s0_0 bt453.2.1 bt453.2.2)) = some (r1, r2, r3) := h
 clear h
 generalize hy450 : (([] : List Int) : List Int) = y450 at H
 have Ny450 := Aside0.mk hy450.symm; clear hy450
 obtain ⟨⟨t453, t454, t455⟩, A4, H⟩ := bs H
 try dsimp only at H
 have H' := Aside0.mk H
 clear H
 go_enter Try.func42, Try.ntmps42
 go_wp2_with (first | ((with_reducible refine gate_dst (N := 10) rfl ?_); refine Kd.R_lit (Kd.int .i64) _ 3 ?hg (N := 10) ?hd (xs := ([] : List Int)) (inner := []) (ok := fun _ => True) (okp := fun _ => True) ?hr ?hp (fun _ hk => hk) trivial (Below.refl _ _) (Nat.le_refl _) (by simp) ?_; (case hd => rfl); (case hg => rfl); (case hr => exact gS); (case hp => exact (Reps.none _ _)); intro v451 w5 ho6 hb hg_ hnew_; clear hg_ hnew_; (first | rw [← Ny450.out] at ho6 | (simp only [Int.reduceToNat] at ho6; rw [← Ny450.out] at ho6)); have HO452 := Aside0.mk (Kd.R_lower ho6 (zK)); replace HK := Aside0.mk (KeepBut.trans tK (KeepBut.of_below hb g none) (.inl rfl)); replace HB := Aside0.mk (below_step tB hb); replace HI0 := Aside0.mk (IsS77.below tI hb); clear hb ho6) | (refine gL 46 (some 14) Try.func46 #[.pointer (some ⟨g, 0, none⟩), .int .i64 (wrap64 (a2 + 1))] ?_; (with_reducible refine (spec_l1Below.calls g s0_0 s0_1 s0_2 (wrap64 (a2 + 1)) t453 t454 t455 w0 _ ?side1 ?side2 A4.out).mono ?_); (case side1 => exact tI); (case side2 => exact tB); rintro e w7 ⟨rfl, hi, hb, hk⟩; refine ⟨_, rfl, ?_⟩; replace HO452 := Aside0.mk (Kd.R_mono (Kd.R_keep (IsS77.apart (show IsS77 w0 _ g s0_0 s0_1 s0_2 from tI) (by (with_reducible repeat (first | apply Kd.R_alloc | apply Kd.R_drewN | apply Kd.R_drew)); exact HO452.out) (by decide)) hk (fun _ h => h.2)) (fun _ h => h.1)); replace HK := Aside0.mk (KeepBut.trans tK hk (.inl rfl)); replace HB := Aside0.mk (hb); replace HI0 := Aside0.mk (hi); (try clear hb); (try clear hb2); (try clear hk); (try clear hi)))
 go_loopg [7, 8] k (fun kq v7 v8 w' => ∃ (x7_1 : List Int) (x8_1 : Int) (x1001_1 : Int) (x1002_1 : Int), v8 = .int .i64 x8_1 ∧ Aside0 (spec_l2Draw.l0 kq a1 x7_1 x8_1 s0_0 x1001_1 x1002_1 = some (r1, r2, r3)) ∧ Aside0 (kq ≤ k) ∧ Aside0 (Kd.R (Kd.int .i64) 3 w' w.heap.size (fun _ => True) v7 x7_1) ∧ Aside0 (IsS77 w0 w' g s0_0 x1001_1 x1002_1) ∧ Aside0 (KeepBut w w' g none) ∧ Aside0 (Below w0.heap.size w0 w'))
 case atStart => exact ⟨(y450), (t453), (t454), (t455), rS, H', ⟨Nat.le_refl _⟩, ⟨by (with_reducible repeat (first | apply Kd.R_alloc | apply Kd.R_drewN | apply Kd.R_drew)); exact HO452.out⟩, ⟨tI⟩, ⟨tK⟩, ⟨tB⟩⟩
 case round =>
  clear H'
  try clear p2
  try clear c4
  try clear p6
  obtain ⟨x7_1, x8_1, x1001_1, x1002_1, rfl, HA, HK1, HO_7, HI0, HK, HB⟩ := hrel
  cases gk with
  | zero => exact absurd HA.out (by simp [spec_l2Draw.l0])
  | succ k1 =>
   have H := HA.out
   clear HA
   simp only [spec_l2Draw.l0] at H
   by_cases c8 : x8_1 > 0
   ·rw [if_pos c8] at H
    have c8b0 : decide (0 < x8_1) = true := decide_eq_true c8
    clear c8
    obtain ⟨⟨t456, t457, t458⟩, A9, H⟩ := bs H
    try dsimp only at H
    obtain ⟨⟨t459, t460, t461⟩, A10, H⟩ := bs H
    try dsimp only at H
    by_cases c11 : t459 = true
    ·subst c11
     rw [if_pos rfl] at H
     obtain ⟨LMc12, H⟩ := gda H
     generalize hy462 : (x7_1 ++ [wrap64 (-(wrap64 (1 + t456)))] : List Int) = y462 at H
     have Ny462 := Aside0.mk hy462.symm; clear hy462
     have H' := Aside0.mk H
     clear H
     go_wp2_with (first | (refine gL 46 (some 21) Try.func46 #[.pointer (some ⟨g, 0, none⟩), .int .i64 a1] ?_; (with_reducible refine (spec_l1Below.calls g s0_0 x1001_1 x1002_1 a1 t456 t457 t458 w0 _ ?side1 ?side2 A9.out).mono ?_); (case side1 => exact tI); (case side2 => exact tB); rintro e w13 ⟨rfl, hi, hb, hk⟩; refine ⟨_, rfl, ?_⟩; replace HO_7 := Aside0.mk (Kd.R_mono (Kd.R_keep (IsS77.apart (show IsS77 w0 _ g s0_0 x1001_1 x1002_1 from tI) (by (with_reducible repeat (first | apply Kd.R_alloc | apply Kd.R_drewN | apply Kd.R_drew)); exact HO_7.out) (by decide)) hk (fun _ h => h.2)) (fun _ h => h.1)); replace HK := Aside0.mk (KeepBut.trans tK hk (.inl rfl)); replace HB := Aside0.mk (hb); replace HI0 := Aside0.mk (hi); (try clear hb); (try clear hb2); (try clear hk); (try clear hi)) | (refine gL 47 (some 24) Try.func47 #[.pointer (some ⟨g, 0, none⟩), .int .i64 2] ?_; (with_reducible refine (spec_l1Once.calls g s0_0 t457 t458 2 true t460 t461 w0 _ ?side1 ?side2 A10.out).mono ?_); (case side1 => exact tI); (case side2 => exact tB); rintro e w14 ⟨rfl, hi, hb, hk⟩; refine ⟨_, rfl, ?_⟩; replace HO_7 := Aside0.mk (Kd.R_mono (Kd.R_keep (IsS77.apart (show IsS77 w0 _ g s0_0 t457 t458 from tI) (by (with_reducible repeat (first | apply Kd.R_alloc | apply Kd.R_drewN | apply Kd.R_drew)); exact HO_7.out) (by decide)) hk (fun _ h => h.2)) (fun _ h => h.1)); replace HK := Aside0.mk (KeepBut.trans tK hk (.inl rfl)); replace HB := Aside0.mk (hb); replace HI0 := Aside0.mk (hi); (try clear hb); (try clear hb2); (try clear hk); (try clear hi)) | ((with_reducible refine gate_builtin (b := .append) (xs := #[.tmp 27, .tmp 29]) rfl ?_); at_builtin; refine Kd.R_append (Kd.int .i64) w.heap.size rfl (.tmp 27) (.tmp 29) 30 3 (.int .i64 0) 8 rfl Try.underlying30 info3 rfl (by decide) (by omega) u7 x7_1 (wrap64 (-(wrap64 (1 + t456)))) [.int .i64 (wrap64 (-(wrap64 (1 + t456))))] (fun _ => True) (fun _ => False) rfl rfl ?aP (fun _ hk => hk.elim) ?aF ?aO (Below.refl _ _) ?aS ?aL ?_; (case aP => exact rfl); (case aF => exact (fun _ _ => trivial)); (case aO => exact (by (with_reducible repeat (first | apply Kd.R_alloc | apply Kd.R_drewN | apply Kd.R_drew)); exact HO_7.out)); (case aS => exact (zK)); (case aL => have := LMc12.out; omega); intro v463 w15 ho hb hg hat; rw [← Ny462.out] at ho; replace HB := Aside0.mk (below_weaken tB HL.out hb); replace HI0 := Aside0.mk (IsS77.grown tI hg (IsS77.own_ne HI0.out HO_7.out (by decide))); replace HK := Aside0.mk (KeepBut.trans tK (KeepBut.of_grown hg g) (Kd.R_base2 HO_7.out)); have HO464 := Aside0.mk (ho); clear HO_7; clear ho hb hg hat))
     go_roundg k1
     case measure => exact oK
     case rel => exact ⟨(y462), (wrap64 (x8_1 - 1)), (t460), (t461), rS, H', ⟨oK⟩, ⟨by (with_reducible repeat (first | apply Kd.R_alloc | apply Kd.R_drewN | apply Kd.R_drew)); exact HO464.out⟩, ⟨tI⟩, ⟨tK⟩, ⟨tB⟩⟩
    ·replace c11 := Bool.eq_false_iff.mpr c11
     subst c11
     rw [if_neg (show ¬ (false = true) by decide)] at H
     obtain ⟨LMc16, H⟩ := gda H
     generalize hy465 : (x7_1 ++ [wrap64 (1 + t456)] : List Int) = y465 at H
     have Ny465 := Aside0.mk hy465.symm; clear hy465
     have H' := Aside0.mk H
     clear H
     go_wp2_with (first | (refine gL 46 (some 21) Try.func46 #[.pointer (some ⟨g, 0, none⟩), .int .i64 a1] ?_; (with_reducible refine (spec_l1Below.calls g s0_0 x1001_1 x1002_1 a1 t456 t457 t458 w0 _ ?side1 ?side2 A9.out).mono ?_); (case side1 => exact tI); (case side2 => exact tB); rintro e w17 ⟨rfl, hi, hb, hk⟩; refine ⟨_, rfl, ?_⟩; replace HO_7 := Aside0.mk (Kd.R_mono (Kd.R_keep (IsS77.apart (show IsS77 w0 _ g s0_0 x1001_1 x1002_1 from tI) (by (with_reducible repeat (first | apply Kd.R_alloc | apply Kd.R_drewN | apply Kd.R_drew)); exact HO_7.out) (by decide)) hk (fun _ h => h.2)) (fun _ h => h.1)); replace HK := Aside0.mk (KeepBut.trans tK hk (.inl rfl)); replace HB := Aside0.mk (hb); replace HI0 := Aside0.mk (hi); (try clear hb); (try clear hb2); (try clear hk); (try clear hi)) | (refine gL 47 (some 24) Try.func47 #[.pointer (some ⟨g, 0, none⟩), .int .i64 2] ?_; (with_reducible refine (spec_l1Once.calls g s0_0 t457 t458 2 false t460 t461 w0 _ ?side1 ?side2 A10.out).mono ?_); (case side1 => exact tI); (case side2 => exact tB); rintro e w18 ⟨rfl, hi, hb, hk⟩; refine ⟨_, rfl, ?_⟩; replace HO_7 := Aside0.mk (Kd.R_mono (Kd.R_keep (IsS77.apart (show IsS77 w0 _ g s0_0 t457 t458 from tI) (by (with_reducible repeat (first | apply Kd.R_alloc | apply Kd.R_drewN | apply Kd.R_drew)); exact HO_7.out) (by decide)) hk (fun _ h => h.2)) (fun _ h => h.1)); replace HK := Aside0.mk (KeepBut.trans tK hk (.inl rfl)); replace HB := Aside0.mk (hb); replace HI0 := Aside0.mk (hi); (try clear hb); (try clear hb2); (try clear hk); (try clear hi)) | ((with_reducible refine gate_builtin (b := .append) (xs := #[.tmp 27, .tmp 29]) rfl ?_); at_builtin; refine Kd.R_append (Kd.int .i64) w.heap.size rfl (.tmp 27) (.tmp 29) 30 3 (.int .i64 0) 8 rfl Try.underlying30 info3 rfl (by decide) (by omega) u7 x7_1 (wrap64 (1 + t456)) [.int .i64 (wrap64 (1 + t456))] (fun _ => True) (fun _ => False) rfl rfl ?aP (fun _ hk => hk.elim) ?aF ?aO (Below.refl _ _) ?aS ?aL ?_; (case aP => exact rfl); (case aF => exact (fun _ _ => trivial)); (case aO => exact (by (with_reducible repeat (first | apply Kd.R_alloc | apply Kd.R_drewN | apply Kd.R_drew)); exact HO_7.out)); (case aS => exact (zK)); (case aL => have := LMc16.out; omega); intro v466 w19 ho hb hg hat; rw [← Ny465.out] at ho; replace HB := Aside0.mk (below_weaken tB HL.out hb); replace HI0 := Aside0.mk (IsS77.grown tI hg (IsS77.own_ne HI0.out HO_7.out (by decide))); replace HK := Aside0.mk (KeepBut.trans tK (KeepBut.of_grown hg g) (Kd.R_base2 HO_7.out)); have HO467 := Aside0.mk (ho); clear HO_7; clear ho hb hg hat))
     go_roundg k1
     case measure => exact oK
     case rel => exact ⟨(y465), (wrap64 (x8_1 - 1)), (t460), (t461), rS, H', ⟨oK⟩, ⟨by (with_reducible repeat (first | apply Kd.R_alloc | apply Kd.R_drewN | apply Kd.R_drew)); exact HO467.out⟩, ⟨tI⟩, ⟨tK⟩, ⟨tB⟩⟩
   ·rw [if_neg c8] at H
    have c8b0 : decide (0 < x8_1) = false := decide_eq_false c8
    clear c8
    simp only [Option.some.injEq, Prod.mk.injEq] at H
    obtain ⟨rfl, rfl, rfl⟩ := H
    go_wp2
    go_ret
    exact ⟨_, rE, by (with_reducible repeat (first | apply Kd.R_alloc | apply Kd.R_drewN | apply Kd.R_drew)); exact HO_7.out, tI, tB, tK⟩

/-! ### spec_DrawActWord: function 8 -/
def spec_DrawActWord.f (k : Nat) (l0 : List Int) : Option ((List (List Int)) × List Int) := (spec_l1New.f k l0).bind fun bt468 => ((spec_l9Draw.f k bt468.1 bt468.2.1 bt468.2.2).bind fun bt472 => ((spec_l2Draw.f k bt468.1 bt472.2.2.1 bt472.2.2.2 2 6).bind fun bt478 => (some (bt472.2.1, bt478.1))))
set_option maxHeartbeats 8000000 in
set_option maxRecDepth 100000 in
theorem spec_DrawActWord.calls (k : Nat) (A0 : Option Addr) (c0 : Nat) (l0 : List Int) (r1 : List (List Int)) (r2 : List Int) (w : World) (hr0 : Kd.C (Kd.int .u8) w A0 l0.length l0) (hc0 : l0.length ≤ c0) (h : spec_DrawActWord.f k l0 = some (r1, r2)) :
  Calls Try.prog 8 #[.slice A0 l0.length c0] w fun e w' => ∃ v0_ v1_ : Value, e = .returned (.tuple #[v0_, v1_]) ∧ Kd.N (Kd.slice 3 (Kd.int .i64)) 30 w' w.heap.size (fun k_ => (w.heap.size ≤ k_) ∧ some k_ ≠ (v1_ : Value).ownBlock) v0_ r1 ∧ Kd.R (Kd.int .i64) 3 w' w.heap.size (fun k_ => (w.heap.size ≤ k_)) v1_ r2 ∧ Below w.heap.size w w' := by
 have HR0 := Aside0.mk hr0
 have HC0 := Aside0.mk hc0
 clear hr0 hc0
 have HB := Aside0.mk (Below.refl w.heap.size w)
 have H : ((spec_l1New.f k l0).bind fun bt468 => ((spec_l9Draw.f k bt468.1 bt468.2.1 bt468.2.2).bind fun bt472 => ((spec_l2Draw.f k bt468.1 bt472.2.2.1 bt472.2.2.2 2 6).bind fun bt478 => (some (bt472.2.1, bt478.1))))) = some (r1, r2) := h
 clear h
 obtain ⟨⟨t468, t469, t470⟩, A2, H⟩ := bs H
 try dsimp only at H
 obtain ⟨⟨t472, t473, t476, t477⟩, A3, H⟩ := bs H
 try dsimp only at H
 obtain ⟨⟨t478, t481, t482⟩, A4, H⟩ := bs H
 try dsimp only at H
 simp only [Option.some.injEq, Prod.mk.injEq] at H
 obtain ⟨rfl, rfl⟩ := H
 go_enter Try.func8, Try.ntmps8
 go_wp2_with (first | (refine gL 30 (some 8) Try.func30 #[.slice A0 l0.length c0] ?_; (with_reducible refine (spec_l1New.calls k _ _ l0 t468 t469 t470 w _ ?side1 ?side2 ?side3 A2.out).mono ?_); (case side1 => exact tb); (case side2 => exact HR0.out); (case side3 => exact HC0.out); rintro e w5 ⟨g471, rfl, hi, hb, hb2⟩; refine ⟨_, rfl, ?_⟩; replace HB := Aside0.mk (hb); have HI471 := Aside0.mk (hi); (try clear hb); (try clear hb2); (try clear hk); (try clear hi)) | (refine gL 29 (some 11) Try.func29 #[.pointer (some ⟨g471, 0, none⟩)] ?_; (with_reducible refine (spec_l9Draw.calls k g471 t468 t469 t470 t472 t473 t476 t477 w _ ?side1 ?side2 A3.out).mono ?_); (case side1 => repeat (first | (with_reducible first | exact HI471.out | apply IsS77.alloc | apply IsS77.drewN | apply IsS77.drew | apply IsS77.set_1 | apply IsS77.set_2) | exact HI471.out)); (case side2 => repeat (first | (with_reducible first | exact HB.out | apply below_alloc | apply pw_below_drewN | apply below_drew1 | refine below_set ?_ (IsS77.ge HI471.out)) | exact HB.out)); rintro e w6 ⟨v474, rfl, ho0, hi, hb, hk⟩; refine ⟨_, rfl, ?_⟩; have HO475 := Aside0.mk (Kd.N_lower (Kd.N_mono (ok' := fun k_ => (w.heap.size ≤ k_) ∧ k_ ≠ g471) ho0 (fun k_ hk_ => ⟨(Nat.le_trans (below_size (by repeat (first | (with_reducible first | exact HB.out | apply below_alloc | apply pw_below_drewN | apply below_drew1 | refine below_set ?_ (IsS77.ge HI471.out)) | exact HB.out))) hk_), (IsS77.fresh (by repeat (first | (with_reducible first | exact HI471.out | apply IsS77.alloc | apply IsS77.drewN | apply IsS77.drew | apply IsS77.set_1 | apply IsS77.set_2) | exact HI471.out)) k_ hk_)⟩)) (below_size (by repeat (first | (with_reducible first | exact HB.out | apply below_alloc | apply pw_below_drewN | apply below_drew1 | refine below_set ?_ (IsS77.ge HI471.out)) | exact HB.out)))); replace HB := Aside0.mk (hb); replace HI471 := Aside0.mk (hi); (try clear hb); (try clear hb2); (try clear hk); (try clear hi); (try clear ho0)) | (refine gL 42 (some 16) Try.func42 #[.pointer (some ⟨g471, 0, none⟩), .int .i64 2, .int .i64 6] ?_; (with_reducible refine (spec_l2Draw.calls k g471 t468 t476 t477 2 6 t478 t481 t482 w _ ?side1 ?side2 A4.out).mono ?_); (case side1 => repeat (first | (with_reducible first | exact HI471.out | apply IsS77.alloc | apply IsS77.drewN | apply IsS77.drew | apply IsS77.set_1 | apply IsS77.set_2) | exact HI471.out)); (case side2 => repeat (first | (with_reducible first | exact HB.out | apply below_alloc | apply pw_below_drewN | apply below_drew1 | refine below_set ?_ (IsS77.ge HI471.out)) | exact HB.out)); rintro e w7 ⟨v479, rfl, ho0, hi, hb, hk⟩; refine ⟨_, rfl, ?_⟩; replace HO475 := Aside0.mk (Kd.N_mono (Kd.N_told (Kd.N_oldK (Kd.N_mono (ok := fun k_ => (((w.heap.size ≤ k_)) ∧ k_ ≠ g471)) (by (with_reducible repeat (first | apply Kd.N_alloc | apply Kd.N_drewN | apply Kd.N_drew)); exact HO475.out) (fun k_ hk_ => (⟨hk_, hk_.2⟩ : _ ∧ k_ ≠ g471))) hk) (Kd.R_base ho0)) (fun _ h_ => h_.1)); have HO480 := Aside0.mk (Kd.R_lower (Kd.R_newM (M := fun k_ => (w.heap.size ≤ k_)) ho0 (below_size (by repeat (first | (with_reducible first | exact HB.out | apply below_alloc | apply pw_below_drewN | apply below_drew1 | refine below_set ?_ (IsS77.ge HI471.out)) | exact HB.out))) (fun k_ h_ => h_)) (below_size (by repeat (first | (with_reducible first | exact HB.out | apply below_alloc | apply pw_below_drewN | apply below_drew1 | refine below_set ?_ (IsS77.ge HI471.out)) | exact HB.out)))); replace HB := Aside0.mk (hb); replace HI471 := Aside0.mk (hi); (try clear hb); (try clear hb2); (try clear hk); (try clear hi); (try clear ho0)))
 go_ret2
 exact ⟨_, _, rE, by (with_reducible repeat (first | apply Kd.N_alloc | apply Kd.N_drewN | apply Kd.N_drew)); exact Kd.N_mono HO475.out (fun _ hk => ⟨hk.1.1, hk.2⟩), by (with_reducible repeat (first | apply Kd.R_alloc | apply Kd.R_drewN | apply Kd.R_drew)); exact Kd.R_mono HO480.out (fun _ hk => hk.1), by repeat (first | (with_reducible first | exact HB.out | apply below_alloc | apply pw_below_drewN | apply below_drew1 | refine below_set ?_ (IsS77.ge HI471.out)) | exact HB.out)⟩

/-! ### impl_isLetter: function 89 -/
def impl_isLetter.f (a0 : Int) : Option (Bool) := if a0 = 0 then (some false) else ((impl_within.f a0 (-8) 8).bind fun t483 => (some t483))
set_option maxHeartbeats 8000000 in
set_option maxRecDepth 100000 in
theorem impl_isLetter.calls (a0 : Int) (r : Bool) (w : World) (h : impl_isLetter.f a0 = some r) :
  Calls Try.prog 89 #[.int .i64 a0] w fun e w' => e = .returned (.bool r) ∧ Drawn0 w w' := by
 have H : (if a0 = 0 then (some false) else ((impl_within.f a0 (-8) 8).bind fun t483 => (some t483))) = some r := h
 clear h
 by_cases c2 : a0 = 0
 ·rw [if_pos c2] at H
  have c2b0 : (a0 == 0) = true := beq_iff_eq.mpr c2
  have c2b1 : (a0 != 0) = false := bne_eq_false_iff_eq.mpr c2
  clear c2
  obtain rfl := Option.some.inj H
  go_enter Try.func89, Try.ntmps89
  go_wp2
  go_ret
  exact ⟨rS, tD⟩
 ·rw [if_neg c2] at H
  have c2b0 : (a0 == 0) = false := beq_eq_false_iff_ne.mpr c2
  have c2b1 : (a0 != 0) = true := bne_iff_ne.mpr c2
  obtain ⟨t483, A3, H⟩ := bs H
  obtain rfl := Option.some.inj H
  go_enter Try.func89, Try.ntmps89
  go_wp2_with (first | (go_at_call 48; (with_reducible refine (impl_within.calls a0 (-8) 8 t483 _ A3.out).mono ?_); rintro e w' ⟨rfl, ⟨nd, rfl⟩⟩))
  go_ret
  exact ⟨rS, tD⟩

end Go.Proofs.Ytepogblkmiidnaa.PFnCovers
