import Derived.Test.YtimjefomgaaegaaWLater
import Derived.Test.YtimjefomgaaegaaPFnTwistsx0
import Derived.Test.YtimjefomgaaegaaPFnTwistsx1
import Derived.Test.YtimjefomgaaegaaPFnTwistsx2
import Derived.Test.YtimjefomgaaegaaPFnTwistsx5
import Derived.Test.YtimjefomgaaegaaPFnTwistsx9
namespace Go.Proofs.Ytimjefomgaaegaa.PFnTwists
open Go.RowKit Go.Proofs.YtimjefomgaaegaaW.PrintWords Go.Proofs.YtimjefomgaaegaaW.PrintLast Go.Proofs.YtimjefomgaaegaaW.PrintMore
attribute [local go_sem] max2_int min2_int max_two min_two max_three min_three max_four min_four   -- for this text's walks alone
set_option linter.unusedVariables false
set_option linter.unusedSimpArgs false

/-! ### spec_DrawIsSymplectic: function 85 -/
def spec_DrawIsSymplectic.f (k : Nat) (l0 : List Int) : Option (Int × (List (List Int))) := (spec_l11Two.f k l0).bind fun bt441 => ((spec_TwistMatrix.f k bt441.1 bt441.2.1).bind fun bt448 => ((spec_TwistMatrix.f k bt441.1 bt441.2.2).bind fun bt452 => ((spec_TimesTable.f k bt448.1 bt452.1).bind fun bt456 => ((spec_l1New.f k l0).bind fun bt460 => (if bt456.2 = true then ((spec_l1Once.f bt460.1 bt460.2.1 bt460.2.2 3).bind fun bt464 => (if bt464.1 = true then (if 0 < (bt456.1.length : Int) then (if 0 < ((rd_L2 bt456.1 0).length : Int) then (some (bt441.1, (bt456.1.set (0 : Int).toNat ((rd_L2 bt456.1 0).set (0 : Int).toNat (wrap64 ((rd (rd_L2 bt456.1 0) 0) + 1)))))) else (none)) else (none)) else (some (bt441.1, bt456.1)))) else (some (bt441.1, bt456.1)))))))
def spec_DrawIsSymplectic.T7 : Bool × List (List Nat × List Nat) := (true, [([], []), ([0], [0]), ([1], [1]), ([], []), ([3], [3]), ([4], [4]), ([5], [5]), ([6], [6]), ([7], [7]), ([2, 0, 1, 2, 3, 4, 5, 6, 7, 8], [2]), ([9, 8, 0, 1, 2, 3, 4, 5, 6, 7, 8], [8, 9])])
def spec_DrawIsSymplectic.B7 : List Nat := [0, 1, 3, 0, 8, 24, 56, 120, 248, 511, 1023]
theorem spec_DrawIsSymplectic.tab7 : rtab .any (opsOf Try.f85 7) = spec_DrawIsSymplectic.T7 := by kernel_rfl
theorem spec_DrawIsSymplectic.bits7 : waitsOk spec_DrawIsSymplectic.T7.2 spec_DrawIsSymplectic.B7 = true := by kernel_rfl
set_option maxHeartbeats 8000000 in
set_option maxRecDepth 100000 in
theorem spec_DrawIsSymplectic.calls (k : Nat) (A0 : Option Addr) (c0 : Nat) (l0 : List Int) (r1 : Int) (r2 : List (List Int)) (w : World) (hr0 : Kd.C (Kd.int .u8) w A0 l0.length l0) (hc0 : l0.length ≤ c0) (h : spec_DrawIsSymplectic.f k l0 = some (r1, r2)) :
  Calls Try.prog 85 #[.slice A0 l0.length c0] w fun e w' => ∃ v1_ : Value, e = .returned (.tuple #[.int .i64 r1, v1_]) ∧ Kd.S (Kd.slice 3 (Kd.int .i64)) 35 w' w.heap.size (fun _ => True) v1_ r2 ∧ Below w.heap.size w w' := by
 have HR0 := Aside0.mk hr0
 have HC0 := Aside0.mk hc0
 clear hr0 hc0
 have HB := Aside0.mk (Below.refl w.heap.size w)
 have H : ((spec_l11Two.f k l0).bind fun bt441 => ((spec_TwistMatrix.f k bt441.1 bt441.2.1).bind fun bt448 => ((spec_TwistMatrix.f k bt441.1 bt441.2.2).bind fun bt452 => ((spec_TimesTable.f k bt448.1 bt452.1).bind fun bt456 => ((spec_l1New.f k l0).bind fun bt460 => (if bt456.2 = true then ((spec_l1Once.f bt460.1 bt460.2.1 bt460.2.2 3).bind fun bt464 => (if bt464.1 = true then (if 0 < (bt456.1.length : Int) then (if 0 < ((rd_L2 bt456.1 0).length : Int) then (some (bt441.1, (bt456.1.set (0 : Int).toNat ((rd_L2 bt456.1 0).set (0 : Int).toNat (wrap64 ((rd (rd_L2 bt456.1 0) 0) + 1)))))) else (none)) else (none)) else (some (bt441.1, bt456.1)))) else (some (bt441.1, bt456.1)))))))) = some (r1, r2) := h
 clear h
 replace H := Option.bind_eq_some_iff.mp H
 obtain ⟨⟨t441, t442, t443⟩, A20, H⟩ := H
 replace H : ((spec_TwistMatrix.f k t441 t442).bind fun bt448 => ((spec_TwistMatrix.f k t441 t443).bind fun bt452 => ((spec_TimesTable.f k bt448.1 bt452.1).bind fun bt456 => ((spec_l1New.f k l0).bind fun bt460 => (if bt456.2 = true then ((spec_l1Once.f bt460.1 bt460.2.1 bt460.2.2 3).bind fun bt464 => (if bt464.1 = true then (if 0 < (bt456.1.length : Int) then (if 0 < ((rd_L2 bt456.1 0).length : Int) then (some (t441, (bt456.1.set (0 : Int).toNat ((rd_L2 bt456.1 0).set (0 : Int).toNat (wrap64 ((rd (rd_L2 bt456.1 0) 0) + 1)))))) else (none)) else (none)) else (some (t441, bt456.1)))) else (some (t441, bt456.1))))))) = some (r1, r2) := H
 have A2 := Aside0.mk A20
 clear A20
 replace H := Option.bind_eq_some_iff.mp H
 obtain ⟨⟨t448, t449⟩, A30, H⟩ := H
 replace H : ((spec_TwistMatrix.f k t441 t443).bind fun bt452 => ((spec_TimesTable.f k t448 bt452.1).bind fun bt456 => ((spec_l1New.f k l0).bind fun bt460 => (if bt456.2 = true then ((spec_l1Once.f bt460.1 bt460.2.1 bt460.2.2 3).bind fun bt464 => (if bt464.1 = true then (if 0 < (bt456.1.length : Int) then (if 0 < ((rd_L2 bt456.1 0).length : Int) then (some (t441, (bt456.1.set (0 : Int).toNat ((rd_L2 bt456.1 0).set (0 : Int).toNat (wrap64 ((rd (rd_L2 bt456.1 0) 0) + 1)))))) else (none)) else (none)) else (some (t441, bt456.1)))) else (some (t441, bt456.1)))))) = some (r1, r2) := H
 have A3 := Aside0.mk A30
 clear A30
 replace H := Option.bind_eq_some_iff.mp H
 obtain ⟨⟨t452, t453⟩, A40, H⟩ := H
 replace H : ((spec_TimesTable.f k t448 t452).bind fun bt456 => ((spec_l1New.f k l0).bind fun bt460 => (if bt456.2 = true then ((spec_l1Once.f bt460.1 bt460.2.1 bt460.2.2 3).bind fun bt464 => (if bt464.1 = true then (if 0 < (bt456.1.length : Int) then (if 0 < ((rd_L2 bt456.1 0).length : Int) then (some (t441, (bt456.1.set (0 : Int).toNat ((rd_L2 bt456.1 0).set (0 : Int).toNat (wrap64 ((rd (rd_L2 bt456.1 0) 0) + 1)))))) else (none)) else (none)) else (some (t441, bt456.1)))) else (some (t441, bt456.1))))) = some (r1, r2) := H
 have A4 := Aside0.mk A40
 clear A40
 replace H := Option.bind_eq_some_iff.mp H
 obtain ⟨⟨t456, t457⟩, A50, H⟩ := H
 replace H : ((spec_l1New.f k l0).bind fun bt460 => (if t457 = true then ((spec_l1Once.f bt460.1 bt460.2.1 bt460.2.2 3).bind fun bt464 => (if bt464.1 = true then (if 0 < (t456.length : Int) then (if 0 < ((rd_L2 t456 0).length : Int) then (some (t441, (t456.set (0 : Int).toNat ((rd_L2 t456 0).set (0 : Int).toNat (wrap64 ((rd (rd_L2 t456 0) 0) + 1)))))) else (none)) else (none)) else (some (t441, t456)))) else (some (t441, t456)))) = some (r1, r2) := H
 have A5 := Aside0.mk A50
 clear A50
 replace H := Option.bind_eq_some_iff.mp H
 obtain ⟨⟨t460, t461, t462⟩, A60, H⟩ := H
 replace H : (if t457 = true then ((spec_l1Once.f t460 t461 t462 3).bind fun bt464 => (if bt464.1 = true then (if 0 < (t456.length : Int) then (if 0 < ((rd_L2 t456 0).length : Int) then (some (t441, (t456.set (0 : Int).toNat ((rd_L2 t456 0).set (0 : Int).toNat (wrap64 ((rd (rd_L2 t456 0) 0) + 1)))))) else (none)) else (none)) else (some (t441, t456)))) else (some (t441, t456))) = some (r1, r2) := H
 have A6 := Aside0.mk A60
 clear A60
 by_cases c7 : t457 = true
 ·subst c7
  rw [if_pos rfl] at H
  replace H := Option.bind_eq_some_iff.mp H
  obtain ⟨⟨t464, t465, t466⟩, A80, H⟩ := H
  replace H : (if t464 = true then (if 0 < (t456.length : Int) then (if 0 < ((rd_L2 t456 0).length : Int) then (some (t441, (t456.set (0 : Int).toNat ((rd_L2 t456 0).set (0 : Int).toNat (wrap64 ((rd (rd_L2 t456 0) 0) + 1)))))) else (none)) else (none)) else (some (t441, t456))) = some (r1, r2) := H
  have A8 := Aside0.mk A80
  clear A80
  by_cases c9 : t464 = true
  ·subst c9
   rw [if_pos rfl] at H
   by_cases c10 : 0 < (t456.length : Int)
   ·rw [if_pos c10] at H
    have c10b0 : decide (0 < (t456.length : Int)) = true := decide_eq_true c10
    have c10b1 : decide (0 < t456.length) = true := decide_eq_true (by omega)
    clear c10
    by_cases c11 : 0 < ((rd_L2 t456 0).length : Int)
    ·rw [if_pos c11] at H
     have c11b0 : decide (0 < ((rd_L2 t456 0).length : Int)) = true := decide_eq_true c11
     have c11b1 : decide (0 < (rd_L2 t456 0).length) = true := decide_eq_true (by omega)
     clear c11
     obtain ⟨y470, hy470⟩ : ∃ y_ : List Int, y_ = ((rd_L2 t456 0).set (0 : Int).toNat (wrap64 ((rd (rd_L2 t456 0) 0) + 1))) := ⟨_, rfl⟩
     replace H : (some (t441, (t456.set (0 : Int).toNat y470))) = some (r1, r2) := by first | (rw [hy470]; with_reducible exact H) | (have H2_ := (Option.bind_some _ _).symm.trans H; rw [hy470]; with_reducible exact H2_) | (have H2_ := (Option.bind_some _ _).symm.trans H; with_reducible exact H2_) | with_reducible exact H | (rw [hy470]; exact H) | exact H
     have Ny470 := Aside0.mk hy470
     clear hy470
     obtain ⟨y472, hy472⟩ : ∃ y_ : List (List Int), y_ = (t456.set (0 : Int).toNat y470) := ⟨_, rfl⟩
     replace H : (some (t441, y472)) = some (r1, r2) := by first | (rw [hy472]; with_reducible exact H) | (have H2_ := (Option.bind_some _ _).symm.trans H; rw [hy472]; with_reducible exact H2_) | (have H2_ := (Option.bind_some _ _).symm.trans H; with_reducible exact H2_) | with_reducible exact H | (rw [hy472]; exact H) | exact H
     have Ny472 := Aside0.mk hy472
     clear hy472
     simp only [Option.some.injEq, Prod.mk.injEq] at H
     obtain ⟨rfl, rfl⟩ := H
     go_enter Try.func85, Try.ntmps85
     try go_wp2_with (first | (refine gL 167 (some 16) Try.func167 #[.slice A0 l0.length c0] ?_; (with_reducible refine (spec_l11Two.calls k _ _ l0 t441 t442 t443 _ ?side1 ?side2 A2.out).mono ?_); (case side1 => exact C_l HR0.out); (case side2 => exact HC0.out); rintro e w13 ⟨v444, v446, rfl, ho0, ho1, hb⟩; refine ⟨_, rfl, ?_⟩; have n0_ := Aside0.mk (Kd.R_lower ho0 (below_size (B_l HB.out))); have n1_ := Aside0.mk (Kd.R_lower ho1 (below_size (B_l HB.out))); have n2_ := Aside0.mk (below_step (B_l HB.out) hb); clear HB; have HO445 := n0_; have HO447 := n1_; have HB := n2_; clear n0_ n1_ n2_; obtain ⟨Ao14, co14, eo14⟩ := Kd.R_slice HO445.out; subst eo14) | (refine gL 78 (some 23) Try.func78 #[.int .i64 t441, .slice Ao14 t442.length co14] ?_; (with_reducible refine (spec_TwistMatrix.calls k t441 _ _ t442 t448 t449 _ ?side1 ?side2 A3.out).mono ?_); (case side1 => exact C_l ((Kd.R_reads' HO445.out).2.2)); (case side2 => exact (Kd.R_reads' HO445.out).2.1); rintro e w15 ⟨v450, rfl, ho0, hb⟩; refine ⟨_, rfl, ?_⟩; have n0_ := Aside0.mk (Kd.R_below (R_l HO445.out) hb); have n1_ := Aside0.mk (Kd.R_below (R_l HO447.out) hb); have n2_ := Aside0.mk (Kd.S_lower (Kd.S_new' (Kd.S_new' ho0 (Kd.R_lt (R_l HO445.out))) (Kd.R_lt (R_l HO447.out))) (below_size (B_l HB.out))); have n3_ := Aside0.mk (below_step (B_l HB.out) hb); clear HO445; clear HO447; clear HB; have HO445 := n0_; have HO447 := n1_; have HO451 := n2_; have HB := n3_; clear n0_ n1_ n2_ n3_; obtain ⟨Ao16, co16, eo16⟩ := Kd.R_slice HO447.out; subst eo16) | (refine gL 78 (some 29) Try.func78 #[.int .i64 t441, .slice Ao16 t443.length co16] ?_; (with_reducible refine (spec_TwistMatrix.calls k t441 _ _ t443 t452 t453 _ ?side1 ?side2 A4.out).mono ?_); (case side1 => exact C_l ((Kd.R_reads' HO447.out).2.2)); (case side2 => exact (Kd.R_reads' HO447.out).2.1); rintro e w17 ⟨v454, rfl, ho0, hb⟩; refine ⟨_, rfl, ?_⟩; have n0_ := Aside0.mk (Kd.R_below (R_l HO445.out) hb); have n1_ := Aside0.mk (Kd.R_below (R_l HO447.out) hb); have n2_ := Aside0.mk (Kd.S_elder' (S_l HO451.out) (Kd.S_base ho0) hb); have n3_ := Aside0.mk (Kd.S_lower (Kd.S_new' (Kd.S_new' (Kd.S_new' ho0 (Kd.R_lt (R_l HO445.out))) (Kd.R_lt (R_l HO447.out))) (Kd.S_lt (S_l HO451.out))) (below_size (B_l HB.out))); have n4_ := Aside0.mk (below_step (B_l HB.out) hb); clear HO445; clear HO447; clear HO451; clear HB; have HO445 := n0_; have HO447 := n1_; have HO451 := n2_; have HO455 := n3_; have HB := n4_; clear n0_ n1_ n2_ n3_ n4_; obtain ⟨Ao18, co18, eo18⟩ := Kd.S_slice HO451.out; subst eo18; obtain ⟨Ao19, co19, eo19⟩ := Kd.S_slice HO455.out; subst eo19) | (refine gL 84 (some 35) Try.func84 #[.slice Ao18 t448.length co18, .slice Ao19 t452.length co19] ?_; (with_reducible refine (spec_TimesTable.calls k _ _ t448 _ _ t452 t456 true _ ?side1 ?side2 ?side3 ?side4 A5.out).mono ?_); (case side1 => exact C_l ((Kd.S_reads' HO451.out).2.2)); (case side2 => exact (Kd.S_reads' HO451.out).2.1); (case side3 => exact C_l ((Kd.S_reads' HO455.out).2.2)); (case side4 => exact (Kd.S_reads' HO455.out).2.1); rintro e w20 ⟨v458, rfl, ho0, hb⟩; refine ⟨_, rfl, ?_⟩; have n0_ := Aside0.mk (Kd.R_below (R_l HO445.out) hb); have n1_ := Aside0.mk (Kd.R_below (R_l HO447.out) hb); have n2_ := Aside0.mk (Kd.S_elder' (S_l HO451.out) (Kd.S_base ho0) hb); have n3_ := Aside0.mk (Kd.S_elder' (S_l HO455.out) (Kd.S_base ho0) hb); have n4_ := Aside0.mk (Kd.S_lower (Kd.S_new' (Kd.S_new' (Kd.S_new' (Kd.S_new' ho0 (Kd.R_lt (R_l HO445.out))) (Kd.R_lt (R_l HO447.out))) (Kd.S_lt (S_l HO451.out))) (Kd.S_lt (S_l HO455.out))) (below_size (B_l HB.out))); have n5_ := Aside0.mk (below_step (B_l HB.out) hb); clear HO445; clear HO447; clear HO451; clear HO455; clear HB; have HO445 := n0_; have HO447 := n1_; have HO451 := n2_; have HO455 := n3_; have HO459 := n4_; have HB := n5_; clear n0_ n1_ n2_ n3_ n4_ n5_) | (refine gL 100 (some 39) Try.func100 #[.slice A0 l0.length c0] ?_; (with_reducible refine (spec_l1New.calls k _ _ l0 t460 t461 t462 w _ ?side1 ?side2 ?side3 A6.out).mono ?_); (case side1 => repeat (first | (with_reducible first | exact HB.out | apply below_alloc | apply pw_below_drewN | apply below_drew1) | exact HB.out)); (case side2 => exact HR0.out); (case side3 => exact HC0.out); rintro e w21 ⟨g463, rfl, hi, hb, hb2⟩; refine ⟨_, rfl, ?_⟩; have n0_ := Aside0.mk (Kd.R_below (R_l HO445.out) hb2); have n1_ := Aside0.mk (Kd.R_below (R_l HO447.out) hb2); have n2_ := Aside0.mk (Kd.S_below (S_l HO451.out) hb2); have n3_ := Aside0.mk (Kd.S_below (S_l HO455.out) hb2); have n4_ := Aside0.mk (Kd.S_below (S_l HO459.out) hb2); have n5_ := Aside0.mk (hb); have n6_ := Aside0.mk (hi); clear HO445; clear HO447; clear HO451; clear HO455; clear HO459; clear HB; have HO445 := n0_; have HO447 := n1_; have HO451 := n2_; have HO455 := n3_; have HO459 := n4_; have HB := n5_; have HI463 := n6_; clear n0_ n1_ n2_ n3_ n4_ n5_ n6_) | (go_at_call 104; (with_reducible refine (spec_l1Once.calls g463 t460 t461 t462 3 true t465 t466 w _ ?side1 ?side2 A8.out).mono ?_); (case side1 => repeat (first | (with_reducible first | exact HI463.out | apply IsS113.alloc | apply IsS113.drewN | apply IsS113.drew | apply IsS113.set_1 | apply IsS113.set_2) | exact HI463.out)); (case side2 => repeat (first | (with_reducible first | exact HB.out | apply below_alloc | apply pw_below_drewN | apply below_drew1 | refine below_set ?_ (IsS113.ge HI463.out)) | exact HB.out)); rintro e w22 ⟨rfl, hi, hb, hk⟩; have n0_ := Aside0.mk (Kd.R_mono (Kd.R_keep (IsS113.apart (show IsS113 w _ g463 t460 t461 t462 from by repeat (first | (with_reducible first | exact HI463.out | apply IsS113.alloc | apply IsS113.drewN | apply IsS113.drew | apply IsS113.set_1 | apply IsS113.set_2) | exact HI463.out)) (R_l HO445.out) (by decide)) hk (fun _ h => h.2)) (fun _ h => h.1)); have n1_ := Aside0.mk (Kd.R_mono (Kd.R_keep (IsS113.apart (show IsS113 w _ g463 t460 t461 t462 from by repeat (first | (with_reducible first | exact HI463.out | apply IsS113.alloc | apply IsS113.drewN | apply IsS113.drew | apply IsS113.set_1 | apply IsS113.set_2) | exact HI463.out)) (R_l HO447.out) (by decide)) hk (fun _ h => h.2)) (fun _ h => h.1)); have n2_ := Aside0.mk (Kd.S_mono (Kd.S_keep (IsS113.apartS (show IsS113 w _ g463 t460 t461 t462 from by repeat (first | (with_reducible first | exact HI463.out | apply IsS113.alloc | apply IsS113.drewN | apply IsS113.drew | apply IsS113.set_1 | apply IsS113.set_2) | exact HI463.out)) (S_l HO451.out) (by decide)) hk (fun _ h => h.2)) (fun _ h => h.1)); have n3_ := Aside0.mk (Kd.S_mono (Kd.S_keep (IsS113.apartS (show IsS113 w _ g463 t460 t461 t462 from by repeat (first | (with_reducible first | exact HI463.out | apply IsS113.alloc | apply IsS113.drewN | apply IsS113.drew | apply IsS113.set_1 | apply IsS113.set_2) | exact HI463.out)) (S_l HO455.out) (by decide)) hk (fun _ h => h.2)) (fun _ h => h.1)); have n4_ := Aside0.mk (Kd.S_mono (Kd.S_keep (IsS113.apartS (show IsS113 w _ g463 t460 t461 t462 from by repeat (first | (with_reducible first | exact HI463.out | apply IsS113.alloc | apply IsS113.drewN | apply IsS113.drew | apply IsS113.set_1 | apply IsS113.set_2) | exact HI463.out)) (S_l HO459.out) (by decide)) hk (fun _ h => h.2)) (fun _ h => h.1)); have n5_ := Aside0.mk (hb); have n6_ := Aside0.mk (hi); clear HO445; clear HO447; clear HO451; clear HO455; clear HO459; clear HB; clear HI463; have HO445 := n0_; have HO447 := n1_; have HO451 := n2_; have HO455 := n3_; have HO459 := n4_; have HB := n5_; have HI463 := n6_; clear n0_ n1_ n2_ n3_ n4_ n5_ n6_))
     have n0_ := Aside0.mk (Kd.R_drew HO445.out)
     have n1_ := Aside0.mk (Kd.R_drew HO447.out)
     have n2_ := Aside0.mk (Kd.S_drew HO451.out)
     have n3_ := Aside0.mk (Kd.S_drew HO455.out)
     have n4_ := Aside0.mk (Kd.S_drew HO459.out)
     have n5_ := Aside0.mk (IsS113.drew HI463.out)
     have n6_ := Aside0.mk (below_drew1 HB.out)
     clear HO445
     clear HO447
     clear HO451
     clear HO455
     clear HO459
     clear HI463
     clear HB
     have HO445 := n0_
     have HO447 := n1_
     have HO451 := n2_
     have HO455 := n3_
     have HO459 := n4_
     have HI463 := n5_
     have HB := n6_
     clear n0_ n1_ n2_ n3_ n4_ n5_ n6_
     obtain ⟨Ao24, co24, eo24⟩ := Kd.S_slice HO459.out
     (first | subst eo24 | (injection eo24 with f1_ f2_ f3_; have f4_ := f1_.symm; have f5_ := f3_.symm; clear f1_ f2_ f3_; subst f4_; subst f5_))
     have p467 : 0 ≤ (0 : Int) := (by omega)
     have q467 : 0 < (t456.length : Int) := of_decide_eq_true (by first | (with_reducible assumption) | assumption)
     obtain ⟨ad467, A467_0, c467_0, e467, hx467_0, hl467_0, hi467_0⟩ := at_L2 (Kd.S_reads' HO459.out).2.2 0 p467 q467
     cases e467
     obtain ⟨ce467, hce467, hMe467, hcc467⟩ := Kd.S_get HO459.out [] 0 p467 (by first | exact q467 | exact of_decide_eq_true (by first | (with_reducible assumption) | assumption) | (have e_ := (Kd.S_reads' HO459.out).1; omega))
     obtain ⟨ve467_0, rfl, ge467_0⟩ := hMe467
     have hv467_0 := hcc467 0 _ rfl
     rw [Nat.add_zero, show ((Kd.slice 3 (Kd.int .i64))).sz = 1 from rfl, Nat.mul_one] at hv467_0
     replace hv467_0 := Option.some.inj (hv467_0.symm.trans hx467_0)
     rw [hv467_0] at ge467_0
     have HL467_0 := Aside0.mk (show Kd.R (Kd.int .i64) 3 _ _ _ _ (rd_L2 t456 0) from ge467_0)
     clear hv467_0 ge467_0
     have HX467_0 := Aside0.mk hx467_0
     clear hcc467 hce467
     have qi467 : (0 < t456.length) = True := eq_true (by omega)
     (try rw [show ((0 : Int)).toNat = 0 from rfl] at hx467_0)
     (try rw [Addr.add_zero'] at hx467_0)
     have HR467_0 := Aside0.mk hi467_0
     have HC467_0 := Aside0.mk hl467_0
     clear hi467_0 hl467_0
     replace p467 := eq_true p467
     replace q467 := eq_true q467
     have p468 : 0 ≤ (0 : Int) := (by omega)
     have q468 : 0 < (t456.length : Int) := of_decide_eq_true (by first | (with_reducible assumption) | assumption)
     obtain ⟨ad468, A468_0, c468_0, e468, hx468_0, hl468_0, hi468_0⟩ := at_L2 (Kd.S_reads' HO459.out).2.2 0 p468 q468
     obtain rfl : ad467 = ad468 := (by injection e468)
     obtain ⟨ce468, hce468, hMe468, hcc468⟩ := Kd.S_get HO459.out [] 0 p468 (by first | exact q468 | exact of_decide_eq_true (by first | (with_reducible assumption) | assumption) | (have e_ := (Kd.S_reads' HO459.out).1; omega))
     obtain ⟨ve468_0, rfl, ge468_0⟩ := hMe468
     have hv468_0 := hcc468 0 _ rfl
     rw [Nat.add_zero, show ((Kd.slice 3 (Kd.int .i64))).sz = 1 from rfl, Nat.mul_one] at hv468_0
     replace hv468_0 := Option.some.inj (hv468_0.symm.trans hx468_0)
     rw [hv468_0] at ge468_0
     have HL468_0 := Aside0.mk (show Kd.R (Kd.int .i64) 3 _ _ _ _ (rd_L2 t456 0) from ge468_0)
     clear hv468_0 ge468_0
     have HX468_0 := Aside0.mk hx468_0
     clear hcc468 hce468
     have qi468 : (0 < t456.length) = True := eq_true (by omega)
     (try rw [show ((0 : Int)).toNat = 0 from rfl] at hx468_0)
     (try rw [Addr.add_zero'] at hx468_0)
     have HR468_0 := Aside0.mk hi468_0
     have HC468_0 := Aside0.mk hl468_0
     clear hi468_0 hl468_0
     replace p468 := eq_true p468
     replace q468 := eq_true q468
     have ea_ := Option.some.inj (hx467_0.symm.trans hx468_0)
     injection ea_ with ea_ en_ ec_
     subst ea_
     subst ec_
     clear en_
     have p469 : 0 ≤ (0 : Int) := (by omega)
     have q469 : 0 < ((rd_L2 t456 0).length : Int) := of_decide_eq_true (by first | (with_reducible assumption) | assumption)
     obtain ⟨ad469, e469, hx469_0⟩ := Kd.at_int (by repeat (first | (with_reducible exact HR468_0.out) | (with_reducible refine Kd.C_alloc ?_ _) | (with_reducible refine Kd.C_drewN ?_ _) | (with_reducible refine Kd.C_drew ?_) | exact HR468_0.out)) 0 p469 q469
     cases e469
     have qi469 : (0 < (rd_L2 t456 0).length) = True := eq_true (by omega)
     (try rw [show ((0 : Int)).toNat = 0 from rfl] at hx469_0)
     (try rw [Addr.add_zero'] at hx469_0)
     replace p469 := eq_true p469
     replace q469 := eq_true q469
     have p12 : 0 ≤ (0 : Int) := (by omega)
     have q12 : (0 : Int) < (((rd_L2 t456 0).length : Int) : Int) := of_decide_eq_true (by first | (with_reducible assumption) | assumption)
     have qi12 : (0 < (rd_L2 t456 0).length) = True := eq_true (by omega)
     obtain ⟨go12, co12, eo12, gb12, gl12, cl12, HG12⟩ := Kd.R_form HL467_0.out (by omega)
     (first | cases eo12 | (injection eo12 with ea_ en_ ec_; (first | subst ea_ | (injection ea_ with ea_; subst ea_)); subst ec_; clear en_))
     have GB12 := Aside0.mk gb12
     have GG12 := Aside0.mk HG12
     clear gb12 gl12 HG12
     (first | simp only [add_plain] at hx469_0 | skip)
     obtain ⟨hx12_0, hf12_0⟩ := Kd.R_celln 0 HL467_0.out (0 : Int) p12 q12
     (try rw [show ((0 : Int)).toNat = 0 from rfl] at hx12_0)
     (try simp only [Nat.reduceMul, Nat.zero_mul, Nat.zero_add, Nat.reduceAdd] at hx12_0)
     (try rw [show ((0 : Int)).toNat = 0 from rfl] at hf12_0)
     (try simp only [Nat.reduceMul, Nat.zero_mul, Nat.zero_add, Nat.reduceAdd] at hf12_0)
     replace p12 := eq_true p12
     replace q12 := eq_true q12
     have n_ := Aside0.mk (Kd.S_mono (ok' := (fun k_ => some k_ ≠ (.slice Ao14 t442.length co14 : Value).ownBlock ∧ some k_ ≠ (.slice Ao16 t443.length co16 : Value).ownBlock ∧ some k_ ≠ (.slice Ao18 t448.length co18 : Value).ownBlock ∧ some k_ ≠ (.slice Ao19 t452.length co19 : Value).ownBlock)) HO459.out (fun k_ hk => ⟨hk.1.1.1.2, ⟨hk.1.1.2, ⟨hk.1.2, hk.2⟩⟩⟩))
     clear HO459
     have HO459 := n_
     clear n_
     have hq25 : (0 : Int) < (t456.length : Int) := (by have h_ : (0 : Int) < ((t456.length : Int) : Int) := of_decide_eq_true (by first | (with_reducible assumption) | assumption); first | exact h_ | (have e_ := (Kd.S_reads' HO459.out).1; omega) | simpa only [List.length_set, List.length_set] using h_)
     obtain ⟨oki25, ce25, hcl25, hM25, hcc25, hok25, hbk25⟩ := Kd.S_borrow HO459.out [] (0 : Int) (by omega) hq25
     obtain ⟨ve25_0, rfl, ge25_0⟩ := hM25
     have hv25 := hcc25 0 _ rfl
     rw [Nat.add_zero, show ((Kd.slice 3 (Kd.int .i64))).sz = 1 from rfl, Nat.mul_one] at hv25
     replace hv25 := Option.some.inj (hv25.symm.trans HX467_0.out)
     subst hv25
     clear hcc25 hcl25
     replace ge25_0 := (show Kd.R (Kd.int .i64) 3 _ _ _ _ (rd_L2 t456 0) from ge25_0)
     have HP25 := Kd.R_putg ge25_0 (0 : Int) (wrap64 ((rd (rd_L2 t456 0) 0) + 1))
     have HN463_go12 := Aside0.mk (show g463 ≠ go12 from by have h_ := IsS113.own_ne HI463.out HL467_0.out (by decide); intro e_; exact h_ (by rw [e_]; rfl))
     rw [← Ny470.out] at HP25
     have HS25 := hbk25 HP25.2 (fun k_ e_ => by injection e_ with e_; subst e_; exact ge25_0.1 _ rfl) (x' := y470) (Kd.M_row HP25.1)
     rw [← Ny472.out] at HS25
     have HQ25 := Aside0.mk HS25
     clear HP25 HS25 hbk25 hok25
     refine start_ (n := 11) (S := fun w' => w'.cell? ad467 = some (.slice (some ⟨go12, 0, none⟩) (rd_L2 t456 0).length c467_0) ∧ w'.cell? ad467 = some (.slice (some ⟨go12, 0, none⟩) (rd_L2 t456 0).length c467_0) ∧ w'.cell? ⟨go12, 0, none⟩ = some (.int .i64 (rd (rd_L2 t456 0) 0))) (ds := [10]) #[false, false, false, false, false, false, false, false, false, false, false] (by kernel_rfl) rfl rfl ⟨hx467_0, hx468_0, hx469_0⟩ (fun hHeld => ?_); refine with_tabW spec_DrawIsSymplectic.tab7 spec_DrawIsSymplectic.bits7 (fun HT_ HW_ => ?_)
     generalize w22.drew = w23 at HO445 HO447 HO451 HO455 HO459 HI463 HB GG12 HL467_0 HL468_0 HQ25 HR467_0 HR468_0 HX467_0 HX468_0 hf12_0 hx12_0 hx467_0 hx468_0 hx469_0 hHeld ⊢
     refine pure_ (i := 0) (N := some 45) (v := ?_) (a' := ?_) #[true, false, false, false, false, false, false, false, false, false, false] rfl rfl (any_of HT_.out (by kernel_rfl)) (fun _ _ _ h => h) (Or.inl ⟨by rfl, ?_⟩) ?_ ?_
     rotate_left
     ·intro w'
      go_simp
      with_reducible rfl
     rotate_left
     ·simp only [Act.put, List.setIfInBounds_toArray, List.set_cons_zero, List.set_cons_succ, i64_w, i32_w]
      rfl
     refine pure_ (i := 1) (N := some 46) (v := ?_) (a' := ?_) #[true, true, false, false, false, false, false, false, false, false, false] rfl rfl (any_of HT_.out (by kernel_rfl)) (fun _ _ _ h => h) (Or.inl ⟨by rfl, ?_⟩) ?_ ?_
     rotate_left
     ·intro w'
      go_simp
      with_reducible rfl
     rotate_left
     ·simp only [Act.put, List.setIfInBounds_toArray, List.set_cons_zero, List.set_cons_succ, i64_w, i32_w]
      rfl
     refine pure_ (i := 3) (N := some 48) (v := ?_) (a' := ?_) #[true, true, false, true, false, false, false, false, false, false, false] rfl rfl (any_of HT_.out (by kernel_rfl)) (fun _ _ _ h => h) (Or.inl ⟨by rfl, ?_⟩) ?_ ?_
     rotate_left
     ·intro w'
      go_simp
      with_reducible rfl
     rotate_left
     ·simp only [Act.put, List.setIfInBounds_toArray, List.set_cons_zero, List.set_cons_succ, i64_w, i32_w]
      rfl
     refine pure_ (i := 4) (N := some 49) (v := ?_) (a' := ?_) #[true, true, false, true, true, false, false, false, false, false, false] rfl rfl (any_of HT_.out (by kernel_rfl)) (fun _ _ _ h => h) (Or.inl ⟨by rfl, ?_⟩) ?_ ?_
     rotate_left
     ·intro w'
      go_simp
      with_reducible rfl
     rotate_left
     ·simp only [Act.put, List.setIfInBounds_toArray, List.set_cons_zero, List.set_cons_succ, i64_w, i32_w]
      rfl
     refine take_ (i := 2) (N := some 47) (v := ?_) (a' := ?_) #[true, true, true, true, true, false, false, false, false, false, false] rfl rfl (take_ofW HT_.out HW_.out (by kernel_rfl)) (fun _ _ _ h => h) (Or.inl ⟨by rfl, ?_⟩) hHeld ?_ ?_
     rotate_left
     ·rintro w' ⟨s0, s1, s2⟩
      go_simp
      with_reducible rfl
     rotate_left
     ·simp only [Act.put, List.setIfInBounds_toArray, List.set_cons_zero, List.set_cons_succ, i64_w, i32_w]
      rfl
     refine take_ (i := 5) (N := some 50) (v := ?_) (a' := ?_) #[true, true, true, true, true, true, false, false, false, false, false] rfl rfl (take_ofW HT_.out HW_.out (by kernel_rfl)) (fun _ _ _ h => h) (Or.inl ⟨by rfl, ?_⟩) hHeld ?_ ?_
     rotate_left
     ·rintro w' ⟨s0, s1, s2⟩
      go_simp
      with_reducible rfl
     rotate_left
     ·simp only [Act.put, List.setIfInBounds_toArray, List.set_cons_zero, List.set_cons_succ, i64_w, i32_w]
      rfl
     refine pure_ (i := 6) (N := some 51) (v := ?_) (a' := ?_) #[true, true, true, true, true, true, true, false, false, false, false] rfl rfl (any_of HT_.out (by kernel_rfl)) (fun _ _ _ h => h) (Or.inl ⟨by rfl, ?_⟩) ?_ ?_
     rotate_left
     ·intro w'
      go_simp
      with_reducible rfl
     rotate_left
     ·simp only [Act.put, List.setIfInBounds_toArray, List.set_cons_zero, List.set_cons_succ, i64_w, i32_w]
      rfl
     refine take_ (i := 7) (N := some 52) (v := ?_) (a' := ?_) #[true, true, true, true, true, true, true, true, false, false, false] rfl rfl (take_ofW HT_.out HW_.out (by kernel_rfl)) (fun _ _ _ h => h) (Or.inl ⟨by rfl, ?_⟩) hHeld ?_ ?_
     rotate_left
     ·rintro w' ⟨s0, s1, s2⟩
      go_simp
      with_reducible rfl
     rotate_left
     ·simp only [Act.put, List.setIfInBounds_toArray, List.set_cons_zero, List.set_cons_succ, i64_w, i32_w]
      rfl
     refine pure_ (i := 8) (N := some 53) (v := ?_) (a' := ?_) #[true, true, true, true, true, true, true, true, true, false, false] rfl rfl (any_of HT_.out (by kernel_rfl)) (fun _ _ _ h => h) (Or.inl ⟨by rfl, ?_⟩) ?_ ?_
     rotate_left
     ·intro w'
      go_simp
      with_reducible rfl
     rotate_left
     ·simp only [Act.put, List.setIfInBounds_toArray, List.set_cons_zero, List.set_cons_succ, i64_w, i32_w]
      rfl
     refine pure_ (i := 9) (N := some 54) (v := ?_) (a' := ?_) #[true, true, true, true, true, true, true, true, true, true, false] rfl rfl (any_of HT_.out (by kernel_rfl)) (fun _ _ _ h => h) (Or.inl ⟨by rfl, ?_⟩) ?_ ?_
     rotate_left
     ·intro w'
      go_simp
      with_reducible rfl
     rotate_left
     ·simp only [Act.put, List.setIfInBounds_toArray, List.set_cons_zero, List.set_cons_succ, i64_w, i32_w]
      rfl
     refine last_ (i := 10) (N := none) #[true, true, true, true, true, true, true, true, true, true, true] rfl rfl (one_of HT_.out (by kernel_rfl)) (by decide) (fun K hK => ?_)
     refine skip_ (w1 := ?_) (by rfl) rfl ?_ ?_
     rotate_left
     ·go_simp
      rfl
     refine hK.out _ _ ?_
     clear hK K
     refine done_ (done_of HT_.out (by kernel_rfl)) ?_
     try go_wp2
     go_ret2
     exact ⟨_, by first | rfl | (simp [errW_none, errW_some] <;> rfl) | (simp [*, errW_none, errW_some] <;> rfl), by (with_reducible repeat (first | apply Kd.S_alloc | apply Kd.S_drewN | apply Kd.S_drew)); exact Kd.S_mono HQ25.out (fun _ hk => trivial), by repeat (first | (with_reducible first | exact HB.out | apply below_alloc | apply pw_below_drewN | apply below_drew1 | refine below_set ?_ GB12.out | refine below_set ?_ (IsS113.ge HI463.out)) | exact HB.out)⟩
    ·rw [if_neg c11] at H
     exact absurd H (by simp)
   ·rw [if_neg c10] at H
    exact absurd H (by simp)
  ·replace c9 := Bool.eq_false_iff.mpr c9
   subst c9
   rw [if_neg (show ¬ (false = true) by decide)] at H
   simp only [Option.some.injEq, Prod.mk.injEq] at H
   obtain ⟨rfl, rfl⟩ := H
   go_enter Try.func85, Try.ntmps85
   go_wp2_with (first | (refine gL 167 (some 16) Try.func167 #[.slice A0 l0.length c0] ?_; (with_reducible refine (spec_l11Two.calls k _ _ l0 t441 t442 t443 _ ?side1 ?side2 A2.out).mono ?_); (case side1 => exact C_l HR0.out); (case side2 => exact HC0.out); rintro e w27 ⟨v444, v446, rfl, ho0, ho1, hb⟩; refine ⟨_, rfl, ?_⟩; have n0_ := Aside0.mk (Kd.R_lower ho0 (below_size (B_l HB.out))); have n1_ := Aside0.mk (Kd.R_lower ho1 (below_size (B_l HB.out))); have n2_ := Aside0.mk (below_step (B_l HB.out) hb); clear HB; have HO445 := n0_; have HO447 := n1_; have HB := n2_; clear n0_ n1_ n2_; obtain ⟨Ao28, co28, eo28⟩ := Kd.R_slice HO445.out; subst eo28) | (refine gL 78 (some 23) Try.func78 #[.int .i64 t441, .slice Ao28 t442.length co28] ?_; (with_reducible refine (spec_TwistMatrix.calls k t441 _ _ t442 t448 t449 _ ?side1 ?side2 A3.out).mono ?_); (case side1 => exact C_l ((Kd.R_reads' HO445.out).2.2)); (case side2 => exact (Kd.R_reads' HO445.out).2.1); rintro e w29 ⟨v450, rfl, ho0, hb⟩; refine ⟨_, rfl, ?_⟩; have n0_ := Aside0.mk (Kd.R_below (R_l HO445.out) hb); have n1_ := Aside0.mk (Kd.R_below (R_l HO447.out) hb); have n2_ := Aside0.mk (Kd.S_lower (Kd.S_new' (Kd.S_new' ho0 (Kd.R_lt (R_l HO445.out))) (Kd.R_lt (R_l HO447.out))) (below_size (B_l HB.out))); have n3_ := Aside0.mk (below_step (B_l HB.out) hb); clear HO445; clear HO447; clear HB; have HO445 := n0_; have HO447 := n1_; have HO451 := n2_; have HB := n3_; clear n0_ n1_ n2_ n3_; obtain ⟨Ao30, co30, eo30⟩ := Kd.R_slice HO447.out; subst eo30) | (refine gL 78 (some 29) Try.func78 #[.int .i64 t441, .slice Ao30 t443.length co30] ?_; (with_reducible refine (spec_TwistMatrix.calls k t441 _ _ t443 t452 t453 _ ?side1 ?side2 A4.out).mono ?_); (case side1 => exact C_l ((Kd.R_reads' HO447.out).2.2)); (case side2 => exact (Kd.R_reads' HO447.out).2.1); rintro e w31 ⟨v454, rfl, ho0, hb⟩; refine ⟨_, rfl, ?_⟩; have n0_ := Aside0.mk (Kd.R_below (R_l HO445.out) hb); have n1_ := Aside0.mk (Kd.R_below (R_l HO447.out) hb); have n2_ := Aside0.mk (Kd.S_elder' (S_l HO451.out) (Kd.S_base ho0) hb); have n3_ := Aside0.mk (Kd.S_lower (Kd.S_new' (Kd.S_new' (Kd.S_new' ho0 (Kd.R_lt (R_l HO445.out))) (Kd.R_lt (R_l HO447.out))) (Kd.S_lt (S_l HO451.out))) (below_size (B_l HB.out))); have n4_ := Aside0.mk (below_step (B_l HB.out) hb); clear HO445; clear HO447; clear HO451; clear HB; have HO445 := n0_; have HO447 := n1_; have HO451 := n2_; have HO455 := n3_; have HB := n4_; clear n0_ n1_ n2_ n3_ n4_; obtain ⟨Ao32, co32, eo32⟩ := Kd.S_slice HO451.out; subst eo32; obtain ⟨Ao33, co33, eo33⟩ := Kd.S_slice HO455.out; subst eo33) | (refine gL 84 (some 35) Try.func84 #[.slice Ao32 t448.length co32, .slice Ao33 t452.length co33] ?_; (with_reducible refine (spec_TimesTable.calls k _ _ t448 _ _ t452 t456 true _ ?side1 ?side2 ?side3 ?side4 A5.out).mono ?_); (case side1 => exact C_l ((Kd.S_reads' HO451.out).2.2)); (case side2 => exact (Kd.S_reads' HO451.out).2.1); (case side3 => exact C_l ((Kd.S_reads' HO455.out).2.2)); (case side4 => exact (Kd.S_reads' HO455.out).2.1); rintro e w34 ⟨v458, rfl, ho0, hb⟩; refine ⟨_, rfl, ?_⟩; have n0_ := Aside0.mk (Kd.R_below (R_l HO445.out) hb); have n1_ := Aside0.mk (Kd.R_below (R_l HO447.out) hb); have n2_ := Aside0.mk (Kd.S_elder' (S_l HO451.out) (Kd.S_base ho0) hb); have n3_ := Aside0.mk (Kd.S_elder' (S_l HO455.out) (Kd.S_base ho0) hb); have n4_ := Aside0.mk (Kd.S_lower (Kd.S_new' (Kd.S_new' (Kd.S_new' (Kd.S_new' ho0 (Kd.R_lt (R_l HO445.out))) (Kd.R_lt (R_l HO447.out))) (Kd.S_lt (S_l HO451.out))) (Kd.S_lt (S_l HO455.out))) (below_size (B_l HB.out))); have n5_ := Aside0.mk (below_step (B_l HB.out) hb); clear HO445; clear HO447; clear HO451; clear HO455; clear HB; have HO445 := n0_; have HO447 := n1_; have HO451 := n2_; have HO455 := n3_; have HO459 := n4_; have HB := n5_; clear n0_ n1_ n2_ n3_ n4_ n5_) | (refine gL 100 (some 39) Try.func100 #[.slice A0 l0.length c0] ?_; (with_reducible refine (spec_l1New.calls k _ _ l0 t460 t461 t462 w _ ?side1 ?side2 ?side3 A6.out).mono ?_); (case side1 => repeat (first | (with_reducible first | exact HB.out | apply below_alloc | apply pw_below_drewN | apply below_drew1) | exact HB.out)); (case side2 => exact HR0.out); (case side3 => exact HC0.out); rintro e w35 ⟨g463, rfl, hi, hb, hb2⟩; refine ⟨_, rfl, ?_⟩; have n0_ := Aside0.mk (Kd.R_below (R_l HO445.out) hb2); have n1_ := Aside0.mk (Kd.R_below (R_l HO447.out) hb2); have n2_ := Aside0.mk (Kd.S_below (S_l HO451.out) hb2); have n3_ := Aside0.mk (Kd.S_below (S_l HO455.out) hb2); have n4_ := Aside0.mk (Kd.S_below (S_l HO459.out) hb2); have n5_ := Aside0.mk (hb); have n6_ := Aside0.mk (hi); clear HO445; clear HO447; clear HO451; clear HO455; clear HO459; clear HB; have HO445 := n0_; have HO447 := n1_; have HO451 := n2_; have HO455 := n3_; have HO459 := n4_; have HB := n5_; have HI463 := n6_; clear n0_ n1_ n2_ n3_ n4_ n5_ n6_) | (go_at_call 104; (with_reducible refine (spec_l1Once.calls g463 t460 t461 t462 3 false t465 t466 w _ ?side1 ?side2 A8.out).mono ?_); (case side1 => repeat (first | (with_reducible first | exact HI463.out | apply IsS113.alloc | apply IsS113.drewN | apply IsS113.drew | apply IsS113.set_1 | apply IsS113.set_2) | exact HI463.out)); (case side2 => repeat (first | (with_reducible first | exact HB.out | apply below_alloc | apply pw_below_drewN | apply below_drew1 | refine below_set ?_ (IsS113.ge HI463.out)) | exact HB.out)); rintro e w36 ⟨rfl, hi, hb, hk⟩; have n0_ := Aside0.mk (Kd.R_mono (Kd.R_keep (IsS113.apart (show IsS113 w _ g463 t460 t461 t462 from by repeat (first | (with_reducible first | exact HI463.out | apply IsS113.alloc | apply IsS113.drewN | apply IsS113.drew | apply IsS113.set_1 | apply IsS113.set_2) | exact HI463.out)) (R_l HO445.out) (by decide)) hk (fun _ h => h.2)) (fun _ h => h.1)); have n1_ := Aside0.mk (Kd.R_mono (Kd.R_keep (IsS113.apart (show IsS113 w _ g463 t460 t461 t462 from by repeat (first | (with_reducible first | exact HI463.out | apply IsS113.alloc | apply IsS113.drewN | apply IsS113.drew | apply IsS113.set_1 | apply IsS113.set_2) | exact HI463.out)) (R_l HO447.out) (by decide)) hk (fun _ h => h.2)) (fun _ h => h.1)); have n2_ := Aside0.mk (Kd.S_mono (Kd.S_keep (IsS113.apartS (show IsS113 w _ g463 t460 t461 t462 from by repeat (first | (with_reducible first | exact HI463.out | apply IsS113.alloc | apply IsS113.drewN | apply IsS113.drew | apply IsS113.set_1 | apply IsS113.set_2) | exact HI463.out)) (S_l HO451.out) (by decide)) hk (fun _ h => h.2)) (fun _ h => h.1)); have n3_ := Aside0.mk (Kd.S_mono (Kd.S_keep (IsS113.apartS (show IsS113 w _ g463 t460 t461 t462 from by repeat (first | (with_reducible first | exact HI463.out | apply IsS113.alloc | apply IsS113.drewN | apply IsS113.drew | apply IsS113.set_1 | apply IsS113.set_2) | exact HI463.out)) (S_l HO455.out) (by decide)) hk (fun _ h => h.2)) (fun _ h => h.1)); have n4_ := Aside0.mk (Kd.S_mono (Kd.S_keep (IsS113.apartS (show IsS113 w _ g463 t460 t461 t462 from by repeat (first | (with_reducible first | exact HI463.out | apply IsS113.alloc | apply IsS113.drewN | apply IsS113.drew | apply IsS113.set_1 | apply IsS113.set_2) | exact HI463.out)) (S_l HO459.out) (by decide)) hk (fun _ h => h.2)) (fun _ h => h.1)); have n5_ := Aside0.mk (hb); have n6_ := Aside0.mk (hi); clear HO445; clear HO447; clear HO451; clear HO455; clear HO459; clear HB; clear HI463; have HO445 := n0_; have HO447 := n1_; have HO451 := n2_; have HO455 := n3_; have HO459 := n4_; have HB := n5_; have HI463 := n6_; clear n0_ n1_ n2_ n3_ n4_ n5_ n6_))
   go_ret2
   exact ⟨_, by first | rfl | (simp [errW_none, errW_some] <;> rfl) | (simp [*, errW_none, errW_some] <;> rfl), S_l (Kd.S_mono HO459.out (fun _ hk => trivial)), by repeat (first | (with_reducible first | exact HB.out | apply below_alloc | apply pw_below_drewN | apply below_drew1 | refine below_set ?_ (IsS113.ge HI463.out)) | exact HB.out)⟩
 ·replace c7 := Bool.eq_false_iff.mpr c7
  subst c7
  rw [if_neg (show ¬ (false = true) by decide)] at H
  simp only [Option.some.injEq, Prod.mk.injEq] at H
  obtain ⟨rfl, rfl⟩ := H
  go_enter Try.func85, Try.ntmps85
  go_wp2_with (first | (refine gL 167 (some 16) Try.func167 #[.slice A0 l0.length c0] ?_; (with_reducible refine (spec_l11Two.calls k _ _ l0 t441 t442 t443 _ ?side1 ?side2 A2.out).mono ?_); (case side1 => exact C_l HR0.out); (case side2 => exact HC0.out); rintro e w37 ⟨v444, v446, rfl, ho0, ho1, hb⟩; refine ⟨_, rfl, ?_⟩; have n0_ := Aside0.mk (Kd.R_lower ho0 (below_size (B_l HB.out))); have n1_ := Aside0.mk (Kd.R_lower ho1 (below_size (B_l HB.out))); have n2_ := Aside0.mk (below_step (B_l HB.out) hb); clear HB; have HO445 := n0_; have HO447 := n1_; have HB := n2_; clear n0_ n1_ n2_; obtain ⟨Ao38, co38, eo38⟩ := Kd.R_slice HO445.out; subst eo38) | (refine gL 78 (some 23) Try.func78 #[.int .i64 t441, .slice Ao38 t442.length co38] ?_; (with_reducible refine (spec_TwistMatrix.calls k t441 _ _ t442 t448 t449 _ ?side1 ?side2 A3.out).mono ?_); (case side1 => exact C_l ((Kd.R_reads' HO445.out).2.2)); (case side2 => exact (Kd.R_reads' HO445.out).2.1); rintro e w39 ⟨v450, rfl, ho0, hb⟩; refine ⟨_, rfl, ?_⟩; have n0_ := Aside0.mk (Kd.R_below (R_l HO445.out) hb); have n1_ := Aside0.mk (Kd.R_below (R_l HO447.out) hb); have n2_ := Aside0.mk (Kd.S_lower (Kd.S_new' (Kd.S_new' ho0 (Kd.R_lt (R_l HO445.out))) (Kd.R_lt (R_l HO447.out))) (below_size (B_l HB.out))); have n3_ := Aside0.mk (below_step (B_l HB.out) hb); clear HO445; clear HO447; clear HB; have HO445 := n0_; have HO447 := n1_; have HO451 := n2_; have HB := n3_; clear n0_ n1_ n2_ n3_; obtain ⟨Ao40, co40, eo40⟩ := Kd.R_slice HO447.out; subst eo40) | (refine gL 78 (some 29) Try.func78 #[.int .i64 t441, .slice Ao40 t443.length co40] ?_; (with_reducible refine (spec_TwistMatrix.calls k t441 _ _ t443 t452 t453 _ ?side1 ?side2 A4.out).mono ?_); (case side1 => exact C_l ((Kd.R_reads' HO447.out).2.2)); (case side2 => exact (Kd.R_reads' HO447.out).2.1); rintro e w41 ⟨v454, rfl, ho0, hb⟩; refine ⟨_, rfl, ?_⟩; have n0_ := Aside0.mk (Kd.R_below (R_l HO445.out) hb); have n1_ := Aside0.mk (Kd.R_below (R_l HO447.out) hb); have n2_ := Aside0.mk (Kd.S_elder' (S_l HO451.out) (Kd.S_base ho0) hb); have n3_ := Aside0.mk (Kd.S_lower (Kd.S_new' (Kd.S_new' (Kd.S_new' ho0 (Kd.R_lt (R_l HO445.out))) (Kd.R_lt (R_l HO447.out))) (Kd.S_lt (S_l HO451.out))) (below_size (B_l HB.out))); have n4_ := Aside0.mk (below_step (B_l HB.out) hb); clear HO445; clear HO447; clear HO451; clear HB; have HO445 := n0_; have HO447 := n1_; have HO451 := n2_; have HO455 := n3_; have HB := n4_; clear n0_ n1_ n2_ n3_ n4_; obtain ⟨Ao42, co42, eo42⟩ := Kd.S_slice HO451.out; subst eo42; obtain ⟨Ao43, co43, eo43⟩ := Kd.S_slice HO455.out; subst eo43) | (refine gL 84 (some 35) Try.func84 #[.slice Ao42 t448.length co42, .slice Ao43 t452.length co43] ?_; (with_reducible refine (spec_TimesTable.calls k _ _ t448 _ _ t452 t456 false _ ?side1 ?side2 ?side3 ?side4 A5.out).mono ?_); (case side1 => exact C_l ((Kd.S_reads' HO451.out).2.2)); (case side2 => exact (Kd.S_reads' HO451.out).2.1); (case side3 => exact C_l ((Kd.S_reads' HO455.out).2.2)); (case side4 => exact (Kd.S_reads' HO455.out).2.1); rintro e w44 ⟨v458, rfl, ho0, hb⟩; refine ⟨_, rfl, ?_⟩; have n0_ := Aside0.mk (Kd.R_below (R_l HO445.out) hb); have n1_ := Aside0.mk (Kd.R_below (R_l HO447.out) hb); have n2_ := Aside0.mk (Kd.S_elder' (S_l HO451.out) (Kd.S_base ho0) hb); have n3_ := Aside0.mk (Kd.S_elder' (S_l HO455.out) (Kd.S_base ho0) hb); have n4_ := Aside0.mk (Kd.S_lower (Kd.S_new' (Kd.S_new' (Kd.S_new' (Kd.S_new' ho0 (Kd.R_lt (R_l HO445.out))) (Kd.R_lt (R_l HO447.out))) (Kd.S_lt (S_l HO451.out))) (Kd.S_lt (S_l HO455.out))) (below_size (B_l HB.out))); have n5_ := Aside0.mk (below_step (B_l HB.out) hb); clear HO445; clear HO447; clear HO451; clear HO455; clear HB; have HO445 := n0_; have HO447 := n1_; have HO451 := n2_; have HO455 := n3_; have HO459 := n4_; have HB := n5_; clear n0_ n1_ n2_ n3_ n4_ n5_) | (refine gL 100 (some 39) Try.func100 #[.slice A0 l0.length c0] ?_; (with_reducible refine (spec_l1New.calls k _ _ l0 t460 t461 t462 w _ ?side1 ?side2 ?side3 A6.out).mono ?_); (case side1 => repeat (first | (with_reducible first | exact HB.out | apply below_alloc | apply pw_below_drewN | apply below_drew1) | exact HB.out)); (case side2 => exact HR0.out); (case side3 => exact HC0.out); rintro e w45 ⟨g463, rfl, hi, hb, hb2⟩; refine ⟨_, rfl, ?_⟩; have n0_ := Aside0.mk (Kd.R_below (R_l HO445.out) hb2); have n1_ := Aside0.mk (Kd.R_below (R_l HO447.out) hb2); have n2_ := Aside0.mk (Kd.S_below (S_l HO451.out) hb2); have n3_ := Aside0.mk (Kd.S_below (S_l HO455.out) hb2); have n4_ := Aside0.mk (Kd.S_below (S_l HO459.out) hb2); have n5_ := Aside0.mk (hb); have n6_ := Aside0.mk (hi); clear HO445; clear HO447; clear HO451; clear HO455; clear HO459; clear HB; have HO445 := n0_; have HO447 := n1_; have HO451 := n2_; have HO455 := n3_; have HO459 := n4_; have HB := n5_; have HI463 := n6_; clear n0_ n1_ n2_ n3_ n4_ n5_ n6_))
  go_ret2
  exact ⟨_, by first | rfl | (simp [errW_none, errW_some] <;> rfl) | (simp [*, errW_none, errW_some] <;> rfl), S_l (Kd.S_mono HO459.out (fun _ hk => trivial)), by repeat (first | (with_reducible first | exact HB.out | apply below_alloc | apply pw_below_drewN | apply below_drew1 | refine below_set ?_ (IsS113.ge HI463.out)) | exact HB.out)⟩

/-! ### impl_FormOf: function 86 -/
def impl_FormOf.f (k : Nat) (a0 : Int) (l1 : List Int) (l2 : List Int) : Option (Int) := (impl_IsClass.f k a0 l1).bind fun t473 => (if t473 = true then ((impl_IsClass.f k a0 l2).bind fun t474 => (if t474 = true then ((impl_form.f k l1 l2).bind fun t475 => (some t475)) else (some 0))) else (some 0))
set_option maxHeartbeats 8000000 in
set_option maxRecDepth 100000 in
theorem impl_FormOf.calls (k : Nat) (a0 : Int) (A1 : Option Addr) (c1 : Nat) (l1 : List Int) (A2 : Option Addr) (c2 : Nat) (l2 : List Int) (r : Int) (w : World) (hr1 : Kd.C (Kd.int .i64) w A1 l1.length l1) (hc1 : l1.length ≤ c1) (hr2 : Kd.C (Kd.int .i64) w A2 l2.length l2) (hc2 : l2.length ≤ c2) (h : impl_FormOf.f k a0 l1 l2 = some r) :
  Calls Try.prog 86 #[.int .i64 a0, .slice A1 l1.length c1, .slice A2 l2.length c2] w fun e w' => e = .returned (.int .i64 r) ∧ Drawn0 w w' := by
 have HR1 := Aside0.mk hr1
 have HC1 := Aside0.mk hc1
 clear hr1 hc1
 have HR2 := Aside0.mk hr2
 have HC2 := Aside0.mk hc2
 clear hr2 hc2
 have H : ((impl_IsClass.f k a0 l1).bind fun t473 => (if t473 = true then ((impl_IsClass.f k a0 l2).bind fun t474 => (if t474 = true then ((impl_form.f k l1 l2).bind fun t475 => (some t475)) else (some 0))) else (some 0))) = some r := h
 clear h
 replace H := Option.bind_eq_some_iff.mp H
 obtain ⟨t473, A40, H⟩ := H
 have A4 := Aside0.mk A40
 clear A40
 by_cases c5 : t473 = true
 ·subst c5
  rw [if_pos rfl] at H
  replace H := Option.bind_eq_some_iff.mp H
  obtain ⟨t474, A60, H⟩ := H
  have A6 := Aside0.mk A60
  clear A60
  by_cases c7 : t474 = true
  ·subst c7
   rw [if_pos rfl] at H
   replace H := Option.bind_eq_some_iff.mp H
   obtain ⟨t475, A80, H⟩ := H
   have A8 := Aside0.mk A80
   clear A80
   obtain rfl := Option.some.inj H
   go_enter Try.func86, Try.ntmps86
   go_wp2_with (first | (refine gL 90 (some 9) Try.func90 #[.int .i64 a0, .slice A1 l1.length c1] ?_; (with_reducible refine (impl_IsClass.calls k a0 _ _ l1 true _ ?side1 ?side2 A4.out).mono ?_); (case side1 => exact C_l HR1.out); (case side2 => exact HC1.out); rintro e w' ⟨rfl, ⟨nd, rfl⟩⟩; refine ⟨_, rfl, ?_⟩) | (go_at_call 90; (with_reducible refine (impl_IsClass.calls k a0 _ _ l2 true _ ?side1 ?side2 A6.out).mono ?_); (case side1 => exact C_l HR2.out); (case side2 => exact HC2.out); rintro e w' ⟨rfl, ⟨nd, rfl⟩⟩) | (refine gL 169 (some 19) Try.func169 #[.slice A1 l1.length c1, .slice A2 l2.length c2] ?_; (with_reducible refine (impl_form.calls k _ _ l1 _ _ l2 t475 _ ?side1 ?side2 ?side3 ?side4 A8.out).mono ?_); (case side1 => exact C_l HR1.out); (case side2 => exact HC1.out); (case side3 => exact C_l HR2.out); (case side4 => exact HC2.out); rintro e w' ⟨rfl, ⟨nd, rfl⟩⟩; refine ⟨_, rfl, ?_⟩))
   go_ret
   exact ⟨by first | rfl | (simp; done) | (simp [*]; done), by repeat (first | exact Drawn0.refl _ | apply Drawn0.step)⟩
  ·replace c7 := Bool.eq_false_iff.mpr c7
   subst c7
   rw [if_neg (show ¬ (false = true) by decide)] at H
   obtain rfl := Option.some.inj H
   go_enter Try.func86, Try.ntmps86
   go_wp2_with (first | (refine gL 90 (some 9) Try.func90 #[.int .i64 a0, .slice A1 l1.length c1] ?_; (with_reducible refine (impl_IsClass.calls k a0 _ _ l1 true _ ?side1 ?side2 A4.out).mono ?_); (case side1 => exact C_l HR1.out); (case side2 => exact HC1.out); rintro e w' ⟨rfl, ⟨nd, rfl⟩⟩; refine ⟨_, rfl, ?_⟩) | (go_at_call 90; (with_reducible refine (impl_IsClass.calls k a0 _ _ l2 false _ ?side1 ?side2 A6.out).mono ?_); (case side1 => exact C_l HR2.out); (case side2 => exact HC2.out); rintro e w' ⟨rfl, ⟨nd, rfl⟩⟩))
   go_ret
   exact ⟨by first | rfl | (simp; done) | (simp [*]; done), by repeat (first | exact Drawn0.refl _ | apply Drawn0.step)⟩
 ·replace c5 := Bool.eq_false_iff.mpr c5
  subst c5
  rw [if_neg (show ¬ (false = true) by decide)] at H
  obtain rfl := Option.some.inj H
  go_enter Try.func86, Try.ntmps86
  go_wp2_with (first | (refine gL 90 (some 9) Try.func90 #[.int .i64 a0, .slice A1 l1.length c1] ?_; (with_reducible refine (impl_IsClass.calls k a0 _ _ l1 false _ ?side1 ?side2 A4.out).mono ?_); (case side1 => exact C_l HR1.out); (case side2 => exact HC1.out); rintro e w' ⟨rfl, ⟨nd, rfl⟩⟩; refine ⟨_, rfl, ?_⟩))
  go_ret
  exact ⟨by first | rfl | (simp; done) | (simp [*]; done), by repeat (first | exact Drawn0.refl _ | apply Drawn0.step)⟩

end Go.Proofs.Ytimjefomgaaegaa.PFnTwists
