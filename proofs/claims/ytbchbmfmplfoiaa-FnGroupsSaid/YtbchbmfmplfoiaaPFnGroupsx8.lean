import Derived.Test.YtbchbmfmplfoiaaWSpanB
import Derived.Test.YtbchbmfmplfoiaaPFnGroupsx0
import Derived.Test.YtbchbmfmplfoiaaPFnGroupsx1
import Derived.Test.YtbchbmfmplfoiaaPFnGroupsx2
import Derived.Test.YtbchbmfmplfoiaaPFnGroupsx3
namespace Go.Proofs.Ytbchbmfmplfoiaa.PFnGroups
open Go.RowKit Go.Proofs.YtbchbmfmplfoiaaW.PrintWords Go.Proofs.YtbchbmfmplfoiaaW.PrintLast Go.Proofs.YtbchbmfmplfoiaaW.PrintMore
attribute [local go_sem] max2_int min2_int max_two min_two max_three min_three max_four min_four   -- for this text's walks alone
set_option linter.unusedVariables false
set_option linter.unusedSimpArgs false

/-! ### spec_l8Two: function 41 -/
def spec_l8Two.j0 : Nat → Int → List Int → List Int → List Int → Int → Int → Option (Int × List Int × List Int)
 | 0, _, _, _, _, _, _ => none
 | k + 1, x6, x7, x8, x473000, x473001, x473002 => (spec_l1Once.f x473000 x473001 x473002 3).bind fun bt522 => (if bt522.1 = true then ((spec_l2Draw.f k x473000 bt522.2.1 bt522.2.2 (wrap64 (2 * x6)) 6).bind fun bt525 => (some (x6, x7, bt525.1))) else (some (x6, x7, x8)))
def spec_l8Two.f (k : Nat) (l0 : List Int) : Option (Int × List Int × List Int) := (spec_l1New.f k l0).bind fun bt469 => ((spec_l1Below.f bt469.1 bt469.2.1 bt469.2.2 2).bind fun bt473 => ((spec_l2Draw.f k bt469.1 bt473.2.1 bt473.2.2 (wrap64 (2 * (wrap64 (1 + bt473.1)))) 6).bind fun bt476 => ((some (([] : List Int) : List Int)).bind fun y481 => (if y481.length + bt476.1.length < 17592186044416 then ((spec_l1Once.f bt469.1 bt476.2.1 bt476.2.2 2).bind fun bt487 => (if bt487.1 = true then ((spec_l1Below.f bt469.1 bt487.2.1 bt487.2.2 (wrap64 ((bt476.1.length : Int) + 1))).bind fun bt490 => ((some (([] : List Int) : List Int)).bind fun y493 => (if 0 ≤ bt490.1 then (if bt490.1 ≤ (bt476.1.length : Int) then ((some (bt476.1.take (bt490.1 : Int).toNat : List Int)).bind fun y496 => (if y493.length + y496.length < 17592186044416 then ((some (y493 ++ y496 : List Int)).bind fun y500 => ((spec_Relator.f (wrap64 (1 + bt473.1))).bind fun t503 => ((spec_l1Below.f bt469.1 bt490.2.1 bt490.2.2 8).bind fun bt506 => ((spec_l2Turn.f t503 bt506.1).bind fun t509 => (if y500.length + t509.length < 17592186044416 then ((some (y500 ++ t509 : List Int)).bind fun y512 => ((some (bt476.1.drop (bt490.1 : Int).toNat : List Int)).bind fun y515 => (if y512.length + y515.length < 17592186044416 then (spec_l8Two.j0 k (wrap64 (1 + bt473.1)) bt476.1 (y512 ++ y515) bt469.1 bt506.2.1 bt506.2.2) else (none)))) else (none)))))) else (none))) else (none)) else (none)))) else (spec_l8Two.j0 k (wrap64 (1 + bt473.1)) bt476.1 (y481 ++ bt476.1) bt469.1 bt487.2.1 bt487.2.2))) else (none)))))
def spec_l8Two.T7 : Bool × List (List Nat × List Nat) := (true, [([], []), ([], []), ([], []), ([1, 2], [1, 2]), ([0, 3], [0, 3]), ([], []), ([5, 4], [5]), ([], []), ([7, 6], [7]), ([6, 8, 8], [6, 8]), ([4, 9, 9], [4, 9]), ([], []), ([], []), ([11, 12], [11, 12]), ([10, 13, 10], [10, 13]), ([14, 14, 0, 1, 2, 3, 4, 5, 6, 7, 8, 9, 10, 11, 12, 13, 14], [14])])
def spec_l8Two.B7 : List Nat := [0, 0, 0, 6, 15, 0, 63, 0, 255, 511, 1023, 0, 0, 6144, 16383, 32767]
theorem spec_l8Two.tab7 : rtab .any (opsOf Try.f41 7) = spec_l8Two.T7 := by kernel_rfl
theorem spec_l8Two.bits7 : waitsOk spec_l8Two.T7.2 spec_l8Two.B7 = true := by kernel_rfl
set_option maxHeartbeats 8000000 in
set_option maxRecDepth 100000 in
theorem spec_l8Two.calls (k : Nat) (A0 : Option Addr) (c0 : Nat) (l0 : List Int) (r1 : Int) (r2 : List Int) (r3 : List Int) (w : World) (hr0 : Kd.C (Kd.int .u8) w A0 l0.length l0) (hc0 : l0.length ≤ c0) (h : spec_l8Two.f k l0 = some (r1, r2, r3)) :
  Calls Try.prog 41 #[.slice A0 l0.length c0] w fun e w' => ∃ v1_ v2_ : Value, e = .returned (.tuple #[.int .i64 r1, v1_, v2_]) ∧ Kd.R (Kd.int .i64) 3 w' w.heap.size (fun k_ => some k_ ≠ (v2_ : Value).ownBlock) v1_ r2 ∧ Kd.R (Kd.int .i64) 3 w' w.heap.size (fun k_ => some k_ ≠ (v1_ : Value).ownBlock) v2_ r3 ∧ Below w.heap.size w w' := by
 have HR0 := Aside0.mk hr0
 have HC0 := Aside0.mk hc0
 clear hr0 hc0
 have HB := Aside0.mk (Below.refl w.heap.size w)
 have H : ((spec_l1New.f k l0).bind fun bt469 => ((spec_l1Below.f bt469.1 bt469.2.1 bt469.2.2 2).bind fun bt473 => ((spec_l2Draw.f k bt469.1 bt473.2.1 bt473.2.2 (wrap64 (2 * (wrap64 (1 + bt473.1)))) 6).bind fun bt476 => ((some (([] : List Int) : List Int)).bind fun y481 => (if y481.length + bt476.1.length < 17592186044416 then ((spec_l1Once.f bt469.1 bt476.2.1 bt476.2.2 2).bind fun bt487 => (if bt487.1 = true then ((spec_l1Below.f bt469.1 bt487.2.1 bt487.2.2 (wrap64 ((bt476.1.length : Int) + 1))).bind fun bt490 => ((some (([] : List Int) : List Int)).bind fun y493 => (if 0 ≤ bt490.1 then (if bt490.1 ≤ (bt476.1.length : Int) then ((some (bt476.1.take (bt490.1 : Int).toNat : List Int)).bind fun y496 => (if y493.length + y496.length < 17592186044416 then ((some (y493 ++ y496 : List Int)).bind fun y500 => ((spec_Relator.f (wrap64 (1 + bt473.1))).bind fun t503 => ((spec_l1Below.f bt469.1 bt490.2.1 bt490.2.2 8).bind fun bt506 => ((spec_l2Turn.f t503 bt506.1).bind fun t509 => (if y500.length + t509.length < 17592186044416 then ((some (y500 ++ t509 : List Int)).bind fun y512 => ((some (bt476.1.drop (bt490.1 : Int).toNat : List Int)).bind fun y515 => (if y512.length + y515.length < 17592186044416 then (spec_l8Two.j0 k (wrap64 (1 + bt473.1)) bt476.1 (y512 ++ y515) bt469.1 bt506.2.1 bt506.2.2) else (none)))) else (none)))))) else (none))) else (none)) else (none)))) else (spec_l8Two.j0 k (wrap64 (1 + bt473.1)) bt476.1 (y481 ++ bt476.1) bt469.1 bt487.2.1 bt487.2.2))) else (none)))))) = some (r1, r2, r3) := h
 clear h
 obtain ⟨⟨t469, t470, t471⟩, A2, H⟩ := bs H
 try dsimp only at H
 obtain ⟨⟨t473, t474, t475⟩, A3, H⟩ := bs H
 try dsimp only at H
 obtain ⟨⟨t476, t479, t480⟩, A4, H⟩ := bs H
 try dsimp only at H
 obtain ⟨y481, Ny481, H⟩ := bn H
 by_cases c5 : y481.length + t476.length < 17592186044416
 ·rw [if_pos c5] at H
  have LMc5 := Aside0.mk c5
  clear c5
  generalize hy484 : (y481 ++ t476 : List Int) = y484 at H
  have Ny484 := Aside0.mk hy484.symm; clear hy484
  obtain ⟨⟨t487, t488, t489⟩, A6, H⟩ := bs H
  try dsimp only at H
  have HC7 := Aside0.mk H
  clear H
  go_enter Try.func41, Try.ntmps41
  go_upto_if 23 with (first | (refine gL 30 (some 11) Try.func30 #[.slice A0 l0.length c0] ?_; (with_reducible refine (spec_l1New.calls k _ _ l0 t469 t470 t471 w _ ?side1 ?side2 ?side3 A2.out).mono ?_); (case side1 => exact tb); (case side2 => exact HR0.out); (case side3 => exact HC0.out); rintro e w8 ⟨g472, rfl, hi, hb, hb2⟩; refine ⟨_, rfl, ?_⟩; replace HB := Aside0.mk (hb); have HI472 := Aside0.mk (hi)) | (refine gL 42 (some 13) Try.func42 #[.pointer (some ⟨g472, 0, none⟩), .int .i64 2] ?_; (with_reducible refine (spec_l1Below.calls g472 t469 t470 t471 2 t473 t474 t475 w _ ?side1 ?side2 A3.out).mono ?_); (case side1 => repeat (first | (with_reducible first | exact HI472.out | apply IsS55.alloc | apply IsS55.drewN | apply IsS55.drew | apply IsS55.set_1 | apply IsS55.set_2) | exact HI472.out)); (case side2 => repeat (first | (with_reducible first | exact HB.out | apply below_alloc | apply pw_below_drewN | apply below_drew1 | refine below_set ?_ (IsS55.ge HI472.out)) | exact HB.out)); rintro e w9 ⟨rfl, hi, hb, hk⟩; refine ⟨_, rfl, ?_⟩; replace HB := Aside0.mk (hb); replace HI472 := Aside0.mk (hi)) | (refine gL 43 (some 18) Try.func43 #[.pointer (some ⟨g472, 0, none⟩), .int .i64 (wrap64 (2 * (wrap64 (1 + t473)))), .int .i64 6] ?_; (with_reducible refine (spec_l2Draw.calls k g472 t469 t474 t475 (wrap64 (2 * (wrap64 (1 + t473)))) 6 t476 t479 t480 w _ ?side1 ?side2 A4.out).mono ?_); (case side1 => repeat (first | (with_reducible first | exact HI472.out | apply IsS55.alloc | apply IsS55.drewN | apply IsS55.drew | apply IsS55.set_1 | apply IsS55.set_2) | exact HI472.out)); (case side2 => repeat (first | (with_reducible first | exact HB.out | apply below_alloc | apply pw_below_drewN | apply below_drew1 | refine below_set ?_ (IsS55.ge HI472.out)) | exact HB.out)); rintro e w10 ⟨v477, rfl, ho0, hi, hb, hk⟩; refine ⟨_, rfl, ?_⟩; have HO478 := Aside0.mk (Kd.R_lower ho0 (below_size (by repeat (first | (with_reducible first | exact HB.out | apply below_alloc | apply pw_below_drewN | apply below_drew1 | refine below_set ?_ (IsS55.ge HI472.out)) | exact HB.out)))); replace HB := Aside0.mk (hb); replace HI472 := Aside0.mk (hi)) | ((with_reducible refine gate_dst (N := 19) rfl ?_); refine Kd.R_lit (Kd.int .i64) _ 3 ?hg (N := 19) ?hd (xs := ([] : List Int)) (inner := []) (ok := fun _ => True) (okp := fun _ => True) ?hr ?hp (fun _ hk => hk) trivial (Below.refl _ _) (Nat.le_refl _) (by simp) ?_; (case hd => rfl); (case hg => rfl); (case hr => exact gS); (case hp => exact (Reps.none _ _)); intro v482 w11 ho12 hb hg_ hnew_; clear hg_ hnew_; (first | rw [← Ny481.out] at ho12 | (simp only [Int.reduceToNat] at ho12; rw [← Ny481.out] at ho12)); have HO483 := Aside0.mk (Kd.R_lower (Kd.R_new' ho12 (Kd.R_lt (R_l HO478.out))) (below_size (by repeat (first | (with_reducible first | exact HB.out | apply below_alloc | apply pw_below_drewN | apply below_drew1 | refine below_set ?_ (IsS55.ge HI472.out)) | exact HB.out)))); replace HO478 := Aside0.mk (Kd.R_elder' (R_l HO478.out) (Kd.R_base ho12) hb); replace HB := Aside0.mk (below_step (by repeat (first | (with_reducible first | exact HB.out | apply below_alloc | apply pw_below_drewN | apply below_drew1 | refine below_set ?_ (IsS55.ge HI472.out)) | exact HB.out)) hb); replace HI472 := Aside0.mk (IsS55.below (by repeat (first | (with_reducible first | exact HI472.out | apply IsS55.alloc | apply IsS55.drewN | apply IsS55.drew | apply IsS55.set_1 | apply IsS55.set_2) | exact HI472.out)) hb); clear hb ho12; obtain ⟨Ao14, co14, eo14⟩ := Kd.R_slice HO478.out; subst eo14) | ((with_reducible refine gate_builtin (b := .append) (xs := #[.tmp 19, .tmp 20]) rfl ?_); at_builtin; refine Kd.R_append_rows (Kd.int .i64) (w0 := w) w.heap.size rfl (.tmp 19) (.tmp 20) 24 3 (.int .i64 0) 8 rfl Try.underlying24 info3 rfl (by decide) (by omega) v482 y481 t476 _ _ _ (fun k_ => some k_ ≠ (.slice Ao14 t476.length co14 : Value).ownBlock) (fun _ => False) rfl rfl ?aO ?aR (fun _ _ h => h) (fun _ h => h.elim) ?aF ?aB ?aS ?aL ?_; (case aR => exact C_l ((Kd.R_reads' HO478.out).2.2)); (case aB => exact (by repeat (first | (with_reducible first | exact HB.out | apply below_alloc | apply pw_below_drewN | apply below_drew1 | refine below_set ?_ (IsS55.ge HI472.out)) | exact HB.out))); (case aF => exact (fun k_ hk => Kd.fresh' (Kd.R_lt (R_l HO478.out)) k_ hk)); (case aO => exact (R_l (Kd.R_mono HO483.out (fun _ hk => hk.2)))); (case aS => exact (below_size (by repeat (first | (with_reducible first | exact HB.out | apply below_alloc | apply pw_below_drewN | apply below_drew1 | refine below_set ?_ (IsS55.ge HI472.out)) | exact HB.out)))); (case aL => have := LMc5.out; omega); intro v485 w13 ho hb hg hat; rw [← Ny484.out] at ho; replace HI472 := Aside0.mk (IsS55.grown (by repeat (first | (with_reducible first | exact HI472.out | apply IsS55.alloc | apply IsS55.drewN | apply IsS55.drew | apply IsS55.set_1 | apply IsS55.set_2) | exact HI472.out)) hg (IsS55.own_ne HI472.out HO483.out (by decide))); replace HO478 := Aside0.mk (Kd.R_after (ok := (fun _ => True)) (R_l HO478.out) hg hat); replace HB := Aside0.mk (hb); have HO486 := Aside0.mk (ho); clear HO483; clear ho hb hg hat) | (refine gL 44 (some 23) Try.func44 #[.pointer (some ⟨g472, 0, none⟩), .int .i64 2] ?_; (with_reducible refine (spec_l1Once.calls g472 t469 t479 t480 2 t487 t488 t489 w _ ?side1 ?side2 A6.out).mono ?_); (case side1 => repeat (first | (with_reducible first | exact HI472.out | apply IsS55.alloc | apply IsS55.drewN | apply IsS55.drew | apply IsS55.set_1 | apply IsS55.set_2) | exact HI472.out)); (case side2 => repeat (first | (with_reducible first | exact HB.out | apply below_alloc | apply pw_below_drewN | apply below_drew1 | refine below_set ?_ (IsS55.ge HI472.out)) | exact HB.out)); rintro e w15 ⟨rfl, hi, hb, hk⟩; refine ⟨_, rfl, ?_⟩; replace HO478 := Aside0.mk (Kd.R_mono (Kd.R_keep (IsS55.apart (show IsS55 w _ g472 t469 t479 t480 from by repeat (first | (with_reducible first | exact HI472.out | apply IsS55.alloc | apply IsS55.drewN | apply IsS55.drew | apply IsS55.set_1 | apply IsS55.set_2) | exact HI472.out)) (R_l HO478.out) (by decide)) hk (fun _ h => h.2)) (fun _ h => h.1)); replace HO486 := Aside0.mk (Kd.R_mono (Kd.R_keep (IsS55.apart (show IsS55 w _ g472 t469 t479 t480 from by repeat (first | (with_reducible first | exact HI472.out | apply IsS55.alloc | apply IsS55.drewN | apply IsS55.drew | apply IsS55.set_1 | apply IsS55.set_2) | exact HI472.out)) (R_l HO486.out) (by decide)) hk (fun _ h => h.2)) (fun _ h => h.1)); replace HB := Aside0.mk (hb); replace HI472 := Aside0.mk (hi)))
  (try simp only [Act.put, List.setIfInBounds_toArray, List.set_cons_zero, List.set_cons_succ])
  go_cut [8] (fun v8 wc => ∃ (kq : Nat) (x8_6 : List Int) (x473001_6 : Int) (x473002_6 : Int), Aside0 (spec_l8Two.j0 kq (wrap64 (1 + t473)) t476 x8_6 t469 x473001_6 x473002_6 = some (r1, r2, r3)) ∧ Aside0 (kq ≤ k) ∧ Aside0 (Kd.R (Kd.int .i64) 3 wc w.heap.size (fun k_ => some k_ ≠ (v8 : Value).ownBlock) (.slice Ao14 t476.length co14) t476) ∧ Aside0 (Kd.R (Kd.int .i64) 3 wc w.heap.size (fun k_ => some k_ ≠ ((.slice Ao14 t476.length co14) : Value).ownBlock) v8 x8_6) ∧ Aside0 (IsS55 w wc g472 t469 x473001_6 x473002_6) ∧ Aside0 (Below w.heap.size w wc))
  case first =>
   have H := HC7.out
   clear HC7
   by_cases c16 : t487 = true
   ·subst c16
    rw [if_pos rfl] at H
    obtain ⟨⟨t490, t491, t492⟩, A17, H⟩ := bs H
    try dsimp only at H
    obtain ⟨y493, Ny493, H⟩ := bn H
    obtain ⟨c18, H⟩ := gd H
    have c18b0 := eq_true c18
    have c18b1 : decide (0 ≤ t490) = true := decide_eq_true c18
    clear c18
    obtain ⟨c19, H⟩ := gd H
    have c19b0 := eq_true c19
    have c19b1 : decide (t490 ≤ (t476.length : Int)) = true := decide_eq_true c19
    clear c19
    obtain ⟨y496, Ny496, H⟩ := bn H
    obtain ⟨LMc20, H⟩ := gda H
    obtain ⟨y500, Ny500, H⟩ := bn H
    obtain ⟨t503, A21, H⟩ := bs H
    obtain ⟨⟨t506, t507, t508⟩, A22, H⟩ := bs H
    try dsimp only at H
    obtain ⟨t509, A23, H⟩ := bs H
    obtain ⟨LMc24, H⟩ := gda H
    obtain ⟨y512, Ny512, H⟩ := bn H
    have c25b0 := eq_true (dT : 0 ≤ t490)
    have c26b0 := eq_true (dT : t490 ≤ (t476.length : Int))
    obtain ⟨y515, Ny515, H⟩ := bn H
    obtain ⟨LMc27, H⟩ := gda H
    generalize hy519 : (y512 ++ y515 : List Int) = y519 at H
    have Ny519 := Aside0.mk hy519.symm; clear hy519
    have H' := Aside0.mk H
    clear H
    try go_wp2_with (first | (refine gL 42 (some 28) Try.func42 #[.pointer (some ⟨g472, 0, none⟩), .int .i64 (wrap64 ((t476.length : Int) + 1))] ?_; (with_reducible refine (spec_l1Below.calls g472 t469 t488 t489 (wrap64 ((t476.length : Int) + 1)) t490 t491 t492 w _ ?side1 ?side2 A17.out).mono ?_); (case side1 => repeat (first | (with_reducible first | exact HI472.out | apply IsS55.alloc | apply IsS55.drewN | apply IsS55.drew | apply IsS55.set_1 | apply IsS55.set_2) | exact HI472.out)); (case side2 => repeat (first | (with_reducible first | exact HB.out | apply below_alloc | apply pw_below_drewN | apply below_drew1 | refine below_set ?_ (IsS55.ge HI472.out)) | exact HB.out)); rintro e w28 ⟨rfl, hi, hb, hk⟩; refine ⟨_, rfl, ?_⟩; replace HO478 := Aside0.mk (Kd.R_mono (Kd.R_keep (IsS55.apart (show IsS55 w _ g472 t469 t488 t489 from by repeat (first | (with_reducible first | exact HI472.out | apply IsS55.alloc | apply IsS55.drewN | apply IsS55.drew | apply IsS55.set_1 | apply IsS55.set_2) | exact HI472.out)) (R_l HO478.out) (by decide)) hk (fun _ h => h.2)) (fun _ h => h.1)); replace HO486 := Aside0.mk (Kd.R_mono (Kd.R_keep (IsS55.apart (show IsS55 w _ g472 t469 t488 t489 from by repeat (first | (with_reducible first | exact HI472.out | apply IsS55.alloc | apply IsS55.drewN | apply IsS55.drew | apply IsS55.set_1 | apply IsS55.set_2) | exact HI472.out)) (R_l HO486.out) (by decide)) hk (fun _ h => h.2)) (fun _ h => h.1)); replace HB := Aside0.mk (hb); replace HI472 := Aside0.mk (hi)))
    replace HO478 := Aside0.mk (Kd.R_drew HO478.out); replace HO486 := Aside0.mk (Kd.R_drew HO486.out); replace HI472 := Aside0.mk (IsS55.drew HI472.out); replace HB := Aside0.mk (below_drew1 HB.out)
    have q30 : (t490 : Int) ≤ ((t476.length : Int) : Int) := dT
    obtain ⟨i030, hi030, _, hsz30, _⟩ := info_parts info3
    have hroom30 : t476.length ≤ co14 := (Kd.R_reads' HO478.out).2.1
    have hC30 : Kd.C (Kd.int .i64) _ Ao14 t476.length t476 := (Kd.R_reads' HO478.out).2.2
    have hcut30 := cut_to (P := Try.prog) 24 3 .i64 Try.underlying24 hi030 Ao14 t476.length co14 t490 dT q30 hroom30
    have hr30 := Kd.C_take (m := (t490 : Int).toNat) hC30 (by omega)
    have hy30 : y496.length = (t490 : Int).toNat := (by rw [Ny496.out, List.length_take]; omega)
    rw [← Ny496.out] at hr30
    rw [← hy30] at hcut30
    have HR499 := Aside0.mk hr30
    have HC499 := Aside0.mk (show y496.length ≤ co14 from by omega)
    clear hr30 hC30 hroom30 hi030 hsz30
    have KY30 := Aside0.mk hy30
    clear hy30
    have KL30 := Aside0.mk (show (t490 : Int).toNat ≤ t476.length from by omega)
    replace q30 := eq_true q30
    have q31 : (t490 : Int) ≤ ((t476.length : Int) : Int) := dT
    obtain ⟨i031, hi031, _, hsz31, _⟩ := info_parts info3
    have hroom31 : t476.length ≤ co14 := (Kd.R_reads' HO478.out).2.1
    have hC31 : Kd.C (Kd.int .i64) _ Ao14 t476.length t476 := (Kd.R_reads' HO478.out).2.2
    have q031 : (0 : Int) ≤ (t490 : Int) := dT
    have hcut31 := cut_from (P := Try.prog) 24 3 .i64 Try.underlying24 hi031 1 hsz31 Ao14 t476.length co14 t490 q031 q31
    have hr31 := Kd.C_drop (m := (t490 : Int).toNat) (c := co14) hC31 (by omega) hroom31
    obtain ⟨A31, hA31⟩ : ∃ A1, A1 = (if co14 = (t490 : Int).toNat then Ao14 else (Ao14 : Option Addr).map (·.add ((t490 : Int).toNat * 1))) := ⟨_, rfl⟩
    have HAA31 := Aside0.mk hA31
    obtain ⟨c31, hc31⟩ : ∃ c1, c1 = co14 - (t490 : Int).toNat := ⟨_, rfl⟩
    have hy31 : y515.length = t476.length - (t490 : Int).toNat := (by rw [Ny515.out, List.length_drop] <;> omega)
    rw [show (t476).drop (t490 : Int).toNat = y515 from Ny515.out.symm] at hr31
    replace hr31 : Kd.C (Kd.int .i64) _ A31 y515.length y515 := (by rw [hA31]; exact hr31)
    rw [← hy31, ← hA31, ← hc31] at hcut31
    have HR518 := Aside0.mk hr31
    have HC518 := Aside0.mk (show y515.length ≤ c31 from by rw [hy31, hc31]; exact Nat.sub_le_sub_right hroom31 _)
    clear hr31 hC31 hroom31 hi031 hsz31 hc31
    have KY31 := Aside0.mk hy31
    have KA31 := Aside0.mk hA31
    clear hy31 hA31
    have KL31 := Aside0.mk (show (t490 : Int).toNat ≤ t476.length from by omega)
    replace q31 := eq_true q31
    refine start_ (n := 16) (S := fun w' => True) (ds := []) #[false, false, false, false, false, false, false, false, false, false, false, false, false, false, false, false] (by kernel_rfl) rfl rfl trivial (fun hHeld => ?_); refine with_tabW spec_l8Two.tab7 spec_l8Two.bits7 (fun HT_ HW_ => ?_)
    generalize w28.drew = w29 at HO478 HO486 HI472 HB HR499 HR518 hHeld ⊢
    refine pu_ 1 (some 30) ?_
    refine pu_ 2 (some 31) ?_
    refine pu_ 3 (some 32) ?_
    refine pu_ 5 (some 34) ?_
    refine pu_ 7 (some 36) ?_
    refine pu_ 11 (some 40) ?_
    refine pu_ 12 (some 41) ?_
    refine pu_ 13 (some 42) ?_
    refine one_ (i := 0) (N := some 29) #[true, true, true, true, false, true, false, true, false, false, false, true, true, true, false, false] rfl rfl (one_of HT_.out (by kernel_rfl)) (by decide) (fun K hK => ?_)
    refine Kd.R_lit_step (Kd.int .i64) _ 3 ?hg (N := 29) ?hd (xs := ([] : List Int)) (inner := []) (ok := fun _ => True) (okp := fun _ => True) ?hr ?hp (fun _ hk => hk) trivial (Below.refl _ _) (Nat.le_refl _) (by simp) ?_; (case hd => rfl); (case hg => rfl); (case hr => exact gS); (case hp => exact (Reps.none _ _))
    intro v494 w32 ho33 hb hg_ hnew_
    clear hg_ hnew_
    (first | rw [← Ny493.out] at ho33 | (simp only [Int.reduceToNat] at ho33; rw [← Ny493.out] at ho33))
    have HO495 := Aside0.mk (Kd.R_lower (Kd.R_new' (Kd.R_new' ho33 (Kd.R_lt (R_l HO478.out))) (Kd.R_lt (R_l HO486.out))) (below_size (by repeat (first | (with_reducible first | exact HB.out | apply below_alloc | apply pw_below_drewN | apply below_drew1 | refine below_set ?_ (IsS55.ge HI472.out)) | exact HB.out)))); replace HO478 := Aside0.mk (Kd.R_elder' (R_l HO478.out) (Kd.R_base ho33) hb); replace HO486 := Aside0.mk (Kd.R_elder' (R_l HO486.out) (Kd.R_base ho33) hb); replace HR499 := Aside0.mk (Kd.C_below (by repeat (first | (with_reducible exact HR499.out) | (with_reducible refine Kd.C_alloc ?_ _) | (with_reducible refine Kd.C_drewN ?_ _) | (with_reducible refine Kd.C_drew ?_) | exact HR499.out)) hb); replace HR518 := Aside0.mk (Kd.C_below (by repeat (first | (with_reducible exact HR518.out) | (with_reducible refine Kd.C_alloc ?_ _) | (with_reducible refine Kd.C_drewN ?_ _) | (with_reducible refine Kd.C_drew ?_) | exact HR518.out)) hb); replace HB := Aside0.mk (below_step (by repeat (first | (with_reducible first | exact HB.out | apply below_alloc | apply pw_below_drewN | apply below_drew1 | refine below_set ?_ (IsS55.ge HI472.out)) | exact HB.out)) hb); replace HI472 := Aside0.mk (IsS55.below (by repeat (first | (with_reducible first | exact HI472.out | apply IsS55.alloc | apply IsS55.drewN | apply IsS55.drew | apply IsS55.set_1 | apply IsS55.set_2) | exact HI472.out)) hb)
    clear hb ho33
    refine hK.out _ _ trivial (fun hHeld => ?_)
    clear hK K
    refine norm_ (a' := ?_) ?_ ?_
    rotate_left
    ·show Act.put _ (some 29) _ = _
     simp only [Act.put, List.setIfInBounds_toArray, List.set_cons_zero, List.set_cons_succ, i64_w, i32_w]
     rfl
    refine one_ (i := 4) (N := some 33) #[true, true, true, true, true, true, false, true, false, false, false, true, true, true, false, false] rfl rfl (one_of HT_.out (by kernel_rfl)) (by decide) (fun K hK => ?_)
    refine Kd.R_append_rows_step (Kd.int .i64) (w0 := w) w.heap.size (by rfl) (.tmp 29) (.tmp 32) 24 3 (.int .i64 0) 8 rfl Try.underlying24 info3 rfl (by decide) (by omega) v494 y493 y496 _ _ _ (fun k_ => some k_ ≠ (.slice Ao14 t476.length co14 : Value).ownBlock ∧ some k_ ≠ (v485 : Value).ownBlock) (fun _ => False) rfl rfl ?aO ?aR (fun _ _ h => h) (fun _ h => h.elim) ?aF ?aB ?aS ?aL ?_
    (case aR => repeat (first | exact (by repeat (first | (with_reducible exact HR499.out) | (with_reducible refine Kd.C_alloc ?_ _) | (with_reducible refine Kd.C_drewN ?_ _) | (with_reducible refine Kd.C_drew ?_) | exact HR499.out)) | (with_reducible refine Kd.C_alloc ?_ _) | (with_reducible refine Kd.C_drewN ?_ _) | (with_reducible refine Kd.C_drew ?_)))
    (case aB => exact (by repeat (first | (with_reducible first | exact HB.out | apply below_alloc | apply pw_below_drewN | apply below_drew1 | refine below_set ?_ (IsS55.ge HI472.out)) | exact HB.out)))
    (case aF => exact (fun k_ hk => ⟨Kd.fresh' (Kd.R_lt (R_l HO478.out)) k_ hk, Kd.fresh' (Kd.R_lt (R_l HO486.out)) k_ hk⟩))
    (case aO => exact (R_l (Kd.R_mono HO495.out (fun _ hk => ⟨hk.1.2, hk.2⟩))))
    (case aS => exact (below_size (by repeat (first | (with_reducible first | exact HB.out | apply below_alloc | apply pw_below_drewN | apply below_drew1 | refine below_set ?_ (IsS55.ge HI472.out)) | exact HB.out))))
    (case aL => have := LMc20.out; omega)
    intro v501 w34 ho hb hg hat
    rw [← Ny500.out] at ho
    replace HI472 := Aside0.mk (IsS55.grown (by repeat (first | (with_reducible first | exact HI472.out | apply IsS55.alloc | apply IsS55.drewN | apply IsS55.drew | apply IsS55.set_1 | apply IsS55.set_2) | exact HI472.out)) hg (IsS55.own_ne HI472.out HO495.out (by decide))); replace HO486 := Aside0.mk (Kd.R_after (ok := (fun k_ => some k_ ≠ (.slice Ao14 t476.length co14 : Value).ownBlock)) (R_l HO486.out) hg hat); replace HB := Aside0.mk (hb); replace HR499 := Aside0.mk ((show Kd.C (Kd.int .i64) w34 Ao14 y496.length y496 from by rw [Ny496.out]; exact Kd.C_take (m := (t490 : Int).toNat) ((Kd.R_reads' (Kd.R_after (ok := (fun k_ => some k_ ≠ (v485 : Value).ownBlock)) (R_l (Kd.R_mono HO478.out (fun _ hk => ⟨hk.1.2, hk.2⟩))) hg hat)).2.2) KL30.out)); replace HR518 := Aside0.mk ((show Kd.C (Kd.int .i64) w34 A31 y515.length y515 from by rw [Ny515.out, KA31.out]; exact Kd.C_drop (m := (t490 : Int).toNat) (c := co14) ((Kd.R_reads' (Kd.R_after (ok := (fun k_ => some k_ ≠ (v485 : Value).ownBlock)) (R_l (Kd.R_mono HO478.out (fun _ hk => ⟨hk.1.2, hk.2⟩))) hg hat)).2.2) KL31.out ((Kd.R_reads' (Kd.R_after (ok := (fun k_ => some k_ ≠ (v485 : Value).ownBlock)) (R_l (Kd.R_mono HO478.out (fun _ hk => ⟨hk.1.2, hk.2⟩))) hg hat)).2.1))); replace HO478 := Aside0.mk (Kd.R_after (ok := (fun k_ => some k_ ≠ (v485 : Value).ownBlock)) (R_l (Kd.R_mono HO478.out (fun _ hk => ⟨hk.1.2, hk.2⟩))) hg hat); have HO502 := Aside0.mk (ho); clear HO495
    clear ho hb hg hat
    refine hK.out _ _ trivial (fun hHeld => ?_)
    clear hK K
    refine norm_ (a' := ?_) ?_ ?_
    rotate_left
    ·show Act.put _ (some 33) _ = _
     simp only [Act.put, List.setIfInBounds_toArray, List.set_cons_zero, List.set_cons_succ, i64_w, i32_w]
     rfl
    refine one_ (i := 6) (N := some 35) #[true, true, true, true, true, true, true, true, false, false, false, true, true, true, false, false] rfl rfl (one_of HT_.out (by kernel_rfl)) (by decide) (fun K hK => ?_)
    refine goes_ Try.func18 (by kernel_rfl) rfl #[.int .i64 (wrap64 (1 + t473))] (by rfl) rfl rfl mp_ ?_
    with_reducible refine (spec_Relator.calls (wrap64 (1 + t473)) t503 _ A21.out).mono ?_
    rintro e w35 ⟨v504, rfl, ho0, hb⟩
    refine ⟨_, rfl, ?_⟩
    have HO505 := Aside0.mk (Kd.R_lower (Kd.R_new' (Kd.R_new' (Kd.R_new' ho0 (Kd.R_lt (R_l HO478.out))) (Kd.R_lt (R_l HO486.out))) (Kd.R_lt (R_l HO502.out))) (below_size (by repeat (first | (with_reducible first | exact HB.out | apply below_alloc | apply pw_below_drewN | apply below_drew1 | refine below_set ?_ (IsS55.ge HI472.out)) | exact HB.out)))); replace HO478 := Aside0.mk (Kd.R_elder' (R_l HO478.out) (Kd.R_base ho0) hb); replace HO486 := Aside0.mk (Kd.R_elder' (R_l HO486.out) (Kd.R_base ho0) hb); replace HO502 := Aside0.mk (Kd.R_elder' (R_l HO502.out) (Kd.R_base ho0) hb); replace HR499 := Aside0.mk (Kd.C_below (by repeat (first | (with_reducible exact HR499.out) | (with_reducible refine Kd.C_alloc ?_ _) | (with_reducible refine Kd.C_drewN ?_ _) | (with_reducible refine Kd.C_drew ?_) | exact HR499.out)) hb); replace HR518 := Aside0.mk (Kd.C_below (by repeat (first | (with_reducible exact HR518.out) | (with_reducible refine Kd.C_alloc ?_ _) | (with_reducible refine Kd.C_drewN ?_ _) | (with_reducible refine Kd.C_drew ?_) | exact HR518.out)) hb); replace HB := Aside0.mk (below_step (by repeat (first | (with_reducible first | exact HB.out | apply below_alloc | apply pw_below_drewN | apply below_drew1 | refine below_set ?_ (IsS55.ge HI472.out)) | exact HB.out)) hb); replace HI472 := Aside0.mk (IsS55.below (by repeat (first | (with_reducible first | exact HI472.out | apply IsS55.alloc | apply IsS55.drewN | apply IsS55.drew | apply IsS55.set_1 | apply IsS55.set_2) | exact HI472.out)) hb)
    (try clear hb)
    (try clear hb2)
    (try clear hk)
    (try clear hi)
    (try clear ho0)
    refine hK.out _ _ trivial (fun hHeld => ?_)
    clear hK K
    refine norm_ (a' := ?_) ?_ ?_
    rotate_left
    ·show Act.put _ (some 35) _ = _
     simp only [Act.put, List.setIfInBounds_toArray, List.set_cons_zero, List.set_cons_succ, i64_w, i32_w]
     rfl
    refine one_ (i := 8) (N := some 37) #[true, true, true, true, true, true, true, true, true, false, false, true, true, true, false, false] rfl rfl (one_of HT_.out (by kernel_rfl)) (by decide) (fun K hK => ?_)
    refine goes_ Try.func42 (by kernel_rfl) rfl #[.pointer (some ⟨g472, 0, none⟩), .int .i64 8] (by rfl) rfl rfl mp_ ?_
    with_reducible refine (spec_l1Below.calls g472 t469 t491 t492 8 t506 t507 t508 w _ ?side1 ?side2 A22.out).mono ?_
    (case side1 => repeat (first | (with_reducible first | exact HI472.out | apply IsS55.alloc | apply IsS55.drewN | apply IsS55.drew | apply IsS55.set_1 | apply IsS55.set_2) | exact HI472.out))
    (case side2 => repeat (first | (with_reducible first | exact HB.out | apply below_alloc | apply pw_below_drewN | apply below_drew1 | refine below_set ?_ (IsS55.ge HI472.out)) | exact HB.out))
    rintro e w36 ⟨rfl, hi, hb, hk⟩
    refine ⟨_, rfl, ?_⟩
    replace HO478 := Aside0.mk (Kd.R_mono (Kd.R_keep (IsS55.apart (show IsS55 w _ g472 t469 t491 t492 from by repeat (first | (with_reducible first | exact HI472.out | apply IsS55.alloc | apply IsS55.drewN | apply IsS55.drew | apply IsS55.set_1 | apply IsS55.set_2) | exact HI472.out)) (R_l HO478.out) (by decide)) hk (fun _ h => h.2)) (fun _ h => h.1)); replace HO486 := Aside0.mk (Kd.R_mono (Kd.R_keep (IsS55.apart (show IsS55 w _ g472 t469 t491 t492 from by repeat (first | (with_reducible first | exact HI472.out | apply IsS55.alloc | apply IsS55.drewN | apply IsS55.drew | apply IsS55.set_1 | apply IsS55.set_2) | exact HI472.out)) (R_l HO486.out) (by decide)) hk (fun _ h => h.2)) (fun _ h => h.1)); replace HO502 := Aside0.mk (Kd.R_mono (Kd.R_keep (IsS55.apart (show IsS55 w _ g472 t469 t491 t492 from by repeat (first | (with_reducible first | exact HI472.out | apply IsS55.alloc | apply IsS55.drewN | apply IsS55.drew | apply IsS55.set_1 | apply IsS55.set_2) | exact HI472.out)) (R_l HO502.out) (by decide)) hk (fun _ h => h.2)) (fun _ h => h.1)); replace HO505 := Aside0.mk (Kd.R_mono (Kd.R_keep (IsS55.apart (show IsS55 w _ g472 t469 t491 t492 from by repeat (first | (with_reducible first | exact HI472.out | apply IsS55.alloc | apply IsS55.drewN | apply IsS55.drew | apply IsS55.set_1 | apply IsS55.set_2) | exact HI472.out)) (R_l HO505.out) (by decide)) hk (fun _ h => h.2)) (fun _ h => h.1)); replace HB := Aside0.mk (hb); replace HI472 := Aside0.mk (hi)
    (try clear hb)
    (try clear hb2)
    (try clear hk)
    (try clear hi)
    obtain ⟨Ao37, co37, eo37⟩ := Kd.R_slice HO505.out
    (first | subst eo37 | (injection eo37 with f1_ f2_ f3_; have f4_ := f1_.symm; have f5_ := f3_.symm; clear f1_ f2_ f3_; subst f4_; subst f5_))
    refine hK.out _ _ trivial (fun hHeld => ?_)
    clear hK K
    refine norm_ (a' := ?_) ?_ ?_
    rotate_left
    ·show Act.put _ (some 37) _ = _
     simp only [Act.put, List.setIfInBounds_toArray, List.set_cons_zero, List.set_cons_succ, i64_w, i32_w]
     rfl
    refine one_ (i := 9) (N := some 38) #[true, true, true, true, true, true, true, true, true, true, false, true, true, true, false, false] rfl rfl (one_of HT_.out (by kernel_rfl)) (by decide) (fun K hK => ?_)
    refine goes_ Try.func51 (by kernel_rfl) rfl #[.slice Ao37 t503.length co37, .int .i64 t506] (by rfl) rfl rfl mp_ ?_
    with_reducible refine (spec_l2Turn.calls _ _ t503 t506 t509 _ ?side1 ?side2 A23.out).mono ?_
    (case side1 => exact C_l ((Kd.R_reads' HO505.out).2.2))
    (case side2 => exact (Kd.R_reads' HO505.out).2.1)
    rintro e w38 ⟨v510, rfl, ho0, hb⟩
    refine ⟨_, rfl, ?_⟩
    have HO511 := Aside0.mk (Kd.R_lower (Kd.R_new' (Kd.R_new' (Kd.R_new' (Kd.R_new' ho0 (Kd.R_lt (R_l HO478.out))) (Kd.R_lt (R_l HO486.out))) (Kd.R_lt (R_l HO502.out))) (Kd.R_lt (R_l HO505.out))) (below_size (by repeat (first | (with_reducible first | exact HB.out | apply below_alloc | apply pw_below_drewN | apply below_drew1 | refine below_set ?_ (IsS55.ge HI472.out)) | exact HB.out)))); replace HO478 := Aside0.mk (Kd.R_elder' (R_l HO478.out) (Kd.R_base ho0) hb); replace HO486 := Aside0.mk (Kd.R_elder' (R_l HO486.out) (Kd.R_base ho0) hb); replace HO502 := Aside0.mk (Kd.R_elder' (R_l HO502.out) (Kd.R_base ho0) hb); replace HO505 := Aside0.mk (Kd.R_elder' (R_l HO505.out) (Kd.R_base ho0) hb); replace HB := Aside0.mk (below_step (by repeat (first | (with_reducible first | exact HB.out | apply below_alloc | apply pw_below_drewN | apply below_drew1 | refine below_set ?_ (IsS55.ge HI472.out)) | exact HB.out)) hb); replace HI472 := Aside0.mk (IsS55.below (by repeat (first | (with_reducible first | exact HI472.out | apply IsS55.alloc | apply IsS55.drewN | apply IsS55.drew | apply IsS55.set_1 | apply IsS55.set_2) | exact HI472.out)) hb)
    (try clear hb)
    (try clear hb2)
    (try clear hk)
    (try clear hi)
    (try clear ho0)
    obtain ⟨Ao40, co40, eo40⟩ := Kd.R_slice HO511.out
    (first | subst eo40 | (injection eo40 with f1_ f2_ f3_; have f4_ := f1_.symm; have f5_ := f3_.symm; clear f1_ f2_ f3_; subst f4_; subst f5_))
    refine hK.out _ _ trivial (fun hHeld => ?_)
    clear hK K
    refine norm_ (a' := ?_) ?_ ?_
    rotate_left
    ·show Act.put _ (some 38) _ = _
     simp only [Act.put, List.setIfInBounds_toArray, List.set_cons_zero, List.set_cons_succ, i64_w, i32_w]
     rfl
    refine one_ (i := 10) (N := some 39) #[true, true, true, true, true, true, true, true, true, true, true, true, true, true, false, false] rfl rfl (one_of HT_.out (by kernel_rfl)) (by decide) (fun K hK => ?_)
    refine Kd.R_append_rows_step (Kd.int .i64) (w0 := w) w.heap.size (by rfl) (.tmp 33) (.tmp 38) 24 3 (.int .i64 0) 8 rfl Try.underlying24 info3 rfl (by decide) (by omega) v501 y500 t509 _ _ _ (fun k_ => some k_ ≠ (.slice Ao14 t476.length co14 : Value).ownBlock ∧ some k_ ≠ (v485 : Value).ownBlock ∧ some k_ ≠ (.slice Ao37 t503.length co37 : Value).ownBlock ∧ some k_ ≠ (.slice Ao40 t509.length co40 : Value).ownBlock) (fun _ => False) rfl rfl ?aO ?aR (fun _ _ h => h) (fun _ h => h.elim) ?aF ?aB ?aS ?aL ?_
    (case aR => exact C_l ((Kd.R_reads' HO511.out).2.2))
    (case aB => exact (by repeat (first | (with_reducible first | exact HB.out | apply below_alloc | apply pw_below_drewN | apply below_drew1 | refine below_set ?_ (IsS55.ge HI472.out)) | exact HB.out)))
    (case aF => exact (fun k_ hk => ⟨Kd.fresh' (Kd.R_lt (R_l HO478.out)) k_ hk, Kd.fresh' (Kd.R_lt (R_l HO486.out)) k_ hk, Kd.fresh' (Kd.R_lt (R_l HO505.out)) k_ hk, Kd.fresh' (Kd.R_lt (R_l HO511.out)) k_ hk⟩))
    (case aO => exact (R_l (Kd.R_mono HO502.out (fun _ hk => ⟨hk.1.1.1, ⟨hk.1.1.2, ⟨hk.1.2, hk.2⟩⟩⟩))))
    (case aS => exact (below_size (by repeat (first | (with_reducible first | exact HB.out | apply below_alloc | apply pw_below_drewN | apply below_drew1 | refine below_set ?_ (IsS55.ge HI472.out)) | exact HB.out))))
    (case aL => have := LMc24.out; omega)
    intro v513 w39 ho hb hg hat
    rw [← Ny512.out] at ho
    replace HI472 := Aside0.mk (IsS55.grown (by repeat (first | (with_reducible first | exact HI472.out | apply IsS55.alloc | apply IsS55.drewN | apply IsS55.drew | apply IsS55.set_1 | apply IsS55.set_2) | exact HI472.out)) hg (IsS55.own_ne HI472.out HO502.out (by decide))); replace HO478 := Aside0.mk (Kd.R_after (ok := (fun k_ => some k_ ≠ (v485 : Value).ownBlock ∧ some k_ ≠ (.slice Ao37 t503.length co37 : Value).ownBlock ∧ some k_ ≠ (.slice Ao40 t509.length co40 : Value).ownBlock)) (R_l (Kd.R_mono HO478.out (fun _ hk => ⟨⟨hk.1.1.1, ⟨hk.1.2, hk.2⟩⟩, hk.1.1.2⟩))) hg hat); replace HO486 := Aside0.mk (Kd.R_after (ok := (fun k_ => some k_ ≠ (.slice Ao14 t476.length co14 : Value).ownBlock ∧ some k_ ≠ (.slice Ao37 t503.length co37 : Value).ownBlock ∧ some k_ ≠ (.slice Ao40 t509.length co40 : Value).ownBlock)) (R_l (Kd.R_mono HO486.out (fun _ hk => ⟨⟨hk.1.1.1, ⟨hk.1.2, hk.2⟩⟩, hk.1.1.2⟩))) hg hat); replace HO505 := Aside0.mk (Kd.R_after (ok := (fun k_ => some k_ ≠ (.slice Ao14 t476.length co14 : Value).ownBlock ∧ some k_ ≠ (v485 : Value).ownBlock ∧ some k_ ≠ (.slice Ao40 t509.length co40 : Value).ownBlock)) (R_l (Kd.R_mono HO505.out (fun _ hk => ⟨⟨hk.1.1.1.2, ⟨hk.1.1.2, hk.2⟩⟩, hk.1.2⟩))) hg hat); replace HO511 := Aside0.mk (Kd.R_after (ok := (fun k_ => some k_ ≠ (.slice Ao14 t476.length co14 : Value).ownBlock ∧ some k_ ≠ (v485 : Value).ownBlock ∧ some k_ ≠ (.slice Ao37 t503.length co37 : Value).ownBlock)) (R_l (Kd.R_mono HO511.out (fun _ hk => ⟨⟨hk.1.1.1.2, ⟨hk.1.1.2, hk.2⟩⟩, hk.1.2⟩))) hg hat); replace HB := Aside0.mk (hb); have HO514 := Aside0.mk (ho); clear HO502
    clear ho hb hg hat
    refine hK.out _ _ trivial (fun hHeld => ?_)
    clear hK K
    refine norm_ (a' := ?_) ?_ ?_
    rotate_left
    ·show Act.put _ (some 39) _ = _
     simp only [Act.put, List.setIfInBounds_toArray, List.set_cons_zero, List.set_cons_succ, i64_w, i32_w]
     rfl
    refine one_ (i := 14) (N := some 43) #[true, true, true, true, true, true, true, true, true, true, true, true, true, true, true, false] rfl rfl (one_of HT_.out (by kernel_rfl)) (by decide) (fun K hK => ?_)
    refine Kd.R_append_rows_step (Kd.int .i64) (w0 := w) w.heap.size (by rfl) (.tmp 39) (.tmp 42) 24 3 (.int .i64 0) 8 rfl Try.underlying24 info3 rfl (by decide) (by omega) v513 y512 y515 _ _ _ (fun k_ => some k_ ≠ (.slice Ao14 t476.length co14 : Value).ownBlock ∧ some k_ ≠ (v485 : Value).ownBlock ∧ some k_ ≠ (.slice Ao37 t503.length co37 : Value).ownBlock ∧ some k_ ≠ (.slice Ao40 t509.length co40 : Value).ownBlock) (fun _ => False) rfl rfl ?aO ?aR (fun _ _ h => h) (fun _ h => h.elim) ?aF ?aB ?aS ?aL ?_
    (case aR => (have hm_ : Kd.C (Kd.int .i64) w39 A31 y515.length y515 := (by rw [HAA31.out]; have hr_ := Kd.C_drop (m := (t490 : Int).toNat) (c := co14) (Kd.R_reads' HO478.out).2.2 KL30.out (Kd.R_reads' HO478.out).2.1; rw [show (t476).drop (t490 : Int).toNat = y515 from Ny515.out.symm] at hr_; exact hr_)); exact C_l hm_)
    (case aB => exact (by repeat (first | (with_reducible first | exact HB.out | apply below_alloc | apply pw_below_drewN | apply below_drew1 | refine below_set ?_ (IsS55.ge HI472.out)) | exact HB.out)))
    (case aF => exact (fun k_ hk => ⟨Kd.fresh' (Kd.R_lt (R_l HO478.out)) k_ hk, Kd.fresh' (Kd.R_lt (R_l HO486.out)) k_ hk, Kd.fresh' (Kd.R_lt (R_l HO505.out)) k_ hk, Kd.fresh' (Kd.R_lt (R_l HO511.out)) k_ hk⟩))
    (case aO => exact (R_l HO514.out))
    (case aS => exact (below_size (by repeat (first | (with_reducible first | exact HB.out | apply below_alloc | apply pw_below_drewN | apply below_drew1 | refine below_set ?_ (IsS55.ge HI472.out)) | exact HB.out))))
    (case aL => have := LMc27.out; omega)
    intro v520 w41 ho hb hg hat
    rw [← Ny519.out] at ho
    replace HI472 := Aside0.mk (IsS55.grown (by repeat (first | (with_reducible first | exact HI472.out | apply IsS55.alloc | apply IsS55.drewN | apply IsS55.drew | apply IsS55.set_1 | apply IsS55.set_2) | exact HI472.out)) hg (IsS55.own_ne HI472.out HO514.out (by decide))); replace HO478 := Aside0.mk (Kd.R_after (ok := (fun k_ => some k_ ≠ (v485 : Value).ownBlock ∧ some k_ ≠ (.slice Ao37 t503.length co37 : Value).ownBlock ∧ some k_ ≠ (.slice Ao40 t509.length co40 : Value).ownBlock)) (R_l HO478.out) hg hat); replace HO486 := Aside0.mk (Kd.R_after (ok := (fun k_ => some k_ ≠ (.slice Ao14 t476.length co14 : Value).ownBlock ∧ some k_ ≠ (.slice Ao37 t503.length co37 : Value).ownBlock ∧ some k_ ≠ (.slice Ao40 t509.length co40 : Value).ownBlock)) (R_l HO486.out) hg hat); replace HO505 := Aside0.mk (Kd.R_after (ok := (fun k_ => some k_ ≠ (.slice Ao14 t476.length co14 : Value).ownBlock ∧ some k_ ≠ (v485 : Value).ownBlock ∧ some k_ ≠ (.slice Ao40 t509.length co40 : Value).ownBlock)) (R_l HO505.out) hg hat); replace HO511 := Aside0.mk (Kd.R_after (ok := (fun k_ => some k_ ≠ (.slice Ao14 t476.length co14 : Value).ownBlock ∧ some k_ ≠ (v485 : Value).ownBlock ∧ some k_ ≠ (.slice Ao37 t503.length co37 : Value).ownBlock)) (R_l HO511.out) hg hat); replace HB := Aside0.mk (hb); have HO521 := Aside0.mk (ho); clear HO514
    clear ho hb hg hat
    refine hK.out _ _ trivial (fun hHeld => ?_)
    clear hK K
    refine norm_ (a' := ?_) ?_ ?_
    rotate_left
    ·show Act.put _ (some 43) _ = _
     simp only [Act.put, List.setIfInBounds_toArray, List.set_cons_zero, List.set_cons_succ, i64_w, i32_w]
     rfl
    refine pu_ 15 (some 8) ?_
    refine done_ (done_of HT_.out (by kernel_rfl)) ?_
    try go_wp2
    go_meet
    case rel => exact ⟨_, (y519), (t507), (t508), H', ⟨by first | omega | exact Nat.le_refl _⟩, ⟨R_l (Kd.R_mono HO478.out (fun _ hk => hk.2))⟩, ⟨R_l (Kd.R_mono HO521.out (fun _ hk => hk.1))⟩, ⟨by repeat (first | (with_reducible first | exact HI472.out | apply IsS55.alloc | apply IsS55.drewN | apply IsS55.drew | apply IsS55.set_1 | apply IsS55.set_2) | exact HI472.out)⟩, ⟨by repeat (first | (with_reducible first | exact HB.out | apply below_alloc | apply pw_below_drewN | apply below_drew1 | refine below_set ?_ (IsS55.ge HI472.out)) | exact HB.out)⟩⟩
   ·replace c16 := Bool.eq_false_iff.mpr c16
    subst c16
    rw [if_neg (show ¬ (false = true) by decide)] at H
    have H' := Aside0.mk H
    clear H
    go_wp2
    go_meet
    case rel => exact ⟨_, (y484), (t488), (t489), H', ⟨by first | omega | exact Nat.le_refl _⟩, ⟨R_l (Kd.R_mono HO478.out (fun _ hk => hk.2))⟩, ⟨R_l HO486.out⟩, ⟨by repeat (first | (with_reducible first | exact HI472.out | apply IsS55.alloc | apply IsS55.drewN | apply IsS55.drew | apply IsS55.set_1 | apply IsS55.set_2) | exact HI472.out)⟩, ⟨by repeat (first | (with_reducible first | exact HB.out | apply below_alloc | apply pw_below_drewN | apply below_drew1 | refine below_set ?_ (IsS55.ge HI472.out)) | exact HB.out)⟩⟩
  case rest =>
   clear HC7
   try clear c1
   try clear c2
   try clear p2
   try clear c3
   try clear q3
   try clear c4
   try clear c5
   try clear p6
   try clear c16
   try clear c18
   try clear c18b0
   try clear c18b1
   try clear c19
   try clear c19b0
   try clear c19b1
   try clear c20
   try clear c24
   try clear c25
   try clear c25b0
   try clear c26
   try clear c26b0
   try clear c27
   try clear c30
   try clear q30
   try clear c31
   try clear q31
   try clear c41
   try clear q031
   try clear q30
   try clear q31
   obtain ⟨kq, x8_6, x473001_6, x473002_6, HA, HJ6, HO_7, HO_8, HI472, HB⟩ := hcut
   cases kq with
   | zero => exact absurd HA.out (by simp [spec_l8Two.j0])
   | succ kj6 =>
    have H := HA.out
    clear HA
    simp only [spec_l8Two.j0] at H
    obtain ⟨⟨t522, t523, t524⟩, A42, H⟩ := bs H
    try dsimp only at H
    by_cases c43 : t522 = true
    ·subst c43
     rw [if_pos rfl] at H
     obtain ⟨⟨t525, t528, t529⟩, A44, H⟩ := bs H
     try dsimp only at H
     simp only [Option.some.injEq, Prod.mk.injEq] at H
     obtain ⟨rfl, rfl, rfl⟩ := H
     go_wp2_with (first | (refine gL 44 (some 45) Try.func44 #[.pointer (some ⟨g472, 0, none⟩), .int .i64 3] ?_; (with_reducible refine (spec_l1Once.calls g472 t469 x473001_6 x473002_6 3 true t523 t524 w _ ?side1 ?side2 A42.out).mono ?_); (case side1 => repeat (first | (with_reducible first | exact HI472.out | apply IsS55.alloc | apply IsS55.drewN | apply IsS55.drew | apply IsS55.set_1 | apply IsS55.set_2) | exact HI472.out)); (case side2 => repeat (first | (with_reducible first | exact HB.out | apply below_alloc | apply pw_below_drewN | apply below_drew1 | refine below_set ?_ (IsS55.ge HI472.out)) | exact HB.out)); rintro e w45 ⟨rfl, hi, hb, hk⟩; refine ⟨_, rfl, ?_⟩; replace HO_7 := Aside0.mk (Kd.R_mono (Kd.R_keep (IsS55.apart (show IsS55 w _ g472 t469 x473001_6 x473002_6 from by repeat (first | (with_reducible first | exact HI472.out | apply IsS55.alloc | apply IsS55.drewN | apply IsS55.drew | apply IsS55.set_1 | apply IsS55.set_2) | exact HI472.out)) (R_l HO_7.out) (by decide)) hk (fun _ h => h.2)) (fun _ h => h.1)); replace HO_8 := Aside0.mk (Kd.R_mono (Kd.R_keep (IsS55.apart (show IsS55 w _ g472 t469 x473001_6 x473002_6 from by repeat (first | (with_reducible first | exact HI472.out | apply IsS55.alloc | apply IsS55.drewN | apply IsS55.drew | apply IsS55.set_1 | apply IsS55.set_2) | exact HI472.out)) (R_l HO_8.out) (by decide)) hk (fun _ h => h.2)) (fun _ h => h.1)); replace HB := Aside0.mk (hb); replace HI472 := Aside0.mk (hi)) | (refine gL 43 (some 49) Try.func43 #[.pointer (some ⟨g472, 0, none⟩), .int .i64 (wrap64 (2 * (wrap64 (1 + t473)))), .int .i64 6] ?_; (with_reducible refine (spec_l2Draw.calls kj6 g472 t469 t523 t524 (wrap64 (2 * (wrap64 (1 + t473)))) 6 t525 t528 t529 w _ ?side1 ?side2 A44.out).mono ?_); (case side1 => repeat (first | (with_reducible first | exact HI472.out | apply IsS55.alloc | apply IsS55.drewN | apply IsS55.drew | apply IsS55.set_1 | apply IsS55.set_2) | exact HI472.out)); (case side2 => repeat (first | (with_reducible first | exact HB.out | apply below_alloc | apply pw_below_drewN | apply below_drew1 | refine below_set ?_ (IsS55.ge HI472.out)) | exact HB.out)); rintro e w46 ⟨v526, rfl, ho0, hi, hb, hk⟩; refine ⟨_, rfl, ?_⟩; have HO527 := Aside0.mk (Kd.R_lower (Kd.R_new' (Kd.R_new' ho0 (Kd.R_lt (R_l HO_7.out))) (Kd.R_lt (R_l HO_8.out))) (below_size (by repeat (first | (with_reducible first | exact HB.out | apply below_alloc | apply pw_below_drewN | apply below_drew1 | refine below_set ?_ (IsS55.ge HI472.out)) | exact HB.out)))); replace HO_7 := Aside0.mk (Kd.R_mono (Kd.R_told (Kd.R_oldK (IsS55.apart (show IsS55 w _ g472 t469 t523 t524 from by repeat (first | (with_reducible first | exact HI472.out | apply IsS55.alloc | apply IsS55.drewN | apply IsS55.drew | apply IsS55.set_1 | apply IsS55.set_2) | exact HI472.out)) (R_l HO_7.out) (by decide)) hk) (Kd.R_base ho0)) (fun _ h_ => h_.1)); replace HO_8 := Aside0.mk (Kd.R_mono (Kd.R_told (Kd.R_oldK (IsS55.apart (show IsS55 w _ g472 t469 t523 t524 from by repeat (first | (with_reducible first | exact HI472.out | apply IsS55.alloc | apply IsS55.drewN | apply IsS55.drew | apply IsS55.set_1 | apply IsS55.set_2) | exact HI472.out)) (R_l HO_8.out) (by decide)) hk) (Kd.R_base ho0)) (fun _ h_ => h_.1)); replace HB := Aside0.mk (hb); replace HI472 := Aside0.mk (hi)))
     go_ret3
     exact ⟨_, _, rE, R_l (Kd.R_mono HO_7.out (fun _ hk => hk.2)), R_l (Kd.R_mono HO527.out (fun _ hk => hk.1.2)), by repeat (first | (with_reducible first | exact HB.out | apply below_alloc | apply pw_below_drewN | apply below_drew1 | refine below_set ?_ (IsS55.ge HI472.out)) | exact HB.out)⟩
    ·replace c43 := Bool.eq_false_iff.mpr c43
     subst c43
     rw [if_neg (show ¬ (false = true) by decide)] at H
     simp only [Option.some.injEq, Prod.mk.injEq] at H
     obtain ⟨rfl, rfl, rfl⟩ := H
     go_wp2_with (first | (refine gL 44 (some 45) Try.func44 #[.pointer (some ⟨g472, 0, none⟩), .int .i64 3] ?_; (with_reducible refine (spec_l1Once.calls g472 t469 x473001_6 x473002_6 3 false t523 t524 w _ ?side1 ?side2 A42.out).mono ?_); (case side1 => repeat (first | (with_reducible first | exact HI472.out | apply IsS55.alloc | apply IsS55.drewN | apply IsS55.drew | apply IsS55.set_1 | apply IsS55.set_2) | exact HI472.out)); (case side2 => repeat (first | (with_reducible first | exact HB.out | apply below_alloc | apply pw_below_drewN | apply below_drew1 | refine below_set ?_ (IsS55.ge HI472.out)) | exact HB.out)); rintro e w47 ⟨rfl, hi, hb, hk⟩; refine ⟨_, rfl, ?_⟩; replace HO_7 := Aside0.mk (Kd.R_mono (Kd.R_keep (IsS55.apart (show IsS55 w _ g472 t469 x473001_6 x473002_6 from by repeat (first | (with_reducible first | exact HI472.out | apply IsS55.alloc | apply IsS55.drewN | apply IsS55.drew | apply IsS55.set_1 | apply IsS55.set_2) | exact HI472.out)) (R_l HO_7.out) (by decide)) hk (fun _ h => h.2)) (fun _ h => h.1)); replace HO_8 := Aside0.mk (Kd.R_mono (Kd.R_keep (IsS55.apart (show IsS55 w _ g472 t469 x473001_6 x473002_6 from by repeat (first | (with_reducible first | exact HI472.out | apply IsS55.alloc | apply IsS55.drewN | apply IsS55.drew | apply IsS55.set_1 | apply IsS55.set_2) | exact HI472.out)) (R_l HO_8.out) (by decide)) hk (fun _ h => h.2)) (fun _ h => h.1)); replace HB := Aside0.mk (hb); replace HI472 := Aside0.mk (hi)))
     go_ret3
     exact ⟨_, _, rE, R_l HO_7.out, R_l HO_8.out, by repeat (first | (with_reducible first | exact HB.out | apply below_alloc | apply pw_below_drewN | apply below_drew1 | refine below_set ?_ (IsS55.ge HI472.out)) | exact HB.out)⟩
 ·rw [if_neg c5] at H
  exact absurd H (by simp)

/-! ### spec_DrawAreEqualWords: function 8 -/
def spec_DrawAreEqualWords.f (k : Nat) (l0 : List Int) : Option (Int × List Int × List Int) := (spec_l8Two.f k l0).bind fun bt530 => (some (bt530.1, bt530.2.1, bt530.2.2))
set_option maxHeartbeats 8000000 in
set_option maxRecDepth 100000 in
theorem spec_DrawAreEqualWords.calls (k : Nat) (A0 : Option Addr) (c0 : Nat) (l0 : List Int) (r1 : Int) (r2 : List Int) (r3 : List Int) (w : World) (hr0 : Kd.C (Kd.int .u8) w A0 l0.length l0) (hc0 : l0.length ≤ c0) (h : spec_DrawAreEqualWords.f k l0 = some (r1, r2, r3)) :
  Calls Try.prog 8 #[.slice A0 l0.length c0] w fun e w' => ∃ v1_ v2_ : Value, e = .returned (.tuple #[.int .i64 r1, v1_, v2_]) ∧ Kd.R (Kd.int .i64) 3 w' w.heap.size (fun k_ => some k_ ≠ (v2_ : Value).ownBlock) v1_ r2 ∧ Kd.R (Kd.int .i64) 3 w' w.heap.size (fun k_ => some k_ ≠ (v1_ : Value).ownBlock) v2_ r3 ∧ Below w.heap.size w w' := by
 have HR0 := Aside0.mk hr0
 have HC0 := Aside0.mk hc0
 clear hr0 hc0
 have HB := Aside0.mk (Below.refl w.heap.size w)
 have H : ((spec_l8Two.f k l0).bind fun bt530 => (some (bt530.1, bt530.2.1, bt530.2.2))) = some (r1, r2, r3) := h
 clear h
 obtain ⟨⟨t530, t531, t532⟩, A2, H⟩ := bs H
 try dsimp only at H
 simp only [Option.some.injEq, Prod.mk.injEq] at H
 obtain ⟨rfl, rfl, rfl⟩ := H
 go_enter Try.func8, Try.ntmps8
 go_wp2_with (first | (refine gL 41 (some 10) Try.func41 #[.slice A0 l0.length c0] ?_; (with_reducible refine (spec_l8Two.calls k _ _ l0 t530 t531 t532 _ ?side1 ?side2 A2.out).mono ?_); (case side1 => exact C_l HR0.out); (case side2 => exact HC0.out); rintro e w3 ⟨v533, v535, rfl, ho0, ho1, hb⟩; refine ⟨_, rfl, ?_⟩; have HO534 := Aside0.mk (Kd.R_lower ho0 (below_size tb)); have HO536 := Aside0.mk (Kd.R_lower ho1 (below_size tb)); replace HB := Aside0.mk (below_step tb hb)))
 go_ret3
 exact ⟨_, _, rE, R_l HO534.out, R_l HO536.out, tb⟩

/-! ### spec_DrawCommuteIn: function 9 -/
def spec_DrawCommuteIn.f (k : Nat) (l0 : List Int) : Option (Int × List Int × List Int) := (spec_l1New.f k l0).bind fun bt537 => ((spec_l1Below.f bt537.1 bt537.2.1 bt537.2.2 2).bind fun bt541 => ((spec_l2Draw.f k bt537.1 bt541.2.1 bt541.2.2 (wrap64 (2 * (wrap64 (1 + bt541.1)))) 3).bind fun bt544 => ((spec_l2Draw.f k bt537.1 bt544.2.1 bt544.2.2 (wrap64 (2 * (wrap64 (1 + bt541.1)))) 4).bind fun bt549 => ((spec_l1Once.f bt537.1 bt549.2.1 bt549.2.2 3).bind fun bt554 => (if bt554.1 = true then ((some (([] : List Int) : List Int)).bind fun y557 => (if y557.length + bt544.1.length < 17592186044416 then ((some (y557 ++ bt544.1 : List Int)).bind fun y560 => (if y560.length + bt544.1.length < 17592186044416 then (some (wrap64 (1 + bt541.1), bt544.1, (y560 ++ bt544.1))) else (none))) else (none))) else (some (wrap64 (1 + bt541.1), bt544.1, bt549.1)))))))
set_option maxHeartbeats 8000000 in
set_option maxRecDepth 100000 in
theorem spec_DrawCommuteIn.calls (k : Nat) (A0 : Option Addr) (c0 : Nat) (l0 : List Int) (r1 : Int) (r2 : List Int) (r3 : List Int) (w : World) (hr0 : Kd.C (Kd.int .u8) w A0 l0.length l0) (hc0 : l0.length ≤ c0) (h : spec_DrawCommuteIn.f k l0 = some (r1, r2, r3)) :
  Calls Try.prog 9 #[.slice A0 l0.length c0] w fun e w' => ∃ v1_ v2_ : Value, e = .returned (.tuple #[.int .i64 r1, v1_, v2_]) ∧ Kd.R (Kd.int .i64) 3 w' w.heap.size (fun k_ => some k_ ≠ (v2_ : Value).ownBlock) v1_ r2 ∧ Kd.R (Kd.int .i64) 3 w' w.heap.size (fun k_ => some k_ ≠ (v1_ : Value).ownBlock) v2_ r3 ∧ Below w.heap.size w w' := by
 have HR0 := Aside0.mk hr0
 have HC0 := Aside0.mk hc0
 clear hr0 hc0
 have HB := Aside0.mk (Below.refl w.heap.size w)
 have H : ((spec_l1New.f k l0).bind fun bt537 => ((spec_l1Below.f bt537.1 bt537.2.1 bt537.2.2 2).bind fun bt541 => ((spec_l2Draw.f k bt537.1 bt541.2.1 bt541.2.2 (wrap64 (2 * (wrap64 (1 + bt541.1)))) 3).bind fun bt544 => ((spec_l2Draw.f k bt537.1 bt544.2.1 bt544.2.2 (wrap64 (2 * (wrap64 (1 + bt541.1)))) 4).bind fun bt549 => ((spec_l1Once.f bt537.1 bt549.2.1 bt549.2.2 3).bind fun bt554 => (if bt554.1 = true then ((some (([] : List Int) : List Int)).bind fun y557 => (if y557.length + bt544.1.length < 17592186044416 then ((some (y557 ++ bt544.1 : List Int)).bind fun y560 => (if y560.length + bt544.1.length < 17592186044416 then (some (wrap64 (1 + bt541.1), bt544.1, (y560 ++ bt544.1))) else (none))) else (none))) else (some (wrap64 (1 + bt541.1), bt544.1, bt549.1)))))))) = some (r1, r2, r3) := h
 clear h
 obtain ⟨⟨t537, t538, t539⟩, A2, H⟩ := bs H
 try dsimp only at H
 obtain ⟨⟨t541, t542, t543⟩, A3, H⟩ := bs H
 try dsimp only at H
 obtain ⟨⟨t544, t547, t548⟩, A4, H⟩ := bs H
 try dsimp only at H
 obtain ⟨⟨t549, t552, t553⟩, A5, H⟩ := bs H
 try dsimp only at H
 obtain ⟨⟨t554, t555, t556⟩, A6, H⟩ := bs H
 try dsimp only at H
 by_cases c7 : t554 = true
 ·subst c7
  rw [if_pos rfl] at H
  obtain ⟨y557, Ny557, H⟩ := bn H
  obtain ⟨LMc8, H⟩ := gda H
  obtain ⟨y560, Ny560, H⟩ := bn H
  obtain ⟨LMc9, H⟩ := gda H
  generalize hy563 : (y560 ++ t544 : List Int) = y563 at H
  have Ny563 := Aside0.mk hy563.symm; clear hy563
  simp only [Option.some.injEq, Prod.mk.injEq] at H
  obtain ⟨rfl, rfl, rfl⟩ := H
  go_enter Try.func9, Try.ntmps9
  go_wp2_with (first | (refine gL 30 (some 10) Try.func30 #[.slice A0 l0.length c0] ?_; (with_reducible refine (spec_l1New.calls k _ _ l0 t537 t538 t539 w _ ?side1 ?side2 ?side3 A2.out).mono ?_); (case side1 => exact tb); (case side2 => exact HR0.out); (case side3 => exact HC0.out); rintro e w10 ⟨g540, rfl, hi, hb, hb2⟩; refine ⟨_, rfl, ?_⟩; replace HB := Aside0.mk (hb); have HI540 := Aside0.mk (hi)) | (refine gL 42 (some 12) Try.func42 #[.pointer (some ⟨g540, 0, none⟩), .int .i64 2] ?_; (with_reducible refine (spec_l1Below.calls g540 t537 t538 t539 2 t541 t542 t543 w _ ?side1 ?side2 A3.out).mono ?_); (case side1 => repeat (first | (with_reducible first | exact HI540.out | apply IsS55.alloc | apply IsS55.drewN | apply IsS55.drew | apply IsS55.set_1 | apply IsS55.set_2) | exact HI540.out)); (case side2 => repeat (first | (with_reducible first | exact HB.out | apply below_alloc | apply pw_below_drewN | apply below_drew1 | refine below_set ?_ (IsS55.ge HI540.out)) | exact HB.out)); rintro e w11 ⟨rfl, hi, hb, hk⟩; refine ⟨_, rfl, ?_⟩; replace HB := Aside0.mk (hb); replace HI540 := Aside0.mk (hi)) | (refine gL 43 (some 17) Try.func43 #[.pointer (some ⟨g540, 0, none⟩), .int .i64 (wrap64 (2 * (wrap64 (1 + t541)))), .int .i64 3] ?_; (with_reducible refine (spec_l2Draw.calls k g540 t537 t542 t543 (wrap64 (2 * (wrap64 (1 + t541)))) 3 t544 t547 t548 w _ ?side1 ?side2 A4.out).mono ?_); (case side1 => repeat (first | (with_reducible first | exact HI540.out | apply IsS55.alloc | apply IsS55.drewN | apply IsS55.drew | apply IsS55.set_1 | apply IsS55.set_2) | exact HI540.out)); (case side2 => repeat (first | (with_reducible first | exact HB.out | apply below_alloc | apply pw_below_drewN | apply below_drew1 | refine below_set ?_ (IsS55.ge HI540.out)) | exact HB.out)); rintro e w12 ⟨v545, rfl, ho0, hi, hb, hk⟩; refine ⟨_, rfl, ?_⟩; have HO546 := Aside0.mk (Kd.R_lower ho0 (below_size (by repeat (first | (with_reducible first | exact HB.out | apply below_alloc | apply pw_below_drewN | apply below_drew1 | refine below_set ?_ (IsS55.ge HI540.out)) | exact HB.out)))); replace HB := Aside0.mk (hb); replace HI540 := Aside0.mk (hi)) | (refine gL 43 (some 21) Try.func43 #[.pointer (some ⟨g540, 0, none⟩), .int .i64 (wrap64 (2 * (wrap64 (1 + t541)))), .int .i64 4] ?_; (with_reducible refine (spec_l2Draw.calls k g540 t537 t547 t548 (wrap64 (2 * (wrap64 (1 + t541)))) 4 t549 t552 t553 w _ ?side1 ?side2 A5.out).mono ?_); (case side1 => repeat (first | (with_reducible first | exact HI540.out | apply IsS55.alloc | apply IsS55.drewN | apply IsS55.drew | apply IsS55.set_1 | apply IsS55.set_2) | exact HI540.out)); (case side2 => repeat (first | (with_reducible first | exact HB.out | apply below_alloc | apply pw_below_drewN | apply below_drew1 | refine below_set ?_ (IsS55.ge HI540.out)) | exact HB.out)); rintro e w13 ⟨v550, rfl, ho0, hi, hb, hk⟩; refine ⟨_, rfl, ?_⟩; have HO551 := Aside0.mk (Kd.R_lower (Kd.R_new' ho0 (Kd.R_lt (R_l HO546.out))) (below_size (by repeat (first | (with_reducible first | exact HB.out | apply below_alloc | apply pw_below_drewN | apply below_drew1 | refine below_set ?_ (IsS55.ge HI540.out)) | exact HB.out)))); replace HO546 := Aside0.mk (Kd.R_mono (Kd.R_told (Kd.R_oldK (IsS55.apart (show IsS55 w _ g540 t537 t547 t548 from by repeat (first | (with_reducible first | exact HI540.out | apply IsS55.alloc | apply IsS55.drewN | apply IsS55.drew | apply IsS55.set_1 | apply IsS55.set_2) | exact HI540.out)) (R_l HO546.out) (by decide)) hk) (Kd.R_base ho0)) (fun _ h_ => h_.1)); replace HB := Aside0.mk (hb); replace HI540 := Aside0.mk (hi)) | (refine gL 44 (some 23) Try.func44 #[.pointer (some ⟨g540, 0, none⟩), .int .i64 3] ?_; (with_reducible refine (spec_l1Once.calls g540 t537 t552 t553 3 true t555 t556 w _ ?side1 ?side2 A6.out).mono ?_); (case side1 => repeat (first | (with_reducible first | exact HI540.out | apply IsS55.alloc | apply IsS55.drewN | apply IsS55.drew | apply IsS55.set_1 | apply IsS55.set_2) | exact HI540.out)); (case side2 => repeat (first | (with_reducible first | exact HB.out | apply below_alloc | apply pw_below_drewN | apply below_drew1 | refine below_set ?_ (IsS55.ge HI540.out)) | exact HB.out)); rintro e w14 ⟨rfl, hi, hb, hk⟩; refine ⟨_, rfl, ?_⟩; replace HO546 := Aside0.mk (Kd.R_mono (Kd.R_keep (IsS55.apart (show IsS55 w _ g540 t537 t552 t553 from by repeat (first | (with_reducible first | exact HI540.out | apply IsS55.alloc | apply IsS55.drewN | apply IsS55.drew | apply IsS55.set_1 | apply IsS55.set_2) | exact HI540.out)) (R_l HO546.out) (by decide)) hk (fun _ h => h.2)) (fun _ h => h.1)); replace HO551 := Aside0.mk (Kd.R_mono (Kd.R_keep (IsS55.apart (show IsS55 w _ g540 t537 t552 t553 from by repeat (first | (with_reducible first | exact HI540.out | apply IsS55.alloc | apply IsS55.drewN | apply IsS55.drew | apply IsS55.set_1 | apply IsS55.set_2) | exact HI540.out)) (R_l HO551.out) (by decide)) hk (fun _ h => h.2)) (fun _ h => h.1)); replace HB := Aside0.mk (hb); replace HI540 := Aside0.mk (hi)) | ((with_reducible refine gate_dst (N := 24) rfl ?_); refine Kd.R_lit (Kd.int .i64) _ 3 ?hg (N := 24) ?hd (xs := ([] : List Int)) (inner := []) (ok := fun _ => True) (okp := fun _ => True) ?hr ?hp (fun _ hk => hk) trivial (Below.refl _ _) (Nat.le_refl _) (by simp) ?_; (case hd => rfl); (case hg => rfl); (case hr => exact gS); (case hp => exact (Reps.none _ _)); intro v558 w15 ho16 hb hg_ hnew_; clear hg_ hnew_; (first | rw [← Ny557.out] at ho16 | (simp only [Int.reduceToNat] at ho16; rw [← Ny557.out] at ho16)); have HO559 := Aside0.mk (Kd.R_lower (Kd.R_new' (Kd.R_new' ho16 (Kd.R_lt (R_l HO546.out))) (Kd.R_lt (R_l HO551.out))) (below_size (by repeat (first | (with_reducible first | exact HB.out | apply below_alloc | apply pw_below_drewN | apply below_drew1 | refine below_set ?_ (IsS55.ge HI540.out)) | exact HB.out)))); replace HO546 := Aside0.mk (Kd.R_elder' (R_l HO546.out) (Kd.R_base ho16) hb); replace HO551 := Aside0.mk (Kd.R_elder' (R_l HO551.out) (Kd.R_base ho16) hb); replace HB := Aside0.mk (below_step (by repeat (first | (with_reducible first | exact HB.out | apply below_alloc | apply pw_below_drewN | apply below_drew1 | refine below_set ?_ (IsS55.ge HI540.out)) | exact HB.out)) hb); replace HI540 := Aside0.mk (IsS55.below (by repeat (first | (with_reducible first | exact HI540.out | apply IsS55.alloc | apply IsS55.drewN | apply IsS55.drew | apply IsS55.set_1 | apply IsS55.set_2) | exact HI540.out)) hb); clear hb ho16; obtain ⟨Ao18, co18, eo18⟩ := Kd.R_slice HO546.out; subst eo18) | ((with_reducible refine gate_builtin (b := .append) (xs := #[.tmp 24, .tmp 25]) rfl ?_); at_builtin; refine Kd.R_append_rows (Kd.int .i64) (w0 := w) w.heap.size rfl (.tmp 24) (.tmp 25) 24 3 (.int .i64 0) 8 rfl Try.underlying24 info3 rfl (by decide) (by omega) v558 y557 t544 _ _ _ (fun k_ => some k_ ≠ (.slice Ao18 t544.length co18 : Value).ownBlock ∧ some k_ ≠ (v550 : Value).ownBlock) (fun _ => False) rfl rfl ?aO ?aR (fun _ _ h => h) (fun _ h => h.elim) ?aF ?aB ?aS ?aL ?_; (case aR => exact C_l ((Kd.R_reads' HO546.out).2.2)); (case aB => exact (by repeat (first | (with_reducible first | exact HB.out | apply below_alloc | apply pw_below_drewN | apply below_drew1 | refine below_set ?_ (IsS55.ge HI540.out)) | exact HB.out))); (case aF => exact (fun k_ hk => ⟨Kd.fresh' (Kd.R_lt (R_l HO546.out)) k_ hk, Kd.fresh' (Kd.R_lt (R_l HO551.out)) k_ hk⟩)); (case aO => exact (R_l (Kd.R_mono HO559.out (fun _ hk => ⟨hk.1.2, hk.2⟩)))); (case aS => exact (below_size (by repeat (first | (with_reducible first | exact HB.out | apply below_alloc | apply pw_below_drewN | apply below_drew1 | refine below_set ?_ (IsS55.ge HI540.out)) | exact HB.out)))); (case aL => have := LMc8.out; omega); intro v561 w17 ho hb hg hat; rw [← Ny560.out] at ho; replace HI540 := Aside0.mk (IsS55.grown (by repeat (first | (with_reducible first | exact HI540.out | apply IsS55.alloc | apply IsS55.drewN | apply IsS55.drew | apply IsS55.set_1 | apply IsS55.set_2) | exact HI540.out)) hg (IsS55.own_ne HI540.out HO559.out (by decide))); replace HO546 := Aside0.mk (Kd.R_after (ok := (fun k_ => some k_ ≠ (v550 : Value).ownBlock)) (R_l (Kd.R_mono HO546.out (fun _ hk => ⟨hk.1.2, hk.2⟩))) hg hat); replace HO551 := Aside0.mk (Kd.R_after (ok := (fun k_ => some k_ ≠ (.slice Ao18 t544.length co18 : Value).ownBlock)) (R_l (Kd.R_mono HO551.out (fun _ hk => ⟨hk.1.2, hk.2⟩))) hg hat); replace HB := Aside0.mk (hb); have HO562 := Aside0.mk (ho); clear HO559; clear ho hb hg hat) | ((with_reducible refine gate_builtin (b := .append) (xs := #[.tmp 26, .tmp 27]) rfl ?_); at_builtin; refine Kd.R_append_rows (Kd.int .i64) (w0 := w) w.heap.size rfl (.tmp 26) (.tmp 27) 24 3 (.int .i64 0) 8 rfl Try.underlying24 info3 rfl (by decide) (by omega) v561 y560 t544 _ _ _ (fun k_ => some k_ ≠ (.slice Ao18 t544.length co18 : Value).ownBlock ∧ some k_ ≠ (v550 : Value).ownBlock) (fun _ => False) rfl rfl ?aO ?aR (fun _ _ h => h) (fun _ h => h.elim) ?aF ?aB ?aS ?aL ?_; (case aR => exact C_l ((Kd.R_reads' HO546.out).2.2)); (case aB => exact (by repeat (first | (with_reducible first | exact HB.out | apply below_alloc | apply pw_below_drewN | apply below_drew1 | refine below_set ?_ (IsS55.ge HI540.out)) | exact HB.out))); (case aF => exact (fun k_ hk => ⟨Kd.fresh' (Kd.R_lt (R_l HO546.out)) k_ hk, Kd.fresh' (Kd.R_lt (R_l HO551.out)) k_ hk⟩)); (case aO => exact (R_l HO562.out)); (case aS => exact (below_size (by repeat (first | (with_reducible first | exact HB.out | apply below_alloc | apply pw_below_drewN | apply below_drew1 | refine below_set ?_ (IsS55.ge HI540.out)) | exact HB.out)))); (case aL => have := LMc9.out; omega); intro v564 w19 ho hb hg hat; rw [← Ny563.out] at ho; replace HI540 := Aside0.mk (IsS55.grown (by repeat (first | (with_reducible first | exact HI540.out | apply IsS55.alloc | apply IsS55.drewN | apply IsS55.drew | apply IsS55.set_1 | apply IsS55.set_2) | exact HI540.out)) hg (IsS55.own_ne HI540.out HO562.out (by decide))); replace HO546 := Aside0.mk (Kd.R_after (ok := (fun k_ => some k_ ≠ (v550 : Value).ownBlock)) (R_l HO546.out) hg hat); replace HO551 := Aside0.mk (Kd.R_after (ok := (fun k_ => some k_ ≠ (.slice Ao18 t544.length co18 : Value).ownBlock)) (R_l HO551.out) hg hat); replace HB := Aside0.mk (hb); have HO565 := Aside0.mk (ho); clear HO562; clear ho hb hg hat))
  go_ret3
  exact ⟨_, _, rE, R_l (Kd.R_mono HO546.out (fun _ hk => hk.2)), R_l (Kd.R_mono HO565.out (fun _ hk => hk.1)), by repeat (first | (with_reducible first | exact HB.out | apply below_alloc | apply pw_below_drewN | apply below_drew1 | refine below_set ?_ (IsS55.ge HI540.out)) | exact HB.out)⟩
 ·replace c7 := Bool.eq_false_iff.mpr c7
  subst c7
  rw [if_neg (show ¬ (false = true) by decide)] at H
  simp only [Option.some.injEq, Prod.mk.injEq] at H
  obtain ⟨rfl, rfl, rfl⟩ := H
  go_enter Try.func9, Try.ntmps9
  go_wp2_with (first | (refine gL 30 (some 10) Try.func30 #[.slice A0 l0.length c0] ?_; (with_reducible refine (spec_l1New.calls k _ _ l0 t537 t538 t539 w _ ?side1 ?side2 ?side3 A2.out).mono ?_); (case side1 => exact tb); (case side2 => exact HR0.out); (case side3 => exact HC0.out); rintro e w20 ⟨g540, rfl, hi, hb, hb2⟩; refine ⟨_, rfl, ?_⟩; replace HB := Aside0.mk (hb); have HI540 := Aside0.mk (hi)) | (refine gL 42 (some 12) Try.func42 #[.pointer (some ⟨g540, 0, none⟩), .int .i64 2] ?_; (with_reducible refine (spec_l1Below.calls g540 t537 t538 t539 2 t541 t542 t543 w _ ?side1 ?side2 A3.out).mono ?_); (case side1 => repeat (first | (with_reducible first | exact HI540.out | apply IsS55.alloc | apply IsS55.drewN | apply IsS55.drew | apply IsS55.set_1 | apply IsS55.set_2) | exact HI540.out)); (case side2 => repeat (first | (with_reducible first | exact HB.out | apply below_alloc | apply pw_below_drewN | apply below_drew1 | refine below_set ?_ (IsS55.ge HI540.out)) | exact HB.out)); rintro e w21 ⟨rfl, hi, hb, hk⟩; refine ⟨_, rfl, ?_⟩; replace HB := Aside0.mk (hb); replace HI540 := Aside0.mk (hi)) | (refine gL 43 (some 17) Try.func43 #[.pointer (some ⟨g540, 0, none⟩), .int .i64 (wrap64 (2 * (wrap64 (1 + t541)))), .int .i64 3] ?_; (with_reducible refine (spec_l2Draw.calls k g540 t537 t542 t543 (wrap64 (2 * (wrap64 (1 + t541)))) 3 t544 t547 t548 w _ ?side1 ?side2 A4.out).mono ?_); (case side1 => repeat (first | (with_reducible first | exact HI540.out | apply IsS55.alloc | apply IsS55.drewN | apply IsS55.drew | apply IsS55.set_1 | apply IsS55.set_2) | exact HI540.out)); (case side2 => repeat (first | (with_reducible first | exact HB.out | apply below_alloc | apply pw_below_drewN | apply below_drew1 | refine below_set ?_ (IsS55.ge HI540.out)) | exact HB.out)); rintro e w22 ⟨v545, rfl, ho0, hi, hb, hk⟩; refine ⟨_, rfl, ?_⟩; have HO546 := Aside0.mk (Kd.R_lower ho0 (below_size (by repeat (first | (with_reducible first | exact HB.out | apply below_alloc | apply pw_below_drewN | apply below_drew1 | refine below_set ?_ (IsS55.ge HI540.out)) | exact HB.out)))); replace HB := Aside0.mk (hb); replace HI540 := Aside0.mk (hi)) | (refine gL 43 (some 21) Try.func43 #[.pointer (some ⟨g540, 0, none⟩), .int .i64 (wrap64 (2 * (wrap64 (1 + t541)))), .int .i64 4] ?_; (with_reducible refine (spec_l2Draw.calls k g540 t537 t547 t548 (wrap64 (2 * (wrap64 (1 + t541)))) 4 t549 t552 t553 w _ ?side1 ?side2 A5.out).mono ?_); (case side1 => repeat (first | (with_reducible first | exact HI540.out | apply IsS55.alloc | apply IsS55.drewN | apply IsS55.drew | apply IsS55.set_1 | apply IsS55.set_2) | exact HI540.out)); (case side2 => repeat (first | (with_reducible first | exact HB.out | apply below_alloc | apply pw_below_drewN | apply below_drew1 | refine below_set ?_ (IsS55.ge HI540.out)) | exact HB.out)); rintro e w23 ⟨v550, rfl, ho0, hi, hb, hk⟩; refine ⟨_, rfl, ?_⟩; have HO551 := Aside0.mk (Kd.R_lower (Kd.R_new' ho0 (Kd.R_lt (R_l HO546.out))) (below_size (by repeat (first | (with_reducible first | exact HB.out | apply below_alloc | apply pw_below_drewN | apply below_drew1 | refine below_set ?_ (IsS55.ge HI540.out)) | exact HB.out)))); replace HO546 := Aside0.mk (Kd.R_mono (Kd.R_told (Kd.R_oldK (IsS55.apart (show IsS55 w _ g540 t537 t547 t548 from by repeat (first | (with_reducible first | exact HI540.out | apply IsS55.alloc | apply IsS55.drewN | apply IsS55.drew | apply IsS55.set_1 | apply IsS55.set_2) | exact HI540.out)) (R_l HO546.out) (by decide)) hk) (Kd.R_base ho0)) (fun _ h_ => h_.1)); replace HB := Aside0.mk (hb); replace HI540 := Aside0.mk (hi)) | (refine gL 44 (some 23) Try.func44 #[.pointer (some ⟨g540, 0, none⟩), .int .i64 3] ?_; (with_reducible refine (spec_l1Once.calls g540 t537 t552 t553 3 false t555 t556 w _ ?side1 ?side2 A6.out).mono ?_); (case side1 => repeat (first | (with_reducible first | exact HI540.out | apply IsS55.alloc | apply IsS55.drewN | apply IsS55.drew | apply IsS55.set_1 | apply IsS55.set_2) | exact HI540.out)); (case side2 => repeat (first | (with_reducible first | exact HB.out | apply below_alloc | apply pw_below_drewN | apply below_drew1 | refine below_set ?_ (IsS55.ge HI540.out)) | exact HB.out)); rintro e w24 ⟨rfl, hi, hb, hk⟩; refine ⟨_, rfl, ?_⟩; replace HO546 := Aside0.mk (Kd.R_mono (Kd.R_keep (IsS55.apart (show IsS55 w _ g540 t537 t552 t553 from by repeat (first | (with_reducible first | exact HI540.out | apply IsS55.alloc | apply IsS55.drewN | apply IsS55.drew | apply IsS55.set_1 | apply IsS55.set_2) | exact HI540.out)) (R_l HO546.out) (by decide)) hk (fun _ h => h.2)) (fun _ h => h.1)); replace HO551 := Aside0.mk (Kd.R_mono (Kd.R_keep (IsS55.apart (show IsS55 w _ g540 t537 t552 t553 from by repeat (first | (with_reducible first | exact HI540.out | apply IsS55.alloc | apply IsS55.drewN | apply IsS55.drew | apply IsS55.set_1 | apply IsS55.set_2) | exact HI540.out)) (R_l HO551.out) (by decide)) hk (fun _ h => h.2)) (fun _ h => h.1)); replace HB := Aside0.mk (hb); replace HI540 := Aside0.mk (hi)))
  go_ret3
  exact ⟨_, _, rE, R_l (Kd.R_mono HO546.out (fun _ hk => hk.2)), R_l (Kd.R_mono HO551.out (fun _ hk => hk.2)), by repeat (first | (with_reducible first | exact HB.out | apply below_alloc | apply pw_below_drewN | apply below_drew1 | refine below_set ?_ (IsS55.ge HI540.out)) | exact HB.out)⟩

/-! ### spec_DrawRelator: function 10 -/
def spec_DrawRelator.f (k : Nat) (l0 : List Int) : Option (Int) := (spec_l1New.f k l0).bind fun bt566 => ((spec_l1Below.f bt566.1 bt566.2.1 bt566.2.2 5).bind fun bt570 => (some (wrap64 (bt570.1 - 1))))
set_option maxHeartbeats 8000000 in
set_option maxRecDepth 100000 in
theorem spec_DrawRelator.calls (k : Nat) (A0 : Option Addr) (c0 : Nat) (l0 : List Int) (r : Int) (w : World) (hr0 : Kd.C (Kd.int .u8) w A0 l0.length l0) (hc0 : l0.length ≤ c0) (h : spec_DrawRelator.f k l0 = some r) :
  Calls Try.prog 10 #[.slice A0 l0.length c0] w fun e w' => e = .returned (.int .i64 r) ∧ Below w.heap.size w w' := by
 have HR0 := Aside0.mk hr0
 have HC0 := Aside0.mk hc0
 clear hr0 hc0
 have HB := Aside0.mk (Below.refl w.heap.size w)
 have H : ((spec_l1New.f k l0).bind fun bt566 => ((spec_l1Below.f bt566.1 bt566.2.1 bt566.2.2 5).bind fun bt570 => (some (wrap64 (bt570.1 - 1))))) = some r := h
 clear h
 obtain ⟨⟨t566, t567, t568⟩, A2, H⟩ := bs H
 try dsimp only at H
 obtain ⟨⟨t570, t571, t572⟩, A3, H⟩ := bs H
 try dsimp only at H
 obtain rfl := Option.some.inj H
 go_enter Try.func10, Try.ntmps10
 go_wp2_with (first | (refine gL 30 (some 4) Try.func30 #[.slice A0 l0.length c0] ?_; (with_reducible refine (spec_l1New.calls k _ _ l0 t566 t567 t568 w _ ?side1 ?side2 ?side3 A2.out).mono ?_); (case side1 => exact tb); (case side2 => exact HR0.out); (case side3 => exact HC0.out); rintro e w4 ⟨g569, rfl, hi, hb, hb2⟩; refine ⟨_, rfl, ?_⟩; replace HB := Aside0.mk (hb); have HI569 := Aside0.mk (hi)) | (refine gL 42 (some 5) Try.func42 #[.pointer (some ⟨g569, 0, none⟩), .int .i64 5] ?_; (with_reducible refine (spec_l1Below.calls g569 t566 t567 t568 5 t570 t571 t572 w _ ?side1 ?side2 A3.out).mono ?_); (case side1 => repeat (first | (with_reducible first | exact HI569.out | apply IsS55.alloc | apply IsS55.drewN | apply IsS55.drew | apply IsS55.set_1 | apply IsS55.set_2) | exact HI569.out)); (case side2 => repeat (first | (with_reducible first | exact HB.out | apply below_alloc | apply pw_below_drewN | apply below_drew1 | refine below_set ?_ (IsS55.ge HI569.out)) | exact HB.out)); rintro e w5 ⟨rfl, hi, hb, hk⟩; refine ⟨_, rfl, ?_⟩; replace HB := Aside0.mk (hb); replace HI569 := Aside0.mk (hi)))
 go_ret
 exact ⟨rE, by repeat (first | (with_reducible first | exact HB.out | apply below_alloc | apply pw_below_drewN | apply below_drew1 | refine below_set ?_ (IsS55.ge HI569.out)) | exact HB.out)⟩

end Go.Proofs.Ytbchbmfmplfoiaa.PFnGroups
