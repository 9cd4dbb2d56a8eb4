import Derived.Test.YtbchbmfmplfoiaaWSpanB
import Derived.Test.YtbchbmfmplfoiaaPFnGroupsx0
import Derived.Test.YtbchbmfmplfoiaaPFnGroupsx4
namespace Go.Proofs.Ytbchbmfmplfoiaa.PFnGroups
open Go.RowKit Go.Proofs.YtbchbmfmplfoiaaW.PrintWords Go.Proofs.YtbchbmfmplfoiaaW.PrintLast Go.Proofs.YtbchbmfmplfoiaaW.PrintMore
attribute [local go_sem] max2_int min2_int max_two min_two max_three min_three max_four min_four   -- for this text's walks alone
set_option linter.unusedVariables false
set_option linter.unusedSimpArgs false

/-! ### impl_turn: function 36 -/
def impl_turn.f (l0 : List Int) (a1 : Int) : Option (List Int) := if (l0.length : Int) = 0 then (some (([] : List Int))) else ((impl_mod.f a1 (l0.length : Int)).bind fun t327 => (if 0 ≤ t327 then (if t327 ≤ (l0.length : Int) then ((impl_copyOf.f (l0.drop (t327 : Int).toNat)).bind fun t329 => (if t329.length + (l0.take (t327 : Int).toNat).length < 17592186044416 then (some (t329 ++ (l0.take (t327 : Int).toNat))) else (none))) else (none)) else (none)))
def impl_turn.T4 : Bool × List (List Nat × List Nat) := (true, [([], []), ([], []), ([0, 1], [0, 1]), ([2], [2]), ([], []), ([], []), ([4, 5], [4, 5]), ([3, 6, 3], [3, 6]), ([7, 7, 0, 1, 2, 3, 4, 5, 6, 7], [7])])
def impl_turn.B4 : List Nat := [0, 0, 3, 7, 0, 0, 48, 127, 255]
theorem impl_turn.tab4 : rtab .any (opsOf Try.f36 4) = impl_turn.T4 := by kernel_rfl
theorem impl_turn.bits4 : waitsOk impl_turn.T4.2 impl_turn.B4 = true := by kernel_rfl
set_option maxHeartbeats 8000000 in
set_option maxRecDepth 100000 in
theorem impl_turn.calls (A0 : Option Addr) (c0 : Nat) (l0 : List Int) (a1 : Int) (r : List Int) (w : World) (hr0 : Kd.C (Kd.int .i64) w A0 l0.length l0) (hc0 : l0.length ≤ c0) (h : impl_turn.f l0 a1 = some r) :
  Calls Try.prog 36 #[.slice A0 l0.length c0, .int .i64 a1] w fun e w' => ∃ v0_ : Value, e = .returned (v0_) ∧ Kd.R (Kd.int .i64) 3 w' w.heap.size (fun _ => True) v0_ r ∧ Below w.heap.size w w' := by
 have HR0 := Aside0.mk hr0
 have HC0 := Aside0.mk hc0
 clear hr0 hc0
 have HB := Aside0.mk (Below.refl w.heap.size w)
 have H : (if (l0.length : Int) = 0 then (some (([] : List Int))) else ((impl_mod.f a1 (l0.length : Int)).bind fun t327 => (if 0 ≤ t327 then (if t327 ≤ (l0.length : Int) then ((impl_copyOf.f (l0.drop (t327 : Int).toNat)).bind fun t329 => (if t329.length + (l0.take (t327 : Int).toNat).length < 17592186044416 then (some (t329 ++ (l0.take (t327 : Int).toNat))) else (none))) else (none)) else (none)))) = some r := h
 clear h
 by_cases c3 : (l0.length : Int) = 0
 ·rw [if_pos c3] at H
  have c3b0 : ((l0.length : Int) == 0) = true := beq_iff_eq.mpr c3
  have c3b1 : ((l0.length : Int) != 0) = false := bne_eq_false_iff_eq.mpr c3
  clear c3
  generalize hy324 : (([] : List Int) : List Int) = y324 at H
  have Ny324 := Aside0.mk hy324.symm; clear hy324
  obtain rfl := Option.some.inj H
  go_enter Try.func36, Try.ntmps36
  go_wp2_with (first | ((with_reducible refine gate_dst (N := 8) rfl ?_); refine Kd.R_lit (Kd.int .i64) _ 3 ?hg (N := 8) ?hd (xs := ([] : List Int)) (inner := []) (ok := fun _ => True) (okp := fun _ => True) ?hr ?hp (fun _ hk => hk) trivial (Below.refl _ _) (Nat.le_refl _) (by simp) ?_; (case hd => rfl); (case hg => rfl); (case hr => exact gS); (case hp => exact (Reps.none _ _)); intro v325 w4 ho5 hb hg_ hnew_; clear hg_ hnew_; (first | rw [← Ny324.out] at ho5 | (simp only [Int.reduceToNat] at ho5; rw [← Ny324.out] at ho5)); have HO326 := Aside0.mk (Kd.R_lower ho5 (below_size (by repeat (first | (with_reducible first | exact HB.out | apply below_alloc | apply pw_below_drewN | apply below_drew1 | exact Below.refl _ _) | exact HB.out)))); replace HB := Aside0.mk (below_step (by repeat (first | (with_reducible first | exact HB.out | apply below_alloc | apply pw_below_drewN | apply below_drew1 | exact Below.refl _ _) | exact HB.out)) hb); clear hb ho5))
  go_ret
  exact ⟨_, rE, R_l HO326.out, by repeat (first | (with_reducible first | exact HB.out | apply below_alloc | apply pw_below_drewN | apply below_drew1 | exact Below.refl _ _) | exact HB.out)⟩
 ·rw [if_neg c3] at H
  have c3b0 : ((l0.length : Int) == 0) = false := beq_eq_false_iff_ne.mpr c3
  have c3b1 : ((l0.length : Int) != 0) = true := bne_iff_ne.mpr c3
  have c3b2 : ¬ (l0 = []) := fun h_ => c3 (by rw [h_]; rfl)
  obtain ⟨t327, A6, H⟩ := bs H
  by_cases c7 : 0 ≤ t327
  ·rw [if_pos c7] at H
   have c7b0 := eq_true c7
   have c7b1 : decide (0 ≤ t327) = true := decide_eq_true c7
   clear c7
   obtain ⟨c8, H⟩ := gd H
   have c8b0 := eq_true c8
   have c8b1 : decide (t327 ≤ (l0.length : Int)) = true := decide_eq_true c8
   clear c8
   obtain ⟨t329, A9, H⟩ := bs H
   have c10b0 := eq_true (dT : 0 ≤ t327)
   have c11b0 := eq_true (dT : t327 ≤ (l0.length : Int))
   obtain ⟨LMc12, H⟩ := gda H
   generalize hy333 : (t329 ++ (l0.take (t327 : Int).toNat) : List Int) = y333 at H
   have Ny333 := Aside0.mk hy333.symm; clear hy333
   obtain rfl := Option.some.inj H
   go_enter Try.func36, Try.ntmps36
   try go_wp2_with (first | (refine gL 57 (some 12) Try.func57 #[.int .i64 a1, .int .i64 (l0.length : Int)] ?_; (with_reducible refine (impl_mod.calls a1 (l0.length : Int) t327 _ A6.out).mono ?_); rintro e w' ⟨rfl, ⟨nd, rfl⟩⟩; refine ⟨_, rfl, ?_⟩))
   replace HB := Aside0.mk (below_drew1 HB.out)
   obtain ⟨i014, hi014, _, hsz14, _⟩ := info_parts info3
   obtain ⟨A14, hcut14, hA14, hC14⟩ := print_drop_of (P := Try.prog) (Value.int .i64) 0 24 3 .i64 Try.underlying24 hi014 hsz14 A0 c0 l0 t327 dT dT HC0.out
   have HR328 := Aside0.mk (Kd.C_of_reads (h1 := fun _ => rfl) (hA14 _ (Kd.reads_of_C HR0.out)))
   have HC328 := Aside0.mk hC14
   clear hA14 hC14 hi014 hsz14
   obtain ⟨i015, hi015, _, hsz15, _⟩ := info_parts info3
   obtain ⟨hcut15, hA15, hC15⟩ := print_take_of (P := Try.prog) (Value.int .i64) 0 24 3 .i64 Try.underlying24 hi015 hsz15 A0 c0 l0 t327 dT dT HC0.out
   have HR332 := Aside0.mk (Kd.C_of_reads (h1 := fun _ => rfl) (hA15 _ (Kd.reads_of_C HR0.out)))
   have HC332 := Aside0.mk hC15
   clear hA15 hC15 hi015 hsz15
   refine start_ (n := 9) (S := fun w' => True) (ds := []) #[false, false, false, false, false, false, false, false, false] (by kernel_rfl) rfl rfl trivial (fun hHeld => ?_); refine with_tabW impl_turn.tab4 impl_turn.bits4 (fun HT_ HW_ => ?_)
   generalize w.drew = w13 at HB HR328 HR332 hHeld ⊢
   refine pu_ 0 (some 13) ?_
   refine pu_ 1 (some 14) ?_
   refine pu_ 2 (some 15) ?_
   refine pu_ 4 (some 17) ?_
   refine pu_ 5 (some 18) ?_
   refine pu_ 6 (some 19) ?_
   refine one_ (i := 3) (N := some 16) #[true, true, true, true, true, true, true, false, false] rfl rfl (one_of HT_.out (by kernel_rfl)) (by decide) (fun K hK => ?_)
   refine goes_ Try.func37 (by kernel_rfl) rfl #[.slice A14 (l0.drop (t327 : Int).toNat).length (c0 - t327.toNat)] (by rfl) rfl rfl (by (try simp only [List.map_toArray, List.map_cons, List.map_nil]); first | done | (rw [show (l0.drop (t327 : Int).toNat).length = (l0.length - t327.toNat) from List.length_drop] <;> rfl) | rfl | (simp only [List.length_drop, List.length_take]; rfl)) ?_
   with_reducible refine (impl_copyOf.calls _ _ (l0.drop (t327 : Int).toNat) t329 _ ?side1 ?side2 A9.out).mono ?_
   (case side1 => repeat (first | exact HR328.out | exact (Kd.C_below HR328.out HB.out) | (with_reducible refine Kd.C_alloc ?_ _) | (with_reducible refine Kd.C_drewN ?_ _) | (with_reducible refine Kd.C_drew ?_)))
   (case side2 => exact HC328.out)
   rintro e w16 ⟨v330, rfl, ho0, hb⟩
   refine ⟨_, rfl, ?_⟩
   have HO331 := Aside0.mk (Kd.R_lower ho0 (below_size (by repeat (first | (with_reducible first | exact HB.out | apply below_alloc | apply pw_below_drewN | apply below_drew1 | exact Below.refl _ _) | exact HB.out)))); replace HB := Aside0.mk (below_step (by repeat (first | (with_reducible first | exact HB.out | apply below_alloc | apply pw_below_drewN | apply below_drew1 | exact Below.refl _ _) | exact HB.out)) hb)
   (try clear hb)
   (try clear hb2)
   (try clear hk)
   (try clear hi)
   (try clear ho0)
   refine hK.out _ _ trivial (fun hHeld => ?_)
   clear hK K
   refine norm_ (a' := ?_) ?_ ?_
   rotate_left
   ·show Act.put _ (some 16) _ = _
    simp only [Act.put, List.setIfInBounds_toArray, List.set_cons_zero, List.set_cons_succ, i64_w, i32_w]
    rfl
   refine one_ (i := 7) (N := some 20) #[true, true, true, true, true, true, true, true, false] rfl rfl (one_of HT_.out (by kernel_rfl)) (by decide) (fun K hK => ?_)
   refine Kd.R_append_rows_step (Kd.int .i64) (w0 := w) w.heap.size (by rfl) (.tmp 16) (.tmp 19) 24 3 (.int .i64 0) 8 rfl Try.underlying24 info3 rfl (by decide) (by omega) v330 t329 (l0.take (t327 : Int).toNat) _ _ _ (fun _ => True) (fun _ => False) rfl rfl ?aO ?aR (fun _ _ h => h) (fun _ h => h.elim) ?aF ?aB ?aS ?aL ?_
   (case aR => first | (have hC_ := (Kd.C_below HR332.out HB.out); rw [show (l0.take (t327 : Int).toNat).length = t327.toNat from (by rw [List.length_take]; have h_ : (t327 : Int) ≤ (l0.length : Int) := dT; omega)] at hC_; exact hC_) | (rw [← show (l0.take (t327 : Int).toNat).length = t327.toNat from (by rw [List.length_take]; have h_ : (t327 : Int) ≤ (l0.length : Int) := dT; omega)]; repeat (first | exact HR332.out | exact (Kd.C_below HR332.out HB.out) | (with_reducible refine Kd.C_alloc ?_ _) | (with_reducible refine Kd.C_drewN ?_ _) | (with_reducible refine Kd.C_drew ?_))) | (repeat (first | exact HR332.out | exact (Kd.C_below HR332.out HB.out) | (with_reducible refine Kd.C_alloc ?_ _) | (with_reducible refine Kd.C_drewN ?_ _) | (with_reducible refine Kd.C_drew ?_))))
   (case aB => exact (by repeat (first | (with_reducible first | exact HB.out | apply below_alloc | apply pw_below_drewN | apply below_drew1 | exact Below.refl _ _) | exact HB.out)))
   (case aF => exact (fun _ _ => trivial))
   (case aO => exact (R_l HO331.out))
   (case aS => exact (below_size (by repeat (first | (with_reducible first | exact HB.out | apply below_alloc | apply pw_below_drewN | apply below_drew1 | exact Below.refl _ _) | exact HB.out))))
   (case aL => have := LMc12.out; have hlx_ := (show (l0.take (t327 : Int).toNat).length = t327.toNat from (by rw [List.length_take]; have h_ : (t327 : Int) ≤ (l0.length : Int) := dT; omega)); omega)
   intro v334 w17 ho hb hg hat
   rw [← Ny333.out] at ho
   replace HB := Aside0.mk (hb); have HO335 := Aside0.mk (ho); clear HO331
   clear ho hb hg hat
   refine hK.out _ _ trivial (fun hHeld => ?_)
   clear hK K
   refine norm_ (a' := ?_) ?_ ?_
   rotate_left
   ·show Act.put _ (some 20) _ = _
    simp only [Act.put, List.setIfInBounds_toArray, List.set_cons_zero, List.set_cons_succ, i64_w, i32_w]
    rfl
   refine pu_ 8 (some 4) ?_
   refine done_ (done_of HT_.out (by kernel_rfl)) ?_
   try go_wp2
   go_ret
   exact ⟨_, rE, R_l HO335.out, by repeat (first | (with_reducible first | exact HB.out | apply below_alloc | apply pw_below_drewN | apply below_drew1 | exact Below.refl _ _) | exact HB.out)⟩
  ·rw [if_neg c7] at H
   exact absurd H (by simp)

/-! ### impl_DehnStep: function 6 -/
mutual
def impl_DehnStep.l0 : Nat → Int → List Int → Int → Int → Option (List Int × Bool)
 | 0, _, _, _, _ => none
 | k + 1, x0, x6, x22, x23 => if x23 < x22 then ((impl_relator.f x0).bind fun t343 => ((impl_relator.f x0).bind fun t346 => ((impl_inverse.f k t346).bind fun t349 => ((some (([t343, t349] : List (List Int)) : List (List Int))).bind fun y352 => (impl_DehnStep.l1 k x0 x6 x23 (wrap64 (2 * x0)) (([] : List Int)) x22 x23 y352 (y352.length : Int) 0))))) else (some (([] : List Int), false))
def impl_DehnStep.l1 : Nat → Int → List Int → Int → Int → List Int → Int → Int → List (List Int) → Int → Int → Option (List Int × Bool)
 | 0, _, _, _, _, _, _, _, _, _, _ => none
 | k + 1, x0, x6, x7, x8, x9, x22, x23, x34, x35, x36 => if x36 < x35 then (if 0 ≤ x36 then (if x36 < (x34.length : Int) then (impl_DehnStep.l2 k x0 x6 x7 x8 x9 (rd_L2 x34 x36) x22 x23 x34 x35 x36 ((rd_L2 x34 x36).length : Int) 0) else (none)) else (none)) else (if x8 > (wrap64 (2 * x0)) then (if 0 ≤ x7 then (if x7 ≤ (x6.length : Int) then ((impl_copyOf.f (x6.take (x7 : Int).toNat)).bind fun t370 => ((impl_inverse.f k x9).bind fun t373 => (if t370.length + t373.length < 17592186044416 then ((some (t370 ++ t373 : List Int)).bind fun y376 => (if 0 ≤ (wrap64 (x7 + x8)) then (if (wrap64 (x7 + x8)) ≤ (x6.length : Int) then ((some (x6.drop ((wrap64 (x7 + x8)) : Int).toNat : List Int)).bind fun y379 => (if y376.length + y379.length < 17592186044416 then ((impl_reduce.f k (y376 ++ y379)).bind fun t387 => (some (t387, true))) else (none))) else (none)) else (none))) else (none)))) else (none)) else (none)) else (impl_DehnStep.l0 k x0 x6 x22 (wrap64 (x23 + 1))))
def impl_DehnStep.l2 : Nat → Int → List Int → Int → Int → List Int → List Int → Int → Int → List (List Int) → Int → Int → Int → Int → Option (List Int × Bool)
 | 0, _, _, _, _, _, _, _, _, _, _, _, _, _ => none
 | k + 1, x0, x6, x7, x8, x9, x11, x22, x23, x34, x35, x36, x41, x42 => if x42 < x41 then ((impl_common.f k x6 x7 x11 x42).bind fun t356 => (if t356 > x8 then ((impl_turn.f x11 (wrap64 (x42 + t356))).bind fun t357 => (if 0 ≤ (wrap64 ((x11.length : Int) - t356)) then (if (wrap64 ((x11.length : Int) - t356)) ≤ (t357.length : Int) then (impl_DehnStep.l2 k x0 x6 x7 t356 (t357.take ((wrap64 ((x11.length : Int) - t356)) : Int).toNat) x11 x22 x23 x34 x35 x36 x41 (wrap64 (x42 + 1))) else (none)) else (none))) else (impl_DehnStep.l2 k x0 x6 x7 x8 x9 x11 x22 x23 x34 x35 x36 x41 (wrap64 (x42 + 1))))) else (impl_DehnStep.l1 k x0 x6 x7 x8 x9 x22 x23 x34 x35 (wrap64 (x36 + 1)))
end
def impl_DehnStep.f (k : Nat) (a0 : Int) (l1 : List Int) : Option (List Int × Bool) := (impl_isGroupWord.f k a0 l1).bind fun t336 => (if t336 = true then ((impl_reduce.f k l1).bind fun t337 => (impl_DehnStep.l0 k a0 t337 (t337.length : Int) 0)) else (some (([] : List Int), false)))
set_option maxHeartbeats 8000000 in
set_option maxRecDepth 100000 in
theorem impl_DehnStep.calls (k : Nat) (a0 : Int) (A1 : Option Addr) (c1 : Nat) (l1 : List Int) (r1 : List Int) (r2 : Bool) (w : World) (hr1 : Kd.C (Kd.int .i64) w A1 l1.length l1) (hc1 : l1.length ≤ c1) (h : impl_DehnStep.f k a0 l1 = some (r1, r2)) :
  Calls Try.prog 6 #[.int .i64 a0, .slice A1 l1.length c1] w fun e w' => ∃ v0_ : Value, e = .returned (.tuple #[v0_, .bool r2]) ∧ Kd.R (Kd.int .i64) 3 w' w.heap.size (fun _ => True) v0_ r1 ∧ Below w.heap.size w w' := by
 have HR1 := Aside0.mk hr1
 have HC1 := Aside0.mk hc1
 clear hr1 hc1
 have HB := Aside0.mk (Below.refl w.heap.size w)
 have H : ((impl_isGroupWord.f k a0 l1).bind fun t336 => (if t336 = true then ((impl_reduce.f k l1).bind fun t337 => (impl_DehnStep.l0 k a0 t337 (t337.length : Int) 0)) else (some (([] : List Int), false)))) = some (r1, r2) := h
 clear h
 obtain ⟨t336, A3, H⟩ := bs H
 by_cases c4 : t336 = true
 ·subst c4
  rw [if_pos rfl] at H
  obtain ⟨t337, A5, H⟩ := bs H
  have H' := Aside0.mk H
  clear H
  go_enter Try.func6, Try.ntmps6
  go_wp2_with (first | (refine gL 31 (some 17) Try.func31 #[.int .i64 a0, .slice A1 l1.length c1] ?_; (with_reducible refine (impl_isGroupWord.calls k a0 _ _ l1 true _ ?side1 ?side2 A3.out).mono ?_); (case side1 => exact C_l HR1.out); (case side2 => exact HC1.out); rintro e w6 ⟨rfl, hb⟩; refine ⟨_, rfl, ?_⟩; replace HB := Aside0.mk (below_step (by repeat (first | (with_reducible first | exact HB.out | apply below_alloc | apply pw_below_drewN | apply below_drew1 | exact Below.refl _ _) | exact HB.out)) hb)) | (refine gL 32 (some 20) Try.func32 #[.slice A1 l1.length c1] ?_; (with_reducible refine (impl_reduce.calls k _ _ l1 t337 _ ?side1 ?side2 A5.out).mono ?_); (case side1 => repeat (first | exact HR1.out | exact (Kd.C_below HR1.out HB.out) | (with_reducible refine Kd.C_alloc ?_ _) | (with_reducible refine Kd.C_drewN ?_ _) | (with_reducible refine Kd.C_drew ?_))); (case side2 => exact HC1.out); rintro e w7 ⟨v338, rfl, ho0, hb⟩; refine ⟨_, rfl, ?_⟩; have HO339 := Aside0.mk (Kd.R_lower ho0 (below_size (by repeat (first | (with_reducible first | exact HB.out | apply below_alloc | apply pw_below_drewN | apply below_drew1 | exact Below.refl _ _) | exact HB.out)))); replace HB := Aside0.mk (below_step (by repeat (first | (with_reducible first | exact HB.out | apply below_alloc | apply pw_below_drewN | apply below_drew1 | exact Below.refl _ _) | exact HB.out)) hb); obtain ⟨Ao8, co8, eo8⟩ := Kd.R_slice HO339.out; subst eo8))
  go_loopg [23] k (fun kq v23 w' => ∃ (x23_1 : Int), v23 = .int .i64 x23_1 ∧ Aside0 (impl_DehnStep.l0 kq a0 t337 (t337.length : Int) x23_1 = some (r1, r2)) ∧ Aside0 (kq ≤ k) ∧ Aside0 (Kd.R (Kd.int .i64) 3 w' w.heap.size (fun _ => True) (.slice Ao8 t337.length co8) t337) ∧ Aside0 (Below w.heap.size w w'))
  case atStart => exact ⟨(0), rS, H', ⟨Nat.le_refl _⟩, ⟨R_l HO339.out⟩, ⟨by repeat (first | (with_reducible first | exact HB.out | apply below_alloc | apply pw_below_drewN | apply below_drew1 | exact Below.refl _ _) | exact HB.out)⟩⟩
  case round =>
   clear H'
   try clear c1
   try clear p2
   try clear c3
   try clear c4
   try clear c6
   obtain ⟨x23_1, rfl, HA, HK1, HO_6, HB⟩ := hrel
   cases gk with
   | zero => exact absurd HA.out (by simp [impl_DehnStep.l0])
   | succ k1 =>
    have H := HA.out
    clear HA
    simp only [impl_DehnStep.l0] at H
    obtain ⟨c9b0, H⟩ | ⟨c9b0, H⟩ := gi H
    ·obtain ⟨y340, hy340⟩ : ∃ y_ : List Int, y_ = (([] : List Int)) := ⟨_, rfl⟩
     replace H : ((impl_relator.f a0).bind fun t343 => ((impl_relator.f a0).bind fun t346 => ((impl_inverse.f k1 t346).bind fun t349 => ((some (([t343, t349] : List (List Int)) : List (List Int))).bind fun y352 => (impl_DehnStep.l1 k1 a0 t337 x23_1 (wrap64 (2 * a0)) y340 (t337.length : Int) x23_1 y352 (y352.length : Int) 0))))) = some (r1, r2) := by first | (rw [hy340]; with_reducible exact H) | (have H2_ := (Option.bind_some _ _).symm.trans H; rw [hy340]; with_reducible exact H2_) | (have H2_ := (Option.bind_some _ _).symm.trans H; with_reducible exact H2_) | with_reducible exact H | (rw [hy340]; exact H) | exact H
     have Ny340 := Aside0.mk hy340
     clear hy340
     obtain ⟨t343, A10, H⟩ := bs H
     obtain ⟨t346, A11, H⟩ := bs H
     obtain ⟨t349, A12, H⟩ := bs H
     generalize hy352 : (([t343, t349] : List (List Int)) : List (List Int)) = y352 at H
     have Ny352 := Aside0.mk hy352.symm; clear hy352
     have H' := Aside0.mk H
     clear H
     go_wp2_with (first | ((with_reducible refine gate_dst (N := 28) rfl ?_); refine Kd.R_lit (Kd.int .i64) _ 3 ?hg (N := 28) ?hd (xs := ([] : List Int)) (inner := []) (ok := fun _ => True) (okp := fun _ => True) ?hr ?hp (fun _ hk => hk) trivial (Below.refl _ _) (Nat.le_refl _) (by simp) ?_; (case hd => rfl); (case hg => rfl); (case hr => exact gS); (case hp => exact (Reps.none _ _)); intro v341 w13 ho14 hb hg_ hnew_; clear hg_ hnew_; (first | rw [← Ny340.out] at ho14 | (simp only [Int.reduceToNat] at ho14; rw [← Ny340.out] at ho14)); have HO342 := Aside0.mk (Kd.R_lower (Kd.R_new' ho14 (Kd.R_lt (R_l HO_6.out))) (below_size (by repeat (first | (with_reducible first | exact HB.out | apply below_alloc | apply pw_below_drewN | apply below_drew1 | exact Below.refl _ _) | exact HB.out)))); replace HO_6 := Aside0.mk (Kd.R_elder' (R_l HO_6.out) (Kd.R_base ho14) hb); replace HB := Aside0.mk (below_step (by repeat (first | (with_reducible first | exact HB.out | apply below_alloc | apply pw_below_drewN | apply below_drew1 | exact Below.refl _ _) | exact HB.out)) hb); clear hb ho14) | (refine gL 33 (some 30) Try.func33 #[.int .i64 a0] ?_; (with_reducible refine (impl_relator.calls a0 t343 _ A10.out).mono ?_); rintro e w15 ⟨v344, rfl, ho0, hb⟩; refine ⟨_, rfl, ?_⟩; have HO345 := Aside0.mk (Kd.R_lower (Kd.R_new' (Kd.R_new' ho0 (Kd.R_lt (R_l HO_6.out))) (Kd.R_lt (R_l HO342.out))) (below_size (by repeat (first | (with_reducible first | exact HB.out | apply below_alloc | apply pw_below_drewN | apply below_drew1 | exact Below.refl _ _) | exact HB.out)))); replace HO_6 := Aside0.mk (Kd.R_elder' (R_l HO_6.out) (Kd.R_base ho0) hb); replace HO342 := Aside0.mk (Kd.R_elder' (R_l HO342.out) (Kd.R_base ho0) hb); replace HB := Aside0.mk (below_step (by repeat (first | (with_reducible first | exact HB.out | apply below_alloc | apply pw_below_drewN | apply below_drew1 | exact Below.refl _ _) | exact HB.out)) hb)) | (refine gL 33 (some 32) Try.func33 #[.int .i64 a0] ?_; (with_reducible refine (impl_relator.calls a0 t346 _ A11.out).mono ?_); rintro e w16 ⟨v347, rfl, ho0, hb⟩; refine ⟨_, rfl, ?_⟩; have HO348 := Aside0.mk (Kd.R_lower (Kd.R_new' (Kd.R_new' (Kd.R_new' ho0 (Kd.R_lt (R_l HO_6.out))) (Kd.R_lt (R_l HO342.out))) (Kd.R_lt (R_l HO345.out))) (below_size (by repeat (first | (with_reducible first | exact HB.out | apply below_alloc | apply pw_below_drewN | apply below_drew1 | exact Below.refl _ _) | exact HB.out)))); replace HO_6 := Aside0.mk (Kd.R_elder' (R_l HO_6.out) (Kd.R_base ho0) hb); replace HO342 := Aside0.mk (Kd.R_elder' (R_l HO342.out) (Kd.R_base ho0) hb); replace HO345 := Aside0.mk (Kd.R_elder' (R_l HO345.out) (Kd.R_base ho0) hb); replace HB := Aside0.mk (below_step (by repeat (first | (with_reducible first | exact HB.out | apply below_alloc | apply pw_below_drewN | apply below_drew1 | exact Below.refl _ _) | exact HB.out)) hb); obtain ⟨Ao17, co17, eo17⟩ := Kd.R_slice HO348.out; subst eo17) | (refine gL 34 (some 33) Try.func34 #[.slice Ao17 t346.length co17] ?_; (with_reducible refine (impl_inverse.calls k1 _ _ t346 t349 _ ?side1 ?side2 A12.out).mono ?_); (case side1 => exact C_l ((Kd.R_reads' HO348.out).2.2)); (case side2 => exact (Kd.R_reads' HO348.out).2.1); rintro e w18 ⟨v350, rfl, ho0, hb⟩; refine ⟨_, rfl, ?_⟩; have HO351 := Aside0.mk (Kd.R_lower (Kd.R_new' (Kd.R_new' (Kd.R_new' (Kd.R_new' ho0 (Kd.R_lt (R_l HO_6.out))) (Kd.R_lt (R_l HO342.out))) (Kd.R_lt (R_l HO345.out))) (Kd.R_lt (R_l HO348.out))) (below_size (by repeat (first | (with_reducible first | exact HB.out | apply below_alloc | apply pw_below_drewN | apply below_drew1 | exact Below.refl _ _) | exact HB.out)))); replace HO_6 := Aside0.mk (Kd.R_elder' (R_l HO_6.out) (Kd.R_base ho0) hb); replace HO342 := Aside0.mk (Kd.R_elder' (R_l HO342.out) (Kd.R_base ho0) hb); replace HO345 := Aside0.mk (Kd.R_elder' (R_l HO345.out) (Kd.R_base ho0) hb); replace HO348 := Aside0.mk (Kd.R_elder' (R_l HO348.out) (Kd.R_base ho0) hb); replace HB := Aside0.mk (below_step (by repeat (first | (with_reducible first | exact HB.out | apply below_alloc | apply pw_below_drewN | apply below_drew1 | exact Below.refl _ _) | exact HB.out)) hb); obtain ⟨Ao19, co19, eo19⟩ := Kd.R_slice HO345.out; subst eo19; obtain ⟨Ao20, co20, eo20⟩ := Kd.R_slice HO351.out; subst eo20) | ((with_reducible refine gate_dst (N := 34) rfl ?_); refine Kd.N_lit (Kd.slice 3 (Kd.int .i64)) _ 24 ?hg (N' := 34) ?hd (xs := ([t343, t349] : List (List Int))) (inner := [.slice Ao19 t343.length co19, .slice Ao20 t349.length co20]) (ok := (fun k_ => some k_ ≠ (.slice Ao8 t337.length co8 : Value).ownBlock ∧ some k_ ≠ (v341 : Value).ownBlock ∧ some k_ ≠ (.slice Ao17 t346.length co17 : Value).ownBlock)) (okp := (fun k_ => some k_ ≠ (.slice Ao8 t337.length co8 : Value).ownBlock ∧ some k_ ≠ (v341 : Value).ownBlock ∧ some k_ ≠ (.slice Ao17 t346.length co17 : Value).ownBlock)) ?hr ?hp (fun _ hk => hk) ((show ∀ k_, w18.heap.size ≤ k_ → (fun k_ => some k_ ≠ (.slice Ao8 t337.length co8 : Value).ownBlock ∧ some k_ ≠ (v341 : Value).ownBlock ∧ some k_ ≠ (.slice Ao17 t346.length co17 : Value).ownBlock) k_ from fun k_ hk => ⟨Kd.fresh' (Kd.R_lt (R_l HO_6.out)) k_ hk, Kd.fresh' (Kd.R_lt (R_l HO342.out)) k_ hk, Kd.fresh' (Kd.R_lt (R_l HO348.out)) k_ hk⟩) _ (Nat.le_refl _)) (Below.refl _ _) (Nat.le_refl _) (by simp) ?_; (case hd => rfl); (case hg => rfl); (case hr => exact gS); (case hp => exact (Reps.one (show Kd.FK (Kd.slice 3 (Kd.int .i64)) _ _ t343 [.slice Ao19 t343.length co19] from (Kd.FK_slice_mk (Kd.R_reads' (Kd.R_mono (ok' := (fun k_ => some k_ ≠ (.slice Ao8 t337.length co8 : Value).ownBlock ∧ some k_ ≠ (v341 : Value).ownBlock ∧ some k_ ≠ (.slice Ao17 t346.length co17 : Value).ownBlock)) (HO345.out) (fun k_ hk => ⟨hk.1.1.1.2, ⟨hk.1.1.2, hk.1.2⟩⟩))).2.1 (Kd.R_F (Kd.R_mono (ok' := (fun k_ => some k_ ≠ (.slice Ao8 t337.length co8 : Value).ownBlock ∧ some k_ ≠ (v341 : Value).ownBlock ∧ some k_ ≠ (.slice Ao17 t346.length co17 : Value).ownBlock)) (HO345.out) (fun k_ hk => ⟨hk.1.1.1.2, ⟨hk.1.1.2, hk.1.2⟩⟩))))) (Reps.one (show Kd.FK (Kd.slice 3 (Kd.int .i64)) _ _ t349 [.slice Ao20 t349.length co20] from (Kd.FK_slice_mk (Kd.R_reads' (Kd.R_mono (ok' := (fun k_ => some k_ ≠ (.slice Ao8 t337.length co8 : Value).ownBlock ∧ some k_ ≠ (v341 : Value).ownBlock ∧ some k_ ≠ (.slice Ao17 t346.length co17 : Value).ownBlock)) (HO351.out) (fun k_ hk => ⟨hk.1.1.1.2, ⟨hk.1.1.2, hk.2⟩⟩))).2.1 (Kd.R_F (Kd.R_mono (ok' := (fun k_ => some k_ ≠ (.slice Ao8 t337.length co8 : Value).ownBlock ∧ some k_ ≠ (v341 : Value).ownBlock ∧ some k_ ≠ (.slice Ao17 t346.length co17 : Value).ownBlock)) (HO351.out) (fun k_ hk => ⟨hk.1.1.1.2, ⟨hk.1.1.2, hk.2⟩⟩))))) (Reps.none _ _)))); intro v353 w21 ho22 hb hg_ hnew_; clear hg_ hnew_; (first | rw [← Ny352.out] at ho22 | (simp only [Int.reduceToNat] at ho22; rw [← Ny352.out] at ho22)); replace HO_6 := Aside0.mk (rB HO_6.out hb); replace HO342 := Aside0.mk (rB HO342.out hb); replace HO348 := Aside0.mk (rB HO348.out hb); have HO354 := Aside0.mk (Kd.N_lower ho22 (below_size (by repeat (first | (with_reducible first | exact HB.out | apply below_alloc | apply pw_below_drewN | apply below_drew1 | exact Below.refl _ _) | exact HB.out)))); replace HB := Aside0.mk (below_step (by repeat (first | (with_reducible first | exact HB.out | apply below_alloc | apply pw_below_drewN | apply below_drew1 | exact Below.refl _ _) | exact HB.out)) hb); clear HO345 HO351; clear hb ho22; obtain ⟨Ao23, co23, eo23⟩ := Kd.N_slice HO354.out; subst eo23))
     go_loopg [8, 9, 36] k1 (fun kq v8 v9 v36 w' => ∃ (x8_2 : Int) (x9_2 : List Int) (x36_2 : Int), v8 = .int .i64 x8_2 ∧ v36 = .int .i64 x36_2 ∧ Aside0 (impl_DehnStep.l1 kq a0 t337 x23_1 x8_2 x9_2 (t337.length : Int) x23_1 y352 (y352.length : Int) x36_2 = some (r1, r2)) ∧ Aside0 (kq ≤ k1) ∧ Aside0 (Kd.R (Kd.int .i64) 3 w' w.heap.size (fun _ => True) (.slice Ao8 t337.length co8) t337) ∧ Aside0 (Kd.V (Kd.int .i64) 3 w' w.heap.size (fun k_ => some k_ ≠ ((.slice Ao8 t337.length co8) : Value).ownBlock ∧ some k_ ≠ ((.slice Ao23 y352.length co23) : Value).ownBlock) v9 x9_2) ∧ Aside0 (Kd.N (Kd.slice 3 (Kd.int .i64)) 24 w' w.heap.size (fun k_ => some k_ ≠ ((.slice Ao8 t337.length co8) : Value).ownBlock) (.slice Ao23 y352.length co23) y352) ∧ Aside0 (Below w.heap.size w w'))
     case atStart => exact ⟨(wrap64 (2 * a0)), (y340), (0), rS, rS, H', ⟨Nat.le_refl _⟩, ⟨R_l (Kd.R_mono HO_6.out (fun _ hk => trivial))⟩, ⟨Kd.R_V (R_l (Kd.R_mono (Kd.R_apart' HO342.out (Kd.N_typed HO354.out) (by decide)) (fun _ hk => ⟨hk.1.1.1.1.2, hk.2⟩)))⟩, ⟨N_l (Kd.N_mono HO354.out (fun _ hk => hk.1))⟩, ⟨by repeat (first | (with_reducible first | exact HB.out | apply below_alloc | apply pw_below_drewN | apply below_drew1 | exact Below.refl _ _) | exact HB.out)⟩⟩
     case round =>
      clear H'
      try clear c1
      try clear p2
      try clear c3
      try clear c4
      try clear c6
      try clear p6
      try clear c9
      try clear c9b0
      try clear p2
      obtain ⟨x8_2, x9_2, x36_2, rfl, rfl, HA, HK2, HO_6, HO_9, HO_34, HB⟩ := hrel
      cases gk with
      | zero => exact absurd HA.out (by simp [impl_DehnStep.l1])
      | succ k2 =>
       have H := HA.out
       clear HA
       simp only [impl_DehnStep.l1] at H
       obtain ⟨c24b0, H⟩ | ⟨c24b0, H⟩ := gi H
       ·obtain ⟨c25b0, H⟩ := gdt H
        obtain ⟨c26b0, H⟩ := gdt H
        have H' := Aside0.mk H
        clear H
        have p355 : 0 ≤ (x36_2 : Int) := dT
        have q355 : x36_2 < (y352.length : Int) := dT
        obtain ⟨ad355, A355_0, c355_0, e355, hx355_0, hl355_0, hi355_0⟩ := at_L2 (Kd.N_reads' HO_34.out).2.2 x36_2 p355 q355
        cases e355
        obtain ⟨ce355, hce355, hMe355, hcc355⟩ := Kd.N_get HO_34.out [] x36_2 p355 (by first | exact q355 | exact dT | (have e_ := (Kd.N_reads' HO_34.out).1; omega))
        obtain ⟨ua355_0, uc355_0, rfl, ul355_0, ge355_0⟩ := Kd.FK_slice_open hMe355
        have hv355_0 := hcc355 0 _ rfl
        rw [Nat.add_zero, show ((Kd.slice 3 (Kd.int .i64))).sz = 1 from rfl, Nat.mul_one] at hv355_0
        replace hv355_0 := Option.some.inj (hv355_0.symm.trans hx355_0)
        injection hv355_0 with hva_ hvn_ hvc_
        rw [hva_] at ge355_0
        rw [hvc_] at ul355_0
        have HL355_0 := Aside0.mk (show Kd.V (Kd.int .i64) 3 _ w.heap.size _ _ (rd_L2 y352 x36_2) from Kd.V_mk ul355_0 ge355_0)
        clear hva_ hvn_ hvc_ ge355_0 ul355_0
        clear hcc355 hce355
        have HR355_0 := Aside0.mk hi355_0
        have HC355_0 := Aside0.mk hl355_0
        clear hi355_0 hl355_0
        replace p355 := eq_true p355
        replace q355 := eq_true q355
        go_wp2
        go_loopg [8, 9, 42] k2 (fun kq v8 v9 v42 w' => ∃ (x8_3 : Int) (x9_3 : List Int) (x42_3 : Int), v8 = .int .i64 x8_3 ∧ v42 = .int .i64 x42_3 ∧ Aside0 (impl_DehnStep.l2 kq a0 t337 x23_1 x8_3 x9_3 (rd_L2 y352 x36_2) (t337.length : Int) x23_1 y352 (y352.length : Int) x36_2 ((rd_L2 y352 x36_2).length : Int) x42_3 = some (r1, r2)) ∧ Aside0 (kq ≤ k2) ∧ Aside0 (Kd.R (Kd.int .i64) 3 w' w.heap.size (fun _ => True) (.slice Ao8 t337.length co8) t337) ∧ Aside0 (Kd.V (Kd.int .i64) 3 w' w.heap.size (fun k_ => some k_ ≠ ((.slice Ao8 t337.length co8) : Value).ownBlock ∧ some k_ ≠ ((.slice (some ad355) y352.length co23) : Value).ownBlock) v9 x9_3) ∧ Aside0 (Kd.N (Kd.slice 3 (Kd.int .i64)) 24 w' w.heap.size (fun k_ => some k_ ≠ ((.slice Ao8 t337.length co8) : Value).ownBlock) (.slice (some ad355) y352.length co23) y352) ∧ Aside0 (Kd.C (Kd.int .i64) w' A355_0 (rd_L2 y352 x36_2).length (rd_L2 y352 x36_2)) ∧ Aside0 (Below w.heap.size w w'))
        case atStart => exact ⟨(x8_2), (x9_2), (0), rS, rS, H', ⟨Nat.le_refl _⟩, ⟨R_l HO_6.out⟩, ⟨by (with_reducible repeat (first | apply Kd.V_alloc | apply Kd.V_drewN | apply Kd.V_drew)); exact HO_9.out⟩, ⟨N_l HO_34.out⟩, ⟨by repeat (first | (with_reducible exact HR355_0.out) | (with_reducible refine Kd.C_alloc ?_ _) | (with_reducible refine Kd.C_drewN ?_ _) | (with_reducible refine Kd.C_drew ?_) | exact HR355_0.out)⟩, ⟨by repeat (first | (with_reducible first | exact HB.out | apply below_alloc | apply pw_below_drewN | apply below_drew1 | exact Below.refl _ _) | exact HB.out)⟩⟩
        case round =>
         clear H'
         try clear c1
         try clear c2
         try clear p2
         try clear c3
         try clear p3
         try clear q3
         try clear hx3
         try clear c4
         try clear c6
         try clear p6
         try clear c9
         try clear c9b0
         try clear c24
         try clear c24b0
         try clear c25
         try clear c25b0
         try clear c26
         try clear c26b0
         try clear hx355_0
         try clear p2
         try clear p355
         try clear p6
         try clear q355
         obtain ⟨x8_3, x9_3, x42_3, rfl, rfl, HA, HK3, HO_6, HO_9, HO_34, HR355_0, HB⟩ := hrel
         cases gk with
         | zero => exact absurd HA.out (by simp [impl_DehnStep.l2])
         | succ k3 =>
          have H := HA.out
          clear HA
          simp only [impl_DehnStep.l2] at H
          obtain ⟨c27b0, H⟩ | ⟨c27b0, H⟩ := gi H
          ·obtain ⟨t356, A28, H⟩ := bs H
           by_cases c29 : t356 > x8_3
           ·rw [if_pos c29] at H
            have c29b0 : decide (x8_3 < t356) = true := decide_eq_true c29
            clear c29
            obtain ⟨t357, A30, H⟩ := bs H
            obtain ⟨ji31, hji31⟩ : ∃ j_ : Int, (wrap64 (((rd_L2 y352 x36_2).length : Int) - t356)) = j_ := ⟨_, rfl⟩
            replace H : (if 0 ≤ (ji31) then (if (ji31) ≤ (t357.length : Int) then (impl_DehnStep.l2 k3 a0 t337 x23_1 t356 (t357.take ((ji31) : Int).toNat) (rd_L2 y352 x36_2) (t337.length : Int) x23_1 y352 (y352.length : Int) x36_2 ((rd_L2 y352 x36_2).length : Int) (wrap64 (x42_3 + 1))) else (none)) else (none)) = some (r1, r2) := by first | (rw [hji31] at H; exact H) | (simp only [hji31] at H ⊢; exact H)
            (try rw [hji31] at A28)
            (try rw [hji31] at A30)
            have hji31w : (IntKind.i64.wrap (((rd_L2 y352 x36_2).length : Int) - t356)) = ji31 := (i64_w _).trans hji31
            obtain ⟨c32, H⟩ := gd H
            have c32b0 := eq_true c32
            have c32b1 : decide (0 ≤ (ji31)) = true := decide_eq_true c32
            clear c32
            obtain ⟨c33, H⟩ := gd H
            have c33b0 := eq_true c33
            have c33b1 : decide ((ji31) ≤ (t357.length : Int)) = true := decide_eq_true c33
            clear c33
            generalize hy360 : (t357.take ((ji31) : Int).toNat : List Int) = y360 at H
            have Ny360 := Aside0.mk hy360.symm; clear hy360
            have H' := Aside0.mk H
            clear H
            go_wp2_with (first | (refine gL 35 (some 49) Try.func35 #[.slice Ao8 t337.length co8, .int .i64 x23_1, .slice A355_0 (rd_L2 y352 x36_2).length c355_0, .int .i64 x42_3] ?_; (with_reducible refine (impl_common.calls k3 _ _ t337 x23_1 _ _ (rd_L2 y352 x36_2) x42_3 t356 _ ?side1 ?side2 ?side3 ?side4 A28.out).mono ?_); (case side1 => exact C_l ((Kd.R_reads' HO_6.out).2.2)); (case side2 => exact (Kd.R_reads' HO_6.out).2.1); (case side3 => repeat (first | exact HR355_0.out | exact (Kd.C_below HR355_0.out HB.out) | (with_reducible refine Kd.C_alloc ?_ _) | (with_reducible refine Kd.C_drewN ?_ _) | (with_reducible refine Kd.C_drew ?_))); (case side4 => exact HC355_0.out); rintro e w' ⟨rfl, ⟨nd, rfl⟩⟩; refine ⟨_, rfl, ?_⟩) | (refine gL 36 (some 58) Try.func36 #[.slice A355_0 (rd_L2 y352 x36_2).length c355_0, .int .i64 (wrap64 (x42_3 + t356))] ?_; (with_reducible refine (impl_turn.calls _ _ (rd_L2 y352 x36_2) (wrap64 (x42_3 + t356)) t357 _ ?side1 ?side2 A30.out).mono ?_); (case side1 => repeat (first | exact HR355_0.out | exact (Kd.C_below HR355_0.out (by repeat (first | (with_reducible first | exact HB.out | apply below_alloc | apply pw_below_drewN | apply below_drew1 | exact Below.refl _ _) | exact HB.out))) | (with_reducible refine Kd.C_alloc ?_ _) | (with_reducible refine Kd.C_drewN ?_ _) | (with_reducible refine Kd.C_drew ?_))); (case side2 => exact HC355_0.out); rintro e w34 ⟨v358, rfl, ho0, hb⟩; refine ⟨_, rfl, ?_⟩; replace HO_9 := Aside0.mk (Kd.V_elder' (by (with_reducible repeat (first | apply Kd.V_alloc | apply Kd.V_drewN | apply Kd.V_drew)); exact HO_9.out) (Kd.R_base ho0) hb); replace HO_34 := Aside0.mk (Kd.N_elder' (N_l HO_34.out) (Kd.R_base ho0) hb); have HO359 := Aside0.mk (Kd.R_lower (Kd.R_new' ho0 (Kd.R_lt (R_l HO_6.out))) (below_size (by repeat (first | (with_reducible first | exact HB.out | apply below_alloc | apply pw_below_drewN | apply below_drew1 | exact Below.refl _ _) | exact HB.out)))); replace HO_6 := Aside0.mk (Kd.R_elder' (R_l HO_6.out) (Kd.R_base ho0) hb); replace HR355_0 := Aside0.mk (Kd.C_below (by repeat (first | (with_reducible exact HR355_0.out) | (with_reducible refine Kd.C_alloc ?_ _) | (with_reducible refine Kd.C_drewN ?_ _) | (with_reducible refine Kd.C_drew ?_) | exact HR355_0.out)) hb); replace HB := Aside0.mk (below_step (by repeat (first | (with_reducible first | exact HB.out | apply below_alloc | apply pw_below_drewN | apply below_drew1 | exact Below.refl _ _) | exact HB.out)) hb); obtain ⟨Ao36, co36, eo36⟩ := Kd.R_slice HO359.out; subst eo36; have q35 : ((ji31) : Int) ≤ ((t357.length : Int) : Int) := dT; obtain ⟨i035, hi035, _, hsz35, _⟩ := info_parts info3; have hroom35 : t357.length ≤ co36 := (Kd.R_reads' HO359.out).2.1; have hC35 : Kd.F (Kd.int .i64) _ _ Ao36 t357.length t357 := (Kd.V_at (base := w.heap.size) (Kd.R_V (Kd.R_apart' (HO359.out) (Kd.N_typed HO_34.out) (by decide)))).2.2; have hcut35 := cut_to (P := Try.prog) 24 3 .i64 Try.underlying24 hi035 Ao36 t357.length co36 (ji31) dT q35 hroom35; have hr35 := Kd.F_take (m := ((ji31) : Int).toNat) hC35 (by omega); have hy35 : y360.length = ((ji31) : Int).toNat := (by rw [Ny360.out, List.length_take]; omega); rw [← Ny360.out] at hr35; rw [← hy35] at hcut35; have HO364 := Aside0.mk (show Kd.V (Kd.int .i64) 3 _ w.heap.size _ (.slice Ao36 y360.length co36) y360 from Kd.V_mk (by omega) hr35); have HC364 := Aside0.mk (show y360.length ≤ co36 from by omega); clear hr35 hC35 hroom35 hi035 hsz35; have KY35 := Aside0.mk hy35; clear hy35; replace q35 := eq_true q35))
            go_roundg k3
            case measure => exact oK
            case rel => exact ⟨(t356), (y360), (wrap64 (x42_3 + 1)), rS, rS, H', ⟨oK⟩, ⟨R_l (Kd.R_mono HO_6.out (fun _ hk => trivial))⟩, ⟨by (with_reducible repeat (first | apply Kd.V_alloc | apply Kd.V_drewN | apply Kd.V_drew)); exact Kd.V_mono HO364.out (fun _ hk => ⟨hk.1.2, hk.2⟩)⟩, ⟨N_l (Kd.N_mono HO_34.out (fun _ hk => hk.1))⟩, ⟨by repeat (first | (with_reducible exact HR355_0.out) | (with_reducible refine Kd.C_alloc ?_ _) | (with_reducible refine Kd.C_drewN ?_ _) | (with_reducible refine Kd.C_drew ?_) | exact HR355_0.out)⟩, ⟨by repeat (first | (with_reducible first | exact HB.out | apply below_alloc | apply pw_below_drewN | apply below_drew1 | exact Below.refl _ _) | exact HB.out)⟩⟩
           ·rw [if_neg c29] at H
            have c29b0 : decide (x8_3 < t356) = false := decide_eq_false c29
            clear c29
            have H' := Aside0.mk H
            clear H
            go_wp2_with (first | (refine gL 35 (some 49) Try.func35 #[.slice Ao8 t337.length co8, .int .i64 x23_1, .slice A355_0 (rd_L2 y352 x36_2).length c355_0, .int .i64 x42_3] ?_; (with_reducible refine (impl_common.calls k3 _ _ t337 x23_1 _ _ (rd_L2 y352 x36_2) x42_3 t356 _ ?side1 ?side2 ?side3 ?side4 A28.out).mono ?_); (case side1 => exact C_l ((Kd.R_reads' HO_6.out).2.2)); (case side2 => exact (Kd.R_reads' HO_6.out).2.1); (case side3 => repeat (first | exact HR355_0.out | exact (Kd.C_below HR355_0.out HB.out) | (with_reducible refine Kd.C_alloc ?_ _) | (with_reducible refine Kd.C_drewN ?_ _) | (with_reducible refine Kd.C_drew ?_))); (case side4 => exact HC355_0.out); rintro e w' ⟨rfl, ⟨nd, rfl⟩⟩; refine ⟨_, rfl, ?_⟩))
            go_roundg k3
            case measure => exact oK
            case rel => exact ⟨(x8_3), (x9_3), (wrap64 (x42_3 + 1)), rS, rS, H', ⟨oK⟩, ⟨R_l HO_6.out⟩, ⟨by (with_reducible repeat (first | apply Kd.V_alloc | apply Kd.V_drewN | apply Kd.V_drew)); exact HO_9.out⟩, ⟨N_l HO_34.out⟩, ⟨by repeat (first | (with_reducible exact HR355_0.out) | (with_reducible refine Kd.C_alloc ?_ _) | (with_reducible refine Kd.C_drewN ?_ _) | (with_reducible refine Kd.C_drew ?_) | exact HR355_0.out)⟩, ⟨by repeat (first | (with_reducible first | exact HB.out | apply below_alloc | apply pw_below_drewN | apply below_drew1 | exact Below.refl _ _) | exact HB.out)⟩⟩
          ·have H' := Aside0.mk H
           clear H
           go_wp2
           go_roundg k3
           case measure => exact oK
           case rel => exact ⟨(x8_3), (x9_3), (wrap64 (x36_2 + 1)), rS, rS, H', ⟨oK⟩, ⟨R_l HO_6.out⟩, ⟨by (with_reducible repeat (first | apply Kd.V_alloc | apply Kd.V_drewN | apply Kd.V_drew)); exact HO_9.out⟩, ⟨N_l HO_34.out⟩, ⟨by repeat (first | (with_reducible first | exact HB.out | apply below_alloc | apply pw_below_drewN | apply below_drew1 | exact Below.refl _ _) | exact HB.out)⟩⟩
       ·by_cases c37 : x8_2 > (wrap64 (2 * a0))
        ·rw [if_pos c37] at H
         have c37b0 : decide ((wrap64 (2 * a0)) < x8_2) = true := decide_eq_true c37
         clear c37
         obtain ⟨c38, H⟩ := gd H
         have c38b0 := eq_true c38
         have c38b1 : decide (0 ≤ x23_1) = true := decide_eq_true c38
         clear c38
         obtain ⟨c39, H⟩ := gd H
         have c39b0 := eq_true c39
         have c39b1 : decide (x23_1 ≤ (t337.length : Int)) = true := decide_eq_true c39
         clear c39
         generalize hy365 : (t337.take (x23_1 : Int).toNat : List Int) = y365 at H
         have Ny365 := Aside0.mk hy365.symm; clear hy365
         obtain ⟨t370, A40, H⟩ := bs H
         obtain ⟨t373, A41, H⟩ := bs H
         obtain ⟨LMc42, H⟩ := gda H
         generalize hy376 : (t370 ++ t373 : List Int) = y376 at H
         have Ny376 := Aside0.mk hy376.symm; clear hy376
         obtain ⟨ji43, hji43⟩ : ∃ j_ : Int, (wrap64 (x23_1 + x8_2)) = j_ := ⟨_, rfl⟩
         replace H : (if 0 ≤ (ji43) then (if (ji43) ≤ (t337.length : Int) then ((some (t337.drop ((ji43) : Int).toNat : List Int)).bind fun y379 => (if y376.length + y379.length < 17592186044416 then ((impl_reduce.f k2 (y376 ++ y379)).bind fun t387 => (some (t387, true))) else (none))) else (none)) else (none)) = some (r1, r2) := by first | (rw [hji43] at H; exact H) | (simp only [hji43] at H ⊢; exact H)
         (try rw [hji43] at A40)
         (try rw [hji43] at A41)
         have hji43w : (IntKind.i64.wrap (x23_1 + x8_2)) = ji43 := (i64_w _).trans hji43
         obtain ⟨c44, H⟩ := gd H
         have c44b0 := eq_true c44
         have c44b1 : decide (0 ≤ (ji43)) = true := decide_eq_true c44
         clear c44
         obtain ⟨c45, H⟩ := gd H
         have c45b0 := eq_true c45
         have c45b1 : decide ((ji43) ≤ (t337.length : Int)) = true := decide_eq_true c45
         clear c45
         generalize hy379 : (t337.drop ((ji43) : Int).toNat : List Int) = y379 at H
         have Ny379 := Aside0.mk hy379.symm; clear hy379
         obtain ⟨LMc46, H⟩ := gda H
         generalize hy384 : (y376 ++ y379 : List Int) = y384 at H
         have Ny384 := Aside0.mk hy384.symm; clear hy384
         obtain ⟨t387, A47, H⟩ := bs H
         simp only [Option.some.injEq, Prod.mk.injEq] at H
         obtain ⟨rfl, rfl⟩ := H
         have q48 : (x23_1 : Int) ≤ ((t337.length : Int) : Int) := dT
         obtain ⟨i048, hi048, _, hsz48, _⟩ := info_parts info3
         have hroom48 : t337.length ≤ co8 := (Kd.R_reads' HO_6.out).2.1
         have hC48 : Kd.F (Kd.int .i64) _ _ Ao8 t337.length t337 := (Kd.V_at (base := w.heap.size) (Kd.R_V (Kd.R_apart' (HO_6.out) (Kd.N_typed HO_34.out) (by decide)))).2.2
         have hcut48 := cut_to (P := Try.prog) 24 3 .i64 Try.underlying24 hi048 Ao8 t337.length co8 x23_1 dT q48 hroom48
         have hr48 := Kd.F_take (m := (x23_1 : Int).toNat) hC48 (by omega)
         have hy48 : y365.length = (x23_1 : Int).toNat := (by rw [Ny365.out, List.length_take]; omega)
         rw [← Ny365.out] at hr48
         rw [← hy48] at hcut48
         have HO369 := Aside0.mk (show Kd.V (Kd.int .i64) 3 _ w.heap.size _ (.slice Ao8 y365.length co8) y365 from Kd.V_mk (by omega) hr48)
         have HC369 := Aside0.mk (show y365.length ≤ co8 from by omega)
         clear hr48 hC48 hroom48 hi048 hsz48
         have KY48 := Aside0.mk hy48
         clear hy48
         replace q48 := eq_true q48
         go_wp2_with (first | (refine gL 37 (some 73) Try.func37 #[.slice Ao8 y365.length co8] ?_; (with_reducible refine (impl_copyOf.calls _ _ y365 t370 _ ?side1 ?side2 A40.out).mono ?_); (case side1 => exact C_l ((Kd.V_reads' HO369.out).2.2)); (case side2 => exact (Kd.V_reads' HO369.out).2.1); rintro e w49 ⟨v371, rfl, ho0, hb⟩; refine ⟨_, rfl, ?_⟩; replace HO_9 := Aside0.mk (Kd.V_elder' (by (with_reducible repeat (first | apply Kd.V_alloc | apply Kd.V_drewN | apply Kd.V_drew)); exact HO_9.out) (Kd.R_base ho0) hb); replace HO_34 := Aside0.mk (Kd.N_elder' (N_l HO_34.out) (Kd.R_base ho0) hb); replace HO369 := Aside0.mk (Kd.V_elder' (by (with_reducible repeat (first | apply Kd.V_alloc | apply Kd.V_drewN | apply Kd.V_drew)); exact HO369.out) (Kd.R_base ho0) hb); have HO372 := Aside0.mk (Kd.R_lower (Kd.R_new' ho0 (Kd.R_lt (R_l HO_6.out))) (below_size (by repeat (first | (with_reducible first | exact HB.out | apply below_alloc | apply pw_below_drewN | apply below_drew1 | exact Below.refl _ _) | exact HB.out)))); replace HO_6 := Aside0.mk (Kd.R_elder' (R_l HO_6.out) (Kd.R_base ho0) hb); replace HB := Aside0.mk (below_step (by repeat (first | (with_reducible first | exact HB.out | apply below_alloc | apply pw_below_drewN | apply below_drew1 | exact Below.refl _ _) | exact HB.out)) hb); obtain ⟨Ao50, co50, eo50⟩ := Kd.V_slice HO_9.out; subst eo50) | (refine gL 34 (some 75) Try.func34 #[.slice Ao50 x9_2.length co50] ?_; (with_reducible refine (impl_inverse.calls k2 _ _ x9_2 t373 _ ?side1 ?side2 A41.out).mono ?_); (case side1 => exact C_l ((Kd.V_reads' HO_9.out).2.2)); (case side2 => exact (Kd.V_reads' HO_9.out).2.1); rintro e w51 ⟨v374, rfl, ho0, hb⟩; refine ⟨_, rfl, ?_⟩; replace HO_9 := Aside0.mk (Kd.V_elder' (by (with_reducible repeat (first | apply Kd.V_alloc | apply Kd.V_drewN | apply Kd.V_drew)); exact HO_9.out) (Kd.R_base ho0) hb); replace HO_34 := Aside0.mk (Kd.N_elder' (N_l HO_34.out) (Kd.R_base ho0) hb); replace HO369 := Aside0.mk (Kd.V_elder' (by (with_reducible repeat (first | apply Kd.V_alloc | apply Kd.V_drewN | apply Kd.V_drew)); exact HO369.out) (Kd.R_base ho0) hb); have HO375 := Aside0.mk (Kd.R_lower (Kd.R_new' (Kd.R_new' ho0 (Kd.R_lt (R_l HO_6.out))) (Kd.R_lt (R_l HO372.out))) (below_size (by repeat (first | (with_reducible first | exact HB.out | apply below_alloc | apply pw_below_drewN | apply below_drew1 | exact Below.refl _ _) | exact HB.out)))); replace HO_6 := Aside0.mk (Kd.R_elder' (R_l HO_6.out) (Kd.R_base ho0) hb); replace HO372 := Aside0.mk (Kd.R_elder' (R_l HO372.out) (Kd.R_base ho0) hb); replace HB := Aside0.mk (below_step (by repeat (first | (with_reducible first | exact HB.out | apply below_alloc | apply pw_below_drewN | apply below_drew1 | exact Below.refl _ _) | exact HB.out)) hb); obtain ⟨Ao53, co53, eo53⟩ := Kd.R_slice HO375.out; subst eo53) | ((with_reducible refine gate_builtin (b := .append) (xs := #[.tmp 73, .tmp 75]) rfl ?_); at_builtin; refine Kd.R_append_rows (Kd.int .i64) (w0 := w) w.heap.size rfl (.tmp 73) (.tmp 75) 24 3 (.int .i64 0) 8 rfl Try.underlying24 info3 rfl (by decide) (by omega) v371 t370 t373 _ _ _ (fun k_ => some k_ ≠ (.slice Ao8 t337.length co8 : Value).ownBlock ∧ some k_ ≠ (.slice Ao53 t373.length co53 : Value).ownBlock) (fun _ => False) rfl rfl ?aO ?aR (fun _ _ h => h) (fun _ h => h.elim) ?aF ?aB ?aS ?aL ?_; (case aR => exact C_l ((Kd.R_reads' HO375.out).2.2)); (case aB => exact (by repeat (first | (with_reducible first | exact HB.out | apply below_alloc | apply pw_below_drewN | apply below_drew1 | exact Below.refl _ _) | exact HB.out))); (case aF => exact (fun k_ hk => ⟨Kd.fresh' (Kd.R_lt (R_l HO_6.out)) k_ hk, Kd.fresh' (Kd.R_lt (R_l HO375.out)) k_ hk⟩)); (case aO => exact (R_l (Kd.R_mono HO372.out (fun _ hk => ⟨hk.1.2, hk.2⟩)))); (case aS => exact (below_size (by repeat (first | (with_reducible first | exact HB.out | apply below_alloc | apply pw_below_drewN | apply below_drew1 | exact Below.refl _ _) | exact HB.out)))); (case aL => have := LMc42.out; omega); intro v377 w52 ho hb hg hat; rw [← Ny376.out] at ho; replace HO_6 := Aside0.mk (Kd.R_after (ok := (fun k_ => some k_ ≠ (.slice Ao53 t373.length co53 : Value).ownBlock)) (R_l (Kd.R_mono HO_6.out (fun _ hk => ⟨hk.2, hk.1.2⟩))) hg hat); replace HO_9 := Aside0.mk (Kd.V_afterv (ok := (fun k_ => some k_ ≠ (.slice Ao8 t337.length co8 : Value).ownBlock ∧ some k_ ≠ (.slice Ao23 y352.length co23 : Value).ownBlock ∧ some k_ ≠ (.slice Ao53 t373.length co53 : Value).ownBlock)) (by (with_reducible repeat (first | apply Kd.V_alloc | apply Kd.V_drewN | apply Kd.V_drew)); exact Kd.V_mono HO_9.out (fun _ hk => ⟨⟨hk.1.1.1, ⟨hk.1.1.2, hk.2⟩⟩, hk.1.2⟩)) hg hat); replace HO_34 := Aside0.mk (Kd.N_afterv (ok := (fun k_ => some k_ ≠ (.slice Ao8 t337.length co8 : Value).ownBlock ∧ some k_ ≠ (.slice Ao53 t373.length co53 : Value).ownBlock)) (N_l (Kd.N_mono HO_34.out (fun _ hk => ⟨⟨hk.1.1, hk.2⟩, hk.1.2⟩))) hg hat); replace HO369 := Aside0.mk (Kd.V_afterv (ok := (fun k_ => some k_ ≠ (.slice Ao23 y352.length co23 : Value).ownBlock ∧ some k_ ≠ (.slice Ao53 t373.length co53 : Value).ownBlock)) (by (with_reducible repeat (first | apply Kd.V_alloc | apply Kd.V_drewN | apply Kd.V_drew)); exact Kd.V_mono HO369.out (fun _ hk => ⟨⟨hk.1.1.2, hk.2⟩, hk.1.2⟩)) hg hat); replace HO375 := Aside0.mk (Kd.R_after (ok := (fun k_ => some k_ ≠ (.slice Ao8 t337.length co8 : Value).ownBlock)) (R_l (Kd.R_mono HO375.out (fun _ hk => ⟨hk.1.2, hk.2⟩))) hg hat); replace HB := Aside0.mk (hb); have HO378 := Aside0.mk (ho); clear HO372; clear ho hb hg hat; have q54 : ((ji43) : Int) ≤ ((t337.length : Int) : Int) := dT; obtain ⟨i054, hi054, _, hsz54, _⟩ := info_parts info3; have hroom54 : t337.length ≤ co8 := (Kd.R_reads' HO_6.out).2.1; have hC54 : Kd.F (Kd.int .i64) _ _ Ao8 t337.length t337 := (Kd.V_at (base := w.heap.size) (Kd.R_V (Kd.R_apart' (HO_6.out) (Kd.N_typed HO_34.out) (by decide)))).2.2; have q054 : (0 : Int) ≤ ((ji43) : Int) := dT; have hcut54 := cut_from (P := Try.prog) 24 3 .i64 Try.underlying24 hi054 1 hsz54 Ao8 t337.length co8 (ji43) q054 q54; have hr54 := Kd.F_cut (m := ((ji43) : Int).toNat) (c := co8) hC54 (by omega) hroom54; obtain ⟨A54, hA54⟩ : ∃ A1, A1 = (if co8 = ((ji43) : Int).toNat then Ao8 else (Ao8 : Option Addr).map (·.add (((ji43) : Int).toNat * 1))) := ⟨_, rfl⟩; obtain ⟨c54, hc54⟩ : ∃ c1, c1 = co8 - ((ji43) : Int).toNat := ⟨_, rfl⟩; have hy54 : y379.length = t337.length - ((ji43) : Int).toNat := (by rw [Ny379.out, List.length_drop] <;> omega); rw [show (t337).drop ((ji43) : Int).toNat = y379 from Ny379.out.symm] at hr54; replace hr54 : Kd.F (Kd.int .i64) _ _ A54 y379.length y379 := (by rw [hA54]; exact hr54); rw [← hy54, ← hA54, ← hc54] at hcut54; have HO383 := Aside0.mk (show Kd.V (Kd.int .i64) 3 _ w.heap.size _ (.slice A54 y379.length c54) y379 from Kd.V_mk (by rw [hy54, hc54]; exact Nat.sub_le_sub_right hroom54 _) hr54); have HC383 := Aside0.mk (show y379.length ≤ c54 from by rw [hy54, hc54]; exact Nat.sub_le_sub_right hroom54 _); clear hr54 hC54 hroom54 hi054 hsz54 hc54; have KY54 := Aside0.mk hy54; have KA54 := Aside0.mk hA54; clear hy54 hA54; replace q54 := eq_true q54) | ((with_reducible refine gate_builtin (b := .append) (xs := #[.tmp 77, .tmp 82]) rfl ?_); at_builtin; refine Kd.R_append_rows (Kd.int .i64) (w0 := w) w.heap.size rfl (.tmp 77) (.tmp 82) 24 3 (.int .i64 0) 8 rfl Try.underlying24 info3 rfl (by decide) (by omega) v377 y376 y379 _ _ _ (fun k_ => some k_ ≠ (.slice Ao8 t337.length co8 : Value).ownBlock ∧ some k_ ≠ (.slice Ao53 t373.length co53 : Value).ownBlock) (fun _ => False) rfl rfl ?aO ?aR (fun _ _ h => h) (fun _ h => h.elim) ?aF ?aB ?aS ?aL ?_; (case aR => exact C_l ((Kd.V_reads' HO383.out).2.2)); (case aB => exact (by repeat (first | (with_reducible first | exact HB.out | apply below_alloc | apply pw_below_drewN | apply below_drew1 | exact Below.refl _ _) | exact HB.out))); (case aF => exact (fun k_ hk => ⟨Kd.fresh' (Kd.R_lt (R_l HO_6.out)) k_ hk, Kd.fresh' (Kd.R_lt (R_l HO375.out)) k_ hk⟩)); (case aO => exact (R_l HO378.out)); (case aS => exact (below_size (by repeat (first | (with_reducible first | exact HB.out | apply below_alloc | apply pw_below_drewN | apply below_drew1 | exact Below.refl _ _) | exact HB.out)))); (case aL => have := LMc46.out; omega); intro v385 w55 ho hb hg hat; rw [← Ny384.out] at ho; replace HO_6 := Aside0.mk (Kd.R_after (ok := (fun k_ => some k_ ≠ (.slice Ao53 t373.length co53 : Value).ownBlock)) (R_l HO_6.out) hg hat); replace HO_9 := Aside0.mk (Kd.V_afterv (ok := (fun k_ => some k_ ≠ (.slice Ao8 t337.length co8 : Value).ownBlock ∧ some k_ ≠ (.slice Ao23 y352.length co23 : Value).ownBlock ∧ some k_ ≠ (.slice Ao53 t373.length co53 : Value).ownBlock)) (by (with_reducible repeat (first | apply Kd.V_alloc | apply Kd.V_drewN | apply Kd.V_drew)); exact HO_9.out) hg hat); replace HO_34 := Aside0.mk (Kd.N_afterv (ok := (fun k_ => some k_ ≠ (.slice Ao8 t337.length co8 : Value).ownBlock ∧ some k_ ≠ (.slice Ao53 t373.length co53 : Value).ownBlock)) (N_l HO_34.out) hg hat); replace HO369 := Aside0.mk (Kd.V_afterv (ok := (fun k_ => some k_ ≠ (.slice Ao23 y352.length co23 : Value).ownBlock ∧ some k_ ≠ (.slice Ao53 t373.length co53 : Value).ownBlock)) (by (with_reducible repeat (first | apply Kd.V_alloc | apply Kd.V_drewN | apply Kd.V_drew)); exact HO369.out) hg hat); replace HO375 := Aside0.mk (Kd.R_after (ok := (fun k_ => some k_ ≠ (.slice Ao8 t337.length co8 : Value).ownBlock)) (R_l HO375.out) hg hat); replace HO383 := Aside0.mk (Kd.V_afterv (ok := (fun k_ => some k_ ≠ (.slice Ao23 y352.length co23 : Value).ownBlock ∧ some k_ ≠ (.slice Ao53 t373.length co53 : Value).ownBlock)) (by (with_reducible repeat (first | apply Kd.V_alloc | apply Kd.V_drewN | apply Kd.V_drew)); exact Kd.V_mono HO383.out (fun _ hk => ⟨⟨hk.2, hk.1.1⟩, hk.1.2⟩)) hg hat); replace HB := Aside0.mk (hb); have HO386 := Aside0.mk (ho); clear HO378; clear ho hb hg hat; obtain ⟨Ao56, co56, eo56⟩ := Kd.R_slice HO386.out; subst eo56) | (refine gL 32 (some 84) Try.func32 #[.slice Ao56 y384.length co56] ?_; (with_reducible refine (impl_reduce.calls k2 _ _ y384 t387 _ ?side1 ?side2 A47.out).mono ?_); (case side1 => exact C_l ((Kd.R_reads' HO386.out).2.2)); (case side2 => exact (Kd.R_reads' HO386.out).2.1); rintro e w57 ⟨v388, rfl, ho0, hb⟩; refine ⟨_, rfl, ?_⟩; replace HO_9 := Aside0.mk (Kd.V_elder' (by (with_reducible repeat (first | apply Kd.V_alloc | apply Kd.V_drewN | apply Kd.V_drew)); exact HO_9.out) (Kd.R_base ho0) hb); replace HO_34 := Aside0.mk (Kd.N_elder' (N_l HO_34.out) (Kd.R_base ho0) hb); replace HO369 := Aside0.mk (Kd.V_elder' (by (with_reducible repeat (first | apply Kd.V_alloc | apply Kd.V_drewN | apply Kd.V_drew)); exact HO369.out) (Kd.R_base ho0) hb); replace HO383 := Aside0.mk (Kd.V_elder' (by (with_reducible repeat (first | apply Kd.V_alloc | apply Kd.V_drewN | apply Kd.V_drew)); exact HO383.out) (Kd.R_base ho0) hb); have HO389 := Aside0.mk (Kd.R_lower (Kd.R_new' (Kd.R_new' (Kd.R_new' ho0 (Kd.R_lt (R_l HO_6.out))) (Kd.R_lt (R_l HO375.out))) (Kd.R_lt (R_l HO386.out))) (below_size (by repeat (first | (with_reducible first | exact HB.out | apply below_alloc | apply pw_below_drewN | apply below_drew1 | exact Below.refl _ _) | exact HB.out)))); replace HO_6 := Aside0.mk (Kd.R_elder' (R_l HO_6.out) (Kd.R_base ho0) hb); replace HO375 := Aside0.mk (Kd.R_elder' (R_l HO375.out) (Kd.R_base ho0) hb); replace HO386 := Aside0.mk (Kd.R_elder' (R_l HO386.out) (Kd.R_base ho0) hb); replace HB := Aside0.mk (below_step (by repeat (first | (with_reducible first | exact HB.out | apply below_alloc | apply pw_below_drewN | apply below_drew1 | exact Below.refl _ _) | exact HB.out)) hb)))
         go_ret2
         exact ⟨_, by first | rfl | (simp [errW_none, errW_some] <;> rfl) | (simp only [← hji43]; first | rfl | (simp [errW_none, errW_some] <;> rfl)) | (simp [*, errW_none, errW_some] <;> rfl), R_l (Kd.R_mono HO389.out (fun _ hk => trivial)), by repeat (first | (with_reducible first | exact HB.out | apply below_alloc | apply pw_below_drewN | apply below_drew1 | exact Below.refl _ _) | exact HB.out)⟩
        ·rw [if_neg c37] at H
         have c37b0 : decide ((wrap64 (2 * a0)) < x8_2) = false := decide_eq_false c37
         clear c37
         have H' := Aside0.mk H
         clear H
         go_wp2
         go_roundg k2
         case measure => exact oK
         case rel => exact ⟨(wrap64 (x23_1 + 1)), rS, H', ⟨oK⟩, ⟨R_l HO_6.out⟩, ⟨by repeat (first | (with_reducible first | exact HB.out | apply below_alloc | apply pw_below_drewN | apply below_drew1 | exact Below.refl _ _) | exact HB.out)⟩⟩
    ·simp only [Option.some.injEq, Prod.mk.injEq] at H
     obtain ⟨rfl, rfl⟩ := H
     go_wp2
     go_ret2
     exact ⟨_, rE, by first | exact Kd.R_nil _ _ _ _ _ | exact Kd.N_nil _ _ _ _ _ | exact Kd.V_nil _ _ _ _ _ | exact Kd.Q_nil _ _ _ _ _ | exact Kd.S_nil _ _ _ _ _, by repeat (first | (with_reducible first | exact HB.out | apply below_alloc | apply pw_below_drewN | apply below_drew1 | exact Below.refl _ _) | exact HB.out)⟩
 ·replace c4 := Bool.eq_false_iff.mpr c4
  subst c4
  rw [if_neg (show ¬ (false = true) by decide)] at H
  simp only [Option.some.injEq, Prod.mk.injEq] at H
  obtain ⟨rfl, rfl⟩ := H
  go_enter Try.func6, Try.ntmps6
  go_wp2_with (first | (refine gL 31 (some 17) Try.func31 #[.int .i64 a0, .slice A1 l1.length c1] ?_; (with_reducible refine (impl_isGroupWord.calls k a0 _ _ l1 false _ ?side1 ?side2 A3.out).mono ?_); (case side1 => exact C_l HR1.out); (case side2 => exact HC1.out); rintro e w58 ⟨rfl, hb⟩; refine ⟨_, rfl, ?_⟩; replace HB := Aside0.mk (below_step (by repeat (first | (with_reducible first | exact HB.out | apply below_alloc | apply pw_below_drewN | apply below_drew1 | exact Below.refl _ _) | exact HB.out)) hb)))
  go_ret2
  exact ⟨_, rE, by first | exact Kd.R_nil _ _ _ _ _ | exact Kd.N_nil _ _ _ _ _ | exact Kd.V_nil _ _ _ _ _ | exact Kd.Q_nil _ _ _ _ _ | exact Kd.S_nil _ _ _ _ _, by repeat (first | (with_reducible first | exact HB.out | apply below_alloc | apply pw_below_drewN | apply below_drew1 | exact Below.refl _ _) | exact HB.out)⟩

/-! ### spec_l1In: function 58 -/
def spec_l1In.f (a0 : Int) (a1 : Int) (a2 : Int) : Option (Bool) := if a0 ≥ a1 then (some (decide (a0 ≤ a2))) else (some false)
set_option maxHeartbeats 8000000 in
set_option maxRecDepth 100000 in
theorem spec_l1In.calls (a0 : Int) (a1 : Int) (a2 : Int) (r : Bool) (w : World) (h : spec_l1In.f a0 a1 a2 = some r) :
  Calls Try.prog 58 #[.int .i64 a0, .int .i64 a1, .int .i64 a2] w fun e w' => e = .returned (.bool r) ∧ Drawn0 w w' := by
 have H : (if a0 ≥ a1 then (some (decide (a0 ≤ a2))) else (some false)) = some r := h
 clear h
 by_cases c4 : a0 ≥ a1
 ·rw [if_pos c4] at H
  have c4b0 : decide (a1 ≤ a0) = true := decide_eq_true c4
  clear c4
  obtain rfl := Option.some.inj H
  go_enter Try.func58, Try.ntmps58
  go_wp2
  go_ret
  exact ⟨rS, tD⟩
 ·rw [if_neg c4] at H
  have c4b0 : decide (a1 ≤ a0) = false := decide_eq_false c4
  clear c4
  obtain rfl := Option.some.inj H
  go_enter Try.func58, Try.ntmps58
  go_wp2
  go_ret
  exact ⟨rS, tD⟩

/-! ### spec_l2Letter: function 63 -/
def spec_l2Letter.f (a0 : Int) : Option (Bool) := (spec_l1In.f a0 1 8).bind fun t390 => (if t390 = true then (some true) else ((spec_l1In.f a0 (-8) (-1)).bind fun t391 => (some t391)))
set_option maxHeartbeats 8000000 in
set_option maxRecDepth 100000 in
theorem spec_l2Letter.calls (a0 : Int) (r : Bool) (w : World) (h : spec_l2Letter.f a0 = some r) :
  Calls Try.prog 63 #[.int .i64 a0] w fun e w' => e = .returned (.bool r) ∧ Drawn0 w w' := by
 have H : ((spec_l1In.f a0 1 8).bind fun t390 => (if t390 = true then (some true) else ((spec_l1In.f a0 (-8) (-1)).bind fun t391 => (some t391)))) = some r := h
 clear h
 obtain ⟨t390, A2, H⟩ := bs H
 by_cases c3 : t390 = true
 ·subst c3
  rw [if_pos rfl] at H
  obtain rfl := Option.some.inj H
  go_enter Try.func63, Try.ntmps63
  go_wp2_with (first | (refine gL 58 (some 4) Try.func58 #[.int .i64 a0, .int .i64 1, .int .i64 8] ?_; (with_reducible refine (spec_l1In.calls a0 1 8 true _ A2.out).mono ?_); rintro e w' ⟨rfl, ⟨nd, rfl⟩⟩; refine ⟨_, rfl, ?_⟩))
  go_ret
  exact ⟨rS, tD⟩
 ·replace c3 := Bool.eq_false_iff.mpr c3
  subst c3
  rw [if_neg (show ¬ (false = true) by decide)] at H
  obtain ⟨t391, A4, H⟩ := bs H
  obtain rfl := Option.some.inj H
  go_enter Try.func63, Try.ntmps63
  go_wp2_with (first | (refine gL 58 (some 4) Try.func58 #[.int .i64 a0, .int .i64 1, .int .i64 8] ?_; (with_reducible refine (spec_l1In.calls a0 1 8 false _ A2.out).mono ?_); rintro e w' ⟨rfl, ⟨nd, rfl⟩⟩; refine ⟨_, rfl, ?_⟩) | (go_at_call 58; (with_reducible refine (spec_l1In.calls a0 (-8) (-1) t391 _ A4.out).mono ?_); rintro e w' ⟨rfl, ⟨nd, rfl⟩⟩))
  go_ret
  exact ⟨rS, tD⟩

/-! ### spec_IsWord: function 50 -/
def spec_IsWord.l0 : Nat → List Int → Int → Option (Bool)
 | 0, _, _ => none
 | k + 1, x0, x3 => if x3 < (x0.length : Int) then (if 0 ≤ x3 then ((spec_l2Letter.f (rd x0 x3)).bind fun t393 => (if t393 = true then (spec_IsWord.l0 k x0 (wrap64 (x3 + 1))) else (some false))) else (none)) else (some (decide ((x0.length : Int) ≤ 24)))
def spec_IsWord.f (k : Nat) (l0 : List Int) : Option (Bool) := spec_IsWord.l0 k l0 0
set_option maxHeartbeats 8000000 in
set_option maxRecDepth 100000 in
theorem spec_IsWord.calls (k : Nat) (A0 : Option Addr) (c0 : Nat) (l0 : List Int) (r : Bool) (w : World) (hr0 : Kd.C (Kd.int .i64) w A0 l0.length l0) (hc0 : l0.length ≤ c0) (h : spec_IsWord.f k l0 = some r) :
  Calls Try.prog 50 #[.slice A0 l0.length c0] w fun e w' => e = .returned (.bool r) ∧ Drawn0 w w' := by
 have HR0 := Aside0.mk hr0
 have HC0 := Aside0.mk hc0
 clear hr0 hc0
 have H : (spec_IsWord.l0 k l0 0) = some r := h
 clear h
 have H' := Aside0.mk H
 clear H
 go_enter Try.func50, Try.ntmps50
 go_wp2
 go_loopg [3] k (fun kq v3 w' => ∃ (x3_1 : Int), v3 = .int .i64 x3_1 ∧ Aside0 (spec_IsWord.l0 kq l0 x3_1 = some r) ∧ Aside0 (kq ≤ k) ∧ Drawn0 w w')
 case atStart => exact ⟨(0), rS, H', ⟨Nat.le_refl _⟩, tD⟩
 case round =>
  clear H'
  obtain ⟨x3_1, rfl, HA, HK1, ⟨m1, rfl⟩⟩ := hrel
  cases gk with
  | zero => exact absurd HA.out (by simp [spec_IsWord.l0])
  | succ k1 =>
   have H := HA.out
   clear HA
   simp only [spec_IsWord.l0] at H
   obtain ⟨c2b0, H⟩ | ⟨c2b0, H⟩ := gi H
   ·obtain ⟨c3b0, H⟩ := gdt H
    obtain ⟨t393, A4, H⟩ := bs H
    by_cases c5 : t393 = true
    ·subst c5
     rw [if_pos rfl] at H
     have H' := Aside0.mk H
     clear H
     have p392 : 0 ≤ (x3_1 : Int) := dT
     have q392 : x3_1 < (l0.length : Int) := dT
     obtain ⟨ad392, e392, hx392_0⟩ := Kd.at_int HR0.out x3_1 p392 q392
     cases e392
     replace p392 := eq_true p392
     replace q392 := eq_true q392
     go_wp2_with (first | (refine gL 63 (some 14) Try.func63 #[.int .i64 (rd l0 x3_1)] ?_; (with_reducible refine (spec_l2Letter.calls (rd l0 x3_1) true _ A4.out).mono ?_); rintro e w' ⟨rfl, ⟨nd, rfl⟩⟩; refine ⟨_, rfl, ?_⟩))
     go_roundg k1
     case measure => exact oK
     case rel => exact ⟨(wrap64 (x3_1 + 1)), rS, H', ⟨oK⟩, tD⟩
    ·replace c5 := Bool.eq_false_iff.mpr c5
     subst c5
     rw [if_neg (show ¬ (false = true) by decide)] at H
     obtain rfl := Option.some.inj H
     have p392 : 0 ≤ (x3_1 : Int) := dT
     have q392 : x3_1 < (l0.length : Int) := dT
     obtain ⟨ad392, e392, hx392_0⟩ := Kd.at_int HR0.out x3_1 p392 q392
     cases e392
     replace p392 := eq_true p392
     replace q392 := eq_true q392
     go_wp2_with (first | (refine gL 63 (some 14) Try.func63 #[.int .i64 (rd l0 x3_1)] ?_; (with_reducible refine (spec_l2Letter.calls (rd l0 x3_1) false _ A4.out).mono ?_); rintro e w' ⟨rfl, ⟨nd, rfl⟩⟩; refine ⟨_, rfl, ?_⟩))
     go_ret
     exact ⟨rS, tD⟩
   ·obtain rfl := Option.some.inj H
    go_wp2
    go_ret
    exact ⟨rS, tD⟩

/-! ### spec_l1Max: function 65 -/
def spec_l1Max.f (a0 : Int) (a1 : Int) : Option (Int) := if a0 > a1 then (some a0) else (some a1)
set_option maxHeartbeats 8000000 in
set_option maxRecDepth 100000 in
theorem spec_l1Max.calls (a0 : Int) (a1 : Int) (r : Int) (w : World) (h : spec_l1Max.f a0 a1 = some r) :
  Calls Try.prog 65 #[.int .i64 a0, .int .i64 a1] w fun e w' => e = .returned (.int .i64 r) ∧ Drawn0 w w' := by
 have H : (if a0 > a1 then (some a0) else (some a1)) = some r := h
 clear h
 by_cases c3 : a0 > a1
 ·rw [if_pos c3] at H
  have c3b0 : decide (a1 < a0) = true := decide_eq_true c3
  clear c3
  obtain rfl := Option.some.inj H
  go_enter Try.func65, Try.ntmps65
  go_wp2
  go_ret
  exact ⟨rS, tD⟩
 ·rw [if_neg c3] at H
  have c3b0 : decide (a1 < a0) = false := decide_eq_false c3
  clear c3
  obtain rfl := Option.some.inj H
  go_enter Try.func65, Try.ntmps65
  go_wp2
  go_ret
  exact ⟨rS, tD⟩

end Go.Proofs.Ytbchbmfmplfoiaa.PFnGroups
