import Derived.Test.YtepogblkmiidnaaWSpanB
import Derived.Test.YtepogblkmiidnaaPFnCoversx0
import Derived.Test.YtepogblkmiidnaaPFnCoversx3
import Derived.Test.YtepogblkmiidnaaPFnCoversx4
namespace Go.Proofs.Ytepogblkmiidnaa.PFnCovers
open Go.RowKit Go.Proofs.YtepogblkmiidnaaW.PrintWords Go.Proofs.YtepogblkmiidnaaW.PrintLast Go.Proofs.YtepogblkmiidnaaW.PrintMore
attribute [local go_sem] max2_int min2_int max_two min_two max_three min_three max_four min_four   -- for this text's walks alone
set_option linter.unusedVariables false
set_option linter.unusedSimpArgs false

/-! ### impl_IsAction: function 23 -/
def impl_IsAction.j0 : Nat → Int → List (List Int) → Bool → Option (Bool)
 | 0, _, _, _ => none
 | k + 1, x0, x1, x20 => if x20 = true then (some false) else (if x0 = 0 then (some true) else ((impl_relator.f x0).bind fun t218 => ((impl_act.f k x1 t218).bind fun t221 => (if 0 < (x1.length : Int) then ((impl_identity.f k ((rd_L2 x1 0).length : Int)).bind fun t225 => ((impl_sameInts.f k t221 t225).bind fun t228 => (some t228))) else (none)))))
def impl_IsAction.f (k : Nat) (a0 : Int) (l1 : List (List Int)) : Option (Bool) := (impl_within.f a0 0 2).bind fun t216 => (if t216 = true then (if (l1.length : Int) = (mx (wrap64 (2 * a0)) 2) then ((impl_areSheets.f k l1).bind fun t217 => (impl_IsAction.j0 k a0 l1 (!t217))) else (impl_IsAction.j0 k a0 l1 true)) else (impl_IsAction.j0 k a0 l1 true))
def impl_IsAction.T3 : Bool × List (List Nat × List Nat) := (true, [([], []), ([0], [0]), ([1], [1]), ([2], [2]), ([2], [2]), ([4, 2, 2], [2, 4]), ([3, 5, 5, 2], [2, 3, 5]), ([2], [2]), ([7, 2], [2, 7]), ([8, 2], [2, 8]), ([9, 2], [2, 9]), ([10, 6, 2], [2, 10]), ([6, 11, 11, 2], [2, 6, 11]), ([2, 12], [2, 12]), ([13, 12, 0, 1, 2, 3, 4, 5, 6, 7, 8, 9, 10, 11, 12, 13], [13])])
def impl_IsAction.B3 : List Nat := [0, 1, 3, 7, 7, 23, 63, 7, 135, 391, 903, 2047, 4095, 8191, 16383]
theorem impl_IsAction.tab3 : rtab .any (opsOf Try.f23 3) = impl_IsAction.T3 := by kernel_rfl
theorem impl_IsAction.bits3 : waitsOk impl_IsAction.T3.2 impl_IsAction.B3 = true := by kernel_rfl
set_option maxHeartbeats 8000000 in
set_option maxRecDepth 100000 in
theorem impl_IsAction.calls (k : Nat) (a0 : Int) (A1 : Option Addr) (c1 : Nat) (l1 : List (List Int)) (r : Bool) (w : World) (hr1 : Kd.C (Kd.slice 3 (Kd.int .i64)) w A1 l1.length l1) (hc1 : l1.length ≤ c1) (h : impl_IsAction.f k a0 l1 = some r) :
  Calls Try.prog 23 #[.int .i64 a0, .slice A1 l1.length c1] w fun e w' => e = .returned (.bool r) ∧ Below w.heap.size w w' := by
 have HR1 := Aside0.mk hr1
 have HC1 := Aside0.mk hc1
 clear hr1 hc1
 have HB := Aside0.mk (Below.refl w.heap.size w)
 have H : ((impl_within.f a0 0 2).bind fun t216 => (if t216 = true then (if (l1.length : Int) = (mx (wrap64 (2 * a0)) 2) then ((impl_areSheets.f k l1).bind fun t217 => (impl_IsAction.j0 k a0 l1 (!t217))) else (impl_IsAction.j0 k a0 l1 true)) else (impl_IsAction.j0 k a0 l1 true))) = some r := h
 clear h
 have HC3 := Aside0.mk H
 clear H
 go_enter Try.func23, Try.ntmps23
 go_upto_region 1 with (fail)
 go_cut [20] (fun v20 wc => ∃ (kq : Nat) (x20_2 : Bool), v20 = .bool x20_2 ∧ Aside0 (impl_IsAction.j0 kq a0 l1 x20_2 = some r) ∧ Aside0 (kq ≤ k) ∧ Aside0 (Below w.heap.size w wc))
 case first =>
  have H := HC3.out
  clear HC3
  obtain ⟨t216, A4, H⟩ := bs H
  by_cases c5 : t216 = true
  ·subst c5
   rw [if_pos rfl] at H
   obtain ⟨ji6, hji6⟩ : ∃ j_ : Int, (mx (wrap64 (2 * a0)) 2) = j_ := ⟨_, rfl⟩
   replace H : (if (l1.length : Int) = (ji6) then ((impl_areSheets.f k l1).bind fun t217 => (impl_IsAction.j0 k a0 l1 (!t217))) else (impl_IsAction.j0 k a0 l1 true)) = some r := by first | (rw [hji6] at H; exact H) | (simp only [hji6] at H ⊢; exact H)
   (try rw [hji6] at A4)
   (try (have hji6l : 2 ≤ ji6 := by (rw [← hji6]; unfold mx; (repeat' split) <;> omega)))
   (try (have hji6m : 0 ≤ ji6 := by omega))
   have hji6_ : (if (wrap64 (2 * a0)) < 2 then 2 else (wrap64 (2 * a0))) = ji6 := hji6
   by_cases c7 : (l1.length : Int) = (ji6)
   ·rw [if_pos c7] at H
    have c7b0 : ((l1.length : Int) == (ji6)) = true := beq_iff_eq.mpr c7
    have c7b1 : ((l1.length : Int) != (ji6)) = false := bne_eq_false_iff_eq.mpr c7
    clear c7
    (first | rw [c7b0] | (simp only [i64_w, i32_w]; rw [c7b0]) | skip)
    obtain ⟨t217, A8, H⟩ := bs H
    have H' := Aside0.mk H
    clear H
    go_wp2_with (first | (refine gL 48 (some 6) Try.func48 #[.int .i64 a0, .int .i64 0, .int .i64 2] ?_; (with_reducible refine (impl_within.calls a0 0 2 true _ A4.out).mono ?_); rintro e w' ⟨rfl, ⟨nd, rfl⟩⟩; refine ⟨_, rfl, ?_⟩) | (go_at_call 43; (with_reducible refine (impl_areSheets.calls k _ _ l1 t217 _ ?side1 ?side2 A8.out).mono ?_); (case side1 => exact C_l (Kd.C_below HR1.out tb)); (case side2 => exact HC1.out); rintro e w9 ⟨rfl, hb⟩; replace HB := Aside0.mk (below_step tb hb)))
    go_meet
    case rel => exact ⟨_, (!t217), rS, H', ⟨by first | omega | exact Nat.le_refl _⟩, ⟨tb⟩⟩
   ·rw [if_neg c7] at H
    have c7b0 : ((l1.length : Int) == (ji6)) = false := beq_eq_false_iff_ne.mpr c7
    have c7b1 : ((l1.length : Int) != (ji6)) = true := bne_iff_ne.mpr c7
    (first | rw [c7b0] | (simp only [i64_w, i32_w]; rw [c7b0]) | skip)
    have H' := Aside0.mk H
    clear H
    go_wp2_with (first | (refine gL 48 (some 6) Try.func48 #[.int .i64 a0, .int .i64 0, .int .i64 2] ?_; (with_reducible refine (impl_within.calls a0 0 2 true _ A4.out).mono ?_); rintro e w' ⟨rfl, ⟨nd, rfl⟩⟩; refine ⟨_, rfl, ?_⟩))
    go_meet
    case rel => exact ⟨_, (true), rS, H', ⟨by first | omega | exact Nat.le_refl _⟩, ⟨tb⟩⟩
  ·replace c5 := Bool.eq_false_iff.mpr c5
   subst c5
   rw [if_neg (show ¬ (false = true) by decide)] at H
   have H' := Aside0.mk H
   clear H
   go_wp2_with (first | (refine gL 48 (some 6) Try.func48 #[.int .i64 a0, .int .i64 0, .int .i64 2] ?_; (with_reducible refine (impl_within.calls a0 0 2 false _ A4.out).mono ?_); rintro e w' ⟨rfl, ⟨nd, rfl⟩⟩; refine ⟨_, rfl, ?_⟩))
   go_meet
   case rel => exact ⟨_, (true), rS, H', ⟨by first | omega | exact Nat.le_refl _⟩, ⟨tb⟩⟩
 case rest =>
  clear HC3
  try clear c1
  try clear c2
  try clear p2
  try clear c4
  try clear c5
  try clear p6
  try clear c7
  try clear c7b0
  try clear c7b1
  obtain ⟨kq, x20_2, rfl, HA, HJ2, HB⟩ := hcut
  cases kq with
  | zero => exact absurd HA.out (by simp [impl_IsAction.j0])
  | succ kj2 =>
   have H := HA.out
   clear HA
   simp only [impl_IsAction.j0] at H
   by_cases c10 : x20_2 = true
   ·subst c10
    rw [if_pos rfl] at H
    obtain rfl := Option.some.inj H
    go_wp2
    go_ret
    exact ⟨rE, tb⟩
   ·replace c10 := Bool.eq_false_iff.mpr c10
    subst c10
    rw [if_neg (show ¬ (false = true) by decide)] at H
    by_cases c11 : a0 = 0
    ·rw [if_pos c11] at H
     have c11b0 : (a0 == 0) = true := beq_iff_eq.mpr c11
     have c11b1 : (a0 != 0) = false := bne_eq_false_iff_eq.mpr c11
     clear c11
     obtain rfl := Option.some.inj H
     try go_wp2
     replace HB := Aside0.mk (below_drew1 HB.out)
     refine start_ (n := 15) (S := fun w' => True) (ds := []) #[false, false, false, false, false, false, false, false, false, false, false, false, false, false, false] (by kernel_rfl) rfl rfl trivial (fun hHeld => ?_); refine with_tabW impl_IsAction.tab3 impl_IsAction.bits3 (fun HT_ HW_ => ?_)
     generalize wc.drew = w12 at HB hHeld ⊢
     refine pu_ 0 (some 21) ?_
     refine pu_ 1 (some 22) ?_
     refine pu_ 2 (some 23) ?_
     refine pv_ 3 (some 24) ?_
     refine pv_ 4 (some 25) ?_
     refine pv_ 5 (some 26) ?_
     refine pv_ 6 (some 27) ?_
     refine pv_ 7 (some 28) ?_
     refine pv_ 8 (some 29) ?_
     refine pv_ 9 (some 30) ?_
     refine pv_ 10 (some 31) ?_
     refine pv_ 11 (some 32) ?_
     refine pv_ 12 (some 33) ?_
     refine pu_ 13 (some 34) ?_
     refine pu_ 14 (some 4) ?_
     refine done_ (done_of HT_.out (by kernel_rfl)) ?_
     try go_wp2
     go_ret
     exact ⟨rE, tb⟩
    ·rw [if_neg c11] at H
     have c11b0 : (a0 == 0) = false := beq_eq_false_iff_ne.mpr c11
     have c11b1 : (a0 != 0) = true := bne_iff_ne.mpr c11
     obtain ⟨t218, A13, H⟩ := bs H
     obtain ⟨t221, A14, H⟩ := bs H
     by_cases c15 : 0 < (l1.length : Int)
     ·rw [if_pos c15] at H
      have c15b0 : decide (0 < (l1.length : Int)) = true := decide_eq_true c15
      have c15b1 : decide (0 < l1.length) = true := decide_eq_true (by omega)
      clear c15
      obtain ⟨t225, A16, H⟩ := bs H
      obtain ⟨t228, A17, H⟩ := bs H
      obtain rfl := Option.some.inj H
      try go_wp2
      replace HB := Aside0.mk (below_drew1 HB.out)
      have p224 : 0 ≤ (0 : Int) := (by omega)
      have q224 : 0 < (l1.length : Int) := dT
      obtain ⟨ad224, A224_0, c224_0, e224, hx224_0, hl224_0, hi224_0⟩ := at_L2 HR1.out 0 p224 q224
      have hw224_0 := hx224_0
      (try rw [show ((0 : Int)).toNat = 0 from rfl] at hw224_0)
      (try rw [show 0 * 1 = 0 from rfl] at hw224_0)
      (try rw [Addr.add_zero'] at hw224_0)
      cases e224
      have qi224 : (0 < l1.length) = True := eq_true (by omega)
      (try rw [show ((0 : Int)).toNat = 0 from rfl] at hx224_0)
      (try rw [Addr.add_zero'] at hx224_0)
      replace hx224_0 := cB HB hx224_0
      have HR224_0 := Aside0.mk hi224_0
      have HC224_0 := Aside0.mk hl224_0
      clear hi224_0 hl224_0
      replace p224 := eq_true p224
      replace q224 := eq_true q224
      refine start_ (n := 15) (S := fun w' => w'.cell? ad224 = some (.slice A224_0 (rd_L2 l1 0).length c224_0)) (ds := []) #[false, false, false, false, false, false, false, false, false, false, false, false, false, false, false] (by kernel_rfl) rfl rfl (((HB.out.cell (World.block_lt_of_cell? w _ hw224_0)).trans hw224_0)) (fun hHeld => ?_); refine with_tabW impl_IsAction.tab3 impl_IsAction.bits3 (fun HT_ HW_ => ?_)
      generalize wc.drew = w18 at HB HR224_0 hx224_0 hHeld ⊢
      refine pu_ 0 (some 21) ?_
      refine pu_ 1 (some 22) ?_
      refine pu_ 2 (some 23) ?_
      refine pu_ 3 (some 24) ?_
      refine pu_ 4 (some 25) ?_
      refine pu_ 7 (some 28) ?_
      refine pu_ 8 (some 29) ?_
      refine take_ (i := 9) (N := some 30) (v := ?_) (a' := ?_) #[true, true, true, true, true, false, false, true, true, true, false, false, false, false, false] rfl rfl (take_ofW HT_.out HW_.out (by kernel_rfl)) (fun _ _ _ h => h) (Or.inl ⟨by rfl, ?_⟩) hHeld ?_ ?_
      rotate_left
      ·intro w' s0
       go_simp
       with_reducible rfl
      rotate_left
      ·simp only [Act.put, List.setIfInBounds_toArray, List.set_cons_zero, List.set_cons_succ, i64_w, i32_w]
       rfl
      refine pu_ 10 (some 31) ?_
      refine one_ (i := 5) (N := some 26) #[true, true, true, true, true, true, false, true, true, true, true, false, false, false, false] rfl rfl (one_of HT_.out (by kernel_rfl)) (by decide) (fun K hK => ?_)
      refine goes_ Try.func34 (by kernel_rfl) rfl #[.int .i64 a0] (by rfl) rfl rfl mp_ ?_
      with_reducible refine (impl_relator.calls a0 t218 _ A13.out).mono ?_
      rintro e w19 ⟨v219, rfl, ho0, hb⟩
      refine ⟨_, rfl, ?_⟩
      have HO220 := Aside0.mk (Kd.R_lower ho0 (below_size tb)); replace HB := Aside0.mk (below_step tb hb)
      (try clear hb)
      (try clear hb2)
      (try clear hk)
      (try clear hi)
      (try clear ho0)
      obtain ⟨Ao20, co20, eo20⟩ := Kd.R_slice HO220.out
      (first | subst eo20 | (injection eo20 with f1_ f2_ f3_; have f4_ := f1_.symm; have f5_ := f3_.symm; clear f1_ f2_ f3_; subst f4_; subst f5_))
      refine hK.out _ _ (((HB.out.cell (World.block_lt_of_cell? w _ hw224_0)).trans hw224_0)) (fun hHeld => ?_)
      clear hK K
      refine norm_ (a' := ?_) ?_ ?_
      rotate_left
      ·show Act.put _ (some 26) _ = _
       simp only [Act.put, List.setIfInBounds_toArray, List.set_cons_zero, List.set_cons_succ, i64_w, i32_w]
       rfl
      refine one_ (i := 6) (N := some 27) #[true, true, true, true, true, true, true, true, true, true, true, false, false, false, false] rfl rfl (one_of HT_.out (by kernel_rfl)) (by decide) (fun K hK => ?_)
      refine goes_ Try.func33 (by kernel_rfl) rfl #[.slice (some ad224) l1.length c1, .slice Ao20 t218.length co20] (by rfl) rfl rfl mp_ ?_
      with_reducible refine (impl_act.calls kj2 _ _ l1 _ _ t218 t221 _ ?side1 ?side2 ?side3 ?side4 A14.out).mono ?_
      (case side1 => exact C_l (Kd.C_below HR1.out HB.out))
      (case side2 => exact HC1.out)
      (case side3 => exact C_l ((Kd.R_reads' HO220.out).2.2))
      (case side4 => exact (Kd.R_reads' HO220.out).2.1)
      rintro e w21 ⟨v222, rfl, ho0, hb⟩
      refine ⟨_, rfl, ?_⟩
      have HO223 := Aside0.mk (Kd.R_lower (Kd.R_new' ho0 (Kd.R_lt (R_l HO220.out))) (below_size tb)); replace HO220 := Aside0.mk (Kd.R_elder' (R_l HO220.out) (Kd.R_base ho0) hb); replace HB := Aside0.mk (below_step tb hb)
      (try clear hb)
      (try clear hb2)
      (try clear hk)
      (try clear hi)
      (try clear ho0)
      refine hK.out _ _ (((HB.out.cell (World.block_lt_of_cell? w _ hw224_0)).trans hw224_0)) (fun hHeld => ?_)
      clear hK K
      refine norm_ (a' := ?_) ?_ ?_
      rotate_left
      ·show Act.put _ (some 27) _ = _
       simp only [Act.put, List.setIfInBounds_toArray, List.set_cons_zero, List.set_cons_succ, i64_w, i32_w]
       rfl
      refine one_ (i := 11) (N := some 32) #[true, true, true, true, true, true, true, true, true, true, true, true, false, false, false] rfl rfl (one_of HT_.out (by kernel_rfl)) (by decide) (fun K hK => ?_)
      refine goes_ Try.func60 (by kernel_rfl) rfl #[.int .i64 ((rd_L2 l1 0).length : Int)] (by rfl) rfl rfl mp_ ?_
      with_reducible refine (impl_identity.calls kj2 ((rd_L2 l1 0).length : Int) t225 _ A16.out).mono ?_
      rintro e w22 ⟨v226, rfl, ho0, hb⟩
      refine ⟨_, rfl, ?_⟩
      have HO227 := Aside0.mk (Kd.R_lower (Kd.R_new' (Kd.R_new' ho0 (Kd.R_lt (R_l HO220.out))) (Kd.R_lt (R_l HO223.out))) (below_size tb)); replace HO220 := Aside0.mk (Kd.R_elder' (R_l HO220.out) (Kd.R_base ho0) hb); replace HO223 := Aside0.mk (Kd.R_elder' (R_l HO223.out) (Kd.R_base ho0) hb); replace HB := Aside0.mk (below_step tb hb)
      (try clear hb)
      (try clear hb2)
      (try clear hk)
      (try clear hi)
      (try clear ho0)
      obtain ⟨Ao23, co23, eo23⟩ := Kd.R_slice HO223.out
      (first | subst eo23 | (injection eo23 with f1_ f2_ f3_; have f4_ := f1_.symm; have f5_ := f3_.symm; clear f1_ f2_ f3_; subst f4_; subst f5_))
      obtain ⟨Ao24, co24, eo24⟩ := Kd.R_slice HO227.out
      (first | subst eo24 | (injection eo24 with f1_ f2_ f3_; have f4_ := f1_.symm; have f5_ := f3_.symm; clear f1_ f2_ f3_; subst f4_; subst f5_))
      refine hK.out _ _ (((HB.out.cell (World.block_lt_of_cell? w _ hw224_0)).trans hw224_0)) (fun hHeld => ?_)
      clear hK K
      refine norm_ (a' := ?_) ?_ ?_
      rotate_left
      ·show Act.put _ (some 32) _ = _
       simp only [Act.put, List.setIfInBounds_toArray, List.set_cons_zero, List.set_cons_succ, i64_w, i32_w]
       rfl
      refine one_ (i := 12) (N := some 33) #[true, true, true, true, true, true, true, true, true, true, true, true, true, false, false] rfl rfl (one_of HT_.out (by kernel_rfl)) (by decide) (fun K hK => ?_)
      refine goes_ Try.func59 (by kernel_rfl) rfl #[.slice Ao23 t221.length co23, .slice Ao24 t225.length co24] (by rfl) rfl rfl mp_ ?_
      with_reducible refine (impl_sameInts.calls kj2 _ _ t221 _ _ t225 t228 _ ?side1 ?side2 ?side3 ?side4 A17.out).mono ?_
      (case side1 => exact C_l ((Kd.R_reads' HO223.out).2.2))
      (case side2 => exact (Kd.R_reads' HO223.out).2.1)
      (case side3 => exact C_l ((Kd.R_reads' HO227.out).2.2))
      (case side4 => exact (Kd.R_reads' HO227.out).2.1)
      rintro e w' ⟨rfl, ⟨nd, rfl⟩⟩
      refine ⟨_, rfl, ?_⟩
      refine hK.out _ _ (((HB.out.cell (World.block_lt_of_cell? w _ hw224_0)).trans hw224_0)) (fun hHeld => ?_)
      clear hK K
      refine norm_ (a' := ?_) ?_ ?_
      rotate_left
      ·show Act.put _ (some 33) _ = _
       simp only [Act.put, List.setIfInBounds_toArray, List.set_cons_zero, List.set_cons_succ, i64_w, i32_w]
       rfl
      refine pu_ 13 (some 34) ?_
      refine pu_ 14 (some 4) ?_
      refine done_ (done_of HT_.out (by kernel_rfl)) ?_
      try go_wp2
      go_ret
      exact ⟨rE, tb⟩
     ·rw [if_neg c15] at H
      exact absurd H (by simp)

-- NOT PRINTED: function 69 (impl_newJoiner)

-- NOT PRINTED: function 71 (impl_joiner_top)

-- NOT PRINTED: function 70 (impl_joiner_join)

end Go.Proofs.Ytepogblkmiidnaa.PFnCovers
