import Derived.Test.YtimjefomgaaegaaWLater
import Derived.Test.YtimjefomgaaegaaPFnTwistsx0
import Derived.Test.YtimjefomgaaegaaPFnTwistsx5
import Derived.Test.YtimjefomgaaegaaPFnTwistsx9
import Derived.Test.YtimjefomgaaegaaPFnTwistsx14
namespace Go.Proofs.Ytimjefomgaaegaa.PFnTwists
open Go.RowKit Go.Proofs.YtimjefomgaaegaaW.PrintWords Go.Proofs.YtimjefomgaaegaaW.PrintLast Go.Proofs.YtimjefomgaaegaaW.PrintMore
attribute [local go_sem] max2_int min2_int max_two min_two max_three min_three max_four min_four   -- for this text's walks alone
set_option linter.unusedVariables false
set_option linter.unusedSimpArgs false

/-! ### spec_CommuteHolds: function 97 -/
def spec_CommuteHolds.j0 : Nat → List (List Int) → List (List Int) → Bool → Option (Bool)
  | 0, _, _, _ => none
  | k + 1, x7, x9, x32 => if x32 = true then (some false) else ((spec_TimesTable.f k x7 x9).bind fun bt625 => ((spec_TimesTable.f k x9 x7).bind fun bt629 => (if bt625.2 = true then (if bt629.2 = true then ((spec_l11Same.f k bt625.1 bt629.1).bind fun t633 => (some t633)) else (some false)) else (some false))))
def spec_CommuteHolds.f (k : Nat) (a0 : Int) (l1 : List Int) (l2 : List Int) : Option (Bool) := (spec_TwistMatrix.f k a0 l1).bind fun bt617 => ((spec_TwistMatrix.f k a0 l2).bind fun bt621 => (if bt617.2 = true then (spec_CommuteHolds.j0 k bt617.1 bt621.1 (!bt621.2)) else (spec_CommuteHolds.j0 k bt617.1 bt621.1 true)))
set_option maxHeartbeats 8000000 in
set_option maxRecDepth 100000 in
theorem spec_CommuteHolds.calls (k : Nat) (a0 : Int) (A1 : Option Addr) (c1 : Nat) (l1 : List Int) (A2 : Option Addr) (c2 : Nat) (l2 : List Int) (r : Bool) (w : World) (hr1 : Kd.C (Kd.int .i64) w A1 l1.length l1) (hc1 : l1.length ≤ c1) (hr2 : Kd.C (Kd.int .i64) w A2 l2.length l2) (hc2 : l2.length ≤ c2) (h : spec_CommuteHolds.f k a0 l1 l2 = some r) :
    Calls Try.prog 97 #[.int .i64 a0, .slice A1 l1.length c1, .slice A2 l2.length c2] w fun e w' => e = .returned (.bool r) ∧ Below w.heap.size w w' := by
  have HR1 := Aside0.mk hr1
  have HC1 := Aside0.mk hc1
  clear hr1 hc1
  have HR2 := Aside0.mk hr2
  have HC2 := Aside0.mk hc2
  clear hr2 hc2
  have HB := Aside0.mk (Below.refl w.heap.size w)
  have H : ((spec_TwistMatrix.f k a0 l1).bind fun bt617 => ((spec_TwistMatrix.f k a0 l2).bind fun bt621 => (if bt617.2 = true then (spec_CommuteHolds.j0 k bt617.1 bt621.1 (!bt621.2)) else (spec_CommuteHolds.j0 k bt617.1 bt621.1 true)))) = some r := h
  clear h
  replace H := Option.bind_eq_some_iff.mp H
  obtain ⟨⟨t617, t618⟩, A40, H⟩ := H
  replace H : ((spec_TwistMatrix.f k a0 l2).bind fun bt621 => (if t618 = true then (spec_CommuteHolds.j0 k t617 bt621.1 (!bt621.2)) else (spec_CommuteHolds.j0 k t617 bt621.1 true))) = some r := H
  have A4 := Aside0.mk A40
  clear A40
  replace H := Option.bind_eq_some_iff.mp H
  obtain ⟨⟨t621, t622⟩, A50, H⟩ := H
  replace H : (if t618 = true then (spec_CommuteHolds.j0 k t617 t621 (!t622)) else (spec_CommuteHolds.j0 k t617 t621 true)) = some r := H
  have A5 := Aside0.mk A50
  clear A50
  have HC6 := Aside0.mk H
  clear H
  go_enter Try.func97, Try.ntmps97
  go_upto_region 3 with (first | (refine gL 78 (some 18) Try.func78 #[.int .i64 a0, .slice A1 l1.length c1] ?_; (with_reducible refine (spec_TwistMatrix.calls k a0 _ _ l1 t617 t618 _ ?side1 ?side2 A4.out).mono ?_); (case side1 => exact C_l HR1.out); (case side2 => exact HC1.out); rintro e w7 ⟨v619, rfl, ho0, hb⟩; refine ⟨_, rfl, ?_⟩; have n0_ := Aside0.mk (Kd.S_lower ho0 (below_size (B_l HB.out))); have n1_ := Aside0.mk (below_step (B_l HB.out) hb); clear HB; have HO620 := n0_; have HB := n1_; clear n0_ n1_) | (refine gL 78 (some 24) Try.func78 #[.int .i64 a0, .slice A2 l2.length c2] ?_; (with_reducible refine (spec_TwistMatrix.calls k a0 _ _ l2 t621 t622 _ ?side1 ?side2 A5.out).mono ?_); (case side1 => exact C_l (Kd.C_below HR2.out HB.out)); (case side2 => exact HC2.out); rintro e w8 ⟨v623, rfl, ho0, hb⟩; refine ⟨_, rfl, ?_⟩; have n0_ := Aside0.mk (Kd.S_elder' (S_l HO620.out) (Kd.S_base ho0) hb); have n1_ := Aside0.mk (Kd.S_lower (Kd.S_new' ho0 (Kd.S_lt (S_l HO620.out))) (below_size (B_l HB.out))); have n2_ := Aside0.mk (below_step (B_l HB.out) hb); clear HO620; clear HB; have HO620 := n0_; have HO624 := n1_; have HB := n2_; clear n0_ n1_ n2_))
  (try simp only [Act.put, List.setIfInBounds_toArray, List.set_cons_zero, List.set_cons_succ])
  go_cut [32] (fun v32 wc => ∃ (kq : Nat) (x32_5 : Bool), v32 = .bool x32_5 ∧ Aside0 (spec_CommuteHolds.j0 kq t617 t621 x32_5 = some r) ∧ Aside0 (kq ≤ k) ∧ Aside0 (Kd.S (Kd.slice 3 (Kd.int .i64)) 35 wc w.heap.size (fun k_ => some k_ ≠ (v623 : Value).ownBlock) v619 t617) ∧ Aside0 (Kd.S (Kd.slice 3 (Kd.int .i64)) 35 wc w.heap.size (fun k_ => some k_ ≠ (v619 : Value).ownBlock) v623 t621) ∧ Aside0 (Below w.heap.size w wc))
  case first =>
    have H := HC6.out
    clear HC6
    by_cases c9 : t618 = true
    · subst c9
      rw [if_pos rfl] at H
      have H' := Aside0.mk H
      clear H
      go_wp2
      go_meet
      case rel => exact ⟨_, (!t622), (by first | rfl | (simp; done) | (simp [*]; done)), H', ⟨by first | omega | exact Nat.le_refl _⟩, ⟨S_l (Kd.S_mono HO620.out (fun _ hk => hk.2))⟩, ⟨S_l (Kd.S_mono HO624.out (fun _ hk => hk.2))⟩, ⟨B_l HB.out⟩⟩
    · replace c9 := Bool.eq_false_iff.mpr c9
      subst c9
      rw [if_neg (show ¬ (false = true) by decide)] at H
      have H' := Aside0.mk H
      clear H
      go_wp2
      go_meet
      case rel => exact ⟨_, (true), (by first | rfl | (simp; done) | (simp [*]; done)), H', ⟨by first | omega | exact Nat.le_refl _⟩, ⟨S_l (Kd.S_mono HO620.out (fun _ hk => hk.2))⟩, ⟨S_l (Kd.S_mono HO624.out (fun _ hk => hk.2))⟩, ⟨B_l HB.out⟩⟩
  case rest =>
    clear HC6
    try clear c1
    try clear c2
    try clear p2
    try clear c7
    try clear c9
    obtain ⟨kq, x32_5, rfl, HA, HJ5, HO_7, HO_9, HB⟩ := hcut
    cases kq with
    | zero => exact absurd HA.out (by simp [spec_CommuteHolds.j0])
    | succ kj5 =>
      have H := HA.out
      clear HA
      simp only [spec_CommuteHolds.j0] at H
      by_cases c10 : x32_5 = true
      · subst c10
        rw [if_pos rfl] at H
        obtain rfl := Option.some.inj H
        go_wp2
        go_ret
        exact ⟨by first | rfl | (simp [errW_none, errW_some] <;> rfl) | (simp [*, errW_none, errW_some] <;> rfl), B_l HB.out⟩
      · replace c10 := Bool.eq_false_iff.mpr c10
        subst c10
        rw [if_neg (show ¬ (false = true) by decide)] at H
        replace H := Option.bind_eq_some_iff.mp H
        obtain ⟨⟨t625, t626⟩, A110, H⟩ := H
        replace H : ((spec_TimesTable.f kj5 t621 t617).bind fun bt629 => (if t626 = true then (if bt629.2 = true then ((spec_l11Same.f kj5 t625 bt629.1).bind fun t633 => (some t633)) else (some false)) else (some false))) = some r := H
        have A11 := Aside0.mk A110
        clear A110
        replace H := Option.bind_eq_some_iff.mp H
        obtain ⟨⟨t629, t630⟩, A120, H⟩ := H
        replace H : (if t626 = true then (if t630 = true then ((spec_l11Same.f kj5 t625 t629).bind fun t633 => (some t633)) else (some false)) else (some false)) = some r := H
        have A12 := Aside0.mk A120
        clear A120
        by_cases c13 : t626 = true
        · subst c13
          rw [if_pos rfl] at H
          by_cases c14 : t630 = true
          · subst c14
            rw [if_pos rfl] at H
            replace H := Option.bind_eq_some_iff.mp H
            obtain ⟨t633, A150, H⟩ := H
            have A15 := Aside0.mk A150
            clear A150
            obtain rfl := Option.some.inj H
            obtain ⟨Ao16, co16, eo16⟩ := Kd.S_slice HO_7.out
            subst eo16
            obtain ⟨Ao17, co17, eo17⟩ := Kd.S_slice HO_9.out
            subst eo17
            go_wp2_with (first | (refine gL 84 (some 36) Try.func84 #[.slice Ao16 t617.length co16, .slice Ao17 t621.length co17] ?_; (with_reducible refine (spec_TimesTable.calls kj5 _ _ t617 _ _ t621 t625 true _ ?side1 ?side2 ?side3 ?side4 A11.out).mono ?_); (case side1 => exact C_l ((Kd.S_reads' HO_7.out).2.2)); (case side2 => exact (Kd.S_reads' HO_7.out).2.1); (case side3 => exact C_l ((Kd.S_reads' HO_9.out).2.2)); (case side4 => exact (Kd.S_reads' HO_9.out).2.1); rintro e w18 ⟨v627, rfl, ho0, hb⟩; refine ⟨_, rfl, ?_⟩; have n0_ := Aside0.mk (Kd.S_elder' (S_l HO_7.out) (Kd.S_base ho0) hb); have n1_ := Aside0.mk (Kd.S_elder' (S_l HO_9.out) (Kd.S_base ho0) hb); have n2_ := Aside0.mk (Kd.S_lower (Kd.S_new' (Kd.S_new' ho0 (Kd.S_lt (S_l HO_7.out))) (Kd.S_lt (S_l HO_9.out))) (below_size (B_l HB.out))); have n3_ := Aside0.mk (below_step (B_l HB.out) hb); clear HO_7; clear HO_9; clear HB; have HO_7 := n0_; have HO_9 := n1_; have HO628 := n2_; have HB := n3_; clear n0_ n1_ n2_ n3_) | (refine gL 84 (some 42) Try.func84 #[.slice Ao17 t621.length co17, .slice Ao16 t617.length co16] ?_; (with_reducible refine (spec_TimesTable.calls kj5 _ _ t621 _ _ t617 t629 true _ ?side1 ?side2 ?side3 ?side4 A12.out).mono ?_); (case side1 => exact C_l ((Kd.S_reads' HO_9.out).2.2)); (case side2 => exact (Kd.S_reads' HO_9.out).2.1); (case side3 => exact C_l ((Kd.S_reads' HO_7.out).2.2)); (case side4 => exact (Kd.S_reads' HO_7.out).2.1); rintro e w19 ⟨v631, rfl, ho0, hb⟩; refine ⟨_, rfl, ?_⟩; have n0_ := Aside0.mk (Kd.S_elder' (S_l HO_7.out) (Kd.S_base ho0) hb); have n1_ := Aside0.mk (Kd.S_elder' (S_l HO_9.out) (Kd.S_base ho0) hb); have n2_ := Aside0.mk (Kd.S_elder' (S_l HO628.out) (Kd.S_base ho0) hb); have n3_ := Aside0.mk (Kd.S_lower (Kd.S_new' (Kd.S_new' (Kd.S_new' ho0 (Kd.S_lt (S_l HO_7.out))) (Kd.S_lt (S_l HO_9.out))) (Kd.S_lt (S_l HO628.out))) (below_size (B_l HB.out))); have n4_ := Aside0.mk (below_step (B_l HB.out) hb); clear HO_7; clear HO_9; clear HO628; clear HB; have HO_7 := n0_; have HO_9 := n1_; have HO628 := n2_; have HO632 := n3_; have HB := n4_; clear n0_ n1_ n2_ n3_ n4_; obtain ⟨Ao20, co20, eo20⟩ := Kd.S_slice HO628.out; subst eo20; obtain ⟨Ao21, co21, eo21⟩ := Kd.S_slice HO632.out; subst eo21) | (go_at_call 181; (with_reducible refine (spec_l11Same.calls kj5 _ _ t625 _ _ t629 t633 _ ?side1 ?side2 ?side3 ?side4 A15.out).mono ?_); (case side1 => exact C_l ((Kd.S_reads' HO628.out).2.2)); (case side2 => exact (Kd.S_reads' HO628.out).2.1); (case side3 => exact C_l ((Kd.S_reads' HO632.out).2.2)); (case side4 => exact (Kd.S_reads' HO632.out).2.1); rintro e w' ⟨rfl, ⟨nd, rfl⟩⟩))
            go_ret
            exact ⟨by first | rfl | (simp [errW_none, errW_some] <;> rfl) | (simp [*, errW_none, errW_some] <;> rfl), B_l HB.out⟩
          · replace c14 := Bool.eq_false_iff.mpr c14
            subst c14
            rw [if_neg (show ¬ (false = true) by decide)] at H
            obtain rfl := Option.some.inj H
            obtain ⟨Ao22, co22, eo22⟩ := Kd.S_slice HO_7.out
            subst eo22
            obtain ⟨Ao23, co23, eo23⟩ := Kd.S_slice HO_9.out
            subst eo23
            go_wp2_with (first | (refine gL 84 (some 36) Try.func84 #[.slice Ao22 t617.length co22, .slice Ao23 t621.length co23] ?_; (with_reducible refine (spec_TimesTable.calls kj5 _ _ t617 _ _ t621 t625 true _ ?side1 ?side2 ?side3 ?side4 A11.out).mono ?_); (case side1 => exact C_l ((Kd.S_reads' HO_7.out).2.2)); (case side2 => exact (Kd.S_reads' HO_7.out).2.1); (case side3 => exact C_l ((Kd.S_reads' HO_9.out).2.2)); (case side4 => exact (Kd.S_reads' HO_9.out).2.1); rintro e w24 ⟨v627, rfl, ho0, hb⟩; refine ⟨_, rfl, ?_⟩; have n0_ := Aside0.mk (Kd.S_elder' (S_l HO_7.out) (Kd.S_base ho0) hb); have n1_ := Aside0.mk (Kd.S_elder' (S_l HO_9.out) (Kd.S_base ho0) hb); have n2_ := Aside0.mk (Kd.S_lower (Kd.S_new' (Kd.S_new' ho0 (Kd.S_lt (S_l HO_7.out))) (Kd.S_lt (S_l HO_9.out))) (below_size (B_l HB.out))); have n3_ := Aside0.mk (below_step (B_l HB.out) hb); clear HO_7; clear HO_9; clear HB; have HO_7 := n0_; have HO_9 := n1_; have HO628 := n2_; have HB := n3_; clear n0_ n1_ n2_ n3_) | (refine gL 84 (some 42) Try.func84 #[.slice Ao23 t621.length co23, .slice Ao22 t617.length co22] ?_; (with_reducible refine (spec_TimesTable.calls kj5 _ _ t621 _ _ t617 t629 false _ ?side1 ?side2 ?side3 ?side4 A12.out).mono ?_); (case side1 => exact C_l ((Kd.S_reads' HO_9.out).2.2)); (case side2 => exact (Kd.S_reads' HO_9.out).2.1); (case side3 => exact C_l ((Kd.S_reads' HO_7.out).2.2)); (case side4 => exact (Kd.S_reads' HO_7.out).2.1); rintro e w25 ⟨v631, rfl, ho0, hb⟩; refine ⟨_, rfl, ?_⟩; have n0_ := Aside0.mk (Kd.S_elder' (S_l HO_7.out) (Kd.S_base ho0) hb); have n1_ := Aside0.mk (Kd.S_elder' (S_l HO_9.out) (Kd.S_base ho0) hb); have n2_ := Aside0.mk (Kd.S_elder' (S_l HO628.out) (Kd.S_base ho0) hb); have n3_ := Aside0.mk (Kd.S_lower (Kd.S_new' (Kd.S_new' (Kd.S_new' ho0 (Kd.S_lt (S_l HO_7.out))) (Kd.S_lt (S_l HO_9.out))) (Kd.S_lt (S_l HO628.out))) (below_size (B_l HB.out))); have n4_ := Aside0.mk (below_step (B_l HB.out) hb); clear HO_7; clear HO_9; clear HO628; clear HB; have HO_7 := n0_; have HO_9 := n1_; have HO628 := n2_; have HO632 := n3_; have HB := n4_; clear n0_ n1_ n2_ n3_ n4_))
            go_ret
            exact ⟨by first | rfl | (simp [errW_none, errW_some] <;> rfl) | (simp [*, errW_none, errW_some] <;> rfl), B_l HB.out⟩
        · replace c13 := Bool.eq_false_iff.mpr c13
          subst c13
          rw [if_neg (show ¬ (false = true) by decide)] at H
          obtain rfl := Option.some.inj H
          obtain ⟨Ao26, co26, eo26⟩ := Kd.S_slice HO_7.out
          subst eo26
          obtain ⟨Ao27, co27, eo27⟩ := Kd.S_slice HO_9.out
          subst eo27
          go_wp2_with (first | (refine gL 84 (some 36) Try.func84 #[.slice Ao26 t617.length co26, .slice Ao27 t621.length co27] ?_; (with_reducible refine (spec_TimesTable.calls kj5 _ _ t617 _ _ t621 t625 false _ ?side1 ?side2 ?side3 ?side4 A11.out).mono ?_); (case side1 => exact C_l ((Kd.S_reads' HO_7.out).2.2)); (case side2 => exact (Kd.S_reads' HO_7.out).2.1); (case side3 => exact C_l ((Kd.S_reads' HO_9.out).2.2)); (case side4 => exact (Kd.S_reads' HO_9.out).2.1); rintro e w28 ⟨v627, rfl, ho0, hb⟩; refine ⟨_, rfl, ?_⟩; have n0_ := Aside0.mk (Kd.S_elder' (S_l HO_7.out) (Kd.S_base ho0) hb); have n1_ := Aside0.mk (Kd.S_elder' (S_l HO_9.out) (Kd.S_base ho0) hb); have n2_ := Aside0.mk (Kd.S_lower (Kd.S_new' (Kd.S_new' ho0 (Kd.S_lt (S_l HO_7.out))) (Kd.S_lt (S_l HO_9.out))) (below_size (B_l HB.out))); have n3_ := Aside0.mk (below_step (B_l HB.out) hb); clear HO_7; clear HO_9; clear HB; have HO_7 := n0_; have HO_9 := n1_; have HO628 := n2_; have HB := n3_; clear n0_ n1_ n2_ n3_) | (refine gL 84 (some 42) Try.func84 #[.slice Ao27 t621.length co27, .slice Ao26 t617.length co26] ?_; (with_reducible refine (spec_TimesTable.calls kj5 _ _ t621 _ _ t617 t629 t630 _ ?side1 ?side2 ?side3 ?side4 A12.out).mono ?_); (case side1 => exact C_l ((Kd.S_reads' HO_9.out).2.2)); (case side2 => exact (Kd.S_reads' HO_9.out).2.1); (case side3 => exact C_l ((Kd.S_reads' HO_7.out).2.2)); (case side4 => exact (Kd.S_reads' HO_7.out).2.1); rintro e w29 ⟨v631, rfl, ho0, hb⟩; refine ⟨_, rfl, ?_⟩; have n0_ := Aside0.mk (Kd.S_elder' (S_l HO_7.out) (Kd.S_base ho0) hb); have n1_ := Aside0.mk (Kd.S_elder' (S_l HO_9.out) (Kd.S_base ho0) hb); have n2_ := Aside0.mk (Kd.S_elder' (S_l HO628.out) (Kd.S_base ho0) hb); have n3_ := Aside0.mk (Kd.S_lower (Kd.S_new' (Kd.S_new' (Kd.S_new' ho0 (Kd.S_lt (S_l HO_7.out))) (Kd.S_lt (S_l HO_9.out))) (Kd.S_lt (S_l HO628.out))) (below_size (B_l HB.out))); have n4_ := Aside0.mk (below_step (B_l HB.out) hb); clear HO_7; clear HO_9; clear HO628; clear HB; have HO_7 := n0_; have HO_9 := n1_; have HO628 := n2_; have HO632 := n3_; have HB := n4_; clear n0_ n1_ n2_ n3_ n4_))
          go_ret
          exact ⟨by first | rfl | (simp [errW_none, errW_some] <;> rfl) | (simp [*, errW_none, errW_some] <;> rfl), B_l HB.out⟩

/-! ### laws_magnitude: function 98 -/
def laws_magnitude.f (a0 : Int) : Option (Int) := if a0 < 0 then (some (wrap64 (-a0))) else (some a0)
set_option maxHeartbeats 8000000 in
set_option maxRecDepth 100000 in
theorem laws_magnitude.calls (a0 : Int) (r : Int) (w : World) (h : laws_magnitude.f a0 = some r) :
    Calls Try.prog 98 #[.int .i64 a0] w fun e w' => e = .returned (.int .i64 r) ∧ Drawn0 w w' := by
  have H : (if a0 < 0 then (some (wrap64 (-a0))) else (some a0)) = some r := h
  clear h
  by_cases c2 : a0 < 0
  · rw [if_pos c2] at H
    have c2b0 : decide (a0 < 0) = true := decide_eq_true c2
    clear c2
    obtain rfl := Option.some.inj H
    go_enter Try.func98, Try.ntmps98
    go_wp2
    go_ret
    exact ⟨by first | rfl | (simp; done) | (simp [*]; done), by repeat (first | exact Drawn0.refl _ | apply Drawn0.step)⟩
  · rw [if_neg c2] at H
    have c2b0 : decide (a0 < 0) = false := decide_eq_false c2
    clear c2
    obtain rfl := Option.some.inj H
    go_enter Try.func98, Try.ntmps98
    go_wp2
    go_ret
    exact ⟨by first | rfl | (simp; done) | (simp [*]; done), by repeat (first | exact Drawn0.refl _ | apply Drawn0.step)⟩

end Go.Proofs.Ytimjefomgaaegaa.PFnTwists
