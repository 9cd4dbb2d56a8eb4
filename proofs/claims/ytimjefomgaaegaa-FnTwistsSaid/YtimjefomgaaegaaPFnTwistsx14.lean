import Derived.Test.YtimjefomgaaegaaWLater
import Derived.Test.YtimjefomgaaegaaPFnTwistsx0
import Derived.Test.YtimjefomgaaegaaPFnTwistsx4
import Derived.Test.YtimjefomgaaegaaPFnTwistsx5
import Derived.Test.YtimjefomgaaegaaPFnTwistsx8
import Derived.Test.YtimjefomgaaegaaPFnTwistsx13
namespace Go.Proofs.Ytimjefomgaaegaa.PFnTwists
open Go.RowKit Go.Proofs.YtimjefomgaaegaaW.PrintWords Go.Proofs.YtimjefomgaaegaaW.PrintLast Go.Proofs.YtimjefomgaaegaaW.PrintMore
attribute [local go_sem] max2_int min2_int max_two min_two max_three min_three max_four min_four   -- for this text's walks alone
set_option linter.unusedVariables false
set_option linter.unusedSimpArgs false

/-! ### spec_l2Same: function 204 -/
def spec_l2Same.l0 : Nat → List Int → List Int → Int → Option (Bool)
 | 0, _, _, _ => none
 | k + 1, x0, x1, x5 => if x5 < (x0.length : Int) then (if 0 ≤ x5 then (if x5 < (x1.length : Int) then (if (rd x0 x5) = (rd x1 x5) then (spec_l2Same.l0 k x0 x1 (wrap64 (x5 + 1))) else (some false)) else (none)) else (none)) else (some true)
def spec_l2Same.f (k : Nat) (l0 : List Int) (l1 : List Int) : Option (Bool) := if (l0.length : Int) = (l1.length : Int) then (spec_l2Same.l0 k l0 l1 0) else (some false)
set_option maxHeartbeats 8000000 in
set_option maxRecDepth 100000 in
theorem spec_l2Same.calls (k : Nat) (A0 : Option Addr) (c0 : Nat) (l0 : List Int) (A1 : Option Addr) (c1 : Nat) (l1 : List Int) (r : Bool) (w : World) (hr0 : Kd.C (Kd.int .i64) w A0 l0.length l0) (hc0 : l0.length ≤ c0) (hr1 : Kd.C (Kd.int .i64) w A1 l1.length l1) (hc1 : l1.length ≤ c1) (h : spec_l2Same.f k l0 l1 = some r) :
  Calls Try.prog 204 #[.slice A0 l0.length c0, .slice A1 l1.length c1] w fun e w' => e = .returned (.bool r) ∧ Drawn0 w w' := by
 have HR0 := Aside0.mk hr0
 have HC0 := Aside0.mk hc0
 clear hr0 hc0
 have HR1 := Aside0.mk hr1
 have HC1 := Aside0.mk hc1
 clear hr1 hc1
 have H : (if (l0.length : Int) = (l1.length : Int) then (spec_l2Same.l0 k l0 l1 0) else (some false)) = some r := h
 clear h
 by_cases c3 : (l0.length : Int) = (l1.length : Int)
 ·rw [if_pos c3] at H
  have c3b0 : ((l0.length : Int) == (l1.length : Int)) = true := beq_iff_eq.mpr c3
  have c3b1 : ((l0.length : Int) != (l1.length : Int)) = false := bne_eq_false_iff_eq.mpr c3
  have c3b2 : (l0.length == l1.length) = true := by first | simpa using c3 | (simp at c3 ⊢; omega)
  clear c3
  have H' := Aside0.mk H
  clear H
  go_enter Try.func204, Try.ntmps204
  go_wp2
  repeat (go_quiet (fail); try go_wp2)
  go_loopg [5] k (fun kq v5 w' => ∃ (x5_1 : Int), v5 = .int .i64 x5_1 ∧ Aside0 (spec_l2Same.l0 kq l0 l1 x5_1 = some r) ∧ Aside0 (kq ≤ k) ∧ Drawn0 w w')
  case atStart => exact ⟨(0), (by first | rfl | (simp; done) | (simp [*]; done)), H', ⟨Nat.le_refl _⟩, by repeat (first | exact Drawn0.refl _ | apply Drawn0.step)⟩
  case round =>
   clear H'
   try clear c1
   try clear c2
   try clear p2
   try clear c3
   try clear c3b0
   try clear c3b1
   try clear c3b2
   obtain ⟨x5_1, rfl, HA, HK1, ⟨m1, rfl⟩⟩ := hrel
   cases gk with
   | zero => exact absurd HA.out (by simp [spec_l2Same.l0])
   | succ k1 =>
    have H := HA.out
    clear HA
    simp only [spec_l2Same.l0] at H
    by_cases c4 : x5_1 < (l0.length : Int)
    ·rw [if_pos c4] at H
     have c4b0 : decide (x5_1 < (l0.length : Int)) = true := decide_eq_true c4
     clear c4
     by_cases c5 : 0 ≤ x5_1
     ·rw [if_pos c5] at H
      have c5b0 : decide (0 ≤ x5_1) = true := decide_eq_true c5
      clear c5
      by_cases c6 : x5_1 < (l1.length : Int)
      ·rw [if_pos c6] at H
       have c6b0 : decide (x5_1 < (l1.length : Int)) = true := decide_eq_true c6
       clear c6
       by_cases c7 : (rd l0 x5_1) = (rd l1 x5_1)
       ·rw [if_pos c7] at H
        have c7b0 : ((rd l0 x5_1) == (rd l1 x5_1)) = true := beq_iff_eq.mpr c7
        have c7b1 : ((rd l0 x5_1) != (rd l1 x5_1)) = false := bne_eq_false_iff_eq.mpr c7
        clear c7
        have H' := Aside0.mk H
        clear H
        have p578 : 0 ≤ (x5_1 : Int) := of_decide_eq_true (by first | (with_reducible assumption) | assumption)
        have q578 : x5_1 < (l0.length : Int) := of_decide_eq_true (by first | (with_reducible assumption) | assumption)
        obtain ⟨ad578, e578, hx578_0⟩ := Kd.at_int HR0.out x5_1 p578 q578
        cases e578
        replace p578 := eq_true p578
        replace q578 := eq_true q578
        have p579 : 0 ≤ (x5_1 : Int) := of_decide_eq_true (by first | (with_reducible assumption) | assumption)
        have q579 : x5_1 < (l1.length : Int) := of_decide_eq_true (by first | (with_reducible assumption) | assumption)
        obtain ⟨ad579, e579, hx579_0⟩ := Kd.at_int HR1.out x5_1 p579 q579
        cases e579
        replace p579 := eq_true p579
        replace q579 := eq_true q579
        go_wp2
        repeat (go_quiet (fail); try go_wp2)
        go_roundg k1
        case measure => have := HK1.out; omega
        case rel => exact ⟨(wrap64 (x5_1 + 1)), (by first | rfl | (simp; done) | (simp [*]; done)), H', ⟨by have := HK1.out; omega⟩, by repeat (first | exact Drawn0.refl _ | apply Drawn0.step)⟩
       ·rw [if_neg c7] at H
        have c7b0 : ((rd l0 x5_1) == (rd l1 x5_1)) = false := beq_eq_false_iff_ne.mpr c7
        have c7b1 : ((rd l0 x5_1) != (rd l1 x5_1)) = true := bne_iff_ne.mpr c7
        obtain rfl := Option.some.inj H
        have p578 : 0 ≤ (x5_1 : Int) := of_decide_eq_true (by first | (with_reducible assumption) | assumption)
        have q578 : x5_1 < (l0.length : Int) := of_decide_eq_true (by first | (with_reducible assumption) | assumption)
        obtain ⟨ad578, e578, hx578_0⟩ := Kd.at_int HR0.out x5_1 p578 q578
        cases e578
        replace p578 := eq_true p578
        replace q578 := eq_true q578
        have p579 : 0 ≤ (x5_1 : Int) := of_decide_eq_true (by first | (with_reducible assumption) | assumption)
        have q579 : x5_1 < (l1.length : Int) := of_decide_eq_true (by first | (with_reducible assumption) | assumption)
        obtain ⟨ad579, e579, hx579_0⟩ := Kd.at_int HR1.out x5_1 p579 q579
        cases e579
        replace p579 := eq_true p579
        replace q579 := eq_true q579
        go_wp2
        repeat (go_quiet (fail); try go_wp2)
        go_ret
        exact ⟨by first | rfl | (simp; done) | (simp [*]; done), by repeat (first | exact Drawn0.refl _ | apply Drawn0.step)⟩
      ·rw [if_neg c6] at H
       exact absurd H (by simp)
     ·rw [if_neg c5] at H
      exact absurd H (by simp)
    ·rw [if_neg c4] at H
     have c4b0 : decide (x5_1 < (l0.length : Int)) = false := decide_eq_false c4
     clear c4
     obtain rfl := Option.some.inj H
     go_wp2
     repeat (go_quiet (fail); try go_wp2)
     go_ret
     exact ⟨by first | rfl | (simp; done) | (simp [*]; done), by repeat (first | exact Drawn0.refl _ | apply Drawn0.step)⟩
 ·rw [if_neg c3] at H
  have c3b0 : ((l0.length : Int) == (l1.length : Int)) = false := beq_eq_false_iff_ne.mpr c3
  have c3b1 : ((l0.length : Int) != (l1.length : Int)) = true := bne_iff_ne.mpr c3
  have c3b2 : (l0.length == l1.length) = false := by first | simpa using c3 | (simp at c3 ⊢; omega)
  obtain rfl := Option.some.inj H
  go_enter Try.func204, Try.ntmps204
  go_wp2
  repeat (go_quiet (fail); try go_wp2)
  go_ret
  exact ⟨by first | rfl | (simp; done) | (simp [*]; done), by repeat (first | exact Drawn0.refl _ | apply Drawn0.step)⟩

/-! ### spec_l11Same: function 181 -/
def spec_l11Same.l0 : Nat → List (List Int) → List (List Int) → Int → Option (Bool)
 | 0, _, _, _ => none
 | k + 1, x0, x1, x5 => if x5 < (x0.length : Int) then (if 0 ≤ x5 then (if x5 < (x1.length : Int) then ((spec_l2Same.f k (rd_L2 x0 x5) (rd_L2 x1 x5)).bind fun t582 => (if t582 = true then (spec_l11Same.l0 k x0 x1 (wrap64 (x5 + 1))) else (some false))) else (none)) else (none)) else (some true)
def spec_l11Same.f (k : Nat) (l0 : List (List Int)) (l1 : List (List Int)) : Option (Bool) := if (l0.length : Int) = (l1.length : Int) then (spec_l11Same.l0 k l0 l1 0) else (some false)
set_option maxHeartbeats 8000000 in
set_option maxRecDepth 100000 in
theorem spec_l11Same.calls (k : Nat) (A0 : Option Addr) (c0 : Nat) (l0 : List (List Int)) (A1 : Option Addr) (c1 : Nat) (l1 : List (List Int)) (r : Bool) (w : World) (hr0 : Kd.C (Kd.slice 3 (Kd.int .i64)) w A0 l0.length l0) (hc0 : l0.length ≤ c0) (hr1 : Kd.C (Kd.slice 3 (Kd.int .i64)) w A1 l1.length l1) (hc1 : l1.length ≤ c1) (h : spec_l11Same.f k l0 l1 = some r) :
  Calls Try.prog 181 #[.slice A0 l0.length c0, .slice A1 l1.length c1] w fun e w' => e = .returned (.bool r) ∧ Drawn0 w w' := by
 have HR0 := Aside0.mk hr0
 have HC0 := Aside0.mk hc0
 clear hr0 hc0
 have HR1 := Aside0.mk hr1
 have HC1 := Aside0.mk hc1
 clear hr1 hc1
 have H : (if (l0.length : Int) = (l1.length : Int) then (spec_l11Same.l0 k l0 l1 0) else (some false)) = some r := h
 clear h
 by_cases c3 : (l0.length : Int) = (l1.length : Int)
 ·rw [if_pos c3] at H
  have c3b0 : ((l0.length : Int) == (l1.length : Int)) = true := beq_iff_eq.mpr c3
  have c3b1 : ((l0.length : Int) != (l1.length : Int)) = false := bne_eq_false_iff_eq.mpr c3
  have c3b2 : (l0.length == l1.length) = true := by first | simpa using c3 | (simp at c3 ⊢; omega)
  clear c3
  have H' := Aside0.mk H
  clear H
  go_enter Try.func181, Try.ntmps181
  go_wp2
  repeat (go_quiet (fail); try go_wp2)
  go_loopg [5] k (fun kq v5 w' => ∃ (x5_1 : Int), v5 = .int .i64 x5_1 ∧ Aside0 (spec_l11Same.l0 kq l0 l1 x5_1 = some r) ∧ Aside0 (kq ≤ k) ∧ Drawn0 w w')
  case atStart => exact ⟨(0), (by first | rfl | (simp; done) | (simp [*]; done)), H', ⟨Nat.le_refl _⟩, by repeat (first | exact Drawn0.refl _ | apply Drawn0.step)⟩
  case round =>
   clear H'
   try clear c1
   try clear p2
   try clear c3
   try clear c3b0
   try clear c3b1
   try clear c3b2
   obtain ⟨x5_1, rfl, HA, HK1, ⟨m1, rfl⟩⟩ := hrel
   cases gk with
   | zero => exact absurd HA.out (by simp [spec_l11Same.l0])
   | succ k1 =>
    have H := HA.out
    clear HA
    simp only [spec_l11Same.l0] at H
    by_cases c4 : x5_1 < (l0.length : Int)
    ·rw [if_pos c4] at H
     have c4b0 : decide (x5_1 < (l0.length : Int)) = true := decide_eq_true c4
     clear c4
     by_cases c5 : 0 ≤ x5_1
     ·rw [if_pos c5] at H
      have c5b0 : decide (0 ≤ x5_1) = true := decide_eq_true c5
      clear c5
      by_cases c6 : x5_1 < (l1.length : Int)
      ·rw [if_pos c6] at H
       have c6b0 : decide (x5_1 < (l1.length : Int)) = true := decide_eq_true c6
       clear c6
       replace H := Option.bind_eq_some_iff.mp H
       obtain ⟨t582, A70, H⟩ := H
       have A7 := Aside0.mk A70
       clear A70
       by_cases c8 : t582 = true
       ·subst c8
        rw [if_pos rfl] at H
        have H' := Aside0.mk H
        clear H
        have p580 : 0 ≤ (x5_1 : Int) := of_decide_eq_true (by first | (with_reducible assumption) | assumption)
        have q580 : x5_1 < (l0.length : Int) := of_decide_eq_true (by first | (with_reducible assumption) | assumption)
        obtain ⟨ad580, A580_0, c580_0, e580, hx580_0, hl580_0, hi580_0⟩ := at_L2 HR0.out x5_1 p580 q580
        cases e580
        have HR580_0 := Aside0.mk hi580_0
        have HC580_0 := Aside0.mk hl580_0
        clear hi580_0 hl580_0
        replace p580 := eq_true p580
        replace q580 := eq_true q580
        have p581 : 0 ≤ (x5_1 : Int) := of_decide_eq_true (by first | (with_reducible assumption) | assumption)
        have q581 : x5_1 < (l1.length : Int) := of_decide_eq_true (by first | (with_reducible assumption) | assumption)
        obtain ⟨ad581, A581_0, c581_0, e581, hx581_0, hl581_0, hi581_0⟩ := at_L2 HR1.out x5_1 p581 q581
        cases e581
        have HR581_0 := Aside0.mk hi581_0
        have HC581_0 := Aside0.mk hl581_0
        clear hi581_0 hl581_0
        replace p581 := eq_true p581
        replace q581 := eq_true q581
        go_wp2_with fail
        repeat (go_quiet (first | (go_at_call 204; (with_reducible refine (spec_l2Same.calls k1 _ _ (rd_L2 l0 x5_1) _ _ (rd_L2 l1 x5_1) true _ ?side1 ?side2 ?side3 ?side4 A7.out).mono ?_); (case side1 => exact C_l HR580_0.out); (case side2 => exact HC580_0.out); (case side3 => exact C_l HR581_0.out); (case side4 => exact HC581_0.out); rintro e w' ⟨rfl, ⟨nd, rfl⟩⟩; (try first | exact ⟨rfl, _, World.drewN_drewN _ _ _⟩ | exact ⟨rfl, _, Eq.trans (World.drewN_drewN _ _ _) (congrArg (World.drewN _) (Nat.add_assoc _ _ _))⟩))); try go_wp2_with fail)
        go_roundg k1
        case measure => have := HK1.out; omega
        case rel => exact ⟨(wrap64 (x5_1 + 1)), (by first | rfl | (simp; done) | (simp [*]; done)), H', ⟨by have := HK1.out; omega⟩, by repeat (first | exact Drawn0.refl _ | apply Drawn0.step)⟩
       ·replace c8 := Bool.eq_false_iff.mpr c8
        subst c8
        rw [if_neg (show ¬ (false = true) by decide)] at H
        obtain rfl := Option.some.inj H
        have p580 : 0 ≤ (x5_1 : Int) := of_decide_eq_true (by first | (with_reducible assumption) | assumption)
        have q580 : x5_1 < (l0.length : Int) := of_decide_eq_true (by first | (with_reducible assumption) | assumption)
        obtain ⟨ad580, A580_0, c580_0, e580, hx580_0, hl580_0, hi580_0⟩ := at_L2 HR0.out x5_1 p580 q580
        cases e580
        have HR580_0 := Aside0.mk hi580_0
        have HC580_0 := Aside0.mk hl580_0
        clear hi580_0 hl580_0
        replace p580 := eq_true p580
        replace q580 := eq_true q580
        have p581 : 0 ≤ (x5_1 : Int) := of_decide_eq_true (by first | (with_reducible assumption) | assumption)
        have q581 : x5_1 < (l1.length : Int) := of_decide_eq_true (by first | (with_reducible assumption) | assumption)
        obtain ⟨ad581, A581_0, c581_0, e581, hx581_0, hl581_0, hi581_0⟩ := at_L2 HR1.out x5_1 p581 q581
        cases e581
        have HR581_0 := Aside0.mk hi581_0
        have HC581_0 := Aside0.mk hl581_0
        clear hi581_0 hl581_0
        replace p581 := eq_true p581
        replace q581 := eq_true q581
        go_wp2_with fail
        repeat (go_quiet (first | (go_at_call 204; (with_reducible refine (spec_l2Same.calls k1 _ _ (rd_L2 l0 x5_1) _ _ (rd_L2 l1 x5_1) false _ ?side1 ?side2 ?side3 ?side4 A7.out).mono ?_); (case side1 => exact C_l HR580_0.out); (case side2 => exact HC580_0.out); (case side3 => exact C_l HR581_0.out); (case side4 => exact HC581_0.out); rintro e w' ⟨rfl, ⟨nd, rfl⟩⟩; (try first | exact ⟨rfl, _, World.drewN_drewN _ _ _⟩ | exact ⟨rfl, _, Eq.trans (World.drewN_drewN _ _ _) (congrArg (World.drewN _) (Nat.add_assoc _ _ _))⟩))); try go_wp2_with fail)
        go_ret
        exact ⟨by first | rfl | (simp; done) | (simp [*]; done), by repeat (first | exact Drawn0.refl _ | apply Drawn0.step)⟩
      ·rw [if_neg c6] at H
       exact absurd H (by simp)
     ·rw [if_neg c5] at H
      exact absurd H (by simp)
    ·rw [if_neg c4] at H
     have c4b0 : decide (x5_1 < (l0.length : Int)) = false := decide_eq_false c4
     clear c4
     obtain rfl := Option.some.inj H
     go_wp2
     repeat (go_quiet (fail); try go_wp2)
     go_ret
     exact ⟨by first | rfl | (simp; done) | (simp [*]; done), by repeat (first | exact Drawn0.refl _ | apply Drawn0.step)⟩
 ·rw [if_neg c3] at H
  have c3b0 : ((l0.length : Int) == (l1.length : Int)) = false := beq_eq_false_iff_ne.mpr c3
  have c3b1 : ((l0.length : Int) != (l1.length : Int)) = true := bne_iff_ne.mpr c3
  have c3b2 : (l0.length == l1.length) = false := by first | simpa using c3 | (simp at c3 ⊢; omega)
  obtain rfl := Option.some.inj H
  go_enter Try.func181, Try.ntmps181
  go_wp2
  repeat (go_quiet (fail); try go_wp2)
  go_ret
  exact ⟨by first | rfl | (simp; done) | (simp [*]; done), by repeat (first | exact Drawn0.refl _ | apply Drawn0.step)⟩

/-! ### spec_BraidHolds: function 95 -/
def spec_BraidHolds.j0 : Nat → List (List Int) → List (List Int) → Bool → Option (Bool)
 | 0, _, _, _ => none
 | k + 1, x7, x9, x32 => if x32 = true then (some false) else ((spec_l11Three.f k x7 x9 x7).bind fun bt591 => ((spec_l11Three.f k x9 x7 x9).bind fun bt595 => (if bt591.2 = true then (if bt595.2 = true then ((spec_l11Same.f k bt591.1 bt595.1).bind fun t599 => (some t599)) else (some false)) else (some false))))
def spec_BraidHolds.f (k : Nat) (a0 : Int) (l1 : List Int) (l2 : List Int) : Option (Bool) := (spec_TwistMatrix.f k a0 l1).bind fun bt583 => ((spec_TwistMatrix.f k a0 l2).bind fun bt587 => (if bt583.2 = true then (spec_BraidHolds.j0 k bt583.1 bt587.1 (!bt587.2)) else (spec_BraidHolds.j0 k bt583.1 bt587.1 true)))
set_option maxHeartbeats 8000000 in
set_option maxRecDepth 100000 in
theorem spec_BraidHolds.calls (k : Nat) (a0 : Int) (A1 : Option Addr) (c1 : Nat) (l1 : List Int) (A2 : Option Addr) (c2 : Nat) (l2 : List Int) (r : Bool) (w : World) (hr1 : Kd.C (Kd.int .i64) w A1 l1.length l1) (hc1 : l1.length ≤ c1) (hr2 : Kd.C (Kd.int .i64) w A2 l2.length l2) (hc2 : l2.length ≤ c2) (h : spec_BraidHolds.f k a0 l1 l2 = some r) :
  Calls Try.prog 95 #[.int .i64 a0, .slice A1 l1.length c1, .slice A2 l2.length c2] w fun e w' => e = .returned (.bool r) ∧ Below w.heap.size w w' := by
 have HR1 := Aside0.mk hr1
 have HC1 := Aside0.mk hc1
 clear hr1 hc1
 have HR2 := Aside0.mk hr2
 have HC2 := Aside0.mk hc2
 clear hr2 hc2
 have HB := Aside0.mk (Below.refl w.heap.size w)
 have H : ((spec_TwistMatrix.f k a0 l1).bind fun bt583 => ((spec_TwistMatrix.f k a0 l2).bind fun bt587 => (if bt583.2 = true then (spec_BraidHolds.j0 k bt583.1 bt587.1 (!bt587.2)) else (spec_BraidHolds.j0 k bt583.1 bt587.1 true)))) = some r := h
 clear h
 replace H := Option.bind_eq_some_iff.mp H
 obtain ⟨⟨t583, t584⟩, A40, H⟩ := H
 replace H : ((spec_TwistMatrix.f k a0 l2).bind fun bt587 => (if t584 = true then (spec_BraidHolds.j0 k t583 bt587.1 (!bt587.2)) else (spec_BraidHolds.j0 k t583 bt587.1 true))) = some r := H
 have A4 := Aside0.mk A40
 clear A40
 replace H := Option.bind_eq_some_iff.mp H
 obtain ⟨⟨t587, t588⟩, A50, H⟩ := H
 replace H : (if t584 = true then (spec_BraidHolds.j0 k t583 t587 (!t588)) else (spec_BraidHolds.j0 k t583 t587 true)) = some r := H
 have A5 := Aside0.mk A50
 clear A50
 have HC6 := Aside0.mk H
 clear H
 go_enter Try.func95, Try.ntmps95
 go_upto_region 3 with (first | (refine gL 78 (some 18) Try.func78 #[.int .i64 a0, .slice A1 l1.length c1] ?_; (with_reducible refine (spec_TwistMatrix.calls k a0 _ _ l1 t583 t584 _ ?side1 ?side2 A4.out).mono ?_); (case side1 => exact C_l HR1.out); (case side2 => exact HC1.out); rintro e w7 ⟨v585, rfl, ho0, hb⟩; refine ⟨_, rfl, ?_⟩; have n0_ := Aside0.mk (Kd.S_lower ho0 (below_size (B_l HB.out))); have n1_ := Aside0.mk (below_step (B_l HB.out) hb); clear HB; have HO586 := n0_; have HB := n1_; clear n0_ n1_) | (refine gL 78 (some 24) Try.func78 #[.int .i64 a0, .slice A2 l2.length c2] ?_; (with_reducible refine (spec_TwistMatrix.calls k a0 _ _ l2 t587 t588 _ ?side1 ?side2 A5.out).mono ?_); (case side1 => exact C_l (Kd.C_below HR2.out HB.out)); (case side2 => exact HC2.out); rintro e w8 ⟨v589, rfl, ho0, hb⟩; refine ⟨_, rfl, ?_⟩; have n0_ := Aside0.mk (Kd.S_elder' (S_l HO586.out) (Kd.S_base ho0) hb); have n1_ := Aside0.mk (Kd.S_lower (Kd.S_new' ho0 (Kd.S_lt (S_l HO586.out))) (below_size (B_l HB.out))); have n2_ := Aside0.mk (below_step (B_l HB.out) hb); clear HO586; clear HB; have HO586 := n0_; have HO590 := n1_; have HB := n2_; clear n0_ n1_ n2_))
 (try simp only [Act.put, List.setIfInBounds_toArray, List.set_cons_zero, List.set_cons_succ])
 go_cut [32] (fun v32 wc => ∃ (kq : Nat) (x32_5 : Bool), v32 = .bool x32_5 ∧ Aside0 (spec_BraidHolds.j0 kq t583 t587 x32_5 = some r) ∧ Aside0 (kq ≤ k) ∧ Aside0 (Kd.S (Kd.slice 3 (Kd.int .i64)) 35 wc w.heap.size (fun k_ => some k_ ≠ (v589 : Value).ownBlock) v585 t583) ∧ Aside0 (Kd.S (Kd.slice 3 (Kd.int .i64)) 35 wc w.heap.size (fun k_ => some k_ ≠ (v585 : Value).ownBlock) v589 t587) ∧ Aside0 (Below w.heap.size w wc))
 case first =>
  have H := HC6.out
  clear HC6
  by_cases c9 : t584 = true
  ·subst c9
   rw [if_pos rfl] at H
   have H' := Aside0.mk H
   clear H
   go_wp2
   go_meet
   case rel => exact ⟨_, (!t588), (by first | rfl | (simp; done) | (simp [*]; done)), H', ⟨by first | omega | exact Nat.le_refl _⟩, ⟨S_l (Kd.S_mono HO586.out (fun _ hk => hk.2))⟩, ⟨S_l (Kd.S_mono HO590.out (fun _ hk => hk.2))⟩, ⟨B_l HB.out⟩⟩
  ·replace c9 := Bool.eq_false_iff.mpr c9
   subst c9
   rw [if_neg (show ¬ (false = true) by decide)] at H
   have H' := Aside0.mk H
   clear H
   go_wp2
   go_meet
   case rel => exact ⟨_, (true), (by first | rfl | (simp; done) | (simp [*]; done)), H', ⟨by first | omega | exact Nat.le_refl _⟩, ⟨S_l (Kd.S_mono HO586.out (fun _ hk => hk.2))⟩, ⟨S_l (Kd.S_mono HO590.out (fun _ hk => hk.2))⟩, ⟨B_l HB.out⟩⟩
 case rest =>
  clear HC6
  try clear c1
  try clear c2
  try clear p2
  try clear c7
  try clear c9
  obtain ⟨kq, x32_5, rfl, HA, HJ5, HO_7, HO_9, HB⟩ := hcut
  cases kq with
  | zero => exact absurd HA.out (by simp [spec_BraidHolds.j0])
  | succ kj5 =>
   have H := HA.out
   clear HA
   simp only [spec_BraidHolds.j0] at H
   by_cases c10 : x32_5 = true
   ·subst c10
    rw [if_pos rfl] at H
    obtain rfl := Option.some.inj H
    go_wp2
    go_ret
    exact ⟨by first | rfl | (simp [errW_none, errW_some] <;> rfl) | (simp [*, errW_none, errW_some] <;> rfl), B_l HB.out⟩
   ·replace c10 := Bool.eq_false_iff.mpr c10
    subst c10
    rw [if_neg (show ¬ (false = true) by decide)] at H
    replace H := Option.bind_eq_some_iff.mp H
    obtain ⟨⟨t591, t592⟩, A110, H⟩ := H
    replace H : ((spec_l11Three.f kj5 t587 t583 t587).bind fun bt595 => (if t592 = true then (if bt595.2 = true then ((spec_l11Same.f kj5 t591 bt595.1).bind fun t599 => (some t599)) else (some false)) else (some false))) = some r := H
    have A11 := Aside0.mk A110
    clear A110
    replace H := Option.bind_eq_some_iff.mp H
    obtain ⟨⟨t595, t596⟩, A120, H⟩ := H
    replace H : (if t592 = true then (if t596 = true then ((spec_l11Same.f kj5 t591 t595).bind fun t599 => (some t599)) else (some false)) else (some false)) = some r := H
    have A12 := Aside0.mk A120
    clear A120
    by_cases c13 : t592 = true
    ·subst c13
     rw [if_pos rfl] at H
     by_cases c14 : t596 = true
     ·subst c14
      rw [if_pos rfl] at H
      replace H := Option.bind_eq_some_iff.mp H
      obtain ⟨t599, A150, H⟩ := H
      have A15 := Aside0.mk A150
      clear A150
      obtain rfl := Option.some.inj H
      obtain ⟨Ao16, co16, eo16⟩ := Kd.S_slice HO_7.out
      subst eo16
      obtain ⟨Ao17, co17, eo17⟩ := Kd.S_slice HO_9.out
      subst eo17
      go_wp2_with (first | (refine gL 180 (some 37) Try.func180 #[.slice Ao16 t583.length co16, .slice Ao17 t587.length co17, .slice Ao16 t583.length co16] ?_; (with_reducible refine (spec_l11Three.calls kj5 _ _ t583 _ _ t587 _ _ t583 t591 true _ ?side1 ?side2 ?side3 ?side4 ?side5 ?side6 A11.out).mono ?_); (case side1 => exact C_l ((Kd.S_reads' HO_7.out).2.2)); (case side2 => exact (Kd.S_reads' HO_7.out).2.1); (case side3 => exact C_l ((Kd.S_reads' HO_9.out).2.2)); (case side4 => exact (Kd.S_reads' HO_9.out).2.1); (case side5 => exact C_l ((Kd.S_reads' HO_7.out).2.2)); (case side6 => exact (Kd.S_reads' HO_7.out).2.1); rintro e w18 ⟨v593, rfl, ho0, hb⟩; refine ⟨_, rfl, ?_⟩; have n0_ := Aside0.mk (Kd.S_elder' (S_l HO_7.out) (Kd.S_base ho0) hb); have n1_ := Aside0.mk (Kd.S_elder' (S_l HO_9.out) (Kd.S_base ho0) hb); have n2_ := Aside0.mk (Kd.S_lower (Kd.S_new' (Kd.S_new' ho0 (Kd.S_lt (S_l HO_7.out))) (Kd.S_lt (S_l HO_9.out))) (below_size (B_l HB.out))); have n3_ := Aside0.mk (below_step (B_l HB.out) hb); clear HO_7; clear HO_9; clear HB; have HO_7 := n0_; have HO_9 := n1_; have HO594 := n2_; have HB := n3_; clear n0_ n1_ n2_ n3_) | (refine gL 180 (some 44) Try.func180 #[.slice Ao17 t587.length co17, .slice Ao16 t583.length co16, .slice Ao17 t587.length co17] ?_; (with_reducible refine (spec_l11Three.calls kj5 _ _ t587 _ _ t583 _ _ t587 t595 true _ ?side1 ?side2 ?side3 ?side4 ?side5 ?side6 A12.out).mono ?_); (case side1 => exact C_l ((Kd.S_reads' HO_9.out).2.2)); (case side2 => exact (Kd.S_reads' HO_9.out).2.1); (case side3 => exact C_l ((Kd.S_reads' HO_7.out).2.2)); (case side4 => exact (Kd.S_reads' HO_7.out).2.1); (case side5 => exact C_l ((Kd.S_reads' HO_9.out).2.2)); (case side6 => exact (Kd.S_reads' HO_9.out).2.1); rintro e w19 ⟨v597, rfl, ho0, hb⟩; refine ⟨_, rfl, ?_⟩; have n0_ := Aside0.mk (Kd.S_elder' (S_l HO_7.out) (Kd.S_base ho0) hb); have n1_ := Aside0.mk (Kd.S_elder' (S_l HO_9.out) (Kd.S_base ho0) hb); have n2_ := Aside0.mk (Kd.S_elder' (S_l HO594.out) (Kd.S_base ho0) hb); have n3_ := Aside0.mk (Kd.S_lower (Kd.S_new' (Kd.S_new' (Kd.S_new' ho0 (Kd.S_lt (S_l HO_7.out))) (Kd.S_lt (S_l HO_9.out))) (Kd.S_lt (S_l HO594.out))) (below_size (B_l HB.out))); have n4_ := Aside0.mk (below_step (B_l HB.out) hb); clear HO_7; clear HO_9; clear HO594; clear HB; have HO_7 := n0_; have HO_9 := n1_; have HO594 := n2_; have HO598 := n3_; have HB := n4_; clear n0_ n1_ n2_ n3_ n4_; obtain ⟨Ao20, co20, eo20⟩ := Kd.S_slice HO594.out; subst eo20; obtain ⟨Ao21, co21, eo21⟩ := Kd.S_slice HO598.out; subst eo21) | (go_at_call 181; (with_reducible refine (spec_l11Same.calls kj5 _ _ t591 _ _ t595 t599 _ ?side1 ?side2 ?side3 ?side4 A15.out).mono ?_); (case side1 => exact C_l ((Kd.S_reads' HO594.out).2.2)); (case side2 => exact (Kd.S_reads' HO594.out).2.1); (case side3 => exact C_l ((Kd.S_reads' HO598.out).2.2)); (case side4 => exact (Kd.S_reads' HO598.out).2.1); rintro e w' ⟨rfl, ⟨nd, rfl⟩⟩))
      go_ret
      exact ⟨by first | rfl | (simp [errW_none, errW_some] <;> rfl) | (simp [*, errW_none, errW_some] <;> rfl), B_l HB.out⟩
     ·replace c14 := Bool.eq_false_iff.mpr c14
      subst c14
      rw [if_neg (show ¬ (false = true) by decide)] at H
      obtain rfl := Option.some.inj H
      obtain ⟨Ao22, co22, eo22⟩ := Kd.S_slice HO_7.out
      subst eo22
      obtain ⟨Ao23, co23, eo23⟩ := Kd.S_slice HO_9.out
      subst eo23
      go_wp2_with (first | (refine gL 180 (some 37) Try.func180 #[.slice Ao22 t583.length co22, .slice Ao23 t587.length co23, .slice Ao22 t583.length co22] ?_; (with_reducible refine (spec_l11Three.calls kj5 _ _ t583 _ _ t587 _ _ t583 t591 true _ ?side1 ?side2 ?side3 ?side4 ?side5 ?side6 A11.out).mono ?_); (case side1 => exact C_l ((Kd.S_reads' HO_7.out).2.2)); (case side2 => exact (Kd.S_reads' HO_7.out).2.1); (case side3 => exact C_l ((Kd.S_reads' HO_9.out).2.2)); (case side4 => exact (Kd.S_reads' HO_9.out).2.1); (case side5 => exact C_l ((Kd.S_reads' HO_7.out).2.2)); (case side6 => exact (Kd.S_reads' HO_7.out).2.1); rintro e w24 ⟨v593, rfl, ho0, hb⟩; refine ⟨_, rfl, ?_⟩; have n0_ := Aside0.mk (Kd.S_elder' (S_l HO_7.out) (Kd.S_base ho0) hb); have n1_ := Aside0.mk (Kd.S_elder' (S_l HO_9.out) (Kd.S_base ho0) hb); have n2_ := Aside0.mk (Kd.S_lower (Kd.S_new' (Kd.S_new' ho0 (Kd.S_lt (S_l HO_7.out))) (Kd.S_lt (S_l HO_9.out))) (below_size (B_l HB.out))); have n3_ := Aside0.mk (below_step (B_l HB.out) hb); clear HO_7; clear HO_9; clear HB; have HO_7 := n0_; have HO_9 := n1_; have HO594 := n2_; have HB := n3_; clear n0_ n1_ n2_ n3_) | (refine gL 180 (some 44) Try.func180 #[.slice Ao23 t587.length co23, .slice Ao22 t583.length co22, .slice Ao23 t587.length co23] ?_; (with_reducible refine (spec_l11Three.calls kj5 _ _ t587 _ _ t583 _ _ t587 t595 false _ ?side1 ?side2 ?side3 ?side4 ?side5 ?side6 A12.out).mono ?_); (case side1 => exact C_l ((Kd.S_reads' HO_9.out).2.2)); (case side2 => exact (Kd.S_reads' HO_9.out).2.1); (case side3 => exact C_l ((Kd.S_reads' HO_7.out).2.2)); (case side4 => exact (Kd.S_reads' HO_7.out).2.1); (case side5 => exact C_l ((Kd.S_reads' HO_9.out).2.2)); (case side6 => exact (Kd.S_reads' HO_9.out).2.1); rintro e w25 ⟨v597, rfl, ho0, hb⟩; refine ⟨_, rfl, ?_⟩; have n0_ := Aside0.mk (Kd.S_elder' (S_l HO_7.out) (Kd.S_base ho0) hb); have n1_ := Aside0.mk (Kd.S_elder' (S_l HO_9.out) (Kd.S_base ho0) hb); have n2_ := Aside0.mk (Kd.S_elder' (S_l HO594.out) (Kd.S_base ho0) hb); have n3_ := Aside0.mk (Kd.S_lower (Kd.S_new' (Kd.S_new' (Kd.S_new' ho0 (Kd.S_lt (S_l HO_7.out))) (Kd.S_lt (S_l HO_9.out))) (Kd.S_lt (S_l HO594.out))) (below_size (B_l HB.out))); have n4_ := Aside0.mk (below_step (B_l HB.out) hb); clear HO_7; clear HO_9; clear HO594; clear HB; have HO_7 := n0_; have HO_9 := n1_; have HO594 := n2_; have HO598 := n3_; have HB := n4_; clear n0_ n1_ n2_ n3_ n4_))
      go_ret
      exact ⟨by first | rfl | (simp [errW_none, errW_some] <;> rfl) | (simp [*, errW_none, errW_some] <;> rfl), B_l HB.out⟩
    ·replace c13 := Bool.eq_false_iff.mpr c13
     subst c13
     rw [if_neg (show ¬ (false = true) by decide)] at H
     obtain rfl := Option.some.inj H
     obtain ⟨Ao26, co26, eo26⟩ := Kd.S_slice HO_7.out
     subst eo26
     obtain ⟨Ao27, co27, eo27⟩ := Kd.S_slice HO_9.out
     subst eo27
     go_wp2_with (first | (refine gL 180 (some 37) Try.func180 #[.slice Ao26 t583.length co26, .slice Ao27 t587.length co27, .slice Ao26 t583.length co26] ?_; (with_reducible refine (spec_l11Three.calls kj5 _ _ t583 _ _ t587 _ _ t583 t591 false _ ?side1 ?side2 ?side3 ?side4 ?side5 ?side6 A11.out).mono ?_); (case side1 => exact C_l ((Kd.S_reads' HO_7.out).2.2)); (case side2 => exact (Kd.S_reads' HO_7.out).2.1); (case side3 => exact C_l ((Kd.S_reads' HO_9.out).2.2)); (case side4 => exact (Kd.S_reads' HO_9.out).2.1); (case side5 => exact C_l ((Kd.S_reads' HO_7.out).2.2)); (case side6 => exact (Kd.S_reads' HO_7.out).2.1); rintro e w28 ⟨v593, rfl, ho0, hb⟩; refine ⟨_, rfl, ?_⟩; have n0_ := Aside0.mk (Kd.S_elder' (S_l HO_7.out) (Kd.S_base ho0) hb); have n1_ := Aside0.mk (Kd.S_elder' (S_l HO_9.out) (Kd.S_base ho0) hb); have n2_ := Aside0.mk (Kd.S_lower (Kd.S_new' (Kd.S_new' ho0 (Kd.S_lt (S_l HO_7.out))) (Kd.S_lt (S_l HO_9.out))) (below_size (B_l HB.out))); have n3_ := Aside0.mk (below_step (B_l HB.out) hb); clear HO_7; clear HO_9; clear HB; have HO_7 := n0_; have HO_9 := n1_; have HO594 := n2_; have HB := n3_; clear n0_ n1_ n2_ n3_) | (refine gL 180 (some 44) Try.func180 #[.slice Ao27 t587.length co27, .slice Ao26 t583.length co26, .slice Ao27 t587.length co27] ?_; (with_reducible refine (spec_l11Three.calls kj5 _ _ t587 _ _ t583 _ _ t587 t595 t596 _ ?side1 ?side2 ?side3 ?side4 ?side5 ?side6 A12.out).mono ?_); (case side1 => exact C_l ((Kd.S_reads' HO_9.out).2.2)); (case side2 => exact (Kd.S_reads' HO_9.out).2.1); (case side3 => exact C_l ((Kd.S_reads' HO_7.out).2.2)); (case side4 => exact (Kd.S_reads' HO_7.out).2.1); (case side5 => exact C_l ((Kd.S_reads' HO_9.out).2.2)); (case side6 => exact (Kd.S_reads' HO_9.out).2.1); rintro e w29 ⟨v597, rfl, ho0, hb⟩; refine ⟨_, rfl, ?_⟩; have n0_ := Aside0.mk (Kd.S_elder' (S_l HO_7.out) (Kd.S_base ho0) hb); have n1_ := Aside0.mk (Kd.S_elder' (S_l HO_9.out) (Kd.S_base ho0) hb); have n2_ := Aside0.mk (Kd.S_elder' (S_l HO594.out) (Kd.S_base ho0) hb); have n3_ := Aside0.mk (Kd.S_lower (Kd.S_new' (Kd.S_new' (Kd.S_new' ho0 (Kd.S_lt (S_l HO_7.out))) (Kd.S_lt (S_l HO_9.out))) (Kd.S_lt (S_l HO594.out))) (below_size (B_l HB.out))); have n4_ := Aside0.mk (below_step (B_l HB.out) hb); clear HO_7; clear HO_9; clear HO594; clear HB; have HO_7 := n0_; have HO_9 := n1_; have HO594 := n2_; have HO598 := n3_; have HB := n4_; clear n0_ n1_ n2_ n3_ n4_))
     go_ret
     exact ⟨by first | rfl | (simp [errW_none, errW_some] <;> rfl) | (simp [*, errW_none, errW_some] <;> rfl), B_l HB.out⟩

/-! ### impl_CommuteHolds: function 96 -/
def impl_CommuteHolds.j0 : Nat → List (List Int) → List (List Int) → Bool → Option (Bool)
 | 0, _, _, _ => none
 | k + 1, x7, x9, x32 => if x32 = true then (some false) else ((impl_TimesTable.f k x7 x9).bind fun bt608 => ((impl_TimesTable.f k x9 x7).bind fun bt612 => (if bt608.2 = true then (if bt612.2 = true then ((impl_sameRows.f k bt608.1 bt612.1).bind fun t616 => (some t616)) else (some false)) else (some false))))
def impl_CommuteHolds.f (k : Nat) (a0 : Int) (l1 : List Int) (l2 : List Int) : Option (Bool) := (impl_TwistMatrix.f k a0 l1).bind fun bt600 => ((impl_TwistMatrix.f k a0 l2).bind fun bt604 => (if bt600.2 = true then (impl_CommuteHolds.j0 k bt600.1 bt604.1 (!bt604.2)) else (impl_CommuteHolds.j0 k bt600.1 bt604.1 true)))
set_option maxHeartbeats 8000000 in
set_option maxRecDepth 100000 in
theorem impl_CommuteHolds.calls (k : Nat) (a0 : Int) (A1 : Option Addr) (c1 : Nat) (l1 : List Int) (A2 : Option Addr) (c2 : Nat) (l2 : List Int) (r : Bool) (w : World) (hr1 : Kd.C (Kd.int .i64) w A1 l1.length l1) (hc1 : l1.length ≤ c1) (hr2 : Kd.C (Kd.int .i64) w A2 l2.length l2) (hc2 : l2.length ≤ c2) (h : impl_CommuteHolds.f k a0 l1 l2 = some r) :
  Calls Try.prog 96 #[.int .i64 a0, .slice A1 l1.length c1, .slice A2 l2.length c2] w fun e w' => e = .returned (.bool r) ∧ Below w.heap.size w w' := by
 have HR1 := Aside0.mk hr1
 have HC1 := Aside0.mk hc1
 clear hr1 hc1
 have HR2 := Aside0.mk hr2
 have HC2 := Aside0.mk hc2
 clear hr2 hc2
 have HB := Aside0.mk (Below.refl w.heap.size w)
 have H : ((impl_TwistMatrix.f k a0 l1).bind fun bt600 => ((impl_TwistMatrix.f k a0 l2).bind fun bt604 => (if bt600.2 = true then (impl_CommuteHolds.j0 k bt600.1 bt604.1 (!bt604.2)) else (impl_CommuteHolds.j0 k bt600.1 bt604.1 true)))) = some r := h
 clear h
 replace H := Option.bind_eq_some_iff.mp H
 obtain ⟨⟨t600, t601⟩, A40, H⟩ := H
 replace H : ((impl_TwistMatrix.f k a0 l2).bind fun bt604 => (if t601 = true then (impl_CommuteHolds.j0 k t600 bt604.1 (!bt604.2)) else (impl_CommuteHolds.j0 k t600 bt604.1 true))) = some r := H
 have A4 := Aside0.mk A40
 clear A40
 replace H := Option.bind_eq_some_iff.mp H
 obtain ⟨⟨t604, t605⟩, A50, H⟩ := H
 replace H : (if t601 = true then (impl_CommuteHolds.j0 k t600 t604 (!t605)) else (impl_CommuteHolds.j0 k t600 t604 true)) = some r := H
 have A5 := Aside0.mk A50
 clear A50
 have HC6 := Aside0.mk H
 clear H
 go_enter Try.func96, Try.ntmps96
 go_upto_region 3 with (first | (refine gL 77 (some 18) Try.func77 #[.int .i64 a0, .slice A1 l1.length c1] ?_; (with_reducible refine (impl_TwistMatrix.calls k a0 _ _ l1 t600 t601 _ ?side1 ?side2 A4.out).mono ?_); (case side1 => exact C_l HR1.out); (case side2 => exact HC1.out); rintro e w7 ⟨v602, rfl, ho0, hb⟩; refine ⟨_, rfl, ?_⟩; have n0_ := Aside0.mk (Kd.S_lower ho0 (below_size (B_l HB.out))); have n1_ := Aside0.mk (below_step (B_l HB.out) hb); clear HB; have HO603 := n0_; have HB := n1_; clear n0_ n1_) | (refine gL 77 (some 24) Try.func77 #[.int .i64 a0, .slice A2 l2.length c2] ?_; (with_reducible refine (impl_TwistMatrix.calls k a0 _ _ l2 t604 t605 _ ?side1 ?side2 A5.out).mono ?_); (case side1 => exact C_l (Kd.C_below HR2.out HB.out)); (case side2 => exact HC2.out); rintro e w8 ⟨v606, rfl, ho0, hb⟩; refine ⟨_, rfl, ?_⟩; have n0_ := Aside0.mk (Kd.S_elder' (S_l HO603.out) (Kd.S_base ho0) hb); have n1_ := Aside0.mk (Kd.S_lower (Kd.S_new' ho0 (Kd.S_lt (S_l HO603.out))) (below_size (B_l HB.out))); have n2_ := Aside0.mk (below_step (B_l HB.out) hb); clear HO603; clear HB; have HO603 := n0_; have HO607 := n1_; have HB := n2_; clear n0_ n1_ n2_))
 (try simp only [Act.put, List.setIfInBounds_toArray, List.set_cons_zero, List.set_cons_succ])
 go_cut [32] (fun v32 wc => ∃ (kq : Nat) (x32_5 : Bool), v32 = .bool x32_5 ∧ Aside0 (impl_CommuteHolds.j0 kq t600 t604 x32_5 = some r) ∧ Aside0 (kq ≤ k) ∧ Aside0 (Kd.S (Kd.slice 3 (Kd.int .i64)) 35 wc w.heap.size (fun k_ => some k_ ≠ (v606 : Value).ownBlock) v602 t600) ∧ Aside0 (Kd.S (Kd.slice 3 (Kd.int .i64)) 35 wc w.heap.size (fun k_ => some k_ ≠ (v602 : Value).ownBlock) v606 t604) ∧ Aside0 (Below w.heap.size w wc))
 case first =>
  have H := HC6.out
  clear HC6
  by_cases c9 : t601 = true
  ·subst c9
   rw [if_pos rfl] at H
   have H' := Aside0.mk H
   clear H
   go_wp2
   go_meet
   case rel => exact ⟨_, (!t605), (by first | rfl | (simp; done) | (simp [*]; done)), H', ⟨by first | omega | exact Nat.le_refl _⟩, ⟨S_l (Kd.S_mono HO603.out (fun _ hk => hk.2))⟩, ⟨S_l (Kd.S_mono HO607.out (fun _ hk => hk.2))⟩, ⟨B_l HB.out⟩⟩
  ·replace c9 := Bool.eq_false_iff.mpr c9
   subst c9
   rw [if_neg (show ¬ (false = true) by decide)] at H
   have H' := Aside0.mk H
   clear H
   go_wp2
   go_meet
   case rel => exact ⟨_, (true), (by first | rfl | (simp; done) | (simp [*]; done)), H', ⟨by first | omega | exact Nat.le_refl _⟩, ⟨S_l (Kd.S_mono HO603.out (fun _ hk => hk.2))⟩, ⟨S_l (Kd.S_mono HO607.out (fun _ hk => hk.2))⟩, ⟨B_l HB.out⟩⟩
 case rest =>
  clear HC6
  try clear c1
  try clear c2
  try clear p2
  try clear c7
  try clear c9
  obtain ⟨kq, x32_5, rfl, HA, HJ5, HO_7, HO_9, HB⟩ := hcut
  cases kq with
  | zero => exact absurd HA.out (by simp [impl_CommuteHolds.j0])
  | succ kj5 =>
   have H := HA.out
   clear HA
   simp only [impl_CommuteHolds.j0] at H
   by_cases c10 : x32_5 = true
   ·subst c10
    rw [if_pos rfl] at H
    obtain rfl := Option.some.inj H
    go_wp2
    go_ret
    exact ⟨by first | rfl | (simp [errW_none, errW_some] <;> rfl) | (simp [*, errW_none, errW_some] <;> rfl), B_l HB.out⟩
   ·replace c10 := Bool.eq_false_iff.mpr c10
    subst c10
    rw [if_neg (show ¬ (false = true) by decide)] at H
    replace H := Option.bind_eq_some_iff.mp H
    obtain ⟨⟨t608, t609⟩, A110, H⟩ := H
    replace H : ((impl_TimesTable.f kj5 t604 t600).bind fun bt612 => (if t609 = true then (if bt612.2 = true then ((impl_sameRows.f kj5 t608 bt612.1).bind fun t616 => (some t616)) else (some false)) else (some false))) = some r := H
    have A11 := Aside0.mk A110
    clear A110
    replace H := Option.bind_eq_some_iff.mp H
    obtain ⟨⟨t612, t613⟩, A120, H⟩ := H
    replace H : (if t609 = true then (if t613 = true then ((impl_sameRows.f kj5 t608 t612).bind fun t616 => (some t616)) else (some false)) else (some false)) = some r := H
    have A12 := Aside0.mk A120
    clear A120
    by_cases c13 : t609 = true
    ·subst c13
     rw [if_pos rfl] at H
     by_cases c14 : t613 = true
     ·subst c14
      rw [if_pos rfl] at H
      replace H := Option.bind_eq_some_iff.mp H
      obtain ⟨t616, A150, H⟩ := H
      have A15 := Aside0.mk A150
      clear A150
      obtain rfl := Option.some.inj H
      obtain ⟨Ao16, co16, eo16⟩ := Kd.S_slice HO_7.out
      subst eo16
      obtain ⟨Ao17, co17, eo17⟩ := Kd.S_slice HO_9.out
      subst eo17
      go_wp2_with (first | (refine gL 83 (some 36) Try.func83 #[.slice Ao16 t600.length co16, .slice Ao17 t604.length co17] ?_; (with_reducible refine (impl_TimesTable.calls kj5 _ _ t600 _ _ t604 t608 true _ ?side1 ?side2 ?side3 ?side4 A11.out).mono ?_); (case side1 => exact C_l ((Kd.S_reads' HO_7.out).2.2)); (case side2 => exact (Kd.S_reads' HO_7.out).2.1); (case side3 => exact C_l ((Kd.S_reads' HO_9.out).2.2)); (case side4 => exact (Kd.S_reads' HO_9.out).2.1); rintro e w18 ⟨v610, rfl, ho0, hb⟩; refine ⟨_, rfl, ?_⟩; have n0_ := Aside0.mk (Kd.S_elder' (S_l HO_7.out) (Kd.S_base ho0) hb); have n1_ := Aside0.mk (Kd.S_elder' (S_l HO_9.out) (Kd.S_base ho0) hb); have n2_ := Aside0.mk (Kd.S_lower (Kd.S_new' (Kd.S_new' ho0 (Kd.S_lt (S_l HO_7.out))) (Kd.S_lt (S_l HO_9.out))) (below_size (B_l HB.out))); have n3_ := Aside0.mk (below_step (B_l HB.out) hb); clear HO_7; clear HO_9; clear HB; have HO_7 := n0_; have HO_9 := n1_; have HO611 := n2_; have HB := n3_; clear n0_ n1_ n2_ n3_) | (refine gL 83 (some 42) Try.func83 #[.slice Ao17 t604.length co17, .slice Ao16 t600.length co16] ?_; (with_reducible refine (impl_TimesTable.calls kj5 _ _ t604 _ _ t600 t612 true _ ?side1 ?side2 ?side3 ?side4 A12.out).mono ?_); (case side1 => exact C_l ((Kd.S_reads' HO_9.out).2.2)); (case side2 => exact (Kd.S_reads' HO_9.out).2.1); (case side3 => exact C_l ((Kd.S_reads' HO_7.out).2.2)); (case side4 => exact (Kd.S_reads' HO_7.out).2.1); rintro e w19 ⟨v614, rfl, ho0, hb⟩; refine ⟨_, rfl, ?_⟩; have n0_ := Aside0.mk (Kd.S_elder' (S_l HO_7.out) (Kd.S_base ho0) hb); have n1_ := Aside0.mk (Kd.S_elder' (S_l HO_9.out) (Kd.S_base ho0) hb); have n2_ := Aside0.mk (Kd.S_elder' (S_l HO611.out) (Kd.S_base ho0) hb); have n3_ := Aside0.mk (Kd.S_lower (Kd.S_new' (Kd.S_new' (Kd.S_new' ho0 (Kd.S_lt (S_l HO_7.out))) (Kd.S_lt (S_l HO_9.out))) (Kd.S_lt (S_l HO611.out))) (below_size (B_l HB.out))); have n4_ := Aside0.mk (below_step (B_l HB.out) hb); clear HO_7; clear HO_9; clear HO611; clear HB; have HO_7 := n0_; have HO_9 := n1_; have HO611 := n2_; have HO615 := n3_; have HB := n4_; clear n0_ n1_ n2_ n3_ n4_; obtain ⟨Ao20, co20, eo20⟩ := Kd.S_slice HO611.out; subst eo20; obtain ⟨Ao21, co21, eo21⟩ := Kd.S_slice HO615.out; subst eo21) | (go_at_call 179; (with_reducible refine (impl_sameRows.calls kj5 _ _ t608 _ _ t612 t616 _ ?side1 ?side2 ?side3 ?side4 A15.out).mono ?_); (case side1 => exact C_l ((Kd.S_reads' HO611.out).2.2)); (case side2 => exact (Kd.S_reads' HO611.out).2.1); (case side3 => exact C_l ((Kd.S_reads' HO615.out).2.2)); (case side4 => exact (Kd.S_reads' HO615.out).2.1); rintro e w' ⟨rfl, ⟨nd, rfl⟩⟩))
      go_ret
      exact ⟨by first | rfl | (simp [errW_none, errW_some] <;> rfl) | (simp [*, errW_none, errW_some] <;> rfl), B_l HB.out⟩
     ·replace c14 := Bool.eq_false_iff.mpr c14
      subst c14
      rw [if_neg (show ¬ (false = true) by decide)] at H
      obtain rfl := Option.some.inj H
      obtain ⟨Ao22, co22, eo22⟩ := Kd.S_slice HO_7.out
      subst eo22
      obtain ⟨Ao23, co23, eo23⟩ := Kd.S_slice HO_9.out
      subst eo23
      go_wp2_with (first | (refine gL 83 (some 36) Try.func83 #[.slice Ao22 t600.length co22, .slice Ao23 t604.length co23] ?_; (with_reducible refine (impl_TimesTable.calls kj5 _ _ t600 _ _ t604 t608 true _ ?side1 ?side2 ?side3 ?side4 A11.out).mono ?_); (case side1 => exact C_l ((Kd.S_reads' HO_7.out).2.2)); (case side2 => exact (Kd.S_reads' HO_7.out).2.1); (case side3 => exact C_l ((Kd.S_reads' HO_9.out).2.2)); (case side4 => exact (Kd.S_reads' HO_9.out).2.1); rintro e w24 ⟨v610, rfl, ho0, hb⟩; refine ⟨_, rfl, ?_⟩; have n0_ := Aside0.mk (Kd.S_elder' (S_l HO_7.out) (Kd.S_base ho0) hb); have n1_ := Aside0.mk (Kd.S_elder' (S_l HO_9.out) (Kd.S_base ho0) hb); have n2_ := Aside0.mk (Kd.S_lower (Kd.S_new' (Kd.S_new' ho0 (Kd.S_lt (S_l HO_7.out))) (Kd.S_lt (S_l HO_9.out))) (below_size (B_l HB.out))); have n3_ := Aside0.mk (below_step (B_l HB.out) hb); clear HO_7; clear HO_9; clear HB; have HO_7 := n0_; have HO_9 := n1_; have HO611 := n2_; have HB := n3_; clear n0_ n1_ n2_ n3_) | (refine gL 83 (some 42) Try.func83 #[.slice Ao23 t604.length co23, .slice Ao22 t600.length co22] ?_; (with_reducible refine (impl_TimesTable.calls kj5 _ _ t604 _ _ t600 t612 false _ ?side1 ?side2 ?side3 ?side4 A12.out).mono ?_); (case side1 => exact C_l ((Kd.S_reads' HO_9.out).2.2)); (case side2 => exact (Kd.S_reads' HO_9.out).2.1); (case side3 => exact C_l ((Kd.S_reads' HO_7.out).2.2)); (case side4 => exact (Kd.S_reads' HO_7.out).2.1); rintro e w25 ⟨v614, rfl, ho0, hb⟩; refine ⟨_, rfl, ?_⟩; have n0_ := Aside0.mk (Kd.S_elder' (S_l HO_7.out) (Kd.S_base ho0) hb); have n1_ := Aside0.mk (Kd.S_elder' (S_l HO_9.out) (Kd.S_base ho0) hb); have n2_ := Aside0.mk (Kd.S_elder' (S_l HO611.out) (Kd.S_base ho0) hb); have n3_ := Aside0.mk (Kd.S_lower (Kd.S_new' (Kd.S_new' (Kd.S_new' ho0 (Kd.S_lt (S_l HO_7.out))) (Kd.S_lt (S_l HO_9.out))) (Kd.S_lt (S_l HO611.out))) (below_size (B_l HB.out))); have n4_ := Aside0.mk (below_step (B_l HB.out) hb); clear HO_7; clear HO_9; clear HO611; clear HB; have HO_7 := n0_; have HO_9 := n1_; have HO611 := n2_; have HO615 := n3_; have HB := n4_; clear n0_ n1_ n2_ n3_ n4_))
      go_ret
      exact ⟨by first | rfl | (simp [errW_none, errW_some] <;> rfl) | (simp [*, errW_none, errW_some] <;> rfl), B_l HB.out⟩
    ·replace c13 := Bool.eq_false_iff.mpr c13
     subst c13
     rw [if_neg (show ¬ (false = true) by decide)] at H
     obtain rfl := Option.some.inj H
     obtain ⟨Ao26, co26, eo26⟩ := Kd.S_slice HO_7.out
     subst eo26
     obtain ⟨Ao27, co27, eo27⟩ := Kd.S_slice HO_9.out
     subst eo27
     go_wp2_with (first | (refine gL 83 (some 36) Try.func83 #[.slice Ao26 t600.length co26, .slice Ao27 t604.length co27] ?_; (with_reducible refine (impl_TimesTable.calls kj5 _ _ t600 _ _ t604 t608 false _ ?side1 ?side2 ?side3 ?side4 A11.out).mono ?_); (case side1 => exact C_l ((Kd.S_reads' HO_7.out).2.2)); (case side2 => exact (Kd.S_reads' HO_7.out).2.1); (case side3 => exact C_l ((Kd.S_reads' HO_9.out).2.2)); (case side4 => exact (Kd.S_reads' HO_9.out).2.1); rintro e w28 ⟨v610, rfl, ho0, hb⟩; refine ⟨_, rfl, ?_⟩; have n0_ := Aside0.mk (Kd.S_elder' (S_l HO_7.out) (Kd.S_base ho0) hb); have n1_ := Aside0.mk (Kd.S_elder' (S_l HO_9.out) (Kd.S_base ho0) hb); have n2_ := Aside0.mk (Kd.S_lower (Kd.S_new' (Kd.S_new' ho0 (Kd.S_lt (S_l HO_7.out))) (Kd.S_lt (S_l HO_9.out))) (below_size (B_l HB.out))); have n3_ := Aside0.mk (below_step (B_l HB.out) hb); clear HO_7; clear HO_9; clear HB; have HO_7 := n0_; have HO_9 := n1_; have HO611 := n2_; have HB := n3_; clear n0_ n1_ n2_ n3_) | (refine gL 83 (some 42) Try.func83 #[.slice Ao27 t604.length co27, .slice Ao26 t600.length co26] ?_; (with_reducible refine (impl_TimesTable.calls kj5 _ _ t604 _ _ t600 t612 t613 _ ?side1 ?side2 ?side3 ?side4 A12.out).mono ?_); (case side1 => exact C_l ((Kd.S_reads' HO_9.out).2.2)); (case side2 => exact (Kd.S_reads' HO_9.out).2.1); (case side3 => exact C_l ((Kd.S_reads' HO_7.out).2.2)); (case side4 => exact (Kd.S_reads' HO_7.out).2.1); rintro e w29 ⟨v614, rfl, ho0, hb⟩; refine ⟨_, rfl, ?_⟩; have n0_ := Aside0.mk (Kd.S_elder' (S_l HO_7.out) (Kd.S_base ho0) hb); have n1_ := Aside0.mk (Kd.S_elder' (S_l HO_9.out) (Kd.S_base ho0) hb); have n2_ := Aside0.mk (Kd.S_elder' (S_l HO611.out) (Kd.S_base ho0) hb); have n3_ := Aside0.mk (Kd.S_lower (Kd.S_new' (Kd.S_new' (Kd.S_new' ho0 (Kd.S_lt (S_l HO_7.out))) (Kd.S_lt (S_l HO_9.out))) (Kd.S_lt (S_l HO611.out))) (below_size (B_l HB.out))); have n4_ := Aside0.mk (below_step (B_l HB.out) hb); clear HO_7; clear HO_9; clear HO611; clear HB; have HO_7 := n0_; have HO_9 := n1_; have HO611 := n2_; have HO615 := n3_; have HB := n4_; clear n0_ n1_ n2_ n3_ n4_))
     go_ret
     exact ⟨by first | rfl | (simp [errW_none, errW_some] <;> rfl) | (simp [*, errW_none, errW_some] <;> rfl), B_l HB.out⟩

end Go.Proofs.Ytimjefomgaaegaa.PFnTwists
