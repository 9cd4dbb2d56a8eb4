import Derived.Test.YtimjefomgaaegaaWLater
import Derived.Test.YtimjefomgaaegaaPFnTwistsx0
import Derived.Test.YtimjefomgaaegaaPFnTwistsx3
import Derived.Test.YtimjefomgaaegaaPFnTwistsx4
import Derived.Test.YtimjefomgaaegaaPFnTwistsx8
import Derived.Test.YtimjefomgaaegaaPFnTwistsx9
import Derived.Test.YtimjefomgaaegaaPFnTwistsx12
namespace Go.Proofs.Ytimjefomgaaegaa.PFnTwists
open Go.RowKit Go.Proofs.YtimjefomgaaegaaW.PrintWords Go.Proofs.YtimjefomgaaegaaW.PrintLast Go.Proofs.YtimjefomgaaegaaW.PrintMore
attribute [local go_sem] max2_int min2_int max_two min_two max_three min_three max_four min_four   -- for this text's walks alone
set_option linter.unusedVariables false
set_option linter.unusedSimpArgs false

/-! ### spec_l11Gcd: function 177 -/
def spec_l11Gcd.l0 : Nat → Int → Int → Option (Int)
 | 0, _, _ => none
 | k + 1, x0, x1 => if x1 = 0 then ((spec_l3Abs.f x0).bind fun t533 => (some t533)) else (spec_l11Gcd.l0 k x1 (Int.tmod x0 x1))
def spec_l11Gcd.f (k : Nat) (a0 : Int) (a1 : Int) : Option (Int) := spec_l11Gcd.l0 k a0 a1
set_option maxHeartbeats 8000000 in
set_option maxRecDepth 100000 in
theorem spec_l11Gcd.calls (k : Nat) (a0 : Int) (a1 : Int) (r : Int) (w : World) (h : spec_l11Gcd.f k a0 a1 = some r) :
  Calls Try.prog 177 #[.int .i64 a0, .int .i64 a1] w fun e w' => e = .returned (.int .i64 r) ∧ Drawn0 w w' := by
 have H : (spec_l11Gcd.l0 k a0 a1) = some r := h
 clear h
 have H' := Aside0.mk H
 clear H
 go_enter Try.func177, Try.ntmps177
 go_wp2
 go_loopg [0, 1] k (fun kq v0 v1 w' => ∃ (x0_1 : Int) (x1_1 : Int), v0 = .int .i64 x0_1 ∧ v1 = .int .i64 x1_1 ∧ Aside0 (spec_l11Gcd.l0 kq x0_1 x1_1 = some r) ∧ Aside0 (kq ≤ k) ∧ Drawn0 w w')
 case atStart => exact ⟨(a0), (a1), (by first | rfl | (simp; done) | (simp [*]; done)), (by first | rfl | (simp; done) | (simp [*]; done)), H', ⟨Nat.le_refl _⟩, by repeat (first | exact Drawn0.refl _ | apply Drawn0.step)⟩
 case round =>
  clear H'
  try clear c1
  try clear p2
  obtain ⟨x0_1, x1_1, rfl, rfl, HA, HK1, ⟨m1, rfl⟩⟩ := hrel
  cases gk with
  | zero => exact absurd HA.out (by simp [spec_l11Gcd.l0])
  | succ k1 =>
   have H := HA.out
   clear HA
   simp only [spec_l11Gcd.l0] at H
   by_cases c3 : x1_1 = 0
   ·rw [if_pos c3] at H
    have c3b0 : (x1_1 == 0) = true := beq_iff_eq.mpr c3
    have c3b1 : (x1_1 != 0) = false := bne_eq_false_iff_eq.mpr c3
    clear c3
    replace H := Option.bind_eq_some_iff.mp H
    obtain ⟨t533, A40, H⟩ := H
    have A4 := Aside0.mk A40
    clear A40
    obtain rfl := Option.some.inj H
    go_wp2_with (first | (refine gL 143 (some 14) Try.func143 #[.int .i64 x0_1] ?_; (with_reducible refine (spec_l3Abs.calls x0_1 t533 _ A4.out).mono ?_); rintro e w' ⟨rfl, ⟨nd, rfl⟩⟩; refine ⟨_, rfl, ?_⟩))
    go_ret
    exact ⟨by first | rfl | (simp; done) | (simp [*]; done), by repeat (first | exact Drawn0.refl _ | apply Drawn0.step)⟩
   ·rw [if_neg c3] at H
    have c3b0 : (x1_1 == 0) = false := beq_eq_false_iff_ne.mpr c3
    have c3b1 : (x1_1 != 0) = true := bne_iff_ne.mpr c3
    have H' := Aside0.mk H
    clear H
    go_wp2
    go_roundg k1
    case measure => have := HK1.out; omega
    case rel => exact ⟨(x1_1), (Int.tmod x0_1 x1_1), (by first | rfl | (simp; done) | (simp [*]; done)), (by first | rfl | (simp; done) | (simp [*]; done)), H', ⟨by have := HK1.out; omega⟩, by repeat (first | exact Drawn0.refl _ | apply Drawn0.step)⟩

/-! ### spec_IsPrimitiveClass: function 93 -/
def spec_IsPrimitiveClass.l0 : Nat → List Int → Int → Int → Option (Bool)
 | 0, _, _, _ => none
 | k + 1, x1, x5, x6 => if x6 < (x1.length : Int) then (if 0 ≤ x6 then ((spec_l11Gcd.f k x5 (rd x1 x6)).bind fun t536 => (spec_IsPrimitiveClass.l0 k x1 t536 (wrap64 (x6 + 1)))) else (none)) else (some (x5 == 1))
def spec_IsPrimitiveClass.f (k : Nat) (a0 : Int) (l1 : List Int) : Option (Bool) := (spec_IsClass.f k a0 l1).bind fun t534 => (if t534 = true then (spec_IsPrimitiveClass.l0 k l1 0 0) else (some false))
set_option maxHeartbeats 8000000 in
set_option maxRecDepth 100000 in
theorem spec_IsPrimitiveClass.calls (k : Nat) (a0 : Int) (A1 : Option Addr) (c1 : Nat) (l1 : List Int) (r : Bool) (w : World) (hr1 : Kd.C (Kd.int .i64) w A1 l1.length l1) (hc1 : l1.length ≤ c1) (h : spec_IsPrimitiveClass.f k a0 l1 = some r) :
  Calls Try.prog 93 #[.int .i64 a0, .slice A1 l1.length c1] w fun e w' => e = .returned (.bool r) ∧ Drawn0 w w' := by
 have HR1 := Aside0.mk hr1
 have HC1 := Aside0.mk hc1
 clear hr1 hc1
 have H : ((spec_IsClass.f k a0 l1).bind fun t534 => (if t534 = true then (spec_IsPrimitiveClass.l0 k l1 0 0) else (some false))) = some r := h
 clear h
 replace H := Option.bind_eq_some_iff.mp H
 obtain ⟨t534, A30, H⟩ := H
 have A3 := Aside0.mk A30
 clear A30
 by_cases c4 : t534 = true
 ·subst c4
  rw [if_pos rfl] at H
  have H' := Aside0.mk H
  clear H
  go_enter Try.func93, Try.ntmps93
  go_wp2_with (first | (refine gL 91 (some 9) Try.func91 #[.int .i64 a0, .slice A1 l1.length c1] ?_; (with_reducible refine (spec_IsClass.calls k a0 _ _ l1 true _ ?side1 ?side2 A3.out).mono ?_); (case side1 => exact C_l HR1.out); (case side2 => exact HC1.out); rintro e w' ⟨rfl, ⟨nd, rfl⟩⟩; refine ⟨_, rfl, ?_⟩))
  go_loopg [5, 6] k (fun kq v5 v6 w' => ∃ (x5_1 : Int) (x6_1 : Int), v5 = .int .i64 x5_1 ∧ v6 = .int .i64 x6_1 ∧ Aside0 (spec_IsPrimitiveClass.l0 kq l1 x5_1 x6_1 = some r) ∧ Aside0 (kq ≤ k) ∧ Drawn0 w w')
  case atStart => exact ⟨(0), (0), (by first | rfl | (simp; done) | (simp [*]; done)), (by first | rfl | (simp; done) | (simp [*]; done)), H', ⟨Nat.le_refl _⟩, by repeat (first | exact Drawn0.refl _ | apply Drawn0.step)⟩
  case round =>
   clear H'
   try clear c1
   try clear p2
   try clear c4
   obtain ⟨x5_1, x6_1, rfl, rfl, HA, HK1, ⟨m1, rfl⟩⟩ := hrel
   cases gk with
   | zero => exact absurd HA.out (by simp [spec_IsPrimitiveClass.l0])
   | succ k1 =>
    have H := HA.out
    clear HA
    simp only [spec_IsPrimitiveClass.l0] at H
    by_cases c5 : x6_1 < (l1.length : Int)
    ·rw [if_pos c5] at H
     have c5b0 : decide (x6_1 < (l1.length : Int)) = true := decide_eq_true c5
     clear c5
     by_cases c6 : 0 ≤ x6_1
     ·rw [if_pos c6] at H
      have c6b0 : decide (0 ≤ x6_1) = true := decide_eq_true c6
      clear c6
      replace H := Option.bind_eq_some_iff.mp H
      obtain ⟨t536, A70, H⟩ := H
      have A7 := Aside0.mk A70
      clear A70
      have H' := Aside0.mk H
      clear H
      have p535 : 0 ≤ (x6_1 : Int) := of_decide_eq_true (by first | (with_reducible assumption) | assumption)
      have q535 : x6_1 < (l1.length : Int) := of_decide_eq_true (by first | (with_reducible assumption) | assumption)
      obtain ⟨ad535, e535, hx535_0⟩ := Kd.at_int HR1.out x6_1 p535 q535
      cases e535
      replace p535 := eq_true p535
      replace q535 := eq_true q535
      go_wp2_with (first | (refine gL 177 (some 22) Try.func177 #[.int .i64 x5_1, .int .i64 (rd l1 x6_1)] ?_; (with_reducible refine (spec_l11Gcd.calls k1 x5_1 (rd l1 x6_1) t536 _ A7.out).mono ?_); rintro e w' ⟨rfl, ⟨nd, rfl⟩⟩; refine ⟨_, rfl, ?_⟩))
      go_roundg k1
      case measure => have := HK1.out; omega
      case rel => exact ⟨(t536), (wrap64 (x6_1 + 1)), (by first | rfl | (simp; done) | (simp [*]; done)), (by first | rfl | (simp; done) | (simp [*]; done)), H', ⟨by have := HK1.out; omega⟩, by repeat (first | exact Drawn0.refl _ | apply Drawn0.step)⟩
     ·rw [if_neg c6] at H
      exact absurd H (by simp)
    ·rw [if_neg c5] at H
     have c5b0 : decide (x6_1 < (l1.length : Int)) = false := decide_eq_false c5
     clear c5
     obtain rfl := Option.some.inj H
     go_wp2
     go_ret
     exact ⟨by first | rfl | (simp; done) | (simp [*]; done), by repeat (first | exact Drawn0.refl _ | apply Drawn0.step)⟩
 ·replace c4 := Bool.eq_false_iff.mpr c4
  subst c4
  rw [if_neg (show ¬ (false = true) by decide)] at H
  obtain rfl := Option.some.inj H
  go_enter Try.func93, Try.ntmps93
  go_wp2_with (first | (refine gL 91 (some 9) Try.func91 #[.int .i64 a0, .slice A1 l1.length c1] ?_; (with_reducible refine (spec_IsClass.calls k a0 _ _ l1 false _ ?side1 ?side2 A3.out).mono ?_); (case side1 => exact C_l HR1.out); (case side2 => exact HC1.out); rintro e w' ⟨rfl, ⟨nd, rfl⟩⟩; refine ⟨_, rfl, ?_⟩))
  go_ret
  exact ⟨by first | rfl | (simp; done) | (simp [*]; done), by repeat (first | exact Drawn0.refl _ | apply Drawn0.step)⟩

/-! ### impl_threeTimes: function 178 -/
def impl_threeTimes.f (k : Nat) (l0 : List (List Int)) (l1 : List (List Int)) (l2 : List (List Int)) : Option ((List (List Int)) × Bool) := (impl_TimesTable.f k l0 l1).bind fun bt537 => (if bt537.2 = true then ((impl_TimesTable.f k bt537.1 l2).bind fun bt541 => (some (bt541.1, bt541.2))) else (some (([] : List (List Int)), false)))
set_option maxHeartbeats 8000000 in
set_option maxRecDepth 100000 in
theorem impl_threeTimes.calls (k : Nat) (A0 : Option Addr) (c0 : Nat) (l0 : List (List Int)) (A1 : Option Addr) (c1 : Nat) (l1 : List (List Int)) (A2 : Option Addr) (c2 : Nat) (l2 : List (List Int)) (r1 : List (List Int)) (r2 : Bool) (w : World) (hr0 : Kd.C (Kd.slice 3 (Kd.int .i64)) w A0 l0.length l0) (hc0 : l0.length ≤ c0) (hr1 : Kd.C (Kd.slice 3 (Kd.int .i64)) w A1 l1.length l1) (hc1 : l1.length ≤ c1) (hr2 : Kd.C (Kd.slice 3 (Kd.int .i64)) w A2 l2.length l2) (hc2 : l2.length ≤ c2) (h : impl_threeTimes.f k l0 l1 l2 = some (r1, r2)) :
  Calls Try.prog 178 #[.slice A0 l0.length c0, .slice A1 l1.length c1, .slice A2 l2.length c2] w fun e w' => ∃ v0_ : Value, e = .returned (.tuple #[v0_, .bool r2]) ∧ Kd.S (Kd.slice 3 (Kd.int .i64)) 35 w' w.heap.size (fun _ => True) v0_ r1 ∧ Below w.heap.size w w' := by
 have HR0 := Aside0.mk hr0
 have HC0 := Aside0.mk hc0
 clear hr0 hc0
 have HR1 := Aside0.mk hr1
 have HC1 := Aside0.mk hc1
 clear hr1 hc1
 have HR2 := Aside0.mk hr2
 have HC2 := Aside0.mk hc2
 clear hr2 hc2
 have HB := Aside0.mk (Below.refl w.heap.size w)
 have H : ((impl_TimesTable.f k l0 l1).bind fun bt537 => (if bt537.2 = true then ((impl_TimesTable.f k bt537.1 l2).bind fun bt541 => (some (bt541.1, bt541.2))) else (some (([] : List (List Int)), false)))) = some (r1, r2) := h
 clear h
 replace H := Option.bind_eq_some_iff.mp H
 obtain ⟨⟨t537, t538⟩, A40, H⟩ := H
 replace H : (if t538 = true then ((impl_TimesTable.f k t537 l2).bind fun bt541 => (some (bt541.1, bt541.2))) else (some (([] : List (List Int)), false))) = some (r1, r2) := H
 have A4 := Aside0.mk A40
 clear A40
 by_cases c5 : t538 = true
 ·subst c5
  rw [if_pos rfl] at H
  replace H := Option.bind_eq_some_iff.mp H
  obtain ⟨⟨t541, t542⟩, A60, H⟩ := H
  replace H : (some (t541, t542)) = some (r1, r2) := H
  have A6 := Aside0.mk A60
  clear A60
  simp only [Option.some.injEq, Prod.mk.injEq] at H
  obtain ⟨rfl, rfl⟩ := H
  go_enter Try.func178, Try.ntmps178
  go_wp2_with (first | (refine gL 83 (some 13) Try.func83 #[.slice A0 l0.length c0, .slice A1 l1.length c1] ?_; (with_reducible refine (impl_TimesTable.calls k _ _ l0 _ _ l1 t537 true _ ?side1 ?side2 ?side3 ?side4 A4.out).mono ?_); (case side1 => exact C_l HR0.out); (case side2 => exact HC0.out); (case side3 => exact C_l HR1.out); (case side4 => exact HC1.out); rintro e w7 ⟨v539, rfl, ho0, hb⟩; refine ⟨_, rfl, ?_⟩; have n0_ := Aside0.mk (Kd.S_lower ho0 (below_size (B_l HB.out))); have n1_ := Aside0.mk (below_step (B_l HB.out) hb); clear HB; have HO540 := n0_; have HB := n1_; clear n0_ n1_; obtain ⟨Ao8, co8, eo8⟩ := Kd.S_slice HO540.out; subst eo8) | (refine gL 83 (some 20) Try.func83 #[.slice Ao8 t537.length co8, .slice A2 l2.length c2] ?_; (with_reducible refine (impl_TimesTable.calls k _ _ t537 _ _ l2 t541 t542 _ ?side1 ?side2 ?side3 ?side4 A6.out).mono ?_); (case side1 => exact C_l ((Kd.S_reads' HO540.out).2.2)); (case side2 => exact (Kd.S_reads' HO540.out).2.1); (case side3 => exact C_l (Kd.C_below HR2.out HB.out)); (case side4 => exact HC2.out); rintro e w9 ⟨v543, rfl, ho0, hb⟩; refine ⟨_, rfl, ?_⟩; have n0_ := Aside0.mk (Kd.S_elder' (S_l HO540.out) (Kd.S_base ho0) hb); have n1_ := Aside0.mk (Kd.S_lower (Kd.S_new' ho0 (Kd.S_lt (S_l HO540.out))) (below_size (B_l HB.out))); have n2_ := Aside0.mk (below_step (B_l HB.out) hb); clear HO540; clear HB; have HO540 := n0_; have HO544 := n1_; have HB := n2_; clear n0_ n1_ n2_))
  go_ret2
  exact ⟨_, by first | rfl | (simp [errW_none, errW_some] <;> rfl) | (simp [*, errW_none, errW_some] <;> rfl), S_l (Kd.S_mono HO544.out (fun _ hk => trivial)), B_l HB.out⟩
 ·replace c5 := Bool.eq_false_iff.mpr c5
  subst c5
  rw [if_neg (show ¬ (false = true) by decide)] at H
  simp only [Option.some.injEq, Prod.mk.injEq] at H
  obtain ⟨rfl, rfl⟩ := H
  go_enter Try.func178, Try.ntmps178
  go_wp2_with (first | (refine gL 83 (some 13) Try.func83 #[.slice A0 l0.length c0, .slice A1 l1.length c1] ?_; (with_reducible refine (impl_TimesTable.calls k _ _ l0 _ _ l1 t537 false _ ?side1 ?side2 ?side3 ?side4 A4.out).mono ?_); (case side1 => exact C_l HR0.out); (case side2 => exact HC0.out); (case side3 => exact C_l HR1.out); (case side4 => exact HC1.out); rintro e w10 ⟨v539, rfl, ho0, hb⟩; refine ⟨_, rfl, ?_⟩; have n0_ := Aside0.mk (Kd.S_lower ho0 (below_size (B_l HB.out))); have n1_ := Aside0.mk (below_step (B_l HB.out) hb); clear HB; have HO540 := n0_; have HB := n1_; clear n0_ n1_))
  go_ret2
  exact ⟨_, by first | rfl | (simp [errW_none, errW_some] <;> rfl) | (simp [*, errW_none, errW_some] <;> rfl), by first | exact Kd.S_nil _ _ _ _ _ | exact Kd.N_nil _ _ _ _ _ | exact Kd.V_nil _ _ _ _ _ | exact Kd.Q_nil _ _ _ _ _ | exact Kd.R_nil _ _ _ _ _, B_l HB.out⟩

/-! ### impl_sameInts: function 124 -/
def impl_sameInts.l0 : Nat → List Int → List Int → Int → Int → Option (Bool)
 | 0, _, _, _, _ => none
 | k + 1, x0, x1, x12, x13 => if x13 < x12 then (if 0 ≤ x13 then (if x13 < (x0.length : Int) then (if x13 < (x1.length : Int) then (if (rd x0 x13) = (rd x1 x13) then (impl_sameInts.l0 k x0 x1 x12 (wrap64 (x13 + 1))) else (some false)) else (none)) else (none)) else (none)) else (some true)
def impl_sameInts.f (k : Nat) (l0 : List Int) (l1 : List Int) : Option (Bool) := if (l0.length : Int) = (l1.length : Int) then (impl_sameInts.l0 k l0 l1 (l0.length : Int) 0) else (some false)
set_option maxHeartbeats 8000000 in
set_option maxRecDepth 100000 in
theorem impl_sameInts.calls (k : Nat) (A0 : Option Addr) (c0 : Nat) (l0 : List Int) (A1 : Option Addr) (c1 : Nat) (l1 : List Int) (r : Bool) (w : World) (hr0 : Kd.C (Kd.int .i64) w A0 l0.length l0) (hc0 : l0.length ≤ c0) (hr1 : Kd.C (Kd.int .i64) w A1 l1.length l1) (hc1 : l1.length ≤ c1) (h : impl_sameInts.f k l0 l1 = some r) :
  Calls Try.prog 124 #[.slice A0 l0.length c0, .slice A1 l1.length c1] w fun e w' => e = .returned (.bool r) ∧ Drawn0 w w' := by
 have HR0 := Aside0.mk hr0
 have HC0 := Aside0.mk hc0
 clear hr0 hc0
 have HR1 := Aside0.mk hr1
 have HC1 := Aside0.mk hc1
 clear hr1 hc1
 have H : (if (l0.length : Int) = (l1.length : Int) then (impl_sameInts.l0 k l0 l1 (l0.length : Int) 0) else (some false)) = some r := h
 clear h
 by_cases c3 : (l0.length : Int) = (l1.length : Int)
 ·rw [if_pos c3] at H
  have c3b0 : ((l0.length : Int) == (l1.length : Int)) = true := beq_iff_eq.mpr c3
  have c3b1 : ((l0.length : Int) != (l1.length : Int)) = false := bne_eq_false_iff_eq.mpr c3
  have c3b2 : (l0.length == l1.length) = true := by first | simpa using c3 | (simp at c3 ⊢; omega)
  clear c3
  have H' := Aside0.mk H
  clear H
  go_enter Try.func124, Try.ntmps124
  go_wp2
  repeat (go_quiet (fail); try go_wp2)
  go_loopg [13] k (fun kq v13 w' => ∃ (x13_1 : Int), v13 = .int .i64 x13_1 ∧ Aside0 (impl_sameInts.l0 kq l0 l1 (l0.length : Int) x13_1 = some r) ∧ Aside0 (kq ≤ k) ∧ Drawn0 w w')
  case atStart => exact ⟨(0), (by first | rfl | (simp; done) | (simp [*]; done)), H', ⟨Nat.le_refl _⟩, by repeat (first | exact Drawn0.refl _ | apply Drawn0.step)⟩
  case round =>
   clear H'
   try clear c1
   try clear p2
   try clear c3
   try clear c3b0
   try clear c3b1
   try clear c3b2
   obtain ⟨x13_1, rfl, HA, HK1, ⟨m1, rfl⟩⟩ := hrel
   cases gk with
   | zero => exact absurd HA.out (by simp [impl_sameInts.l0])
   | succ k1 =>
    have H := HA.out
    clear HA
    simp only [impl_sameInts.l0] at H
    by_cases c4 : x13_1 < (l0.length : Int)
    ·rw [if_pos c4] at H
     have c4b0 : decide (x13_1 < (l0.length : Int)) = true := decide_eq_true c4
     clear c4
     by_cases c5 : 0 ≤ x13_1
     ·rw [if_pos c5] at H
      have c5b0 : decide (0 ≤ x13_1) = true := decide_eq_true c5
      clear c5
      by_cases c6 : x13_1 < (l0.length : Int)
      ·rw [if_pos c6] at H
       have c6b0 : decide (x13_1 < (l0.length : Int)) = true := decide_eq_true c6
       clear c6
       by_cases c7 : x13_1 < (l1.length : Int)
       ·rw [if_pos c7] at H
        have c7b0 : decide (x13_1 < (l1.length : Int)) = true := decide_eq_true c7
        clear c7
        by_cases c8 : (rd l0 x13_1) = (rd l1 x13_1)
        ·rw [if_pos c8] at H
         have c8b0 : ((rd l0 x13_1) == (rd l1 x13_1)) = true := beq_iff_eq.mpr c8
         have c8b1 : ((rd l0 x13_1) != (rd l1 x13_1)) = false := bne_eq_false_iff_eq.mpr c8
         clear c8
         have H' := Aside0.mk H
         clear H
         have p545 : 0 ≤ (x13_1 : Int) := of_decide_eq_true (by first | (with_reducible assumption) | assumption)
         have q545 : x13_1 < (l0.length : Int) := of_decide_eq_true (by first | (with_reducible assumption) | assumption)
         obtain ⟨ad545, e545, hx545_0⟩ := Kd.at_int HR0.out x13_1 p545 q545
         cases e545
         replace p545 := eq_true p545
         replace q545 := eq_true q545
         have p546 : 0 ≤ (x13_1 : Int) := of_decide_eq_true (by first | (with_reducible assumption) | assumption)
         have q546 : x13_1 < (l1.length : Int) := of_decide_eq_true (by first | (with_reducible assumption) | assumption)
         obtain ⟨ad546, e546, hx546_0⟩ := Kd.at_int HR1.out x13_1 p546 q546
         cases e546
         replace p546 := eq_true p546
         replace q546 := eq_true q546
         go_wp2
         repeat (go_quiet (fail); try go_wp2)
         go_roundg k1
         case measure => have := HK1.out; omega
         case rel => exact ⟨(wrap64 (x13_1 + 1)), (by first | rfl | (simp; done) | (simp [*]; done)), H', ⟨by have := HK1.out; omega⟩, by repeat (first | exact Drawn0.refl _ | apply Drawn0.step)⟩
        ·rw [if_neg c8] at H
         have c8b0 : ((rd l0 x13_1) == (rd l1 x13_1)) = false := beq_eq_false_iff_ne.mpr c8
         have c8b1 : ((rd l0 x13_1) != (rd l1 x13_1)) = true := bne_iff_ne.mpr c8
         obtain rfl := Option.some.inj H
         have p545 : 0 ≤ (x13_1 : Int) := of_decide_eq_true (by first | (with_reducible assumption) | assumption)
         have q545 : x13_1 < (l0.length : Int) := of_decide_eq_true (by first | (with_reducible assumption) | assumption)
         obtain ⟨ad545, e545, hx545_0⟩ := Kd.at_int HR0.out x13_1 p545 q545
         cases e545
         replace p545 := eq_true p545
         replace q545 := eq_true q545
         have p546 : 0 ≤ (x13_1 : Int) := of_decide_eq_true (by first | (with_reducible assumption) | assumption)
         have q546 : x13_1 < (l1.length : Int) := of_decide_eq_true (by first | (with_reducible assumption) | assumption)
         obtain ⟨ad546, e546, hx546_0⟩ := Kd.at_int HR1.out x13_1 p546 q546
         cases e546
         replace p546 := eq_true p546
         replace q546 := eq_true q546
         go_wp2
         repeat (go_quiet (fail); try go_wp2)
         go_ret
         exact ⟨by first | rfl | (simp; done) | (simp [*]; done), by repeat (first | exact Drawn0.refl _ | apply Drawn0.step)⟩
       ·rw [if_neg c7] at H
        exact absurd H (by simp)
      ·rw [if_neg c6] at H
       exact absurd H (by simp)
     ·rw [if_neg c5] at H
      exact absurd H (by simp)
    ·rw [if_neg c4] at H
     have c4b0 : decide (x13_1 < (l0.length : Int)) = false := decide_eq_false c4
     clear c4
     obtain rfl := Option.some.inj H
     go_wp2
     repeat (go_quiet (fail); try go_wp2)
     go_ret
     exact ⟨by first | rfl | (simp; done) | (simp [*]; done), by repeat (first | exact Drawn0.refl _ | apply Drawn0.step)⟩
 ·rw [if_neg c3] at H
  have c3b0 : ((l0.length : Int) == (l1.length : Int)) = false := beq_eq_false_iff_ne.mpr c3
  have c3b1 : ((l0.length : Int) != (l1.length : Int)) = true := bne_iff_ne.mpr c3
  have c3b2 : (l0.length == l1.length) = false := by first | simpa using c3 | (simp at c3 ⊢; omega)
  obtain rfl := Option.some.inj H
  go_enter Try.func124, Try.ntmps124
  go_wp2
  repeat (go_quiet (fail); try go_wp2)
  go_ret
  exact ⟨by first | rfl | (simp; done) | (simp [*]; done), by repeat (first | exact Drawn0.refl _ | apply Drawn0.step)⟩

/-! ### impl_sameRows: function 179 -/
def impl_sameRows.l0 : Nat → List (List Int) → List (List Int) → Int → Int → Option (Bool)
 | 0, _, _, _, _ => none
 | k + 1, x0, x1, x12, x13 => if x13 < x12 then (if 0 ≤ x13 then (if x13 < (x0.length : Int) then (if x13 < (x1.length : Int) then ((impl_sameInts.f k (rd_L2 x0 x13) (rd_L2 x1 x13)).bind fun t549 => (if t549 = true then (impl_sameRows.l0 k x0 x1 x12 (wrap64 (x13 + 1))) else (some false))) else (none)) else (none)) else (none)) else (some true)
def impl_sameRows.f (k : Nat) (l0 : List (List Int)) (l1 : List (List Int)) : Option (Bool) := if (l0.length : Int) = (l1.length : Int) then (impl_sameRows.l0 k l0 l1 (l0.length : Int) 0) else (some false)
set_option maxHeartbeats 8000000 in
set_option maxRecDepth 100000 in
theorem impl_sameRows.calls (k : Nat) (A0 : Option Addr) (c0 : Nat) (l0 : List (List Int)) (A1 : Option Addr) (c1 : Nat) (l1 : List (List Int)) (r : Bool) (w : World) (hr0 : Kd.C (Kd.slice 3 (Kd.int .i64)) w A0 l0.length l0) (hc0 : l0.length ≤ c0) (hr1 : Kd.C (Kd.slice 3 (Kd.int .i64)) w A1 l1.length l1) (hc1 : l1.length ≤ c1) (h : impl_sameRows.f k l0 l1 = some r) :
  Calls Try.prog 179 #[.slice A0 l0.length c0, .slice A1 l1.length c1] w fun e w' => e = .returned (.bool r) ∧ Drawn0 w w' := by
 have HR0 := Aside0.mk hr0
 have HC0 := Aside0.mk hc0
 clear hr0 hc0
 have HR1 := Aside0.mk hr1
 have HC1 := Aside0.mk hc1
 clear hr1 hc1
 have H : (if (l0.length : Int) = (l1.length : Int) then (impl_sameRows.l0 k l0 l1 (l0.length : Int) 0) else (some false)) = some r := h
 clear h
 by_cases c3 : (l0.length : Int) = (l1.length : Int)
 ·rw [if_pos c3] at H
  have c3b0 : ((l0.length : Int) == (l1.length : Int)) = true := beq_iff_eq.mpr c3
  have c3b1 : ((l0.length : Int) != (l1.length : Int)) = false := bne_eq_false_iff_eq.mpr c3
  have c3b2 : (l0.length == l1.length) = true := by first | simpa using c3 | (simp at c3 ⊢; omega)
  clear c3
  have H' := Aside0.mk H
  clear H
  go_enter Try.func179, Try.ntmps179
  go_wp2
  repeat (go_quiet (fail); try go_wp2)
  go_loopg [13] k (fun kq v13 w' => ∃ (x13_1 : Int), v13 = .int .i64 x13_1 ∧ Aside0 (impl_sameRows.l0 kq l0 l1 (l0.length : Int) x13_1 = some r) ∧ Aside0 (kq ≤ k) ∧ Drawn0 w w')
  case atStart => exact ⟨(0), (by first | rfl | (simp; done) | (simp [*]; done)), H', ⟨Nat.le_refl _⟩, by repeat (first | exact Drawn0.refl _ | apply Drawn0.step)⟩
  case round =>
   clear H'
   try clear c1
   try clear p2
   try clear c3
   try clear c3b0
   try clear c3b1
   try clear c3b2
   obtain ⟨x13_1, rfl, HA, HK1, ⟨m1, rfl⟩⟩ := hrel
   cases gk with
   | zero => exact absurd HA.out (by simp [impl_sameRows.l0])
   | succ k1 =>
    have H := HA.out
    clear HA
    simp only [impl_sameRows.l0] at H
    by_cases c4 : x13_1 < (l0.length : Int)
    ·rw [if_pos c4] at H
     have c4b0 : decide (x13_1 < (l0.length : Int)) = true := decide_eq_true c4
     clear c4
     by_cases c5 : 0 ≤ x13_1
     ·rw [if_pos c5] at H
      have c5b0 : decide (0 ≤ x13_1) = true := decide_eq_true c5
      clear c5
      by_cases c6 : x13_1 < (l0.length : Int)
      ·rw [if_pos c6] at H
       have c6b0 : decide (x13_1 < (l0.length : Int)) = true := decide_eq_true c6
       clear c6
       by_cases c7 : x13_1 < (l1.length : Int)
       ·rw [if_pos c7] at H
        have c7b0 : decide (x13_1 < (l1.length : Int)) = true := decide_eq_true c7
        clear c7
        replace H := Option.bind_eq_some_iff.mp H
        obtain ⟨t549, A80, H⟩ := H
        have A8 := Aside0.mk A80
        clear A80
        by_cases c9 : t549 = true
        ·subst c9
         rw [if_pos rfl] at H
         have H' := Aside0.mk H
         clear H
         have p547 : 0 ≤ (x13_1 : Int) := of_decide_eq_true (by first | (with_reducible assumption) | assumption)
         have q547 : x13_1 < (l0.length : Int) := of_decide_eq_true (by first | (with_reducible assumption) | assumption)
         obtain ⟨ad547, A547_0, c547_0, e547, hx547_0, hl547_0, hi547_0⟩ := at_L2 HR0.out x13_1 p547 q547
         cases e547
         have HR547_0 := Aside0.mk hi547_0
         have HC547_0 := Aside0.mk hl547_0
         clear hi547_0 hl547_0
         replace p547 := eq_true p547
         replace q547 := eq_true q547
         have p548 : 0 ≤ (x13_1 : Int) := of_decide_eq_true (by first | (with_reducible assumption) | assumption)
         have q548 : x13_1 < (l1.length : Int) := of_decide_eq_true (by first | (with_reducible assumption) | assumption)
         obtain ⟨ad548, A548_0, c548_0, e548, hx548_0, hl548_0, hi548_0⟩ := at_L2 HR1.out x13_1 p548 q548
         cases e548
         have HR548_0 := Aside0.mk hi548_0
         have HC548_0 := Aside0.mk hl548_0
         clear hi548_0 hl548_0
         replace p548 := eq_true p548
         replace q548 := eq_true q548
         go_wp2_with fail
         repeat (go_quiet (first | (go_at_call 124; (with_reducible refine (impl_sameInts.calls k1 _ _ (rd_L2 l0 x13_1) _ _ (rd_L2 l1 x13_1) true _ ?side1 ?side2 ?side3 ?side4 A8.out).mono ?_); (case side1 => exact C_l HR547_0.out); (case side2 => exact HC547_0.out); (case side3 => exact C_l HR548_0.out); (case side4 => exact HC548_0.out); rintro e w' ⟨rfl, ⟨nd, rfl⟩⟩; (try first | exact ⟨rfl, _, World.drewN_drewN _ _ _⟩ | exact ⟨rfl, _, Eq.trans (World.drewN_drewN _ _ _) (congrArg (World.drewN _) (Nat.add_assoc _ _ _))⟩))); try go_wp2_with fail)
         go_roundg k1
         case measure => have := HK1.out; omega
         case rel => exact ⟨(wrap64 (x13_1 + 1)), (by first | rfl | (simp; done) | (simp [*]; done)), H', ⟨by have := HK1.out; omega⟩, by repeat (first | exact Drawn0.refl _ | apply Drawn0.step)⟩
        ·replace c9 := Bool.eq_false_iff.mpr c9
         subst c9
         rw [if_neg (show ¬ (false = true) by decide)] at H
         obtain rfl := Option.some.inj H
         have p547 : 0 ≤ (x13_1 : Int) := of_decide_eq_true (by first | (with_reducible assumption) | assumption)
         have q547 : x13_1 < (l0.length : Int) := of_decide_eq_true (by first | (with_reducible assumption) | assumption)
         obtain ⟨ad547, A547_0, c547_0, e547, hx547_0, hl547_0, hi547_0⟩ := at_L2 HR0.out x13_1 p547 q547
         cases e547
         have HR547_0 := Aside0.mk hi547_0
         have HC547_0 := Aside0.mk hl547_0
         clear hi547_0 hl547_0
         replace p547 := eq_true p547
         replace q547 := eq_true q547
         have p548 : 0 ≤ (x13_1 : Int) := of_decide_eq_true (by first | (with_reducible assumption) | assumption)
         have q548 : x13_1 < (l1.length : Int) := of_decide_eq_true (by first | (with_reducible assumption) | assumption)
         obtain ⟨ad548, A548_0, c548_0, e548, hx548_0, hl548_0, hi548_0⟩ := at_L2 HR1.out x13_1 p548 q548
         cases e548
         have HR548_0 := Aside0.mk hi548_0
         have HC548_0 := Aside0.mk hl548_0
         clear hi548_0 hl548_0
         replace p548 := eq_true p548
         replace q548 := eq_true q548
         go_wp2_with fail
         repeat (go_quiet (first | (go_at_call 124; (with_reducible refine (impl_sameInts.calls k1 _ _ (rd_L2 l0 x13_1) _ _ (rd_L2 l1 x13_1) false _ ?side1 ?side2 ?side3 ?side4 A8.out).mono ?_); (case side1 => exact C_l HR547_0.out); (case side2 => exact HC547_0.out); (case side3 => exact C_l HR548_0.out); (case side4 => exact HC548_0.out); rintro e w' ⟨rfl, ⟨nd, rfl⟩⟩; (try first | exact ⟨rfl, _, World.drewN_drewN _ _ _⟩ | exact ⟨rfl, _, Eq.trans (World.drewN_drewN _ _ _) (congrArg (World.drewN _) (Nat.add_assoc _ _ _))⟩))); try go_wp2_with fail)
         go_ret
         exact ⟨by first | rfl | (simp; done) | (simp [*]; done), by repeat (first | exact Drawn0.refl _ | apply Drawn0.step)⟩
       ·rw [if_neg c7] at H
        exact absurd H (by simp)
      ·rw [if_neg c6] at H
       exact absurd H (by simp)
     ·rw [if_neg c5] at H
      exact absurd H (by simp)
    ·rw [if_neg c4] at H
     have c4b0 : decide (x13_1 < (l0.length : Int)) = false := decide_eq_false c4
     clear c4
     obtain rfl := Option.some.inj H
     go_wp2
     repeat (go_quiet (fail); try go_wp2)
     go_ret
     exact ⟨by first | rfl | (simp; done) | (simp [*]; done), by repeat (first | exact Drawn0.refl _ | apply Drawn0.step)⟩
 ·rw [if_neg c3] at H
  have c3b0 : ((l0.length : Int) == (l1.length : Int)) = false := beq_eq_false_iff_ne.mpr c3
  have c3b1 : ((l0.length : Int) != (l1.length : Int)) = true := bne_iff_ne.mpr c3
  have c3b2 : (l0.length == l1.length) = false := by first | simpa using c3 | (simp at c3 ⊢; omega)
  obtain rfl := Option.some.inj H
  go_enter Try.func179, Try.ntmps179
  go_wp2
  repeat (go_quiet (fail); try go_wp2)
  go_ret
  exact ⟨by first | rfl | (simp; done) | (simp [*]; done), by repeat (first | exact Drawn0.refl _ | apply Drawn0.step)⟩

/-! ### impl_BraidHolds: function 94 -/
def impl_BraidHolds.j0 : Nat → List (List Int) → List (List Int) → Bool → Option (Bool)
 | 0, _, _, _ => none
 | k + 1, x7, x9, x32 => if x32 = true then (some false) else ((impl_threeTimes.f k x7 x9 x7).bind fun bt558 => ((impl_threeTimes.f k x9 x7 x9).bind fun bt562 => (if bt558.2 = true then (if bt562.2 = true then ((impl_sameRows.f k bt558.1 bt562.1).bind fun t566 => (some t566)) else (some false)) else (some false))))
def impl_BraidHolds.f (k : Nat) (a0 : Int) (l1 : List Int) (l2 : List Int) : Option (Bool) := (impl_TwistMatrix.f k a0 l1).bind fun bt550 => ((impl_TwistMatrix.f k a0 l2).bind fun bt554 => (if bt550.2 = true then (impl_BraidHolds.j0 k bt550.1 bt554.1 (!bt554.2)) else (impl_BraidHolds.j0 k bt550.1 bt554.1 true)))
set_option maxHeartbeats 8000000 in
set_option maxRecDepth 100000 in
theorem impl_BraidHolds.calls (k : Nat) (a0 : Int) (A1 : Option Addr) (c1 : Nat) (l1 : List Int) (A2 : Option Addr) (c2 : Nat) (l2 : List Int) (r : Bool) (w : World) (hr1 : Kd.C (Kd.int .i64) w A1 l1.length l1) (hc1 : l1.length ≤ c1) (hr2 : Kd.C (Kd.int .i64) w A2 l2.length l2) (hc2 : l2.length ≤ c2) (h : impl_BraidHolds.f k a0 l1 l2 = some r) :
  Calls Try.prog 94 #[.int .i64 a0, .slice A1 l1.length c1, .slice A2 l2.length c2] w fun e w' => e = .returned (.bool r) ∧ Below w.heap.size w w' := by
 have HR1 := Aside0.mk hr1
 have HC1 := Aside0.mk hc1
 clear hr1 hc1
 have HR2 := Aside0.mk hr2
 have HC2 := Aside0.mk hc2
 clear hr2 hc2
 have HB := Aside0.mk (Below.refl w.heap.size w)
 have H : ((impl_TwistMatrix.f k a0 l1).bind fun bt550 => ((impl_TwistMatrix.f k a0 l2).bind fun bt554 => (if bt550.2 = true then (impl_BraidHolds.j0 k bt550.1 bt554.1 (!bt554.2)) else (impl_BraidHolds.j0 k bt550.1 bt554.1 true)))) = some r := h
 clear h
 replace H := Option.bind_eq_some_iff.mp H
 obtain ⟨⟨t550, t551⟩, A40, H⟩ := H
 replace H : ((impl_TwistMatrix.f k a0 l2).bind fun bt554 => (if t551 = true then (impl_BraidHolds.j0 k t550 bt554.1 (!bt554.2)) else (impl_BraidHolds.j0 k t550 bt554.1 true))) = some r := H
 have A4 := Aside0.mk A40
 clear A40
 replace H := Option.bind_eq_some_iff.mp H
 obtain ⟨⟨t554, t555⟩, A50, H⟩ := H
 replace H : (if t551 = true then (impl_BraidHolds.j0 k t550 t554 (!t555)) else (impl_BraidHolds.j0 k t550 t554 true)) = some r := H
 have A5 := Aside0.mk A50
 clear A50
 have HC6 := Aside0.mk H
 clear H
 go_enter Try.func94, Try.ntmps94
 go_upto_region 3 with (first | (refine gL 77 (some 18) Try.func77 #[.int .i64 a0, .slice A1 l1.length c1] ?_; (with_reducible refine (impl_TwistMatrix.calls k a0 _ _ l1 t550 t551 _ ?side1 ?side2 A4.out).mono ?_); (case side1 => exact C_l HR1.out); (case side2 => exact HC1.out); rintro e w7 ⟨v552, rfl, ho0, hb⟩; refine ⟨_, rfl, ?_⟩; have n0_ := Aside0.mk (Kd.S_lower ho0 (below_size (B_l HB.out))); have n1_ := Aside0.mk (below_step (B_l HB.out) hb); clear HB; have HO553 := n0_; have HB := n1_; clear n0_ n1_) | (refine gL 77 (some 24) Try.func77 #[.int .i64 a0, .slice A2 l2.length c2] ?_; (with_reducible refine (impl_TwistMatrix.calls k a0 _ _ l2 t554 t555 _ ?side1 ?side2 A5.out).mono ?_); (case side1 => exact C_l (Kd.C_below HR2.out HB.out)); (case side2 => exact HC2.out); rintro e w8 ⟨v556, rfl, ho0, hb⟩; refine ⟨_, rfl, ?_⟩; have n0_ := Aside0.mk (Kd.S_elder' (S_l HO553.out) (Kd.S_base ho0) hb); have n1_ := Aside0.mk (Kd.S_lower (Kd.S_new' ho0 (Kd.S_lt (S_l HO553.out))) (below_size (B_l HB.out))); have n2_ := Aside0.mk (below_step (B_l HB.out) hb); clear HO553; clear HB; have HO553 := n0_; have HO557 := n1_; have HB := n2_; clear n0_ n1_ n2_))
 (try simp only [Act.put, List.setIfInBounds_toArray, List.set_cons_zero, List.set_cons_succ])
 go_cut [32] (fun v32 wc => ∃ (kq : Nat) (x32_5 : Bool), v32 = .bool x32_5 ∧ Aside0 (impl_BraidHolds.j0 kq t550 t554 x32_5 = some r) ∧ Aside0 (kq ≤ k) ∧ Aside0 (Kd.S (Kd.slice 3 (Kd.int .i64)) 35 wc w.heap.size (fun k_ => some k_ ≠ (v556 : Value).ownBlock) v552 t550) ∧ Aside0 (Kd.S (Kd.slice 3 (Kd.int .i64)) 35 wc w.heap.size (fun k_ => some k_ ≠ (v552 : Value).ownBlock) v556 t554) ∧ Aside0 (Below w.heap.size w wc))
 case first =>
  have H := HC6.out
  clear HC6
  by_cases c9 : t551 = true
  ·subst c9
   rw [if_pos rfl] at H
   have H' := Aside0.mk H
   clear H
   go_wp2
   go_meet
   case rel => exact ⟨_, (!t555), (by first | rfl | (simp; done) | (simp [*]; done)), H', ⟨by first | omega | exact Nat.le_refl _⟩, ⟨S_l (Kd.S_mono HO553.out (fun _ hk => hk.2))⟩, ⟨S_l (Kd.S_mono HO557.out (fun _ hk => hk.2))⟩, ⟨B_l HB.out⟩⟩
  ·replace c9 := Bool.eq_false_iff.mpr c9
   subst c9
   rw [if_neg (show ¬ (false = true) by decide)] at H
   have H' := Aside0.mk H
   clear H
   go_wp2
   go_meet
   case rel => exact ⟨_, (true), (by first | rfl | (simp; done) | (simp [*]; done)), H', ⟨by first | omega | exact Nat.le_refl _⟩, ⟨S_l (Kd.S_mono HO553.out (fun _ hk => hk.2))⟩, ⟨S_l (Kd.S_mono HO557.out (fun _ hk => hk.2))⟩, ⟨B_l HB.out⟩⟩
 case rest =>
  clear HC6
  try clear c1
  try clear c2
  try clear p2
  try clear c7
  try clear c9
  obtain ⟨kq, x32_5, rfl, HA, HJ5, HO_7, HO_9, HB⟩ := hcut
  cases kq with
  | zero => exact absurd HA.out (by simp [impl_BraidHolds.j0])
  | succ kj5 =>
   have H := HA.out
   clear HA
   simp only [impl_BraidHolds.j0] at H
   by_cases c10 : x32_5 = true
   ·subst c10
    rw [if_pos rfl] at H
    obtain rfl := Option.some.inj H
    go_wp2
    go_ret
    exact ⟨by first | rfl | (simp [errW_none, errW_some] <;> rfl) | (simp [*, errW_none, errW_some] <;> rfl), B_l HB.out⟩
   ·replace c10 := Bool.eq_false_iff.mpr c10
    subst c10
    rw [if_neg (show ¬ (false = true) by decide)] at H
    replace H := Option.bind_eq_some_iff.mp H
    obtain ⟨⟨t558, t559⟩, A110, H⟩ := H
    replace H : ((impl_threeTimes.f kj5 t554 t550 t554).bind fun bt562 => (if t559 = true then (if bt562.2 = true then ((impl_sameRows.f kj5 t558 bt562.1).bind fun t566 => (some t566)) else (some false)) else (some false))) = some r := H
    have A11 := Aside0.mk A110
    clear A110
    replace H := Option.bind_eq_some_iff.mp H
    obtain ⟨⟨t562, t563⟩, A120, H⟩ := H
    replace H : (if t559 = true then (if t563 = true then ((impl_sameRows.f kj5 t558 t562).bind fun t566 => (some t566)) else (some false)) else (some false)) = some r := H
    have A12 := Aside0.mk A120
    clear A120
    by_cases c13 : t559 = true
    ·subst c13
     rw [if_pos rfl] at H
     by_cases c14 : t563 = true
     ·subst c14
      rw [if_pos rfl] at H
      replace H := Option.bind_eq_some_iff.mp H
      obtain ⟨t566, A150, H⟩ := H
      have A15 := Aside0.mk A150
      clear A150
      obtain rfl := Option.some.inj H
      obtain ⟨Ao16, co16, eo16⟩ := Kd.S_slice HO_7.out
      subst eo16
      obtain ⟨Ao17, co17, eo17⟩ := Kd.S_slice HO_9.out
      subst eo17
      go_wp2_with (first | (refine gL 178 (some 37) Try.func178 #[.slice Ao16 t550.length co16, .slice Ao17 t554.length co17, .slice Ao16 t550.length co16] ?_; (with_reducible refine (impl_threeTimes.calls kj5 _ _ t550 _ _ t554 _ _ t550 t558 true _ ?side1 ?side2 ?side3 ?side4 ?side5 ?side6 A11.out).mono ?_); (case side1 => exact C_l ((Kd.S_reads' HO_7.out).2.2)); (case side2 => exact (Kd.S_reads' HO_7.out).2.1); (case side3 => exact C_l ((Kd.S_reads' HO_9.out).2.2)); (case side4 => exact (Kd.S_reads' HO_9.out).2.1); (case side5 => exact C_l ((Kd.S_reads' HO_7.out).2.2)); (case side6 => exact (Kd.S_reads' HO_7.out).2.1); rintro e w18 ⟨v560, rfl, ho0, hb⟩; refine ⟨_, rfl, ?_⟩; have n0_ := Aside0.mk (Kd.S_elder' (S_l HO_7.out) (Kd.S_base ho0) hb); have n1_ := Aside0.mk (Kd.S_elder' (S_l HO_9.out) (Kd.S_base ho0) hb); have n2_ := Aside0.mk (Kd.S_lower (Kd.S_new' (Kd.S_new' ho0 (Kd.S_lt (S_l HO_7.out))) (Kd.S_lt (S_l HO_9.out))) (below_size (B_l HB.out))); have n3_ := Aside0.mk (below_step (B_l HB.out) hb); clear HO_7; clear HO_9; clear HB; have HO_7 := n0_; have HO_9 := n1_; have HO561 := n2_; have HB := n3_; clear n0_ n1_ n2_ n3_) | (refine gL 178 (some 44) Try.func178 #[.slice Ao17 t554.length co17, .slice Ao16 t550.length co16, .slice Ao17 t554.length co17] ?_; (with_reducible refine (impl_threeTimes.calls kj5 _ _ t554 _ _ t550 _ _ t554 t562 true _ ?side1 ?side2 ?side3 ?side4 ?side5 ?side6 A12.out).mono ?_); (case side1 => exact C_l ((Kd.S_reads' HO_9.out).2.2)); (case side2 => exact (Kd.S_reads' HO_9.out).2.1); (case side3 => exact C_l ((Kd.S_reads' HO_7.out).2.2)); (case side4 => exact (Kd.S_reads' HO_7.out).2.1); (case side5 => exact C_l ((Kd.S_reads' HO_9.out).2.2)); (case side6 => exact (Kd.S_reads' HO_9.out).2.1); rintro e w19 ⟨v564, rfl, ho0, hb⟩; refine ⟨_, rfl, ?_⟩; have n0_ := Aside0.mk (Kd.S_elder' (S_l HO_7.out) (Kd.S_base ho0) hb); have n1_ := Aside0.mk (Kd.S_elder' (S_l HO_9.out) (Kd.S_base ho0) hb); have n2_ := Aside0.mk (Kd.S_elder' (S_l HO561.out) (Kd.S_base ho0) hb); have n3_ := Aside0.mk (Kd.S_lower (Kd.S_new' (Kd.S_new' (Kd.S_new' ho0 (Kd.S_lt (S_l HO_7.out))) (Kd.S_lt (S_l HO_9.out))) (Kd.S_lt (S_l HO561.out))) (below_size (B_l HB.out))); have n4_ := Aside0.mk (below_step (B_l HB.out) hb); clear HO_7; clear HO_9; clear HO561; clear HB; have HO_7 := n0_; have HO_9 := n1_; have HO561 := n2_; have HO565 := n3_; have HB := n4_; clear n0_ n1_ n2_ n3_ n4_; obtain ⟨Ao20, co20, eo20⟩ := Kd.S_slice HO561.out; subst eo20; obtain ⟨Ao21, co21, eo21⟩ := Kd.S_slice HO565.out; subst eo21) | (go_at_call 179; (with_reducible refine (impl_sameRows.calls kj5 _ _ t558 _ _ t562 t566 _ ?side1 ?side2 ?side3 ?side4 A15.out).mono ?_); (case side1 => exact C_l ((Kd.S_reads' HO561.out).2.2)); (case side2 => exact (Kd.S_reads' HO561.out).2.1); (case side3 => exact C_l ((Kd.S_reads' HO565.out).2.2)); (case side4 => exact (Kd.S_reads' HO565.out).2.1); rintro e w' ⟨rfl, ⟨nd, rfl⟩⟩))
      go_ret
      exact ⟨by first | rfl | (simp [errW_none, errW_some] <;> rfl) | (simp [*, errW_none, errW_some] <;> rfl), B_l HB.out⟩
     ·replace c14 := Bool.eq_false_iff.mpr c14
      subst c14
      rw [if_neg (show ¬ (false = true) by decide)] at H
      obtain rfl := Option.some.inj H
      obtain ⟨Ao22, co22, eo22⟩ := Kd.S_slice HO_7.out
      subst eo22
      obtain ⟨Ao23, co23, eo23⟩ := Kd.S_slice HO_9.out
      subst eo23
      go_wp2_with (first | (refine gL 178 (some 37) Try.func178 #[.slice Ao22 t550.length co22, .slice Ao23 t554.length co23, .slice Ao22 t550.length co22] ?_; (with_reducible refine (impl_threeTimes.calls kj5 _ _ t550 _ _ t554 _ _ t550 t558 true _ ?side1 ?side2 ?side3 ?side4 ?side5 ?side6 A11.out).mono ?_); (case side1 => exact C_l ((Kd.S_reads' HO_7.out).2.2)); (case side2 => exact (Kd.S_reads' HO_7.out).2.1); (case side3 => exact C_l ((Kd.S_reads' HO_9.out).2.2)); (case side4 => exact (Kd.S_reads' HO_9.out).2.1); (case side5 => exact C_l ((Kd.S_reads' HO_7.out).2.2)); (case side6 => exact (Kd.S_reads' HO_7.out).2.1); rintro e w24 ⟨v560, rfl, ho0, hb⟩; refine ⟨_, rfl, ?_⟩; have n0_ := Aside0.mk (Kd.S_elder' (S_l HO_7.out) (Kd.S_base ho0) hb); have n1_ := Aside0.mk (Kd.S_elder' (S_l HO_9.out) (Kd.S_base ho0) hb); have n2_ := Aside0.mk (Kd.S_lower (Kd.S_new' (Kd.S_new' ho0 (Kd.S_lt (S_l HO_7.out))) (Kd.S_lt (S_l HO_9.out))) (below_size (B_l HB.out))); have n3_ := Aside0.mk (below_step (B_l HB.out) hb); clear HO_7; clear HO_9; clear HB; have HO_7 := n0_; have HO_9 := n1_; have HO561 := n2_; have HB := n3_; clear n0_ n1_ n2_ n3_) | (refine gL 178 (some 44) Try.func178 #[.slice Ao23 t554.length co23, .slice Ao22 t550.length co22, .slice Ao23 t554.length co23] ?_; (with_reducible refine (impl_threeTimes.calls kj5 _ _ t554 _ _ t550 _ _ t554 t562 false _ ?side1 ?side2 ?side3 ?side4 ?side5 ?side6 A12.out).mono ?_); (case side1 => exact C_l ((Kd.S_reads' HO_9.out).2.2)); (case side2 => exact (Kd.S_reads' HO_9.out).2.1); (case side3 => exact C_l ((Kd.S_reads' HO_7.out).2.2)); (case side4 => exact (Kd.S_reads' HO_7.out).2.1); (case side5 => exact C_l ((Kd.S_reads' HO_9.out).2.2)); (case side6 => exact (Kd.S_reads' HO_9.out).2.1); rintro e w25 ⟨v564, rfl, ho0, hb⟩; refine ⟨_, rfl, ?_⟩; have n0_ := Aside0.mk (Kd.S_elder' (S_l HO_7.out) (Kd.S_base ho0) hb); have n1_ := Aside0.mk (Kd.S_elder' (S_l HO_9.out) (Kd.S_base ho0) hb); have n2_ := Aside0.mk (Kd.S_elder' (S_l HO561.out) (Kd.S_base ho0) hb); have n3_ := Aside0.mk (Kd.S_lower (Kd.S_new' (Kd.S_new' (Kd.S_new' ho0 (Kd.S_lt (S_l HO_7.out))) (Kd.S_lt (S_l HO_9.out))) (Kd.S_lt (S_l HO561.out))) (below_size (B_l HB.out))); have n4_ := Aside0.mk (below_step (B_l HB.out) hb); clear HO_7; clear HO_9; clear HO561; clear HB; have HO_7 := n0_; have HO_9 := n1_; have HO561 := n2_; have HO565 := n3_; have HB := n4_; clear n0_ n1_ n2_ n3_ n4_))
      go_ret
      exact ⟨by first | rfl | (simp [errW_none, errW_some] <;> rfl) | (simp [*, errW_none, errW_some] <;> rfl), B_l HB.out⟩
    ·replace c13 := Bool.eq_false_iff.mpr c13
     subst c13
     rw [if_neg (show ¬ (false = true) by decide)] at H
     obtain rfl := Option.some.inj H
     obtain ⟨Ao26, co26, eo26⟩ := Kd.S_slice HO_7.out
     subst eo26
     obtain ⟨Ao27, co27, eo27⟩ := Kd.S_slice HO_9.out
     subst eo27
     go_wp2_with (first | (refine gL 178 (some 37) Try.func178 #[.slice Ao26 t550.length co26, .slice Ao27 t554.length co27, .slice Ao26 t550.length co26] ?_; (with_reducible refine (impl_threeTimes.calls kj5 _ _ t550 _ _ t554 _ _ t550 t558 false _ ?side1 ?side2 ?side3 ?side4 ?side5 ?side6 A11.out).mono ?_); (case side1 => exact C_l ((Kd.S_reads' HO_7.out).2.2)); (case side2 => exact (Kd.S_reads' HO_7.out).2.1); (case side3 => exact C_l ((Kd.S_reads' HO_9.out).2.2)); (case side4 => exact (Kd.S_reads' HO_9.out).2.1); (case side5 => exact C_l ((Kd.S_reads' HO_7.out).2.2)); (case side6 => exact (Kd.S_reads' HO_7.out).2.1); rintro e w28 ⟨v560, rfl, ho0, hb⟩; refine ⟨_, rfl, ?_⟩; have n0_ := Aside0.mk (Kd.S_elder' (S_l HO_7.out) (Kd.S_base ho0) hb); have n1_ := Aside0.mk (Kd.S_elder' (S_l HO_9.out) (Kd.S_base ho0) hb); have n2_ := Aside0.mk (Kd.S_lower (Kd.S_new' (Kd.S_new' ho0 (Kd.S_lt (S_l HO_7.out))) (Kd.S_lt (S_l HO_9.out))) (below_size (B_l HB.out))); have n3_ := Aside0.mk (below_step (B_l HB.out) hb); clear HO_7; clear HO_9; clear HB; have HO_7 := n0_; have HO_9 := n1_; have HO561 := n2_; have HB := n3_; clear n0_ n1_ n2_ n3_) | (refine gL 178 (some 44) Try.func178 #[.slice Ao27 t554.length co27, .slice Ao26 t550.length co26, .slice Ao27 t554.length co27] ?_; (with_reducible refine (impl_threeTimes.calls kj5 _ _ t554 _ _ t550 _ _ t554 t562 t563 _ ?side1 ?side2 ?side3 ?side4 ?side5 ?side6 A12.out).mono ?_); (case side1 => exact C_l ((Kd.S_reads' HO_9.out).2.2)); (case side2 => exact (Kd.S_reads' HO_9.out).2.1); (case side3 => exact C_l ((Kd.S_reads' HO_7.out).2.2)); (case side4 => exact (Kd.S_reads' HO_7.out).2.1); (case side5 => exact C_l ((Kd.S_reads' HO_9.out).2.2)); (case side6 => exact (Kd.S_reads' HO_9.out).2.1); rintro e w29 ⟨v564, rfl, ho0, hb⟩; refine ⟨_, rfl, ?_⟩; have n0_ := Aside0.mk (Kd.S_elder' (S_l HO_7.out) (Kd.S_base ho0) hb); have n1_ := Aside0.mk (Kd.S_elder' (S_l HO_9.out) (Kd.S_base ho0) hb); have n2_ := Aside0.mk (Kd.S_elder' (S_l HO561.out) (Kd.S_base ho0) hb); have n3_ := Aside0.mk (Kd.S_lower (Kd.S_new' (Kd.S_new' (Kd.S_new' ho0 (Kd.S_lt (S_l HO_7.out))) (Kd.S_lt (S_l HO_9.out))) (Kd.S_lt (S_l HO561.out))) (below_size (B_l HB.out))); have n4_ := Aside0.mk (below_step (B_l HB.out) hb); clear HO_7; clear HO_9; clear HO561; clear HB; have HO_7 := n0_; have HO_9 := n1_; have HO561 := n2_; have HO565 := n3_; have HB := n4_; clear n0_ n1_ n2_ n3_ n4_))
     go_ret
     exact ⟨by first | rfl | (simp [errW_none, errW_some] <;> rfl) | (simp [*, errW_none, errW_some] <;> rfl), B_l HB.out⟩

/-! ### spec_l11Three: function 180 -/
def spec_l11Three.f (k : Nat) (l0 : List (List Int)) (l1 : List (List Int)) (l2 : List (List Int)) : Option ((List (List Int)) × Bool) := (spec_TimesTable.f k l0 l1).bind fun bt567 => (if bt567.2 = true then ((spec_TimesTable.f k bt567.1 l2).bind fun bt571 => (some (bt571.1, bt571.2))) else (some ((([] : List (List Int))), false)))
set_option maxHeartbeats 8000000 in
set_option maxRecDepth 100000 in
theorem spec_l11Three.calls (k : Nat) (A0 : Option Addr) (c0 : Nat) (l0 : List (List Int)) (A1 : Option Addr) (c1 : Nat) (l1 : List (List Int)) (A2 : Option Addr) (c2 : Nat) (l2 : List (List Int)) (r1 : List (List Int)) (r2 : Bool) (w : World) (hr0 : Kd.C (Kd.slice 3 (Kd.int .i64)) w A0 l0.length l0) (hc0 : l0.length ≤ c0) (hr1 : Kd.C (Kd.slice 3 (Kd.int .i64)) w A1 l1.length l1) (hc1 : l1.length ≤ c1) (hr2 : Kd.C (Kd.slice 3 (Kd.int .i64)) w A2 l2.length l2) (hc2 : l2.length ≤ c2) (h : spec_l11Three.f k l0 l1 l2 = some (r1, r2)) :
  Calls Try.prog 180 #[.slice A0 l0.length c0, .slice A1 l1.length c1, .slice A2 l2.length c2] w fun e w' => ∃ v0_ : Value, e = .returned (.tuple #[v0_, .bool r2]) ∧ Kd.S (Kd.slice 3 (Kd.int .i64)) 35 w' w.heap.size (fun _ => True) v0_ r1 ∧ Below w.heap.size w w' := by
 have HR0 := Aside0.mk hr0
 have HC0 := Aside0.mk hc0
 clear hr0 hc0
 have HR1 := Aside0.mk hr1
 have HC1 := Aside0.mk hc1
 clear hr1 hc1
 have HR2 := Aside0.mk hr2
 have HC2 := Aside0.mk hc2
 clear hr2 hc2
 have HB := Aside0.mk (Below.refl w.heap.size w)
 have H : ((spec_TimesTable.f k l0 l1).bind fun bt567 => (if bt567.2 = true then ((spec_TimesTable.f k bt567.1 l2).bind fun bt571 => (some (bt571.1, bt571.2))) else (some ((([] : List (List Int))), false)))) = some (r1, r2) := h
 clear h
 replace H := Option.bind_eq_some_iff.mp H
 obtain ⟨⟨t567, t568⟩, A40, H⟩ := H
 replace H : (if t568 = true then ((spec_TimesTable.f k t567 l2).bind fun bt571 => (some (bt571.1, bt571.2))) else (some ((([] : List (List Int))), false))) = some (r1, r2) := H
 have A4 := Aside0.mk A40
 clear A40
 by_cases c5 : t568 = true
 ·subst c5
  rw [if_pos rfl] at H
  replace H := Option.bind_eq_some_iff.mp H
  obtain ⟨⟨t571, t572⟩, A60, H⟩ := H
  replace H : (some (t571, t572)) = some (r1, r2) := H
  have A6 := Aside0.mk A60
  clear A60
  simp only [Option.some.injEq, Prod.mk.injEq] at H
  obtain ⟨rfl, rfl⟩ := H
  go_enter Try.func180, Try.ntmps180
  go_wp2_with (first | (refine gL 84 (some 15) Try.func84 #[.slice A0 l0.length c0, .slice A1 l1.length c1] ?_; (with_reducible refine (spec_TimesTable.calls k _ _ l0 _ _ l1 t567 true _ ?side1 ?side2 ?side3 ?side4 A4.out).mono ?_); (case side1 => exact C_l HR0.out); (case side2 => exact HC0.out); (case side3 => exact C_l HR1.out); (case side4 => exact HC1.out); rintro e w7 ⟨v569, rfl, ho0, hb⟩; refine ⟨_, rfl, ?_⟩; have n0_ := Aside0.mk (Kd.S_lower ho0 (below_size (B_l HB.out))); have n1_ := Aside0.mk (below_step (B_l HB.out) hb); clear HB; have HO570 := n0_; have HB := n1_; clear n0_ n1_; obtain ⟨Ao8, co8, eo8⟩ := Kd.S_slice HO570.out; subst eo8) | (refine gL 84 (some 24) Try.func84 #[.slice Ao8 t567.length co8, .slice A2 l2.length c2] ?_; (with_reducible refine (spec_TimesTable.calls k _ _ t567 _ _ l2 t571 t572 _ ?side1 ?side2 ?side3 ?side4 A6.out).mono ?_); (case side1 => exact C_l ((Kd.S_reads' HO570.out).2.2)); (case side2 => exact (Kd.S_reads' HO570.out).2.1); (case side3 => exact C_l (Kd.C_below HR2.out HB.out)); (case side4 => exact HC2.out); rintro e w9 ⟨v573, rfl, ho0, hb⟩; refine ⟨_, rfl, ?_⟩; have n0_ := Aside0.mk (Kd.S_elder' (S_l HO570.out) (Kd.S_base ho0) hb); have n1_ := Aside0.mk (Kd.S_lower (Kd.S_new' ho0 (Kd.S_lt (S_l HO570.out))) (below_size (B_l HB.out))); have n2_ := Aside0.mk (below_step (B_l HB.out) hb); clear HO570; clear HB; have HO570 := n0_; have HO574 := n1_; have HB := n2_; clear n0_ n1_ n2_))
  go_ret2
  exact ⟨_, by first | rfl | (simp [errW_none, errW_some] <;> rfl) | (simp [*, errW_none, errW_some] <;> rfl), S_l (Kd.S_mono HO574.out (fun _ hk => trivial)), B_l HB.out⟩
 ·replace c5 := Bool.eq_false_iff.mpr c5
  subst c5
  rw [if_neg (show ¬ (false = true) by decide)] at H
  obtain ⟨y575, hy575⟩ : ∃ y_ : List (List Int), y_ = (([] : List (List Int))) := ⟨_, rfl⟩
  replace H : (some (y575, false)) = some (r1, r2) := by first | (rw [hy575]; with_reducible exact H) | (have H2_ := (Option.bind_some _ _).symm.trans H; rw [hy575]; with_reducible exact H2_) | (have H2_ := (Option.bind_some _ _).symm.trans H; with_reducible exact H2_) | with_reducible exact H | (rw [hy575]; exact H) | exact H
  have Ny575 := Aside0.mk hy575
  clear hy575
  simp only [Option.some.injEq, Prod.mk.injEq] at H
  obtain ⟨rfl, rfl⟩ := H
  go_enter Try.func180, Try.ntmps180
  go_wp2_with (first | (refine gL 84 (some 15) Try.func84 #[.slice A0 l0.length c0, .slice A1 l1.length c1] ?_; (with_reducible refine (spec_TimesTable.calls k _ _ l0 _ _ l1 t567 false _ ?side1 ?side2 ?side3 ?side4 A4.out).mono ?_); (case side1 => exact C_l HR0.out); (case side2 => exact HC0.out); (case side3 => exact C_l HR1.out); (case side4 => exact HC1.out); rintro e w10 ⟨v569, rfl, ho0, hb⟩; refine ⟨_, rfl, ?_⟩; have n0_ := Aside0.mk (Kd.S_lower ho0 (below_size (B_l HB.out))); have n1_ := Aside0.mk (below_step (B_l HB.out) hb); clear HB; have HO570 := n0_; have HB := n1_; clear n0_ n1_) | ((with_reducible refine gate_dst (N := 20) rfl ?_); refine Kd.S_lit (Kd.slice 3 (Kd.int .i64)) _ 35 ?hg (N := 20) ?hd (xs := ([] : List (List Int))) (inner := []) (ok := fun _ => True) (okp := fun _ => True) ?hr ?hp (fun _ hk => hk) trivial (Below.refl _ _) (Nat.le_refl _) (by simp) ?_; (case hd => rfl); (case hg => rfl); (case hr => first | (go_simp; done) | (go_simp; rfl)); (case hp => exact (Reps.none _ _)); intro v576 w11 ho12 hb hg_ hnew_; clear hg_ hnew_; (first | rw [← Ny575.out] at ho12 | (simp only [Int.reduceToNat] at ho12; rw [← Ny575.out] at ho12)); have n0_ := Aside0.mk (Kd.S_elder' (S_l HO570.out) (Kd.S_base ho12) hb); have n1_ := Aside0.mk (Kd.S_lower (Kd.S_new' ho12 (Kd.S_lt (S_l HO570.out))) (below_size (B_l HB.out))); have n2_ := Aside0.mk (below_step (B_l HB.out) hb); clear HO570; clear HB; have HO570 := n0_; have HO577 := n1_; have HB := n2_; clear n0_ n1_ n2_; clear hb ho12))
  go_ret2
  exact ⟨_, by first | rfl | (simp [errW_none, errW_some] <;> rfl) | (simp [*, errW_none, errW_some] <;> rfl), S_l (Kd.S_mono HO577.out (fun _ hk => trivial)), B_l HB.out⟩

end Go.Proofs.Ytimjefomgaaegaa.PFnTwists
