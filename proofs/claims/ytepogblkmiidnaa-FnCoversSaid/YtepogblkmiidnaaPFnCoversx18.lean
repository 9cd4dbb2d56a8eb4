import Derived.Test.YtepogblkmiidnaaWSpanB
import Derived.Test.YtepogblkmiidnaaPFnCoversx0
import Derived.Test.YtepogblkmiidnaaPFnCoversx1
import Derived.Test.YtepogblkmiidnaaPFnCoversx4
import Derived.Test.YtepogblkmiidnaaPFnCoversx6
import Derived.Test.YtepogblkmiidnaaPFnCoversx10
import Derived.Test.YtepogblkmiidnaaPFnCoversx13
namespace Go.Proofs.Ytepogblkmiidnaa.PFnCovers
open Go.RowKit Go.Proofs.YtepogblkmiidnaaW.PrintWords Go.Proofs.YtepogblkmiidnaaW.PrintLast Go.Proofs.YtepogblkmiidnaaW.PrintMore
attribute [local go_sem] max2_int min2_int max_two min_two max_three min_three max_four min_four   -- for this text's walks alone
set_option linter.unusedVariables false
set_option linter.unusedSimpArgs false

attribute [local go_sem high] eqA46
/-! ### impl_SheetParts: function 13 -/
def impl_SheetParts.f (k : Nat) (l0 : List (List Int)) : Option ((List (List Int))) := if (l0.length : Int) > 8 then (some ([] : List (List Int))) else ((impl_areSheets.f k l0).bind fun t531 => (if t531 = true then ((impl_parts.f k l0).bind fun t532 => (some t532)) else (some ([] : List (List Int)))))
set_option maxHeartbeats 8000000 in
set_option maxRecDepth 100000 in
theorem impl_SheetParts.calls (k : Nat) (A0 : Option Addr) (c0 : Nat) (l0 : List (List Int)) (r : List (List Int)) (w : World) (hr0 : Kd.C (Kd.slice 3 (Kd.int .i64)) w A0 l0.length l0) (hc0 : l0.length ≤ c0) (h : impl_SheetParts.f k l0 = some r) :
  Calls Try.prog 13 #[.slice A0 l0.length c0] w fun e w' => ∃ v0_ : Value, e = .returned (v0_) ∧ Kd.S (Kd.slice 3 (Kd.int .i64)) 30 w' w.heap.size (fun _ => True) v0_ r ∧ Below w.heap.size w w' := by
 have HR0 := Aside0.mk hr0
 have HC0 := Aside0.mk hc0
 clear hr0 hc0
 have HB := Aside0.mk (Below.refl w.heap.size w)
 have H : (if (l0.length : Int) > 8 then (some ([] : List (List Int))) else ((impl_areSheets.f k l0).bind fun t531 => (if t531 = true then ((impl_parts.f k l0).bind fun t532 => (some t532)) else (some ([] : List (List Int)))))) = some r := h
 clear h
 by_cases c2 : (l0.length : Int) > 8
 ·rw [if_pos c2] at H
  have c2b0 : decide (8 < (l0.length : Int)) = true := decide_eq_true c2
  have c2b1 : decide (8 < l0.length) = true := decide_eq_true (by omega)
  clear c2
  obtain rfl := Option.some.inj H
  go_enter Try.func13, Try.ntmps13
  go_wp2
  go_ret
  exact ⟨_, rE, by first | exact Kd.S_nil _ _ _ _ _ | exact Kd.N_nil _ _ _ _ _ | exact Kd.V_nil _ _ _ _ _ | exact Kd.Q_nil _ _ _ _ _ | exact Kd.R_nil _ _ _ _ _, tb⟩
 ·rw [if_neg c2] at H
  have c2b0 : decide (8 < (l0.length : Int)) = false := decide_eq_false c2
  have c2b1 : decide (8 < l0.length) = false := decide_eq_false (by omega)
  clear c2
  obtain ⟨t531, A3, H⟩ := bs H
  by_cases c4 : t531 = true
  ·subst c4
   rw [if_pos rfl] at H
   obtain ⟨t532, A5, H⟩ := bs H
   obtain rfl := Option.some.inj H
   go_enter Try.func13, Try.ntmps13
   go_wp2_with (first | (go_at_call 43; (with_reducible refine (impl_areSheets.calls k _ _ l0 true _ ?side1 ?side2 A3.out).mono ?_); (case side1 => exact C_l HR0.out); (case side2 => exact HC0.out); rintro e w6 ⟨rfl, hb⟩; replace HB := Aside0.mk (below_step tb hb)) | (refine gL 31 (some 12) Try.func31 #[.slice A0 l0.length c0] ?_; (with_reducible refine (impl_parts.calls k _ _ l0 t532 _ ?side1 ?side2 A5.out).mono ?_); (case side1 => exact C_l (Kd.C_below HR0.out HB.out)); (case side2 => exact HC0.out); rintro e w7 ⟨v533, rfl, ho0, hb⟩; refine ⟨_, rfl, ?_⟩; have HO534 := Aside0.mk (Kd.S_lower ho0 (below_size tb)); replace HB := Aside0.mk (below_step tb hb)))
   go_ret
   exact ⟨_, rE, S_l HO534.out, tb⟩
  ·replace c4 := Bool.eq_false_iff.mpr c4
   subst c4
   rw [if_neg (show ¬ (false = true) by decide)] at H
   obtain rfl := Option.some.inj H
   go_enter Try.func13, Try.ntmps13
   go_wp2_with (first | (go_at_call 43; (with_reducible refine (impl_areSheets.calls k _ _ l0 false _ ?side1 ?side2 A3.out).mono ?_); (case side1 => exact C_l HR0.out); (case side2 => exact HC0.out); rintro e w8 ⟨rfl, hb⟩; replace HB := Aside0.mk (below_step tb hb)))
   go_ret
   exact ⟨_, rE, by first | exact Kd.S_nil _ _ _ _ _ | exact Kd.N_nil _ _ _ _ _ | exact Kd.V_nil _ _ _ _ _ | exact Kd.Q_nil _ _ _ _ _ | exact Kd.R_nil _ _ _ _ _, tb⟩

/-! ### laws_sameSurfaces: function 14 -/
def laws_sameSurfaces.l0 : Nat → List (S46) → List (S46) → Int → Option (Bool)
 | 0, _, _, _ => none
 | k + 1, x0, x1, x5 => if x5 < (x0.length : Int) then (if 0 ≤ x5 then (if x5 < (x1.length : Int) then (if (!(((rd_T46 x0 x5).f0) == ((rd_T46 x1 x5).f0)) || (!(((rd_T46 x0 x5).f1) == ((rd_T46 x1 x5).f1)) || (!(((rd_T46 x0 x5).f2) == ((rd_T46 x1 x5).f2))))) = true then (some false) else (laws_sameSurfaces.l0 k x0 x1 (wrap64 (x5 + 1)))) else (none)) else (none)) else (some true)
def laws_sameSurfaces.f (k : Nat) (l0 : List (S46)) (l1 : List (S46)) : Option (Bool) := if (l0.length : Int) = (l1.length : Int) then (laws_sameSurfaces.l0 k l0 l1 0) else (some false)
set_option maxHeartbeats 8000000 in
set_option maxRecDepth 100000 in
theorem laws_sameSurfaces.calls (k : Nat) (A0 : Option Addr) (c0 : Nat) (l0 : List (S46)) (A1 : Option Addr) (c1 : Nat) (l1 : List (S46)) (r : Bool) (w : World) (hr0 : Kd.C k46 w A0 l0.length l0) (hc0 : l0.length ≤ c0) (hr1 : Kd.C k46 w A1 l1.length l1) (hc1 : l1.length ≤ c1) (h : laws_sameSurfaces.f k l0 l1 = some r) :
  Calls Try.prog 14 #[.slice A0 l0.length c0, .slice A1 l1.length c1] w fun e w' => e = .returned (.bool r) ∧ Drawn0 w w' := by
 have hu46 := Try.underlying46
 have HR0 := Aside0.mk hr0
 have HC0 := Aside0.mk hc0
 clear hr0 hc0
 have HR1 := Aside0.mk hr1
 have HC1 := Aside0.mk hc1
 clear hr1 hc1
 have H : (if (l0.length : Int) = (l1.length : Int) then (laws_sameSurfaces.l0 k l0 l1 0) else (some false)) = some r := h
 clear h
 by_cases c3 : (l0.length : Int) = (l1.length : Int)
 ·rw [if_pos c3] at H
  have c3b0 : ((l0.length : Int) == (l1.length : Int)) = true := beq_iff_eq.mpr c3
  have c3b1 : ((l0.length : Int) != (l1.length : Int)) = false := bne_eq_false_iff_eq.mpr c3
  have c3b2 : (l0.length == l1.length) = true := by first | simpa using c3 | (simp at c3 ⊢; omega)
  clear c3
  have H' := Aside0.mk H
  clear H
  go_enter Try.func14, Try.ntmps14
  go_wp2
  repeat (go_quiet (fail); try go_wp2)
  go_loopg [5] k (fun kq v5 w' => ∃ (x5_1 : Int), v5 = .int .i64 x5_1 ∧ Aside0 (laws_sameSurfaces.l0 kq l0 l1 x5_1 = some r) ∧ Aside0 (kq ≤ k) ∧ Drawn0 w w')
  case atStart => exact ⟨(0), rS, H', ⟨Nat.le_refl _⟩, tD⟩
  case round =>
   clear H'
   try clear c1
   try clear p2
   try clear c3
   try clear c3b0
   try clear c3b1
   try clear c3b2
   obtain ⟨x5_1, rfl, HA, HK1, ⟨m1, rfl⟩⟩ := hrel
   cases gk with
   | zero => exact absurd HA.out (by simp [laws_sameSurfaces.l0])
   | succ k1 =>
    have H := HA.out
    clear HA
    simp only [laws_sameSurfaces.l0] at H
    obtain ⟨c4b0, H⟩ | ⟨c4b0, H⟩ := gi H
    ·obtain ⟨c5b0, H⟩ := gdt H
     obtain ⟨c6b0, H⟩ := gdt H
     by_cases c7 : (!(((rd_T46 l0 x5_1).f0) == ((rd_T46 l1 x5_1).f0)) || (!(((rd_T46 l0 x5_1).f1) == ((rd_T46 l1 x5_1).f1)) || (!(((rd_T46 l0 x5_1).f2) == ((rd_T46 l1 x5_1).f2))))) = true
     ·rw [if_pos c7] at H
      have c7b0 : (!(((rd_T46 l0 x5_1).f0) == ((rd_T46 l1 x5_1).f0)) || (!(((rd_T46 l0 x5_1).f1) == ((rd_T46 l1 x5_1).f1)) || (!(((rd_T46 l0 x5_1).f2) == ((rd_T46 l1 x5_1).f2))))) = true := c7
      clear c7
      obtain rfl := Option.some.inj H
      have p535 : 0 ≤ (x5_1 : Int) := dT
      have q535 : x5_1 < (l0.length : Int) := dT
      obtain ⟨ad535, e535, hx535_0, hx535_1, hx535_2⟩ := at_T46 HR0.out x5_1 p535 q535
      cases e535
      replace p535 := eq_true p535
      replace q535 := eq_true q535
      have p536 : 0 ≤ (x5_1 : Int) := dT
      have q536 : x5_1 < (l1.length : Int) := dT
      obtain ⟨ad536, e536, hx536_0, hx536_1, hx536_2⟩ := at_T46 HR1.out x5_1 p536 q536
      cases e536
      replace p536 := eq_true p536
      replace q536 := eq_true q536
      go_wp2
      repeat (go_quiet (fail); try go_wp2)
      go_ret
      exact ⟨rS, tD⟩
     ·rw [if_neg c7] at H
      have c7b0 : (!(((rd_T46 l0 x5_1).f0) == ((rd_T46 l1 x5_1).f0)) || (!(((rd_T46 l0 x5_1).f1) == ((rd_T46 l1 x5_1).f1)) || (!(((rd_T46 l0 x5_1).f2) == ((rd_T46 l1 x5_1).f2))))) = false := by simpa using c7
      clear c7
      have H' := Aside0.mk H
      clear H
      have p535 : 0 ≤ (x5_1 : Int) := dT
      have q535 : x5_1 < (l0.length : Int) := dT
      obtain ⟨ad535, e535, hx535_0, hx535_1, hx535_2⟩ := at_T46 HR0.out x5_1 p535 q535
      cases e535
      replace p535 := eq_true p535
      replace q535 := eq_true q535
      have p536 : 0 ≤ (x5_1 : Int) := dT
      have q536 : x5_1 < (l1.length : Int) := dT
      obtain ⟨ad536, e536, hx536_0, hx536_1, hx536_2⟩ := at_T46 HR1.out x5_1 p536 q536
      cases e536
      replace p536 := eq_true p536
      replace q536 := eq_true q536
      go_wp2
      repeat (go_quiet (fail); try go_wp2)
      go_roundg k1
      case measure => exact oK
      case rel => exact ⟨(wrap64 (x5_1 + 1)), rS, H', ⟨oK⟩, tD⟩
    ·obtain rfl := Option.some.inj H
     go_wp2
     repeat (go_quiet (fail); try go_wp2)
     go_ret
     exact ⟨rS, tD⟩
 ·rw [if_neg c3] at H
  have c3b0 : ((l0.length : Int) == (l1.length : Int)) = false := beq_eq_false_iff_ne.mpr c3
  have c3b1 : ((l0.length : Int) != (l1.length : Int)) = true := bne_iff_ne.mpr c3
  have c3b2 : (l0.length == l1.length) = false := by first | simpa using c3 | (simp at c3 ⊢; omega)
  obtain rfl := Option.some.inj H
  go_enter Try.func14, Try.ntmps14
  go_wp2
  repeat (go_quiet (fail); try go_wp2)
  go_ret
  exact ⟨rS, tD⟩

/-! ### laws_sameInts: function 15 -/
def laws_sameInts.l0 : Nat → List Int → List Int → Int → Option (Bool)
 | 0, _, _, _ => none
 | k + 1, x0, x1, x5 => if x5 < (x0.length : Int) then (if 0 ≤ x5 then (if x5 < (x1.length : Int) then (if (rd x0 x5) = (rd x1 x5) then (laws_sameInts.l0 k x0 x1 (wrap64 (x5 + 1))) else (some false)) else (none)) else (none)) else (some true)
def laws_sameInts.f (k : Nat) (l0 : List Int) (l1 : List Int) : Option (Bool) := if (l0.length : Int) = (l1.length : Int) then (laws_sameInts.l0 k l0 l1 0) else (some false)
set_option maxHeartbeats 8000000 in
set_option maxRecDepth 100000 in
theorem laws_sameInts.calls (k : Nat) (A0 : Option Addr) (c0 : Nat) (l0 : List Int) (A1 : Option Addr) (c1 : Nat) (l1 : List Int) (r : Bool) (w : World) (hr0 : Kd.C (Kd.int .i64) w A0 l0.length l0) (hc0 : l0.length ≤ c0) (hr1 : Kd.C (Kd.int .i64) w A1 l1.length l1) (hc1 : l1.length ≤ c1) (h : laws_sameInts.f k l0 l1 = some r) :
  Calls Try.prog 15 #[.slice A0 l0.length c0, .slice A1 l1.length c1] w fun e w' => e = .returned (.bool r) ∧ Drawn0 w w' := by
 have HR0 := Aside0.mk hr0
 have HC0 := Aside0.mk hc0
 clear hr0 hc0
 have HR1 := Aside0.mk hr1
 have HC1 := Aside0.mk hc1
 clear hr1 hc1
 have H : (if (l0.length : Int) = (l1.length : Int) then (laws_sameInts.l0 k l0 l1 0) else (some false)) = some r := h
 clear h
 by_cases c3 : (l0.length : Int) = (l1.length : Int)
 ·rw [if_pos c3] at H
  have c3b0 : ((l0.length : Int) == (l1.length : Int)) = true := beq_iff_eq.mpr c3
  have c3b1 : ((l0.length : Int) != (l1.length : Int)) = false := bne_eq_false_iff_eq.mpr c3
  have c3b2 : (l0.length == l1.length) = true := by first | simpa using c3 | (simp at c3 ⊢; omega)
  clear c3
  have H' := Aside0.mk H
  clear H
  go_enter Try.func15, Try.ntmps15
  go_wp2
  repeat (go_quiet (fail); try go_wp2)
  go_loopg [5] k (fun kq v5 w' => ∃ (x5_1 : Int), v5 = .int .i64 x5_1 ∧ Aside0 (laws_sameInts.l0 kq l0 l1 x5_1 = some r) ∧ Aside0 (kq ≤ k) ∧ Drawn0 w w')
  case atStart => exact ⟨(0), rS, H', ⟨Nat.le_refl _⟩, tD⟩
  case round =>
   clear H'
   try clear c1
   try clear p2
   try clear c3
   try clear c3b0
   try clear c3b1
   try clear c3b2
   obtain ⟨x5_1, rfl, HA, HK1, ⟨m1, rfl⟩⟩ := hrel
   cases gk with
   | zero => exact absurd HA.out (by simp [laws_sameInts.l0])
   | succ k1 =>
    have H := HA.out
    clear HA
    simp only [laws_sameInts.l0] at H
    obtain ⟨c4b0, H⟩ | ⟨c4b0, H⟩ := gi H
    ·obtain ⟨c5b0, H⟩ := gdt H
     obtain ⟨c6b0, H⟩ := gdt H
     by_cases c7 : (rd l0 x5_1) = (rd l1 x5_1)
     ·rw [if_pos c7] at H
      have c7b0 : ((rd l0 x5_1) == (rd l1 x5_1)) = true := beq_iff_eq.mpr c7
      have c7b1 : ((rd l0 x5_1) != (rd l1 x5_1)) = false := bne_eq_false_iff_eq.mpr c7
      clear c7
      have H' := Aside0.mk H
      clear H
      have p537 : 0 ≤ (x5_1 : Int) := dT
      have q537 : x5_1 < (l0.length : Int) := dT
      obtain ⟨ad537, e537, hx537_0⟩ := Kd.at_int HR0.out x5_1 p537 q537
      cases e537
      replace p537 := eq_true p537
      replace q537 := eq_true q537
      have p538 : 0 ≤ (x5_1 : Int) := dT
      have q538 : x5_1 < (l1.length : Int) := dT
      obtain ⟨ad538, e538, hx538_0⟩ := Kd.at_int HR1.out x5_1 p538 q538
      cases e538
      replace p538 := eq_true p538
      replace q538 := eq_true q538
      go_wp2
      repeat (go_quiet (fail); try go_wp2)
      go_roundg k1
      case measure => exact oK
      case rel => exact ⟨(wrap64 (x5_1 + 1)), rS, H', ⟨oK⟩, tD⟩
     ·rw [if_neg c7] at H
      have c7b0 : ((rd l0 x5_1) == (rd l1 x5_1)) = false := beq_eq_false_iff_ne.mpr c7
      have c7b1 : ((rd l0 x5_1) != (rd l1 x5_1)) = true := bne_iff_ne.mpr c7
      obtain rfl := Option.some.inj H
      have p537 : 0 ≤ (x5_1 : Int) := dT
      have q537 : x5_1 < (l0.length : Int) := dT
      obtain ⟨ad537, e537, hx537_0⟩ := Kd.at_int HR0.out x5_1 p537 q537
      cases e537
      replace p537 := eq_true p537
      replace q537 := eq_true q537
      have p538 : 0 ≤ (x5_1 : Int) := dT
      have q538 : x5_1 < (l1.length : Int) := dT
      obtain ⟨ad538, e538, hx538_0⟩ := Kd.at_int HR1.out x5_1 p538 q538
      cases e538
      replace p538 := eq_true p538
      replace q538 := eq_true q538
      go_wp2
      repeat (go_quiet (fail); try go_wp2)
      go_ret
      exact ⟨rS, tD⟩
    ·obtain rfl := Option.some.inj H
     go_wp2
     repeat (go_quiet (fail); try go_wp2)
     go_ret
     exact ⟨rS, tD⟩
 ·rw [if_neg c3] at H
  have c3b0 : ((l0.length : Int) == (l1.length : Int)) = false := beq_eq_false_iff_ne.mpr c3
  have c3b1 : ((l0.length : Int) != (l1.length : Int)) = true := bne_iff_ne.mpr c3
  have c3b2 : (l0.length == l1.length) = false := by first | simpa using c3 | (simp at c3 ⊢; omega)
  obtain rfl := Option.some.inj H
  go_enter Try.func15, Try.ntmps15
  go_wp2
  repeat (go_quiet (fail); try go_wp2)
  go_ret
  exact ⟨rS, tD⟩

/-! ### spec_l9Put: function 54 -/
def spec_l9Put.l0 : Nat → List Int → Int → Int → Option (List Int)
 | 0, _, _, _ => none
 | k + 1, x0, x1, x5 => if x5 > 0 then (if 0 ≤ (wrap64 (x5 - 1)) then (if (wrap64 (x5 - 1)) < (x0.length : Int) then (if (rd x0 (wrap64 (x5 - 1))) > x1 then (spec_l9Put.l0 k x0 x1 (wrap64 (x5 - 1))) else ((some (([] : List Int) : List Int)).bind fun y540 => (if 0 ≤ x5 then (if x5 ≤ (x0.length : Int) then ((some (x0.drop (x5 : Int).toNat : List Int)).bind fun y543 => (if y540.length + y543.length < 17592186044416 then ((some (y540 ++ y543 : List Int)).bind fun y547 => ((some (x0.take (x5 : Int).toNat : List Int)).bind fun y550 => (if y550.length < 17592186044416 then ((some (y550 ++ [x1] : List Int)).bind fun y553 => (if y553.length + y547.length < 17592186044416 then (some (y553 ++ y547)) else (none))) else (none)))) else (none))) else (none)) else (none)))) else (none)) else (none)) else ((some (([] : List Int) : List Int)).bind fun y559 => (if 0 ≤ x5 then (if x5 ≤ (x0.length : Int) then ((some (x0.drop (x5 : Int).toNat : List Int)).bind fun y562 => (if y559.length + y562.length < 17592186044416 then ((some (y559 ++ y562 : List Int)).bind fun y566 => ((some (x0.take (x5 : Int).toNat : List Int)).bind fun y569 => (if y569.length < 17592186044416 then ((some (y569 ++ [x1] : List Int)).bind fun y572 => (if y572.length + y566.length < 17592186044416 then (some (y572 ++ y566)) else (none))) else (none)))) else (none))) else (none)) else (none)))
def spec_l9Put.f (k : Nat) (l0 : List Int) (a1 : Int) : Option (List Int) := spec_l9Put.l0 k l0 a1 (l0.length : Int)
set_option maxHeartbeats 8000000 in
set_option maxRecDepth 100000 in
theorem spec_l9Put.calls (k : Nat) (P0_ : Nat → Prop) (u9000_ : Value) (l0 : List Int) (a1 : Int) (r : List Int) (w0 w : World) (hB : Below w0.heap.size w0 w) (ho0 : Kd.R (Kd.int .i64) 3 w w0.heap.size P0_ u9000_ l0) (h : spec_l9Put.f k l0 a1 = some r) :
  Calls Try.prog 54 #[u9000_, .int .i64 a1] w fun e w' => ∃ v0_ : Value, e = .returned (v0_) ∧ Kd.R (Kd.int .i64) 3 w' w0.heap.size (fun k_ => (P0_ k_ ∨ w.heap.size ≤ k_)) v0_ r ∧ Below w0.heap.size w0 w' ∧ Kept w w' (fun k_ => P0_ k_) := by
 have HO0 := Aside0.mk (show Kd.R (Kd.int .i64) 3 w w0.heap.size (fun k_ => (P0_ k_ ∨ w.heap.size ≤ k_)) u9000_ l0 from Kd.R_mono ho0 (fun k_ hk => (.inl hk)))
 have HK := Aside0.mk (Kept.refl w (fun k_ => P0_ k_))
 have HW0 := Aside0.mk hB.size
 have HB := Aside0.mk hB
 clear hB
 have H : (spec_l9Put.l0 k l0 a1 (l0.length : Int)) = some r := h
 clear h
 have H' := Aside0.mk H
 clear H
 obtain ⟨Ao3, co3, eo3⟩ := Kd.R_slice HO0.out
 subst eo3
 go_enter Try.func54, Try.ntmps54
 go_wp2
 go_loopg [5] k (fun kq v5 w' => ∃ (x5_1 : Int), v5 = .int .i64 x5_1 ∧ Aside0 (spec_l9Put.l0 kq l0 a1 x5_1 = some r) ∧ Aside0 (kq ≤ k) ∧ Aside0 (Kd.R (Kd.int .i64) 3 w' w0.heap.size (fun k_ => (P0_ k_ ∨ w.heap.size ≤ k_)) (.slice Ao3 l0.length co3) l0) ∧ Aside0 (Kept w w' (fun k_ => P0_ k_)) ∧ Aside0 (Below w0.heap.size w0 w'))
 case atStart => exact ⟨((l0.length : Int)), rS, H', ⟨Nat.le_refl _⟩, ⟨R_l HO0.out⟩, ⟨by repeat (first | (with_reducible first | exact HK.out | apply Kept.alloc | apply Kept.drewN | apply Kept.drew) | exact HK.out)⟩, ⟨tb⟩⟩
 case round =>
  clear H'
  try clear p2
  obtain ⟨x5_1, rfl, HA, HK1, HO_0, HK, HB⟩ := hrel
  cases gk with
  | zero => exact absurd HA.out (by simp [spec_l9Put.l0])
  | succ k1 =>
   have H := HA.out
   clear HA
   simp only [spec_l9Put.l0] at H
   by_cases c4 : x5_1 > 0
   ·rw [if_pos c4] at H
    have c4b0 : decide (0 < x5_1) = true := decide_eq_true c4
    clear c4
    obtain ⟨ji5, hji5⟩ : ∃ j_ : Int, (wrap64 (x5_1 - 1)) = j_ := ⟨_, rfl⟩
    replace H : (if 0 ≤ (ji5) then (if (ji5) < (l0.length : Int) then (if (rd l0 (ji5)) > a1 then (spec_l9Put.l0 k1 l0 a1 ji5) else ((some (([] : List Int) : List Int)).bind fun y540 => (if 0 ≤ x5_1 then (if x5_1 ≤ (l0.length : Int) then ((some (l0.drop (x5_1 : Int).toNat : List Int)).bind fun y543 => (if y540.length + y543.length < 17592186044416 then ((some (y540 ++ y543 : List Int)).bind fun y547 => ((some (l0.take (x5_1 : Int).toNat : List Int)).bind fun y550 => (if y550.length < 17592186044416 then ((some (y550 ++ [a1] : List Int)).bind fun y553 => (if y553.length + y547.length < 17592186044416 then (some (y553 ++ y547)) else (none))) else (none)))) else (none))) else (none)) else (none)))) else (none)) else (none)) = some r := by first | (rw [hji5] at H; exact H) | (simp only [hji5] at H ⊢; exact H)
    have hji5w : (IntKind.i64.wrap (x5_1 - 1)) = ji5 := (i64_w _).trans hji5
    obtain ⟨c6b0, H⟩ := gdt H
    obtain ⟨c7b0, H⟩ := gdt H
    by_cases c8 : (rd l0 (ji5)) > a1
    ·rw [if_pos c8] at H
     have c8b0 : decide (a1 < (rd l0 (ji5))) = true := decide_eq_true c8
     clear c8
     have H' := Aside0.mk H
     clear H
     have p539 : 0 ≤ ((ji5) : Int) := dT
     have q539 : (ji5) < (l0.length : Int) := dT
     obtain ⟨ad539, e539, hx539_0⟩ := Kd.at_int (Kd.R_reads' HO_0.out).2.2 (ji5) p539 q539
     cases e539
     replace p539 := eq_true p539
     replace q539 := eq_true q539
     go_wp2
     go_roundg k1
     case measure => exact oK
     case rel => exact ⟨(ji5), (by first | rfl | (simp; done) | (simp only [← hji5] <;> (first | rfl | simp)) | (simp [*]; done)), H', ⟨oK⟩, ⟨R_l HO_0.out⟩, ⟨by repeat (first | (with_reducible first | exact HK.out | apply Kept.alloc | apply Kept.drewN | apply Kept.drew) | exact HK.out)⟩, ⟨tb⟩⟩
    ·rw [if_neg c8] at H
     have c8b0 : decide (a1 < (rd l0 (ji5))) = false := decide_eq_false c8
     clear c8
     obtain ⟨y540, hy540⟩ : ∃ y_ : List Int, y_ = (([] : List Int)) := ⟨_, rfl⟩
     replace H : (if 0 ≤ x5_1 then (if x5_1 ≤ (l0.length : Int) then ((some (l0.drop (x5_1 : Int).toNat : List Int)).bind fun y543 => (if y540.length + y543.length < 17592186044416 then ((some (y540 ++ y543 : List Int)).bind fun y547 => ((some (l0.take (x5_1 : Int).toNat : List Int)).bind fun y550 => (if y550.length < 17592186044416 then ((some (y550 ++ [a1] : List Int)).bind fun y553 => (if y553.length + y547.length < 17592186044416 then (some (y553 ++ y547)) else (none))) else (none)))) else (none))) else (none)) else (none)) = some r := by first | (rw [hy540]; with_reducible exact H) | (have H2_ := (Option.bind_some _ _).symm.trans H; rw [hy540]; with_reducible exact H2_) | (have H2_ := (Option.bind_some _ _).symm.trans H; with_reducible exact H2_) | with_reducible exact H | (rw [hy540]; exact H) | exact H
     have Ny540 := Aside0.mk hy540
     clear hy540
     obtain ⟨c9, H⟩ := gd H
     have c9b0 := eq_true c9
     have c9b1 : decide (0 ≤ x5_1) = true := decide_eq_true c9
     clear c9
     obtain ⟨c10, H⟩ := gd H
     have c10b0 := eq_true c10
     have c10b1 : decide (x5_1 ≤ (l0.length : Int)) = true := decide_eq_true c10
     clear c10
     generalize hy543 : (l0.drop (x5_1 : Int).toNat : List Int) = y543 at H
     have Ny543 := Aside0.mk hy543.symm; clear hy543
     obtain ⟨LMc11, H⟩ := gda H
     generalize hy547 : (y540 ++ y543 : List Int) = y547 at H
     have Ny547 := Aside0.mk hy547.symm; clear hy547
     have c12b0 := eq_true (dT : x5_1 ≤ (l0.length : Int))
     generalize hy550 : (l0.take (x5_1 : Int).toNat : List Int) = y550 at H
     have Ny550 := Aside0.mk hy550.symm; clear hy550
     obtain ⟨LMc13, H⟩ := gda H
     generalize hy553 : (y550 ++ [a1] : List Int) = y553 at H
     have Ny553 := Aside0.mk hy553.symm; clear hy553
     obtain ⟨LMc14, H⟩ := gda H
     generalize hy556 : (y553 ++ y547 : List Int) = y556 at H
     have Ny556 := Aside0.mk hy556.symm; clear hy556
     obtain rfl := Option.some.inj H
     have p539 : 0 ≤ ((ji5) : Int) := dT
     have q539 : (ji5) < (l0.length : Int) := dT
     obtain ⟨ad539, e539, hx539_0⟩ := Kd.at_int (Kd.R_reads' HO_0.out).2.2 (ji5) p539 q539
     cases e539
     replace p539 := eq_true p539
     replace q539 := eq_true q539
     go_wp2_with (first | ((with_reducible refine gate_dst (N := 22) rfl ?_); refine Kd.R_lit (Kd.int .i64) _ 3 ?hg (N := 22) ?hd (xs := ([] : List Int)) (inner := []) (ok := fun _ => True) (okp := fun _ => True) ?hr ?hp (fun _ hk => hk) trivial (Below.refl _ _) (Nat.le_refl _) (by simp) ?_; (case hd => rfl); (case hg => rfl); (case hr => exact gS); (case hp => exact (Reps.none _ _)); intro v541 w15 ho16 hb hg_ hnew_; clear hg_ hnew_; (first | rw [← Ny540.out] at ho16 | (simp only [Int.reduceToNat] at ho16; rw [← Ny540.out] at ho16)); have HO542 := Aside0.mk (Kd.R_lower (Kd.R_new' (Kd.R_newM (M := fun k_ => (P0_ k_ ∨ w.heap.size ≤ k_)) ho16 (by first | exact HK.out.1 | exact (show Kept w _ (fun k_ => P0_ k_) from by repeat (first | (with_reducible first | exact HK.out | apply Kept.alloc | apply Kept.drewN | apply Kept.drew) | exact HK.out)).1) (fun k_ h_ => .inr h_)) (Kd.R_lt (R_l HO_0.out))) (below_size tb)); replace HO_0 := Aside0.mk (Kd.R_elder' (R_l HO_0.out) (Kd.R_base ho16) hb); replace HK := Aside0.mk (Kept.below (S := (fun k_ => P0_ k_)) (by repeat (first | (with_reducible first | exact HK.out | apply Kept.alloc | apply Kept.drewN | apply Kept.drew) | exact HK.out)) hb); replace HB := Aside0.mk (below_step tb hb); clear hb ho16; have q17 : (x5_1 : Int) ≤ ((l0.length : Int) : Int) := dT; obtain ⟨i017, hi017, _, hsz17, _⟩ := info_parts info3; have hroom17 : l0.length ≤ co3 := (Kd.R_reads' HO_0.out).2.1; have hC17 : Kd.C (Kd.int .i64) _ (some ad539) l0.length l0 := (Kd.R_reads' HO_0.out).2.2; have q017 : (0 : Int) ≤ (x5_1 : Int) := dT; have hcut17 := cut_from (P := Try.prog) 30 3 .i64 Try.underlying30 hi017 1 hsz17 (some ad539) l0.length co3 x5_1 q017 q17; have hr17 := Kd.C_drop (m := (x5_1 : Int).toNat) (c := co3) hC17 (by omega) hroom17; obtain ⟨A17, hA17⟩ : ∃ A1, A1 = (if co3 = (x5_1 : Int).toNat then (some ad539) else ((some ad539) : Option Addr).map (·.add ((x5_1 : Int).toNat * 1))) := ⟨_, rfl⟩; obtain ⟨c17, hc17⟩ : ∃ c1, c1 = co3 - (x5_1 : Int).toNat := ⟨_, rfl⟩; have hy17 : y543.length = l0.length - (x5_1 : Int).toNat := (by rw [Ny543.out, List.length_drop] <;> omega); rw [show (l0).drop (x5_1 : Int).toNat = y543 from Ny543.out.symm] at hr17; replace hr17 : Kd.C (Kd.int .i64) _ A17 y543.length y543 := (by rw [hA17]; exact hr17); rw [← hy17, ← hA17, ← hc17] at hcut17; have HR546 := Aside0.mk hr17; have HC546 := Aside0.mk (show y543.length ≤ c17 from by rw [hy17, hc17]; exact Nat.sub_le_sub_right hroom17 _); clear hr17 hC17 hroom17 hi017 hsz17 hc17; have KY17 := Aside0.mk hy17; have KA17 := Aside0.mk hA17; clear hy17 hA17; have KL17 := Aside0.mk (show (x5_1 : Int).toNat ≤ l0.length from by omega); replace q17 := eq_true q17) | ((with_reducible refine gate_builtin (b := .append) (xs := #[.tmp 22, .tmp 25]) rfl ?_); at_builtin; refine Kd.R_append_rows (Kd.int .i64) (w0 := w0) w0.heap.size rfl (.tmp 22) (.tmp 25) 30 3 (.int .i64 0) 8 rfl Try.underlying30 info3 rfl (by decide) (by omega) v541 y540 y543 _ _ _ (fun k_ => (P0_ k_ ∨ w.heap.size ≤ k_) ∧ some k_ ≠ (.slice (some ad539) l0.length co3 : Value).ownBlock) (fun _ => False) rfl rfl ?aO ?aR (fun _ _ h => h) (fun _ h => h.elim) ?aF ?aB ?aS ?aL ?_; (case aR => repeat (first | exact (by repeat (first | (with_reducible exact HR546.out) | (with_reducible refine Kd.C_alloc ?_ _) | (with_reducible refine Kd.C_drewN ?_ _) | (with_reducible refine Kd.C_drew ?_) | exact HR546.out)) | (with_reducible refine Kd.C_alloc ?_ _) | (with_reducible refine Kd.C_drewN ?_ _) | (with_reducible refine Kd.C_drew ?_))); (case aB => exact tb); (case aF => exact (fun k_ hk => ⟨(.inr (Nat.le_trans (by first | exact HK.out.1 | exact (show Kept w _ (fun k_ => P0_ k_) from by repeat (first | (with_reducible first | exact HK.out | apply Kept.alloc | apply Kept.drewN | apply Kept.drew) | exact HK.out)).1) hk)), Kd.fresh' (Kd.R_lt (R_l HO_0.out)) k_ hk⟩)); (case aO => exact (R_l (Kd.R_mono HO542.out (fun _ hk => ⟨hk.1.1, hk.2⟩)))); (case aS => exact (below_size tb)); (case aL => have := LMc11.out; omega); intro v548 w18 ho hb hg hat; rw [← Ny547.out] at ho; replace HB := Aside0.mk (hb); replace HK := Aside0.mk (Kept.of_grown (S := (fun k_ => P0_ k_)) hg (by repeat (first | (with_reducible first | exact HK.out | apply Kept.alloc | apply Kept.drewN | apply Kept.drew) | exact HK.out)) (fun k_ e_ => (HO542.out.1 k_ e_).1.1)); replace HR546 := Aside0.mk ((show Kd.C (Kd.int .i64) w18 A17 y543.length y543 from by rw [Ny543.out, KA17.out]; exact Kd.C_drop (m := (x5_1 : Int).toNat) (c := co3) ((Kd.R_reads' (Kd.R_after (ok := (fun k_ => (P0_ k_ ∨ w.heap.size ≤ k_))) (R_l HO_0.out) hg hat)).2.2) KL17.out ((Kd.R_reads' (Kd.R_after (ok := (fun k_ => (P0_ k_ ∨ w.heap.size ≤ k_))) (R_l HO_0.out) hg hat)).2.1))); replace HO_0 := Aside0.mk (Kd.R_after (ok := (fun k_ => (P0_ k_ ∨ w.heap.size ≤ k_))) (R_l HO_0.out) hg hat); have HO549 := Aside0.mk (ho); clear HO542; clear ho hb hg hat; have q19 : (x5_1 : Int) ≤ ((l0.length : Int) : Int) := dT; obtain ⟨i019, hi019, _, hsz19, _⟩ := info_parts info3; have hcut19 := cut_to (P := Try.prog) 30 3 .i64 Try.underlying30 hi019 (some ad539) l0.length co3 x5_1 dT q19 (Kd.R_reads' HO_0.out).2.1; have hr19 := Kd.R_take (m := (x5_1 : Int).toNat) HO_0.out (by omega); have hy19 : y550.length = (x5_1 : Int).toNat := (by rw [Ny550.out, List.length_take]; omega); rw [← Ny550.out] at hr19; rw [← hy19] at hr19 hcut19; clear hy19 hi019 hsz19 HO_0; have HO552 := Aside0.mk hr19; clear hr19; replace q19 := eq_true q19) | ((with_reducible refine gate_builtin (b := .append) (xs := #[.tmp 29, .tmp 31]) rfl ?_); at_builtin; refine Kd.R_append (Kd.int .i64) (w0 := w0) w0.heap.size rfl (.tmp 29) (.tmp 31) 30 3 (.int .i64 0) 8 rfl Try.underlying30 info3 rfl (by decide) (by omega) (.slice (some ad539) y550.length co3) y550 a1 [.int .i64 a1] (fun k_ => (P0_ k_ ∨ w.heap.size ≤ k_) ∧ some k_ ≠ (v548 : Value).ownBlock) (fun _ => False) rfl rfl ?aP (fun _ hk => hk.elim) ?aF ?aO ?aB ?aS ?aL ?_; (case aP => exact rfl); (case aB => exact tb); (case aF => exact (fun k_ hk => ⟨(.inr (Nat.le_trans (by first | exact HK.out.1 | exact (show Kept w _ (fun k_ => P0_ k_) from by repeat (first | (with_reducible first | exact HK.out | apply Kept.alloc | apply Kept.drewN | apply Kept.drew) | exact HK.out)).1) hk)), Kd.fresh' (Kd.R_lt (R_l HO549.out)) k_ hk⟩)); (case aO => exact (R_l HO552.out)); (case aS => exact (below_size tb)); (case aL => have := LMc13.out; omega); intro v554 w20 ho hb hg hat; rw [← Ny553.out] at ho; replace HO549 := Aside0.mk (Kd.R_after (ok := (fun k_ => (P0_ k_ ∨ w.heap.size ≤ k_))) (by (with_reducible repeat (first | apply Kd.R_alloc | apply Kd.R_drewN | apply Kd.R_drew)); first | exact HO549.out | exact Kd.R_mono HO549.out (fun k_ hk_ => ⟨hk_.1, by have h_ := hk_.2; revert h_; cases Ao3 <;> exact fun h_ => h_⟩)) hg hat); replace HB := Aside0.mk (hb); replace HK := Aside0.mk (Kept.of_grown (S := (fun k_ => P0_ k_)) hg (by repeat (first | (with_reducible first | exact HK.out | apply Kept.alloc | apply Kept.drewN | apply Kept.drew) | exact HK.out)) (fun k_ e_ => (HO552.out.1 k_ e_).1)); have HO555 := Aside0.mk (ho); clear HO552; clear ho hb hg hat; obtain ⟨Ao22, co22, eo22⟩ := Kd.R_slice HO549.out; subst eo22) | ((with_reducible refine gate_builtin (b := .append) (xs := #[.tmp 32, .tmp 33]) rfl ?_); at_builtin; refine Kd.R_append_rows (Kd.int .i64) (w0 := w0) w0.heap.size rfl (.tmp 32) (.tmp 33) 30 3 (.int .i64 0) 8 rfl Try.underlying30 info3 rfl (by decide) (by omega) v554 y553 y547 _ _ _ (fun k_ => (P0_ k_ ∨ w.heap.size ≤ k_) ∧ some k_ ≠ (.slice Ao22 y547.length co22 : Value).ownBlock) (fun _ => False) rfl rfl ?aO ?aR (fun _ _ h => h) (fun _ h => h.elim) ?aF ?aB ?aS ?aL ?_; (case aR => exact C_l ((Kd.R_reads' HO549.out).2.2)); (case aB => exact tb); (case aF => exact (fun k_ hk => ⟨(.inr (Nat.le_trans (by first | exact HK.out.1 | exact (show Kept w _ (fun k_ => P0_ k_) from by repeat (first | (with_reducible first | exact HK.out | apply Kept.alloc | apply Kept.drewN | apply Kept.drew) | exact HK.out)).1) hk)), Kd.fresh' (Kd.R_lt (R_l HO549.out)) k_ hk⟩)); (case aO => exact (R_l HO555.out)); (case aS => exact (below_size tb)); (case aL => have := LMc14.out; omega); intro v557 w21 ho hb hg hat; rw [← Ny556.out] at ho; replace HO549 := Aside0.mk (Kd.R_after (ok := (fun k_ => (P0_ k_ ∨ w.heap.size ≤ k_))) (by (with_reducible repeat (first | apply Kd.R_alloc | apply Kd.R_drewN | apply Kd.R_drew)); first | exact HO549.out | exact Kd.R_mono HO549.out (fun k_ hk_ => ⟨hk_.1, by have h_ := hk_.2; revert h_; cases Ao3 <;> exact fun h_ => h_⟩)) hg hat); replace HB := Aside0.mk (hb); replace HK := Aside0.mk (Kept.of_grown (S := (fun k_ => P0_ k_)) hg (by repeat (first | (with_reducible first | exact HK.out | apply Kept.alloc | apply Kept.drewN | apply Kept.drew) | exact HK.out)) (fun k_ e_ => (HO555.out.1 k_ e_).1)); have HO558 := Aside0.mk (ho); clear HO555; clear ho hb hg hat))
     go_ret
     exact ⟨_, by first | rfl | (simp [errW_none, errW_some] <;> rfl) | (simp only [← hji5]; first | rfl | (simp [errW_none, errW_some] <;> rfl)) | (simp [*, errW_none, errW_some] <;> rfl), R_l (Kd.R_mono HO558.out (fun _ hk => hk.1)), tb, by repeat (first | (with_reducible first | exact HK.out | apply Kept.alloc | apply Kept.drewN | apply Kept.drew) | exact HK.out)⟩
   ·rw [if_neg c4] at H
    have c4b0 : decide (0 < x5_1) = false := decide_eq_false c4
    clear c4
    obtain ⟨y559, Ny559, H⟩ := bn H
    by_cases c23 : 0 ≤ x5_1
    ·rw [if_pos c23] at H
     have c23b0 := eq_true c23
     have c23b1 : decide (0 ≤ x5_1) = true := decide_eq_true c23
     clear c23
     obtain ⟨c24, H⟩ := gd H
     have c24b0 := eq_true c24
     have c24b1 : decide (x5_1 ≤ (l0.length : Int)) = true := decide_eq_true c24
     clear c24
     generalize hy562 : (l0.drop (x5_1 : Int).toNat : List Int) = y562 at H
     have Ny562 := Aside0.mk hy562.symm; clear hy562
     obtain ⟨LMc25, H⟩ := gda H
     generalize hy566 : (y559 ++ y562 : List Int) = y566 at H
     have Ny566 := Aside0.mk hy566.symm; clear hy566
     have c26b0 := eq_true (dT : x5_1 ≤ (l0.length : Int))
     generalize hy569 : (l0.take (x5_1 : Int).toNat : List Int) = y569 at H
     have Ny569 := Aside0.mk hy569.symm; clear hy569
     obtain ⟨LMc27, H⟩ := gda H
     generalize hy572 : (y569 ++ [a1] : List Int) = y572 at H
     have Ny572 := Aside0.mk hy572.symm; clear hy572
     obtain ⟨LMc28, H⟩ := gda H
     generalize hy575 : (y572 ++ y566 : List Int) = y575 at H
     have Ny575 := Aside0.mk hy575.symm; clear hy575
     obtain rfl := Option.some.inj H
     go_wp2_with (first | ((with_reducible refine gate_dst (N := 22) rfl ?_); refine Kd.R_lit (Kd.int .i64) _ 3 ?hg (N := 22) ?hd (xs := ([] : List Int)) (inner := []) (ok := fun _ => True) (okp := fun _ => True) ?hr ?hp (fun _ hk => hk) trivial (Below.refl _ _) (Nat.le_refl _) (by simp) ?_; (case hd => rfl); (case hg => rfl); (case hr => exact gS); (case hp => exact (Reps.none _ _)); intro v560 w29 ho30 hb hg_ hnew_; clear hg_ hnew_; (first | rw [← Ny559.out] at ho30 | (simp only [Int.reduceToNat] at ho30; rw [← Ny559.out] at ho30)); have HO561 := Aside0.mk (Kd.R_lower (Kd.R_new' (Kd.R_newM (M := fun k_ => (P0_ k_ ∨ w.heap.size ≤ k_)) ho30 (by first | exact HK.out.1 | exact (show Kept w _ (fun k_ => P0_ k_) from by repeat (first | (with_reducible first | exact HK.out | apply Kept.alloc | apply Kept.drewN | apply Kept.drew) | exact HK.out)).1) (fun k_ h_ => .inr h_)) (Kd.R_lt (R_l HO_0.out))) (below_size tb)); replace HO_0 := Aside0.mk (Kd.R_elder' (R_l HO_0.out) (Kd.R_base ho30) hb); replace HK := Aside0.mk (Kept.below (S := (fun k_ => P0_ k_)) (by repeat (first | (with_reducible first | exact HK.out | apply Kept.alloc | apply Kept.drewN | apply Kept.drew) | exact HK.out)) hb); replace HB := Aside0.mk (below_step tb hb); clear hb ho30; have q31 : (x5_1 : Int) ≤ ((l0.length : Int) : Int) := dT; obtain ⟨i031, hi031, _, hsz31, _⟩ := info_parts info3; have hroom31 : l0.length ≤ co3 := (Kd.R_reads' HO_0.out).2.1; have hC31 : Kd.C (Kd.int .i64) _ Ao3 l0.length l0 := (Kd.R_reads' HO_0.out).2.2; have q031 : (0 : Int) ≤ (x5_1 : Int) := dT; have hcut31 := cut_from (P := Try.prog) 30 3 .i64 Try.underlying30 hi031 1 hsz31 Ao3 l0.length co3 x5_1 q031 q31; have hr31 := Kd.C_drop (m := (x5_1 : Int).toNat) (c := co3) hC31 (by omega) hroom31; obtain ⟨A31, hA31⟩ : ∃ A1, A1 = (if co3 = (x5_1 : Int).toNat then Ao3 else (Ao3 : Option Addr).map (·.add ((x5_1 : Int).toNat * 1))) := ⟨_, rfl⟩; obtain ⟨c31, hc31⟩ : ∃ c1, c1 = co3 - (x5_1 : Int).toNat := ⟨_, rfl⟩; have hy31 : y562.length = l0.length - (x5_1 : Int).toNat := (by rw [Ny562.out, List.length_drop] <;> omega); rw [show (l0).drop (x5_1 : Int).toNat = y562 from Ny562.out.symm] at hr31; replace hr31 : Kd.C (Kd.int .i64) _ A31 y562.length y562 := (by rw [hA31]; exact hr31); rw [← hy31, ← hA31, ← hc31] at hcut31; have HR565 := Aside0.mk hr31; have HC565 := Aside0.mk (show y562.length ≤ c31 from by rw [hy31, hc31]; exact Nat.sub_le_sub_right hroom31 _); clear hr31 hC31 hroom31 hi031 hsz31 hc31; have KY31 := Aside0.mk hy31; have KA31 := Aside0.mk hA31; clear hy31 hA31; have KL31 := Aside0.mk (show (x5_1 : Int).toNat ≤ l0.length from by omega); replace q31 := eq_true q31) | ((with_reducible refine gate_builtin (b := .append) (xs := #[.tmp 22, .tmp 25]) rfl ?_); at_builtin; refine Kd.R_append_rows (Kd.int .i64) (w0 := w0) w0.heap.size rfl (.tmp 22) (.tmp 25) 30 3 (.int .i64 0) 8 rfl Try.underlying30 info3 rfl (by decide) (by omega) v560 y559 y562 _ _ _ (fun k_ => (P0_ k_ ∨ w.heap.size ≤ k_) ∧ some k_ ≠ (.slice Ao3 l0.length co3 : Value).ownBlock) (fun _ => False) rfl rfl ?aO ?aR (fun _ _ h => h) (fun _ h => h.elim) ?aF ?aB ?aS ?aL ?_; (case aR => repeat (first | exact (by repeat (first | (with_reducible exact HR565.out) | (with_reducible refine Kd.C_alloc ?_ _) | (with_reducible refine Kd.C_drewN ?_ _) | (with_reducible refine Kd.C_drew ?_) | exact HR565.out)) | (with_reducible refine Kd.C_alloc ?_ _) | (with_reducible refine Kd.C_drewN ?_ _) | (with_reducible refine Kd.C_drew ?_))); (case aB => exact tb); (case aF => exact (fun k_ hk => ⟨(.inr (Nat.le_trans (by first | exact HK.out.1 | exact (show Kept w _ (fun k_ => P0_ k_) from by repeat (first | (with_reducible first | exact HK.out | apply Kept.alloc | apply Kept.drewN | apply Kept.drew) | exact HK.out)).1) hk)), Kd.fresh' (Kd.R_lt (R_l HO_0.out)) k_ hk⟩)); (case aO => exact (R_l (Kd.R_mono HO561.out (fun _ hk => ⟨hk.1.1, hk.2⟩)))); (case aS => exact (below_size tb)); (case aL => have := LMc25.out; omega); intro v567 w32 ho hb hg hat; rw [← Ny566.out] at ho; replace HB := Aside0.mk (hb); replace HK := Aside0.mk (Kept.of_grown (S := (fun k_ => P0_ k_)) hg (by repeat (first | (with_reducible first | exact HK.out | apply Kept.alloc | apply Kept.drewN | apply Kept.drew) | exact HK.out)) (fun k_ e_ => (HO561.out.1 k_ e_).1.1)); replace HR565 := Aside0.mk ((show Kd.C (Kd.int .i64) w32 A31 y562.length y562 from by rw [Ny562.out, KA31.out]; exact Kd.C_drop (m := (x5_1 : Int).toNat) (c := co3) ((Kd.R_reads' (Kd.R_after (ok := (fun k_ => (P0_ k_ ∨ w.heap.size ≤ k_))) (R_l HO_0.out) hg hat)).2.2) KL31.out ((Kd.R_reads' (Kd.R_after (ok := (fun k_ => (P0_ k_ ∨ w.heap.size ≤ k_))) (R_l HO_0.out) hg hat)).2.1))); replace HO_0 := Aside0.mk (Kd.R_after (ok := (fun k_ => (P0_ k_ ∨ w.heap.size ≤ k_))) (R_l HO_0.out) hg hat); have HO568 := Aside0.mk (ho); clear HO561; clear ho hb hg hat; have q33 : (x5_1 : Int) ≤ ((l0.length : Int) : Int) := dT; obtain ⟨i033, hi033, _, hsz33, _⟩ := info_parts info3; have hcut33 := cut_to (P := Try.prog) 30 3 .i64 Try.underlying30 hi033 Ao3 l0.length co3 x5_1 dT q33 (Kd.R_reads' HO_0.out).2.1; have hr33 := Kd.R_take (m := (x5_1 : Int).toNat) HO_0.out (by omega); have hy33 : y569.length = (x5_1 : Int).toNat := (by rw [Ny569.out, List.length_take]; omega); rw [← Ny569.out] at hr33; rw [← hy33] at hr33 hcut33; clear hy33 hi033 hsz33 HO_0; have HO571 := Aside0.mk hr33; clear hr33; replace q33 := eq_true q33) | ((with_reducible refine gate_builtin (b := .append) (xs := #[.tmp 29, .tmp 31]) rfl ?_); at_builtin; refine Kd.R_append (Kd.int .i64) (w0 := w0) w0.heap.size rfl (.tmp 29) (.tmp 31) 30 3 (.int .i64 0) 8 rfl Try.underlying30 info3 rfl (by decide) (by omega) (.slice Ao3 y569.length co3) y569 a1 [.int .i64 a1] (fun k_ => (P0_ k_ ∨ w.heap.size ≤ k_) ∧ some k_ ≠ (v567 : Value).ownBlock) (fun _ => False) rfl rfl ?aP (fun _ hk => hk.elim) ?aF ?aO ?aB ?aS ?aL ?_; (case aP => exact rfl); (case aB => exact tb); (case aF => exact (fun k_ hk => ⟨(.inr (Nat.le_trans (by first | exact HK.out.1 | exact (show Kept w _ (fun k_ => P0_ k_) from by repeat (first | (with_reducible first | exact HK.out | apply Kept.alloc | apply Kept.drewN | apply Kept.drew) | exact HK.out)).1) hk)), Kd.fresh' (Kd.R_lt (R_l HO568.out)) k_ hk⟩)); (case aO => exact (R_l HO571.out)); (case aS => exact (below_size tb)); (case aL => have := LMc27.out; omega); intro v573 w34 ho hb hg hat; rw [← Ny572.out] at ho; replace HO568 := Aside0.mk (Kd.R_after (ok := (fun k_ => (P0_ k_ ∨ w.heap.size ≤ k_))) (by (with_reducible repeat (first | apply Kd.R_alloc | apply Kd.R_drewN | apply Kd.R_drew)); first | exact HO568.out | exact Kd.R_mono HO568.out (fun k_ hk_ => ⟨hk_.1, by have h_ := hk_.2; revert h_; cases Ao3 <;> exact fun h_ => h_⟩)) hg hat); replace HB := Aside0.mk (hb); replace HK := Aside0.mk (Kept.of_grown (S := (fun k_ => P0_ k_)) hg (by repeat (first | (with_reducible first | exact HK.out | apply Kept.alloc | apply Kept.drewN | apply Kept.drew) | exact HK.out)) (fun k_ e_ => (HO571.out.1 k_ e_).1)); have HO574 := Aside0.mk (ho); clear HO571; clear ho hb hg hat; obtain ⟨Ao36, co36, eo36⟩ := Kd.R_slice HO568.out; subst eo36) | ((with_reducible refine gate_builtin (b := .append) (xs := #[.tmp 32, .tmp 33]) rfl ?_); at_builtin; refine Kd.R_append_rows (Kd.int .i64) (w0 := w0) w0.heap.size rfl (.tmp 32) (.tmp 33) 30 3 (.int .i64 0) 8 rfl Try.underlying30 info3 rfl (by decide) (by omega) v573 y572 y566 _ _ _ (fun k_ => (P0_ k_ ∨ w.heap.size ≤ k_) ∧ some k_ ≠ (.slice Ao36 y566.length co36 : Value).ownBlock) (fun _ => False) rfl rfl ?aO ?aR (fun _ _ h => h) (fun _ h => h.elim) ?aF ?aB ?aS ?aL ?_; (case aR => exact C_l ((Kd.R_reads' HO568.out).2.2)); (case aB => exact tb); (case aF => exact (fun k_ hk => ⟨(.inr (Nat.le_trans (by first | exact HK.out.1 | exact (show Kept w _ (fun k_ => P0_ k_) from by repeat (first | (with_reducible first | exact HK.out | apply Kept.alloc | apply Kept.drewN | apply Kept.drew) | exact HK.out)).1) hk)), Kd.fresh' (Kd.R_lt (R_l HO568.out)) k_ hk⟩)); (case aO => exact (R_l HO574.out)); (case aS => exact (below_size tb)); (case aL => have := LMc28.out; omega); intro v576 w35 ho hb hg hat; rw [← Ny575.out] at ho; replace HO568 := Aside0.mk (Kd.R_after (ok := (fun k_ => (P0_ k_ ∨ w.heap.size ≤ k_))) (by (with_reducible repeat (first | apply Kd.R_alloc | apply Kd.R_drewN | apply Kd.R_drew)); first | exact HO568.out | exact Kd.R_mono HO568.out (fun k_ hk_ => ⟨hk_.1, by have h_ := hk_.2; revert h_; cases Ao3 <;> exact fun h_ => h_⟩)) hg hat); replace HB := Aside0.mk (hb); replace HK := Aside0.mk (Kept.of_grown (S := (fun k_ => P0_ k_)) hg (by repeat (first | (with_reducible first | exact HK.out | apply Kept.alloc | apply Kept.drewN | apply Kept.drew) | exact HK.out)) (fun k_ e_ => (HO574.out.1 k_ e_).1)); have HO577 := Aside0.mk (ho); clear HO574; clear ho hb hg hat))
     go_ret
     exact ⟨_, rE, R_l (Kd.R_mono HO577.out (fun _ hk => hk.1)), tb, by repeat (first | (with_reducible first | exact HK.out | apply Kept.alloc | apply Kept.drewN | apply Kept.drew) | exact HK.out)⟩
    ·rw [if_neg c23] at H
     exact absurd H (by simp)

/-! ### spec_LiftLengths: function 17 -/
def spec_LiftLengths.l0 : Nat → List Int → List (List Int) → Int → Option (List Int)
 | 0, _, _, _ => none
 | k + 1, x5, x6, x7 => if x7 < (x6.length : Int) then (if 0 ≤ x7 then ((spec_l9Put.f k x5 ((rd_L2 x6 x7).length : Int)).bind fun t588 => (spec_LiftLengths.l0 k t588 x6 (wrap64 (x7 + 1)))) else (none)) else (some x5)
def spec_LiftLengths.f (k : Nat) (l0 : List (List Int)) (l1 : List Int) : Option (List Int) := (spec_ActWord.f k l0 l1).bind fun t581 => ((spec_l6Cycles.f k t581).bind fun t584 => (spec_LiftLengths.l0 k (([] : List Int)) t584 0))
set_option maxHeartbeats 8000000 in
set_option maxRecDepth 100000 in
theorem spec_LiftLengths.calls (k : Nat) (A0 : Option Addr) (c0 : Nat) (l0 : List (List Int)) (A1 : Option Addr) (c1 : Nat) (l1 : List Int) (r : List Int) (w : World) (hr0 : Kd.C (Kd.slice 3 (Kd.int .i64)) w A0 l0.length l0) (hc0 : l0.length ≤ c0) (hr1 : Kd.C (Kd.int .i64) w A1 l1.length l1) (hc1 : l1.length ≤ c1) (h : spec_LiftLengths.f k l0 l1 = some r) :
  Calls Try.prog 17 #[.slice A0 l0.length c0, .slice A1 l1.length c1] w fun e w' => ∃ v0_ : Value, e = .returned (v0_) ∧ Kd.R (Kd.int .i64) 3 w' w.heap.size (fun _ => True) v0_ r ∧ Below w.heap.size w w' := by
 have HR0 := Aside0.mk hr0
 have HC0 := Aside0.mk hc0
 clear hr0 hc0
 have HR1 := Aside0.mk hr1
 have HC1 := Aside0.mk hc1
 clear hr1 hc1
 have HB := Aside0.mk (Below.refl w.heap.size w)
 have H : ((spec_ActWord.f k l0 l1).bind fun t581 => ((spec_l6Cycles.f k t581).bind fun t584 => (spec_LiftLengths.l0 k (([] : List Int)) t584 0))) = some r := h
 clear h
 generalize hy578 : (([] : List Int) : List Int) = y578 at H
 have Ny578 := Aside0.mk hy578.symm; clear hy578
 obtain ⟨t581, A3, H⟩ := bs H
 obtain ⟨t584, A4, H⟩ := bs H
 have H' := Aside0.mk H
 clear H
 go_enter Try.func17, Try.ntmps17
 go_wp2_with (first | ((with_reducible refine gate_dst (N := 8) rfl ?_); refine Kd.R_lit (Kd.int .i64) _ 3 ?hg (N := 8) ?hd (xs := ([] : List Int)) (inner := []) (ok := fun _ => True) (okp := fun _ => True) ?hr ?hp (fun _ hk => hk) trivial (Below.refl _ _) (Nat.le_refl _) (by simp) ?_; (case hd => rfl); (case hg => rfl); (case hr => exact gS); (case hp => exact (Reps.none _ _)); intro v579 w5 ho6 hb hg_ hnew_; clear hg_ hnew_; (first | rw [← Ny578.out] at ho6 | (simp only [Int.reduceToNat] at ho6; rw [← Ny578.out] at ho6)); have HO580 := Aside0.mk (Kd.R_lower ho6 (below_size tb)); replace HB := Aside0.mk (below_step tb hb); clear hb ho6) | (refine gL 16 (some 11) Try.func16 #[.slice A0 l0.length c0, .slice A1 l1.length c1] ?_; (with_reducible refine (spec_ActWord.calls k _ _ l0 _ _ l1 t581 _ ?side1 ?side2 ?side3 ?side4 A3.out).mono ?_); (case side1 => exact C_l (Kd.C_below HR0.out HB.out)); (case side2 => exact HC0.out); (case side3 => exact C_l (Kd.C_below HR1.out HB.out)); (case side4 => exact HC1.out); rintro e w7 ⟨v582, rfl, ho0, hb⟩; refine ⟨_, rfl, ?_⟩; have HO583 := Aside0.mk (Kd.R_lower (Kd.R_new' ho0 (Kd.R_lt (R_l HO580.out))) (below_size tb)); replace HO580 := Aside0.mk (Kd.R_elder' (R_l HO580.out) (Kd.R_base ho0) hb); replace HB := Aside0.mk (below_step tb hb); obtain ⟨Ao8, co8, eo8⟩ := Kd.R_slice HO583.out; subst eo8) | (refine gL 38 (some 12) Try.func38 #[.slice Ao8 t581.length co8] ?_; (with_reducible refine (spec_l6Cycles.calls k _ _ t581 t584 _ ?side1 ?side2 A4.out).mono ?_); (case side1 => exact C_l ((Kd.R_reads' HO583.out).2.2)); (case side2 => exact (Kd.R_reads' HO583.out).2.1); rintro e w9 ⟨v585, rfl, ho0, hb⟩; refine ⟨_, rfl, ?_⟩; have HO586 := Aside0.mk (Kd.S_lower (Kd.S_new' (Kd.S_new' ho0 (Kd.R_lt (R_l HO580.out))) (Kd.R_lt (R_l HO583.out))) (below_size tb)); replace HO580 := Aside0.mk (rB HO580.out hb); replace HO583 := Aside0.mk (rB HO583.out hb); replace HB := Aside0.mk (below_step tb hb)))
 go_loopg [5, 7] k (fun kq v5 v7 w' => ∃ (x5_1 : List Int) (x7_1 : Int), v7 = .int .i64 x7_1 ∧ Aside0 (spec_LiftLengths.l0 kq x5_1 t584 x7_1 = some r) ∧ Aside0 (kq ≤ k) ∧ Aside0 (Kd.R (Kd.int .i64) 3 w' w.heap.size (fun _ => True) v5 x5_1) ∧ Aside0 (Kd.S (Kd.slice 3 (Kd.int .i64)) 30 w' w.heap.size (fun k_ => some k_ ≠ (v5 : Value).ownBlock) v585 t584) ∧ Aside0 (Below w.heap.size w w'))
 case atStart => exact ⟨(y578), (0), rS, H', ⟨Nat.le_refl _⟩, ⟨R_l (Kd.R_mono HO580.out (fun _ hk => trivial))⟩, ⟨S_l (Kd.S_mono HO586.out (fun _ hk => hk.1.2))⟩, ⟨tb⟩⟩
 case round =>
  clear H'
  try clear c1
  try clear p2
  try clear c3
  obtain ⟨x5_1, x7_1, rfl, HA, HK1, HO_5, HO_6, HB⟩ := hrel
  cases gk with
  | zero => exact absurd HA.out (by simp [spec_LiftLengths.l0])
  | succ k1 =>
   have H := HA.out
   clear HA
   simp only [spec_LiftLengths.l0] at H
   obtain ⟨c10b0, H⟩ | ⟨c10b0, H⟩ := gi H
   ·obtain ⟨c11b0, H⟩ := gdt H
    obtain ⟨t588, A12, H⟩ := bs H
    have H' := Aside0.mk H
    clear H
    obtain ⟨Ao13, co13, eo13⟩ := Kd.S_slice HO_6.out
    subst eo13
    have p587 : 0 ≤ (x7_1 : Int) := dT
    have q587 : x7_1 < (t584.length : Int) := dT
    obtain ⟨ad587, A587_0, c587_0, e587, hx587_0, hl587_0, hi587_0⟩ := at_L2 (Kd.S_reads' HO_6.out).2.2 x7_1 p587 q587
    cases e587
    obtain ⟨ce587, hce587, hMe587, hcc587⟩ := Kd.S_get HO_6.out [] x7_1 p587 (by first | exact q587 | exact dT | (have e_ := (Kd.S_reads' HO_6.out).1; omega))
    obtain ⟨ve587_0, rfl, ge587_0⟩ := hMe587
    have hv587_0 := hcc587 0 _ rfl
    rw [Nat.add_zero, show ((Kd.slice 3 (Kd.int .i64))).sz = 1 from rfl, Nat.mul_one] at hv587_0
    replace hv587_0 := Option.some.inj (hv587_0.symm.trans hx587_0)
    rw [hv587_0] at ge587_0
    have HL587_0 := Aside0.mk (show Kd.R (Kd.int .i64) 3 _ _ _ _ (rd_L2 t584 x7_1) from ge587_0)
    clear hv587_0 ge587_0
    clear hcc587 hce587
    have HR587_0 := Aside0.mk hi587_0
    have HC587_0 := Aside0.mk hl587_0
    clear hi587_0 hl587_0
    replace p587 := eq_true p587
    replace q587 := eq_true q587
    obtain ⟨Ao14, co14, eo14⟩ := Kd.R_slice HO_5.out
    subst eo14
    go_wp2_with (first | (refine gL 54 (some 25) Try.func54 #[.slice Ao14 x5_1.length co14, .int .i64 ((rd_L2 t584 x7_1).length : Int)] ?_; (with_reducible refine (spec_l9Put.calls k1 (fun k_ => some k_ = (.slice Ao14 x5_1.length co14 : Value).ownBlock) (.slice Ao14 x5_1.length co14) x5_1 ((rd_L2 t584 x7_1).length : Int) t588 w _ ?side1 ?side2 A12.out).mono ?_); (case side1 => exact tb); (case side2 => exact Kd.R_tight rfl HO_5.out); rintro e w15 ⟨v589, rfl, ho0, hb, hkp⟩; refine ⟨_, rfl, ?_⟩; replace HO_6 := Aside0.mk (Kd.S_mono (ok' := fun k_ => some k_ ≠ (v589 : Value).ownBlock) (Kd.S_keptB (HO_6.out) hkp (fun k_ hk_ hs_ => (hk_) hs_)) (fun k_ hk_ => fun e_ => Or.elim (ho0.1 k_ e_.symm) (fun hs_ => hk_.2.1 hs_) (fun hn_ => Nat.not_le.2 hk_.2.2 hn_))); have HO590 := Aside0.mk (Kd.R_mono (ok' := fun k_ => True) ho0 (fun k_ hk_ => trivial)); replace HB := Aside0.mk (hb); clear HO_5 HL587_0; (try clear hkp)))
    go_roundg k1
    case measure => exact oK
    case rel => exact ⟨(t588), (wrap64 (x7_1 + 1)), rS, H', ⟨oK⟩, ⟨R_l HO590.out⟩, ⟨S_l HO_6.out⟩, ⟨tb⟩⟩
   ·obtain rfl := Option.some.inj H
    obtain ⟨Ao16, co16, eo16⟩ := Kd.S_slice HO_6.out
    subst eo16
    go_wp2
    go_ret
    exact ⟨_, rE, R_l HO_5.out, tb⟩

end Go.Proofs.Ytepogblkmiidnaa.PFnCovers
