import Derived.Test.YtepogblkmiidnaaWSpanB
import Derived.Test.YtepogblkmiidnaaPFnCoversx0
import Derived.Test.YtepogblkmiidnaaPFnCoversx8
import Derived.Test.YtepogblkmiidnaaPFnCoversx9
import Derived.Test.YtepogblkmiidnaaPFnCoversx10
namespace Go.Proofs.Ytepogblkmiidnaa.PFnCovers
open Go.RowKit Go.Proofs.YtepogblkmiidnaaW.PrintWords Go.Proofs.YtepogblkmiidnaaW.PrintLast Go.Proofs.YtepogblkmiidnaaW.PrintMore
attribute [local go_sem] max2_int min2_int max_two min_two max_three min_three max_four min_four   -- for this text's walks alone
set_option linter.unusedVariables false
set_option linter.unusedSimpArgs false

/-! ### spec_IsAction: function 24 -/
def spec_IsAction.j0 : Nat → Int → List (List Int) → Bool → Option (Bool)
 | 0, _, _, _ => none
 | k + 1, x0, x1, x20 => if x20 = true then (some false) else (if x0 = 0 then (some true) else ((spec_Relator.f x0).bind fun t361 => ((spec_ActWord.f k x1 t361).bind fun t364 => ((spec_l9Whole.f k t364).bind fun t367 => (some t367)))))
def spec_IsAction.f (k : Nat) (a0 : Int) (l1 : List (List Int)) : Option (Bool) := (spec_l1In.f a0 0 2).bind fun t358 => (if t358 = true then ((spec_l9Perms.f k l1).bind fun t359 => (if t359 = true then ((spec_l1Max.f 1 a0).bind fun t360 => (spec_IsAction.j0 k a0 l1 ((l1.length : Int) != (wrap64 (2 * t360))))) else (spec_IsAction.j0 k a0 l1 true))) else (spec_IsAction.j0 k a0 l1 true))
set_option maxHeartbeats 8000000 in
set_option maxRecDepth 100000 in
theorem spec_IsAction.calls (k : Nat) (a0 : Int) (A1 : Option Addr) (c1 : Nat) (l1 : List (List Int)) (r : Bool) (w : World) (hr1 : Kd.C (Kd.slice 3 (Kd.int .i64)) w A1 l1.length l1) (hc1 : l1.length ≤ c1) (h : spec_IsAction.f k a0 l1 = some r) :
  Calls Try.prog 24 #[.int .i64 a0, .slice A1 l1.length c1] w fun e w' => e = .returned (.bool r) ∧ Below w.heap.size w w' := by
 have HR1 := Aside0.mk hr1
 have HC1 := Aside0.mk hc1
 clear hr1 hc1
 have HB := Aside0.mk (Below.refl w.heap.size w)
 have H : ((spec_l1In.f a0 0 2).bind fun t358 => (if t358 = true then ((spec_l9Perms.f k l1).bind fun t359 => (if t359 = true then ((spec_l1Max.f 1 a0).bind fun t360 => (spec_IsAction.j0 k a0 l1 ((l1.length : Int) != (wrap64 (2 * t360))))) else (spec_IsAction.j0 k a0 l1 true))) else (spec_IsAction.j0 k a0 l1 true))) = some r := h
 clear h
 have HC3 := Aside0.mk H
 clear H
 go_enter Try.func24, Try.ntmps24
 go_upto_region 1 with (fail)
 go_cut [20] (fun v20 wc => ∃ (kq : Nat) (x20_2 : Bool), v20 = .bool x20_2 ∧ Aside0 (spec_IsAction.j0 kq a0 l1 x20_2 = some r) ∧ Aside0 (kq ≤ k) ∧ Aside0 (Below w.heap.size w wc))
 case first =>
  have H := HC3.out
  clear HC3
  obtain ⟨t358, A4, H⟩ := bs H
  by_cases c5 : t358 = true
  ·subst c5
   rw [if_pos rfl] at H
   obtain ⟨t359, A6, H⟩ := bs H
   by_cases c7 : t359 = true
   ·subst c7
    rw [if_pos rfl] at H
    obtain ⟨t360, A8, H⟩ := bs H
    have H' := Aside0.mk H
    clear H
    go_wp2_with (first | (refine gL 55 (some 6) Try.func55 #[.int .i64 a0, .int .i64 0, .int .i64 2] ?_; (with_reducible refine (spec_l1In.calls a0 0 2 true _ A4.out).mono ?_); rintro e w' ⟨rfl, ⟨nd, rfl⟩⟩; refine ⟨_, rfl, ?_⟩) | (go_at_call 50; (with_reducible refine (spec_l9Perms.calls k _ _ l1 true _ ?side1 ?side2 A6.out).mono ?_); (case side1 => exact C_l (Kd.C_below HR1.out tb)); (case side2 => exact HC1.out); rintro e w9 ⟨rfl, hb⟩; replace HB := Aside0.mk (below_step tb hb)) | (go_at_call 61; (with_reducible refine (spec_l1Max.calls 1 a0 t360 _ A8.out).mono ?_); rintro e w' ⟨rfl, ⟨nd, rfl⟩⟩))
    go_meet
    case rel => exact ⟨_, (((l1.length : Int) != (wrap64 (2 * t360)))), rS, H', ⟨by first | omega | exact Nat.le_refl _⟩, ⟨tb⟩⟩
   ·replace c7 := Bool.eq_false_iff.mpr c7
    subst c7
    rw [if_neg (show ¬ (false = true) by decide)] at H
    have H' := Aside0.mk H
    clear H
    go_wp2_with (first | (refine gL 55 (some 6) Try.func55 #[.int .i64 a0, .int .i64 0, .int .i64 2] ?_; (with_reducible refine (spec_l1In.calls a0 0 2 true _ A4.out).mono ?_); rintro e w' ⟨rfl, ⟨nd, rfl⟩⟩; refine ⟨_, rfl, ?_⟩) | (go_at_call 50; (with_reducible refine (spec_l9Perms.calls k _ _ l1 false _ ?side1 ?side2 A6.out).mono ?_); (case side1 => exact C_l (Kd.C_below HR1.out tb)); (case side2 => exact HC1.out); rintro e w10 ⟨rfl, hb⟩; replace HB := Aside0.mk (below_step tb hb)))
    go_meet
    case rel => exact ⟨_, (true), rS, H', ⟨by first | omega | exact Nat.le_refl _⟩, ⟨tb⟩⟩
  ·replace c5 := Bool.eq_false_iff.mpr c5
   subst c5
   rw [if_neg (show ¬ (false = true) by decide)] at H
   have H' := Aside0.mk H
   clear H
   go_wp2_with (first | (refine gL 55 (some 6) Try.func55 #[.int .i64 a0, .int .i64 0, .int .i64 2] ?_; (with_reducible refine (spec_l1In.calls a0 0 2 false _ A4.out).mono ?_); rintro e w' ⟨rfl, ⟨nd, rfl⟩⟩; refine ⟨_, rfl, ?_⟩))
   go_meet
   case rel => exact ⟨_, (true), rS, H', ⟨by first | omega | exact Nat.le_refl _⟩, ⟨tb⟩⟩
 case rest =>
  clear HC3
  try clear c1
  try clear c2
  try clear p2
  try clear c5
  try clear p6
  try clear c7
  obtain ⟨kq, x20_2, rfl, HA, HJ2, HB⟩ := hcut
  cases kq with
  | zero => exact absurd HA.out (by simp [spec_IsAction.j0])
  | succ kj2 =>
   have H := HA.out
   clear HA
   simp only [spec_IsAction.j0] at H
   by_cases c11 : x20_2 = true
   ·subst c11
    rw [if_pos rfl] at H
    obtain rfl := Option.some.inj H
    go_wp2
    go_ret
    exact ⟨rE, tb⟩
   ·replace c11 := Bool.eq_false_iff.mpr c11
    subst c11
    rw [if_neg (show ¬ (false = true) by decide)] at H
    by_cases c12 : a0 = 0
    ·rw [if_pos c12] at H
     have c12b0 : (a0 == 0) = true := beq_iff_eq.mpr c12
     have c12b1 : (a0 != 0) = false := bne_eq_false_iff_eq.mpr c12
     clear c12
     obtain rfl := Option.some.inj H
     go_wp2
     go_ret
     exact ⟨rE, tb⟩
    ·rw [if_neg c12] at H
     have c12b0 : (a0 == 0) = false := beq_eq_false_iff_ne.mpr c12
     have c12b1 : (a0 != 0) = true := bne_iff_ne.mpr c12
     obtain ⟨t361, A13, H⟩ := bs H
     obtain ⟨t364, A14, H⟩ := bs H
     obtain ⟨t367, A15, H⟩ := bs H
     obtain rfl := Option.some.inj H
     go_wp2_with (first | (go_at_call 39; (with_reducible refine (spec_Relator.calls a0 t361 _ A13.out).mono ?_); rintro e w16 ⟨v362, rfl, ho0, hb⟩; have HO363 := Aside0.mk (Kd.R_lower ho0 (below_size tb)); replace HB := Aside0.mk (below_step tb hb); obtain ⟨Ao17, co17, eo17⟩ := Kd.R_slice HO363.out; subst eo17) | (go_at_call 16; (with_reducible refine (spec_ActWord.calls kj2 _ _ l1 _ _ t361 t364 _ ?side1 ?side2 ?side3 ?side4 A14.out).mono ?_); (case side1 => exact C_l (Kd.C_below HR1.out HB.out)); (case side2 => exact HC1.out); (case side3 => exact C_l ((Kd.R_reads' HO363.out).2.2)); (case side4 => exact (Kd.R_reads' HO363.out).2.1); rintro e w18 ⟨v365, rfl, ho0, hb⟩; have HO366 := Aside0.mk (Kd.R_lower (Kd.R_new' ho0 (Kd.R_lt (R_l HO363.out))) (below_size tb)); replace HO363 := Aside0.mk (Kd.R_elder' (R_l HO363.out) (Kd.R_base ho0) hb); replace HB := Aside0.mk (below_step tb hb); obtain ⟨Ao19, co19, eo19⟩ := Kd.R_slice HO366.out; subst eo19) | (go_at_call 62; (with_reducible refine (spec_l9Whole.calls kj2 _ _ t364 t367 _ ?side1 ?side2 A15.out).mono ?_); (case side1 => exact C_l ((Kd.R_reads' HO366.out).2.2)); (case side2 => exact (Kd.R_reads' HO366.out).2.1); rintro e w' ⟨rfl, ⟨nd, rfl⟩⟩))
     go_ret
     exact ⟨rE, tb⟩

/-! ### spec_l3Find: function 76 -/
def spec_l3Find.l0 : Nat → List Int → Int → Option (Int)
 | 0, _, _ => none
 | k + 1, x0, x1 => if 0 ≤ x1 then (if x1 < (x0.length : Int) then (if (rd x0 x1) = x1 then (some x1) else (spec_l3Find.l0 k x0 (rd x0 x1))) else (none)) else (none)
def spec_l3Find.f (k : Nat) (l0 : List Int) (a1 : Int) : Option (Int) := spec_l3Find.l0 k l0 a1
set_option maxHeartbeats 8000000 in
set_option maxRecDepth 100000 in
theorem spec_l3Find.calls (k : Nat) (A0 : Option Addr) (c0 : Nat) (l0 : List Int) (a1 : Int) (r : Int) (w : World) (hr0 : Kd.C (Kd.int .i64) w A0 l0.length l0) (hc0 : l0.length ≤ c0) (h : spec_l3Find.f k l0 a1 = some r) :
  Calls Try.prog 76 #[.slice A0 l0.length c0, .int .i64 a1] w fun e w' => e = .returned (.int .i64 r) ∧ Drawn0 w w' := by
 have HR0 := Aside0.mk hr0
 have HC0 := Aside0.mk hc0
 clear hr0 hc0
 have H : (spec_l3Find.l0 k l0 a1) = some r := h
 clear h
 have H' := Aside0.mk H
 clear H
 go_enter Try.func76, Try.ntmps76
 go_wp2
 go_loopg [1] k (fun kq v1 w' => ∃ (x1_1 : Int), v1 = .int .i64 x1_1 ∧ Aside0 (spec_l3Find.l0 kq l0 x1_1 = some r) ∧ Aside0 (kq ≤ k) ∧ Drawn0 w w')
 case atStart => exact ⟨(a1), rS, H', ⟨Nat.le_refl _⟩, tD⟩
 case round =>
  clear H'
  try clear p2
  obtain ⟨x1_1, rfl, HA, HK1, ⟨m1, rfl⟩⟩ := hrel
  cases gk with
  | zero => exact absurd HA.out (by simp [spec_l3Find.l0])
  | succ k1 =>
   have H := HA.out
   clear HA
   simp only [spec_l3Find.l0] at H
   by_cases c3 : 0 ≤ x1_1
   ·rw [if_pos c3] at H
    have c3b0 : decide (0 ≤ x1_1) = true := decide_eq_true c3
    clear c3
    obtain ⟨c4b0, H⟩ := gdt H
    by_cases c5 : (rd l0 x1_1) = x1_1
    ·rw [if_pos c5] at H
     have c5b0 : ((rd l0 x1_1) == x1_1) = true := beq_iff_eq.mpr c5
     have c5b1 : ((rd l0 x1_1) != x1_1) = false := bne_eq_false_iff_eq.mpr c5
     clear c5
     obtain rfl := Option.some.inj H
     have p368 : 0 ≤ (x1_1 : Int) := dT
     have q368 : x1_1 < (l0.length : Int) := dT
     obtain ⟨ad368, e368, hx368_0⟩ := Kd.at_int HR0.out x1_1 p368 q368
     cases e368
     replace p368 := eq_true p368
     replace q368 := eq_true q368
     go_wp2
     go_ret
     exact ⟨rS, tD⟩
    ·rw [if_neg c5] at H
     have c5b0 : ((rd l0 x1_1) == x1_1) = false := beq_eq_false_iff_ne.mpr c5
     have c5b1 : ((rd l0 x1_1) != x1_1) = true := bne_iff_ne.mpr c5
     have H' := Aside0.mk H
     clear H
     have p368 : 0 ≤ (x1_1 : Int) := dT
     have q368 : x1_1 < (l0.length : Int) := dT
     obtain ⟨ad368, e368, hx368_0⟩ := Kd.at_int HR0.out x1_1 p368 q368
     cases e368
     replace p368 := eq_true p368
     replace q368 := eq_true q368
     have p369 : 0 ≤ (x1_1 : Int) := dT
     have q369 : x1_1 < (l0.length : Int) := dT
     obtain ⟨ad369, e369, hx369_0⟩ := Kd.at_int HR0.out x1_1 p369 q369
     obtain rfl : ad368 = ad369 := (by injection e369)
     replace p369 := eq_true p369
     replace q369 := eq_true q369
     go_wp2
     go_roundg k1
     case measure => exact oK
     case rel => exact ⟨(rd l0 x1_1), rS, H', ⟨oK⟩, tD⟩
   ·rw [if_neg c3] at H
    exact absurd H (by simp)

/-! ### spec_l1Min: function 77 -/
def spec_l1Min.f (a0 : Int) (a1 : Int) : Option (Int) := if a0 < a1 then (some a0) else (some a1)
set_option maxHeartbeats 8000000 in
set_option maxRecDepth 100000 in
theorem spec_l1Min.calls (a0 : Int) (a1 : Int) (r : Int) (w : World) (h : spec_l1Min.f a0 a1 = some r) :
  Calls Try.prog 77 #[.int .i64 a0, .int .i64 a1] w fun e w' => e = .returned (.int .i64 r) ∧ Drawn0 w w' := by
 have H : (if a0 < a1 then (some a0) else (some a1)) = some r := h
 clear h
 obtain ⟨c3b0, H⟩ | ⟨c3b0, H⟩ := gi H
 ·obtain rfl := Option.some.inj H
  go_enter Try.func77, Try.ntmps77
  go_wp2
  go_ret
  exact ⟨rS, tD⟩
 ·obtain rfl := Option.some.inj H
  go_enter Try.func77, Try.ntmps77
  go_wp2
  go_ret
  exact ⟨rS, tD⟩

end Go.Proofs.Ytepogblkmiidnaa.PFnCovers
