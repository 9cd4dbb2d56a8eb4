import Derived.Test.YtomjfejacjphnaaDoorWSpanB
import Derived.Test.YtomjfejacjphnaaDoorPFnSlopesx0
import Derived.Test.YtomjfejacjphnaaDoorPFnSlopesx2
import Derived.Test.YtomjfejacjphnaaDoorPFnSlopesx6
import Derived.Test.YtomjfejacjphnaaDoorPFnSlopesx9
namespace Go.Proofs.YtomjfejacjphnaaDoor.PFnSlopes
open Go.RowKit Go.Proofs.YtomjfejacjphnaaDoorW.PrintWords Go.Proofs.YtomjfejacjphnaaDoorW.PrintLast Go.Proofs.YtomjfejacjphnaaDoorW.PrintMore
attribute [local go_sem] max2_int min2_int max_two min_two max_three min_three max_four min_four   -- for this text's walks alone
set_option linter.unusedVariables false
set_option linter.unusedSimpArgs false

/-! ### spec_l1Read: function 57 -/
mutual
def spec_l1Read.j0 : Nat → ByteArray → Int → Bool → Option (Int × Bool)
 | 0, _, _, _ => none
 | k + 1, x0, x1, x6 => if x6 = true then (if 1 ≤ (x0.size : Int) then (spec_l1Read.j1 k x0 x1 x6 (x0.extract 1 x0.size)) else (none)) else (spec_l1Read.j1 k x0 x1 x6 x0)
def spec_l1Read.j1 : Nat → ByteArray → Int → Bool → ByteArray → Option (Int × Bool)
 | 0, _, _, _, _ => none
 | k + 1, x0, x1, x6, x7 => if (x7.size : Int) < 1 then (spec_l1Read.j2 k x0 x6 x7 true) else (spec_l1Read.j2 k x0 x6 x7 (decide ((x7.size : Int) > x1)))
def spec_l1Read.j2 : Nat → ByteArray → Bool → ByteArray → Bool → Option (Int × Bool)
 | 0, _, _, _, _ => none
 | k + 1, x0, x6, x7, x30 => if x30 = true then (some (0, false)) else (spec_l1Read.l0 k x0 x6 x7 0 0)
def spec_l1Read.l0 : Nat → ByteArray → Bool → ByteArray → Int → Int → Option (Int × Bool)
 | 0, _, _, _, _, _ => none
 | k + 1, x0, x6, x7, x8, x9 => if x9 < (x7.size : Int) then (if 0 ≤ x9 then (if (bt x7 x9) < 48 then (some (0, false)) else (if (bt x7 x9) > 57 then (some (0, false)) else (spec_l1Read.l0 k x0 x6 x7 (wrap64 ((wrap64 (10 * x8)) + (((bt x7 x9) - 48) % 256))) (wrap64 (x9 + 1))))) else (none)) else (if x6 = true then ((spec_FormatInt.f k (wrap64 (-x8))).bind fun t365 => (if t365.toList = x0.toList then (some (wrap64 (-x8), true)) else (some (0, false)))) else ((spec_FormatInt.f k x8).bind fun t366 => (if t366.toList = x0.toList then (some (x8, true)) else (some (0, false)))))
end
def spec_l1Read.f (k : Nat) (a0 : ByteArray) (a1 : Int) : Option (Int × Bool) := if (a0.size : Int) > 0 then (if 0 < (a0.size : Int) then (spec_l1Read.j0 k a0 a1 ((bt a0 0) == 45)) else (none)) else (spec_l1Read.j0 k a0 a1 false)
set_option maxHeartbeats 8000000 in
set_option maxRecDepth 100000 in
theorem spec_l1Read.calls (k : Nat) (a0 : ByteArray) (a1 : Int) (r1 : Int) (r2 : Bool) (w : World) (h : spec_l1Read.f k a0 a1 = some (r1, r2)) :
  Calls Tryd.prog 57 #[.string a0, .int .i64 a1] w fun e w' => e = .returned (.tuple #[.int .i64 r1, .bool r2]) ∧ Below w.heap.size w w' := by
 have HB := Aside0.mk (Below.refl w.heap.size w)
 have H : (if (a0.size : Int) > 0 then (if 0 < (a0.size : Int) then (spec_l1Read.j0 k a0 a1 ((bt a0 0) == 45)) else (none)) else (spec_l1Read.j0 k a0 a1 false)) = some (r1, r2) := h
 clear h
 have HC3 := Aside0.mk H
 clear H
 go_enter Tryd.func57, Tryd.ntmps57
 go_upto_region 1 with (fail)
 go_cut [6] (fun v6 wc => ∃ (kq : Nat) (x6_2 : Bool), v6 = .bool x6_2 ∧ Aside0 (spec_l1Read.j0 kq a0 a1 x6_2 = some (r1, r2)) ∧ Aside0 (kq ≤ k) ∧ Aside0 (Below w.heap.size w wc))
 case first =>
  have H := HC3.out
  clear HC3
  by_cases c4 : (a0.size : Int) > 0
  ·rw [if_pos c4] at H
   have c4b0 : decide (0 < (a0.size : Int)) = true := decide_eq_true c4
   have c4b1 : decide (0 < a0.size) = true := decide_eq_true (by omega)
   clear c4
   (first | rw [c4b0] | (simp only [i64_w, i32_w]; rw [c4b0]) | skip)
   obtain ⟨c5, H⟩ := gd H
   have c5b0 : decide (0 < (a0.size : Int)) = true := decide_eq_true c5
   have c5b1 : decide (0 < a0.size) = true := decide_eq_true (by omega)
   clear c5
   have H' := Aside0.mk H
   clear H
   have p6 : 0 ≤ (0 : Int) := (by omega)
   have q6 : 0 < a0.size := (by have : (0 : Int) < (a0.size : Int) := dT; omega)
   have hx6 : ∀ h : 0 < a0.size, ((a0[0]'h).toNat : Int) = bt a0 0 := bt_at a0 0
   clear p6
   have qi6 : (0 < (a0.size : Int)) = True := eq_true dT
   replace q6 := eq_true q6
   go_wp2
   go_meet
   case rel => exact ⟨_, (((bt a0 0) == 45)), rS, H', ⟨by first | omega | exact Nat.le_refl _⟩, ⟨tb⟩⟩
  ·rw [if_neg c4] at H
   have c4b0 : decide (0 < (a0.size : Int)) = false := decide_eq_false c4
   have c4b1 : decide (0 < a0.size) = false := decide_eq_false (by omega)
   clear c4
   (first | rw [c4b0] | (simp only [i64_w, i32_w]; rw [c4b0]) | skip)
   have H' := Aside0.mk H
   clear H
   go_wp2
   go_meet
   case rel => exact ⟨_, (false), rS, H', ⟨by first | omega | exact Nat.le_refl _⟩, ⟨tb⟩⟩
 case rest =>
  clear HC3
  try clear p2
  try clear c4
  try clear c4b0
  try clear c4b1
  try clear c5
  try clear c5b0
  try clear c5b1
  try clear p6
  try clear q6
  try clear hx6
  try clear qi6
  try clear p6
  try clear q6
  obtain ⟨kq, x6_2, rfl, HA, HJ2, HB⟩ := hcut
  cases kq with
  | zero => exact absurd HA.out (by simp [spec_l1Read.j0])
  | succ kj2 =>
   have H := HA.out
   clear HA
   simp only [spec_l1Read.j0] at H
   have HC7 := Aside0.mk H
   clear H
   go_upto_if 19 with (fail)
   go_cut [7] (fun v7 wc => ∃ (kq : Nat) (x7_6 : ByteArray), v7 = .string x7_6 ∧ Aside0 (spec_l1Read.j1 kq a0 a1 x6_2 x7_6 = some (r1, r2)) ∧ Aside0 (kq ≤ kj2) ∧ Aside0 (Below w.heap.size w wc))
   case first =>
    have H := HC7.out
    clear HC7
    by_cases c8 : x6_2 = true
    ·subst c8
     rw [if_pos rfl] at H
     obtain ⟨c9, H⟩ := gd H
     have c9b0 := eq_true c9
     have c9b1 : decide (1 ≤ (a0.size : Int)) = true := decide_eq_true c9
     clear c9
     have H' := Aside0.mk H
     clear H
     go_wp2
     go_meet
     case rel => exact ⟨_, (a0.extract 1 a0.size), rS, H', ⟨by have := HJ2.out; first | omega | exact Nat.le_refl _⟩, ⟨tb⟩⟩
    ·replace c8 := Bool.eq_false_iff.mpr c8
     subst c8
     rw [if_neg (show ¬ (false = true) by decide)] at H
     have H' := Aside0.mk H
     clear H
     go_wp2
     go_meet
     case rel => exact ⟨_, (a0), rS, H', ⟨by have := HJ2.out; first | omega | exact Nat.le_refl _⟩, ⟨tb⟩⟩
   case rest =>
    clear HC7
    try clear p2
    try clear c4
    try clear c4b0
    try clear c4b1
    try clear c5
    try clear c5b0
    try clear c5b1
    try clear p6
    try clear q6
    try clear hx6
    try clear qi6
    try clear c8
    try clear c9
    try clear c9b0
    try clear c9b1
    try clear p2
    try clear p6
    try clear q6
    obtain ⟨kq, x7_6, rfl, HA, HJ6, HB⟩ := hcut
    cases kq with
    | zero => exact absurd HA.out (by simp [spec_l1Read.j1])
    | succ kj6 =>
     have H := HA.out
     clear HA
     simp only [spec_l1Read.j1] at H
     have HC10 := Aside0.mk H
     clear H
     go_upto_region 5 with (fail)
     go_cut [30] (fun v30 wc => ∃ (kq : Nat) (x30_9 : Bool), v30 = .bool x30_9 ∧ Aside0 (spec_l1Read.j2 kq a0 x6_2 x7_6 x30_9 = some (r1, r2)) ∧ Aside0 (kq ≤ kj6) ∧ Aside0 (Below w.heap.size w wc))
     case first =>
      have H := HC10.out
      clear HC10
      by_cases c11 : (x7_6.size : Int) < 1
      ·rw [if_pos c11] at H
       have c11b0 : decide ((x7_6.size : Int) < 1) = true := decide_eq_true c11
       have c11b1 : decide (x7_6.size < 1) = true := decide_eq_true (by omega)
       clear c11
       (first | rw [c11b0] | (simp only [i64_w, i32_w]; rw [c11b0]) | skip)
       have H' := Aside0.mk H
       clear H
       go_wp2
       go_meet
       case rel => exact ⟨_, (true), rS, H', ⟨by have := HJ2.out; have := HJ6.out; first | omega | exact Nat.le_refl _⟩, ⟨tb⟩⟩
      ·rw [if_neg c11] at H
       have c11b0 : decide ((x7_6.size : Int) < 1) = false := decide_eq_false c11
       have c11b1 : decide (x7_6.size < 1) = false := decide_eq_false (by omega)
       clear c11
       (first | rw [c11b0] | (simp only [i64_w, i32_w]; rw [c11b0]) | skip)
       have H' := Aside0.mk H
       clear H
       go_wp2
       go_meet
       case rel => exact ⟨_, (decide ((x7_6.size : Int) > a1)), rS, H', ⟨by have := HJ2.out; have := HJ6.out; first | omega | exact Nat.le_refl _⟩, ⟨tb⟩⟩
     case rest =>
      clear HC10
      try clear c1
      try clear p2
      try clear c4
      try clear c4b0
      try clear c4b1
      try clear c5
      try clear c5b0
      try clear c5b1
      try clear p6
      try clear q6
      try clear hx6
      try clear qi6
      try clear c8
      try clear c9
      try clear c9b0
      try clear c9b1
      try clear c11
      try clear c11b0
      try clear c11b1
      try clear p2
      try clear p6
      try clear q6
      obtain ⟨kq, x30_9, rfl, HA, HJ9, HB⟩ := hcut
      cases kq with
      | zero => exact absurd HA.out (by simp [spec_l1Read.j2])
      | succ kj9 =>
       have H := HA.out
       clear HA
       simp only [spec_l1Read.j2] at H
       by_cases c12 : x30_9 = true
       ·subst c12
        rw [if_pos rfl] at H
        simp only [Option.some.injEq, Prod.mk.injEq] at H
        obtain ⟨rfl, rfl⟩ := H
        go_wp2
        go_ret2
        exact ⟨rE, tb⟩
       ·replace c12 := Bool.eq_false_iff.mpr c12
        subst c12
        rw [if_neg (show ¬ (false = true) by decide)] at H
        have H' := Aside0.mk H
        clear H
        go_wp2
        go_loopg [8, 9] kj9 (fun kq v8 v9 w' => ∃ (x8_4 : Int) (x9_4 : Int), v8 = .int .i64 x8_4 ∧ v9 = .int .i64 x9_4 ∧ Aside0 (spec_l1Read.l0 kq a0 x6_2 x7_6 x8_4 x9_4 = some (r1, r2)) ∧ Aside0 (kq ≤ kj9) ∧ Aside0 (Below w.heap.size w w'))
        case atStart => exact ⟨(0), (0), rS, rS, H', ⟨Nat.le_refl _⟩, ⟨tb⟩⟩
        case round =>
         clear H'
         try clear c1
         try clear p2
         try clear c4
         try clear c4b0
         try clear c4b1
         try clear c5
         try clear c5b0
         try clear c5b1
         try clear p6
         try clear q6
         try clear hx6
         try clear qi6
         try clear c8
         try clear c9
         try clear c9b0
         try clear c9b1
         try clear c11
         try clear c11b0
         try clear c11b1
         try clear c12
         try clear p2
         try clear p6
         try clear q6
         obtain ⟨x8_4, x9_4, rfl, rfl, HA, HK4, HB⟩ := hrel
         cases gk with
         | zero => exact absurd HA.out (by simp [spec_l1Read.l0])
         | succ k4 =>
          have H := HA.out
          clear HA
          simp only [spec_l1Read.l0] at H
          obtain ⟨c13b0, H⟩ | ⟨c13b0, H⟩ := gi H
          ·obtain ⟨c14b0, H⟩ := gdt H
           obtain ⟨c16b0, H⟩ | ⟨c16b0, H⟩ := gi H
           ·simp only [Option.some.injEq, Prod.mk.injEq] at H
            obtain ⟨rfl, rfl⟩ := H
            have p15 : 0 ≤ (x9_4 : Int) := dT
            have q15 : x9_4 < (x7_6.size : Int) := dT
            have hx15 := bt_at x7_6 x9_4
            replace p15 := eq_true p15
            replace q15 := eq_true q15
            go_wp2
            go_ret2
            exact ⟨rE, tb⟩
           ·by_cases c18 : (bt x7_6 x9_4) > 57
            ·rw [if_pos c18] at H
             have c18b0 : decide (57 < (bt x7_6 x9_4)) = true := decide_eq_true c18
             clear c18
             simp only [Option.some.injEq, Prod.mk.injEq] at H
             obtain ⟨rfl, rfl⟩ := H
             have p15 : 0 ≤ (x9_4 : Int) := dT
             have q15 : x9_4 < (x7_6.size : Int) := dT
             have hx15 := bt_at x7_6 x9_4
             replace p15 := eq_true p15
             replace q15 := eq_true q15
             have p17 : 0 ≤ (x9_4 : Int) := dT
             have q17 : x9_4 < (x7_6.size : Int) := dT
             have hx17 := bt_at x7_6 x9_4
             replace p17 := eq_true p17
             replace q17 := eq_true q17
             go_wp2
             go_ret2
             exact ⟨rE, tb⟩
            ·rw [if_neg c18] at H
             have c18b0 : decide (57 < (bt x7_6 x9_4)) = false := decide_eq_false c18
             clear c18
             have H' := Aside0.mk H
             clear H
             have p15 : 0 ≤ (x9_4 : Int) := dT
             have q15 : x9_4 < (x7_6.size : Int) := dT
             have hx15 := bt_at x7_6 x9_4
             replace p15 := eq_true p15
             replace q15 := eq_true q15
             have p17 : 0 ≤ (x9_4 : Int) := dT
             have q17 : x9_4 < (x7_6.size : Int) := dT
             have hx17 := bt_at x7_6 x9_4
             replace p17 := eq_true p17
             replace q17 := eq_true q17
             have p19 : 0 ≤ (x9_4 : Int) := dT
             have q19 : x9_4 < (x7_6.size : Int) := dT
             have hx19 := bt_at x7_6 x9_4
             replace p19 := eq_true p19
             replace q19 := eq_true q19
             go_wp2
             go_roundg k4
             case measure => have := HJ2.out; have := HJ6.out; have := HJ9.out; have := HK4.out; omega
             case rel => exact ⟨(wrap64 ((wrap64 (10 * x8_4)) + (((bt x7_6 x9_4) - 48) % 256))), (wrap64 (x9_4 + 1)), rS, rS, H', ⟨by have := HJ2.out; have := HJ6.out; have := HJ9.out; have := HK4.out; omega⟩, ⟨tb⟩⟩
          ·by_cases c20 : x6_2 = true
           ·subst c20
            rw [if_pos rfl] at H
            obtain ⟨t365, A21, H⟩ := bs H
            by_cases c22 : t365.toList = a0.toList
            ·rw [if_pos c22] at H
             have c22b0 : (t365.toList == a0.toList) = true := beq_iff_eq.mpr c22
             have c22b1 : (t365.toList != a0.toList) = false := bne_eq_false_iff_eq.mpr c22
             clear c22
             simp only [Option.some.injEq, Prod.mk.injEq] at H
             obtain ⟨rfl, rfl⟩ := H
             go_wp2_with (first | ((with_reducible refine gate_callee (f := 51) rfl ?_); refine goesL_ (some 59) rfl rfl Tryd.func51 (by kernel_rfl) rfl #[.int .i64 (wrap64 (-x8_4))] rfl mp_ ?_; (with_reducible refine (spec_FormatInt.calls k4 (wrap64 (-x8_4)) t365 _ A21.out).mono ?_); rintro e w23 ⟨rfl, hb⟩; refine ⟨_, rfl, ?_⟩; replace HB := Aside0.mk (below_step tb hb)))
             go_ret2
             exact ⟨rE, tb⟩
            ·rw [if_neg c22] at H
             have c22b0 : (t365.toList == a0.toList) = false := beq_eq_false_iff_ne.mpr c22
             have c22b1 : (t365.toList != a0.toList) = true := bne_iff_ne.mpr c22
             simp only [Option.some.injEq, Prod.mk.injEq] at H
             obtain ⟨rfl, rfl⟩ := H
             go_wp2_with (first | ((with_reducible refine gate_callee (f := 51) rfl ?_); refine goesL_ (some 59) rfl rfl Tryd.func51 (by kernel_rfl) rfl #[.int .i64 (wrap64 (-x8_4))] rfl mp_ ?_; (with_reducible refine (spec_FormatInt.calls k4 (wrap64 (-x8_4)) t365 _ A21.out).mono ?_); rintro e w24 ⟨rfl, hb⟩; refine ⟨_, rfl, ?_⟩; replace HB := Aside0.mk (below_step tb hb)))
             go_ret2
             exact ⟨rE, tb⟩
           ·replace c20 := Bool.eq_false_iff.mpr c20
            subst c20
            rw [if_neg (show ¬ (false = true) by decide)] at H
            obtain ⟨t366, A25, H⟩ := bs H
            by_cases c26 : t366.toList = a0.toList
            ·rw [if_pos c26] at H
             have c26b0 : (t366.toList == a0.toList) = true := beq_iff_eq.mpr c26
             have c26b1 : (t366.toList != a0.toList) = false := bne_eq_false_iff_eq.mpr c26
             clear c26
             simp only [Option.some.injEq, Prod.mk.injEq] at H
             obtain ⟨rfl, rfl⟩ := H
             go_wp2_with (first | ((with_reducible refine gate_callee (f := 51) rfl ?_); refine goesL_ (some 59) rfl rfl Tryd.func51 (by kernel_rfl) rfl #[.int .i64 x8_4] rfl mp_ ?_; (with_reducible refine (spec_FormatInt.calls k4 x8_4 t366 _ A25.out).mono ?_); rintro e w27 ⟨rfl, hb⟩; refine ⟨_, rfl, ?_⟩; replace HB := Aside0.mk (below_step tb hb)))
             go_ret2
             exact ⟨rE, tb⟩
            ·rw [if_neg c26] at H
             have c26b0 : (t366.toList == a0.toList) = false := beq_eq_false_iff_ne.mpr c26
             have c26b1 : (t366.toList != a0.toList) = true := bne_iff_ne.mpr c26
             simp only [Option.some.injEq, Prod.mk.injEq] at H
             obtain ⟨rfl, rfl⟩ := H
             go_wp2_with (first | ((with_reducible refine gate_callee (f := 51) rfl ?_); refine goesL_ (some 59) rfl rfl Tryd.func51 (by kernel_rfl) rfl #[.int .i64 x8_4] rfl mp_ ?_; (with_reducible refine (spec_FormatInt.calls k4 x8_4 t366 _ A25.out).mono ?_); rintro e w28 ⟨rfl, hb⟩; refine ⟨_, rfl, ?_⟩; replace HB := Aside0.mk (below_step tb hb)))
             go_ret2
             exact ⟨rE, tb⟩

/-! ### spec_ParseInt: function 45 -/
def spec_ParseInt.f (k : Nat) (a0 : ByteArray) : Option (Int × Bool) := (spec_l1Read.f k a0 12).bind fun bt367 => (some (bt367.1, bt367.2))
set_option maxHeartbeats 8000000 in
set_option maxRecDepth 100000 in
theorem spec_ParseInt.calls (k : Nat) (a0 : ByteArray) (r1 : Int) (r2 : Bool) (w : World) (h : spec_ParseInt.f k a0 = some (r1, r2)) :
  Calls Tryd.prog 45 #[.string a0] w fun e w' => e = .returned (.tuple #[.int .i64 r1, .bool r2]) ∧ Below w.heap.size w w' := by
 have HB := Aside0.mk (Below.refl w.heap.size w)
 have H : ((spec_l1Read.f k a0 12).bind fun bt367 => (some (bt367.1, bt367.2))) = some (r1, r2) := h
 clear h
 obtain ⟨⟨t367, t368⟩, A2, H⟩ := bs H
 try dsimp only at H
 simp only [Option.some.injEq, Prod.mk.injEq] at H
 obtain ⟨rfl, rfl⟩ := H
 go_enter Tryd.func45, Tryd.ntmps45
 go_wp2_with (first | ((with_reducible refine gate_callee (f := 57) rfl ?_); refine goesL_ (some 5) rfl rfl Tryd.func57 (by kernel_rfl) rfl #[.string a0, .int .i64 12] rfl mp_ ?_; (with_reducible refine (spec_l1Read.calls k a0 12 t367 t368 _ A2.out).mono ?_); rintro e w3 ⟨rfl, hb⟩; refine ⟨_, rfl, ?_⟩; replace HB := Aside0.mk (below_step tb hb)))
 go_ret2
 exact ⟨rE, tb⟩

/-! ### spec_ParseSlope: function 12 -/
def spec_ParseSlope.f (k : Nat) (a0 : ByteArray) : Option (Int × Int × Bool) := (spec_SplitByte.f k a0 47).bind fun t370 => (if (t370.length : Int) = 2 then (if 0 < (t370.length : Int) then ((spec_ParseInt.f k (rdOf ByteArray.empty t370 0)).bind fun bt374 => (if 1 < (t370.length : Int) then ((spec_ParseInt.f k (rdOf ByteArray.empty t370 1)).bind fun bt377 => (if bt374.2 = true then (if bt377.2 = true then ((spec_IsSlope.f k bt374.1 bt377.1).bind fun t380 => (if t380 = true then (some (bt374.1, bt377.1, true)) else (some (0, 0, false)))) else (some (0, 0, false))) else (some (0, 0, false)))) else (none))) else (none)) else (some (0, 0, false)))
set_option maxHeartbeats 8000000 in
set_option maxRecDepth 100000 in
theorem spec_ParseSlope.calls (k : Nat) (a0 : ByteArray) (r1 : Int) (r2 : Int) (r3 : Bool) (w : World) (h : spec_ParseSlope.f k a0 = some (r1, r2, r3)) :
  Calls Tryd.prog 12 #[.string a0] w fun e w' => e = .returned (.tuple #[.agg #[.int .i64 r1, .int .i64 r2], .bool r3]) ∧ Below w.heap.size w w' := by
 have hu25 := Tryd.underlying25
 have HB := Aside0.mk (Below.refl w.heap.size w)
 have H : ((spec_SplitByte.f k a0 47).bind fun t370 => (if (t370.length : Int) = 2 then (if 0 < (t370.length : Int) then ((spec_ParseInt.f k (rdOf ByteArray.empty t370 0)).bind fun bt374 => (if 1 < (t370.length : Int) then ((spec_ParseInt.f k (rdOf ByteArray.empty t370 1)).bind fun bt377 => (if bt374.2 = true then (if bt377.2 = true then ((spec_IsSlope.f k bt374.1 bt377.1).bind fun t380 => (if t380 = true then (some (bt374.1, bt377.1, true)) else (some (0, 0, false)))) else (some (0, 0, false))) else (some (0, 0, false)))) else (none))) else (none)) else (some (0, 0, false)))) = some (r1, r2, r3) := h
 clear h
 obtain ⟨t370, A2, H⟩ := bs H
 by_cases c3 : (t370.length : Int) = 2
 ·rw [if_pos c3] at H
  have c3b0 : ((t370.length : Int) == 2) = true := beq_iff_eq.mpr c3
  have c3b1 : ((t370.length : Int) != 2) = false := bne_eq_false_iff_eq.mpr c3
  clear c3
  obtain ⟨c4, H⟩ := gd H
  have c4b0 : decide (0 < (t370.length : Int)) = true := decide_eq_true c4
  have c4b1 : decide (0 < t370.length) = true := decide_eq_true (by omega)
  clear c4
  obtain ⟨⟨t374, t375⟩, A5, H⟩ := bs H
  try dsimp only at H
  obtain ⟨c6, H⟩ := gd H
  have c6b0 : decide (1 < (t370.length : Int)) = true := decide_eq_true c6
  have c6b1 : decide (1 < t370.length) = true := decide_eq_true (by omega)
  clear c6
  obtain ⟨⟨t377, t378⟩, A7, H⟩ := bs H
  try dsimp only at H
  by_cases c8 : t375 = true
  ·subst c8
   rw [if_pos rfl] at H
   by_cases c9 : t378 = true
   ·subst c9
    rw [if_pos rfl] at H
    obtain ⟨t380, A10, H⟩ := bs H
    by_cases c11 : t380 = true
    ·subst c11
     rw [if_pos rfl] at H
     simp only [Option.some.injEq, Prod.mk.injEq] at H
     obtain ⟨rfl, rfl, rfl⟩ := H
     go_enter Tryd.func12, Tryd.ntmps12
     go_wp2_with (first | ((with_reducible refine gate_dst (N := 2) rfl ?_); refine box_event ?hg (N := 2) ?hd (cs := #[.int .i64 0, .int .i64 0]) (t := 25) ?hr ?_; (case hd => rfl); (case hg => rfl); (case hr => exact gS); intro gb369 hg w12 hbox hb; have BK369 := Aside0.mk (hbox); have GW369 := Aside0.mk (gW hg tb); have GE369 := Aside0.mk (gW hg tb); replace HB := Aside0.mk (below_step tb hb); clear hb hbox hg) | ((with_reducible refine gate_callee (f := 44) rfl ?_); refine goesL_ (some 11) rfl rfl Tryd.func44 (by kernel_rfl) rfl #[.string a0, .int .u8 47] rfl mp_ ?_; (with_reducible refine (spec_SplitByte.calls k a0 47 t370 _ A2.out).mono ?_); rintro e w13 ⟨v371, rfl, ho0, hb⟩; refine ⟨_, rfl, ?_⟩; have HO372 := Aside0.mk (Kd.R_lower ho0 (below_size (tG1 GE369.out))); replace BK369 := Aside0.mk (bB BK369 hb); replace HB := Aside0.mk (below_step (tG1 GE369.out) hb); obtain ⟨Ao14, co14, eo14⟩ := Kd.R_slice HO372.out; subst eo14; have p373 : 0 ≤ (0 : Int) := (by omega); have q373 : 0 < (t370.length : Int) := dT; obtain ⟨ad373, e373, hx373_0⟩ := Kd.at_string (Kd.R_reads' HO372.out).2.2 0 p373 q373; cases e373; have qi373 : (0 < t370.length) = True := eq_true (by omega); (try rw [show ((0 : Int)).toNat = 0 from rfl] at hx373_0); (try rw [Addr.add_zero'] at hx373_0); replace p373 := eq_true p373; replace q373 := eq_true q373) | ((with_reducible refine gate_callee (f := 45) rfl ?_); refine goesL_ (some 20) rfl rfl Tryd.func45 (by kernel_rfl) rfl #[.string (rdOf ByteArray.empty t370 0)] rfl mp_ ?_; (with_reducible refine (spec_ParseInt.calls k (rdOf ByteArray.empty t370 0) t374 true _ A5.out).mono ?_); rintro e w15 ⟨rfl, hb⟩; refine ⟨_, rfl, ?_⟩; replace HO372 := Aside0.mk (rB HO372.out hb); replace BK369 := Aside0.mk (bB BK369 hb); replace HB := Aside0.mk (below_step (tG1 GE369.out) hb); have p376 : 0 ≤ (1 : Int) := (by omega); have q376 : 1 < (t370.length : Int) := dT; obtain ⟨ad376, e376, hx376_0⟩ := Kd.at_string (Kd.R_reads' HO372.out).2.2 1 p376 q376; obtain rfl : ad373 = ad376 := (by injection e376); (try simp only [show (1 : Int).toNat = 1 from rfl, Nat.reduceMul, Nat.reduceEqDiff, Go.Addr.add, ↓reduceIte] at hx376_0); have qi376 : (1 < t370.length) = True := eq_true (by omega); (try rw [show ((1 : Int)).toNat = 1 from rfl] at hx376_0); replace p376 := eq_true p376; replace q376 := eq_true q376) | ((with_reducible refine gate_callee (f := 45) rfl ?_); refine goesL_ (some 27) rfl rfl Tryd.func45 (by kernel_rfl) rfl #[.string (rdOf ByteArray.empty t370 1)] rfl mp_ ?_; (with_reducible refine (spec_ParseInt.calls k (rdOf ByteArray.empty t370 1) t377 true _ A7.out).mono ?_); rintro e w16 ⟨rfl, hb⟩; refine ⟨_, rfl, ?_⟩; replace HO372 := Aside0.mk (rB HO372.out hb); replace BK369 := Aside0.mk (bB BK369 hb); replace HB := Aside0.mk (below_step (tG1 GE369.out) hb)) | ((with_reducible refine gate_dst (N := 9) rfl ?_); refine box_event ?hg (N := 9) ?hd (cs := #[.int .i64 0, .int .i64 0]) (t := 25) ?hr ?_; (case hd => rfl); (case hg => rfl); (case hr => exact gS); intro gb379 hg w17 hbox hb; replace HO372 := Aside0.mk (rB HO372.out hb); have BK379 := Aside0.mk (hbox); have GW379 := Aside0.mk (gW hg (tG1 GE369.out)); have GE379 := Aside0.mk (gW hg (tG1 GE369.out)); replace HB := Aside0.mk (below_step (tG1 GE369.out) hb); have NB369_379 := Aside0.mk (neL BK369 hg); have NB379_369 := Aside0.mk (neG BK369 hg); replace BK369 := Aside0.mk (bB BK369 hb); clear hb hbox hg; have hnb18 := NB379_369.out; have hnc18 := NB369_379.out; have hcz19_0 : w17.cell? ⟨gb379, 0, none⟩ = some (.int .i64 0) := (blk_cell BK379.out 0).trans rfl; have hcz19_1 : w17.cell? ⟨gb379, 1, none⟩ = some (.int .i64 0) := (blk_cell BK379.out 1).trans rfl; have hfz19_0 := blk_frozen BK379.out 0; have hfz19_1 := blk_frozen BK379.out 1) | (go_at_call 23; (with_reducible refine (spec_IsSlope.calls k t374 t377 true _ A10.out).mono ?_); rintro e w20 ⟨rfl, hb⟩; replace HO372 := Aside0.mk (rB (Kd.R_mono (Kd.R_far (p := ⟨gb379, 1, none⟩) (Kd.R_far (p := ⟨gb379, 0, none⟩) (Kd.R_types HO372.out BK379.out (by decide)) (fun _ hk => hk.2) (.int .i64 t374)) (fun _ hk => hk.2) (.int .i64 t377)) (fun _ h_ => h_.1)) hb); replace BK369 := Aside0.mk (blk_below (g := gb369) (o := .cells #[.int .i64 0, .int .i64 0] 25 (0, 0)) (bF1 BK369.out NB369_379.out) hb); replace BK379 := Aside0.mk (blk_below (g := gb379) (o := .cells #[.int .i64 t374, .int .i64 t377] 25 (0, 0)) (by (with_reducible repeat (first | refine blk_drewN ?_ _ | refine blk_drew ?_ | refine blk_alloc ?_ _)); refine blk_put (cs := #[.int .i64 t374, .int .i64 0]) ?_ 1 _ rfl; (with_reducible repeat (first | refine blk_drewN ?_ _ | refine blk_drew ?_ | refine blk_alloc ?_ _)); refine blk_put (cs := #[.int .i64 0, .int .i64 0]) ?_ 0 _ rfl; (with_reducible repeat (first | refine blk_drewN ?_ _ | refine blk_drew ?_ | refine blk_alloc ?_ _)); exact BK379.out) hb); replace HB := Aside0.mk (below_step (tG2 GE369.out GE379.out) hb); have hcz21_0 : w20.cell? ⟨gb379, 0, none⟩ = some (.int .i64 t374) := (blk_cell BK379.out 0).trans rfl; have hcz21_1 : w20.cell? ⟨gb379, 1, none⟩ = some (.int .i64 t377) := (blk_cell BK379.out 1).trans rfl; have hfz21_0 := blk_frozen BK379.out 0; have hfz21_1 := blk_frozen BK379.out 1; have hcz22_0 : w20.cell? ⟨gb369, 0, none⟩ = some (.int .i64 0) := (blk_cell BK369.out 0).trans rfl; have hcz22_1 : w20.cell? ⟨gb369, 1, none⟩ = some (.int .i64 0) := (blk_cell BK369.out 1).trans rfl; have hfz22_0 := blk_frozen BK369.out 0; have hfz22_1 := blk_frozen BK369.out 1))
     refine bodyPost_ret (results_ct rfl _ _ gb369 25 #[.int .i64 t374, .int .i64 t377] (0, 0) _ rfl (by (with_reducible repeat (first | refine blk_drewN ?_ _ | refine blk_drew ?_ | refine blk_alloc ?_ _)); refine blk_put (cs := #[.int .i64 t374, .int .i64 0]) ?_ 1 _ rfl; (with_reducible repeat (first | refine blk_drewN ?_ _ | refine blk_drew ?_ | refine blk_alloc ?_ _)); refine blk_put (cs := #[.int .i64 0, .int .i64 0]) ?_ 0 _ rfl; (with_reducible repeat (first | refine blk_drewN ?_ _ | refine blk_drew ?_ | refine blk_alloc ?_ _)); exact BK369.out) Tryd.underlying25 rfl (by kernel_rfl)) rfl ?_
     exact ⟨rE, tG2 GE369.out GE379.out⟩
    ·replace c11 := Bool.eq_false_iff.mpr c11
     subst c11
     rw [if_neg (show ¬ (false = true) by decide)] at H
     simp only [Option.some.injEq, Prod.mk.injEq] at H
     obtain ⟨rfl, rfl, rfl⟩ := H
     go_enter Tryd.func12, Tryd.ntmps12
     go_wp2_with (first | ((with_reducible refine gate_dst (N := 2) rfl ?_); refine box_event ?hg (N := 2) ?hd (cs := #[.int .i64 0, .int .i64 0]) (t := 25) ?hr ?_; (case hd => rfl); (case hg => rfl); (case hr => exact gS); intro gb369 hg w23 hbox hb; have BK369 := Aside0.mk (hbox); have GW369 := Aside0.mk (gW hg tb); have GE369 := Aside0.mk (gW hg tb); replace HB := Aside0.mk (below_step tb hb); clear hb hbox hg) | ((with_reducible refine gate_callee (f := 44) rfl ?_); refine goesL_ (some 11) rfl rfl Tryd.func44 (by kernel_rfl) rfl #[.string a0, .int .u8 47] rfl mp_ ?_; (with_reducible refine (spec_SplitByte.calls k a0 47 t370 _ A2.out).mono ?_); rintro e w24 ⟨v371, rfl, ho0, hb⟩; refine ⟨_, rfl, ?_⟩; have HO372 := Aside0.mk (Kd.R_lower ho0 (below_size (tG1 GE369.out))); replace BK369 := Aside0.mk (bB BK369 hb); replace HB := Aside0.mk (below_step (tG1 GE369.out) hb); obtain ⟨Ao25, co25, eo25⟩ := Kd.R_slice HO372.out; subst eo25; have p373 : 0 ≤ (0 : Int) := (by omega); have q373 : 0 < (t370.length : Int) := dT; obtain ⟨ad373, e373, hx373_0⟩ := Kd.at_string (Kd.R_reads' HO372.out).2.2 0 p373 q373; cases e373; have qi373 : (0 < t370.length) = True := eq_true (by omega); (try rw [show ((0 : Int)).toNat = 0 from rfl] at hx373_0); (try rw [Addr.add_zero'] at hx373_0); replace p373 := eq_true p373; replace q373 := eq_true q373) | ((with_reducible refine gate_callee (f := 45) rfl ?_); refine goesL_ (some 20) rfl rfl Tryd.func45 (by kernel_rfl) rfl #[.string (rdOf ByteArray.empty t370 0)] rfl mp_ ?_; (with_reducible refine (spec_ParseInt.calls k (rdOf ByteArray.empty t370 0) t374 true _ A5.out).mono ?_); rintro e w26 ⟨rfl, hb⟩; refine ⟨_, rfl, ?_⟩; replace HO372 := Aside0.mk (rB HO372.out hb); replace BK369 := Aside0.mk (bB BK369 hb); replace HB := Aside0.mk (below_step (tG1 GE369.out) hb); have p376 : 0 ≤ (1 : Int) := (by omega); have q376 : 1 < (t370.length : Int) := dT; obtain ⟨ad376, e376, hx376_0⟩ := Kd.at_string (Kd.R_reads' HO372.out).2.2 1 p376 q376; obtain rfl : ad373 = ad376 := (by injection e376); (try simp only [show (1 : Int).toNat = 1 from rfl, Nat.reduceMul, Nat.reduceEqDiff, Go.Addr.add, ↓reduceIte] at hx376_0); have qi376 : (1 < t370.length) = True := eq_true (by omega); (try rw [show ((1 : Int)).toNat = 1 from rfl] at hx376_0); replace p376 := eq_true p376; replace q376 := eq_true q376) | ((with_reducible refine gate_callee (f := 45) rfl ?_); refine goesL_ (some 27) rfl rfl Tryd.func45 (by kernel_rfl) rfl #[.string (rdOf ByteArray.empty t370 1)] rfl mp_ ?_; (with_reducible refine (spec_ParseInt.calls k (rdOf ByteArray.empty t370 1) t377 true _ A7.out).mono ?_); rintro e w27 ⟨rfl, hb⟩; refine ⟨_, rfl, ?_⟩; replace HO372 := Aside0.mk (rB HO372.out hb); replace BK369 := Aside0.mk (bB BK369 hb); replace HB := Aside0.mk (below_step (tG1 GE369.out) hb)) | ((with_reducible refine gate_dst (N := 9) rfl ?_); refine box_event ?hg (N := 9) ?hd (cs := #[.int .i64 0, .int .i64 0]) (t := 25) ?hr ?_; (case hd => rfl); (case hg => rfl); (case hr => exact gS); intro gb379 hg w28 hbox hb; replace HO372 := Aside0.mk (rB HO372.out hb); have BK379 := Aside0.mk (hbox); have GW379 := Aside0.mk (gW hg (tG1 GE369.out)); have GE379 := Aside0.mk (gW hg (tG1 GE369.out)); replace HB := Aside0.mk (below_step (tG1 GE369.out) hb); have NB369_379 := Aside0.mk (neL BK369 hg); have NB379_369 := Aside0.mk (neG BK369 hg); replace BK369 := Aside0.mk (bB BK369 hb); clear hb hbox hg; have hnb29 := NB379_369.out; have hnc29 := NB369_379.out; have hcz30_0 : w28.cell? ⟨gb379, 0, none⟩ = some (.int .i64 0) := (blk_cell BK379.out 0).trans rfl; have hcz30_1 : w28.cell? ⟨gb379, 1, none⟩ = some (.int .i64 0) := (blk_cell BK379.out 1).trans rfl; have hfz30_0 := blk_frozen BK379.out 0; have hfz30_1 := blk_frozen BK379.out 1) | (go_at_call 23; (with_reducible refine (spec_IsSlope.calls k t374 t377 false _ A10.out).mono ?_); rintro e w31 ⟨rfl, hb⟩; replace HO372 := Aside0.mk (rB (Kd.R_mono (Kd.R_far (p := ⟨gb379, 1, none⟩) (Kd.R_far (p := ⟨gb379, 0, none⟩) (Kd.R_types HO372.out BK379.out (by decide)) (fun _ hk => hk.2) (.int .i64 t374)) (fun _ hk => hk.2) (.int .i64 t377)) (fun _ h_ => h_.1)) hb); replace BK369 := Aside0.mk (blk_below (g := gb369) (o := .cells #[.int .i64 0, .int .i64 0] 25 (0, 0)) (bF1 BK369.out NB369_379.out) hb); replace BK379 := Aside0.mk (blk_below (g := gb379) (o := .cells #[.int .i64 t374, .int .i64 t377] 25 (0, 0)) (by (with_reducible repeat (first | refine blk_drewN ?_ _ | refine blk_drew ?_ | refine blk_alloc ?_ _)); refine blk_put (cs := #[.int .i64 t374, .int .i64 0]) ?_ 1 _ rfl; (with_reducible repeat (first | refine blk_drewN ?_ _ | refine blk_drew ?_ | refine blk_alloc ?_ _)); refine blk_put (cs := #[.int .i64 0, .int .i64 0]) ?_ 0 _ rfl; (with_reducible repeat (first | refine blk_drewN ?_ _ | refine blk_drew ?_ | refine blk_alloc ?_ _)); exact BK379.out) hb); replace HB := Aside0.mk (below_step (tG2 GE369.out GE379.out) hb); have hcz32_0 : w31.cell? ⟨gb369, 0, none⟩ = some (.int .i64 0) := (blk_cell BK369.out 0).trans rfl; have hcz32_1 : w31.cell? ⟨gb369, 1, none⟩ = some (.int .i64 0) := (blk_cell BK369.out 1).trans rfl; have hfz32_0 := blk_frozen BK369.out 0; have hfz32_1 := blk_frozen BK369.out 1))
     refine bodyPost_ret (results_ct rfl _ _ gb369 25 #[.int .i64 0, .int .i64 0] (0, 0) _ rfl (by (with_reducible repeat (first | refine blk_drewN ?_ _ | refine blk_drew ?_ | refine blk_alloc ?_ _)); refine blk_put (cs := #[.int .i64 0, .int .i64 0]) ?_ 1 _ rfl; (with_reducible repeat (first | refine blk_drewN ?_ _ | refine blk_drew ?_ | refine blk_alloc ?_ _)); refine blk_put (cs := #[.int .i64 0, .int .i64 0]) ?_ 0 _ rfl; (with_reducible repeat (first | refine blk_drewN ?_ _ | refine blk_drew ?_ | refine blk_alloc ?_ _)); exact BK369.out) Tryd.underlying25 rfl (by kernel_rfl)) rfl ?_
     exact ⟨rE, tG2 GE369.out GE379.out⟩
   ·replace c9 := Bool.eq_false_iff.mpr c9
    subst c9
    rw [if_neg (show ¬ (false = true) by decide)] at H
    simp only [Option.some.injEq, Prod.mk.injEq] at H
    obtain ⟨rfl, rfl, rfl⟩ := H
    go_enter Tryd.func12, Tryd.ntmps12
    go_wp2_with (first | ((with_reducible refine gate_dst (N := 2) rfl ?_); refine box_event ?hg (N := 2) ?hd (cs := #[.int .i64 0, .int .i64 0]) (t := 25) ?hr ?_; (case hd => rfl); (case hg => rfl); (case hr => exact gS); intro gb369 hg w33 hbox hb; have BK369 := Aside0.mk (hbox); have GW369 := Aside0.mk (gW hg tb); have GE369 := Aside0.mk (gW hg tb); replace HB := Aside0.mk (below_step tb hb); clear hb hbox hg) | ((with_reducible refine gate_callee (f := 44) rfl ?_); refine goesL_ (some 11) rfl rfl Tryd.func44 (by kernel_rfl) rfl #[.string a0, .int .u8 47] rfl mp_ ?_; (with_reducible refine (spec_SplitByte.calls k a0 47 t370 _ A2.out).mono ?_); rintro e w34 ⟨v371, rfl, ho0, hb⟩; refine ⟨_, rfl, ?_⟩; have HO372 := Aside0.mk (Kd.R_lower ho0 (below_size (tG1 GE369.out))); replace BK369 := Aside0.mk (bB BK369 hb); replace HB := Aside0.mk (below_step (tG1 GE369.out) hb); obtain ⟨Ao35, co35, eo35⟩ := Kd.R_slice HO372.out; subst eo35; have p373 : 0 ≤ (0 : Int) := (by omega); have q373 : 0 < (t370.length : Int) := dT; obtain ⟨ad373, e373, hx373_0⟩ := Kd.at_string (Kd.R_reads' HO372.out).2.2 0 p373 q373; cases e373; have qi373 : (0 < t370.length) = True := eq_true (by omega); (try rw [show ((0 : Int)).toNat = 0 from rfl] at hx373_0); (try rw [Addr.add_zero'] at hx373_0); replace p373 := eq_true p373; replace q373 := eq_true q373) | ((with_reducible refine gate_callee (f := 45) rfl ?_); refine goesL_ (some 20) rfl rfl Tryd.func45 (by kernel_rfl) rfl #[.string (rdOf ByteArray.empty t370 0)] rfl mp_ ?_; (with_reducible refine (spec_ParseInt.calls k (rdOf ByteArray.empty t370 0) t374 true _ A5.out).mono ?_); rintro e w36 ⟨rfl, hb⟩; refine ⟨_, rfl, ?_⟩; replace HO372 := Aside0.mk (rB HO372.out hb); replace BK369 := Aside0.mk (bB BK369 hb); replace HB := Aside0.mk (below_step (tG1 GE369.out) hb); have p376 : 0 ≤ (1 : Int) := (by omega); have q376 : 1 < (t370.length : Int) := dT; obtain ⟨ad376, e376, hx376_0⟩ := Kd.at_string (Kd.R_reads' HO372.out).2.2 1 p376 q376; obtain rfl : ad373 = ad376 := (by injection e376); (try simp only [show (1 : Int).toNat = 1 from rfl, Nat.reduceMul, Nat.reduceEqDiff, Go.Addr.add, ↓reduceIte] at hx376_0); have qi376 : (1 < t370.length) = True := eq_true (by omega); (try rw [show ((1 : Int)).toNat = 1 from rfl] at hx376_0); replace p376 := eq_true p376; replace q376 := eq_true q376) | ((with_reducible refine gate_callee (f := 45) rfl ?_); refine goesL_ (some 27) rfl rfl Tryd.func45 (by kernel_rfl) rfl #[.string (rdOf ByteArray.empty t370 1)] rfl mp_ ?_; (with_reducible refine (spec_ParseInt.calls k (rdOf ByteArray.empty t370 1) t377 false _ A7.out).mono ?_); rintro e w37 ⟨rfl, hb⟩; refine ⟨_, rfl, ?_⟩; replace HO372 := Aside0.mk (rB HO372.out hb); replace BK369 := Aside0.mk (bB BK369 hb); replace HB := Aside0.mk (below_step (tG1 GE369.out) hb)) | ((with_reducible refine gate_dst (N := 9) rfl ?_); refine box_event ?hg (N := 9) ?hd (cs := #[.int .i64 0, .int .i64 0]) (t := 25) ?hr ?_; (case hd => rfl); (case hg => rfl); (case hr => exact gS); intro gb379 hg w38 hbox hb; replace HO372 := Aside0.mk (rB HO372.out hb); have BK379 := Aside0.mk (hbox); have GW379 := Aside0.mk (gW hg (tG1 GE369.out)); have GE379 := Aside0.mk (gW hg (tG1 GE369.out)); replace HB := Aside0.mk (below_step (tG1 GE369.out) hb); have NB369_379 := Aside0.mk (neL BK369 hg); have NB379_369 := Aside0.mk (neG BK369 hg); replace BK369 := Aside0.mk (bB BK369 hb); clear hb hbox hg; have hnb39 := NB379_369.out; have hnc39 := NB369_379.out; have hcz40_0 : w38.cell? ⟨gb379, 0, none⟩ = some (.int .i64 0) := (blk_cell BK379.out 0).trans rfl; have hcz40_1 : w38.cell? ⟨gb379, 1, none⟩ = some (.int .i64 0) := (blk_cell BK379.out 1).trans rfl; have hfz40_0 := blk_frozen BK379.out 0; have hfz40_1 := blk_frozen BK379.out 1; have hcz41_0 : w38.cell? ⟨gb369, 0, none⟩ = some (.int .i64 0) := (blk_cell BK369.out 0).trans rfl; have hcz41_1 : w38.cell? ⟨gb369, 1, none⟩ = some (.int .i64 0) := (blk_cell BK369.out 1).trans rfl; have hfz41_0 := blk_frozen BK369.out 0; have hfz41_1 := blk_frozen BK369.out 1))
    refine bodyPost_ret (results_ct rfl _ _ gb369 25 #[.int .i64 0, .int .i64 0] (0, 0) _ rfl (by (with_reducible repeat (first | refine blk_drewN ?_ _ | refine blk_drew ?_ | refine blk_alloc ?_ _)); refine blk_put (cs := #[.int .i64 0, .int .i64 0]) ?_ 1 _ rfl; (with_reducible repeat (first | refine blk_drewN ?_ _ | refine blk_drew ?_ | refine blk_alloc ?_ _)); refine blk_put (cs := #[.int .i64 0, .int .i64 0]) ?_ 0 _ rfl; (with_reducible repeat (first | refine blk_drewN ?_ _ | refine blk_drew ?_ | refine blk_alloc ?_ _)); refine blk_far ?_ NB369_379.out _; (with_reducible repeat (first | refine blk_drewN ?_ _ | refine blk_drew ?_ | refine blk_alloc ?_ _)); refine blk_far ?_ NB369_379.out _; (with_reducible repeat (first | refine blk_drewN ?_ _ | refine blk_drew ?_ | refine blk_alloc ?_ _)); exact BK369.out) Tryd.underlying25 rfl (by kernel_rfl)) rfl ?_
    exact ⟨rE, tG2 GE369.out GE379.out⟩
  ·replace c8 := Bool.eq_false_iff.mpr c8
   subst c8
   rw [if_neg (show ¬ (false = true) by decide)] at H
   simp only [Option.some.injEq, Prod.mk.injEq] at H
   obtain ⟨rfl, rfl, rfl⟩ := H
   go_enter Tryd.func12, Tryd.ntmps12
   go_wp2_with (first | ((with_reducible refine gate_dst (N := 2) rfl ?_); refine box_event ?hg (N := 2) ?hd (cs := #[.int .i64 0, .int .i64 0]) (t := 25) ?hr ?_; (case hd => rfl); (case hg => rfl); (case hr => exact gS); intro gb369 hg w42 hbox hb; have BK369 := Aside0.mk (hbox); have GW369 := Aside0.mk (gW hg tb); have GE369 := Aside0.mk (gW hg tb); replace HB := Aside0.mk (below_step tb hb); clear hb hbox hg) | ((with_reducible refine gate_callee (f := 44) rfl ?_); refine goesL_ (some 11) rfl rfl Tryd.func44 (by kernel_rfl) rfl #[.string a0, .int .u8 47] rfl mp_ ?_; (with_reducible refine (spec_SplitByte.calls k a0 47 t370 _ A2.out).mono ?_); rintro e w43 ⟨v371, rfl, ho0, hb⟩; refine ⟨_, rfl, ?_⟩; have HO372 := Aside0.mk (Kd.R_lower ho0 (below_size (tG1 GE369.out))); replace BK369 := Aside0.mk (bB BK369 hb); replace HB := Aside0.mk (below_step (tG1 GE369.out) hb); obtain ⟨Ao44, co44, eo44⟩ := Kd.R_slice HO372.out; subst eo44; have p373 : 0 ≤ (0 : Int) := (by omega); have q373 : 0 < (t370.length : Int) := dT; obtain ⟨ad373, e373, hx373_0⟩ := Kd.at_string (Kd.R_reads' HO372.out).2.2 0 p373 q373; cases e373; have qi373 : (0 < t370.length) = True := eq_true (by omega); (try rw [show ((0 : Int)).toNat = 0 from rfl] at hx373_0); (try rw [Addr.add_zero'] at hx373_0); replace p373 := eq_true p373; replace q373 := eq_true q373) | ((with_reducible refine gate_callee (f := 45) rfl ?_); refine goesL_ (some 20) rfl rfl Tryd.func45 (by kernel_rfl) rfl #[.string (rdOf ByteArray.empty t370 0)] rfl mp_ ?_; (with_reducible refine (spec_ParseInt.calls k (rdOf ByteArray.empty t370 0) t374 false _ A5.out).mono ?_); rintro e w45 ⟨rfl, hb⟩; refine ⟨_, rfl, ?_⟩; replace HO372 := Aside0.mk (rB HO372.out hb); replace BK369 := Aside0.mk (bB BK369 hb); replace HB := Aside0.mk (below_step (tG1 GE369.out) hb); have p376 : 0 ≤ (1 : Int) := (by omega); have q376 : 1 < (t370.length : Int) := dT; obtain ⟨ad376, e376, hx376_0⟩ := Kd.at_string (Kd.R_reads' HO372.out).2.2 1 p376 q376; obtain rfl : ad373 = ad376 := (by injection e376); (try simp only [show (1 : Int).toNat = 1 from rfl, Nat.reduceMul, Nat.reduceEqDiff, Go.Addr.add, ↓reduceIte] at hx376_0); have qi376 : (1 < t370.length) = True := eq_true (by omega); (try rw [show ((1 : Int)).toNat = 1 from rfl] at hx376_0); replace p376 := eq_true p376; replace q376 := eq_true q376) | ((with_reducible refine gate_callee (f := 45) rfl ?_); refine goesL_ (some 27) rfl rfl Tryd.func45 (by kernel_rfl) rfl #[.string (rdOf ByteArray.empty t370 1)] rfl mp_ ?_; (with_reducible refine (spec_ParseInt.calls k (rdOf ByteArray.empty t370 1) t377 t378 _ A7.out).mono ?_); rintro e w46 ⟨rfl, hb⟩; refine ⟨_, rfl, ?_⟩; replace HO372 := Aside0.mk (rB HO372.out hb); replace BK369 := Aside0.mk (bB BK369 hb); replace HB := Aside0.mk (below_step (tG1 GE369.out) hb)) | ((with_reducible refine gate_dst (N := 9) rfl ?_); refine box_event ?hg (N := 9) ?hd (cs := #[.int .i64 0, .int .i64 0]) (t := 25) ?hr ?_; (case hd => rfl); (case hg => rfl); (case hr => exact gS); intro gb379 hg w47 hbox hb; replace HO372 := Aside0.mk (rB HO372.out hb); have BK379 := Aside0.mk (hbox); have GW379 := Aside0.mk (gW hg (tG1 GE369.out)); have GE379 := Aside0.mk (gW hg (tG1 GE369.out)); replace HB := Aside0.mk (below_step (tG1 GE369.out) hb); have NB369_379 := Aside0.mk (neL BK369 hg); have NB379_369 := Aside0.mk (neG BK369 hg); replace BK369 := Aside0.mk (bB BK369 hb); clear hb hbox hg; have hnb48 := NB379_369.out; have hnc48 := NB369_379.out; have hcz49_0 : w47.cell? ⟨gb379, 0, none⟩ = some (.int .i64 0) := (blk_cell BK379.out 0).trans rfl; have hcz49_1 : w47.cell? ⟨gb379, 1, none⟩ = some (.int .i64 0) := (blk_cell BK379.out 1).trans rfl; have hfz49_0 := blk_frozen BK379.out 0; have hfz49_1 := blk_frozen BK379.out 1; have hcz50_0 : w47.cell? ⟨gb369, 0, none⟩ = some (.int .i64 0) := (blk_cell BK369.out 0).trans rfl; have hcz50_1 : w47.cell? ⟨gb369, 1, none⟩ = some (.int .i64 0) := (blk_cell BK369.out 1).trans rfl; have hfz50_0 := blk_frozen BK369.out 0; have hfz50_1 := blk_frozen BK369.out 1))
   refine bodyPost_ret (results_ct rfl _ _ gb369 25 #[.int .i64 0, .int .i64 0] (0, 0) _ rfl (by (with_reducible repeat (first | refine blk_drewN ?_ _ | refine blk_drew ?_ | refine blk_alloc ?_ _)); refine blk_put (cs := #[.int .i64 0, .int .i64 0]) ?_ 1 _ rfl; (with_reducible repeat (first | refine blk_drewN ?_ _ | refine blk_drew ?_ | refine blk_alloc ?_ _)); refine blk_put (cs := #[.int .i64 0, .int .i64 0]) ?_ 0 _ rfl; (with_reducible repeat (first | refine blk_drewN ?_ _ | refine blk_drew ?_ | refine blk_alloc ?_ _)); refine blk_far ?_ NB369_379.out _; (with_reducible repeat (first | refine blk_drewN ?_ _ | refine blk_drew ?_ | refine blk_alloc ?_ _)); refine blk_far ?_ NB369_379.out _; (with_reducible repeat (first | refine blk_drewN ?_ _ | refine blk_drew ?_ | refine blk_alloc ?_ _)); exact BK369.out) Tryd.underlying25 rfl (by kernel_rfl)) rfl ?_
   exact ⟨rE, tG2 GE369.out GE379.out⟩
 ·rw [if_neg c3] at H
  have c3b0 : ((t370.length : Int) == 2) = false := beq_eq_false_iff_ne.mpr c3
  have c3b1 : ((t370.length : Int) != 2) = true := bne_iff_ne.mpr c3
  simp only [Option.some.injEq, Prod.mk.injEq] at H
  obtain ⟨rfl, rfl, rfl⟩ := H
  go_enter Tryd.func12, Tryd.ntmps12
  go_wp2_with (first | ((with_reducible refine gate_dst (N := 2) rfl ?_); refine box_event ?hg (N := 2) ?hd (cs := #[.int .i64 0, .int .i64 0]) (t := 25) ?hr ?_; (case hd => rfl); (case hg => rfl); (case hr => exact gS); intro gb369 hg w51 hbox hb; have BK369 := Aside0.mk (hbox); have GW369 := Aside0.mk (gW hg tb); have GE369 := Aside0.mk (gW hg tb); replace HB := Aside0.mk (below_step tb hb); clear hb hbox hg) | ((with_reducible refine gate_callee (f := 44) rfl ?_); refine goesL_ (some 11) rfl rfl Tryd.func44 (by kernel_rfl) rfl #[.string a0, .int .u8 47] rfl mp_ ?_; (with_reducible refine (spec_SplitByte.calls k a0 47 t370 _ A2.out).mono ?_); rintro e w52 ⟨v371, rfl, ho0, hb⟩; refine ⟨_, rfl, ?_⟩; have HO372 := Aside0.mk (Kd.R_lower ho0 (below_size (tG1 GE369.out))); replace BK369 := Aside0.mk (bB BK369 hb); replace HB := Aside0.mk (below_step (tG1 GE369.out) hb); obtain ⟨Ao53, co53, eo53⟩ := Kd.R_slice HO372.out; subst eo53; have hcz54_0 : w52.cell? ⟨gb369, 0, none⟩ = some (.int .i64 0) := (blk_cell BK369.out 0).trans rfl; have hcz54_1 : w52.cell? ⟨gb369, 1, none⟩ = some (.int .i64 0) := (blk_cell BK369.out 1).trans rfl; have hfz54_0 := blk_frozen BK369.out 0; have hfz54_1 := blk_frozen BK369.out 1))
  refine bodyPost_ret (results_ct rfl _ _ gb369 25 #[.int .i64 0, .int .i64 0] (0, 0) _ rfl (by (with_reducible repeat (first | refine blk_drewN ?_ _ | refine blk_drew ?_ | refine blk_alloc ?_ _)); refine blk_put (cs := #[.int .i64 0, .int .i64 0]) ?_ 1 _ rfl; (with_reducible repeat (first | refine blk_drewN ?_ _ | refine blk_drew ?_ | refine blk_alloc ?_ _)); refine blk_put (cs := #[.int .i64 0, .int .i64 0]) ?_ 0 _ rfl; (with_reducible repeat (first | refine blk_drewN ?_ _ | refine blk_drew ?_ | refine blk_alloc ?_ _)); exact BK369.out) Tryd.underlying25 rfl (by kernel_rfl)) rfl ?_
  exact ⟨rE, tG1 GE369.out⟩

end Go.Proofs.YtomjfejacjphnaaDoor.PFnSlopes
