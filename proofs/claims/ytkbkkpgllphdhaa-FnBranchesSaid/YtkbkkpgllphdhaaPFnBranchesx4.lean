import Derived.Test.YtkbkkpgllphdhaaWSpan
import Derived.Test.YtkbkkpgllphdhaaWLater
import Derived.Test.YtkbkkpgllphdhaaPFnBranchesx0
import Derived.Test.YtkbkkpgllphdhaaPFnBranchesx2
import Derived.Test.YtkbkkpgllphdhaaPFnBranchesx3
namespace Go.Proofs.Ytkbkkpgllphdhaa.PFnBranches
open Go.RowKit Go.Proofs.YtkbkkpgllphdhaaW.PrintWords Go.Proofs.YtkbkkpgllphdhaaW.PrintLast Go.Proofs.YtkbkkpgllphdhaaW.PrintMore
attribute [local go_sem] max2_int min2_int max_two min_two max_three min_three max_four min_four   -- for this text's walks alone
set_option linter.unusedVariables false
set_option linter.unusedSimpArgs false

/-! ### spec_l2Letter: function 83 -/
def spec_l2Letter.f (a0 : Int) : Option (Bool) := (spec_l1In.f a0 1 8).bind fun t122 => (if t122 = true then (some true) else ((spec_l1In.f a0 (-8) (-1)).bind fun t123 => (some t123)))
set_option maxHeartbeats 8000000 in
set_option maxRecDepth 100000 in
theorem spec_l2Letter.calls (a0 : Int) (r : Bool) (w : World) (h : spec_l2Letter.f a0 = some r) :
  Calls Try.prog 83 #[.int .i64 a0] w fun e w' => e = .returned (.bool r) ∧ Drawn0 w w' := by
 have H : ((spec_l1In.f a0 1 8).bind fun t122 => (if t122 = true then (some true) else ((spec_l1In.f a0 (-8) (-1)).bind fun t123 => (some t123)))) = some r := h
 clear h
 obtain ⟨t122, A2, H⟩ := bs H
 by_cases c3 : t122 = true
 ·subst c3
  rw [if_pos rfl] at H
  obtain rfl := Option.some.inj H
  go_enter Try.func83, Try.ntmps83
  go_wp2_with (first | (refine gL 38 (some 4) Try.func38 #[.int .i64 a0, .int .i64 1, .int .i64 8] ?_; (with_reducible refine (spec_l1In.calls a0 1 8 true _ A2.out).mono ?_); rintro e w' ⟨rfl, ⟨nd, rfl⟩⟩; refine ⟨_, rfl, ?_⟩))
  go_ret
  exact ⟨rS, tD⟩
 ·replace c3 := Bool.eq_false_iff.mpr c3
  subst c3
  rw [if_neg (show ¬ (false = true) by decide)] at H
  obtain ⟨t123, A4, H⟩ := bs H
  obtain rfl := Option.some.inj H
  go_enter Try.func83, Try.ntmps83
  go_wp2_with (first | (refine gL 38 (some 4) Try.func38 #[.int .i64 a0, .int .i64 1, .int .i64 8] ?_; (with_reducible refine (spec_l1In.calls a0 1 8 false _ A2.out).mono ?_); rintro e w' ⟨rfl, ⟨nd, rfl⟩⟩; refine ⟨_, rfl, ?_⟩) | (go_at_call 38; (with_reducible refine (spec_l1In.calls a0 (-8) (-1) t123 _ A4.out).mono ?_); rintro e w' ⟨rfl, ⟨nd, rfl⟩⟩))
  go_ret
  exact ⟨rS, tD⟩

/-! ### spec_IsWord: function 75 -/
def spec_IsWord.l0 : Nat → List Int → Int → Option (Bool)
 | 0, _, _ => none
 | k + 1, x0, x3 => if x3 < (x0.length : Int) then (if 0 ≤ x3 then ((spec_l2Letter.f (rd x0 x3)).bind fun t125 => (if t125 = true then (spec_IsWord.l0 k x0 (wrap64 (x3 + 1))) else (some false))) else (none)) else (some (decide ((x0.length : Int) ≤ 24)))
def spec_IsWord.f (k : Nat) (l0 : List Int) : Option (Bool) := spec_IsWord.l0 k l0 0
set_option maxHeartbeats 8000000 in
set_option maxRecDepth 100000 in
theorem spec_IsWord.calls (k : Nat) (A0 : Option Addr) (c0 : Nat) (l0 : List Int) (r : Bool) (w : World) (hr0 : Kd.C (Kd.int .i64) w A0 l0.length l0) (hc0 : l0.length ≤ c0) (h : spec_IsWord.f k l0 = some r) :
  Calls Try.prog 75 #[.slice A0 l0.length c0] w fun e w' => e = .returned (.bool r) ∧ Drawn0 w w' := by
 have HR0 := Aside0.mk hr0
 have HC0 := Aside0.mk hc0
 clear hr0 hc0
 have H : (spec_IsWord.l0 k l0 0) = some r := h
 clear h
 have H' := Aside0.mk H
 clear H
 go_enter Try.func75, Try.ntmps75
 go_wp2
 go_loopg [3] k (fun kq v3 w' => ∃ (x3_1 : Int), v3 = .int .i64 x3_1 ∧ Aside0 (spec_IsWord.l0 kq l0 x3_1 = some r) ∧ Aside0 (kq ≤ k) ∧ Drawn0 w w')
 case atStart => exact ⟨(0), rS, H', ⟨Nat.le_refl _⟩, tD⟩
 case round =>
  clear H'
  obtain ⟨x3_1, rfl, HA, HK1, ⟨m1, rfl⟩⟩ := hrel
  cases gk with
  | zero => exact absurd HA.out (by simp [spec_IsWord.l0])
  | succ k1 =>
   have H := HA.out
   clear HA
   simp only [spec_IsWord.l0] at H
   obtain ⟨c2b0, H⟩ | ⟨c2b0, H⟩ := gi H
   ·obtain ⟨c3b0, H⟩ := gdt H
    obtain ⟨t125, A4, H⟩ := bs H
    by_cases c5 : t125 = true
    ·subst c5
     rw [if_pos rfl] at H
     have H' := Aside0.mk H
     clear H
     have p124 : 0 ≤ (x3_1 : Int) := dT
     have q124 : x3_1 < (l0.length : Int) := dT
     obtain ⟨ad124, e124, hx124_0⟩ := Kd.at_int HR0.out x3_1 p124 q124
     cases e124
     replace p124 := eq_true p124
     replace q124 := eq_true q124
     go_wp2_with (first | (refine gL 83 (some 14) Try.func83 #[.int .i64 (rd l0 x3_1)] ?_; (with_reducible refine (spec_l2Letter.calls (rd l0 x3_1) true _ A4.out).mono ?_); rintro e w' ⟨rfl, ⟨nd, rfl⟩⟩; refine ⟨_, rfl, ?_⟩))
     go_roundg k1
     case measure => exact oK
     case rel => exact ⟨(wrap64 (x3_1 + 1)), rS, H', ⟨oK⟩, tD⟩
    ·replace c5 := Bool.eq_false_iff.mpr c5
     subst c5
     rw [if_neg (show ¬ (false = true) by decide)] at H
     obtain rfl := Option.some.inj H
     have p124 : 0 ≤ (x3_1 : Int) := dT
     have q124 : x3_1 < (l0.length : Int) := dT
     obtain ⟨ad124, e124, hx124_0⟩ := Kd.at_int HR0.out x3_1 p124 q124
     cases e124
     replace p124 := eq_true p124
     replace q124 := eq_true q124
     go_wp2_with (first | (refine gL 83 (some 14) Try.func83 #[.int .i64 (rd l0 x3_1)] ?_; (with_reducible refine (spec_l2Letter.calls (rd l0 x3_1) false _ A4.out).mono ?_); rintro e w' ⟨rfl, ⟨nd, rfl⟩⟩; refine ⟨_, rfl, ?_⟩))
     go_ret
     exact ⟨rS, tD⟩
   ·obtain rfl := Option.some.inj H
    go_wp2
    go_ret
    exact ⟨rS, tD⟩

/-! ### spec_l1Max: function 72 -/
def spec_l1Max.f (a0 : Int) (a1 : Int) : Option (Int) := if a0 > a1 then (some a0) else (some a1)
set_option maxHeartbeats 8000000 in
set_option maxRecDepth 100000 in
theorem spec_l1Max.calls (a0 : Int) (a1 : Int) (r : Int) (w : World) (h : spec_l1Max.f a0 a1 = some r) :
  Calls Try.prog 72 #[.int .i64 a0, .int .i64 a1] w fun e w' => e = .returned (.int .i64 r) ∧ Drawn0 w w' := by
 have H : (if a0 > a1 then (some a0) else (some a1)) = some r := h
 clear h
 by_cases c3 : a0 > a1
 ·rw [if_pos c3] at H
  have c3b0 : decide (a1 < a0) = true := decide_eq_true c3
  clear c3
  obtain rfl := Option.some.inj H
  go_enter Try.func72, Try.ntmps72
  go_wp2
  go_ret
  exact ⟨rS, tD⟩
 ·rw [if_neg c3] at H
  have c3b0 : decide (a1 < a0) = false := decide_eq_false c3
  clear c3
  obtain rfl := Option.some.inj H
  go_enter Try.func72, Try.ntmps72
  go_wp2
  go_ret
  exact ⟨rS, tD⟩

/-! ### spec_l3Abs: function 76 -/
def spec_l3Abs.f (a0 : Int) : Option (Int) := (spec_l1Max.f a0 (wrap64 (-a0))).bind fun t126 => (some t126)
set_option maxHeartbeats 8000000 in
set_option maxRecDepth 100000 in
theorem spec_l3Abs.calls (a0 : Int) (r : Int) (w : World) (h : spec_l3Abs.f a0 = some r) :
  Calls Try.prog 76 #[.int .i64 a0] w fun e w' => e = .returned (.int .i64 r) ∧ Drawn0 w w' := by
 have H : ((spec_l1Max.f a0 (wrap64 (-a0))).bind fun t126 => (some t126)) = some r := h
 clear h
 obtain ⟨t126, A2, H⟩ := bs H
 obtain rfl := Option.some.inj H
 go_enter Try.func76, Try.ntmps76
 go_wp2_with (first | (refine gL 72 (some 6) Try.func72 #[.int .i64 a0, .int .i64 (wrap64 (-a0))] ?_; (with_reducible refine (spec_l1Max.calls a0 (wrap64 (-a0)) t126 _ A2.out).mono ?_); rintro e w' ⟨rfl, ⟨nd, rfl⟩⟩; refine ⟨_, rfl, ?_⟩))
 go_ret
 exact ⟨rS, tD⟩

/-! ### spec_l9Act: function 77 -/
def spec_l9Act.l0 : Nat → List (List Int) → List Int → Int → Int → Option (Int)
 | 0, _, _, _, _ => none
 | k + 1, x0, x1, x2, x7 => if x7 < (x1.length : Int) then (if 0 ≤ x7 then ((spec_l3Abs.f (rd x1 x7)).bind fun t128 => (if 0 ≤ (wrap64 (t128 - 1)) then (if (wrap64 (t128 - 1)) < (x0.length : Int) then (if (rd x1 x7) < 0 then ((spec_l6Inverse.f k (rd_L3 x0 (wrap64 (t128 - 1)))).bind fun t131 => (if 0 ≤ x2 then (if x2 < (t131.length : Int) then (spec_l9Act.l0 k x0 x1 (rd t131 x2) (wrap64 (x7 + 1))) else (none)) else (none))) else (if 0 ≤ x2 then (if x2 < ((rd_L3 x0 (wrap64 (t128 - 1))).length : Int) then (spec_l9Act.l0 k x0 x1 (rd (rd_L3 x0 (wrap64 (t128 - 1))) x2) (wrap64 (x7 + 1))) else (none)) else (none))) else (none)) else (none))) else (none)) else (some x2)
def spec_l9Act.f (k : Nat) (l0 : List (List Int)) (l1 : List Int) (a2 : Int) : Option (Int) := spec_l9Act.l0 k l0 l1 a2 0
set_option maxHeartbeats 8000000 in
set_option maxRecDepth 100000 in
theorem spec_l9Act.calls (k : Nat) (A0 : Option Addr) (c0 : Nat) (l0 : List (List Int)) (A1 : Option Addr) (c1 : Nat) (l1 : List Int) (a2 : Int) (r : Int) (w : World) (hr0 : Kd.C (Kd.slice 3 (Kd.int .i64)) w A0 l0.length l0) (hc0 : l0.length ≤ c0) (hr1 : Kd.C (Kd.int .i64) w A1 l1.length l1) (hc1 : l1.length ≤ c1) (h : spec_l9Act.f k l0 l1 a2 = some r) :
  Calls Try.prog 77 #[.slice A0 l0.length c0, .slice A1 l1.length c1, .int .i64 a2] w fun e w' => e = .returned (.int .i64 r) ∧ Below w.heap.size w w' := by
 have HR0 := Aside0.mk hr0
 have HC0 := Aside0.mk hc0
 clear hr0 hc0
 have HR1 := Aside0.mk hr1
 have HC1 := Aside0.mk hc1
 clear hr1 hc1
 have HB := Aside0.mk (Below.refl w.heap.size w)
 have H : (spec_l9Act.l0 k l0 l1 a2 0) = some r := h
 clear h
 have H' := Aside0.mk H
 clear H
 go_enter Try.func77, Try.ntmps77
 go_wp2
 go_loopg [2, 7] k (fun kq v2 v7 w' => ∃ (x2_1 : Int) (x7_1 : Int), v2 = .int .i64 x2_1 ∧ v7 = .int .i64 x7_1 ∧ Aside0 (spec_l9Act.l0 kq l0 l1 x2_1 x7_1 = some r) ∧ Aside0 (kq ≤ k) ∧ Aside0 (Below w.heap.size w w'))
 case atStart => exact ⟨(a2), (0), rS, rS, H', ⟨Nat.le_refl _⟩, ⟨B_l HB.out⟩⟩
 case round =>
  clear H'
  try clear c1
  try clear p2
  obtain ⟨x2_1, x7_1, rfl, rfl, HA, HK1, HB⟩ := hrel
  cases gk with
  | zero => exact absurd HA.out (by simp [spec_l9Act.l0])
  | succ k1 =>
   have H := HA.out
   clear HA
   simp only [spec_l9Act.l0] at H
   obtain ⟨c4b0, H⟩ | ⟨c4b0, H⟩ := gi H
   ·obtain ⟨c5b0, H⟩ := gdt H
    obtain ⟨t128, A6, H⟩ := bs H
    obtain ⟨ji7, hji7⟩ : ∃ j_ : Int, (wrap64 (t128 - 1)) = j_ := ⟨_, rfl⟩
    replace H : (if 0 ≤ (ji7) then (if (ji7) < (l0.length : Int) then (if (rd l1 x7_1) < 0 then ((spec_l6Inverse.f k1 (rd_L3 l0 (ji7))).bind fun t131 => (if 0 ≤ x2_1 then (if x2_1 < (t131.length : Int) then (spec_l9Act.l0 k1 l0 l1 (rd t131 x2_1) (wrap64 (x7_1 + 1))) else (none)) else (none))) else (if 0 ≤ x2_1 then (if x2_1 < ((rd_L3 l0 (ji7)).length : Int) then (spec_l9Act.l0 k1 l0 l1 (rd (rd_L3 l0 (ji7)) x2_1) (wrap64 (x7_1 + 1))) else (none)) else (none))) else (none)) else (none)) = some r := by first | (rw [hji7] at H; exact H) | (simp only [hji7] at H ⊢; exact H)
    (try rw [hji7] at A6)
    have hji7w : (IntKind.i64.wrap (t128 - 1)) = ji7 := (i64_w _).trans hji7
    obtain ⟨c8b0, H⟩ := gdt H
    obtain ⟨c9b0, H⟩ := gdt H
    obtain ⟨c10b0, H⟩ | ⟨c10b0, H⟩ := gi H
    ·obtain ⟨t131, A11, H⟩ := bs H
     obtain ⟨c12b0, H⟩ := gdt H
     obtain ⟨c13b0, H⟩ := gdt H
     have H' := Aside0.mk H
     clear H
     have p127 : 0 ≤ (x7_1 : Int) := dT
     have q127 : x7_1 < (l1.length : Int) := dT
     obtain ⟨ad127, e127, hx127_0⟩ := Kd.at_int HR1.out x7_1 p127 q127
     cases e127
     replace hx127_0 := cB HB hx127_0
     replace p127 := eq_true p127
     replace q127 := eq_true q127
     go_wp2_with (first | (refine gL 76 (some 20) Try.func76 #[.int .i64 (rd l1 x7_1)] ?_; (with_reducible refine (spec_l3Abs.calls (rd l1 x7_1) t128 _ A6.out).mono ?_); rintro e w' ⟨rfl, ⟨nd, rfl⟩⟩; refine ⟨_, rfl, ?_⟩; have p129 : 0 ≤ ((ji7) : Int) := dT; have q129 : (ji7) < (l0.length : Int) := dT; obtain ⟨ad129, A129_0, c129_0, e129, hx129_0, hl129_0, hi129_0⟩ := at_L3 HR0.out (ji7) p129 q129; cases e129; replace hx129_0 := cB HB hx129_0; have HR129_0 := Aside0.mk hi129_0; have HC129_0 := Aside0.mk hl129_0; clear hi129_0 hl129_0; replace p129 := eq_true p129; replace q129 := eq_true q129; have p130 : 0 ≤ (x7_1 : Int) := dT; have q130 : x7_1 < (l1.length : Int) := dT; obtain ⟨ad130, e130, hx130_0⟩ := Kd.at_int HR1.out x7_1 p130 q130; obtain rfl : ad127 = ad130 := (by injection e130); replace hx130_0 := cB HB hx130_0; replace p130 := eq_true p130; replace q130 := eq_true q130) | ((with_reducible refine gate_callee (f := 40) rfl ?_); refine goesL_ (some 30) rfl rfl Try.func40 (by kernel_rfl) rfl #[.slice A129_0 (rd_L3 l0 (ji7)).length c129_0] rfl (by (try simp only [List.map_toArray, List.map_cons, List.map_nil]); first | done | (simp only [hji7]; rfl) | rfl | (simp only [List.length_drop, List.length_take]; rfl)) ?_; (with_reducible refine (spec_l6Inverse.calls k1 _ _ (rd_L3 l0 (ji7)) t131 _ ?side1 ?side2 A11.out).mono ?_); (case side1 => exact C_l (Kd.C_below HR129_0.out HB.out)); (case side2 => exact HC129_0.out); rintro e w14 ⟨v132, rfl, ho0, hb⟩; refine ⟨_, rfl, ?_⟩; have HO133 := Aside0.mk (Kd.R_lower ho0 (zB HB)); replace HB := Aside0.mk (zS HB hb); obtain ⟨Ao15, co15, eo15⟩ := Kd.R_slice HO133.out; subst eo15; have p134 : 0 ≤ (x2_1 : Int) := dT; have q134 : x2_1 < (t131.length : Int) := dT; obtain ⟨ad134, e134, hx134_0⟩ := Kd.at_int (Kd.R_reads' HO133.out).2.2 x2_1 p134 q134; cases e134; replace p134 := eq_true p134; replace q134 := eq_true q134))
     go_roundg k1
     case measure => exact oK
     case rel => exact ⟨(rd t131 x2_1), (wrap64 (x7_1 + 1)), rS, rS, H', ⟨oK⟩, ⟨B_l HB.out⟩⟩
    ·obtain ⟨c16b0, H⟩ := gdt H
     obtain ⟨c17b0, H⟩ := gdt H
     have H' := Aside0.mk H
     clear H
     have p127 : 0 ≤ (x7_1 : Int) := dT
     have q127 : x7_1 < (l1.length : Int) := dT
     obtain ⟨ad127, e127, hx127_0⟩ := Kd.at_int HR1.out x7_1 p127 q127
     cases e127
     replace hx127_0 := cB HB hx127_0
     replace p127 := eq_true p127
     replace q127 := eq_true q127
     go_wp2_with (first | (refine gL 76 (some 20) Try.func76 #[.int .i64 (rd l1 x7_1)] ?_; (with_reducible refine (spec_l3Abs.calls (rd l1 x7_1) t128 _ A6.out).mono ?_); rintro e w' ⟨rfl, ⟨nd, rfl⟩⟩; refine ⟨_, rfl, ?_⟩; have p129 : 0 ≤ ((ji7) : Int) := dT; have q129 : (ji7) < (l0.length : Int) := dT; obtain ⟨ad129, A129_0, c129_0, e129, hx129_0, hl129_0, hi129_0⟩ := at_L3 HR0.out (ji7) p129 q129; cases e129; replace hx129_0 := cB HB hx129_0; have HR129_0 := Aside0.mk hi129_0; have HC129_0 := Aside0.mk hl129_0; clear hi129_0 hl129_0; replace p129 := eq_true p129; replace q129 := eq_true q129; have p130 : 0 ≤ (x7_1 : Int) := dT; have q130 : x7_1 < (l1.length : Int) := dT; obtain ⟨ad130, e130, hx130_0⟩ := Kd.at_int HR1.out x7_1 p130 q130; obtain rfl : ad127 = ad130 := (by injection e130); replace hx130_0 := cB HB hx130_0; replace p130 := eq_true p130; replace q130 := eq_true q130; have p135 : 0 ≤ (x2_1 : Int) := dT; have q135 : x2_1 < ((rd_L3 l0 (ji7)).length : Int) := dT; obtain ⟨ad135, e135, hx135_0⟩ := Kd.at_int HR129_0.out x2_1 p135 q135; cases e135; replace hx135_0 := cB HB hx135_0; replace p135 := eq_true p135; replace q135 := eq_true q135))
     go_roundg k1
     case measure => exact oK
     case rel => exact ⟨(rd (rd_L3 l0 (ji7)) x2_1), (wrap64 (x7_1 + 1)), (by first | rfl | (simp; done) | (simp only [← hji7] <;> (first | rfl | simp)) | (simp [*]; done)), rS, H', ⟨oK⟩, ⟨B_l HB.out⟩⟩
   ·obtain rfl := Option.some.inj H
    go_wp2
    go_ret
    exact ⟨rE, B_l HB.out⟩

/-! ### spec_ActWord: function 41 -/
mutual
def spec_ActWord.j0 : Nat → List (List Int) → List Int → Bool → Option (List Int)
 | 0, _, _, _ => none
 | k + 1, x0, x1, x15 => if x15 = true then (some (([] : List Int))) else (spec_ActWord.l0 k x0 x1 0)
def spec_ActWord.l0 : Nat → List (List Int) → List Int → Int → Option (List Int)
 | 0, _, _, _ => none
 | k + 1, x0, x1, x5 => if x5 < (x1.length : Int) then (if 0 ≤ x5 then ((spec_l3Abs.f (rd x1 x5)).bind fun t142 => (if t142 > (x0.length : Int) then (some (([] : List Int))) else (spec_ActWord.l0 k x0 x1 (wrap64 (x5 + 1))))) else (none)) else (spec_ActWord.l1 k x0 x1 (([] : List Int)) 0)
def spec_ActWord.l1 : Nat → List (List Int) → List Int → List Int → Int → Option (List Int)
 | 0, _, _, _, _ => none
 | k + 1, x0, x1, x6, x7 => if 0 < (x0.length : Int) then (if x7 < ((rd_L3 x0 0).length : Int) then ((spec_l9Act.f k x0 x1 x7).bind fun t150 => (if x6.length < 17592186044416 then (spec_ActWord.l1 k x0 x1 (x6 ++ [t150]) (wrap64 (x7 + 1))) else (none))) else (some x6)) else (none)
end
def spec_ActWord.f (k : Nat) (l0 : List (List Int)) (l1 : List Int) : Option (List Int) := (spec_l9Perms.f k l0).bind fun t136 => (if t136 = true then ((spec_IsWord.f k l1).bind fun t137 => (spec_ActWord.j0 k l0 l1 (!t137))) else (spec_ActWord.j0 k l0 l1 true))
set_option maxHeartbeats 8000000 in
set_option maxRecDepth 100000 in
theorem spec_ActWord.calls (k : Nat) (A0 : Option Addr) (c0 : Nat) (l0 : List (List Int)) (A1 : Option Addr) (c1 : Nat) (l1 : List Int) (r : List Int) (w : World) (hr0 : Kd.C (Kd.slice 3 (Kd.int .i64)) w A0 l0.length l0) (hc0 : l0.length ≤ c0) (hr1 : Kd.C (Kd.int .i64) w A1 l1.length l1) (hc1 : l1.length ≤ c1) (h : spec_ActWord.f k l0 l1 = some r) :
  Calls Try.prog 41 #[.slice A0 l0.length c0, .slice A1 l1.length c1] w fun e w' => ∃ v0_ : Value, e = .returned (v0_) ∧ Kd.R (Kd.int .i64) 3 w' w.heap.size (fun _ => True) v0_ r ∧ Below w.heap.size w w' := by
 have HR0 := Aside0.mk hr0
 have HC0 := Aside0.mk hc0
 clear hr0 hc0
 have HR1 := Aside0.mk hr1
 have HC1 := Aside0.mk hc1
 clear hr1 hc1
 have HB := Aside0.mk (Below.refl w.heap.size w)
 have H : ((spec_l9Perms.f k l0).bind fun t136 => (if t136 = true then ((spec_IsWord.f k l1).bind fun t137 => (spec_ActWord.j0 k l0 l1 (!t137))) else (spec_ActWord.j0 k l0 l1 true))) = some r := h
 clear h
 have HC3 := Aside0.mk H
 clear H
 go_enter Try.func41, Try.ntmps41
 go_upto_region 1 with (fail)
 go_cut [15] (fun v15 wc => ∃ (kq : Nat) (x15_2 : Bool), v15 = .bool x15_2 ∧ Aside0 (spec_ActWord.j0 kq l0 l1 x15_2 = some r) ∧ Aside0 (kq ≤ k) ∧ Aside0 (Below w.heap.size w wc))
 case first =>
  have H := HC3.out
  clear HC3
  obtain ⟨t136, A4, H⟩ := bs H
  by_cases c5 : t136 = true
  ·subst c5
   rw [if_pos rfl] at H
   obtain ⟨t137, A6, H⟩ := bs H
   have H' := Aside0.mk H
   clear H
   go_wp2_with (first | (refine gL 39 (some 9) Try.func39 #[.slice A0 l0.length c0] ?_; (with_reducible refine (spec_l9Perms.calls k _ _ l0 true _ ?side1 ?side2 A4.out).mono ?_); (case side1 => exact C_l (Kd.C_below HR0.out HB.out)); (case side2 => exact HC0.out); rintro e w7 ⟨rfl, hb⟩; refine ⟨_, rfl, ?_⟩; replace HB := Aside0.mk (zS HB hb)) | (go_at_call 75; (with_reducible refine (spec_IsWord.calls k _ _ l1 t137 _ ?side1 ?side2 A6.out).mono ?_); (case side1 => exact C_l (Kd.C_below HR1.out HB.out)); (case side2 => exact HC1.out); rintro e w' ⟨rfl, ⟨nd, rfl⟩⟩))
   go_meet
   case rel => exact ⟨_, (!t137), rS, H', ⟨by first | omega | exact Nat.le_refl _⟩, ⟨B_l HB.out⟩⟩
  ·replace c5 := Bool.eq_false_iff.mpr c5
   subst c5
   rw [if_neg (show ¬ (false = true) by decide)] at H
   have H' := Aside0.mk H
   clear H
   go_wp2_with (first | (refine gL 39 (some 9) Try.func39 #[.slice A0 l0.length c0] ?_; (with_reducible refine (spec_l9Perms.calls k _ _ l0 false _ ?side1 ?side2 A4.out).mono ?_); (case side1 => exact C_l (Kd.C_below HR0.out HB.out)); (case side2 => exact HC0.out); rintro e w8 ⟨rfl, hb⟩; refine ⟨_, rfl, ?_⟩; replace HB := Aside0.mk (zS HB hb)))
   go_meet
   case rel => exact ⟨_, (true), rS, H', ⟨by first | omega | exact Nat.le_refl _⟩, ⟨B_l HB.out⟩⟩
 case rest =>
  clear HC3
  try clear c1
  try clear p2
  try clear c3
  try clear c4
  try clear c5
  obtain ⟨kq, x15_2, rfl, HA, HJ2, HB⟩ := hcut
  cases kq with
  | zero => exact absurd HA.out (by simp [spec_ActWord.j0])
  | succ kj2 =>
   have H := HA.out
   clear HA
   simp only [spec_ActWord.j0] at H
   by_cases c9 : x15_2 = true
   ·subst c9
    rw [if_pos rfl] at H
    generalize hy138 : (([] : List Int) : List Int) = y138 at H
    have Ny138 := Aside0.mk hy138.symm; clear hy138
    obtain rfl := Option.some.inj H
    go_wp2_with (first | ((with_reducible refine gate_dst (N := 16) rfl ?_); refine Kd.R_lit (Kd.int .i64) _ 3 ?hg (N := 16) ?hd (xs := ([] : List Int)) (inner := []) (ok := fun _ => True) (okp := fun _ => True) ?hr ?hp (fun _ hk => hk) trivial (Below.refl _ _) (Nat.le_refl _) (by simp) ?_; (case hd => rfl); (case hg => rfl); (case hr => exact gS); (case hp => exact (Reps.none _ _)); intro v139 w10 ho11 hb hg_ hnew_; clear hg_ hnew_; (first | rw [← Ny138.out] at ho11 | (simp only [Int.reduceToNat] at ho11; rw [← Ny138.out] at ho11)); have HO140 := Aside0.mk (Kd.R_lower ho11 (zB HB)); replace HB := Aside0.mk (zS HB hb); clear hb ho11))
    go_ret
    exact ⟨_, rE, R_l HO140.out, B_l HB.out⟩
   ·replace c9 := Bool.eq_false_iff.mpr c9
    subst c9
    rw [if_neg (show ¬ (false = true) by decide)] at H
    have H' := Aside0.mk H
    clear H
    go_wp2
    go_loopg [5] kj2 (fun kq v5 w' => ∃ (x5_2 : Int), v5 = .int .i64 x5_2 ∧ Aside0 (spec_ActWord.l0 kq l0 l1 x5_2 = some r) ∧ Aside0 (kq ≤ kj2) ∧ Aside0 (Below w.heap.size w w'))
    case atStart => exact ⟨(0), rS, H', ⟨Nat.le_refl _⟩, ⟨B_l HB.out⟩⟩
    case round =>
     clear H'
     try clear c1
     try clear p2
     try clear c3
     try clear c4
     try clear c5
     try clear c9
     try clear p2
     obtain ⟨x5_2, rfl, HA, HK2, HB⟩ := hrel
     cases gk with
     | zero => exact absurd HA.out (by simp [spec_ActWord.l0])
     | succ k2 =>
      have H := HA.out
      clear HA
      simp only [spec_ActWord.l0] at H
      obtain ⟨c12b0, H⟩ | ⟨c12b0, H⟩ := gi H
      ·obtain ⟨c13b0, H⟩ := gdt H
       obtain ⟨t142, A14, H⟩ := bs H
       by_cases c15 : t142 > (l0.length : Int)
       ·rw [if_pos c15] at H
        have c15b0 : decide ((l0.length : Int) < t142) = true := decide_eq_true c15
        clear c15
        generalize hy143 : (([] : List Int) : List Int) = y143 at H
        have Ny143 := Aside0.mk hy143.symm; clear hy143
        obtain rfl := Option.some.inj H
        have p141 : 0 ≤ (x5_2 : Int) := dT
        have q141 : x5_2 < (l1.length : Int) := dT
        obtain ⟨ad141, e141, hx141_0⟩ := Kd.at_int HR1.out x5_2 p141 q141
        cases e141
        replace hx141_0 := cB HB hx141_0
        replace p141 := eq_true p141
        replace q141 := eq_true q141
        go_wp2_with (first | (refine gL 76 (some 27) Try.func76 #[.int .i64 (rd l1 x5_2)] ?_; (with_reducible refine (spec_l3Abs.calls (rd l1 x5_2) t142 _ A14.out).mono ?_); rintro e w' ⟨rfl, ⟨nd, rfl⟩⟩; refine ⟨_, rfl, ?_⟩) | ((with_reducible refine gate_dst (N := 31) rfl ?_); refine Kd.R_lit (Kd.int .i64) _ 3 ?hg (N := 31) ?hd (xs := ([] : List Int)) (inner := []) (ok := fun _ => True) (okp := fun _ => True) ?hr ?hp (fun _ hk => hk) trivial (Below.refl _ _) (Nat.le_refl _) (by simp) ?_; (case hd => rfl); (case hg => rfl); (case hr => exact gS); (case hp => exact (Reps.none _ _)); intro v144 w16 ho17 hb hg_ hnew_; clear hg_ hnew_; (first | rw [← Ny143.out] at ho17 | (simp only [Int.reduceToNat] at ho17; rw [← Ny143.out] at ho17)); have HO145 := Aside0.mk (Kd.R_lower ho17 (zB HB)); replace HB := Aside0.mk (zS HB hb); clear hb ho17))
        go_ret
        exact ⟨_, rE, R_l HO145.out, B_l HB.out⟩
       ·rw [if_neg c15] at H
        have c15b0 : decide ((l0.length : Int) < t142) = false := decide_eq_false c15
        clear c15
        have H' := Aside0.mk H
        clear H
        have p141 : 0 ≤ (x5_2 : Int) := dT
        have q141 : x5_2 < (l1.length : Int) := dT
        obtain ⟨ad141, e141, hx141_0⟩ := Kd.at_int HR1.out x5_2 p141 q141
        cases e141
        replace hx141_0 := cB HB hx141_0
        replace p141 := eq_true p141
        replace q141 := eq_true q141
        go_wp2_with (first | (refine gL 76 (some 27) Try.func76 #[.int .i64 (rd l1 x5_2)] ?_; (with_reducible refine (spec_l3Abs.calls (rd l1 x5_2) t142 _ A14.out).mono ?_); rintro e w' ⟨rfl, ⟨nd, rfl⟩⟩; refine ⟨_, rfl, ?_⟩))
        go_roundg k2
        case measure => have := HJ2.out; have := HK2.out; omega
        case rel => exact ⟨(wrap64 (x5_2 + 1)), rS, H', ⟨by have := HJ2.out; have := HK2.out; omega⟩, ⟨B_l HB.out⟩⟩
      ·obtain ⟨y146, hy146⟩ : ∃ y_ : List Int, y_ = (([] : List Int)) := ⟨_, rfl⟩
       replace H : (spec_ActWord.l1 k2 l0 l1 y146 0) = some r := by first | (rw [hy146]; with_reducible exact H) | (have H2_ := (Option.bind_some _ _).symm.trans H; rw [hy146]; with_reducible exact H2_) | (have H2_ := (Option.bind_some _ _).symm.trans H; with_reducible exact H2_) | with_reducible exact H | (rw [hy146]; exact H) | exact H
       have Ny146 := Aside0.mk hy146
       clear hy146
       have H' := Aside0.mk H
       clear H
       go_wp2_with (first | ((with_reducible refine gate_dst (N := 32) rfl ?_); refine Kd.R_lit (Kd.int .i64) _ 3 ?hg (N := 32) ?hd (xs := ([] : List Int)) (inner := []) (ok := fun _ => True) (okp := fun _ => True) ?hr ?hp (fun _ hk => hk) trivial (Below.refl _ _) (Nat.le_refl _) (by simp) ?_; (case hd => rfl); (case hg => rfl); (case hr => exact gS); (case hp => exact (Reps.none _ _)); intro v147 w18 ho19 hb hg_ hnew_; clear hg_ hnew_; (first | rw [← Ny146.out] at ho19 | (simp only [Int.reduceToNat] at ho19; rw [← Ny146.out] at ho19)); have HO148 := Aside0.mk (Kd.R_lower ho19 (zB HB)); replace HB := Aside0.mk (zS HB hb); clear hb ho19))
       go_loopg [6, 7] k2 (fun kq v6 v7 w' => ∃ (x6_3 : List Int) (x7_3 : Int), v7 = .int .i64 x7_3 ∧ Aside0 (spec_ActWord.l1 kq l0 l1 x6_3 x7_3 = some r) ∧ Aside0 (kq ≤ k2) ∧ Aside0 (Kd.R (Kd.int .i64) 3 w' w.heap.size (fun _ => True) v6 x6_3) ∧ Aside0 (Below w.heap.size w w'))
       case atStart => exact ⟨(y146), (0), rS, H', ⟨Nat.le_refl _⟩, ⟨R_l HO148.out⟩, ⟨B_l HB.out⟩⟩
       case round =>
        clear H'
        try clear c1
        try clear p1
        try clear q1
        try clear hx1
        try clear p2
        try clear c3
        try clear c4
        try clear c5
        try clear p6
        try clear c7
        try clear c9
        try clear c12
        try clear c12b0
        try clear c13
        try clear c13b0
        try clear p14
        try clear q14
        try clear hx14
        try clear c15
        try clear c15b0
        try clear hx141_0
        try clear p141
        try clear p2
        try clear q141
        obtain ⟨x6_3, x7_3, rfl, HA, HK3, HO_6, HB⟩ := hrel
        cases gk with
        | zero => exact absurd HA.out (by simp [spec_ActWord.l1])
        | succ k3 =>
         have H := HA.out
         clear HA
         simp only [spec_ActWord.l1] at H
         by_cases c20 : 0 < (l0.length : Int)
         ·rw [if_pos c20] at H
          have c20b0 : decide (0 < (l0.length : Int)) = true := decide_eq_true c20
          have c20b1 : decide (0 < l0.length) = true := decide_eq_true (by omega)
          clear c20
          obtain ⟨c21b0, H⟩ | ⟨c21b0, H⟩ := gi H
          ·obtain ⟨t150, A22, H⟩ := bs H
           obtain ⟨LMc23, H⟩ := gda H
           generalize hy151 : (x6_3 ++ [t150] : List Int) = y151 at H
           have Ny151 := Aside0.mk hy151.symm; clear hy151
           have H' := Aside0.mk H
           clear H
           have p149 : 0 ≤ (0 : Int) := (by omega)
           have q149 : 0 < (l0.length : Int) := dT
           obtain ⟨ad149, A149_0, c149_0, e149, hx149_0, HC149_0, HR149_0⟩ := aL3 HR0.out 0 p149 q149
           cases e149
           have qi149 : (0 < l0.length) = True := eq_true (by omega)
           (try rw [show ((0 : Int)).toNat = 0 from rfl] at hx149_0)
           (try rw [Addr.add_zero'] at hx149_0)
           replace hx149_0 := cB HB hx149_0
           replace p149 := eq_true p149
           replace q149 := eq_true q149
           go_wp2_with (first | (refine gL 77 (some 45) Try.func77 #[.slice (some ad149) l0.length c0, .slice A1 l1.length c1, .int .i64 x7_3] ?_; (with_reducible refine (spec_l9Act.calls k3 _ _ l0 _ _ l1 x7_3 t150 _ ?side1 ?side2 ?side3 ?side4 A22.out).mono ?_); (case side1 => exact C_l (Kd.C_below HR0.out HB.out)); (case side2 => exact HC0.out); (case side3 => exact C_l (Kd.C_below HR1.out HB.out)); (case side4 => exact HC1.out); rintro e w24 ⟨rfl, hb⟩; refine ⟨_, rfl, ?_⟩; replace HO_6 := Aside0.mk (Kd.R_below (R_l HO_6.out) hb); replace HB := Aside0.mk (zS HB hb)) | ((with_reducible refine gate_builtin (b := .append) (xs := #[.tmp 41, .tmp 46]) rfl ?_); at_builtin; refine Kd.R_append (Kd.int .i64) (w0 := w) w.heap.size rfl (.tmp 41) (.tmp 46) 35 3 (.int .i64 0) 8 rfl Try.underlying35 info3 rfl (by decide) (by omega) u6 x6_3 t150 [.int .i64 t150] (fun _ => True) (fun _ => False) rfl rfl ?aP (fun _ hk => hk.elim) ?aF ?aO ?aB ?aS ?aL ?_; (case aP => exact rfl); (case aB => exact (B_l HB.out)); (case aF => exact (fun _ _ => trivial)); (case aO => exact (R_l HO_6.out)); (case aS => exact (zB HB)); (case aL => have := LMc23.out; omega); intro v152 w25 ho hb hg hat; rw [← Ny151.out] at ho; replace HB := Aside0.mk (hb); have HO153 := Aside0.mk (ho); clear HO_6; clear ho hb hg hat))
           go_roundg k3
           case measure => have := HJ2.out; have := HK2.out; have := HK3.out; omega
           case rel => exact ⟨(y151), (wrap64 (x7_3 + 1)), rS, H', ⟨by have := HJ2.out; have := HK2.out; have := HK3.out; omega⟩, ⟨R_l HO153.out⟩, ⟨B_l HB.out⟩⟩
          ·obtain rfl := Option.some.inj H
           have p149 : 0 ≤ (0 : Int) := (by omega)
           have q149 : 0 < (l0.length : Int) := dT
           obtain ⟨ad149, A149_0, c149_0, e149, hx149_0, HC149_0, HR149_0⟩ := aL3 HR0.out 0 p149 q149
           cases e149
           have qi149 : (0 < l0.length) = True := eq_true (by omega)
           (try rw [show ((0 : Int)).toNat = 0 from rfl] at hx149_0)
           (try rw [Addr.add_zero'] at hx149_0)
           replace hx149_0 := cB HB hx149_0
           replace p149 := eq_true p149
           replace q149 := eq_true q149
           go_wp2
           go_ret
           exact ⟨_, rE, R_l HO_6.out, B_l HB.out⟩
         ·rw [if_neg c20] at H
          exact absurd H (by simp)

/-! ### spec_l10Letters: function 42 -/
def spec_l10Letters.l0 : Nat → Int → List Int → Int → Option (List Int)
 | 0, _, _, _ => none
 | k + 1, x0, x3, x4 => if x4 ≤ x0 then (if x3.length < 17592186044416 then (spec_l10Letters.l0 k x0 (x3 ++ [x4]) (wrap64 (x4 + 1))) else (none)) else (some x3)
def spec_l10Letters.f (k : Nat) (a0 : Int) : Option (List Int) := spec_l10Letters.l0 k a0 (([] : List Int)) 1
set_option maxHeartbeats 8000000 in
set_option maxRecDepth 100000 in
theorem spec_l10Letters.calls (k : Nat) (a0 : Int) (r : List Int) (w : World) (h : spec_l10Letters.f k a0 = some r) :
  Calls Try.prog 42 #[.int .i64 a0] w fun e w' => ∃ v0_ : Value, e = .returned (v0_) ∧ Kd.R (Kd.int .i64) 3 w' w.heap.size (fun _ => True) v0_ r ∧ Below w.heap.size w w' := by
 have HB := Aside0.mk (Below.refl w.heap.size w)
 have H : (spec_l10Letters.l0 k a0 (([] : List Int)) 1) = some r := h
 clear h
 generalize hy154 : (([] : List Int) : List Int) = y154 at H
 have Ny154 := Aside0.mk hy154.symm; clear hy154
 have H' := Aside0.mk H
 clear H
 go_enter Try.func42, Try.ntmps42
 go_wp2_with (first | ((with_reducible refine gate_dst (N := 5) rfl ?_); refine Kd.R_lit (Kd.int .i64) _ 3 ?hg (N := 5) ?hd (xs := ([] : List Int)) (inner := []) (ok := fun _ => True) (okp := fun _ => True) ?hr ?hp (fun _ hk => hk) trivial (Below.refl _ _) (Nat.le_refl _) (by simp) ?_; (case hd => rfl); (case hg => rfl); (case hr => exact gS); (case hp => exact (Reps.none _ _)); intro v155 w2 ho3 hb hg_ hnew_; clear hg_ hnew_; (first | rw [← Ny154.out] at ho3 | (simp only [Int.reduceToNat] at ho3; rw [← Ny154.out] at ho3)); have HO156 := Aside0.mk (Kd.R_lower ho3 (zB HB)); replace HB := Aside0.mk (zS HB hb); clear hb ho3))
 go_loopg [3, 4] k (fun kq v3 v4 w' => ∃ (x3_1 : List Int) (x4_1 : Int), v4 = .int .i64 x4_1 ∧ Aside0 (spec_l10Letters.l0 kq a0 x3_1 x4_1 = some r) ∧ Aside0 (kq ≤ k) ∧ Aside0 (Kd.R (Kd.int .i64) 3 w' w.heap.size (fun _ => True) v3 x3_1) ∧ Aside0 (Below w.heap.size w w'))
 case atStart => exact ⟨(y154), (1), rS, H', ⟨Nat.le_refl _⟩, ⟨R_l HO156.out⟩, ⟨B_l HB.out⟩⟩
 case round =>
  clear H'
  try clear p2
  obtain ⟨x3_1, x4_1, rfl, HA, HK1, HO_3, HB⟩ := hrel
  cases gk with
  | zero => exact absurd HA.out (by simp [spec_l10Letters.l0])
  | succ k1 =>
   have H := HA.out
   clear HA
   simp only [spec_l10Letters.l0] at H
   obtain ⟨c4b0, H⟩ | ⟨c4b0, H⟩ := gi H
   ·obtain ⟨LMc5, H⟩ := gda H
    generalize hy157 : (x3_1 ++ [x4_1] : List Int) = y157 at H
    have Ny157 := Aside0.mk hy157.symm; clear hy157
    have H' := Aside0.mk H
    clear H
    go_wp2_with (first | ((with_reducible refine gate_builtin (b := .append) (xs := #[.tmp 11, .tmp 13]) rfl ?_); at_builtin; refine Kd.R_append (Kd.int .i64) (w0 := w) w.heap.size rfl (.tmp 11) (.tmp 13) 35 3 (.int .i64 0) 8 rfl Try.underlying35 info3 rfl (by decide) (by omega) u3 x3_1 x4_1 [.int .i64 x4_1] (fun _ => True) (fun _ => False) rfl rfl ?aP (fun _ hk => hk.elim) ?aF ?aO ?aB ?aS ?aL ?_; (case aP => exact rfl); (case aB => exact (B_l HB.out)); (case aF => exact (fun _ _ => trivial)); (case aO => exact (R_l HO_3.out)); (case aS => exact (zB HB)); (case aL => have := LMc5.out; omega); intro v158 w6 ho hb hg hat; rw [← Ny157.out] at ho; replace HB := Aside0.mk (hb); have HO159 := Aside0.mk (ho); clear HO_3; clear ho hb hg hat))
    go_roundg k1
    case measure => exact oK
    case rel => exact ⟨(y157), (wrap64 (x4_1 + 1)), rS, H', ⟨oK⟩, ⟨R_l HO159.out⟩, ⟨B_l HB.out⟩⟩
   ·obtain rfl := Option.some.inj H
    go_wp2
    go_ret
    exact ⟨_, rE, R_l HO_3.out, B_l HB.out⟩

end Go.Proofs.Ytkbkkpgllphdhaa.PFnBranches
