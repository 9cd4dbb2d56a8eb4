import Derived.Test.YtepogblkmiidnaaWSpanB
import Derived.Test.YtepogblkmiidnaaPFnCoversx0
import Derived.Test.YtepogblkmiidnaaPFnCoversx9
namespace Go.Proofs.Ytepogblkmiidnaa.PFnCovers
open Go.RowKit Go.Proofs.YtepogblkmiidnaaW.PrintWords Go.Proofs.YtepogblkmiidnaaW.PrintLast Go.Proofs.YtepogblkmiidnaaW.PrintMore
attribute [local go_sem] max2_int min2_int max_two min_two max_three min_three max_four min_four   -- for this text's walks alone
set_option linter.unusedVariables false
set_option linter.unusedSimpArgs false

/-! ### spec_l1Max: function 61 -/
def spec_l1Max.f (a0 : Int) (a1 : Int) : Option (Int) := if a0 > a1 then (some a0) else (some a1)
set_option maxHeartbeats 8000000 in
set_option maxRecDepth 100000 in
theorem spec_l1Max.calls (a0 : Int) (a1 : Int) (r : Int) (w : World) (h : spec_l1Max.f a0 a1 = some r) :
  Calls Try.prog 61 #[.int .i64 a0, .int .i64 a1] w fun e w' => e = .returned (.int .i64 r) ∧ Drawn0 w w' := by
 have H : (if a0 > a1 then (some a0) else (some a1)) = some r := h
 clear h
 by_cases c3 : a0 > a1
 ·rw [if_pos c3] at H
  have c3b0 : decide (a1 < a0) = true := decide_eq_true c3
  clear c3
  obtain rfl := Option.some.inj H
  go_enter Try.func61, Try.ntmps61
  go_wp2
  go_ret
  exact ⟨rS, tD⟩
 ·rw [if_neg c3] at H
  have c3b0 : decide (a1 < a0) = false := decide_eq_false c3
  clear c3
  obtain rfl := Option.some.inj H
  go_enter Try.func61, Try.ntmps61
  go_wp2
  go_ret
  exact ⟨rS, tD⟩

/-! ### spec_l3Abs: function 52 -/
def spec_l3Abs.f (a0 : Int) : Option (Int) := (spec_l1Max.f a0 (wrap64 (-a0))).bind fun t315 => (some t315)
set_option maxHeartbeats 8000000 in
set_option maxRecDepth 100000 in
theorem spec_l3Abs.calls (a0 : Int) (r : Int) (w : World) (h : spec_l3Abs.f a0 = some r) :
  Calls Try.prog 52 #[.int .i64 a0] w fun e w' => e = .returned (.int .i64 r) ∧ Drawn0 w w' := by
 have H : ((spec_l1Max.f a0 (wrap64 (-a0))).bind fun t315 => (some t315)) = some r := h
 clear h
 obtain ⟨t315, A2, H⟩ := bs H
 obtain rfl := Option.some.inj H
 go_enter Try.func52, Try.ntmps52
 go_wp2_with (first | (refine gL 61 (some 6) Try.func61 #[.int .i64 a0, .int .i64 (wrap64 (-a0))] ?_; (with_reducible refine (spec_l1Max.calls a0 (wrap64 (-a0)) t315 _ A2.out).mono ?_); rintro e w' ⟨rfl, ⟨nd, rfl⟩⟩; refine ⟨_, rfl, ?_⟩))
 go_ret
 exact ⟨rS, tD⟩

/-! ### spec_l6Inverse: function 87 -/
def spec_l6Inverse.l0 : Nat → List Int → List Int → Int → Option (List Int)
 | 0, _, _, _ => none
 | k + 1, x0, x3, x4 => if x4 < (x0.length : Int) then (if 0 ≤ x4 then (if 0 ≤ (rd x0 x4) then (if (rd x0 x4) < (x3.length : Int) then (spec_l6Inverse.l0 k x0 (x3.set ((rd x0 x4) : Int).toNat x4) (wrap64 (x4 + 1))) else (none)) else (none)) else (none)) else (some x3)
def spec_l6Inverse.f (k : Nat) (l0 : List Int) : Option (List Int) := if 0 ≤ (l0.length : Int) then (if ((l0.length : Int) : Int).toNat ≤ 35184372088832 then (spec_l6Inverse.l0 k l0 (List.replicate ((l0.length : Int) : Int).toNat 0) 0) else (none)) else (none)
set_option maxHeartbeats 8000000 in
set_option maxRecDepth 100000 in
theorem spec_l6Inverse.calls (k : Nat) (A0 : Option Addr) (c0 : Nat) (l0 : List Int) (r : List Int) (w : World) (hr0 : Kd.C (Kd.int .i64) w A0 l0.length l0) (hc0 : l0.length ≤ c0) (h : spec_l6Inverse.f k l0 = some r) :
  Calls Try.prog 87 #[.slice A0 l0.length c0] w fun e w' => ∃ v0_ : Value, e = .returned (v0_) ∧ Kd.R (Kd.int .i64) 3 w' w.heap.size (fun _ => True) v0_ r ∧ Below w.heap.size w w' := by
 have HR0 := Aside0.mk hr0
 have HC0 := Aside0.mk hc0
 clear hr0 hc0
 have HB := Aside0.mk (Below.refl w.heap.size w)
 have H : (if 0 ≤ (l0.length : Int) then (if ((l0.length : Int) : Int).toNat ≤ 35184372088832 then (spec_l6Inverse.l0 k l0 (List.replicate ((l0.length : Int) : Int).toNat 0) 0) else (none)) else (none)) = some r := h
 clear h
 by_cases c2 : 0 ≤ (l0.length : Int)
 ·rw [if_pos c2] at H
  have c2b0 := eq_true c2
  have c2b1 : decide (0 ≤ (l0.length : Int)) = true := decide_eq_true c2
  clear c2
  obtain ⟨c3, H⟩ := gd H
  have c3b0 := eq_true c3
  have c3b1 : decide (((l0.length : Int) : Int).toNat ≤ 35184372088832) = true := decide_eq_true c3
  clear c3
  generalize hy316 : (List.replicate ((l0.length : Int) : Int).toNat 0 : List Int) = y316 at H
  have Ny316 := Aside0.mk hy316.symm; clear hy316
  have H' := Aside0.mk H
  clear H
  go_enter Try.func87, Try.ntmps87
  go_wp2_with (first | ((with_reducible refine gate_dst (N := 7) rfl ?_); refine Kd.R_make (Kd.int .i64) _ 3 rfl (N := 7) rfl 30 _ _ rfl (l0.length : Int) rfl rfl Try.underlying30 (.int .i64 0) 8 info3 rfl (by decide) (by omega) 0 (ok := fun _ => True) (okp := fun _ => True) rfl (fun _ hk => hk) trivial dT (Nat.le_trans (Nat.mul_le_mul_right _ (dT : (l0.length : Int).toNat ≤ 35184372088832)) (by omega)) (Below.refl _ _) (Nat.le_refl _) ?_; intro v317 w4 ho5 hb hg_ hnew_; clear hg_ hnew_; (first | rw [← Ny316.out] at ho5 | (simp only [Int.reduceToNat] at ho5; rw [← Ny316.out] at ho5)); have HO318 := Aside0.mk (Kd.R_lower ho5 (below_size tb)); replace HB := Aside0.mk (below_step tb hb); clear hb ho5))
  go_loopg [4] k (fun kq v4 w' => ∃ (x3_1 : List Int) (x4_1 : Int), v4 = .int .i64 x4_1 ∧ Aside0 (spec_l6Inverse.l0 kq l0 x3_1 x4_1 = some r) ∧ Aside0 (kq ≤ k) ∧ Aside0 (Kd.R (Kd.int .i64) 3 w' w.heap.size (fun _ => True) v317 x3_1) ∧ Aside0 (Below w.heap.size w w'))
  case atStart => exact ⟨(y316), (0), rS, H', ⟨Nat.le_refl _⟩, ⟨R_l HO318.out⟩, ⟨tb⟩⟩
  case round =>
   clear H'
   try clear c2
   try clear c2b0
   try clear c2b1
   try clear p2
   try clear c3
   try clear c3b0
   try clear c3b1
   obtain ⟨x3_1, x4_1, rfl, HA, HK1, HO_3, HB⟩ := hrel
   cases gk with
   | zero => exact absurd HA.out (by simp [spec_l6Inverse.l0])
   | succ k1 =>
    have H := HA.out
    clear HA
    simp only [spec_l6Inverse.l0] at H
    obtain ⟨c6b0, H⟩ | ⟨c6b0, H⟩ := gi H
    ·obtain ⟨c7b0, H⟩ := gdt H
     obtain ⟨c8b0, H⟩ := gdt H
     obtain ⟨c9b0, H⟩ := gdt H
     generalize hy320 : (x3_1.set ((rd l0 x4_1) : Int).toNat x4_1 : List Int) = y320 at H
     have Ny320 := Aside0.mk hy320.symm; clear hy320
     have H' := Aside0.mk H
     clear H
     have p319 : 0 ≤ (x4_1 : Int) := dT
     have q319 : x4_1 < (l0.length : Int) := dT
     obtain ⟨ad319, e319, hx319_0⟩ := Kd.at_int HR0.out x4_1 p319 q319
     cases e319
     replace hx319_0 := cB HB hx319_0
     replace p319 := eq_true p319
     replace q319 := eq_true q319
     have p10 : 0 ≤ ((rd l0 x4_1) : Int) := dT
     have q10 : ((rd l0 x4_1) : Int) < ((x3_1.length : Int) : Int) := dT
     obtain ⟨go10, co10, eo10, gb10, gl10, cl10, HG10⟩ := Kd.R_form HO_3.out (by omega)
     (first | cases eo10 | (injection eo10 with ea_ en_ ec_; (first | subst ea_ | (injection ea_ with ea_; subst ea_)); subst ec_; clear en_))
     have GB10 := Aside0.mk gb10
     have GG10 := Aside0.mk HG10
     clear gb10 gl10 HG10
     obtain ⟨hx10_0, hf10_0⟩ := Kd.R_celln 0 HO_3.out ((rd l0 x4_1) : Int) p10 q10
     replace p10 := eq_true p10
     replace q10 := eq_true q10
     have HP11 := Kd.R_putg HO_3.out ((rd l0 x4_1) : Int) x4_1
     go_wp2_with (first | ((with_reducible refine gate_store (t := 3) (p := 20) rfl ?_); refine store_event (t := 3) (p := 20) (v := ?vo_w12) (w1 := (wr.setCell ⟨go10, ((rd l0 x4_1) : Int).toNat, none⟩ (.int .i64 x4_1))) ?hg ?ho ?hn ?hr ?_; (case ho => rfl); (case hg => rfl); (case hn => rfl); (case hr => exact gS); intro w12 hw; have hg : wr.grownBy w12 (some go10) := (by rw [hw]; exact HP11.2); have hp_ : Kd.R (Kd.int .i64) 3 w12 w.heap.size (fun _ => True) (.slice (some ⟨go10, 0, none⟩) x3_1.length co10) y320 := (by rw [hw, Ny320.out]; exact HP11.1); clear HP11; replace HO_3 := Aside0.mk (hp_); replace HB := Aside0.mk ((by rw [hw]; exact below_set (HB.out) GB10.out : Below w.heap.size w w12)); clear hg hw hp_))
     go_roundg k1
     case measure => exact oK
     case rel => exact ⟨(y320), (wrap64 (x4_1 + 1)), rS, H', ⟨oK⟩, ⟨R_l HO_3.out⟩, ⟨tb⟩⟩
    ·obtain rfl := Option.some.inj H
     go_wp2
     go_ret
     exact ⟨_, rE, R_l HO_3.out, tb⟩
 ·rw [if_neg c2] at H
  exact absurd H (by simp)

/-! ### spec_l9Act: function 53 -/
def spec_l9Act.l0 : Nat → List (List Int) → List Int → Int → Int → Option (Int)
 | 0, _, _, _, _ => none
 | k + 1, x0, x1, x2, x7 => if x7 < (x1.length : Int) then (if 0 ≤ x7 then ((spec_l3Abs.f (rd x1 x7)).bind fun t322 => (if 0 ≤ (wrap64 (t322 - 1)) then (if (wrap64 (t322 - 1)) < (x0.length : Int) then (if (rd x1 x7) < 0 then ((spec_l6Inverse.f k (rd_L2 x0 (wrap64 (t322 - 1)))).bind fun t325 => (if 0 ≤ x2 then (if x2 < (t325.length : Int) then (spec_l9Act.l0 k x0 x1 (rd t325 x2) (wrap64 (x7 + 1))) else (none)) else (none))) else (if 0 ≤ x2 then (if x2 < ((rd_L2 x0 (wrap64 (t322 - 1))).length : Int) then (spec_l9Act.l0 k x0 x1 (rd (rd_L2 x0 (wrap64 (t322 - 1))) x2) (wrap64 (x7 + 1))) else (none)) else (none))) else (none)) else (none))) else (none)) else (some x2)
def spec_l9Act.f (k : Nat) (l0 : List (List Int)) (l1 : List Int) (a2 : Int) : Option (Int) := spec_l9Act.l0 k l0 l1 a2 0
set_option maxHeartbeats 8000000 in
set_option maxRecDepth 100000 in
theorem spec_l9Act.calls (k : Nat) (A0 : Option Addr) (c0 : Nat) (l0 : List (List Int)) (A1 : Option Addr) (c1 : Nat) (l1 : List Int) (a2 : Int) (r : Int) (w : World) (hr0 : Kd.C (Kd.slice 3 (Kd.int .i64)) w A0 l0.length l0) (hc0 : l0.length ≤ c0) (hr1 : Kd.C (Kd.int .i64) w A1 l1.length l1) (hc1 : l1.length ≤ c1) (h : spec_l9Act.f k l0 l1 a2 = some r) :
  Calls Try.prog 53 #[.slice A0 l0.length c0, .slice A1 l1.length c1, .int .i64 a2] w fun e w' => e = .returned (.int .i64 r) ∧ Below w.heap.size w w' := by
 have HR0 := Aside0.mk hr0
 have HC0 := Aside0.mk hc0
 clear hr0 hc0
 have HR1 := Aside0.mk hr1
 have HC1 := Aside0.mk hc1
 clear hr1 hc1
 have HB := Aside0.mk (Below.refl w.heap.size w)
 have H : (spec_l9Act.l0 k l0 l1 a2 0) = some r := h
 clear h
 have H' := Aside0.mk H
 clear H
 go_enter Try.func53, Try.ntmps53
 go_wp2
 go_loopg [2, 7] k (fun kq v2 v7 w' => ∃ (x2_1 : Int) (x7_1 : Int), v2 = .int .i64 x2_1 ∧ v7 = .int .i64 x7_1 ∧ Aside0 (spec_l9Act.l0 kq l0 l1 x2_1 x7_1 = some r) ∧ Aside0 (kq ≤ k) ∧ Aside0 (Below w.heap.size w w'))
 case atStart => exact ⟨(a2), (0), rS, rS, H', ⟨Nat.le_refl _⟩, ⟨tb⟩⟩
 case round =>
  clear H'
  try clear c1
  try clear p2
  obtain ⟨x2_1, x7_1, rfl, rfl, HA, HK1, HB⟩ := hrel
  cases gk with
  | zero => exact absurd HA.out (by simp [spec_l9Act.l0])
  | succ k1 =>
   have H := HA.out
   clear HA
   simp only [spec_l9Act.l0] at H
   obtain ⟨c4b0, H⟩ | ⟨c4b0, H⟩ := gi H
   ·obtain ⟨c5b0, H⟩ := gdt H
    obtain ⟨t322, A6, H⟩ := bs H
    obtain ⟨ji7, hji7⟩ : ∃ j_ : Int, (wrap64 (t322 - 1)) = j_ := ⟨_, rfl⟩
    replace H : (if 0 ≤ (ji7) then (if (ji7) < (l0.length : Int) then (if (rd l1 x7_1) < 0 then ((spec_l6Inverse.f k1 (rd_L2 l0 (ji7))).bind fun t325 => (if 0 ≤ x2_1 then (if x2_1 < (t325.length : Int) then (spec_l9Act.l0 k1 l0 l1 (rd t325 x2_1) (wrap64 (x7_1 + 1))) else (none)) else (none))) else (if 0 ≤ x2_1 then (if x2_1 < ((rd_L2 l0 (ji7)).length : Int) then (spec_l9Act.l0 k1 l0 l1 (rd (rd_L2 l0 (ji7)) x2_1) (wrap64 (x7_1 + 1))) else (none)) else (none))) else (none)) else (none)) = some r := by first | (rw [hji7] at H; exact H) | (simp only [hji7] at H ⊢; exact H)
    (try rw [hji7] at A6)
    have hji7w : (IntKind.i64.wrap (t322 - 1)) = ji7 := (i64_w _).trans hji7
    obtain ⟨c8b0, H⟩ := gdt H
    obtain ⟨c9b0, H⟩ := gdt H
    obtain ⟨c10b0, H⟩ | ⟨c10b0, H⟩ := gi H
    ·obtain ⟨t325, A11, H⟩ := bs H
     obtain ⟨c12b0, H⟩ := gdt H
     obtain ⟨c13b0, H⟩ := gdt H
     have H' := Aside0.mk H
     clear H
     have p321 : 0 ≤ (x7_1 : Int) := dT
     have q321 : x7_1 < (l1.length : Int) := dT
     obtain ⟨ad321, e321, hx321_0⟩ := Kd.at_int HR1.out x7_1 p321 q321
     cases e321
     replace hx321_0 := cB HB hx321_0
     replace p321 := eq_true p321
     replace q321 := eq_true q321
     go_wp2_with (first | (refine gL 52 (some 20) Try.func52 #[.int .i64 (rd l1 x7_1)] ?_; (with_reducible refine (spec_l3Abs.calls (rd l1 x7_1) t322 _ A6.out).mono ?_); rintro e w' ⟨rfl, ⟨nd, rfl⟩⟩; refine ⟨_, rfl, ?_⟩; have p323 : 0 ≤ ((ji7) : Int) := dT; have q323 : (ji7) < (l0.length : Int) := dT; obtain ⟨ad323, A323_0, c323_0, e323, hx323_0, hl323_0, hi323_0⟩ := at_L2 HR0.out (ji7) p323 q323; cases e323; replace hx323_0 := cB HB hx323_0; have HR323_0 := Aside0.mk hi323_0; have HC323_0 := Aside0.mk hl323_0; clear hi323_0 hl323_0; replace p323 := eq_true p323; replace q323 := eq_true q323; have p324 : 0 ≤ (x7_1 : Int) := dT; have q324 : x7_1 < (l1.length : Int) := dT; obtain ⟨ad324, e324, hx324_0⟩ := Kd.at_int HR1.out x7_1 p324 q324; obtain rfl : ad321 = ad324 := (by injection e324); replace hx324_0 := cB HB hx324_0; replace p324 := eq_true p324; replace q324 := eq_true q324) | ((with_reducible refine gate_callee (f := 87) rfl ?_); refine goesL_ (some 30) rfl rfl Try.func87 (by kernel_rfl) rfl #[.slice A323_0 (rd_L2 l0 (ji7)).length c323_0] rfl (by (try simp only [List.map_toArray, List.map_cons, List.map_nil]); first | done | (simp only [hji7]; rfl) | rfl | (simp only [List.length_drop, List.length_take]; rfl)) ?_; (with_reducible refine (spec_l6Inverse.calls k1 _ _ (rd_L2 l0 (ji7)) t325 _ ?side1 ?side2 A11.out).mono ?_); (case side1 => exact C_l (Kd.C_below HR323_0.out tb)); (case side2 => exact HC323_0.out); rintro e w14 ⟨v326, rfl, ho0, hb⟩; refine ⟨_, rfl, ?_⟩; have HO327 := Aside0.mk (Kd.R_lower ho0 (below_size tb)); replace HB := Aside0.mk (below_step tb hb); obtain ⟨Ao15, co15, eo15⟩ := Kd.R_slice HO327.out; subst eo15; have p328 : 0 ≤ (x2_1 : Int) := dT; have q328 : x2_1 < (t325.length : Int) := dT; obtain ⟨ad328, e328, hx328_0⟩ := Kd.at_int (Kd.R_reads' HO327.out).2.2 x2_1 p328 q328; cases e328; replace p328 := eq_true p328; replace q328 := eq_true q328))
     go_roundg k1
     case measure => exact oK
     case rel => exact ⟨(rd t325 x2_1), (wrap64 (x7_1 + 1)), rS, rS, H', ⟨oK⟩, ⟨tb⟩⟩
    ·obtain ⟨c16b0, H⟩ := gdt H
     obtain ⟨c17b0, H⟩ := gdt H
     have H' := Aside0.mk H
     clear H
     have p321 : 0 ≤ (x7_1 : Int) := dT
     have q321 : x7_1 < (l1.length : Int) := dT
     obtain ⟨ad321, e321, hx321_0⟩ := Kd.at_int HR1.out x7_1 p321 q321
     cases e321
     replace hx321_0 := cB HB hx321_0
     replace p321 := eq_true p321
     replace q321 := eq_true q321
     go_wp2_with (first | (refine gL 52 (some 20) Try.func52 #[.int .i64 (rd l1 x7_1)] ?_; (with_reducible refine (spec_l3Abs.calls (rd l1 x7_1) t322 _ A6.out).mono ?_); rintro e w' ⟨rfl, ⟨nd, rfl⟩⟩; refine ⟨_, rfl, ?_⟩; have p323 : 0 ≤ ((ji7) : Int) := dT; have q323 : (ji7) < (l0.length : Int) := dT; obtain ⟨ad323, A323_0, c323_0, e323, hx323_0, hl323_0, hi323_0⟩ := at_L2 HR0.out (ji7) p323 q323; cases e323; replace hx323_0 := cB HB hx323_0; have HR323_0 := Aside0.mk hi323_0; have HC323_0 := Aside0.mk hl323_0; clear hi323_0 hl323_0; replace p323 := eq_true p323; replace q323 := eq_true q323; have p324 : 0 ≤ (x7_1 : Int) := dT; have q324 : x7_1 < (l1.length : Int) := dT; obtain ⟨ad324, e324, hx324_0⟩ := Kd.at_int HR1.out x7_1 p324 q324; obtain rfl : ad321 = ad324 := (by injection e324); replace hx324_0 := cB HB hx324_0; replace p324 := eq_true p324; replace q324 := eq_true q324; have p329 : 0 ≤ (x2_1 : Int) := dT; have q329 : x2_1 < ((rd_L2 l0 (ji7)).length : Int) := dT; obtain ⟨ad329, e329, hx329_0⟩ := Kd.at_int HR323_0.out x2_1 p329 q329; cases e329; replace hx329_0 := cB HB hx329_0; replace p329 := eq_true p329; replace q329 := eq_true q329))
     go_roundg k1
     case measure => exact oK
     case rel => exact ⟨(rd (rd_L2 l0 (ji7)) x2_1), (wrap64 (x7_1 + 1)), (by first | rfl | (simp; done) | (simp only [← hji7] <;> (first | rfl | simp)) | (simp [*]; done)), rS, H', ⟨oK⟩, ⟨tb⟩⟩
   ·obtain rfl := Option.some.inj H
    go_wp2
    go_ret
    exact ⟨rE, tb⟩

/-! ### spec_ActWord: function 16 -/
mutual
def spec_ActWord.j0 : Nat → List (List Int) → List Int → Bool → Option (List Int)
 | 0, _, _, _ => none
 | k + 1, x0, x1, x15 => if x15 = true then (some (([] : List Int))) else (spec_ActWord.l0 k x0 x1 0)
def spec_ActWord.l0 : Nat → List (List Int) → List Int → Int → Option (List Int)
 | 0, _, _, _ => none
 | k + 1, x0, x1, x5 => if x5 < (x1.length : Int) then (if 0 ≤ x5 then ((spec_l3Abs.f (rd x1 x5)).bind fun t336 => (if t336 > (x0.length : Int) then (some (([] : List Int))) else (spec_ActWord.l0 k x0 x1 (wrap64 (x5 + 1))))) else (none)) else (spec_ActWord.l1 k x0 x1 (([] : List Int)) 0)
def spec_ActWord.l1 : Nat → List (List Int) → List Int → List Int → Int → Option (List Int)
 | 0, _, _, _, _ => none
 | k + 1, x0, x1, x6, x7 => if 0 < (x0.length : Int) then (if x7 < ((rd_L2 x0 0).length : Int) then ((spec_l9Act.f k x0 x1 x7).bind fun t344 => (if x6.length < 17592186044416 then (spec_ActWord.l1 k x0 x1 (x6 ++ [t344]) (wrap64 (x7 + 1))) else (none))) else (some x6)) else (none)
end
def spec_ActWord.f (k : Nat) (l0 : List (List Int)) (l1 : List Int) : Option (List Int) := (spec_l9Perms.f k l0).bind fun t330 => (if t330 = true then ((spec_IsWord.f k l1).bind fun t331 => (spec_ActWord.j0 k l0 l1 (!t331))) else (spec_ActWord.j0 k l0 l1 true))
set_option maxHeartbeats 8000000 in
set_option maxRecDepth 100000 in
theorem spec_ActWord.calls (k : Nat) (A0 : Option Addr) (c0 : Nat) (l0 : List (List Int)) (A1 : Option Addr) (c1 : Nat) (l1 : List Int) (r : List Int) (w : World) (hr0 : Kd.C (Kd.slice 3 (Kd.int .i64)) w A0 l0.length l0) (hc0 : l0.length ≤ c0) (hr1 : Kd.C (Kd.int .i64) w A1 l1.length l1) (hc1 : l1.length ≤ c1) (h : spec_ActWord.f k l0 l1 = some r) :
  Calls Try.prog 16 #[.slice A0 l0.length c0, .slice A1 l1.length c1] w fun e w' => ∃ v0_ : Value, e = .returned (v0_) ∧ Kd.R (Kd.int .i64) 3 w' w.heap.size (fun _ => True) v0_ r ∧ Below w.heap.size w w' := by
 have HR0 := Aside0.mk hr0
 have HC0 := Aside0.mk hc0
 clear hr0 hc0
 have HR1 := Aside0.mk hr1
 have HC1 := Aside0.mk hc1
 clear hr1 hc1
 have HB := Aside0.mk (Below.refl w.heap.size w)
 have H : ((spec_l9Perms.f k l0).bind fun t330 => (if t330 = true then ((spec_IsWord.f k l1).bind fun t331 => (spec_ActWord.j0 k l0 l1 (!t331))) else (spec_ActWord.j0 k l0 l1 true))) = some r := h
 clear h
 have HC3 := Aside0.mk H
 clear H
 go_enter Try.func16, Try.ntmps16
 go_upto_region 1 with (fail)
 go_cut [15] (fun v15 wc => ∃ (kq : Nat) (x15_2 : Bool), v15 = .bool x15_2 ∧ Aside0 (spec_ActWord.j0 kq l0 l1 x15_2 = some r) ∧ Aside0 (kq ≤ k) ∧ Aside0 (Below w.heap.size w wc))
 case first =>
  have H := HC3.out
  clear HC3
  obtain ⟨t330, A4, H⟩ := bs H
  by_cases c5 : t330 = true
  ·subst c5
   rw [if_pos rfl] at H
   obtain ⟨t331, A6, H⟩ := bs H
   have H' := Aside0.mk H
   clear H
   go_wp2_with (first | (refine gL 50 (some 9) Try.func50 #[.slice A0 l0.length c0] ?_; (with_reducible refine (spec_l9Perms.calls k _ _ l0 true _ ?side1 ?side2 A4.out).mono ?_); (case side1 => exact C_l (Kd.C_below HR0.out HB.out)); (case side2 => exact HC0.out); rintro e w7 ⟨rfl, hb⟩; refine ⟨_, rfl, ?_⟩; replace HB := Aside0.mk (below_step tb hb)) | (go_at_call 51; (with_reducible refine (spec_IsWord.calls k _ _ l1 t331 _ ?side1 ?side2 A6.out).mono ?_); (case side1 => exact C_l (Kd.C_below HR1.out HB.out)); (case side2 => exact HC1.out); rintro e w' ⟨rfl, ⟨nd, rfl⟩⟩))
   go_meet
   case rel => exact ⟨_, (!t331), rS, H', ⟨by first | omega | exact Nat.le_refl _⟩, ⟨tb⟩⟩
  ·replace c5 := Bool.eq_false_iff.mpr c5
   subst c5
   rw [if_neg (show ¬ (false = true) by decide)] at H
   have H' := Aside0.mk H
   clear H
   go_wp2_with (first | (refine gL 50 (some 9) Try.func50 #[.slice A0 l0.length c0] ?_; (with_reducible refine (spec_l9Perms.calls k _ _ l0 false _ ?side1 ?side2 A4.out).mono ?_); (case side1 => exact C_l (Kd.C_below HR0.out HB.out)); (case side2 => exact HC0.out); rintro e w8 ⟨rfl, hb⟩; refine ⟨_, rfl, ?_⟩; replace HB := Aside0.mk (below_step tb hb)))
   go_meet
   case rel => exact ⟨_, (true), rS, H', ⟨by first | omega | exact Nat.le_refl _⟩, ⟨tb⟩⟩
 case rest =>
  clear HC3
  try clear c1
  try clear p2
  try clear c5
  obtain ⟨kq, x15_2, rfl, HA, HJ2, HB⟩ := hcut
  cases kq with
  | zero => exact absurd HA.out (by simp [spec_ActWord.j0])
  | succ kj2 =>
   have H := HA.out
   clear HA
   simp only [spec_ActWord.j0] at H
   by_cases c9 : x15_2 = true
   ·subst c9
    rw [if_pos rfl] at H
    generalize hy332 : (([] : List Int) : List Int) = y332 at H
    have Ny332 := Aside0.mk hy332.symm; clear hy332
    obtain rfl := Option.some.inj H
    go_wp2_with (first | ((with_reducible refine gate_dst (N := 16) rfl ?_); refine Kd.R_lit (Kd.int .i64) _ 3 ?hg (N := 16) ?hd (xs := ([] : List Int)) (inner := []) (ok := fun _ => True) (okp := fun _ => True) ?hr ?hp (fun _ hk => hk) trivial (Below.refl _ _) (Nat.le_refl _) (by simp) ?_; (case hd => rfl); (case hg => rfl); (case hr => exact gS); (case hp => exact (Reps.none _ _)); intro v333 w10 ho11 hb hg_ hnew_; clear hg_ hnew_; (first | rw [← Ny332.out] at ho11 | (simp only [Int.reduceToNat] at ho11; rw [← Ny332.out] at ho11)); have HO334 := Aside0.mk (Kd.R_lower ho11 (below_size tb)); replace HB := Aside0.mk (below_step tb hb); clear hb ho11))
    go_ret
    exact ⟨_, rE, R_l HO334.out, tb⟩
   ·replace c9 := Bool.eq_false_iff.mpr c9
    subst c9
    rw [if_neg (show ¬ (false = true) by decide)] at H
    have H' := Aside0.mk H
    clear H
    go_wp2
    go_loopg [5] kj2 (fun kq v5 w' => ∃ (x5_2 : Int), v5 = .int .i64 x5_2 ∧ Aside0 (spec_ActWord.l0 kq l0 l1 x5_2 = some r) ∧ Aside0 (kq ≤ kj2) ∧ Aside0 (Below w.heap.size w w'))
    case atStart => exact ⟨(0), rS, H', ⟨Nat.le_refl _⟩, ⟨tb⟩⟩
    case round =>
     clear H'
     try clear c1
     try clear p2
     try clear c5
     try clear c9
     try clear p2
     obtain ⟨x5_2, rfl, HA, HK2, HB⟩ := hrel
     cases gk with
     | zero => exact absurd HA.out (by simp [spec_ActWord.l0])
     | succ k2 =>
      have H := HA.out
      clear HA
      simp only [spec_ActWord.l0] at H
      obtain ⟨c12b0, H⟩ | ⟨c12b0, H⟩ := gi H
      ·obtain ⟨c13b0, H⟩ := gdt H
       obtain ⟨t336, A14, H⟩ := bs H
       by_cases c15 : t336 > (l0.length : Int)
       ·rw [if_pos c15] at H
        have c15b0 : decide ((l0.length : Int) < t336) = true := decide_eq_true c15
        clear c15
        generalize hy337 : (([] : List Int) : List Int) = y337 at H
        have Ny337 := Aside0.mk hy337.symm; clear hy337
        obtain rfl := Option.some.inj H
        have p335 : 0 ≤ (x5_2 : Int) := dT
        have q335 : x5_2 < (l1.length : Int) := dT
        obtain ⟨ad335, e335, hx335_0⟩ := Kd.at_int HR1.out x5_2 p335 q335
        cases e335
        replace hx335_0 := cB HB hx335_0
        replace p335 := eq_true p335
        replace q335 := eq_true q335
        go_wp2_with (first | (refine gL 52 (some 27) Try.func52 #[.int .i64 (rd l1 x5_2)] ?_; (with_reducible refine (spec_l3Abs.calls (rd l1 x5_2) t336 _ A14.out).mono ?_); rintro e w' ⟨rfl, ⟨nd, rfl⟩⟩; refine ⟨_, rfl, ?_⟩) | ((with_reducible refine gate_dst (N := 31) rfl ?_); refine Kd.R_lit (Kd.int .i64) _ 3 ?hg (N := 31) ?hd (xs := ([] : List Int)) (inner := []) (ok := fun _ => True) (okp := fun _ => True) ?hr ?hp (fun _ hk => hk) trivial (Below.refl _ _) (Nat.le_refl _) (by simp) ?_; (case hd => rfl); (case hg => rfl); (case hr => exact gS); (case hp => exact (Reps.none _ _)); intro v338 w16 ho17 hb hg_ hnew_; clear hg_ hnew_; (first | rw [← Ny337.out] at ho17 | (simp only [Int.reduceToNat] at ho17; rw [← Ny337.out] at ho17)); have HO339 := Aside0.mk (Kd.R_lower ho17 (below_size tb)); replace HB := Aside0.mk (below_step tb hb); clear hb ho17))
        go_ret
        exact ⟨_, rE, R_l HO339.out, tb⟩
       ·rw [if_neg c15] at H
        have c15b0 : decide ((l0.length : Int) < t336) = false := decide_eq_false c15
        clear c15
        have H' := Aside0.mk H
        clear H
        have p335 : 0 ≤ (x5_2 : Int) := dT
        have q335 : x5_2 < (l1.length : Int) := dT
        obtain ⟨ad335, e335, hx335_0⟩ := Kd.at_int HR1.out x5_2 p335 q335
        cases e335
        replace hx335_0 := cB HB hx335_0
        replace p335 := eq_true p335
        replace q335 := eq_true q335
        go_wp2_with (first | (refine gL 52 (some 27) Try.func52 #[.int .i64 (rd l1 x5_2)] ?_; (with_reducible refine (spec_l3Abs.calls (rd l1 x5_2) t336 _ A14.out).mono ?_); rintro e w' ⟨rfl, ⟨nd, rfl⟩⟩; refine ⟨_, rfl, ?_⟩))
        go_roundg k2
        case measure => have := HJ2.out; have := HK2.out; omega
        case rel => exact ⟨(wrap64 (x5_2 + 1)), rS, H', ⟨by have := HJ2.out; have := HK2.out; omega⟩, ⟨tb⟩⟩
      ·obtain ⟨y340, hy340⟩ : ∃ y_ : List Int, y_ = (([] : List Int)) := ⟨_, rfl⟩
       replace H : (spec_ActWord.l1 k2 l0 l1 y340 0) = some r := by first | (rw [hy340]; with_reducible exact H) | (have H2_ := (Option.bind_some _ _).symm.trans H; rw [hy340]; with_reducible exact H2_) | (have H2_ := (Option.bind_some _ _).symm.trans H; with_reducible exact H2_) | with_reducible exact H | (rw [hy340]; exact H) | exact H
       have Ny340 := Aside0.mk hy340
       clear hy340
       have H' := Aside0.mk H
       clear H
       go_wp2_with (first | ((with_reducible refine gate_dst (N := 32) rfl ?_); refine Kd.R_lit (Kd.int .i64) _ 3 ?hg (N := 32) ?hd (xs := ([] : List Int)) (inner := []) (ok := fun _ => True) (okp := fun _ => True) ?hr ?hp (fun _ hk => hk) trivial (Below.refl _ _) (Nat.le_refl _) (by simp) ?_; (case hd => rfl); (case hg => rfl); (case hr => exact gS); (case hp => exact (Reps.none _ _)); intro v341 w18 ho19 hb hg_ hnew_; clear hg_ hnew_; (first | rw [← Ny340.out] at ho19 | (simp only [Int.reduceToNat] at ho19; rw [← Ny340.out] at ho19)); have HO342 := Aside0.mk (Kd.R_lower ho19 (below_size tb)); replace HB := Aside0.mk (below_step tb hb); clear hb ho19))
       go_loopg [6, 7] k2 (fun kq v6 v7 w' => ∃ (x6_3 : List Int) (x7_3 : Int), v7 = .int .i64 x7_3 ∧ Aside0 (spec_ActWord.l1 kq l0 l1 x6_3 x7_3 = some r) ∧ Aside0 (kq ≤ k2) ∧ Aside0 (Kd.R (Kd.int .i64) 3 w' w.heap.size (fun _ => True) v6 x6_3) ∧ Aside0 (Below w.heap.size w w'))
       case atStart => exact ⟨(y340), (0), rS, H', ⟨Nat.le_refl _⟩, ⟨R_l HO342.out⟩, ⟨tb⟩⟩
       case round =>
        clear H'
        try clear c1
        try clear p2
        try clear p3
        try clear q3
        try clear hx3
        try clear c5
        try clear p6
        try clear c9
        try clear c12
        try clear c12b0
        try clear c13
        try clear c13b0
        try clear c15
        try clear c15b0
        try clear c16
        try clear hx335_0
        try clear p2
        try clear p335
        try clear q335
        obtain ⟨x6_3, x7_3, rfl, HA, HK3, HO_6, HB⟩ := hrel
        cases gk with
        | zero => exact absurd HA.out (by simp [spec_ActWord.l1])
        | succ k3 =>
         have H := HA.out
         clear HA
         simp only [spec_ActWord.l1] at H
         by_cases c20 : 0 < (l0.length : Int)
         ·rw [if_pos c20] at H
          have c20b0 : decide (0 < (l0.length : Int)) = true := decide_eq_true c20
          have c20b1 : decide (0 < l0.length) = true := decide_eq_true (by omega)
          clear c20
          obtain ⟨c21b0, H⟩ | ⟨c21b0, H⟩ := gi H
          ·obtain ⟨t344, A22, H⟩ := bs H
           obtain ⟨LMc23, H⟩ := gda H
           generalize hy345 : (x6_3 ++ [t344] : List Int) = y345 at H
           have Ny345 := Aside0.mk hy345.symm; clear hy345
           have H' := Aside0.mk H
           clear H
           have p343 : 0 ≤ (0 : Int) := (by omega)
           have q343 : 0 < (l0.length : Int) := dT
           obtain ⟨ad343, A343_0, c343_0, e343, hx343_0, hl343_0, hi343_0⟩ := at_L2 HR0.out 0 p343 q343
           cases e343
           have qi343 : (0 < l0.length) = True := eq_true (by omega)
           (try rw [show ((0 : Int)).toNat = 0 from rfl] at hx343_0)
           (try rw [Addr.add_zero'] at hx343_0)
           replace hx343_0 := cB HB hx343_0
           have HR343_0 := Aside0.mk hi343_0
           have HC343_0 := Aside0.mk hl343_0
           clear hi343_0 hl343_0
           replace p343 := eq_true p343
           replace q343 := eq_true q343
           go_wp2_with (first | (refine gL 53 (some 45) Try.func53 #[.slice (some ad343) l0.length c0, .slice A1 l1.length c1, .int .i64 x7_3] ?_; (with_reducible refine (spec_l9Act.calls k3 _ _ l0 _ _ l1 x7_3 t344 _ ?side1 ?side2 ?side3 ?side4 A22.out).mono ?_); (case side1 => exact C_l (Kd.C_below HR0.out HB.out)); (case side2 => exact HC0.out); (case side3 => exact C_l (Kd.C_below HR1.out HB.out)); (case side4 => exact HC1.out); rintro e w24 ⟨rfl, hb⟩; refine ⟨_, rfl, ?_⟩; replace HO_6 := Aside0.mk (rB HO_6.out hb); replace HB := Aside0.mk (below_step tb hb)) | ((with_reducible refine gate_builtin (b := .append) (xs := #[.tmp 41, .tmp 46]) rfl ?_); at_builtin; refine Kd.R_append (Kd.int .i64) (w0 := w) w.heap.size rfl (.tmp 41) (.tmp 46) 30 3 (.int .i64 0) 8 rfl Try.underlying30 info3 rfl (by decide) (by omega) u6 x6_3 t344 [.int .i64 t344] (fun _ => True) (fun _ => False) rfl rfl ?aP (fun _ hk => hk.elim) ?aF ?aO ?aB ?aS ?aL ?_; (case aP => exact rfl); (case aB => exact tb); (case aF => exact (fun _ _ => trivial)); (case aO => exact (R_l HO_6.out)); (case aS => exact (below_size tb)); (case aL => have := LMc23.out; omega); intro v346 w25 ho hb hg hat; rw [← Ny345.out] at ho; replace HB := Aside0.mk (hb); have HO347 := Aside0.mk (ho); clear HO_6; clear ho hb hg hat))
           go_roundg k3
           case measure => have := HJ2.out; have := HK2.out; have := HK3.out; omega
           case rel => exact ⟨(y345), (wrap64 (x7_3 + 1)), rS, H', ⟨by have := HJ2.out; have := HK2.out; have := HK3.out; omega⟩, ⟨R_l HO347.out⟩, ⟨tb⟩⟩
          ·obtain rfl := Option.some.inj H
           have p343 : 0 ≤ (0 : Int) := (by omega)
           have q343 : 0 < (l0.length : Int) := dT
           obtain ⟨ad343, A343_0, c343_0, e343, hx343_0, hl343_0, hi343_0⟩ := at_L2 HR0.out 0 p343 q343
           cases e343
           have qi343 : (0 < l0.length) = True := eq_true (by omega)
           (try rw [show ((0 : Int)).toNat = 0 from rfl] at hx343_0)
           (try rw [Addr.add_zero'] at hx343_0)
           replace hx343_0 := cB HB hx343_0
           have HR343_0 := Aside0.mk hi343_0
           have HC343_0 := Aside0.mk hl343_0
           clear hi343_0 hl343_0
           replace p343 := eq_true p343
           replace q343 := eq_true q343
           go_wp2
           go_ret
           exact ⟨_, rE, R_l HO_6.out, tb⟩
         ·rw [if_neg c20] at H
          exact absurd H (by simp)

/-! ### spec_Relator: function 39 -/
def spec_Relator.f (a0 : Int) : Option (List Int) := if a0 = 1 then (some (([1, 2, (-1), (-2)] : List Int))) else (if a0 = 2 then (some (([1, 2, (-1), (-2), 3, 4, (-3), (-4)] : List Int))) else (some (([] : List Int))))
set_option maxHeartbeats 8000000 in
set_option maxRecDepth 100000 in
theorem spec_Relator.calls (a0 : Int) (r : List Int) (w : World) (h : spec_Relator.f a0 = some r) :
  Calls Try.prog 39 #[.int .i64 a0] w fun e w' => ∃ v0_ : Value, e = .returned (v0_) ∧ Kd.R (Kd.int .i64) 3 w' w.heap.size (fun _ => True) v0_ r ∧ Below w.heap.size w w' := by
 have HB := Aside0.mk (Below.refl w.heap.size w)
 have H : (if a0 = 1 then (some (([1, 2, (-1), (-2)] : List Int))) else (if a0 = 2 then (some (([1, 2, (-1), (-2), 3, 4, (-3), (-4)] : List Int))) else (some (([] : List Int))))) = some r := h
 clear h
 by_cases c2 : a0 = 1
 ·rw [if_pos c2] at H
  have c2b0 : (a0 == 1) = true := beq_iff_eq.mpr c2
  have c2b1 : (a0 != 1) = false := bne_eq_false_iff_eq.mpr c2
  clear c2
  generalize hy348 : (([1, 2, (-1), (-2)] : List Int) : List Int) = y348 at H
  have Ny348 := Aside0.mk hy348.symm; clear hy348
  obtain rfl := Option.some.inj H
  go_enter Try.func39, Try.ntmps39
  go_wp2_with (first | ((with_reducible refine gate_dst (N := 6) rfl ?_); refine Kd.R_lit (Kd.int .i64) _ 3 ?hg (N := 6) ?hd (xs := ([1, 2, (-1), (-2)] : List Int)) (inner := [.int .i64 1, .int .i64 2, .int .i64 (-1), .int .i64 (-2)]) (ok := fun _ => True) (okp := fun _ => True) ?hr ?hp (fun _ hk => hk) trivial (Below.refl _ _) (Nat.le_refl _) (by simp) ?_; (case hd => rfl); (case hg => rfl); (case hr => exact gS); (case hp => exact (Reps.one (show Kd.M (Kd.int .i64) _ _ _ 1 [.int .i64 1] from rfl) (Reps.one (show Kd.M (Kd.int .i64) _ _ _ 2 [.int .i64 2] from rfl) (Reps.one (show Kd.M (Kd.int .i64) _ _ _ (-1) [.int .i64 (-1)] from rfl) (Reps.one (show Kd.M (Kd.int .i64) _ _ _ (-2) [.int .i64 (-2)] from rfl) (Reps.none _ _)))))); intro v349 w3 ho4 hb hg_ hnew_; clear hg_ hnew_; (first | rw [← Ny348.out] at ho4 | (simp only [Int.reduceToNat] at ho4; rw [← Ny348.out] at ho4)); have HO350 := Aside0.mk (Kd.R_lower ho4 (below_size tb)); replace HB := Aside0.mk (below_step tb hb); clear hb ho4))
  go_ret
  exact ⟨_, rE, R_l HO350.out, tb⟩
 ·rw [if_neg c2] at H
  have c2b0 : (a0 == 1) = false := beq_eq_false_iff_ne.mpr c2
  have c2b1 : (a0 != 1) = true := bne_iff_ne.mpr c2
  by_cases c5 : a0 = 2
  ·rw [if_pos c5] at H
   have c5b0 : (a0 == 2) = true := beq_iff_eq.mpr c5
   have c5b1 : (a0 != 2) = false := bne_eq_false_iff_eq.mpr c5
   clear c5
   generalize hy351 : (([1, 2, (-1), (-2), 3, 4, (-3), (-4)] : List Int) : List Int) = y351 at H
   have Ny351 := Aside0.mk hy351.symm; clear hy351
   obtain rfl := Option.some.inj H
   go_enter Try.func39, Try.ntmps39
   go_wp2_with (first | ((with_reducible refine gate_dst (N := 9) rfl ?_); refine Kd.R_lit (Kd.int .i64) _ 3 ?hg (N := 9) ?hd (xs := ([1, 2, (-1), (-2), 3, 4, (-3), (-4)] : List Int)) (inner := [.int .i64 1, .int .i64 2, .int .i64 (-1), .int .i64 (-2), .int .i64 3, .int .i64 4, .int .i64 (-3), .int .i64 (-4)]) (ok := fun _ => True) (okp := fun _ => True) ?hr ?hp (fun _ hk => hk) trivial (Below.refl _ _) (Nat.le_refl _) (by simp) ?_; (case hd => rfl); (case hg => rfl); (case hr => exact gS); (case hp => exact (Reps.one (show Kd.M (Kd.int .i64) _ _ _ 1 [.int .i64 1] from rfl) (Reps.one (show Kd.M (Kd.int .i64) _ _ _ 2 [.int .i64 2] from rfl) (Reps.one (show Kd.M (Kd.int .i64) _ _ _ (-1) [.int .i64 (-1)] from rfl) (Reps.one (show Kd.M (Kd.int .i64) _ _ _ (-2) [.int .i64 (-2)] from rfl) (Reps.one (show Kd.M (Kd.int .i64) _ _ _ 3 [.int .i64 3] from rfl) (Reps.one (show Kd.M (Kd.int .i64) _ _ _ 4 [.int .i64 4] from rfl) (Reps.one (show Kd.M (Kd.int .i64) _ _ _ (-3) [.int .i64 (-3)] from rfl) (Reps.one (show Kd.M (Kd.int .i64) _ _ _ (-4) [.int .i64 (-4)] from rfl) (Reps.none _ _)))))))))); intro v352 w6 ho7 hb hg_ hnew_; clear hg_ hnew_; (first | rw [← Ny351.out] at ho7 | (simp only [Int.reduceToNat] at ho7; rw [← Ny351.out] at ho7)); have HO353 := Aside0.mk (Kd.R_lower ho7 (below_size tb)); replace HB := Aside0.mk (below_step tb hb); clear hb ho7))
   go_ret
   exact ⟨_, rE, R_l HO353.out, tb⟩
  ·rw [if_neg c5] at H
   have c5b0 : (a0 == 2) = false := beq_eq_false_iff_ne.mpr c5
   have c5b1 : (a0 != 2) = true := bne_iff_ne.mpr c5
   generalize hy354 : (([] : List Int) : List Int) = y354 at H
   have Ny354 := Aside0.mk hy354.symm; clear hy354
   obtain rfl := Option.some.inj H
   go_enter Try.func39, Try.ntmps39
   go_wp2_with (first | ((with_reducible refine gate_dst (N := 10) rfl ?_); refine Kd.R_lit (Kd.int .i64) _ 3 ?hg (N := 10) ?hd (xs := ([] : List Int)) (inner := []) (ok := fun _ => True) (okp := fun _ => True) ?hr ?hp (fun _ hk => hk) trivial (Below.refl _ _) (Nat.le_refl _) (by simp) ?_; (case hd => rfl); (case hg => rfl); (case hr => exact gS); (case hp => exact (Reps.none _ _)); intro v355 w8 ho9 hb hg_ hnew_; clear hg_ hnew_; (first | rw [← Ny354.out] at ho9 | (simp only [Int.reduceToNat] at ho9; rw [← Ny354.out] at ho9)); have HO356 := Aside0.mk (Kd.R_lower ho9 (below_size tb)); replace HB := Aside0.mk (below_step tb hb); clear hb ho9))
   go_ret
   exact ⟨_, rE, R_l HO356.out, tb⟩

/-! ### spec_l9Whole: function 62 -/
def spec_l9Whole.l0 : Nat → List Int → Int → Option (Bool)
 | 0, _, _ => none
 | k + 1, x0, x3 => if x3 < (x0.length : Int) then (if 0 ≤ x3 then (if (rd x0 x3) = x3 then (spec_l9Whole.l0 k x0 (wrap64 (x3 + 1))) else (some false)) else (none)) else (some (decide ((x0.length : Int) > 0)))
def spec_l9Whole.f (k : Nat) (l0 : List Int) : Option (Bool) := spec_l9Whole.l0 k l0 0
set_option maxHeartbeats 8000000 in
set_option maxRecDepth 100000 in
theorem spec_l9Whole.calls (k : Nat) (A0 : Option Addr) (c0 : Nat) (l0 : List Int) (r : Bool) (w : World) (hr0 : Kd.C (Kd.int .i64) w A0 l0.length l0) (hc0 : l0.length ≤ c0) (h : spec_l9Whole.f k l0 = some r) :
  Calls Try.prog 62 #[.slice A0 l0.length c0] w fun e w' => e = .returned (.bool r) ∧ Drawn0 w w' := by
 have HR0 := Aside0.mk hr0
 have HC0 := Aside0.mk hc0
 clear hr0 hc0
 have H : (spec_l9Whole.l0 k l0 0) = some r := h
 clear h
 have H' := Aside0.mk H
 clear H
 go_enter Try.func62, Try.ntmps62
 go_wp2
 go_loopg [3] k (fun kq v3 w' => ∃ (x3_1 : Int), v3 = .int .i64 x3_1 ∧ Aside0 (spec_l9Whole.l0 kq l0 x3_1 = some r) ∧ Aside0 (kq ≤ k) ∧ Drawn0 w w')
 case atStart => exact ⟨(0), rS, H', ⟨Nat.le_refl _⟩, tD⟩
 case round =>
  clear H'
  obtain ⟨x3_1, rfl, HA, HK1, ⟨m1, rfl⟩⟩ := hrel
  cases gk with
  | zero => exact absurd HA.out (by simp [spec_l9Whole.l0])
  | succ k1 =>
   have H := HA.out
   clear HA
   simp only [spec_l9Whole.l0] at H
   obtain ⟨c2b0, H⟩ | ⟨c2b0, H⟩ := gi H
   ·obtain ⟨c3b0, H⟩ := gdt H
    by_cases c4 : (rd l0 x3_1) = x3_1
    ·rw [if_pos c4] at H
     have c4b0 : ((rd l0 x3_1) == x3_1) = true := beq_iff_eq.mpr c4
     have c4b1 : ((rd l0 x3_1) != x3_1) = false := bne_eq_false_iff_eq.mpr c4
     clear c4
     have H' := Aside0.mk H
     clear H
     have p357 : 0 ≤ (x3_1 : Int) := dT
     have q357 : x3_1 < (l0.length : Int) := dT
     obtain ⟨ad357, e357, hx357_0⟩ := Kd.at_int HR0.out x3_1 p357 q357
     cases e357
     replace p357 := eq_true p357
     replace q357 := eq_true q357
     go_wp2
     go_roundg k1
     case measure => exact oK
     case rel => exact ⟨(wrap64 (x3_1 + 1)), rS, H', ⟨oK⟩, tD⟩
    ·rw [if_neg c4] at H
     have c4b0 : ((rd l0 x3_1) == x3_1) = false := beq_eq_false_iff_ne.mpr c4
     have c4b1 : ((rd l0 x3_1) != x3_1) = true := bne_iff_ne.mpr c4
     obtain rfl := Option.some.inj H
     have p357 : 0 ≤ (x3_1 : Int) := dT
     have q357 : x3_1 < (l0.length : Int) := dT
     obtain ⟨ad357, e357, hx357_0⟩ := Kd.at_int HR0.out x3_1 p357 q357
     cases e357
     replace p357 := eq_true p357
     replace q357 := eq_true q357
     go_wp2
     go_ret
     exact ⟨rS, tD⟩
   ·obtain rfl := Option.some.inj H
    go_wp2
    go_ret
    exact ⟨rS, tD⟩

end Go.Proofs.Ytepogblkmiidnaa.PFnCovers
