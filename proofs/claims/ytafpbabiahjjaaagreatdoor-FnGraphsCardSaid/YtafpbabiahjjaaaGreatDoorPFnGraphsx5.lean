import Derived.Test.YtafpbabiahjjaaaGreatDoorWSpanB
import Derived.Test.YtafpbabiahjjaaaGreatDoorPFnGraphsx0
import Derived.Test.YtafpbabiahjjaaaGreatDoorPFnGraphsx4
namespace Go.Proofs.YtafpbabiahjjaaaGreatDoor.PFnGraphs
open Go.RowKit Go.Proofs.YtafpbabiahjjaaaGreatDoorW.PrintWords Go.Proofs.YtafpbabiahjjaaaGreatDoorW.PrintLast Go.Proofs.YtafpbabiahjjaaaGreatDoorW.PrintMore
attribute [local go_sem] max2_int min2_int max_two min_two max_three min_three max_four min_four   -- for this text's walks alone
set_option linter.unusedVariables false
set_option linter.unusedSimpArgs false

/-! ### impl_DegreesOf: function 26 -/
def impl_DegreesOf.l0 : Nat → List Int → List (List Int) → Int → Int → Option (List Int)
 | 0, _, _, _, _ => none
 | k + 1, x3, x10, x11, x12 => if x12 < x11 then (if 0 ≤ x12 then (if x12 < (x10.length : Int) then (if 0 < ((rd_L2 x10 x12).length : Int) then (if 0 ≤ (rd (rd_L2 x10 x12) 0) then (if (rd (rd_L2 x10 x12) 0) < (x3.length : Int) then ((some (x3.set ((rd (rd_L2 x10 x12) 0) : Int).toNat (wrap64 ((rd x3 (rd (rd_L2 x10 x12) 0)) + 1)) : List Int)).bind fun y236 => (if 1 < ((rd_L2 x10 x12).length : Int) then (if 0 ≤ (rd (rd_L2 x10 x12) 1) then (if (rd (rd_L2 x10 x12) 1) < (x3.length : Int) then (impl_DegreesOf.l0 k (y236.set ((rd (rd_L2 x10 x12) 1) : Int).toNat (wrap64 ((rd y236 (rd (rd_L2 x10 x12) 1)) + 1))) x10 x11 (wrap64 (x12 + 1))) else (none)) else (none)) else (none))) else (none)) else (none)) else (none)) else (none)) else (none)) else (some x3)
def impl_DegreesOf.f (k : Nat) (l0 : List (List Int)) : Option (List Int) := (impl_IsGraph.f k l0).bind fun t229 => (if t229 = true then (if 7 ≤ 35184372088832 then (impl_DegreesOf.l0 k (List.replicate 7 0) l0 (l0.length : Int) 0) else (none)) else (some ([] : List Int)))
set_option maxHeartbeats 8000000 in
set_option maxRecDepth 100000 in
theorem impl_DegreesOf.calls (k : Nat) (A0 : Option Addr) (c0 : Nat) (l0 : List (List Int)) (r : List Int) (w : World) (hr0 : Kd.C (Kd.slice 3 (Kd.int .i64)) w A0 l0.length l0) (hc0 : l0.length ≤ c0) (h : impl_DegreesOf.f k l0 = some r) :
  Calls Tryz.prog 26 #[.slice A0 l0.length c0] w fun e w' => ∃ v0_ : Value, e = .returned (v0_) ∧ Kd.R (Kd.int .i64) 3 w' w.heap.size (fun _ => True) v0_ r ∧ Below w.heap.size w w' := by
 have HR0 := Aside0.mk hr0
 have HC0 := Aside0.mk hc0
 clear hr0 hc0
 have HB := Aside0.mk (Below.refl w.heap.size w)
 have H : ((impl_IsGraph.f k l0).bind fun t229 => (if t229 = true then (if 7 ≤ 35184372088832 then (impl_DegreesOf.l0 k (List.replicate 7 0) l0 (l0.length : Int) 0) else (none)) else (some ([] : List Int)))) = some r := h
 clear h
 obtain ⟨t229, A2, H⟩ := bs H
 by_cases c3 : t229 = true
 ·subst c3
  rw [if_pos rfl] at H
  obtain ⟨c4, H⟩ := gd H
  have c4b0 := eq_true c4
  have c4b1 : decide (7 ≤ 35184372088832) = true := decide_eq_true c4
  clear c4
  generalize hy230 : (List.replicate 7 0 : List Int) = y230 at H
  have Ny230 := Aside0.mk hy230.symm; clear hy230
  have H' := Aside0.mk H
  clear H
  go_enter Tryz.func26, Tryz.ntmps26
  go_wp2_with (first | ((with_reducible refine gate_callee (f := 24) rfl ?_); refine goesL_ (some 7) rfl rfl Tryz.func24 (by kernel_rfl) rfl #[.slice A0 l0.length c0] rfl mp_ ?_; (with_reducible refine (impl_IsGraph.calls k _ _ l0 true _ ?side1 ?side2 A2.out).mono ?_); (case side1 => exact C_l HR0.out); (case side2 => exact HC0.out); rintro e w' ⟨rfl, ⟨nd, rfl⟩⟩; refine ⟨_, rfl, ?_⟩) | ((with_reducible refine gate_dst (N := 9) rfl ?_); refine Kd.R_make (Kd.int .i64) _ 3 rfl (N := 9) rfl 26 _ _ rfl 7 rfl rfl Tryz.underlying26 (.int .i64 0) 8 info3 rfl (by decide) (by omega) 0 (ok := fun _ => True) (okp := fun _ => True) rfl (fun _ hk => hk) trivial (by omega) (by omega) (Below.refl _ _) (Nat.le_refl _) ?_; intro v231 w5 ho6 hb hg_ hnew_; clear hg_ hnew_; (first | rw [← Ny230.out] at ho6 | (simp only [Int.reduceToNat] at ho6; rw [← Ny230.out] at ho6)); have HO232 := Aside0.mk (Kd.R_lower ho6 (below_size tb)); replace HB := Aside0.mk (below_step tb hb); clear hb ho6))
  go_loopg [12] k (fun kq v12 w' => ∃ (x3_1 : List Int) (x12_1 : Int), v12 = .int .i64 x12_1 ∧ Aside0 (impl_DegreesOf.l0 kq x3_1 l0 (l0.length : Int) x12_1 = some r) ∧ Aside0 (kq ≤ k) ∧ Aside0 (Kd.R (Kd.int .i64) 3 w' w.heap.size (fun _ => True) v231 x3_1) ∧ Aside0 (Below w.heap.size w w'))
  case atStart => exact ⟨(y230), (0), rS, H', ⟨Nat.le_refl _⟩, ⟨R_l HO232.out⟩, ⟨tb⟩⟩
  case round =>
   clear H'
   try clear c2
   try clear p2
   try clear c3
   try clear c4
   try clear c4b0
   try clear c4b1
   obtain ⟨x3_1, x12_1, rfl, HA, HK1, HO_3, HB⟩ := hrel
   cases gk with
   | zero => exact absurd HA.out (by simp [impl_DegreesOf.l0])
   | succ k1 =>
    have H := HA.out
    clear HA
    simp only [impl_DegreesOf.l0] at H
    obtain ⟨c7b0, H⟩ | ⟨c7b0, H⟩ := gi H
    ·obtain ⟨c8b0, H⟩ := gdt H
     obtain ⟨c9b0, H⟩ := gdt H
     obtain ⟨c10, H⟩ := gd H
     have c10b0 : decide (0 < ((rd_L2 l0 x12_1).length : Int)) = true := decide_eq_true c10
     have c10b1 : decide (0 < (rd_L2 l0 x12_1).length) = true := decide_eq_true (by omega)
     clear c10
     obtain ⟨c11b0, H⟩ := gdt H
     obtain ⟨c12b0, H⟩ := gdt H
     generalize hy236 : (x3_1.set ((rd (rd_L2 l0 x12_1) 0) : Int).toNat (wrap64 ((rd x3_1 (rd (rd_L2 l0 x12_1) 0)) + 1)) : List Int) = y236 at H
     have Ny236 := Aside0.mk hy236.symm; clear hy236
     obtain ⟨c14, H⟩ := gd H
     have c14b0 : decide (1 < ((rd_L2 l0 x12_1).length : Int)) = true := decide_eq_true c14
     have c14b1 : decide (1 < (rd_L2 l0 x12_1).length) = true := decide_eq_true (by omega)
     clear c14
     obtain ⟨c15b0, H⟩ := gdt H
     obtain ⟨c16b0, H⟩ := gdt H
     generalize hy239 : (y236.set ((rd (rd_L2 l0 x12_1) 1) : Int).toNat (wrap64 ((rd y236 (rd (rd_L2 l0 x12_1) 1)) + 1)) : List Int) = y239 at H
     have Ny239 := Aside0.mk hy239.symm; clear hy239
     have H' := Aside0.mk H
     clear H
     have p233 : 0 ≤ (x12_1 : Int) := dT
     have q233 : x12_1 < (l0.length : Int) := dT
     obtain ⟨ad233, A233_0, c233_0, e233, hx233_0, hl233_0, hi233_0⟩ := at_L2 HR0.out x12_1 p233 q233
     cases e233
     replace hx233_0 := cB HB hx233_0
     have HR233_0 := Aside0.mk hi233_0
     have HC233_0 := Aside0.mk hl233_0
     clear hi233_0 hl233_0
     replace p233 := eq_true p233
     replace q233 := eq_true q233
     have p234 : 0 ≤ (0 : Int) := (by omega)
     have q234 : 0 < ((rd_L2 l0 x12_1).length : Int) := dT
     obtain ⟨ad234, e234, hx234_0⟩ := Kd.at_int HR233_0.out 0 p234 q234
     cases e234
     have qi234 : (0 < (rd_L2 l0 x12_1).length) = True := eq_true (by omega)
     (try rw [show ((0 : Int)).toNat = 0 from rfl] at hx234_0)
     (try rw [Addr.add_zero'] at hx234_0)
     replace hx234_0 := cB HB hx234_0
     replace p234 := eq_true p234
     replace q234 := eq_true q234
     obtain ⟨Ao18, co18, eo18⟩ := Kd.R_slice HO_3.out
     subst eo18
     have p235 : 0 ≤ ((rd (rd_L2 l0 x12_1) 0) : Int) := dT
     have q235 : (rd (rd_L2 l0 x12_1) 0) < (x3_1.length : Int) := dT
     obtain ⟨ad235, e235, hx235_0⟩ := Kd.at_int (Kd.R_reads' HO_3.out).2.2 (rd (rd_L2 l0 x12_1) 0) p235 q235
     cases e235
     replace p235 := eq_true p235
     replace q235 := eq_true q235
     have p13 : 0 ≤ ((rd (rd_L2 l0 x12_1) 0) : Int) := dT
     have q13 : ((rd (rd_L2 l0 x12_1) 0) : Int) < ((x3_1.length : Int) : Int) := dT
     obtain ⟨go13, co13, eo13, gb13, gl13, cl13, HG13⟩ := Kd.R_form HO_3.out (by omega)
     (first | cases eo13 | (injection eo13 with ea_ en_ ec_; (first | subst ea_ | (injection ea_ with ea_; subst ea_)); subst ec_; clear en_))
     have GB13 := Aside0.mk gb13
     have GG13 := Aside0.mk HG13
     clear gb13 gl13 HG13
     (first | simp only [add_plain] at hx235_0 | skip)
     obtain ⟨hx13_0, hf13_0⟩ := Kd.R_celln 0 HO_3.out ((rd (rd_L2 l0 x12_1) 0) : Int) p13 q13
     replace p13 := eq_true p13
     replace q13 := eq_true q13
     have HP19 := Kd.R_putg HO_3.out ((rd (rd_L2 l0 x12_1) 0) : Int) (wrap64 ((rd x3_1 (rd (rd_L2 l0 x12_1) 0)) + 1))
     go_wp2_with (first | ((with_reducible refine gate_store (t := 3) (p := 23) rfl ?_); refine store_event (t := 3) (p := 23) (v := ?vo_w20) (w1 := (wr.setCell ⟨go13, ((rd (rd_L2 l0 x12_1) 0) : Int).toNat, none⟩ (.int .i64 (wrap64 ((rd x3_1 (rd (rd_L2 l0 x12_1) 0)) + 1))))) ?hg ?ho ?hn ?hr ?_; (case ho => rfl); (case hg => rfl); (case hn => rfl); (case hr => exact gS); intro w20 hw; have hg : wr.grownBy w20 (some go13) := (by rw [hw]; exact HP19.2); have hp_ : Kd.R (Kd.int .i64) 3 w20 w.heap.size (fun _ => True) (.slice (some ⟨go13, 0, none⟩) x3_1.length co18) y236 := (by rw [hw, Ny236.out]; exact HP19.1); clear HP19; replace HO_3 := Aside0.mk (hp_); replace HB := Aside0.mk ((by rw [hw]; exact below_set (HB.out) GB13.out : Below w.heap.size w w20)); clear hg hw hp_; have p237 : 0 ≤ (1 : Int) := (by omega); have q237 : 1 < ((rd_L2 l0 x12_1).length : Int) := dT; obtain ⟨ad237, e237, hx237_0⟩ := Kd.at_int HR233_0.out 1 p237 q237; obtain rfl : ad234 = ad237 := (by injection e237); (try simp only [show (1 : Int).toNat = 1 from rfl, Nat.reduceMul, Nat.reduceEqDiff, Go.Addr.add, ↓reduceIte] at hx237_0); have qi237 : (1 < (rd_L2 l0 x12_1).length) = True := eq_true (by omega); (try rw [show ((1 : Int)).toNat = 1 from rfl] at hx237_0); replace hx237_0 := cB HB hx237_0; replace p237 := eq_true p237; replace q237 := eq_true q237; have p238 : 0 ≤ ((rd (rd_L2 l0 x12_1) 1) : Int) := dT; have q238 : (rd (rd_L2 l0 x12_1) 1) < (y236.length : Int) := (by have h_ : ((rd (rd_L2 l0 x12_1) 1) : Int) < ((x3_1.length : Int) : Int) := dT; first | (have e_ := (Kd.R_reads' HO_3.out).1; omega) | simpa only [Ny236.out, List.length_set] using h_); have ql238 : (((rd (rd_L2 l0 x12_1) 1) : Int) < ((x3_1.length : Int) : Int)) = True := eq_true dT; obtain ⟨ad238, e238, hx238_0⟩ := Kd.at_int (Kd.R_reads' HO_3.out).2.2 (rd (rd_L2 l0 x12_1) 1) p238 q238; obtain rfl : (⟨go13, 0, none⟩ : Addr) = ad238 := (by injection e238); (first | simp only [add_plain] at hx238_0 | simp only [add_at] at hx238_0 | simp only [Addr.add, Nat.zero_add] at hx238_0 | skip); replace p238 := eq_true p238; replace q238 := eq_true q238; have p17 : 0 ≤ ((rd (rd_L2 l0 x12_1) 1) : Int) := dT; have q17 : ((rd (rd_L2 l0 x12_1) 1) : Int) < ((x3_1.length : Int) : Int) := dT; obtain ⟨hx17_0, hf17_0⟩ := Kd.R_celln 0 HO_3.out ((rd (rd_L2 l0 x12_1) 1) : Int) p17 q17; replace p17 := eq_true p17; replace q17 := eq_true q17; obtain ⟨hy21_, hz21_⟩ := Kd.R_celln 0 HO_3.out ((rd (rd_L2 l0 x12_1) 1) : Int) dT dT; have HP21 := Kd.R_putg HO_3.out ((rd (rd_L2 l0 x12_1) 1) : Int) (wrap64 ((rd y236 (rd (rd_L2 l0 x12_1) 1)) + 1))) | ((with_reducible refine gate_store (t := 3) (p := 31) rfl ?_); refine store_event (t := 3) (p := 31) (v := ?vo_w22) (w1 := (w20.setCell ⟨go13, ((rd (rd_L2 l0 x12_1) 1) : Int).toNat, none⟩ (.int .i64 (wrap64 ((rd y236 (rd (rd_L2 l0 x12_1) 1)) + 1))))) ?hg ?ho ?hn ?hr ?_; (case ho => rfl); (case hg => rfl); (case hn => rfl); (case hr => exact gS); intro w22 hw; have hg : w20.grownBy w22 (some go13) := (by rw [hw]; exact HP21.2); have hp_ : Kd.R (Kd.int .i64) 3 w22 w.heap.size (fun _ => True) (.slice (some ⟨go13, 0, none⟩) x3_1.length co18) y239 := (by rw [hw, Ny239.out]; exact HP21.1); clear HP21; replace HO_3 := Aside0.mk (hp_); replace HB := Aside0.mk ((by rw [hw]; exact below_set (HB.out) GB13.out : Below w.heap.size w w22)); clear hg hw hp_))
     go_roundg k1
     case measure => exact oK
     case rel => exact ⟨(y239), (wrap64 (x12_1 + 1)), rS, H', ⟨oK⟩, ⟨R_l HO_3.out⟩, ⟨tb⟩⟩
    ·obtain rfl := Option.some.inj H
     go_wp2
     go_ret
     exact ⟨_, rE, R_l HO_3.out, tb⟩
 ·replace c3 := Bool.eq_false_iff.mpr c3
  subst c3
  rw [if_neg (show ¬ (false = true) by decide)] at H
  obtain rfl := Option.some.inj H
  go_enter Tryz.func26, Tryz.ntmps26
  go_wp2_with (first | ((with_reducible refine gate_callee (f := 24) rfl ?_); refine goesL_ (some 7) rfl rfl Tryz.func24 (by kernel_rfl) rfl #[.slice A0 l0.length c0] rfl mp_ ?_; (with_reducible refine (impl_IsGraph.calls k _ _ l0 false _ ?side1 ?side2 A2.out).mono ?_); (case side1 => exact C_l HR0.out); (case side2 => exact HC0.out); rintro e w' ⟨rfl, ⟨nd, rfl⟩⟩; refine ⟨_, rfl, ?_⟩))
  go_ret
  exact ⟨_, rE, by first | exact Kd.R_nil _ _ _ _ _ | exact Kd.N_nil _ _ _ _ _ | exact Kd.V_nil _ _ _ _ _ | exact Kd.Q_nil _ _ _ _ _ | exact Kd.S_nil _ _ _ _ _, tb⟩

/-! ### impl_CountRotations: function 28 -/
mutual
def impl_CountRotations.l0 : Nat → Int → List Int → Int → Int → Option (Int)
 | 0, _, _, _, _ => none
 | k + 1, x3, x11, x12, x13 => if x13 < x12 then (if 0 ≤ x13 then (if x13 < (x11.length : Int) then (impl_CountRotations.l1 k x3 (rd x11 x13) 2 x11 x12 x13) else (none)) else (none)) else (some x3)
def impl_CountRotations.l1 : Nat → Int → Int → Int → List Int → Int → Int → Option (Int)
 | 0, _, _, _, _, _, _ => none
 | k + 1, x3, x5, x6, x11, x12, x13 => if x6 < x5 then (impl_CountRotations.l1 k (wrap64 (x3 * x6)) x5 (wrap64 (x6 + 1)) x11 x12 x13) else (impl_CountRotations.l0 k x3 x11 x12 (wrap64 (x13 + 1)))
end
def impl_CountRotations.f (k : Nat) (l0 : List (List Int)) : Option (Int) := (impl_IsGraph.f k l0).bind fun t240 => (if t240 = true then ((impl_DegreesOf.f k l0).bind fun t241 => (impl_CountRotations.l0 k 1 t241 (t241.length : Int) 0)) else (some (-1)))
set_option maxHeartbeats 8000000 in
set_option maxRecDepth 100000 in
theorem impl_CountRotations.calls (k : Nat) (A0 : Option Addr) (c0 : Nat) (l0 : List (List Int)) (r : Int) (w : World) (hr0 : Kd.C (Kd.slice 3 (Kd.int .i64)) w A0 l0.length l0) (hc0 : l0.length ≤ c0) (h : impl_CountRotations.f k l0 = some r) :
  Calls Tryz.prog 28 #[.slice A0 l0.length c0] w fun e w' => e = .returned (.int .i64 r) ∧ Below w.heap.size w w' := by
 have HR0 := Aside0.mk hr0
 have HC0 := Aside0.mk hc0
 clear hr0 hc0
 have HB := Aside0.mk (Below.refl w.heap.size w)
 have H : ((impl_IsGraph.f k l0).bind fun t240 => (if t240 = true then ((impl_DegreesOf.f k l0).bind fun t241 => (impl_CountRotations.l0 k 1 t241 (t241.length : Int) 0)) else (some (-1)))) = some r := h
 clear h
 obtain ⟨t240, A2, H⟩ := bs H
 by_cases c3 : t240 = true
 ·subst c3
  rw [if_pos rfl] at H
  obtain ⟨t241, A4, H⟩ := bs H
  have H' := Aside0.mk H
  clear H
  go_enter Tryz.func28, Tryz.ntmps28
  go_wp2_with (first | ((with_reducible refine gate_callee (f := 24) rfl ?_); refine goesL_ (some 8) rfl rfl Tryz.func24 (by kernel_rfl) rfl #[.slice A0 l0.length c0] rfl mp_ ?_; (with_reducible refine (impl_IsGraph.calls k _ _ l0 true _ ?side1 ?side2 A2.out).mono ?_); (case side1 => exact C_l HR0.out); (case side2 => exact HC0.out); rintro e w' ⟨rfl, ⟨nd, rfl⟩⟩; refine ⟨_, rfl, ?_⟩) | ((with_reducible refine gate_callee (f := 26) rfl ?_); refine goesL_ (some 11) rfl rfl Tryz.func26 (by kernel_rfl) rfl #[.slice A0 l0.length c0] rfl mp_ ?_; (with_reducible refine (impl_DegreesOf.calls k _ _ l0 t241 _ ?side1 ?side2 A4.out).mono ?_); (case side1 => exact C_l HR0.out); (case side2 => exact HC0.out); rintro e w5 ⟨v242, rfl, ho0, hb⟩; refine ⟨_, rfl, ?_⟩; have HO243 := Aside0.mk (Kd.R_lower ho0 (below_size tb)); replace HB := Aside0.mk (below_step tb hb); obtain ⟨Ao6, co6, eo6⟩ := Kd.R_slice HO243.out; subst eo6))
  go_loopg [3, 13] k (fun kq v3 v13 w' => ∃ (x3_1 : Int) (x13_1 : Int), v3 = .int .i64 x3_1 ∧ v13 = .int .i64 x13_1 ∧ Aside0 (impl_CountRotations.l0 kq x3_1 t241 (t241.length : Int) x13_1 = some r) ∧ Aside0 (kq ≤ k) ∧ Aside0 (Kd.R (Kd.int .i64) 3 w' w.heap.size (fun _ => True) (.slice Ao6 t241.length co6) t241) ∧ Aside0 (Below w.heap.size w w'))
  case atStart => exact ⟨(1), (0), rS, rS, H', ⟨Nat.le_refl _⟩, ⟨R_l HO243.out⟩, ⟨tb⟩⟩
  case round =>
   clear H'
   try clear c2
   try clear p2
   try clear c3
   obtain ⟨x3_1, x13_1, rfl, rfl, HA, HK1, HO_11, HB⟩ := hrel
   cases gk with
   | zero => exact absurd HA.out (by simp [impl_CountRotations.l0])
   | succ k1 =>
    have H := HA.out
    clear HA
    simp only [impl_CountRotations.l0] at H
    obtain ⟨c7b0, H⟩ | ⟨c7b0, H⟩ := gi H
    ·obtain ⟨c8b0, H⟩ := gdt H
     obtain ⟨c9b0, H⟩ := gdt H
     have H' := Aside0.mk H
     clear H
     have p244 : 0 ≤ (x13_1 : Int) := dT
     have q244 : x13_1 < (t241.length : Int) := dT
     obtain ⟨ad244, e244, hx244_0⟩ := Kd.at_int (Kd.R_reads' HO_11.out).2.2 x13_1 p244 q244
     cases e244
     replace p244 := eq_true p244
     replace q244 := eq_true q244
     go_wp2
     go_loopg [3, 6] k1 (fun kq v3 v6 w' => ∃ (x3_2 : Int) (x6_2 : Int), v3 = .int .i64 x3_2 ∧ v6 = .int .i64 x6_2 ∧ Aside0 (impl_CountRotations.l1 kq x3_2 (rd t241 x13_1) x6_2 t241 (t241.length : Int) x13_1 = some r) ∧ Aside0 (kq ≤ k1) ∧ Aside0 (Kd.R (Kd.int .i64) 3 w' w.heap.size (fun _ => True) (.slice (some ad244) t241.length co6) t241) ∧ Aside0 (Below w.heap.size w w'))
     case atStart => exact ⟨(x3_1), (2), rS, rS, H', ⟨Nat.le_refl _⟩, ⟨R_l HO_11.out⟩, ⟨tb⟩⟩
     case round =>
      clear H'
      try clear c2
      try clear p2
      try clear q2
      try clear hx2
      try clear c3
      try clear c7
      try clear c7b0
      try clear c8
      try clear c8b0
      try clear c9
      try clear c9b0
      try clear hx244_0
      try clear p2
      try clear p244
      try clear q244
      obtain ⟨x3_2, x6_2, rfl, rfl, HA, HK2, HO_11, HB⟩ := hrel
      cases gk with
      | zero => exact absurd HA.out (by simp [impl_CountRotations.l1])
      | succ k2 =>
       have H := HA.out
       clear HA
       simp only [impl_CountRotations.l1] at H
       obtain ⟨c10b0, H⟩ | ⟨c10b0, H⟩ := gi H
       ·have H' := Aside0.mk H
        clear H
        go_wp2
        go_roundg k2
        case measure => exact oK
        case rel => exact ⟨(wrap64 (x3_2 * x6_2)), (wrap64 (x6_2 + 1)), rS, rS, H', ⟨oK⟩, ⟨R_l HO_11.out⟩, ⟨tb⟩⟩
       ·have H' := Aside0.mk H
        clear H
        go_wp2
        go_roundg k2
        case measure => exact oK
        case rel => exact ⟨(x3_2), (wrap64 (x13_1 + 1)), rS, rS, H', ⟨oK⟩, ⟨R_l HO_11.out⟩, ⟨tb⟩⟩
    ·obtain rfl := Option.some.inj H
     go_wp2
     go_ret
     exact ⟨rE, tb⟩
 ·replace c3 := Bool.eq_false_iff.mpr c3
  subst c3
  rw [if_neg (show ¬ (false = true) by decide)] at H
  obtain rfl := Option.some.inj H
  go_enter Tryz.func28, Tryz.ntmps28
  go_wp2_with (first | ((with_reducible refine gate_callee (f := 24) rfl ?_); refine goesL_ (some 8) rfl rfl Tryz.func24 (by kernel_rfl) rfl #[.slice A0 l0.length c0] rfl mp_ ?_; (with_reducible refine (impl_IsGraph.calls k _ _ l0 false _ ?side1 ?side2 A2.out).mono ?_); (case side1 => exact C_l HR0.out); (case side2 => exact HC0.out); rintro e w' ⟨rfl, ⟨nd, rfl⟩⟩; refine ⟨_, rfl, ?_⟩))
  go_ret
  exact ⟨rE, tb⟩

end Go.Proofs.YtafpbabiahjjaaaGreatDoor.PFnGraphs
