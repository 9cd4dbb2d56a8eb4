import Derived.Test.YtafpbabiahjjaaaGreatDoorWSpanB
import Derived.Test.YtafpbabiahjjaaaGreatDoorPFnGraphsx0
import Derived.Test.YtafpbabiahjjaaaGreatDoorPFnGraphsx2
import Derived.Test.YtafpbabiahjjaaaGreatDoorPFnGraphsx4
import Derived.Test.YtafpbabiahjjaaaGreatDoorPFnGraphsx6
namespace Go.Proofs.YtafpbabiahjjaaaGreatDoor.PFnGraphs
open Go.RowKit Go.Proofs.YtafpbabiahjjaaaGreatDoorW.PrintWords Go.Proofs.YtafpbabiahjjaaaGreatDoorW.PrintLast Go.Proofs.YtafpbabiahjjaaaGreatDoorW.PrintMore
attribute [local go_sem] max2_int min2_int max_two min_two max_three min_three max_four min_four   -- for this text's walks alone
set_option linter.unusedVariables false
set_option linter.unusedSimpArgs false

/-! ### impl_FirstRotation: function 13 -/
mutual
def impl_FirstRotation.l0 : Nat → List Int → List (List Int) → Int → Int → Option (List Int)
 | 0, _, _, _, _ => none
 | k + 1, x3, x16, x17, x18 => if x18 < x17 then (if 0 ≤ x18 then (if x18 < (x16.length : Int) then (impl_FirstRotation.l1 k x3 (rd_L2 x16 x18) x16 x17 x18 (rd_L2 x16 x18) ((rd_L2 x16 x18).length : Int) 0) else (none)) else (none)) else (some x3)
def impl_FirstRotation.l1 : Nat → List Int → List Int → List (List Int) → Int → Int → List Int → Int → Int → Option (List Int)
 | 0, _, _, _, _, _, _, _, _ => none
 | k + 1, x3, x5, x16, x17, x18, x22, x23, x24 => if x24 < x23 then (if 0 ≤ x24 then (if x24 < (x22.length : Int) then (if (x5.length : Int) = 0 then (none) else (if 0 ≤ (Int.tmod (wrap64 (x24 + 1)) (x5.length : Int)) then (if (Int.tmod (wrap64 (x24 + 1)) (x5.length : Int)) < (x5.length : Int) then (if 0 ≤ (rd x22 x24) then (if (rd x22 x24) < (x3.length : Int) then (impl_FirstRotation.l1 k (x3.set ((rd x22 x24) : Int).toNat (rd x5 (Int.tmod (wrap64 (x24 + 1)) (x5.length : Int)))) x5 x16 x17 x18 x22 x23 (wrap64 (x24 + 1))) else (none)) else (none)) else (none)) else (none))) else (none)) else (none)) else (impl_FirstRotation.l0 k x3 x16 x17 (wrap64 (x18 + 1)))
end
def impl_FirstRotation.f (k : Nat) (l0 : List (List Int)) : Option (List Int) := (impl_IsGraph.f k l0).bind fun t461 => (if t461 = true then (if 0 ≤ (wrap64 (2 * (l0.length : Int))) then (if (wrap64 (2 * (l0.length : Int)) : Int).toNat ≤ 35184372088832 then ((impl_dartsAt.f k l0).bind fun t465 => (impl_FirstRotation.l0 k (List.replicate (wrap64 (2 * (l0.length : Int)) : Int).toNat 0) t465 (t465.length : Int) 0)) else (none)) else (none)) else (some ([] : List Int)))
set_option maxHeartbeats 8000000 in
set_option maxRecDepth 100000 in
theorem impl_FirstRotation.calls (k : Nat) (A0 : Option Addr) (c0 : Nat) (l0 : List (List Int)) (r : List Int) (w : World) (hr0 : Kd.C (Kd.slice 3 (Kd.int .i64)) w A0 l0.length l0) (hc0 : l0.length ≤ c0) (h : impl_FirstRotation.f k l0 = some r) :
  Calls Tryz.prog 13 #[.slice A0 l0.length c0] w fun e w' => ∃ v0_ : Value, e = .returned (v0_) ∧ Kd.R (Kd.int .i64) 3 w' w.heap.size (fun _ => True) v0_ r ∧ Below w.heap.size w w' := by
 have HR0 := Aside0.mk hr0
 have HC0 := Aside0.mk hc0
 clear hr0 hc0
 have HB := Aside0.mk (Below.refl w.heap.size w)
 have H : ((impl_IsGraph.f k l0).bind fun t461 => (if t461 = true then (if 0 ≤ (wrap64 (2 * (l0.length : Int))) then (if (wrap64 (2 * (l0.length : Int)) : Int).toNat ≤ 35184372088832 then ((impl_dartsAt.f k l0).bind fun t465 => (impl_FirstRotation.l0 k (List.replicate (wrap64 (2 * (l0.length : Int)) : Int).toNat 0) t465 (t465.length : Int) 0)) else (none)) else (none)) else (some ([] : List Int)))) = some r := h
 clear h
 obtain ⟨t461, A2, H⟩ := bs H
 by_cases c3 : t461 = true
 ·subst c3
  rw [if_pos rfl] at H
  obtain ⟨ji4, hji4⟩ : ∃ j_ : Int, (wrap64 (2 * (l0.length : Int))) = j_ := ⟨_, rfl⟩
  replace H : (if 0 ≤ (ji4) then (if (ji4 : Int).toNat ≤ 35184372088832 then ((impl_dartsAt.f k l0).bind fun t465 => (impl_FirstRotation.l0 k (List.replicate (ji4 : Int).toNat 0) t465 (t465.length : Int) 0)) else (none)) else (none)) = some r := by first | (rw [hji4] at H; exact H) | (simp only [hji4] at H ⊢; exact H)
  (try rw [hji4] at A2)
  have hji4w : (IntKind.i64.wrap (2 * (l0.length : Int))) = ji4 := (i64_w _).trans hji4
  obtain ⟨c5, H⟩ := gd H
  have c5b0 := eq_true c5
  have c5b1 : decide (0 ≤ (ji4)) = true := decide_eq_true c5
  clear c5
  obtain ⟨c6, H⟩ := gd H
  have c6b0 := eq_true c6
  have c6b1 : decide ((ji4 : Int).toNat ≤ 35184372088832) = true := decide_eq_true c6
  clear c6
  generalize hy462 : (List.replicate (ji4 : Int).toNat 0 : List Int) = y462 at H
  have Ny462 := Aside0.mk hy462.symm; clear hy462
  obtain ⟨t465, A7, H⟩ := bs H
  have H' := Aside0.mk H
  clear H
  go_enter Tryz.func13, Tryz.ntmps13
  go_wp2_with (first | ((with_reducible refine gate_callee (f := 24) rfl ?_); refine goesL_ (some 9) rfl rfl Tryz.func24 (by kernel_rfl) rfl #[.slice A0 l0.length c0] rfl mp_ ?_; (with_reducible refine (impl_IsGraph.calls k _ _ l0 true _ ?side1 ?side2 A2.out).mono ?_); (case side1 => exact C_l HR0.out); (case side2 => exact HC0.out); rintro e w' ⟨rfl, ⟨nd, rfl⟩⟩; refine ⟨_, rfl, ?_⟩) | ((with_reducible refine gate_dst (N := 14) rfl ?_); refine Kd.R_make (Kd.int .i64) _ 3 rfl (N := 14) rfl 26 _ _ rfl ji4 rfl rfl Tryz.underlying26 (.int .i64 0) 8 info3 rfl (by decide) (by omega) 0 (ok := fun _ => True) (okp := fun _ => True) rfl (fun _ hk => hk) trivial dT (Nat.le_trans (Nat.mul_le_mul_right _ (dT : ji4.toNat ≤ 35184372088832)) (by omega)) (Below.refl _ _) (Nat.le_refl _) ?_; intro v463 w8 ho9 hb hg_ hnew_; clear hg_ hnew_; (first | rw [← Ny462.out] at ho9 | (simp only [Int.reduceToNat] at ho9; rw [← Ny462.out] at ho9)); have HO464 := Aside0.mk (Kd.R_lower ho9 (below_size tb)); replace HB := Aside0.mk (below_step tb hb); clear hb ho9) | ((with_reducible refine gate_callee (f := 39) rfl ?_); refine goesL_ (some 16) rfl rfl Tryz.func39 (by kernel_rfl) rfl #[.slice A0 l0.length c0] rfl mp_ ?_; (with_reducible refine (impl_dartsAt.calls k _ _ l0 t465 _ ?side1 ?side2 A7.out).mono ?_); (case side1 => exact C_l (Kd.C_below HR0.out HB.out)); (case side2 => exact HC0.out); rintro e w10 ⟨v466, rfl, ho0, hb⟩; refine ⟨_, rfl, ?_⟩; have HO467 := Aside0.mk (Kd.S_lower (Kd.S_new' ho0 (Kd.R_lt (R_l HO464.out))) (below_size tb)); replace HO464 := Aside0.mk (rB HO464.out hb); replace HB := Aside0.mk (below_step tb hb); obtain ⟨Ao11, co11, eo11⟩ := Kd.S_slice HO467.out; subst eo11))
  go_loopg [18] k (fun kq v18 w' => ∃ (x3_1 : List Int) (x18_1 : Int), v18 = .int .i64 x18_1 ∧ Aside0 (impl_FirstRotation.l0 kq x3_1 t465 (t465.length : Int) x18_1 = some r) ∧ Aside0 (kq ≤ k) ∧ Aside0 (Kd.R (Kd.int .i64) 3 w' w.heap.size (fun _ => True) v463 x3_1) ∧ Aside0 (Kd.S (Kd.slice 3 (Kd.int .i64)) 26 w' w.heap.size (fun k_ => some k_ ≠ (v463 : Value).ownBlock) (.slice Ao11 t465.length co11) t465) ∧ Aside0 (Below w.heap.size w w'))
  case atStart => exact ⟨(y462), (0), rS, H', ⟨Nat.le_refl _⟩, ⟨R_l HO464.out⟩, ⟨S_l (Kd.S_mono HO467.out (fun _ hk => hk.2))⟩, ⟨tb⟩⟩
  case round =>
   clear H'
   try clear c1
   try clear c2
   try clear p2
   try clear c3
   try clear c5
   try clear c5b0
   try clear c5b1
   try clear c6
   try clear c6b0
   try clear c6b1
   try clear p6
   obtain ⟨x3_1, x18_1, rfl, HA, HK1, HO_3, HO_16, HB⟩ := hrel
   cases gk with
   | zero => exact absurd HA.out (by simp [impl_FirstRotation.l0])
   | succ k1 =>
    have H := HA.out
    clear HA
    simp only [impl_FirstRotation.l0] at H
    obtain ⟨c12b0, H⟩ | ⟨c12b0, H⟩ := gi H
    ·obtain ⟨c13b0, H⟩ := gdt H
     obtain ⟨c14b0, H⟩ := gdt H
     have H' := Aside0.mk H
     clear H
     have p468 : 0 ≤ (x18_1 : Int) := dT
     have q468 : x18_1 < (t465.length : Int) := dT
     obtain ⟨ad468, A468_0, c468_0, e468, hx468_0, hl468_0, hi468_0⟩ := at_L2 (Kd.S_reads' HO_16.out).2.2 x18_1 p468 q468
     cases e468
     obtain ⟨ce468, hce468, hMe468, hcc468⟩ := Kd.S_get HO_16.out [] x18_1 p468 (by first | exact q468 | exact dT | (have e_ := (Kd.S_reads' HO_16.out).1; omega))
     obtain ⟨ve468_0, rfl, ge468_0⟩ := hMe468
     have hv468_0 := hcc468 0 _ rfl
     rw [Nat.add_zero, show ((Kd.slice 3 (Kd.int .i64))).sz = 1 from rfl, Nat.mul_one] at hv468_0
     replace hv468_0 := Option.some.inj (hv468_0.symm.trans hx468_0)
     rw [hv468_0] at ge468_0
     have HL468_0 := Aside0.mk (show Kd.R (Kd.int .i64) 3 _ _ _ _ (rd_L2 t465 x18_1) from ge468_0)
     clear hv468_0 ge468_0
     clear hcc468 hce468
     have HR468_0 := Aside0.mk hi468_0
     have HC468_0 := Aside0.mk hl468_0
     clear hi468_0 hl468_0
     replace p468 := eq_true p468
     replace q468 := eq_true q468
     go_wp2
     go_loopg [24] k1 (fun kq v24 w' => ∃ (x3_2 : List Int) (x24_2 : Int), v24 = .int .i64 x24_2 ∧ Aside0 (impl_FirstRotation.l1 kq x3_2 (rd_L2 t465 x18_1) t465 (t465.length : Int) x18_1 (rd_L2 t465 x18_1) ((rd_L2 t465 x18_1).length : Int) x24_2 = some r) ∧ Aside0 (kq ≤ k1) ∧ Aside0 (Kd.R (Kd.int .i64) 3 w' w.heap.size (fun _ => True) v463 x3_2) ∧ Aside0 (Kd.S (Kd.slice 3 (Kd.int .i64)) 26 w' w.heap.size (fun k_ => some k_ ≠ (v463 : Value).ownBlock) (.slice (some ad468) t465.length co11) t465) ∧ Aside0 (Kd.R (Kd.int .i64) 3 w' w.heap.size (fun k_ => some k_ ≠ (v463 : Value).ownBlock) (.slice A468_0 (rd_L2 t465 x18_1).length c468_0) (rd_L2 t465 x18_1)) ∧ Aside0 (Below w.heap.size w w'))
     case atStart => exact ⟨(x3_1), (0), rS, H', ⟨Nat.le_refl _⟩, ⟨R_l HO_3.out⟩, ⟨S_l HO_16.out⟩, ⟨R_l (Kd.R_mono HL468_0.out (fun _ hk => hk.1))⟩, ⟨tb⟩⟩
     case round =>
      clear H'
      try clear c1
      try clear c2
      try clear p2
      try clear c3
      try clear c4
      try clear p4
      try clear q4
      try clear hx4
      try clear c5
      try clear c5b0
      try clear c5b1
      try clear c6
      try clear c6b0
      try clear c6b1
      try clear p6
      try clear c12
      try clear c12b0
      try clear c13
      try clear c13b0
      try clear c14
      try clear c14b0
      try clear hx468_0
      try clear p2
      try clear p468
      try clear p6
      try clear q468
      obtain ⟨x3_2, x24_2, rfl, HA, HK2, HO_3, HO_16, HLX, HB⟩ := hrel
      cases gk with
      | zero => exact absurd HA.out (by simp [impl_FirstRotation.l1])
      | succ k2 =>
       have H := HA.out
       clear HA
       simp only [impl_FirstRotation.l1] at H
       obtain ⟨c15b0, H⟩ | ⟨c15b0, H⟩ := gi H
       ·obtain ⟨c16b0, H⟩ := gdt H
        obtain ⟨c17b0, H⟩ := gdt H
        by_cases c18 : ((rd_L2 t465 x18_1).length : Int) = 0
        ·rw [if_pos c18] at H
         exact absurd H (by simp)
        ·rw [if_neg c18] at H
         have c18b0 : (((rd_L2 t465 x18_1).length : Int) == 0) = false := beq_eq_false_iff_ne.mpr c18
         have c18b1 : (((rd_L2 t465 x18_1).length : Int) != 0) = true := bne_iff_ne.mpr c18
         have c18b2 : ¬ ((rd_L2 t465 x18_1) = []) := fun h_ => c18 (by rw [h_]; rfl)
         obtain ⟨ji19, hji19⟩ : ∃ j_ : Int, (Int.tmod (wrap64 (x24_2 + 1)) ((rd_L2 t465 x18_1).length : Int)) = j_ := ⟨_, rfl⟩
         replace H : (if 0 ≤ (ji19) then (if (ji19) < ((rd_L2 t465 x18_1).length : Int) then (if 0 ≤ (rd (rd_L2 t465 x18_1) x24_2) then (if (rd (rd_L2 t465 x18_1) x24_2) < (x3_2.length : Int) then (impl_FirstRotation.l1 k2 (x3_2.set ((rd (rd_L2 t465 x18_1) x24_2) : Int).toNat (rd (rd_L2 t465 x18_1) (ji19))) (rd_L2 t465 x18_1) t465 (t465.length : Int) x18_1 (rd_L2 t465 x18_1) ((rd_L2 t465 x18_1).length : Int) (wrap64 (x24_2 + 1))) else (none)) else (none)) else (none)) else (none)) = some r := by first | (rw [hji19] at H; exact H) | (simp only [hji19] at H ⊢; exact H)
         obtain ⟨c20b0, H⟩ := gdt H
         obtain ⟨c21b0, H⟩ := gdt H
         obtain ⟨c22b0, H⟩ := gdt H
         obtain ⟨c23b0, H⟩ := gdt H
         generalize hy471 : (x3_2.set ((rd (rd_L2 t465 x18_1) x24_2) : Int).toNat (rd (rd_L2 t465 x18_1) (ji19)) : List Int) = y471 at H
         have Ny471 := Aside0.mk hy471.symm; clear hy471
         have H' := Aside0.mk H
         clear H
         have p469 : 0 ≤ (x24_2 : Int) := dT
         have q469 : x24_2 < ((rd_L2 t465 x18_1).length : Int) := dT
         obtain ⟨ad469, e469, hx469_0⟩ := Kd.at_int (Kd.R_reads' HLX.out).2.2 x24_2 p469 q469
         cases e469

         replace p469 := eq_true p469
         replace q469 := eq_true q469
         have p470 : 0 ≤ ((ji19) : Int) := dT
         have q470 : (ji19) < ((rd_L2 t465 x18_1).length : Int) := dT
         obtain ⟨ad470, e470, hx470_0⟩ := Kd.at_int (Kd.R_reads' HLX.out).2.2 (ji19) p470 q470
         obtain rfl : ad469 = ad470 := (by injection e470)

         replace p470 := eq_true p470
         replace q470 := eq_true q470
         have p24 : 0 ≤ ((rd (rd_L2 t465 x18_1) x24_2) : Int) := dT
         have q24 : ((rd (rd_L2 t465 x18_1) x24_2) : Int) < ((x3_2.length : Int) : Int) := dT
         obtain ⟨go24, co24, eo24, gb24, gl24, cl24, HG24⟩ := Kd.R_form HO_3.out (by omega)
         (first | cases eo24 | (injection eo24 with ea_ en_ ec_; (first | subst ea_ | (injection ea_ with ea_; subst ea_)); subst ec_; clear en_))
         have GB24 := Aside0.mk gb24
         have GG24 := Aside0.mk HG24
         clear gb24 gl24 HG24
         obtain ⟨hx24_0, hf24_0⟩ := Kd.R_celln 0 HO_3.out ((rd (rd_L2 t465 x18_1) x24_2) : Int) p24 q24
         replace p24 := eq_true p24
         replace q24 := eq_true q24
         have HP25 := Kd.R_putg HO_3.out ((rd (rd_L2 t465 x18_1) x24_2) : Int) (rd (rd_L2 t465 x18_1) (ji19))
         go_wp2_with (first | ((with_reducible refine gate_store (t := 3) (p := 39) rfl ?_); refine store_event (t := 3) (p := 39) (v := ?vo_w26) (w1 := (wr.setCell ⟨go24, ((rd (rd_L2 t465 x18_1) x24_2) : Int).toNat, none⟩ (.int .i64 (rd (rd_L2 t465 x18_1) (ji19))))) ?hg ?ho ?hn ?hr ?_; (case ho => rfl); (case hg => rfl); (case hn => rfl); (case hr => exact gS); intro w26 hw; have hg : wr.grownBy w26 (some go24) := (by rw [hw]; exact HP25.2); have hp_ : Kd.R (Kd.int .i64) 3 w26 w.heap.size (fun _ => True) (.slice (some ⟨go24, 0, none⟩) x3_2.length co24) y471 := (by rw [hw, Ny471.out]; exact HP25.1); clear HP25; have n0_ := Aside0.mk (hp_); have n1_ := Aside0.mk (Kd.S_after (v := (.slice (some ⟨go24, 0, none⟩) x3_2.length co24)) (v1 := (.slice (some ⟨go24, 0, none⟩) x3_2.length co24)) (ok := (fun _ => True)) (S_l (Kd.S_mono HO_16.out (fun _ hk => ⟨trivial, hk⟩))) hg (.inl rfl)); have n2_ := Aside0.mk ((by rw [hw]; exact below_set (HB.out) GB24.out : Below w.heap.size w w26)); have nX_ := Aside0.mk (show Kd.R (Kd.int .i64) 3 w26 w.heap.size (fun k_ => some k_ ≠ (.slice (some ⟨go24, 0, none⟩) x3_2.length co24 : Value).ownBlock) (.slice (some ad469) (rd_L2 t465 x18_1).length c468_0) (rd_L2 t465 x18_1) from (by rw [hw]; exact Kd.R_far HLX.out (fun k hk e_ => hk (by rw [e_]; rfl)) _)); clear HLX; have HLX := nX_; clear nX_; clear HO_3; clear HO_16; clear HB; have HO_3 := n0_; have HO_16 := n1_; have HB := n2_; clear n0_ n1_ n2_; clear hg hw hp_))
         go_roundg k2
         case measure => exact oK
         case rel => exact ⟨(y471), (wrap64 (x24_2 + 1)), rS, H', ⟨oK⟩, ⟨R_l HO_3.out⟩, ⟨S_l (Kd.S_mono HO_16.out (fun _ hk => hk.2))⟩, ⟨R_l HLX.out⟩, ⟨tb⟩⟩
       ·have H' := Aside0.mk H
        clear H
        go_wp2
        go_roundg k2
        case measure => exact oK
        case rel => exact ⟨(x3_2), (wrap64 (x18_1 + 1)), rS, H', ⟨oK⟩, ⟨R_l HO_3.out⟩, ⟨S_l HO_16.out⟩, ⟨tb⟩⟩
    ·obtain rfl := Option.some.inj H
     go_wp2
     go_ret
     exact ⟨_, by first | rfl | (simp [errW_none, errW_some] <;> rfl) | (simp only [← hji4]; first | rfl | (simp [errW_none, errW_some] <;> rfl)) | (simp [*, errW_none, errW_some] <;> rfl), R_l HO_3.out, tb⟩
 ·replace c3 := Bool.eq_false_iff.mpr c3
  subst c3
  rw [if_neg (show ¬ (false = true) by decide)] at H
  obtain rfl := Option.some.inj H
  go_enter Tryz.func13, Tryz.ntmps13
  go_wp2_with (first | ((with_reducible refine gate_callee (f := 24) rfl ?_); refine goesL_ (some 9) rfl rfl Tryz.func24 (by kernel_rfl) rfl #[.slice A0 l0.length c0] rfl mp_ ?_; (with_reducible refine (impl_IsGraph.calls k _ _ l0 false _ ?side1 ?side2 A2.out).mono ?_); (case side1 => exact C_l HR0.out); (case side2 => exact HC0.out); rintro e w' ⟨rfl, ⟨nd, rfl⟩⟩; refine ⟨_, rfl, ?_⟩))
  go_ret
  exact ⟨_, rE, by first | exact Kd.R_nil _ _ _ _ _ | exact Kd.N_nil _ _ _ _ _ | exact Kd.V_nil _ _ _ _ _ | exact Kd.Q_nil _ _ _ _ _ | exact Kd.S_nil _ _ _ _ _, tb⟩

/-! ### laws_sameInts: function 14 -/
def laws_sameInts.l0 : Nat → List Int → List Int → Int → Option (Bool)
 | 0, _, _, _ => none
 | k + 1, x0, x1, x5 => if x5 < (x0.length : Int) then (if 0 ≤ x5 then (if x5 < (x1.length : Int) then (if (rd x0 x5) = (rd x1 x5) then (laws_sameInts.l0 k x0 x1 (wrap64 (x5 + 1))) else (some false)) else (none)) else (none)) else (some true)
def laws_sameInts.f (k : Nat) (l0 : List Int) (l1 : List Int) : Option (Bool) := if (l0.length : Int) = (l1.length : Int) then (laws_sameInts.l0 k l0 l1 0) else (some false)
set_option maxHeartbeats 8000000 in
set_option maxRecDepth 100000 in
theorem laws_sameInts.calls (k : Nat) (A0 : Option Addr) (c0 : Nat) (l0 : List Int) (A1 : Option Addr) (c1 : Nat) (l1 : List Int) (r : Bool) (w : World) (hr0 : Kd.C (Kd.int .i64) w A0 l0.length l0) (hc0 : l0.length ≤ c0) (hr1 : Kd.C (Kd.int .i64) w A1 l1.length l1) (hc1 : l1.length ≤ c1) (h : laws_sameInts.f k l0 l1 = some r) :
  Calls Tryz.prog 14 #[.slice A0 l0.length c0, .slice A1 l1.length c1] w fun e w' => e = .returned (.bool r) ∧ Drawn0 w w' := by
 have HR0 := Aside0.mk hr0
 have HC0 := Aside0.mk hc0
 clear hr0 hc0
 have HR1 := Aside0.mk hr1
 have HC1 := Aside0.mk hc1
 clear hr1 hc1
 have H : (if (l0.length : Int) = (l1.length : Int) then (laws_sameInts.l0 k l0 l1 0) else (some false)) = some r := h
 clear h
 by_cases c3 : (l0.length : Int) = (l1.length : Int)
 ·rw [if_pos c3] at H
  have c3b0 : ((l0.length : Int) == (l1.length : Int)) = true := beq_iff_eq.mpr c3
  have c3b1 : ((l0.length : Int) != (l1.length : Int)) = false := bne_eq_false_iff_eq.mpr c3
  have c3b2 : (l0.length == l1.length) = true := by first | simpa using c3 | (simp at c3 ⊢; omega)
  clear c3
  have H' := Aside0.mk H
  clear H
  go_enter Tryz.func14, Tryz.ntmps14
  go_wp2
  repeat (go_quiet (fail); try go_wp2)
  go_loopg [5] k (fun kq v5 w' => ∃ (x5_1 : Int), v5 = .int .i64 x5_1 ∧ Aside0 (laws_sameInts.l0 kq l0 l1 x5_1 = some r) ∧ Aside0 (kq ≤ k) ∧ Drawn0 w w')
  case atStart => exact ⟨(0), rS, H', ⟨Nat.le_refl _⟩, tD⟩
  case round =>
   clear H'
   try clear c1
   try clear p2
   try clear c3
   try clear c3b0
   try clear c3b1
   try clear c3b2
   obtain ⟨x5_1, rfl, HA, HK1, ⟨m1, rfl⟩⟩ := hrel
   cases gk with
   | zero => exact absurd HA.out (by simp [laws_sameInts.l0])
   | succ k1 =>
    have H := HA.out
    clear HA
    simp only [laws_sameInts.l0] at H
    obtain ⟨c4b0, H⟩ | ⟨c4b0, H⟩ := gi H
    ·obtain ⟨c5b0, H⟩ := gdt H
     obtain ⟨c6b0, H⟩ := gdt H
     by_cases c7 : (rd l0 x5_1) = (rd l1 x5_1)
     ·rw [if_pos c7] at H
      have c7b0 : ((rd l0 x5_1) == (rd l1 x5_1)) = true := beq_iff_eq.mpr c7
      have c7b1 : ((rd l0 x5_1) != (rd l1 x5_1)) = false := bne_eq_false_iff_eq.mpr c7
      clear c7
      have H' := Aside0.mk H
      clear H
      have p472 : 0 ≤ (x5_1 : Int) := dT
      have q472 : x5_1 < (l0.length : Int) := dT
      obtain ⟨ad472, e472, hx472_0⟩ := Kd.at_int HR0.out x5_1 p472 q472
      cases e472
      replace p472 := eq_true p472
      replace q472 := eq_true q472
      have p473 : 0 ≤ (x5_1 : Int) := dT
      have q473 : x5_1 < (l1.length : Int) := dT
      obtain ⟨ad473, e473, hx473_0⟩ := Kd.at_int HR1.out x5_1 p473 q473
      cases e473
      replace p473 := eq_true p473
      replace q473 := eq_true q473
      go_wp2
      repeat (go_quiet (fail); try go_wp2)
      go_roundg k1
      case measure => exact oK
      case rel => exact ⟨(wrap64 (x5_1 + 1)), rS, H', ⟨oK⟩, tD⟩
     ·rw [if_neg c7] at H
      have c7b0 : ((rd l0 x5_1) == (rd l1 x5_1)) = false := beq_eq_false_iff_ne.mpr c7
      have c7b1 : ((rd l0 x5_1) != (rd l1 x5_1)) = true := bne_iff_ne.mpr c7
      obtain rfl := Option.some.inj H
      have p472 : 0 ≤ (x5_1 : Int) := dT
      have q472 : x5_1 < (l0.length : Int) := dT
      obtain ⟨ad472, e472, hx472_0⟩ := Kd.at_int HR0.out x5_1 p472 q472
      cases e472
      replace p472 := eq_true p472
      replace q472 := eq_true q472
      have p473 : 0 ≤ (x5_1 : Int) := dT
      have q473 : x5_1 < (l1.length : Int) := dT
      obtain ⟨ad473, e473, hx473_0⟩ := Kd.at_int HR1.out x5_1 p473 q473
      cases e473
      replace p473 := eq_true p473
      replace q473 := eq_true q473
      go_wp2
      repeat (go_quiet (fail); try go_wp2)
      go_ret
      exact ⟨rS, tD⟩
    ·obtain rfl := Option.some.inj H
     go_wp2
     repeat (go_quiet (fail); try go_wp2)
     go_ret
     exact ⟨rS, tD⟩
 ·rw [if_neg c3] at H
  have c3b0 : ((l0.length : Int) == (l1.length : Int)) = false := beq_eq_false_iff_ne.mpr c3
  have c3b1 : ((l0.length : Int) != (l1.length : Int)) = true := bne_iff_ne.mpr c3
  have c3b2 : (l0.length == l1.length) = false := by first | simpa using c3 | (simp at c3 ⊢; omega)
  obtain rfl := Option.some.inj H
  go_enter Tryz.func14, Tryz.ntmps14
  go_wp2
  repeat (go_quiet (fail); try go_wp2)
  go_ret
  exact ⟨rS, tD⟩

/-! ### spec_l7Darts: function 55 -/
mutual
def spec_l7Darts.l0 : Nat → List (List Int) → Int → List Int → Int → Option (List Int)
 | 0, _, _, _, _ => none
 | k + 1, x0, x1, x5, x6 => if x6 < (x0.length : Int) then (spec_l7Darts.l1 k x0 x1 x5 x6 0) else (some x5)
def spec_l7Darts.l1 : Nat → List (List Int) → Int → List Int → Int → Int → Option (List Int)
 | 0, _, _, _, _, _ => none
 | k + 1, x0, x1, x5, x6, x7 => if x7 < 2 then (if 0 ≤ x6 then (if x6 < (x0.length : Int) then (if 0 ≤ x7 then (if x7 < ((rd_L2 x0 x6).length : Int) then (if (rd (rd_L2 x0 x6) x7) = x1 then (if x5.length < 17592186044416 then (spec_l7Darts.l1 k x0 x1 (x5 ++ [wrap64 ((wrap64 (2 * x6)) + x7)]) x6 (wrap64 (x7 + 1))) else (none)) else (spec_l7Darts.l1 k x0 x1 x5 x6 (wrap64 (x7 + 1)))) else (none)) else (none)) else (none)) else (none)) else (spec_l7Darts.l0 k x0 x1 x5 (wrap64 (x6 + 1)))
end
def spec_l7Darts.f (k : Nat) (l0 : List (List Int)) (a1 : Int) : Option (List Int) := spec_l7Darts.l0 k l0 a1 (([] : List Int)) 0
set_option maxHeartbeats 8000000 in
set_option maxRecDepth 100000 in
theorem spec_l7Darts.calls (k : Nat) (A0 : Option Addr) (c0 : Nat) (l0 : List (List Int)) (a1 : Int) (r : List Int) (w : World) (hr0 : Kd.C (Kd.slice 3 (Kd.int .i64)) w A0 l0.length l0) (hc0 : l0.length ≤ c0) (h : spec_l7Darts.f k l0 a1 = some r) :
  Calls Tryz.prog 55 #[.slice A0 l0.length c0, .int .i64 a1] w fun e w' => ∃ v0_ : Value, e = .returned (v0_) ∧ Kd.R (Kd.int .i64) 3 w' w.heap.size (fun _ => True) v0_ r ∧ Below w.heap.size w w' := by
 have HR0 := Aside0.mk hr0
 have HC0 := Aside0.mk hc0
 clear hr0 hc0
 have HB := Aside0.mk (Below.refl w.heap.size w)
 have H : (spec_l7Darts.l0 k l0 a1 (([] : List Int)) 0) = some r := h
 clear h
 generalize hy474 : (([] : List Int) : List Int) = y474 at H
 have Ny474 := Aside0.mk hy474.symm; clear hy474
 have H' := Aside0.mk H
 clear H
 go_enter Tryz.func55, Tryz.ntmps55
 go_wp2_with (first | ((with_reducible refine gate_dst (N := 8) rfl ?_); refine Kd.R_lit (Kd.int .i64) _ 3 ?hg (N := 8) ?hd (xs := ([] : List Int)) (inner := []) (ok := fun _ => True) (okp := fun _ => True) ?hr ?hp (fun _ hk => hk) trivial (Below.refl _ _) (Nat.le_refl _) (by simp) ?_; (case hd => rfl); (case hg => rfl); (case hr => exact gS); (case hp => exact (Reps.none _ _)); intro v475 w3 ho4 hb hg_ hnew_; clear hg_ hnew_; (first | rw [← Ny474.out] at ho4 | (simp only [Int.reduceToNat] at ho4; rw [← Ny474.out] at ho4)); have HO476 := Aside0.mk (Kd.R_lower ho4 (below_size tb)); replace HB := Aside0.mk (below_step tb hb); clear hb ho4))
 go_loopg [5, 6] k (fun kq v5 v6 w' => ∃ (x5_1 : List Int) (x6_1 : Int), v6 = .int .i64 x6_1 ∧ Aside0 (spec_l7Darts.l0 kq l0 a1 x5_1 x6_1 = some r) ∧ Aside0 (kq ≤ k) ∧ Aside0 (Kd.R (Kd.int .i64) 3 w' w.heap.size (fun _ => True) v5 x5_1) ∧ Aside0 (Below w.heap.size w w'))
 case atStart => exact ⟨(y474), (0), rS, H', ⟨Nat.le_refl _⟩, ⟨R_l HO476.out⟩, ⟨tb⟩⟩
 case round =>
  clear H'
  try clear p2
  obtain ⟨x5_1, x6_1, rfl, HA, HK1, HO_5, HB⟩ := hrel
  cases gk with
  | zero => exact absurd HA.out (by simp [spec_l7Darts.l0])
  | succ k1 =>
   have H := HA.out
   clear HA
   simp only [spec_l7Darts.l0] at H
   obtain ⟨c5b0, H⟩ | ⟨c5b0, H⟩ := gi H
   ·have H' := Aside0.mk H
    clear H
    go_wp2
    go_loopg [5, 7] k1 (fun kq v5 v7 w' => ∃ (x5_2 : List Int) (x7_2 : Int), v7 = .int .i64 x7_2 ∧ Aside0 (spec_l7Darts.l1 kq l0 a1 x5_2 x6_1 x7_2 = some r) ∧ Aside0 (kq ≤ k1) ∧ Aside0 (Kd.R (Kd.int .i64) 3 w' w.heap.size (fun _ => True) v5 x5_2) ∧ Aside0 (Below w.heap.size w w'))
    case atStart => exact ⟨(x5_1), (0), rS, H', ⟨Nat.le_refl _⟩, ⟨R_l HO_5.out⟩, ⟨tb⟩⟩
    case round =>
     clear H'
     try clear p2
     try clear c5
     try clear c5b0
     try clear p2
     obtain ⟨x5_2, x7_2, rfl, HA, HK2, HO_5, HB⟩ := hrel
     cases gk with
     | zero => exact absurd HA.out (by simp [spec_l7Darts.l1])
     | succ k2 =>
      have H := HA.out
      clear HA
      simp only [spec_l7Darts.l1] at H
      obtain ⟨c6b0, H⟩ | ⟨c6b0, H⟩ := gi H
      ·obtain ⟨c7b0, H⟩ := gdt H
       obtain ⟨c8b0, H⟩ := gdt H
       obtain ⟨c9b0, H⟩ := gdt H
       obtain ⟨c10b0, H⟩ := gdt H
       by_cases c11 : (rd (rd_L2 l0 x6_1) x7_2) = a1
       ·rw [if_pos c11] at H
        have c11b0 : ((rd (rd_L2 l0 x6_1) x7_2) == a1) = true := beq_iff_eq.mpr c11
        have c11b1 : ((rd (rd_L2 l0 x6_1) x7_2) != a1) = false := bne_eq_false_iff_eq.mpr c11
        clear c11
        obtain ⟨LMc12, H⟩ := gda H
        generalize hy479 : (x5_2 ++ [wrap64 ((wrap64 (2 * x6_1)) + x7_2)] : List Int) = y479 at H
        have Ny479 := Aside0.mk hy479.symm; clear hy479
        have H' := Aside0.mk H
        clear H
        have p477 : 0 ≤ (x6_1 : Int) := dT
        have q477 : x6_1 < (l0.length : Int) := dT
        obtain ⟨ad477, A477_0, c477_0, e477, hx477_0, hl477_0, hi477_0⟩ := at_L2 HR0.out x6_1 p477 q477
        cases e477
        replace hx477_0 := cB HB hx477_0
        have HR477_0 := Aside0.mk hi477_0
        have HC477_0 := Aside0.mk hl477_0
        clear hi477_0 hl477_0
        replace p477 := eq_true p477
        replace q477 := eq_true q477
        have p478 : 0 ≤ (x7_2 : Int) := dT
        have q478 : x7_2 < ((rd_L2 l0 x6_1).length : Int) := dT
        obtain ⟨ad478, e478, hx478_0⟩ := Kd.at_int HR477_0.out x7_2 p478 q478
        cases e478
        replace hx478_0 := cB HB hx478_0
        replace p478 := eq_true p478
        replace q478 := eq_true q478
        go_wp2_with (first | ((with_reducible refine gate_builtin (b := .append) (xs := #[.tmp 28, .tmp 33]) rfl ?_); at_builtin; refine Kd.R_append (Kd.int .i64) (w0 := w) w.heap.size rfl (.tmp 28) (.tmp 33) 26 3 (.int .i64 0) 8 rfl Tryz.underlying26 info3 rfl (by decide) (by omega) u5 x5_2 (wrap64 ((wrap64 (2 * x6_1)) + x7_2)) [.int .i64 (wrap64 ((wrap64 (2 * x6_1)) + x7_2))] (fun _ => True) (fun _ => False) rfl rfl ?aP (fun _ hk => hk.elim) ?aF ?aO ?aB ?aS ?aL ?_; (case aP => exact rfl); (case aB => exact tb); (case aF => exact (fun _ _ => trivial)); (case aO => exact (R_l HO_5.out)); (case aS => exact (below_size tb)); (case aL => have := LMc12.out; omega); intro v480 w13 ho hb hg hat; rw [← Ny479.out] at ho; replace HB := Aside0.mk (hb); have HO481 := Aside0.mk (ho); clear HO_5; clear ho hb hg hat))
        go_roundg k2
        case measure => exact oK
        case rel => exact ⟨(y479), (wrap64 (x7_2 + 1)), rS, H', ⟨oK⟩, ⟨R_l HO481.out⟩, ⟨tb⟩⟩
       ·rw [if_neg c11] at H
        have c11b0 : ((rd (rd_L2 l0 x6_1) x7_2) == a1) = false := beq_eq_false_iff_ne.mpr c11
        have c11b1 : ((rd (rd_L2 l0 x6_1) x7_2) != a1) = true := bne_iff_ne.mpr c11
        have H' := Aside0.mk H
        clear H
        have p477 : 0 ≤ (x6_1 : Int) := dT
        have q477 : x6_1 < (l0.length : Int) := dT
        obtain ⟨ad477, A477_0, c477_0, e477, hx477_0, hl477_0, hi477_0⟩ := at_L2 HR0.out x6_1 p477 q477
        cases e477
        replace hx477_0 := cB HB hx477_0
        have HR477_0 := Aside0.mk hi477_0
        have HC477_0 := Aside0.mk hl477_0
        clear hi477_0 hl477_0
        replace p477 := eq_true p477
        replace q477 := eq_true q477
        have p478 : 0 ≤ (x7_2 : Int) := dT
        have q478 : x7_2 < ((rd_L2 l0 x6_1).length : Int) := dT
        obtain ⟨ad478, e478, hx478_0⟩ := Kd.at_int HR477_0.out x7_2 p478 q478
        cases e478
        replace hx478_0 := cB HB hx478_0
        replace p478 := eq_true p478
        replace q478 := eq_true q478
        go_wp2
        go_roundg k2
        case measure => exact oK
        case rel => exact ⟨(x5_2), (wrap64 (x7_2 + 1)), rS, H', ⟨oK⟩, ⟨R_l HO_5.out⟩, ⟨tb⟩⟩
      ·have H' := Aside0.mk H
       clear H
       go_wp2
       go_roundg k2
       case measure => exact oK
       case rel => exact ⟨(x5_2), (wrap64 (x6_1 + 1)), rS, H', ⟨oK⟩, ⟨R_l HO_5.out⟩, ⟨tb⟩⟩
   ·obtain rfl := Option.some.inj H
    go_wp2
    go_ret
    exact ⟨_, rE, R_l HO_5.out, tb⟩

/-! ### spec_DegreesOf: function 27 -/
def spec_DegreesOf.l0 : Nat → List (List Int) → List Int → Int → Option (List Int)
 | 0, _, _, _ => none
 | k + 1, x0, x3, x4 => if x4 < 7 then ((spec_IsGraph.f k x0).bind fun t485 => (if t485 = true then ((spec_l7Darts.f k x0 x4).bind fun t486 => (if x3.length < 17592186044416 then (spec_DegreesOf.l0 k x0 (x3 ++ [(t486.length : Int)]) (wrap64 (x4 + 1))) else (none))) else (some x3))) else (some x3)
def spec_DegreesOf.f (k : Nat) (l0 : List (List Int)) : Option (List Int) := spec_DegreesOf.l0 k l0 (([] : List Int)) 0
set_option maxHeartbeats 8000000 in
set_option maxRecDepth 100000 in
theorem spec_DegreesOf.calls (k : Nat) (A0 : Option Addr) (c0 : Nat) (l0 : List (List Int)) (r : List Int) (w : World) (hr0 : Kd.C (Kd.slice 3 (Kd.int .i64)) w A0 l0.length l0) (hc0 : l0.length ≤ c0) (h : spec_DegreesOf.f k l0 = some r) :
  Calls Tryz.prog 27 #[.slice A0 l0.length c0] w fun e w' => ∃ v0_ : Value, e = .returned (v0_) ∧ Kd.R (Kd.int .i64) 3 w' w.heap.size (fun _ => True) v0_ r ∧ Below w.heap.size w w' := by
 have HR0 := Aside0.mk hr0
 have HC0 := Aside0.mk hc0
 clear hr0 hc0
 have HB := Aside0.mk (Below.refl w.heap.size w)
 have H : (spec_DegreesOf.l0 k l0 (([] : List Int)) 0) = some r := h
 clear h
 generalize hy482 : (([] : List Int) : List Int) = y482 at H
 have Ny482 := Aside0.mk hy482.symm; clear hy482
 have H' := Aside0.mk H
 clear H
 go_enter Tryz.func27, Tryz.ntmps27
 go_wp2_with (first | ((with_reducible refine gate_dst (N := 5) rfl ?_); refine Kd.R_lit (Kd.int .i64) _ 3 ?hg (N := 5) ?hd (xs := ([] : List Int)) (inner := []) (ok := fun _ => True) (okp := fun _ => True) ?hr ?hp (fun _ hk => hk) trivial (Below.refl _ _) (Nat.le_refl _) (by simp) ?_; (case hd => rfl); (case hg => rfl); (case hr => exact gS); (case hp => exact (Reps.none _ _)); intro v483 w2 ho3 hb hg_ hnew_; clear hg_ hnew_; (first | rw [← Ny482.out] at ho3 | (simp only [Int.reduceToNat] at ho3; rw [← Ny482.out] at ho3)); have HO484 := Aside0.mk (Kd.R_lower ho3 (below_size tb)); replace HB := Aside0.mk (below_step tb hb); clear hb ho3))
 go_loopg [3, 4] k (fun kq v3 v4 w' => ∃ (x3_1 : List Int) (x4_1 : Int), v4 = .int .i64 x4_1 ∧ Aside0 (spec_DegreesOf.l0 kq l0 x3_1 x4_1 = some r) ∧ Aside0 (kq ≤ k) ∧ Aside0 (Kd.R (Kd.int .i64) 3 w' w.heap.size (fun _ => True) v3 x3_1) ∧ Aside0 (Below w.heap.size w w'))
 case atStart => exact ⟨(y482), (0), rS, H', ⟨Nat.le_refl _⟩, ⟨R_l HO484.out⟩, ⟨tb⟩⟩
 case round =>
  clear H'
  try clear c2
  try clear p2
  obtain ⟨x3_1, x4_1, rfl, HA, HK1, HO_3, HB⟩ := hrel
  cases gk with
  | zero => exact absurd HA.out (by simp [spec_DegreesOf.l0])
  | succ k1 =>
   have H := HA.out
   clear HA
   simp only [spec_DegreesOf.l0] at H
   obtain ⟨c4b0, H⟩ | ⟨c4b0, H⟩ := gi H
   ·obtain ⟨t485, A5, H⟩ := bs H
    by_cases c6 : t485 = true
    ·subst c6
     rw [if_pos rfl] at H
     obtain ⟨t486, A7, H⟩ := bs H
     obtain ⟨LMc8, H⟩ := gda H
     generalize hy489 : (x3_1 ++ [(t486.length : Int)] : List Int) = y489 at H
     have Ny489 := Aside0.mk hy489.symm; clear hy489
     have H' := Aside0.mk H
     clear H
     go_wp2_with (first | (go_at_call 25; (with_reducible refine (spec_IsGraph.calls k1 _ _ l0 true _ ?side1 ?side2 A5.out).mono ?_); (case side1 => exact C_l (Kd.C_below HR0.out HB.out)); (case side2 => exact HC0.out); rintro e w9 ⟨rfl, hb⟩; replace HO_3 := Aside0.mk (rB HO_3.out hb); replace HB := Aside0.mk (below_step tb hb)) | ((with_reducible refine gate_callee (f := 55) rfl ?_); refine goesL_ (some 17) rfl rfl Tryz.func55 (by kernel_rfl) rfl #[.slice A0 l0.length c0, .int .i64 x4_1] rfl mp_ ?_; (with_reducible refine (spec_l7Darts.calls k1 _ _ l0 x4_1 t486 _ ?side1 ?side2 A7.out).mono ?_); (case side1 => exact C_l (Kd.C_below HR0.out HB.out)); (case side2 => exact HC0.out); rintro e w10 ⟨v487, rfl, ho0, hb⟩; refine ⟨_, rfl, ?_⟩; have HO488 := Aside0.mk (Kd.R_lower (Kd.R_new' ho0 (Kd.R_lt (R_l HO_3.out))) (below_size tb)); replace HO_3 := Aside0.mk (Kd.R_elder' (R_l HO_3.out) (Kd.R_base ho0) hb); replace HB := Aside0.mk (below_step tb hb); obtain ⟨Ao11, co11, eo11⟩ := Kd.R_slice HO488.out; subst eo11) | ((with_reducible refine gate_builtin (b := .append) (xs := #[.tmp 14, .tmp 19]) rfl ?_); at_builtin; refine Kd.R_append (Kd.int .i64) (w0 := w) w.heap.size rfl (.tmp 14) (.tmp 19) 26 3 (.int .i64 0) 8 rfl Tryz.underlying26 info3 rfl (by decide) (by omega) u3 x3_1 (t486.length : Int) [.int .i64 (t486.length : Int)] (fun k_ => some k_ ≠ (.slice Ao11 t486.length co11 : Value).ownBlock) (fun _ => False) rfl rfl ?aP (fun _ hk => hk.elim) ?aF ?aO ?aB ?aS ?aL ?_; (case aP => exact rfl); (case aB => exact tb); (case aF => exact (fun k_ hk => Kd.fresh' (Kd.R_lt (R_l HO488.out)) k_ hk)); (case aO => exact (R_l (Kd.R_mono HO_3.out (fun _ hk => hk.2)))); (case aS => exact (below_size tb)); (case aL => have := LMc8.out; omega); intro v490 w12 ho hb hg hat; rw [← Ny489.out] at ho; replace HO488 := Aside0.mk (Kd.R_after (ok := (fun _ => True)) (R_l HO488.out) hg hat); replace HB := Aside0.mk (hb); have HO491 := Aside0.mk (ho); clear HO_3; clear ho hb hg hat))
     go_roundg k1
     case measure => exact oK
     case rel => exact ⟨(y489), (wrap64 (x4_1 + 1)), rS, H', ⟨oK⟩, ⟨R_l (Kd.R_mono HO491.out (fun _ hk => trivial))⟩, ⟨tb⟩⟩
    ·replace c6 := Bool.eq_false_iff.mpr c6
     subst c6
     rw [if_neg (show ¬ (false = true) by decide)] at H
     obtain rfl := Option.some.inj H
     go_wp2_with (first | (go_at_call 25; (with_reducible refine (spec_IsGraph.calls k1 _ _ l0 false _ ?side1 ?side2 A5.out).mono ?_); (case side1 => exact C_l (Kd.C_below HR0.out HB.out)); (case side2 => exact HC0.out); rintro e w13 ⟨rfl, hb⟩; replace HO_3 := Aside0.mk (rB HO_3.out hb); replace HB := Aside0.mk (below_step tb hb)))
     go_ret
     exact ⟨_, rE, R_l HO_3.out, tb⟩
   ·obtain rfl := Option.some.inj H
    go_wp2
    go_ret
    exact ⟨_, rE, R_l HO_3.out, tb⟩

end Go.Proofs.YtafpbabiahjjaaaGreatDoor.PFnGraphs
