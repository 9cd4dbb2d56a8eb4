import Derived.Test.YtepogblkmiidnaaWSpanB
import Derived.Test.YtepogblkmiidnaaPFnCoversx0
import Derived.Test.YtepogblkmiidnaaPFnCoversx3
import Derived.Test.YtepogblkmiidnaaPFnCoversx5
import Derived.Test.YtepogblkmiidnaaPFnCoversx6
import Derived.Test.YtepogblkmiidnaaPFnCoversx7
namespace Go.Proofs.Ytepogblkmiidnaa.PFnCovers
open Go.RowKit Go.Proofs.YtepogblkmiidnaaW.PrintWords Go.Proofs.YtepogblkmiidnaaW.PrintLast Go.Proofs.YtepogblkmiidnaaW.PrintMore
attribute [local go_sem] max2_int min2_int max_two min_two max_three min_three max_four min_four   -- for this text's walks alone
set_option linter.unusedVariables false
set_option linter.unusedSimpArgs false

/-! ### impl_CoverOf: function 6 -/
mutual
def impl_CoverOf.l0 : Nat → Int → List (List Int) → List (S46) → List (List Int) → Int → Int → Option ((List (S46)) × Bool)
 | 0, _, _, _, _, _, _ => none
 | k + 1, x0, x1, x6, x21, x22, x23 => if x23 < x22 then (if 0 ≤ x23 then (if x23 < (x21.length : Int) then (if x0 = 0 then ((impl_relator.f 1).bind fun t267 => ((impl_act.f k x1 t267).bind fun t270 => ((impl_cycles.f k t270).bind fun t273 => (impl_CoverOf.l1 k x0 x1 x6 (rd_L2 x21 x23) (wrap64 (-((rd_L2 x21 x23).length : Int))) 0 x21 x22 x23 t273 (t273.length : Int) 0)))) else ((impl_surfaceWith.f (wrap64 (((rd_L2 x21 x23).length : Int) * (wrap64 (2 - (wrap64 (2 * x0)))))) 0 true).bind fun bt287 => (if bt287.2.2.2 = true then (if x6.length < 5864062014805 then (impl_CoverOf.l0 k x0 x1 (x6 ++ [(⟨bt287.1, bt287.2.1, bt287.2.2.1⟩ : S46)]) x21 x22 (wrap64 (x23 + 1))) else (none)) else (some (([] : List (S46)), false))))) else (none)) else (none)) else (some (x6, true))
def impl_CoverOf.l1 : Nat → Int → List (List Int) → List (S46) → List Int → Int → Int → List (List Int) → Int → Int → List (List Int) → Int → Int → Option ((List (S46)) × Bool)
 | 0, _, _, _, _, _, _, _, _, _, _, _, _ => none
 | k + 1, x0, x1, x6, x8, x9, x10, x21, x22, x23, x41, x42, x43 => if x43 < x42 then (if 0 ≤ x43 then (if x43 < (x41.length : Int) then (if 0 < ((rd_L2 x41 x43).length : Int) then ((impl_indexOf.f k x8 (rd (rd_L2 x41 x43) 0)).bind fun t278 => (if t278 ≥ 0 then (impl_CoverOf.l1 k x0 x1 x6 x8 x9 (wrap64 (x10 + 1)) x21 x22 x23 x41 x42 (wrap64 (x43 + 1))) else (impl_CoverOf.l1 k x0 x1 x6 x8 x9 x10 x21 x22 x23 x41 x42 (wrap64 (x43 + 1))))) else (none)) else (none)) else (none)) else ((impl_surfaceWith.f x9 x10 true).bind fun bt279 => (if bt279.2.2.2 = true then (if x6.length < 5864062014805 then (impl_CoverOf.l0 k x0 x1 (x6 ++ [(⟨bt279.1, bt279.2.1, bt279.2.2.1⟩ : S46)]) x21 x22 (wrap64 (x23 + 1))) else (none)) else (some (([] : List (S46)), false))))
end
def impl_CoverOf.f (k : Nat) (a0 : Int) (l1 : List (List Int)) : Option ((List (S46)) × Bool) := (impl_IsAction.f k a0 l1).bind fun t259 => (if t259 = true then ((impl_parts.f k l1).bind fun t263 => (impl_CoverOf.l0 k a0 l1 (([] : List (S46))) t263 (t263.length : Int) 0)) else (some (([] : List (S46)), false)))
set_option maxHeartbeats 8000000 in
set_option maxRecDepth 100000 in
theorem impl_CoverOf.calls (k : Nat) (a0 : Int) (A1 : Option Addr) (c1 : Nat) (l1 : List (List Int)) (r1 : List (S46)) (r2 : Bool) (w : World) (hr1 : Kd.C (Kd.slice 3 (Kd.int .i64)) w A1 l1.length l1) (hc1 : l1.length ≤ c1) (h : impl_CoverOf.f k a0 l1 = some (r1, r2)) :
  Calls Try.prog 6 #[.int .i64 a0, .slice A1 l1.length c1] w fun e w' => ∃ v0_ : Value, e = .returned (.tuple #[v0_, .bool r2]) ∧ Kd.R k46 46 w' w.heap.size (fun _ => True) v0_ r1 ∧ Below w.heap.size w w' := by
 have hu46 := Try.underlying46
 have HR1 := Aside0.mk hr1
 have HC1 := Aside0.mk hc1
 clear hr1 hc1
 have HB := Aside0.mk (Below.refl w.heap.size w)
 have H : ((impl_IsAction.f k a0 l1).bind fun t259 => (if t259 = true then ((impl_parts.f k l1).bind fun t263 => (impl_CoverOf.l0 k a0 l1 (([] : List (S46))) t263 (t263.length : Int) 0)) else (some (([] : List (S46)), false)))) = some (r1, r2) := h
 clear h
 obtain ⟨t259, A3, H⟩ := bs H
 by_cases c4 : t259 = true
 ·subst c4
  rw [if_pos rfl] at H
  generalize hy260 : (([] : List (S46)) : List (S46)) = y260 at H
  have Ny260 := Aside0.mk hy260.symm; clear hy260
  obtain ⟨t263, A5, H⟩ := bs H
  have H' := Aside0.mk H
  clear H
  go_enter Try.func6, Try.ntmps6
  go_wp2_with (first | (refine gL 23 (some 17) Try.func23 #[.int .i64 a0, .slice A1 l1.length c1] ?_; (with_reducible refine (impl_IsAction.calls k a0 _ _ l1 true _ ?side1 ?side2 A3.out).mono ?_); (case side1 => exact C_l HR1.out); (case side2 => exact HC1.out); rintro e w6 ⟨rfl, hb⟩; refine ⟨_, rfl, ?_⟩; replace HB := Aside0.mk (below_step (by repeat (first | (with_reducible first | exact HB.out | apply below_alloc | apply pw_below_drewN | apply below_drew1 | exact Below.refl _ _) | exact HB.out)) hb)) | ((with_reducible refine gate_dst (N := 19) rfl ?_); refine Kd.R_lit k46 _ 46 ?hg (N := 19) ?hd (xs := ([] : List (S46))) (inner := []) (ok := fun _ => True) (okp := fun _ => True) ?hr ?hp (fun _ hk => hk) trivial (Below.refl _ _) (Nat.le_refl _) (by simp) ?_; (case hd => rfl); (case hg => rfl); (case hr => exact gS); (case hp => exact (Reps.none _ _)); intro v261 w7 ho8 hb hg_ hnew_; clear hg_ hnew_; (first | rw [← Ny260.out] at ho8 | (simp only [Int.reduceToNat] at ho8; rw [← Ny260.out] at ho8)); have HO262 := Aside0.mk (Kd.R_lower ho8 (below_size (by repeat (first | (with_reducible first | exact HB.out | apply below_alloc | apply pw_below_drewN | apply below_drew1 | exact Below.refl _ _) | exact HB.out)))); replace HB := Aside0.mk (below_step (by repeat (first | (with_reducible first | exact HB.out | apply below_alloc | apply pw_below_drewN | apply below_drew1 | exact Below.refl _ _) | exact HB.out)) hb); clear hb ho8) | (refine gL 31 (some 21) Try.func31 #[.slice A1 l1.length c1] ?_; (with_reducible refine (impl_parts.calls k _ _ l1 t263 _ ?side1 ?side2 A5.out).mono ?_); (case side1 => repeat (first | exact HR1.out | exact (Kd.C_below HR1.out HB.out) | (with_reducible refine Kd.C_alloc ?_ _) | (with_reducible refine Kd.C_drewN ?_ _) | (with_reducible refine Kd.C_drew ?_))); (case side2 => exact HC1.out); rintro e w9 ⟨v264, rfl, ho0, hb⟩; refine ⟨_, rfl, ?_⟩; replace HO262 := Aside0.mk (rB HO262.out hb); have HO265 := Aside0.mk (Kd.S_lower ho0 (below_size (by repeat (first | (with_reducible first | exact HB.out | apply below_alloc | apply pw_below_drewN | apply below_drew1 | exact Below.refl _ _) | exact HB.out)))); replace HB := Aside0.mk (below_step (by repeat (first | (with_reducible first | exact HB.out | apply below_alloc | apply pw_below_drewN | apply below_drew1 | exact Below.refl _ _) | exact HB.out)) hb); obtain ⟨Ao10, co10, eo10⟩ := Kd.S_slice HO265.out; subst eo10))
  go_loopg [6, 23] k (fun kq v6 v23 w' => ∃ (x6_1 : List (S46)) (x23_1 : Int), v23 = .int .i64 x23_1 ∧ Aside0 (impl_CoverOf.l0 kq a0 l1 x6_1 t263 (t263.length : Int) x23_1 = some (r1, r2)) ∧ Aside0 (kq ≤ k) ∧ Aside0 (Kd.R k46 46 w' w.heap.size (fun _ => True) v6 x6_1) ∧ Aside0 (Kd.S (Kd.slice 3 (Kd.int .i64)) 30 w' w.heap.size (fun _ => True) (.slice Ao10 t263.length co10) t263) ∧ Aside0 (Below w.heap.size w w'))
  case atStart => exact ⟨(y260), (0), rS, H', ⟨Nat.le_refl _⟩, ⟨R_l HO262.out⟩, ⟨S_l HO265.out⟩, ⟨by repeat (first | (with_reducible first | exact HB.out | apply below_alloc | apply pw_below_drewN | apply below_drew1 | exact Below.refl _ _) | exact HB.out)⟩⟩
  case round =>
   clear H'
   try clear c1
   try clear c2
   try clear p2
   try clear c3
   try clear c4
   try clear c6
   obtain ⟨x6_1, x23_1, rfl, HA, HK1, HO_6, HO_21, HB⟩ := hrel
   cases gk with
   | zero => exact absurd HA.out (by simp [impl_CoverOf.l0])
   | succ k1 =>
    have H := HA.out
    clear HA
    simp only [impl_CoverOf.l0] at H
    obtain ⟨c11b0, H⟩ | ⟨c11b0, H⟩ := gi H
    ·obtain ⟨c12b0, H⟩ := gdt H
     obtain ⟨c13b0, H⟩ := gdt H
     by_cases c14 : a0 = 0
     ·rw [if_pos c14] at H
      have c14b0 : (a0 == 0) = true := beq_iff_eq.mpr c14
      have c14b1 : (a0 != 0) = false := bne_eq_false_iff_eq.mpr c14
      clear c14
      obtain ⟨t267, A15, H⟩ := bs H
      obtain ⟨t270, A16, H⟩ := bs H
      obtain ⟨t273, A17, H⟩ := bs H
      have H' := Aside0.mk H
      clear H
      have p266 : 0 ≤ (x23_1 : Int) := dT
      have q266 : x23_1 < (t263.length : Int) := dT
      obtain ⟨ad266, A266_0, c266_0, e266, hx266_0, hl266_0, hi266_0⟩ := at_L2 (Kd.S_reads' HO_21.out).2.2 x23_1 p266 q266
      cases e266
      obtain ⟨ce266, hce266, hMe266, hcc266⟩ := Kd.S_get HO_21.out [] x23_1 p266 (by first | exact q266 | exact dT | (have e_ := (Kd.S_reads' HO_21.out).1; omega))
      obtain ⟨ve266_0, rfl, ge266_0⟩ := hMe266
      have hv266_0 := hcc266 0 _ rfl
      rw [Nat.add_zero, show ((Kd.slice 3 (Kd.int .i64))).sz = 1 from rfl, Nat.mul_one] at hv266_0
      replace hv266_0 := Option.some.inj (hv266_0.symm.trans hx266_0)
      rw [hv266_0] at ge266_0
      have HL266_0 := Aside0.mk (show Kd.R (Kd.int .i64) 3 _ _ _ _ (rd_L2 t263 x23_1) from ge266_0)
      clear hv266_0 ge266_0
      clear hcc266 hce266
      have HR266_0 := Aside0.mk hi266_0
      have HC266_0 := Aside0.mk hl266_0
      clear hi266_0 hl266_0
      replace p266 := eq_true p266
      replace q266 := eq_true q266
      go_wp2_with (first | (refine gL 34 (some 39) Try.func34 #[.int .i64 1] ?_; (with_reducible refine (impl_relator.calls 1 t267 _ A15.out).mono ?_); rintro e w18 ⟨v268, rfl, ho0, hb⟩; refine ⟨_, rfl, ?_⟩; replace HO_6 := Aside0.mk (rB HO_6.out hb); replace HO_21 := Aside0.mk (Kd.S_elder' (S_l HO_21.out) (Kd.R_base ho0) hb); have HO269 := Aside0.mk (Kd.R_lower (Kd.R_new' ho0 (Kd.R_lt (R_l HL266_0.out))) (below_size (by repeat (first | (with_reducible first | exact HB.out | apply below_alloc | apply pw_below_drewN | apply below_drew1 | exact Below.refl _ _) | exact HB.out)))); replace HL266_0 := Aside0.mk (Kd.R_elder' (R_l HL266_0.out) (Kd.R_base ho0) hb); replace HR266_0 := Aside0.mk (Kd.C_below (by repeat (first | (with_reducible exact HR266_0.out) | (with_reducible refine Kd.C_alloc ?_ _) | (with_reducible refine Kd.C_drewN ?_ _) | (with_reducible refine Kd.C_drew ?_) | exact HR266_0.out)) hb); replace HB := Aside0.mk (below_step (by repeat (first | (with_reducible first | exact HB.out | apply below_alloc | apply pw_below_drewN | apply below_drew1 | exact Below.refl _ _) | exact HB.out)) hb); obtain ⟨Ao19, co19, eo19⟩ := Kd.R_slice HO269.out; subst eo19) | (refine gL 33 (some 40) Try.func33 #[.slice A1 l1.length c1, .slice Ao19 t267.length co19] ?_; (with_reducible refine (impl_act.calls k1 _ _ l1 _ _ t267 t270 _ ?side1 ?side2 ?side3 ?side4 A16.out).mono ?_); (case side1 => repeat (first | exact HR1.out | exact (Kd.C_below HR1.out HB.out) | (with_reducible refine Kd.C_alloc ?_ _) | (with_reducible refine Kd.C_drewN ?_ _) | (with_reducible refine Kd.C_drew ?_))); (case side2 => exact HC1.out); (case side3 => exact C_l ((Kd.R_reads' HO269.out).2.2)); (case side4 => exact (Kd.R_reads' HO269.out).2.1); rintro e w20 ⟨v271, rfl, ho0, hb⟩; refine ⟨_, rfl, ?_⟩; replace HO_6 := Aside0.mk (rB HO_6.out hb); replace HO_21 := Aside0.mk (Kd.S_elder' (S_l HO_21.out) (Kd.R_base ho0) hb); have HO272 := Aside0.mk (Kd.R_lower (Kd.R_new' (Kd.R_new' ho0 (Kd.R_lt (R_l HL266_0.out))) (Kd.R_lt (R_l HO269.out))) (below_size (by repeat (first | (with_reducible first | exact HB.out | apply below_alloc | apply pw_below_drewN | apply below_drew1 | exact Below.refl _ _) | exact HB.out)))); replace HL266_0 := Aside0.mk (Kd.R_elder' (R_l HL266_0.out) (Kd.R_base ho0) hb); replace HO269 := Aside0.mk (Kd.R_elder' (R_l HO269.out) (Kd.R_base ho0) hb); replace HR266_0 := Aside0.mk (Kd.C_below (by repeat (first | (with_reducible exact HR266_0.out) | (with_reducible refine Kd.C_alloc ?_ _) | (with_reducible refine Kd.C_drewN ?_ _) | (with_reducible refine Kd.C_drew ?_) | exact HR266_0.out)) hb); replace HB := Aside0.mk (below_step (by repeat (first | (with_reducible first | exact HB.out | apply below_alloc | apply pw_below_drewN | apply below_drew1 | exact Below.refl _ _) | exact HB.out)) hb); obtain ⟨Ao21, co21, eo21⟩ := Kd.R_slice HO272.out; subst eo21) | (refine gL 32 (some 41) Try.func32 #[.slice Ao21 t270.length co21] ?_; (with_reducible refine (impl_cycles.calls k1 _ _ t270 t273 _ ?side1 ?side2 A17.out).mono ?_); (case side1 => exact C_l ((Kd.R_reads' HO272.out).2.2)); (case side2 => exact (Kd.R_reads' HO272.out).2.1); rintro e w22 ⟨v274, rfl, ho0, hb⟩; refine ⟨_, rfl, ?_⟩; replace HO_6 := Aside0.mk (rB HO_6.out hb); have HO275 := Aside0.mk (Kd.S_lower (Kd.S_new' (Kd.S_new' (Kd.S_new' (Kd.S_new' ho0 (Kd.S_lt (S_l HO_21.out))) (Kd.R_lt (R_l HL266_0.out))) (Kd.R_lt (R_l HO269.out))) (Kd.R_lt (R_l HO272.out))) (below_size (by repeat (first | (with_reducible first | exact HB.out | apply below_alloc | apply pw_below_drewN | apply below_drew1 | exact Below.refl _ _) | exact HB.out)))); replace HO_21 := Aside0.mk (Kd.S_elder' (S_l HO_21.out) (Kd.S_base ho0) hb); replace HL266_0 := Aside0.mk (rB HL266_0.out hb); replace HO269 := Aside0.mk (rB HO269.out hb); replace HO272 := Aside0.mk (rB HO272.out hb); replace HR266_0 := Aside0.mk (Kd.C_below (by repeat (first | (with_reducible exact HR266_0.out) | (with_reducible refine Kd.C_alloc ?_ _) | (with_reducible refine Kd.C_drewN ?_ _) | (with_reducible refine Kd.C_drew ?_) | exact HR266_0.out)) hb); replace HB := Aside0.mk (below_step (by repeat (first | (with_reducible first | exact HB.out | apply below_alloc | apply pw_below_drewN | apply below_drew1 | exact Below.refl _ _) | exact HB.out)) hb); obtain ⟨Ao23, co23, eo23⟩ := Kd.S_slice HO275.out; subst eo23))
      go_loopg [10, 43] k1 (fun kq v10 v43 w' => ∃ (x10_2 : Int) (x43_2 : Int), v10 = .int .i64 x10_2 ∧ v43 = .int .i64 x43_2 ∧ Aside0 (impl_CoverOf.l1 kq a0 l1 x6_1 (rd_L2 t263 x23_1) (wrap64 (-((rd_L2 t263 x23_1).length : Int))) x10_2 t263 (t263.length : Int) x23_1 t273 (t273.length : Int) x43_2 = some (r1, r2)) ∧ Aside0 (kq ≤ k1) ∧ Aside0 (Kd.R k46 46 w' w.heap.size (fun _ => True) u6 x6_1) ∧ Aside0 (Kd.S (Kd.slice 3 (Kd.int .i64)) 30 w' w.heap.size (fun k_ => some k_ ≠ ((.slice Ao23 t273.length co23) : Value).ownBlock) (.slice (some ad266) t263.length co10) t263) ∧ Aside0 (Kd.S (Kd.slice 3 (Kd.int .i64)) 30 w' w.heap.size (fun k_ => some k_ ≠ ((.slice (some ad266) t263.length co10) : Value).ownBlock) (.slice Ao23 t273.length co23) t273) ∧ Aside0 (Kd.C (Kd.int .i64) w' A266_0 (rd_L2 t263 x23_1).length (rd_L2 t263 x23_1)) ∧ Aside0 (Below w.heap.size w w'))
      case atStart => exact ⟨(0), (0), rS, rS, H', ⟨Nat.le_refl _⟩, ⟨R_l HO_6.out⟩, ⟨S_l (Kd.S_mono HO_21.out (fun _ hk => hk.2))⟩, ⟨S_l (Kd.S_mono HO275.out (fun _ hk => hk.1.1.1.2))⟩, ⟨by repeat (first | (with_reducible exact HR266_0.out) | (with_reducible refine Kd.C_alloc ?_ _) | (with_reducible refine Kd.C_drewN ?_ _) | (with_reducible refine Kd.C_drew ?_) | exact HR266_0.out)⟩, ⟨by repeat (first | (with_reducible first | exact HB.out | apply below_alloc | apply pw_below_drewN | apply below_drew1 | exact Below.refl _ _) | exact HB.out)⟩⟩
      case round =>
       clear H'
       try clear c1
       try clear c2
       try clear p2
       try clear q2
       try clear hx2
       try clear c3
       try clear c4
       try clear c6
       try clear p6
       try clear c11
       try clear c11b0
       try clear c12
       try clear c12b0
       try clear c13
       try clear c13b0
       try clear c14
       try clear c14b0
       try clear c14b1
       try clear c23
       try clear hx266_0
       try clear p2
       try clear p266
       try clear q266
       obtain ⟨x10_2, x43_2, rfl, rfl, HA, HK2, HO_6, HO_21, HO_41, HR266_0, HB⟩ := hrel
       cases gk with
       | zero => exact absurd HA.out (by simp [impl_CoverOf.l1])
       | succ k2 =>
        have H := HA.out
        clear HA
        simp only [impl_CoverOf.l1] at H
        obtain ⟨c24b0, H⟩ | ⟨c24b0, H⟩ := gi H
        ·obtain ⟨c25b0, H⟩ := gdt H
         obtain ⟨c26b0, H⟩ := gdt H
         obtain ⟨c27, H⟩ := gd H
         have c27b0 : decide (0 < ((rd_L2 t273 x43_2).length : Int)) = true := decide_eq_true c27
         have c27b1 : decide (0 < (rd_L2 t273 x43_2).length) = true := decide_eq_true (by omega)
         clear c27
         obtain ⟨t278, A28, H⟩ := bs H
         by_cases c29 : t278 ≥ 0
         ·rw [if_pos c29] at H
          have c29b0 : decide (0 ≤ t278) = true := decide_eq_true c29
          clear c29
          have H' := Aside0.mk H
          clear H
          have p276 : 0 ≤ (x43_2 : Int) := dT
          have q276 : x43_2 < (t273.length : Int) := dT
          obtain ⟨ad276, A276_0, c276_0, e276, hx276_0, hl276_0, hi276_0⟩ := at_L2 (Kd.S_reads' HO_41.out).2.2 x43_2 p276 q276
          cases e276
          obtain ⟨ce276, hce276, hMe276, hcc276⟩ := Kd.S_get HO_41.out [] x43_2 p276 (by first | exact q276 | exact dT | (have e_ := (Kd.S_reads' HO_41.out).1; omega))
          obtain ⟨ve276_0, rfl, ge276_0⟩ := hMe276
          have hv276_0 := hcc276 0 _ rfl
          rw [Nat.add_zero, show ((Kd.slice 3 (Kd.int .i64))).sz = 1 from rfl, Nat.mul_one] at hv276_0
          replace hv276_0 := Option.some.inj (hv276_0.symm.trans hx276_0)
          rw [hv276_0] at ge276_0
          have HL276_0 := Aside0.mk (show Kd.R (Kd.int .i64) 3 _ _ _ _ (rd_L2 t273 x43_2) from ge276_0)
          clear hv276_0 ge276_0
          clear hcc276 hce276
          have HR276_0 := Aside0.mk hi276_0
          have HC276_0 := Aside0.mk hl276_0
          clear hi276_0 hl276_0
          replace p276 := eq_true p276
          replace q276 := eq_true q276
          have p277 : 0 ≤ (0 : Int) := (by omega)
          have q277 : 0 < ((rd_L2 t273 x43_2).length : Int) := dT
          obtain ⟨ad277, e277, hx277_0⟩ := Kd.at_int (by repeat (first | (with_reducible exact HR276_0.out) | (with_reducible refine Kd.C_alloc ?_ _) | (with_reducible refine Kd.C_drewN ?_ _) | (with_reducible refine Kd.C_drew ?_) | exact HR276_0.out)) 0 p277 q277
          cases e277
          have qi277 : (0 < (rd_L2 t273 x43_2).length) = True := eq_true (by omega)
          (try rw [show ((0 : Int)).toNat = 0 from rfl] at hx277_0)
          (try rw [Addr.add_zero'] at hx277_0)
          replace p277 := eq_true p277
          replace q277 := eq_true q277
          go_wp2_with (first | (refine gL 35 (some 51) Try.func35 #[.slice A266_0 (rd_L2 t263 x23_1).length c266_0, .int .i64 (rd (rd_L2 t273 x43_2) 0)] ?_; (with_reducible refine (impl_indexOf.calls k2 _ _ (rd_L2 t263 x23_1) (rd (rd_L2 t273 x43_2) 0) t278 _ ?side1 ?side2 A28.out).mono ?_); (case side1 => repeat (first | exact HR266_0.out | exact (Kd.C_below HR266_0.out HB.out) | (with_reducible refine Kd.C_alloc ?_ _) | (with_reducible refine Kd.C_drewN ?_ _) | (with_reducible refine Kd.C_drew ?_))); (case side2 => exact HC266_0.out); rintro e w' ⟨rfl, ⟨nd, rfl⟩⟩; refine ⟨_, rfl, ?_⟩))
          go_roundg k2
          case measure => exact oK
          case rel => exact ⟨(wrap64 (x10_2 + 1)), (wrap64 (x43_2 + 1)), rS, rS, H', ⟨oK⟩, ⟨R_l HO_6.out⟩, ⟨S_l HO_21.out⟩, ⟨S_l HO_41.out⟩, ⟨by repeat (first | (with_reducible exact HR266_0.out) | (with_reducible refine Kd.C_alloc ?_ _) | (with_reducible refine Kd.C_drewN ?_ _) | (with_reducible refine Kd.C_drew ?_) | exact HR266_0.out)⟩, ⟨by repeat (first | (with_reducible first | exact HB.out | apply below_alloc | apply pw_below_drewN | apply below_drew1 | exact Below.refl _ _) | exact HB.out)⟩⟩
         ·rw [if_neg c29] at H
          have c29b0 : decide (0 ≤ t278) = false := decide_eq_false c29
          clear c29
          have H' := Aside0.mk H
          clear H
          have p276 : 0 ≤ (x43_2 : Int) := dT
          have q276 : x43_2 < (t273.length : Int) := dT
          obtain ⟨ad276, A276_0, c276_0, e276, hx276_0, hl276_0, hi276_0⟩ := at_L2 (Kd.S_reads' HO_41.out).2.2 x43_2 p276 q276
          cases e276
          obtain ⟨ce276, hce276, hMe276, hcc276⟩ := Kd.S_get HO_41.out [] x43_2 p276 (by first | exact q276 | exact dT | (have e_ := (Kd.S_reads' HO_41.out).1; omega))
          obtain ⟨ve276_0, rfl, ge276_0⟩ := hMe276
          have hv276_0 := hcc276 0 _ rfl
          rw [Nat.add_zero, show ((Kd.slice 3 (Kd.int .i64))).sz = 1 from rfl, Nat.mul_one] at hv276_0
          replace hv276_0 := Option.some.inj (hv276_0.symm.trans hx276_0)
          rw [hv276_0] at ge276_0
          have HL276_0 := Aside0.mk (show Kd.R (Kd.int .i64) 3 _ _ _ _ (rd_L2 t273 x43_2) from ge276_0)
          clear hv276_0 ge276_0
          clear hcc276 hce276
          have HR276_0 := Aside0.mk hi276_0
          have HC276_0 := Aside0.mk hl276_0
          clear hi276_0 hl276_0
          replace p276 := eq_true p276
          replace q276 := eq_true q276
          have p277 : 0 ≤ (0 : Int) := (by omega)
          have q277 : 0 < ((rd_L2 t273 x43_2).length : Int) := dT
          obtain ⟨ad277, e277, hx277_0⟩ := Kd.at_int (by repeat (first | (with_reducible exact HR276_0.out) | (with_reducible refine Kd.C_alloc ?_ _) | (with_reducible refine Kd.C_drewN ?_ _) | (with_reducible refine Kd.C_drew ?_) | exact HR276_0.out)) 0 p277 q277
          cases e277
          have qi277 : (0 < (rd_L2 t273 x43_2).length) = True := eq_true (by omega)
          (try rw [show ((0 : Int)).toNat = 0 from rfl] at hx277_0)
          (try rw [Addr.add_zero'] at hx277_0)
          replace p277 := eq_true p277
          replace q277 := eq_true q277
          go_wp2_with (first | (refine gL 35 (some 51) Try.func35 #[.slice A266_0 (rd_L2 t263 x23_1).length c266_0, .int .i64 (rd (rd_L2 t273 x43_2) 0)] ?_; (with_reducible refine (impl_indexOf.calls k2 _ _ (rd_L2 t263 x23_1) (rd (rd_L2 t273 x43_2) 0) t278 _ ?side1 ?side2 A28.out).mono ?_); (case side1 => repeat (first | exact HR266_0.out | exact (Kd.C_below HR266_0.out HB.out) | (with_reducible refine Kd.C_alloc ?_ _) | (with_reducible refine Kd.C_drewN ?_ _) | (with_reducible refine Kd.C_drew ?_))); (case side2 => exact HC266_0.out); rintro e w' ⟨rfl, ⟨nd, rfl⟩⟩; refine ⟨_, rfl, ?_⟩))
          go_roundg k2
          case measure => exact oK
          case rel => exact ⟨(x10_2), (wrap64 (x43_2 + 1)), rS, rS, H', ⟨oK⟩, ⟨R_l HO_6.out⟩, ⟨S_l HO_21.out⟩, ⟨S_l HO_41.out⟩, ⟨by repeat (first | (with_reducible exact HR266_0.out) | (with_reducible refine Kd.C_alloc ?_ _) | (with_reducible refine Kd.C_drewN ?_ _) | (with_reducible refine Kd.C_drew ?_) | exact HR266_0.out)⟩, ⟨by repeat (first | (with_reducible first | exact HB.out | apply below_alloc | apply pw_below_drewN | apply below_drew1 | exact Below.refl _ _) | exact HB.out)⟩⟩
        ·obtain ⟨⟨t279, t280, t281, t282⟩, A30, H⟩ := bs H
         try dsimp only at H
         by_cases c31 : t282 = true
         ·subst c31
          rw [if_pos rfl] at H
          obtain ⟨LMc32, H⟩ := gda H
          generalize hy284 : (x6_1 ++ [(⟨t279, t280, t281⟩ : S46)] : List (S46)) = y284 at H
          have Ny284 := Aside0.mk hy284.symm; clear hy284
          have H' := Aside0.mk H
          clear H
          go_wp2_with (first | (refine gL 36 (some 59) Try.func36 #[.int .i64 (wrap64 (-((rd_L2 t263 x23_1).length : Int))), .int .i64 x10_2, .bool true] ?_; (with_reducible refine (impl_surfaceWith.calls (wrap64 (-((rd_L2 t263 x23_1).length : Int))) x10_2 true t279 t280 t281 true _ A30.out).mono ?_); rintro e w33 ⟨rfl, hb⟩; refine ⟨_, rfl, ?_⟩; replace HO_6 := Aside0.mk (rB HO_6.out hb); replace HO_21 := Aside0.mk (sB HO_21.out hb); replace HO_41 := Aside0.mk (sB HO_41.out hb); replace HR266_0 := Aside0.mk (Kd.C_below (by repeat (first | (with_reducible exact HR266_0.out) | (with_reducible refine Kd.C_alloc ?_ _) | (with_reducible refine Kd.C_drewN ?_ _) | (with_reducible refine Kd.C_drew ?_) | exact HR266_0.out)) hb); replace HB := Aside0.mk (below_step (by repeat (first | (with_reducible first | exact HB.out | apply below_alloc | apply pw_below_drewN | apply below_drew1 | exact Below.refl _ _) | exact HB.out)) hb)) | ((with_reducible refine gate_dst (N := 13) rfl ?_); refine box_event ?hg (N := 13) ?hd (cs := #[.int .i64 0, .int .i64 0, .int .i64 0]) (t := 46) ?hr ?_; (case hd => rfl); (case hg => rfl); (case hr => exact gS); intro gb283 hg w34 hbox hb; replace HO_6 := Aside0.mk (Kd.R_below (Kd.R_elderB (R_l HO_6.out) gb283 (Nat.le_of_eq hg.symm)) hb); replace HO_21 := Aside0.mk (sB HO_21.out hb); replace HO_41 := Aside0.mk (sB HO_41.out hb); replace HR266_0 := Aside0.mk (Kd.C_below (by repeat (first | (with_reducible exact HR266_0.out) | (with_reducible refine Kd.C_alloc ?_ _) | (with_reducible refine Kd.C_drewN ?_ _) | (with_reducible refine Kd.C_drew ?_) | exact HR266_0.out)) hb); have BK283 := Aside0.mk (hbox); have GW283 := Aside0.mk ((by rw [hg]; exact (below_size (by repeat (first | (with_reducible first | exact HB.out | apply below_alloc | apply pw_below_drewN | apply below_drew1 | exact Below.refl _ _) | exact HB.out))) : w.heap.size ≤ gb283)); have GE283 := Aside0.mk ((by rw [hg]; exact (below_size (by repeat (first | (with_reducible first | exact HB.out | apply below_alloc | apply pw_below_drewN | apply below_drew1 | exact Below.refl _ _) | exact HB.out))) : w.heap.size ≤ gb283)); replace HB := Aside0.mk (below_step (by repeat (first | (with_reducible first | exact HB.out | apply below_alloc | apply pw_below_drewN | apply below_drew1 | exact Below.refl _ _) | exact HB.out)) hb); clear hb hbox hg; have hcz35_0 : w34.cell? ⟨gb283, 0, none⟩ = some (.int .i64 0) := (blk_cell BK283.out 0).trans rfl; have hcz35_1 : w34.cell? ⟨gb283, 1, none⟩ = some (.int .i64 0) := (blk_cell BK283.out 1).trans rfl; have hcz35_2 : w34.cell? ⟨gb283, 2, none⟩ = some (.int .i64 0) := (blk_cell BK283.out 2).trans rfl; have hfz35_0 := blk_frozen BK283.out 0; have hfz35_1 := blk_frozen BK283.out 1; have hfz35_2 := blk_frozen BK283.out 2) | ((with_reducible refine gate_builtin (b := .append) (xs := #[.tmp 64, .tmp 66]) rfl ?_); at_builtin; refine Kd.R_append k46 (w0 := w) w.heap.size rfl (.tmp 64) (.tmp 66) 27 46 (.agg #[(.int .i64 0), (.int .i64 0), (.int .i64 0)]) 24 rfl Try.underlying27 info46 rfl (by decide) (by omega) u6 x6_1 (⟨t279, t280, t281⟩ : S46) [.int .i64 t279, .int .i64 t280, .int .i64 t281] (fun k_ => k_ ≠ gb283) (fun _ => False) rfl (by first | (go_simp; done) | (go_simp; rfl)) ?aP (fun _ hk => hk.elim) ?aF ?aO ?aB ?aS ?aL ?_; (case aP => exact k46_mkM _ _ _ (⟨t279, t280, t281⟩ : S46)); (case aB => exact (tG1 GE283.out)); (case aF => exact (fun k_ hk => Kd.freshB (g := gb283) (o := .cells #[.int .i64 t279, .int .i64 t280, .int .i64 t281] 46 (0, 0)) (by (with_reducible repeat (first | refine blk_drewN ?_ _ | refine blk_drew ?_ | refine blk_alloc ?_ _)); refine blk_put (cs := #[.int .i64 t279, .int .i64 t280, .int .i64 0]) ?_ 2 _ rfl; (with_reducible repeat (first | refine blk_drewN ?_ _ | refine blk_drew ?_ | refine blk_alloc ?_ _)); refine blk_put (cs := #[.int .i64 t279, .int .i64 0, .int .i64 0]) ?_ 1 _ rfl; (with_reducible repeat (first | refine blk_drewN ?_ _ | refine blk_drew ?_ | refine blk_alloc ?_ _)); refine blk_put (cs := #[.int .i64 0, .int .i64 0, .int .i64 0]) ?_ 0 _ rfl; (with_reducible repeat (first | refine blk_drewN ?_ _ | refine blk_drew ?_ | refine blk_alloc ?_ _)); exact BK283.out) k_ hk)); (case aO => exact (R_l (Kd.R_mono (Kd.R_far (p := ⟨gb283, 2, none⟩) (Kd.R_far (p := ⟨gb283, 1, none⟩) (Kd.R_far (p := ⟨gb283, 0, none⟩) (Kd.R_mono HO_6.out (fun k_ hk => (⟨hk, hk.2⟩ : _ ∧ k_ ≠ gb283))) (fun _ hk => hk.2) (.int .i64 t279)) (fun _ hk => hk.2) (.int .i64 t280)) (fun _ hk => hk.2) (.int .i64 t281)) (fun _ hk => hk.1.2)))); (case aS => exact (below_size (tG1 GE283.out))); (case aL => have := LMc32.out; omega); intro v285 w36 ho hb hg hat; rw [← Ny284.out] at ho; replace HO_21 := Aside0.mk (Kd.S_over' (S_l (Kd.S_mono (Kd.S_far (p := ⟨gb283, 2, none⟩) (Kd.S_far (p := ⟨gb283, 1, none⟩) (Kd.S_far (p := ⟨gb283, 0, none⟩) (Kd.S_types HO_21.out BK283.out (by decide)) (fun _ hk => hk.2) (.int .i64 t279)) (fun _ hk => hk.2) (.int .i64 t280)) (fun _ hk => hk.2) (.int .i64 t281)) (fun _ h_ => h_.1))) (Kd.R_typed (R_l (Kd.R_mono (Kd.R_far (p := ⟨gb283, 2, none⟩) (Kd.R_far (p := ⟨gb283, 1, none⟩) (Kd.R_far (p := ⟨gb283, 0, none⟩) (Kd.R_mono HO_6.out (fun k_ hk => (⟨hk, hk.2⟩ : _ ∧ k_ ≠ gb283))) (fun _ hk => hk.2) (.int .i64 t279)) (fun _ hk => hk.2) (.int .i64 t280)) (fun _ hk => hk.2) (.int .i64 t281)) (fun _ h_ => h_.1)))) (by decide) hg); replace HO_41 := Aside0.mk (Kd.S_over' (S_l (Kd.S_mono (Kd.S_far (p := ⟨gb283, 2, none⟩) (Kd.S_far (p := ⟨gb283, 1, none⟩) (Kd.S_far (p := ⟨gb283, 0, none⟩) (Kd.S_types HO_41.out BK283.out (by decide)) (fun _ hk => hk.2) (.int .i64 t279)) (fun _ hk => hk.2) (.int .i64 t280)) (fun _ hk => hk.2) (.int .i64 t281)) (fun _ h_ => h_.1))) (Kd.R_typed (R_l (Kd.R_mono (Kd.R_far (p := ⟨gb283, 2, none⟩) (Kd.R_far (p := ⟨gb283, 1, none⟩) (Kd.R_far (p := ⟨gb283, 0, none⟩) (Kd.R_mono HO_6.out (fun k_ hk => (⟨hk, hk.2⟩ : _ ∧ k_ ≠ gb283))) (fun _ hk => hk.2) (.int .i64 t279)) (fun _ hk => hk.2) (.int .i64 t280)) (fun _ hk => hk.2) (.int .i64 t281)) (fun _ h_ => h_.1)))) (by decide) hg); replace BK283 := Aside0.mk (blk_grown (g := gb283) (o := .cells #[.int .i64 t279, .int .i64 t280, .int .i64 t281] 46 (0, 0)) (by (with_reducible repeat (first | refine blk_drewN ?_ _ | refine blk_drew ?_ | refine blk_alloc ?_ _)); refine blk_put (cs := #[.int .i64 t279, .int .i64 t280, .int .i64 0]) ?_ 2 _ rfl; (with_reducible repeat (first | refine blk_drewN ?_ _ | refine blk_drew ?_ | refine blk_alloc ?_ _)); refine blk_put (cs := #[.int .i64 t279, .int .i64 0, .int .i64 0]) ?_ 1 _ rfl; (with_reducible repeat (first | refine blk_drewN ?_ _ | refine blk_drew ?_ | refine blk_alloc ?_ _)); refine blk_put (cs := #[.int .i64 0, .int .i64 0, .int .i64 0]) ?_ 0 _ rfl; (with_reducible repeat (first | refine blk_drewN ?_ _ | refine blk_drew ?_ | refine blk_alloc ?_ _)); exact BK283.out) hg (Kd.R_away HO_6.out (fun _ hk => hk.2))); replace HB := Aside0.mk (hb); have HO286 := Aside0.mk (ho); clear HO_6; clear ho hb hg hat))
          go_roundg k2
          case measure => exact oK
          case rel => exact ⟨(y284), (wrap64 (x23_1 + 1)), rS, H', ⟨oK⟩, ⟨R_l (Kd.R_mono HO286.out (fun _ hk => trivial))⟩, ⟨S_l (Kd.S_mono HO_21.out (fun _ hk => trivial))⟩, ⟨tG1 GE283.out⟩⟩
         ·replace c31 := Bool.eq_false_iff.mpr c31
          subst c31
          rw [if_neg (show ¬ (false = true) by decide)] at H
          simp only [Option.some.injEq, Prod.mk.injEq] at H
          obtain ⟨rfl, rfl⟩ := H
          go_wp2_with (first | (refine gL 36 (some 59) Try.func36 #[.int .i64 (wrap64 (-((rd_L2 t263 x23_1).length : Int))), .int .i64 x10_2, .bool true] ?_; (with_reducible refine (impl_surfaceWith.calls (wrap64 (-((rd_L2 t263 x23_1).length : Int))) x10_2 true t279 t280 t281 false _ A30.out).mono ?_); rintro e w37 ⟨rfl, hb⟩; refine ⟨_, rfl, ?_⟩; replace HO_6 := Aside0.mk (rB HO_6.out hb); replace HO_21 := Aside0.mk (sB HO_21.out hb); replace HO_41 := Aside0.mk (sB HO_41.out hb); replace HR266_0 := Aside0.mk (Kd.C_below (by repeat (first | (with_reducible exact HR266_0.out) | (with_reducible refine Kd.C_alloc ?_ _) | (with_reducible refine Kd.C_drewN ?_ _) | (with_reducible refine Kd.C_drew ?_) | exact HR266_0.out)) hb); replace HB := Aside0.mk (below_step (by repeat (first | (with_reducible first | exact HB.out | apply below_alloc | apply pw_below_drewN | apply below_drew1 | exact Below.refl _ _) | exact HB.out)) hb)) | ((with_reducible refine gate_dst (N := 13) rfl ?_); refine box_event ?hg (N := 13) ?hd (cs := #[.int .i64 0, .int .i64 0, .int .i64 0]) (t := 46) ?hr ?_; (case hd => rfl); (case hg => rfl); (case hr => exact gS); intro gb283 hg w38 hbox hb; replace HO_6 := Aside0.mk (Kd.R_below (Kd.R_elderB (R_l HO_6.out) gb283 (Nat.le_of_eq hg.symm)) hb); replace HO_21 := Aside0.mk (sB HO_21.out hb); replace HO_41 := Aside0.mk (sB HO_41.out hb); replace HR266_0 := Aside0.mk (Kd.C_below (by repeat (first | (with_reducible exact HR266_0.out) | (with_reducible refine Kd.C_alloc ?_ _) | (with_reducible refine Kd.C_drewN ?_ _) | (with_reducible refine Kd.C_drew ?_) | exact HR266_0.out)) hb); have BK283 := Aside0.mk (hbox); have GW283 := Aside0.mk ((by rw [hg]; exact (below_size (by repeat (first | (with_reducible first | exact HB.out | apply below_alloc | apply pw_below_drewN | apply below_drew1 | exact Below.refl _ _) | exact HB.out))) : w.heap.size ≤ gb283)); have GE283 := Aside0.mk ((by rw [hg]; exact (below_size (by repeat (first | (with_reducible first | exact HB.out | apply below_alloc | apply pw_below_drewN | apply below_drew1 | exact Below.refl _ _) | exact HB.out))) : w.heap.size ≤ gb283)); replace HB := Aside0.mk (below_step (by repeat (first | (with_reducible first | exact HB.out | apply below_alloc | apply pw_below_drewN | apply below_drew1 | exact Below.refl _ _) | exact HB.out)) hb); clear hb hbox hg; have hcz39_0 : w38.cell? ⟨gb283, 0, none⟩ = some (.int .i64 0) := (blk_cell BK283.out 0).trans rfl; have hcz39_1 : w38.cell? ⟨gb283, 1, none⟩ = some (.int .i64 0) := (blk_cell BK283.out 1).trans rfl; have hcz39_2 : w38.cell? ⟨gb283, 2, none⟩ = some (.int .i64 0) := (blk_cell BK283.out 2).trans rfl; have hfz39_0 := blk_frozen BK283.out 0; have hfz39_1 := blk_frozen BK283.out 1; have hfz39_2 := blk_frozen BK283.out 2))
          go_ret2
          exact ⟨_, rE, by first | exact Kd.R_nil _ _ _ _ _ | exact Kd.N_nil _ _ _ _ _ | exact Kd.V_nil _ _ _ _ _ | exact Kd.Q_nil _ _ _ _ _ | exact Kd.S_nil _ _ _ _ _, tG1 GE283.out⟩
     ·rw [if_neg c14] at H
      have c14b0 : (a0 == 0) = false := beq_eq_false_iff_ne.mpr c14
      have c14b1 : (a0 != 0) = true := bne_iff_ne.mpr c14
      obtain ⟨⟨t287, t288, t289, t290⟩, A40, H⟩ := bs H
      try dsimp only at H
      by_cases c41 : t290 = true
      ·subst c41
       rw [if_pos rfl] at H
       obtain ⟨LMc42, H⟩ := gda H
       generalize hy292 : (x6_1 ++ [(⟨t287, t288, t289⟩ : S46)] : List (S46)) = y292 at H
       have Ny292 := Aside0.mk hy292.symm; clear hy292
       have H' := Aside0.mk H
       clear H
       have p266 : 0 ≤ (x23_1 : Int) := dT
       have q266 : x23_1 < (t263.length : Int) := dT
       obtain ⟨ad266, A266_0, c266_0, e266, hx266_0, hl266_0, hi266_0⟩ := at_L2 (Kd.S_reads' HO_21.out).2.2 x23_1 p266 q266
       cases e266
       obtain ⟨ce266, hce266, hMe266, hcc266⟩ := Kd.S_get HO_21.out [] x23_1 p266 (by first | exact q266 | exact dT | (have e_ := (Kd.S_reads' HO_21.out).1; omega))
       obtain ⟨ve266_0, rfl, ge266_0⟩ := hMe266
       have hv266_0 := hcc266 0 _ rfl
       rw [Nat.add_zero, show ((Kd.slice 3 (Kd.int .i64))).sz = 1 from rfl, Nat.mul_one] at hv266_0
       replace hv266_0 := Option.some.inj (hv266_0.symm.trans hx266_0)
       rw [hv266_0] at ge266_0
       have HL266_0 := Aside0.mk (show Kd.R (Kd.int .i64) 3 _ _ _ _ (rd_L2 t263 x23_1) from ge266_0)
       clear hv266_0 ge266_0
       clear hcc266 hce266
       have HR266_0 := Aside0.mk hi266_0
       have HC266_0 := Aside0.mk hl266_0
       clear hi266_0 hl266_0
       replace p266 := eq_true p266
       replace q266 := eq_true q266
       go_wp2_with (first | (refine gL 36 (some 59) Try.func36 #[.int .i64 (wrap64 (((rd_L2 t263 x23_1).length : Int) * (wrap64 (2 - (wrap64 (2 * a0)))))), .int .i64 0, .bool true] ?_; (with_reducible refine (impl_surfaceWith.calls (wrap64 (((rd_L2 t263 x23_1).length : Int) * (wrap64 (2 - (wrap64 (2 * a0)))))) 0 true t287 t288 t289 true _ A40.out).mono ?_); rintro e w43 ⟨rfl, hb⟩; refine ⟨_, rfl, ?_⟩; replace HO_6 := Aside0.mk (rB HO_6.out hb); replace HO_21 := Aside0.mk (sB HO_21.out hb); replace HL266_0 := Aside0.mk (rB HL266_0.out hb); replace HR266_0 := Aside0.mk (Kd.C_below (by repeat (first | (with_reducible exact HR266_0.out) | (with_reducible refine Kd.C_alloc ?_ _) | (with_reducible refine Kd.C_drewN ?_ _) | (with_reducible refine Kd.C_drew ?_) | exact HR266_0.out)) hb); replace HB := Aside0.mk (below_step (by repeat (first | (with_reducible first | exact HB.out | apply below_alloc | apply pw_below_drewN | apply below_drew1 | exact Below.refl _ _) | exact HB.out)) hb)) | ((with_reducible refine gate_dst (N := 13) rfl ?_); refine box_event ?hg (N := 13) ?hd (cs := #[.int .i64 0, .int .i64 0, .int .i64 0]) (t := 46) ?hr ?_; (case hd => rfl); (case hg => rfl); (case hr => exact gS); intro gb291 hg w44 hbox hb; replace HO_6 := Aside0.mk (Kd.R_below (Kd.R_elderB (R_l HO_6.out) gb291 (Nat.le_of_eq hg.symm)) hb); replace HO_21 := Aside0.mk (sB HO_21.out hb); replace HL266_0 := Aside0.mk (rB HL266_0.out hb); replace HR266_0 := Aside0.mk (Kd.C_below (by repeat (first | (with_reducible exact HR266_0.out) | (with_reducible refine Kd.C_alloc ?_ _) | (with_reducible refine Kd.C_drewN ?_ _) | (with_reducible refine Kd.C_drew ?_) | exact HR266_0.out)) hb); have BK291 := Aside0.mk (hbox); have GW291 := Aside0.mk ((by rw [hg]; exact (below_size (by repeat (first | (with_reducible first | exact HB.out | apply below_alloc | apply pw_below_drewN | apply below_drew1 | exact Below.refl _ _) | exact HB.out))) : w.heap.size ≤ gb291)); have GE291 := Aside0.mk ((by rw [hg]; exact (below_size (by repeat (first | (with_reducible first | exact HB.out | apply below_alloc | apply pw_below_drewN | apply below_drew1 | exact Below.refl _ _) | exact HB.out))) : w.heap.size ≤ gb291)); replace HB := Aside0.mk (below_step (by repeat (first | (with_reducible first | exact HB.out | apply below_alloc | apply pw_below_drewN | apply below_drew1 | exact Below.refl _ _) | exact HB.out)) hb); clear hb hbox hg; have hcz45_0 : w44.cell? ⟨gb291, 0, none⟩ = some (.int .i64 0) := (blk_cell BK291.out 0).trans rfl; have hcz45_1 : w44.cell? ⟨gb291, 1, none⟩ = some (.int .i64 0) := (blk_cell BK291.out 1).trans rfl; have hcz45_2 : w44.cell? ⟨gb291, 2, none⟩ = some (.int .i64 0) := (blk_cell BK291.out 2).trans rfl; have hfz45_0 := blk_frozen BK291.out 0; have hfz45_1 := blk_frozen BK291.out 1; have hfz45_2 := blk_frozen BK291.out 2) | ((with_reducible refine gate_builtin (b := .append) (xs := #[.tmp 64, .tmp 66]) rfl ?_); at_builtin; refine Kd.R_append k46 (w0 := w) w.heap.size rfl (.tmp 64) (.tmp 66) 27 46 (.agg #[(.int .i64 0), (.int .i64 0), (.int .i64 0)]) 24 rfl Try.underlying27 info46 rfl (by decide) (by omega) u6 x6_1 (⟨t287, t288, t289⟩ : S46) [.int .i64 t287, .int .i64 t288, .int .i64 t289] (fun k_ => k_ ≠ gb291) (fun _ => False) rfl (by first | (go_simp; done) | (go_simp; rfl)) ?aP (fun _ hk => hk.elim) ?aF ?aO ?aB ?aS ?aL ?_; (case aP => exact k46_mkM _ _ _ (⟨t287, t288, t289⟩ : S46)); (case aB => exact (tG1 GE291.out)); (case aF => exact (fun k_ hk => Kd.freshB (g := gb291) (o := .cells #[.int .i64 t287, .int .i64 t288, .int .i64 t289] 46 (0, 0)) (by (with_reducible repeat (first | refine blk_drewN ?_ _ | refine blk_drew ?_ | refine blk_alloc ?_ _)); refine blk_put (cs := #[.int .i64 t287, .int .i64 t288, .int .i64 0]) ?_ 2 _ rfl; (with_reducible repeat (first | refine blk_drewN ?_ _ | refine blk_drew ?_ | refine blk_alloc ?_ _)); refine blk_put (cs := #[.int .i64 t287, .int .i64 0, .int .i64 0]) ?_ 1 _ rfl; (with_reducible repeat (first | refine blk_drewN ?_ _ | refine blk_drew ?_ | refine blk_alloc ?_ _)); refine blk_put (cs := #[.int .i64 0, .int .i64 0, .int .i64 0]) ?_ 0 _ rfl; (with_reducible repeat (first | refine blk_drewN ?_ _ | refine blk_drew ?_ | refine blk_alloc ?_ _)); exact BK291.out) k_ hk)); (case aO => exact (R_l (Kd.R_mono (Kd.R_far (p := ⟨gb291, 2, none⟩) (Kd.R_far (p := ⟨gb291, 1, none⟩) (Kd.R_far (p := ⟨gb291, 0, none⟩) (Kd.R_mono HO_6.out (fun k_ hk => (⟨hk, hk.2⟩ : _ ∧ k_ ≠ gb291))) (fun _ hk => hk.2) (.int .i64 t287)) (fun _ hk => hk.2) (.int .i64 t288)) (fun _ hk => hk.2) (.int .i64 t289)) (fun _ hk => hk.1.2)))); (case aS => exact (below_size (tG1 GE291.out))); (case aL => have := LMc42.out; omega); intro v293 w46 ho hb hg hat; rw [← Ny292.out] at ho; replace HO_21 := Aside0.mk (Kd.S_over' (S_l (Kd.S_mono (Kd.S_far (p := ⟨gb291, 2, none⟩) (Kd.S_far (p := ⟨gb291, 1, none⟩) (Kd.S_far (p := ⟨gb291, 0, none⟩) (Kd.S_types HO_21.out BK291.out (by decide)) (fun _ hk => hk.2) (.int .i64 t287)) (fun _ hk => hk.2) (.int .i64 t288)) (fun _ hk => hk.2) (.int .i64 t289)) (fun _ h_ => h_.1))) (Kd.R_typed (R_l (Kd.R_mono (Kd.R_far (p := ⟨gb291, 2, none⟩) (Kd.R_far (p := ⟨gb291, 1, none⟩) (Kd.R_far (p := ⟨gb291, 0, none⟩) (Kd.R_mono HO_6.out (fun k_ hk => (⟨hk, hk.2⟩ : _ ∧ k_ ≠ gb291))) (fun _ hk => hk.2) (.int .i64 t287)) (fun _ hk => hk.2) (.int .i64 t288)) (fun _ hk => hk.2) (.int .i64 t289)) (fun _ h_ => h_.1)))) (by decide) hg); replace HL266_0 := Aside0.mk (Kd.R_over' (R_l (Kd.R_mono (Kd.R_far (p := ⟨gb291, 2, none⟩) (Kd.R_far (p := ⟨gb291, 1, none⟩) (Kd.R_far (p := ⟨gb291, 0, none⟩) (Kd.R_types HL266_0.out BK291.out (by decide)) (fun _ hk => hk.2) (.int .i64 t287)) (fun _ hk => hk.2) (.int .i64 t288)) (fun _ hk => hk.2) (.int .i64 t289)) (fun _ h_ => h_.1))) (Kd.R_typed (R_l (Kd.R_mono (Kd.R_far (p := ⟨gb291, 2, none⟩) (Kd.R_far (p := ⟨gb291, 1, none⟩) (Kd.R_far (p := ⟨gb291, 0, none⟩) (Kd.R_mono HO_6.out (fun k_ hk => (⟨hk, hk.2⟩ : _ ∧ k_ ≠ gb291))) (fun _ hk => hk.2) (.int .i64 t287)) (fun _ hk => hk.2) (.int .i64 t288)) (fun _ hk => hk.2) (.int .i64 t289)) (fun _ h_ => h_.1)))) (by decide) hg); replace BK291 := Aside0.mk (blk_grown (g := gb291) (o := .cells #[.int .i64 t287, .int .i64 t288, .int .i64 t289] 46 (0, 0)) (by (with_reducible repeat (first | refine blk_drewN ?_ _ | refine blk_drew ?_ | refine blk_alloc ?_ _)); refine blk_put (cs := #[.int .i64 t287, .int .i64 t288, .int .i64 0]) ?_ 2 _ rfl; (with_reducible repeat (first | refine blk_drewN ?_ _ | refine blk_drew ?_ | refine blk_alloc ?_ _)); refine blk_put (cs := #[.int .i64 t287, .int .i64 0, .int .i64 0]) ?_ 1 _ rfl; (with_reducible repeat (first | refine blk_drewN ?_ _ | refine blk_drew ?_ | refine blk_alloc ?_ _)); refine blk_put (cs := #[.int .i64 0, .int .i64 0, .int .i64 0]) ?_ 0 _ rfl; (with_reducible repeat (first | refine blk_drewN ?_ _ | refine blk_drew ?_ | refine blk_alloc ?_ _)); exact BK291.out) hg (Kd.R_away HO_6.out (fun _ hk => hk.2))); replace HB := Aside0.mk (hb); have HO294 := Aside0.mk (ho); clear HO_6; clear ho hb hg hat))
       go_roundg k1
       case measure => exact oK
       case rel => exact ⟨(y292), (wrap64 (x23_1 + 1)), rS, H', ⟨oK⟩, ⟨R_l (Kd.R_mono HO294.out (fun _ hk => trivial))⟩, ⟨S_l HO_21.out⟩, ⟨tG1 GE291.out⟩⟩
      ·replace c41 := Bool.eq_false_iff.mpr c41
       subst c41
       rw [if_neg (show ¬ (false = true) by decide)] at H
       simp only [Option.some.injEq, Prod.mk.injEq] at H
       obtain ⟨rfl, rfl⟩ := H
       have p266 : 0 ≤ (x23_1 : Int) := dT
       have q266 : x23_1 < (t263.length : Int) := dT
       obtain ⟨ad266, A266_0, c266_0, e266, hx266_0, hl266_0, hi266_0⟩ := at_L2 (Kd.S_reads' HO_21.out).2.2 x23_1 p266 q266
       cases e266
       obtain ⟨ce266, hce266, hMe266, hcc266⟩ := Kd.S_get HO_21.out [] x23_1 p266 (by first | exact q266 | exact dT | (have e_ := (Kd.S_reads' HO_21.out).1; omega))
       obtain ⟨ve266_0, rfl, ge266_0⟩ := hMe266
       have hv266_0 := hcc266 0 _ rfl
       rw [Nat.add_zero, show ((Kd.slice 3 (Kd.int .i64))).sz = 1 from rfl, Nat.mul_one] at hv266_0
       replace hv266_0 := Option.some.inj (hv266_0.symm.trans hx266_0)
       rw [hv266_0] at ge266_0
       have HL266_0 := Aside0.mk (show Kd.R (Kd.int .i64) 3 _ _ _ _ (rd_L2 t263 x23_1) from ge266_0)
       clear hv266_0 ge266_0
       clear hcc266 hce266
       have HR266_0 := Aside0.mk hi266_0
       have HC266_0 := Aside0.mk hl266_0
       clear hi266_0 hl266_0
       replace p266 := eq_true p266
       replace q266 := eq_true q266
       go_wp2_with (first | (refine gL 36 (some 59) Try.func36 #[.int .i64 (wrap64 (((rd_L2 t263 x23_1).length : Int) * (wrap64 (2 - (wrap64 (2 * a0)))))), .int .i64 0, .bool true] ?_; (with_reducible refine (impl_surfaceWith.calls (wrap64 (((rd_L2 t263 x23_1).length : Int) * (wrap64 (2 - (wrap64 (2 * a0)))))) 0 true t287 t288 t289 false _ A40.out).mono ?_); rintro e w47 ⟨rfl, hb⟩; refine ⟨_, rfl, ?_⟩; replace HO_6 := Aside0.mk (rB HO_6.out hb); replace HO_21 := Aside0.mk (sB HO_21.out hb); replace HL266_0 := Aside0.mk (rB HL266_0.out hb); replace HR266_0 := Aside0.mk (Kd.C_below (by repeat (first | (with_reducible exact HR266_0.out) | (with_reducible refine Kd.C_alloc ?_ _) | (with_reducible refine Kd.C_drewN ?_ _) | (with_reducible refine Kd.C_drew ?_) | exact HR266_0.out)) hb); replace HB := Aside0.mk (below_step (by repeat (first | (with_reducible first | exact HB.out | apply below_alloc | apply pw_below_drewN | apply below_drew1 | exact Below.refl _ _) | exact HB.out)) hb)) | ((with_reducible refine gate_dst (N := 13) rfl ?_); refine box_event ?hg (N := 13) ?hd (cs := #[.int .i64 0, .int .i64 0, .int .i64 0]) (t := 46) ?hr ?_; (case hd => rfl); (case hg => rfl); (case hr => exact gS); intro gb291 hg w48 hbox hb; replace HO_6 := Aside0.mk (Kd.R_below (Kd.R_elderB (R_l HO_6.out) gb291 (Nat.le_of_eq hg.symm)) hb); replace HO_21 := Aside0.mk (sB HO_21.out hb); replace HL266_0 := Aside0.mk (rB HL266_0.out hb); replace HR266_0 := Aside0.mk (Kd.C_below (by repeat (first | (with_reducible exact HR266_0.out) | (with_reducible refine Kd.C_alloc ?_ _) | (with_reducible refine Kd.C_drewN ?_ _) | (with_reducible refine Kd.C_drew ?_) | exact HR266_0.out)) hb); have BK291 := Aside0.mk (hbox); have GW291 := Aside0.mk ((by rw [hg]; exact (below_size (by repeat (first | (with_reducible first | exact HB.out | apply below_alloc | apply pw_below_drewN | apply below_drew1 | exact Below.refl _ _) | exact HB.out))) : w.heap.size ≤ gb291)); have GE291 := Aside0.mk ((by rw [hg]; exact (below_size (by repeat (first | (with_reducible first | exact HB.out | apply below_alloc | apply pw_below_drewN | apply below_drew1 | exact Below.refl _ _) | exact HB.out))) : w.heap.size ≤ gb291)); replace HB := Aside0.mk (below_step (by repeat (first | (with_reducible first | exact HB.out | apply below_alloc | apply pw_below_drewN | apply below_drew1 | exact Below.refl _ _) | exact HB.out)) hb); clear hb hbox hg; have hcz49_0 : w48.cell? ⟨gb291, 0, none⟩ = some (.int .i64 0) := (blk_cell BK291.out 0).trans rfl; have hcz49_1 : w48.cell? ⟨gb291, 1, none⟩ = some (.int .i64 0) := (blk_cell BK291.out 1).trans rfl; have hcz49_2 : w48.cell? ⟨gb291, 2, none⟩ = some (.int .i64 0) := (blk_cell BK291.out 2).trans rfl; have hfz49_0 := blk_frozen BK291.out 0; have hfz49_1 := blk_frozen BK291.out 1; have hfz49_2 := blk_frozen BK291.out 2))
       go_ret2
       exact ⟨_, rE, by first | exact Kd.R_nil _ _ _ _ _ | exact Kd.N_nil _ _ _ _ _ | exact Kd.V_nil _ _ _ _ _ | exact Kd.Q_nil _ _ _ _ _ | exact Kd.S_nil _ _ _ _ _, tG1 GE291.out⟩
    ·simp only [Option.some.injEq, Prod.mk.injEq] at H
     obtain ⟨rfl, rfl⟩ := H
     go_wp2
     go_ret2
     exact ⟨_, rE, R_l HO_6.out, by repeat (first | (with_reducible first | exact HB.out | apply below_alloc | apply pw_below_drewN | apply below_drew1 | exact Below.refl _ _) | exact HB.out)⟩
 ·replace c4 := Bool.eq_false_iff.mpr c4
  subst c4
  rw [if_neg (show ¬ (false = true) by decide)] at H
  simp only [Option.some.injEq, Prod.mk.injEq] at H
  obtain ⟨rfl, rfl⟩ := H
  go_enter Try.func6, Try.ntmps6
  go_wp2_with (first | (refine gL 23 (some 17) Try.func23 #[.int .i64 a0, .slice A1 l1.length c1] ?_; (with_reducible refine (impl_IsAction.calls k a0 _ _ l1 false _ ?side1 ?side2 A3.out).mono ?_); (case side1 => exact C_l HR1.out); (case side2 => exact HC1.out); rintro e w50 ⟨rfl, hb⟩; refine ⟨_, rfl, ?_⟩; replace HB := Aside0.mk (below_step (by repeat (first | (with_reducible first | exact HB.out | apply below_alloc | apply pw_below_drewN | apply below_drew1 | exact Below.refl _ _) | exact HB.out)) hb)))
  go_ret2
  exact ⟨_, rE, by first | exact Kd.R_nil _ _ _ _ _ | exact Kd.N_nil _ _ _ _ _ | exact Kd.V_nil _ _ _ _ _ | exact Kd.Q_nil _ _ _ _ _ | exact Kd.S_nil _ _ _ _ _, by repeat (first | (with_reducible first | exact HB.out | apply below_alloc | apply pw_below_drewN | apply below_drew1 | exact Below.refl _ _) | exact HB.out)⟩

/-! ### spec_l1In: function 55 -/
def spec_l1In.f (a0 : Int) (a1 : Int) (a2 : Int) : Option (Bool) := if a0 ≥ a1 then (some (decide (a0 ≤ a2))) else (some false)
set_option maxHeartbeats 8000000 in
set_option maxRecDepth 100000 in
theorem spec_l1In.calls (a0 : Int) (a1 : Int) (a2 : Int) (r : Bool) (w : World) (h : spec_l1In.f a0 a1 a2 = some r) :
  Calls Try.prog 55 #[.int .i64 a0, .int .i64 a1, .int .i64 a2] w fun e w' => e = .returned (.bool r) ∧ Drawn0 w w' := by
 have H : (if a0 ≥ a1 then (some (decide (a0 ≤ a2))) else (some false)) = some r := h
 clear h
 by_cases c4 : a0 ≥ a1
 ·rw [if_pos c4] at H
  have c4b0 : decide (a1 ≤ a0) = true := decide_eq_true c4
  clear c4
  obtain rfl := Option.some.inj H
  go_enter Try.func55, Try.ntmps55
  go_wp2
  go_ret
  exact ⟨rS, tD⟩
 ·rw [if_neg c4] at H
  have c4b0 : decide (a1 ≤ a0) = false := decide_eq_false c4
  clear c4
  obtain rfl := Option.some.inj H
  go_enter Try.func55, Try.ntmps55
  go_wp2
  go_ret
  exact ⟨rS, tD⟩

/-! ### spec_l6Perm: function 85 -/
def spec_l6Perm.l0 : Nat → List Int → List Bool → Int → Option (Bool)
 | 0, _, _, _ => none
 | k + 1, x0, x3, x4 => if x4 < (x0.length : Int) then (if 0 ≤ x4 then ((spec_l1In.f (rd x0 x4) 0 (wrap64 ((x0.length : Int) - 1))).bind fun t299 => (if t299 = true then (if 0 ≤ (rd x0 x4) then (if (rd x0 x4) < (x3.length : Int) then (if rdOf false x3 (rd x0 x4) = true then (some false) else (spec_l6Perm.l0 k x0 (x3.set ((rd x0 x4) : Int).toNat true) (wrap64 (x4 + 1)))) else (none)) else (none)) else (some false))) else (none)) else (some true)
def spec_l6Perm.f (k : Nat) (l0 : List Int) : Option (Bool) := if 0 ≤ (l0.length : Int) then (if ((l0.length : Int) : Int).toNat ≤ 281474976710656 then (spec_l6Perm.l0 k l0 (List.replicate ((l0.length : Int) : Int).toNat false) 0) else (none)) else (none)
set_option maxHeartbeats 8000000 in
set_option maxRecDepth 100000 in
theorem spec_l6Perm.calls (k : Nat) (A0 : Option Addr) (c0 : Nat) (l0 : List Int) (r : Bool) (w : World) (hr0 : Kd.C (Kd.int .i64) w A0 l0.length l0) (hc0 : l0.length ≤ c0) (h : spec_l6Perm.f k l0 = some r) :
  Calls Try.prog 85 #[.slice A0 l0.length c0] w fun e w' => e = .returned (.bool r) ∧ Below w.heap.size w w' := by
 have HR0 := Aside0.mk hr0
 have HC0 := Aside0.mk hc0
 clear hr0 hc0
 have HB := Aside0.mk (Below.refl w.heap.size w)
 have H : (if 0 ≤ (l0.length : Int) then (if ((l0.length : Int) : Int).toNat ≤ 281474976710656 then (spec_l6Perm.l0 k l0 (List.replicate ((l0.length : Int) : Int).toNat false) 0) else (none)) else (none)) = some r := h
 clear h
 by_cases c2 : 0 ≤ (l0.length : Int)
 ·rw [if_pos c2] at H
  have c2b0 := eq_true c2
  have c2b1 : decide (0 ≤ (l0.length : Int)) = true := decide_eq_true c2
  clear c2
  obtain ⟨c3, H⟩ := gd H
  have c3b0 := eq_true c3
  have c3b1 : decide (((l0.length : Int) : Int).toNat ≤ 281474976710656) = true := decide_eq_true c3
  clear c3
  generalize hy295 : (List.replicate ((l0.length : Int) : Int).toNat false : List Bool) = y295 at H
  have Ny295 := Aside0.mk hy295.symm; clear hy295
  have H' := Aside0.mk H
  clear H
  go_enter Try.func85, Try.ntmps85
  go_wp2_with (first | ((with_reducible refine gate_dst (N := 7) rfl ?_); refine Kd.R_make Kd.bool _ 4 rfl (N := 7) rfl 81 _ _ rfl (l0.length : Int) rfl rfl Try.underlying81 (.bool false) 1 info4 rfl (by decide) (by omega) false (ok := fun _ => True) (okp := fun _ => True) rfl (fun _ hk => hk) trivial dT (Nat.le_trans (Nat.mul_le_mul_right _ (dT : (l0.length : Int).toNat ≤ 281474976710656)) (by omega)) (Below.refl _ _) (Nat.le_refl _) ?_; intro v296 w4 ho5 hb hg_ hnew_; clear hg_ hnew_; (first | rw [← Ny295.out] at ho5 | (simp only [Int.reduceToNat] at ho5; rw [← Ny295.out] at ho5)); have HO297 := Aside0.mk (Kd.R_lower ho5 (below_size (by repeat (first | (with_reducible first | exact HB.out | apply below_alloc | apply pw_below_drewN | apply below_drew1 | exact Below.refl _ _) | exact HB.out)))); replace HB := Aside0.mk (below_step (by repeat (first | (with_reducible first | exact HB.out | apply below_alloc | apply pw_below_drewN | apply below_drew1 | exact Below.refl _ _) | exact HB.out)) hb); clear hb ho5))
  go_loopg [4] k (fun kq v4 w' => ∃ (x3_1 : List Bool) (x4_1 : Int), v4 = .int .i64 x4_1 ∧ Aside0 (spec_l6Perm.l0 kq l0 x3_1 x4_1 = some r) ∧ Aside0 (kq ≤ k) ∧ Aside0 (Kd.R Kd.bool 4 w' w.heap.size (fun _ => True) v296 x3_1) ∧ Aside0 (Below w.heap.size w w'))
  case atStart => exact ⟨(y295), (0), rS, H', ⟨Nat.le_refl _⟩, ⟨R_l HO297.out⟩, ⟨by repeat (first | (with_reducible first | exact HB.out | apply below_alloc | apply pw_below_drewN | apply below_drew1 | exact Below.refl _ _) | exact HB.out)⟩⟩
  case round =>
   clear H'
   try clear c2
   try clear c2b0
   try clear c2b1
   try clear p2
   try clear c3
   try clear c3b0
   try clear c3b1
   obtain ⟨x3_1, x4_1, rfl, HA, HK1, HO_3, HB⟩ := hrel
   cases gk with
   | zero => exact absurd HA.out (by simp [spec_l6Perm.l0])
   | succ k1 =>
    have H := HA.out
    clear HA
    simp only [spec_l6Perm.l0] at H
    obtain ⟨c6b0, H⟩ | ⟨c6b0, H⟩ := gi H
    ·obtain ⟨c7b0, H⟩ := gdt H
     obtain ⟨t299, A8, H⟩ := bs H
     by_cases c9 : t299 = true
     ·subst c9
      rw [if_pos rfl] at H
      obtain ⟨c10b0, H⟩ := gdt H
      obtain ⟨c11b0, H⟩ := gdt H
      obtain ⟨bq12, hbq12⟩ : ∃ b_ : Bool, b_ = (rdOf false x3_1 (rd l0 x4_1)) := ⟨_, rfl⟩
      replace H : (if bq12 = true then (some false) else (spec_l6Perm.l0 k1 l0 (x3_1.set ((rd l0 x4_1) : Int).toNat true) (wrap64 (x4_1 + 1)))) = some r := by rw [← hbq12] at H; exact H
      have Nbq12 := Aside0.mk hbq12
      clear hbq12
      by_cases c13 : bq12 = true
      ·subst c13
       rw [if_pos rfl] at H
       obtain rfl := Option.some.inj H
       have p298 : 0 ≤ (x4_1 : Int) := dT
       have q298 : x4_1 < (l0.length : Int) := dT
       obtain ⟨ad298, e298, hx298_0⟩ := Kd.at_int HR0.out x4_1 p298 q298
       cases e298
       replace hx298_0 := cB HB hx298_0
       replace p298 := eq_true p298
       replace q298 := eq_true q298
       go_wp2_with (first | (refine gL 55 (some 21) Try.func55 #[.int .i64 (rd l0 x4_1), .int .i64 0, .int .i64 (wrap64 ((l0.length : Int) - 1))] ?_; (with_reducible refine (spec_l1In.calls (rd l0 x4_1) 0 (wrap64 ((l0.length : Int) - 1)) true _ A8.out).mono ?_); rintro e w' ⟨rfl, ⟨nd, rfl⟩⟩; refine ⟨_, rfl, ?_⟩; have p300 : 0 ≤ (x4_1 : Int) := dT; have q300 : x4_1 < (l0.length : Int) := dT; obtain ⟨ad300, e300, hx300_0⟩ := Kd.at_int HR0.out x4_1 p300 q300; obtain rfl : ad298 = ad300 := (by injection e300); replace hx300_0 := cB HB hx300_0; replace p300 := eq_true p300; replace q300 := eq_true q300; obtain ⟨Ao14, co14, eo14⟩ := Kd.R_slice HO_3.out; subst eo14; have p301 : 0 ≤ ((rd l0 x4_1) : Int) := dT; have q301 : (rd l0 x4_1) < (x3_1.length : Int) := dT; obtain ⟨ad301, e301, hx301_0⟩ := Kd.at_bool (Kd.R_reads' HO_3.out).2.2 (rd l0 x4_1) p301 q301; (try rw [← Nbq12.out] at hx301_0); cases e301; replace p301 := eq_true p301; replace q301 := eq_true q301))
       go_ret
       exact ⟨rE, by repeat (first | (with_reducible first | exact HB.out | apply below_alloc | apply pw_below_drewN | apply below_drew1 | exact Below.refl _ _) | exact HB.out)⟩
      ·replace c13 := Bool.eq_false_iff.mpr c13
       subst c13
       rw [if_neg (show ¬ (false = true) by decide)] at H
       generalize hy303 : (x3_1.set ((rd l0 x4_1) : Int).toNat true : List Bool) = y303 at H
       have Ny303 := Aside0.mk hy303.symm; clear hy303
       have H' := Aside0.mk H
       clear H
       have p298 : 0 ≤ (x4_1 : Int) := dT
       have q298 : x4_1 < (l0.length : Int) := dT
       obtain ⟨ad298, e298, hx298_0⟩ := Kd.at_int HR0.out x4_1 p298 q298
       cases e298
       replace hx298_0 := cB HB hx298_0
       replace p298 := eq_true p298
       replace q298 := eq_true q298
       go_wp2_with (first | (refine gL 55 (some 21) Try.func55 #[.int .i64 (rd l0 x4_1), .int .i64 0, .int .i64 (wrap64 ((l0.length : Int) - 1))] ?_; (with_reducible refine (spec_l1In.calls (rd l0 x4_1) 0 (wrap64 ((l0.length : Int) - 1)) true _ A8.out).mono ?_); rintro e w' ⟨rfl, ⟨nd, rfl⟩⟩; refine ⟨_, rfl, ?_⟩; (try (rw [drewN_self wr]; generalize hq_ : World.drewN wr _ = wr; have n0_ : Aside0 (Kd.R Kd.bool 4 wr w.heap.size (fun _ => True) v296 x3_1) := ⟨by rw [← hq_]; exact (R_l HO_3.out)⟩; have n1_ : Aside0 (Below w.heap.size w wr) := ⟨by rw [← hq_]; exact (by repeat (first | (with_reducible first | exact HB.out | apply below_alloc | apply pw_below_drewN | apply below_drew1 | exact Below.refl _ _) | exact HB.out))⟩; clear HO_3 HB hq_; have HO_3 := n0_; have HB := n1_; clear n0_ n1_)); have p300 : 0 ≤ (x4_1 : Int) := dT; have q300 : x4_1 < (l0.length : Int) := dT; obtain ⟨ad300, e300, hx300_0⟩ := Kd.at_int HR0.out x4_1 p300 q300; obtain rfl : ad298 = ad300 := (by injection e300); replace hx300_0 := cB HB hx300_0; replace p300 := eq_true p300; replace q300 := eq_true q300; obtain ⟨Ao16, co16, eo16⟩ := Kd.R_slice HO_3.out; subst eo16; have p301 : 0 ≤ ((rd l0 x4_1) : Int) := dT; have q301 : (rd l0 x4_1) < (x3_1.length : Int) := dT; obtain ⟨ad301, e301, hx301_0⟩ := Kd.at_bool (Kd.R_reads' HO_3.out).2.2 (rd l0 x4_1) p301 q301; (try rw [← Nbq12.out] at hx301_0); cases e301; replace p301 := eq_true p301; replace q301 := eq_true q301; have p302 : 0 ≤ (x4_1 : Int) := dT; have q302 : x4_1 < (l0.length : Int) := dT; obtain ⟨ad302, e302, hx302_0⟩ := Kd.at_int HR0.out x4_1 p302 q302; obtain rfl : ad298 = ad302 := (by injection e302); replace hx302_0 := cB HB hx302_0; replace p302 := eq_true p302; replace q302 := eq_true q302; have p15 : 0 ≤ ((rd l0 x4_1) : Int) := dT; have q15 : ((rd l0 x4_1) : Int) < ((x3_1.length : Int) : Int) := dT; obtain ⟨go15, co15, eo15, gb15, gl15, cl15, HG15⟩ := Kd.R_form HO_3.out (by omega); (first | cases eo15 | (injection eo15 with ea_ en_ ec_; (first | subst ea_ | (injection ea_ with ea_; subst ea_)); subst ec_; clear en_)); have GB15 := Aside0.mk gb15; have GG15 := Aside0.mk HG15; clear gb15 gl15 HG15; (first | simp only [add_plain] at hx301_0 | skip); obtain ⟨hx15_0, hf15_0⟩ := Kd.R_celln false HO_3.out ((rd l0 x4_1) : Int) p15 q15; replace p15 := eq_true p15; replace q15 := eq_true q15; obtain ⟨hy17_, hz17_⟩ := Kd.R_celln false HO_3.out ((rd l0 x4_1) : Int) dT dT; have HP17 := Kd.R_putg HO_3.out ((rd l0 x4_1) : Int) true) | ((with_reducible refine gate_store (t := 4) (p := 37) rfl ?_); refine store_event (t := 4) (p := 37) (v := ?vo_w18) (w1 := (wr.setCell ⟨go15, ((rd l0 x4_1) : Int).toNat, none⟩ (.bool true))) ?hg ?ho ?hn ?hr ?_; (case ho => rfl); (case hg => rfl); (case hn => rfl); (case hr => exact gS); intro w18 hw; have hg : wr.grownBy w18 (some go15) := (by rw [hw]; exact HP17.2); have hp_ : Kd.R Kd.bool 4 w18 w.heap.size (fun _ => True) (.slice (some ⟨go15, 0, none⟩) x3_1.length co16) y303 := (by rw [hw, Ny303.out]; exact HP17.1); clear HP17; replace HO_3 := Aside0.mk (hp_); replace HB := Aside0.mk ((by rw [hw]; exact below_set (HB.out) GB15.out : Below w.heap.size w w18)); clear hg hw hp_))
       go_roundg k1
       case measure => exact oK
       case rel => exact ⟨(y303), (wrap64 (x4_1 + 1)), rS, H', ⟨oK⟩, ⟨R_l HO_3.out⟩, ⟨by repeat (first | (with_reducible first | exact HB.out | apply below_alloc | apply pw_below_drewN | apply below_drew1 | exact Below.refl _ _) | exact HB.out)⟩⟩
     ·replace c9 := Bool.eq_false_iff.mpr c9
      subst c9
      rw [if_neg (show ¬ (false = true) by decide)] at H
      obtain rfl := Option.some.inj H
      have p298 : 0 ≤ (x4_1 : Int) := dT
      have q298 : x4_1 < (l0.length : Int) := dT
      obtain ⟨ad298, e298, hx298_0⟩ := Kd.at_int HR0.out x4_1 p298 q298
      cases e298
      replace hx298_0 := cB HB hx298_0
      replace p298 := eq_true p298
      replace q298 := eq_true q298
      go_wp2_with (first | (refine gL 55 (some 21) Try.func55 #[.int .i64 (rd l0 x4_1), .int .i64 0, .int .i64 (wrap64 ((l0.length : Int) - 1))] ?_; (with_reducible refine (spec_l1In.calls (rd l0 x4_1) 0 (wrap64 ((l0.length : Int) - 1)) false _ A8.out).mono ?_); rintro e w' ⟨rfl, ⟨nd, rfl⟩⟩; refine ⟨_, rfl, ?_⟩))
      go_ret
      exact ⟨rE, by repeat (first | (with_reducible first | exact HB.out | apply below_alloc | apply pw_below_drewN | apply below_drew1 | exact Below.refl _ _) | exact HB.out)⟩
    ·obtain rfl := Option.some.inj H
     go_wp2
     go_ret
     exact ⟨rE, by repeat (first | (with_reducible first | exact HB.out | apply below_alloc | apply pw_below_drewN | apply below_drew1 | exact Below.refl _ _) | exact HB.out)⟩
 ·rw [if_neg c2] at H
  exact absurd H (by simp)

end Go.Proofs.Ytepogblkmiidnaa.PFnCovers
