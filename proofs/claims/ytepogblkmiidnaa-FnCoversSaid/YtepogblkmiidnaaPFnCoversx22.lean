import Derived.Test.YtepogblkmiidnaaWSpanB
import Derived.Test.YtepogblkmiidnaaPFnCoversx0
import Derived.Test.YtepogblkmiidnaaPFnCoversx8
import Derived.Test.YtepogblkmiidnaaPFnCoversx9
import Derived.Test.YtepogblkmiidnaaPFnCoversx13
import Derived.Test.YtepogblkmiidnaaPFnCoversx19
namespace Go.Proofs.Ytepogblkmiidnaa.PFnCovers
open Go.RowKit Go.Proofs.YtepogblkmiidnaaW.PrintWords Go.Proofs.YtepogblkmiidnaaW.PrintLast Go.Proofs.YtepogblkmiidnaaW.PrintMore
attribute [local go_sem] max2_int min2_int max_two min_two max_three min_three max_four min_four   -- for this text's walks alone
set_option linter.unusedVariables false
set_option linter.unusedSimpArgs false

/-! ### spec_SheetSymmetries: function 26 -/
mutual
def spec_SheetSymmetries.l0 : Nat → List (List Int) → Int → List (List Int) → Int → Option (Int)
  | 0, _, _, _, _ => none
  | k + 1, x0, x3, x4, x5 => if x5 < (x4.length : Int) then (spec_SheetSymmetries.l1 k x0 x3 x4 x5 true 0) else (some x3)
def spec_SheetSymmetries.l1 : Nat → List (List Int) → Int → List (List Int) → Int → Bool → Int → Option (Int)
  | 0, _, _, _, _, _, _ => none
  | k + 1, x0, x3, x4, x5, x6, x7 => if x7 < (x0.length : Int) then (spec_SheetSymmetries.l2 k x0 x3 x4 x5 x6 x7 0) else ((spec_l1Bit.f x6).bind fun t676 => (spec_SheetSymmetries.l0 k x0 (wrap64 (x3 + t676)) x4 (wrap64 (x5 + 1))))
def spec_SheetSymmetries.l2 : Nat → List (List Int) → Int → List (List Int) → Int → Bool → Int → Int → Option (Int)
  | 0, _, _, _, _, _, _, _ => none
  | k + 1, x0, x3, x4, x5, x6, x7, x8 => if 0 ≤ x7 then (if x7 < (x0.length : Int) then (if x8 < ((rd_L2 x0 x7).length : Int) then (if x6 = true then (if 0 ≤ x5 then (if x5 < (x4.length : Int) then (if 0 ≤ x8 then (if 0 ≤ (rd (rd_L2 x0 x7) x8) then (if (rd (rd_L2 x0 x7) x8) < ((rd_L2 x4 x5).length : Int) then (if x8 < ((rd_L2 x4 x5).length : Int) then (if 0 ≤ (rd (rd_L2 x4 x5) x8) then (if (rd (rd_L2 x4 x5) x8) < ((rd_L2 x0 x7).length : Int) then (spec_SheetSymmetries.l2 k x0 x3 x4 x5 ((rd (rd_L2 x4 x5) (rd (rd_L2 x0 x7) x8)) == (rd (rd_L2 x0 x7) (rd (rd_L2 x4 x5) x8))) x7 (wrap64 (x8 + 1))) else (none)) else (none)) else (none)) else (none)) else (none)) else (none)) else (none)) else (none)) else (spec_SheetSymmetries.l2 k x0 x3 x4 x5 false x7 (wrap64 (x8 + 1)))) else (spec_SheetSymmetries.l1 k x0 x3 x4 x5 x6 (wrap64 (x7 + 1)))) else (none)) else (none)
end
def spec_SheetSymmetries.f (k : Nat) (l0 : List (List Int)) : Option (Int) := (spec_l9Perms.f k l0).bind fun t671 => (if t671 = true then (if 0 < (l0.length : Int) then ((spec_l9All.f k ((rd_L2 l0 0).length : Int)).bind fun t673 => (spec_SheetSymmetries.l0 k l0 0 t673 0)) else (none)) else (some (-1)))
set_option maxHeartbeats 8000000 in
set_option maxRecDepth 100000 in
theorem spec_SheetSymmetries.calls (k : Nat) (A0 : Option Addr) (c0 : Nat) (l0 : List (List Int)) (r : Int) (w : World) (hr0 : Kd.C (Kd.slice 3 (Kd.int .i64)) w A0 l0.length l0) (hc0 : l0.length ≤ c0) (h : spec_SheetSymmetries.f k l0 = some r) :
    Calls Try.prog 26 #[.slice A0 l0.length c0] w fun e w' => e = .returned (.int .i64 r) ∧ Below w.heap.size w w' := by
  have HR0 := Aside0.mk hr0
  have HC0 := Aside0.mk hc0
  clear hr0 hc0
  have HB := Aside0.mk (Below.refl w.heap.size w)
  have H : ((spec_l9Perms.f k l0).bind fun t671 => (if t671 = true then (if 0 < (l0.length : Int) then ((spec_l9All.f k ((rd_L2 l0 0).length : Int)).bind fun t673 => (spec_SheetSymmetries.l0 k l0 0 t673 0)) else (none)) else (some (-1)))) = some r := h
  clear h
  obtain ⟨t671, A2, H⟩ := bs H
  by_cases c3 : t671 = true
  · subst c3
    rw [if_pos rfl] at H
    obtain ⟨c4, H⟩ := gd H
    have c4b0 : decide (0 < (l0.length : Int)) = true := decide_eq_true c4
    have c4b1 : decide (0 < l0.length) = true := decide_eq_true (by omega)
    clear c4
    obtain ⟨t673, A5, H⟩ := bs H
    have H' := Aside0.mk H
    clear H
    go_enter Try.func26, Try.ntmps26
    go_wp2_with (first | (go_at_call 50; (with_reducible refine (spec_l9Perms.calls k _ _ l0 true _ ?side1 ?side2 A2.out).mono ?_); (case side1 => exact C_l HR0.out); (case side2 => exact HC0.out); rintro e w6 ⟨rfl, hb⟩; replace HB := Aside0.mk (below_step tb hb); have p672 : 0 ≤ (0 : Int) := (by omega); have q672 : 0 < (l0.length : Int) := dT; obtain ⟨ad672, A672_0, c672_0, e672, hx672_0, hl672_0, hi672_0⟩ := at_L2 HR0.out 0 p672 q672; cases e672; have qi672 : (0 < l0.length) = True := eq_true (by omega); (try rw [show ((0 : Int)).toNat = 0 from rfl] at hx672_0); (try rw [Addr.add_zero'] at hx672_0); replace hx672_0 := cB HB hx672_0; have HR672_0 := Aside0.mk hi672_0; have HC672_0 := Aside0.mk hl672_0; clear hi672_0 hl672_0; replace p672 := eq_true p672; replace q672 := eq_true q672) | (go_at_call 57; (with_reducible refine (spec_l9All.calls k ((rd_L2 l0 0).length : Int) t673 _ A5.out).mono ?_); rintro e w7 ⟨v674, rfl, ho0, hb⟩; have HO675 := Aside0.mk (Kd.N_lower (Kd.N_mono (ok' := fun k_ => True) ho0 (fun k_ hk_ => trivial)) (below_size tb)); replace HB := Aside0.mk (below_step tb hb)))
    repeat (go_quiet (first | (go_at_call 50; (with_reducible refine (spec_l9Perms.calls k _ _ l0 true _ ?side1 ?side2 A2.out).mono ?_); (case side1 => exact C_l HR0.out); (case side2 => exact HC0.out); rintro e w6 ⟨rfl, hb⟩; replace HB := Aside0.mk (below_step tb hb); have p672 : 0 ≤ (0 : Int) := (by omega); have q672 : 0 < (l0.length : Int) := dT; obtain ⟨ad672, A672_0, c672_0, e672, hx672_0, hl672_0, hi672_0⟩ := at_L2 HR0.out 0 p672 q672; cases e672; have qi672 : (0 < l0.length) = True := eq_true (by omega); (try rw [show ((0 : Int)).toNat = 0 from rfl] at hx672_0); (try rw [Addr.add_zero'] at hx672_0); replace hx672_0 := cB HB hx672_0; have HR672_0 := Aside0.mk hi672_0; have HC672_0 := Aside0.mk hl672_0; clear hi672_0 hl672_0; replace p672 := eq_true p672; replace q672 := eq_true q672) | (go_at_call 57; (with_reducible refine (spec_l9All.calls k ((rd_L2 l0 0).length : Int) t673 _ A5.out).mono ?_); rintro e w7 ⟨v674, rfl, ho0, hb⟩; have HO675 := Aside0.mk (Kd.N_lower (Kd.N_mono (ok' := fun k_ => True) ho0 (fun k_ hk_ => trivial)) (below_size tb)); replace HB := Aside0.mk (below_step tb hb))); try go_wp2_with (first | (go_at_call 50; (with_reducible refine (spec_l9Perms.calls k _ _ l0 true _ ?side1 ?side2 A2.out).mono ?_); (case side1 => exact C_l HR0.out); (case side2 => exact HC0.out); rintro e w6 ⟨rfl, hb⟩; replace HB := Aside0.mk (below_step tb hb); have p672 : 0 ≤ (0 : Int) := (by omega); have q672 : 0 < (l0.length : Int) := dT; obtain ⟨ad672, A672_0, c672_0, e672, hx672_0, hl672_0, hi672_0⟩ := at_L2 HR0.out 0 p672 q672; cases e672; have qi672 : (0 < l0.length) = True := eq_true (by omega); (try rw [show ((0 : Int)).toNat = 0 from rfl] at hx672_0); (try rw [Addr.add_zero'] at hx672_0); replace hx672_0 := cB HB hx672_0; have HR672_0 := Aside0.mk hi672_0; have HC672_0 := Aside0.mk hl672_0; clear hi672_0 hl672_0; replace p672 := eq_true p672; replace q672 := eq_true q672) | (go_at_call 57; (with_reducible refine (spec_l9All.calls k ((rd_L2 l0 0).length : Int) t673 _ A5.out).mono ?_); rintro e w7 ⟨v674, rfl, ho0, hb⟩; have HO675 := Aside0.mk (Kd.N_lower (Kd.N_mono (ok' := fun k_ => True) ho0 (fun k_ hk_ => trivial)) (below_size tb)); replace HB := Aside0.mk (below_step tb hb))))
    go_loopg [3, 5] k (fun kq v3 v5 w' => ∃ (x3_1 : Int) (x5_1 : Int), v3 = .int .i64 x3_1 ∧ v5 = .int .i64 x5_1 ∧ Aside0 (spec_SheetSymmetries.l0 kq l0 x3_1 t673 x5_1 = some r) ∧ Aside0 (kq ≤ k) ∧ Aside0 (Kd.N (Kd.slice 3 (Kd.int .i64)) 30 w' w.heap.size (fun _ => True) v674 t673) ∧ Aside0 (Below w.heap.size w w'))
    case atStart => exact ⟨(0), (0), rS, rS, H', ⟨Nat.le_refl _⟩, ⟨N_l HO675.out⟩, ⟨tb⟩⟩
    case round =>
      clear H'
      try clear c2
      try clear p2
      try clear c3
      try clear c4
      try clear c4b0
      try clear c4b1
      try clear c6
      try clear p6
      try clear q6
      try clear hx6
      try clear qi6
      try clear hx672_0
      try clear p672
      try clear q672
      obtain ⟨x3_1, x5_1, rfl, rfl, HA, HK1, HO_4, HB⟩ := hrel
      cases gk with
      | zero => exact absurd HA.out (by simp [spec_SheetSymmetries.l0])
      | succ k1 =>
        have H := HA.out
        clear HA
        simp only [spec_SheetSymmetries.l0] at H
        obtain ⟨c8b0, H⟩ | ⟨c8b0, H⟩ := gi H
        · have H' := Aside0.mk H
          clear H
          obtain ⟨Ao9, co9, eo9⟩ := Kd.N_slice HO_4.out
          subst eo9
          go_wp2
          repeat (go_quiet (fail); try go_wp2)
          go_loopg [6, 7] k1 (fun kq v6 v7 w' => ∃ (x6_2 : Bool) (x7_2 : Int), v6 = .bool x6_2 ∧ v7 = .int .i64 x7_2 ∧ Aside0 (spec_SheetSymmetries.l1 kq l0 x3_1 t673 x5_1 x6_2 x7_2 = some r) ∧ Aside0 (kq ≤ k1) ∧ Aside0 (Kd.N (Kd.slice 3 (Kd.int .i64)) 30 w' w.heap.size (fun _ => True) (.slice Ao9 t673.length co9) t673) ∧ Aside0 (Below w.heap.size w w'))
          case atStart => exact ⟨(true), (0), rS, rS, H', ⟨Nat.le_refl _⟩, ⟨N_l HO_4.out⟩, ⟨tb⟩⟩
          case round =>
            clear H'
            try clear c2
            try clear p2
            try clear c3
            try clear c4
            try clear c4b0
            try clear c4b1
            try clear c6
            try clear p6
            try clear q6
            try clear hx6
            try clear qi6
            try clear c8
            try clear c8b0
            try clear hx672_0
            try clear p2
            try clear p6
            try clear p672
            try clear q6
            try clear q672
            obtain ⟨x6_2, x7_2, rfl, rfl, HA, HK2, HO_4, HB⟩ := hrel
            cases gk with
            | zero => exact absurd HA.out (by simp [spec_SheetSymmetries.l1])
            | succ k2 =>
              have H := HA.out
              clear HA
              simp only [spec_SheetSymmetries.l1] at H
              obtain ⟨c10b0, H⟩ | ⟨c10b0, H⟩ := gi H
              · have H' := Aside0.mk H
                clear H
                go_wp2
                repeat (go_quiet (fail); try go_wp2)
                go_loopg [6, 8] k2 (fun kq v6 v8 w' => ∃ (x6_3 : Bool) (x8_3 : Int), v6 = .bool x6_3 ∧ v8 = .int .i64 x8_3 ∧ Aside0 (spec_SheetSymmetries.l2 kq l0 x3_1 t673 x5_1 x6_3 x7_2 x8_3 = some r) ∧ Aside0 (kq ≤ k2) ∧ Aside0 (Kd.N (Kd.slice 3 (Kd.int .i64)) 30 w' w.heap.size (fun _ => True) (.slice Ao9 t673.length co9) t673) ∧ Aside0 (Below w.heap.size w w'))
                case atStart => exact ⟨(x6_2), (0), rS, rS, H', ⟨Nat.le_refl _⟩, ⟨N_l HO_4.out⟩, ⟨tb⟩⟩
                case round =>
                  clear H'
                  try clear c1
                  try clear c2
                  try clear p2
                  try clear c3
                  try clear c4
                  try clear c4b0
                  try clear c4b1
                  try clear c6
                  try clear p6
                  try clear q6
                  try clear hx6
                  try clear qi6
                  try clear c8
                  try clear c8b0
                  try clear c10
                  try clear c10b0
                  try clear hx672_0
                  try clear p2
                  try clear p6
                  try clear p672
                  try clear q6
                  try clear q672
                  obtain ⟨x6_3, x8_3, rfl, rfl, HA, HK3, HO_4, HB⟩ := hrel
                  cases gk with
                  | zero => exact absurd HA.out (by simp [spec_SheetSymmetries.l2])
                  | succ k3 =>
                    have H := HA.out
                    clear HA
                    simp only [spec_SheetSymmetries.l2] at H
                    obtain ⟨c11b0, H⟩ := gdt H
                    obtain ⟨c12b0, H⟩ := gdt H
                    obtain ⟨c13b0, H⟩ | ⟨c13b0, H⟩ := gi H
                    · by_cases c14 : x6_3 = true
                      · subst c14
                        rw [if_pos rfl] at H
                        obtain ⟨c15b0, H⟩ := gdt H
                        obtain ⟨c16b0, H⟩ := gdt H
                        obtain ⟨c17b0, H⟩ := gdt H
                        obtain ⟨c18b0, H⟩ := gdt H
                        obtain ⟨c19b0, H⟩ := gdt H
                        obtain ⟨c20b0, H⟩ := gdt H
                        obtain ⟨c21b0, H⟩ := gdt H
                        obtain ⟨c22b0, H⟩ := gdt H
                        have H' := Aside0.mk H
                        clear H
                        have p677 : 0 ≤ (x7_2 : Int) := dT
                        have q677 : x7_2 < (l0.length : Int) := dT
                        obtain ⟨ad677, A677_0, c677_0, e677, hx677_0, hl677_0, hi677_0⟩ := at_L2 HR0.out x7_2 p677 q677
                        obtain rfl : ad672 = ad677 := (by injection e677)
                        replace hx677_0 := cB HB hx677_0
                        have HR677_0 := Aside0.mk hi677_0
                        have HC677_0 := Aside0.mk hl677_0
                        clear hi677_0 hl677_0
                        replace p677 := eq_true p677
                        replace q677 := eq_true q677
                        have p678 : 0 ≤ (x5_1 : Int) := dT
                        have q678 : x5_1 < (t673.length : Int) := dT
                        obtain ⟨ad678, A678_0, c678_0, e678, hx678_0, hl678_0, hi678_0⟩ := at_L2 (Kd.N_reads' HO_4.out).2.2 x5_1 p678 q678
                        cases e678
                        obtain ⟨ce678, hce678, hMe678, hcc678⟩ := Kd.N_get HO_4.out [] x5_1 p678 (by first | exact q678 | exact dT | (have e_ := (Kd.N_reads' HO_4.out).1; omega))
                        obtain ⟨ua678_0, uc678_0, rfl, ul678_0, ge678_0⟩ := Kd.FK_slice_open hMe678
                        have hv678_0 := hcc678 0 _ rfl
                        rw [Nat.add_zero, show ((Kd.slice 3 (Kd.int .i64))).sz = 1 from rfl, Nat.mul_one] at hv678_0
                        replace hv678_0 := Option.some.inj (hv678_0.symm.trans hx678_0)
                        injection hv678_0 with hva_ hvn_ hvc_
                        rw [hva_] at ge678_0
                        rw [hvc_] at ul678_0
                        have HL678_0 := Aside0.mk (show Kd.V (Kd.int .i64) 3 _ w.heap.size _ _ (rd_L2 t673 x5_1) from Kd.V_mk ul678_0 ge678_0)
                        clear hva_ hvn_ hvc_ ge678_0 ul678_0
                        clear hcc678 hce678
                        have HR678_0 := Aside0.mk hi678_0
                        have HC678_0 := Aside0.mk hl678_0
                        clear hi678_0 hl678_0
                        replace p678 := eq_true p678
                        replace q678 := eq_true q678
                        have p679 : 0 ≤ (x7_2 : Int) := dT
                        have q679 : x7_2 < (l0.length : Int) := dT
                        obtain ⟨ad679, A679_0, c679_0, e679, hx679_0, hl679_0, hi679_0⟩ := at_L2 HR0.out x7_2 p679 q679
                        obtain rfl : ad672 = ad679 := (by injection e679)
                        replace hx679_0 := cB HB hx679_0
                        have HR679_0 := Aside0.mk hi679_0
                        have HC679_0 := Aside0.mk hl679_0
                        clear hi679_0 hl679_0
                        replace p679 := eq_true p679
                        replace q679 := eq_true q679
                        have ea_ := Option.some.inj (hx677_0.symm.trans hx679_0)
                        injection ea_ with ea_ en_ ec_
                        subst ea_
                        subst ec_
                        clear en_
                        have p680 : 0 ≤ (x8_3 : Int) := dT
                        have q680 : x8_3 < ((rd_L2 l0 x7_2).length : Int) := dT
                        obtain ⟨ad680, e680, hx680_0⟩ := Kd.at_int HR679_0.out x8_3 p680 q680
                        cases e680
                        replace hx680_0 := cB HB hx680_0
                        replace p680 := eq_true p680
                        replace q680 := eq_true q680
                        have p681 : 0 ≤ ((rd (rd_L2 l0 x7_2) x8_3) : Int) := dT
                        have q681 : (rd (rd_L2 l0 x7_2) x8_3) < ((rd_L2 t673 x5_1).length : Int) := dT
                        obtain ⟨ad681, e681, hx681_0⟩ := Kd.at_int (by repeat (first | (with_reducible exact HR678_0.out) | (with_reducible refine Kd.C_alloc ?_ _) | (with_reducible refine Kd.C_drewN ?_ _) | (with_reducible refine Kd.C_drew ?_) | exact HR678_0.out)) (rd (rd_L2 l0 x7_2) x8_3) p681 q681
                        cases e681
                        replace p681 := eq_true p681
                        replace q681 := eq_true q681
                        have p682 : 0 ≤ (x7_2 : Int) := dT
                        have q682 : x7_2 < (l0.length : Int) := dT
                        obtain ⟨ad682, A682_0, c682_0, e682, hx682_0, hl682_0, hi682_0⟩ := at_L2 HR0.out x7_2 p682 q682
                        obtain rfl : ad672 = ad682 := (by injection e682)
                        replace hx682_0 := cB HB hx682_0
                        have HR682_0 := Aside0.mk hi682_0
                        have HC682_0 := Aside0.mk hl682_0
                        clear hi682_0 hl682_0
                        replace p682 := eq_true p682
                        replace q682 := eq_true q682
                        have ea_ := Option.some.inj (hx677_0.symm.trans hx682_0)
                        injection ea_ with ea_ en_ ec_
                        subst ea_
                        subst ec_
                        clear en_
                        have p683 : 0 ≤ (x5_1 : Int) := dT
                        have q683 : x5_1 < (t673.length : Int) := dT
                        obtain ⟨ad683, A683_0, c683_0, e683, hx683_0, hl683_0, hi683_0⟩ := at_L2 (Kd.N_reads' HO_4.out).2.2 x5_1 p683 q683
                        obtain rfl : ad678 = ad683 := (by injection e683)
                        obtain ⟨ce683, hce683, hMe683, hcc683⟩ := Kd.N_get HO_4.out [] x5_1 p683 (by first | exact q683 | exact dT | (have e_ := (Kd.N_reads' HO_4.out).1; omega))
                        obtain ⟨ua683_0, uc683_0, rfl, ul683_0, ge683_0⟩ := Kd.FK_slice_open hMe683
                        have hv683_0 := hcc683 0 _ rfl
                        rw [Nat.add_zero, show ((Kd.slice 3 (Kd.int .i64))).sz = 1 from rfl, Nat.mul_one] at hv683_0
                        replace hv683_0 := Option.some.inj (hv683_0.symm.trans hx683_0)
                        injection hv683_0 with hva_ hvn_ hvc_
                        rw [hva_] at ge683_0
                        rw [hvc_] at ul683_0
                        have HL683_0 := Aside0.mk (show Kd.V (Kd.int .i64) 3 _ w.heap.size _ _ (rd_L2 t673 x5_1) from Kd.V_mk ul683_0 ge683_0)
                        clear hva_ hvn_ hvc_ ge683_0 ul683_0
                        clear hcc683 hce683
                        have HR683_0 := Aside0.mk hi683_0
                        have HC683_0 := Aside0.mk hl683_0
                        clear hi683_0 hl683_0
                        replace p683 := eq_true p683
                        replace q683 := eq_true q683
                        have ea_ := Option.some.inj (hx678_0.symm.trans hx683_0)
                        injection ea_ with ea_ en_ ec_
                        subst ea_
                        subst ec_
                        clear en_
                        have p684 : 0 ≤ (x8_3 : Int) := dT
                        have q684 : x8_3 < ((rd_L2 t673 x5_1).length : Int) := dT
                        obtain ⟨ad684, e684, hx684_0⟩ := Kd.at_int (by repeat (first | (with_reducible exact HR683_0.out) | (with_reducible refine Kd.C_alloc ?_ _) | (with_reducible refine Kd.C_drewN ?_ _) | (with_reducible refine Kd.C_drew ?_) | exact HR683_0.out)) x8_3 p684 q684
                        cases e684
                        replace p684 := eq_true p684
                        replace q684 := eq_true q684
                        have p685 : 0 ≤ ((rd (rd_L2 t673 x5_1) x8_3) : Int) := dT
                        have q685 : (rd (rd_L2 t673 x5_1) x8_3) < ((rd_L2 l0 x7_2).length : Int) := dT
                        obtain ⟨ad685, e685, hx685_0⟩ := Kd.at_int HR682_0.out (rd (rd_L2 t673 x5_1) x8_3) p685 q685
                        cases e685
                        replace hx685_0 := cB HB hx685_0
                        replace p685 := eq_true p685
                        replace q685 := eq_true q685
                        go_wp2
                        repeat (go_quiet (fail); try go_wp2)
                        go_roundg k3
                        case measure => exact oK
                        case rel => exact ⟨(((rd (rd_L2 t673 x5_1) (rd (rd_L2 l0 x7_2) x8_3)) == (rd (rd_L2 l0 x7_2) (rd (rd_L2 t673 x5_1) x8_3)))), (wrap64 (x8_3 + 1)), rS, rS, H', ⟨oK⟩, ⟨N_l HO_4.out⟩, ⟨tb⟩⟩
                      · replace c14 := Bool.eq_false_iff.mpr c14
                        subst c14
                        rw [if_neg (show ¬ (false = true) by decide)] at H
                        have H' := Aside0.mk H
                        clear H
                        have p677 : 0 ≤ (x7_2 : Int) := dT
                        have q677 : x7_2 < (l0.length : Int) := dT
                        obtain ⟨ad677, A677_0, c677_0, e677, hx677_0, hl677_0, hi677_0⟩ := at_L2 HR0.out x7_2 p677 q677
                        obtain rfl : ad672 = ad677 := (by injection e677)
                        replace hx677_0 := cB HB hx677_0
                        have HR677_0 := Aside0.mk hi677_0
                        have HC677_0 := Aside0.mk hl677_0
                        clear hi677_0 hl677_0
                        replace p677 := eq_true p677
                        replace q677 := eq_true q677
                        go_wp2
                        repeat (go_quiet (fail); try go_wp2)
                        go_roundg k3
                        case measure => exact oK
                        case rel => exact ⟨(false), (wrap64 (x8_3 + 1)), rS, rS, H', ⟨oK⟩, ⟨N_l HO_4.out⟩, ⟨tb⟩⟩
                    · have H' := Aside0.mk H
                      clear H
                      have p677 : 0 ≤ (x7_2 : Int) := dT
                      have q677 : x7_2 < (l0.length : Int) := dT
                      obtain ⟨ad677, A677_0, c677_0, e677, hx677_0, hl677_0, hi677_0⟩ := at_L2 HR0.out x7_2 p677 q677
                      obtain rfl : ad672 = ad677 := (by injection e677)
                      replace hx677_0 := cB HB hx677_0
                      have HR677_0 := Aside0.mk hi677_0
                      have HC677_0 := Aside0.mk hl677_0
                      clear hi677_0 hl677_0
                      replace p677 := eq_true p677
                      replace q677 := eq_true q677
                      go_wp2
                      repeat (go_quiet (fail); try go_wp2)
                      go_roundg k3
                      case measure => exact oK
                      case rel => exact ⟨(x6_3), (wrap64 (x7_2 + 1)), rS, rS, H', ⟨oK⟩, ⟨N_l HO_4.out⟩, ⟨tb⟩⟩
              · obtain ⟨t676, A23, H⟩ := bs H
                have H' := Aside0.mk H
                clear H
                go_wp2_with (first | (go_at_call 40; (with_reducible refine (spec_l1Bit.calls x6_2 t676 _ A23.out).mono ?_); rintro e w' ⟨rfl, ⟨nd, rfl⟩⟩; (try first | exact ⟨rfl, _, World.drewN_drewN _ _ _⟩ | exact ⟨rfl, _, Eq.trans (World.drewN_drewN _ _ _) (congrArg (World.drewN _) (Nat.add_assoc _ _ _))⟩)))
                repeat (go_quiet (first | (go_at_call 40; (with_reducible refine (spec_l1Bit.calls x6_2 t676 _ A23.out).mono ?_); rintro e w' ⟨rfl, ⟨nd, rfl⟩⟩; (try first | exact ⟨rfl, _, World.drewN_drewN _ _ _⟩ | exact ⟨rfl, _, Eq.trans (World.drewN_drewN _ _ _) (congrArg (World.drewN _) (Nat.add_assoc _ _ _))⟩))); try go_wp2_with (first | (go_at_call 40; (with_reducible refine (spec_l1Bit.calls x6_2 t676 _ A23.out).mono ?_); rintro e w' ⟨rfl, ⟨nd, rfl⟩⟩; (try first | exact ⟨rfl, _, World.drewN_drewN _ _ _⟩ | exact ⟨rfl, _, Eq.trans (World.drewN_drewN _ _ _) (congrArg (World.drewN _) (Nat.add_assoc _ _ _))⟩))))
                go_roundg k2
                case measure => exact oK
                case rel => exact ⟨(wrap64 (x3_1 + t676)), (wrap64 (x5_1 + 1)), rS, rS, H', ⟨oK⟩, ⟨N_l HO_4.out⟩, ⟨tb⟩⟩
        · obtain rfl := Option.some.inj H
          obtain ⟨Ao24, co24, eo24⟩ := Kd.N_slice HO_4.out
          subst eo24
          go_wp2
          repeat (go_quiet (fail); try go_wp2)
          go_ret
          exact ⟨rE, tb⟩
  · replace c3 := Bool.eq_false_iff.mpr c3
    subst c3
    rw [if_neg (show ¬ (false = true) by decide)] at H
    obtain rfl := Option.some.inj H
    go_enter Try.func26, Try.ntmps26
    go_wp2_with (first | (go_at_call 50; (with_reducible refine (spec_l9Perms.calls k _ _ l0 false _ ?side1 ?side2 A2.out).mono ?_); (case side1 => exact C_l HR0.out); (case side2 => exact HC0.out); rintro e w25 ⟨rfl, hb⟩; replace HB := Aside0.mk (below_step tb hb)))
    repeat (go_quiet (first | (go_at_call 50; (with_reducible refine (spec_l9Perms.calls k _ _ l0 false _ ?side1 ?side2 A2.out).mono ?_); (case side1 => exact C_l HR0.out); (case side2 => exact HC0.out); rintro e w25 ⟨rfl, hb⟩; replace HB := Aside0.mk (below_step tb hb))); try go_wp2_with (first | (go_at_call 50; (with_reducible refine (spec_l9Perms.calls k _ _ l0 false _ ?side1 ?side2 A2.out).mono ?_); (case side1 => exact C_l HR0.out); (case side2 => exact HC0.out); rintro e w25 ⟨rfl, hb⟩; replace HB := Aside0.mk (below_step tb hb))))
    go_ret
    exact ⟨rE, tb⟩

/-! ### laws_total: function 27 -/
def laws_total.l0 : Nat → List Int → Int → Int → Option (Int)
  | 0, _, _, _ => none
  | k + 1, x0, x3, x4 => if x4 < (x0.length : Int) then (if 0 ≤ x4 then (laws_total.l0 k x0 (wrap64 (x3 + (rd x0 x4))) (wrap64 (x4 + 1))) else (none)) else (some x3)
def laws_total.f (k : Nat) (l0 : List Int) : Option (Int) := laws_total.l0 k l0 0 0
set_option maxHeartbeats 8000000 in
set_option maxRecDepth 100000 in
theorem laws_total.calls (k : Nat) (A0 : Option Addr) (c0 : Nat) (l0 : List Int) (r : Int) (w : World) (hr0 : Kd.C (Kd.int .i64) w A0 l0.length l0) (hc0 : l0.length ≤ c0) (h : laws_total.f k l0 = some r) :
    Calls Try.prog 27 #[.slice A0 l0.length c0] w fun e w' => e = .returned (.int .i64 r) ∧ Drawn0 w w' := by
  have HR0 := Aside0.mk hr0
  have HC0 := Aside0.mk hc0
  clear hr0 hc0
  have H : (laws_total.l0 k l0 0 0) = some r := h
  clear h
  have H' := Aside0.mk H
  clear H
  go_enter Try.func27, Try.ntmps27
  go_wp2
  go_loopg [3, 4] k (fun kq v3 v4 w' => ∃ (x3_1 : Int) (x4_1 : Int), v3 = .int .i64 x3_1 ∧ v4 = .int .i64 x4_1 ∧ Aside0 (laws_total.l0 kq l0 x3_1 x4_1 = some r) ∧ Aside0 (kq ≤ k) ∧ Drawn0 w w')
  case atStart => exact ⟨(0), (0), rS, rS, H', ⟨Nat.le_refl _⟩, tD⟩
  case round =>
    clear H'
    obtain ⟨x3_1, x4_1, rfl, rfl, HA, HK1, ⟨m1, rfl⟩⟩ := hrel
    cases gk with
    | zero => exact absurd HA.out (by simp [laws_total.l0])
    | succ k1 =>
      have H := HA.out
      clear HA
      simp only [laws_total.l0] at H
      obtain ⟨c2b0, H⟩ | ⟨c2b0, H⟩ := gi H
      · obtain ⟨c3b0, H⟩ := gdt H
        have H' := Aside0.mk H
        clear H
        have p686 : 0 ≤ (x4_1 : Int) := dT
        have q686 : x4_1 < (l0.length : Int) := dT
        obtain ⟨ad686, e686, hx686_0⟩ := Kd.at_int HR0.out x4_1 p686 q686
        cases e686
        replace p686 := eq_true p686
        replace q686 := eq_true q686
        go_wp2
        go_roundg k1
        case measure => exact oK
        case rel => exact ⟨(wrap64 (x3_1 + (rd l0 x4_1))), (wrap64 (x4_1 + 1)), rS, rS, H', ⟨oK⟩, tD⟩
      · obtain rfl := Option.some.inj H
        go_wp2
        go_ret
        exact ⟨rS, tD⟩

/-! ### spec_IsSurface: function 66 -/
def spec_IsSurface.f (a0_0 : Int) (a0_1 : Int) (a0_2 : Int) : Option (Bool) := (spec_l1In.f a0_0 0 20).bind fun t688 => (if t688 = true then ((spec_l1In.f a0_1 0 20).bind fun t689 => (if t689 = true then ((spec_l1In.f a0_2 0 20).bind fun t690 => (if t690 = true then (if a0_0 = 0 then (some true) else (some (a0_1 == 0))) else (some false))) else (some false))) else (some false))
set_option maxHeartbeats 8000000 in
set_option maxRecDepth 100000 in
theorem spec_IsSurface.calls (a0_0 : Int) (a0_1 : Int) (a0_2 : Int) (r : Bool) (w : World) (h : spec_IsSurface.f a0_0 a0_1 a0_2 = some r) :
    Calls Try.prog 66 #[.agg #[.int .i64 a0_0, .int .i64 a0_1, .int .i64 a0_2]] w fun e w' => e = .returned (.bool r) ∧ Below w.heap.size w w' := by
  have hu46 := Try.underlying46
  have HB := Aside0.mk (Below.refl w.heap.size w)
  have H : ((spec_l1In.f a0_0 0 20).bind fun t688 => (if t688 = true then ((spec_l1In.f a0_1 0 20).bind fun t689 => (if t689 = true then ((spec_l1In.f a0_2 0 20).bind fun t690 => (if t690 = true then (if a0_0 = 0 then (some true) else (some (a0_1 == 0))) else (some false))) else (some false))) else (some false))) = some r := h
  clear h
  obtain ⟨t688, A2, H⟩ := bs H
  by_cases c3 : t688 = true
  · subst c3
    rw [if_pos rfl] at H
    obtain ⟨t689, A4, H⟩ := bs H
    by_cases c5 : t689 = true
    · subst c5
      rw [if_pos rfl] at H
      obtain ⟨t690, A6, H⟩ := bs H
      by_cases c7 : t690 = true
      · subst c7
        rw [if_pos rfl] at H
        by_cases c8 : a0_0 = 0
        · rw [if_pos c8] at H
          have c8b0 : (a0_0 == 0) = true := beq_iff_eq.mpr c8
          have c8b1 : (a0_0 != 0) = false := bne_eq_false_iff_eq.mpr c8
          clear c8
          obtain rfl := Option.some.inj H
          go_enter Try.func66, Try.ntmps66
          go_wp2_with (first | ((with_reducible refine gate_dst (N := 1) rfl ?_); refine box_event ?hg (N := 1) ?hd (cs := #[.int .i64 a0_0, .int .i64 a0_1, .int .i64 a0_2]) (t := 46) ?hr ?_; (case hd => rfl); (case hg => rfl); (case hr => exact gS); intro gb687 hg w9 hbox hb; have BK687 := Aside0.mk (hbox); have GW687 := Aside0.mk (gW hg tb); have GE687 := Aside0.mk (gW hg tb); replace HB := Aside0.mk (below_step tb hb); clear hb hbox hg; have hcz10_0 : w9.cell? ⟨gb687, 0, none⟩ = some (.int .i64 a0_0) := (blk_cell BK687.out 0).trans rfl; have hcz10_1 : w9.cell? ⟨gb687, 1, none⟩ = some (.int .i64 a0_1) := (blk_cell BK687.out 1).trans rfl; have hcz10_2 : w9.cell? ⟨gb687, 2, none⟩ = some (.int .i64 a0_2) := (blk_cell BK687.out 2).trans rfl; have hfz10_0 := blk_frozen BK687.out 0; have hfz10_1 := blk_frozen BK687.out 1; have hfz10_2 := blk_frozen BK687.out 2) | (refine gL 55 (some 5) Try.func55 #[.int .i64 a0_0, .int .i64 0, .int .i64 20] ?_; (with_reducible refine (spec_l1In.calls a0_0 0 20 true _ A2.out).mono ?_); rintro e w' ⟨rfl, ⟨nd, rfl⟩⟩; refine ⟨_, rfl, ?_⟩) | (go_at_call 55; (with_reducible refine (spec_l1In.calls a0_1 0 20 true _ A4.out).mono ?_); rintro e w' ⟨rfl, ⟨nd, rfl⟩⟩) | (go_at_call 55; (with_reducible refine (spec_l1In.calls a0_2 0 20 true _ A6.out).mono ?_); rintro e w' ⟨rfl, ⟨nd, rfl⟩⟩))
          go_ret
          exact ⟨rE, tG1 GE687.out⟩
        · rw [if_neg c8] at H
          have c8b0 : (a0_0 == 0) = false := beq_eq_false_iff_ne.mpr c8
          have c8b1 : (a0_0 != 0) = true := bne_iff_ne.mpr c8
          obtain rfl := Option.some.inj H
          go_enter Try.func66, Try.ntmps66
          go_wp2_with (first | ((with_reducible refine gate_dst (N := 1) rfl ?_); refine box_event ?hg (N := 1) ?hd (cs := #[.int .i64 a0_0, .int .i64 a0_1, .int .i64 a0_2]) (t := 46) ?hr ?_; (case hd => rfl); (case hg => rfl); (case hr => exact gS); intro gb687 hg w11 hbox hb; have BK687 := Aside0.mk (hbox); have GW687 := Aside0.mk (gW hg tb); have GE687 := Aside0.mk (gW hg tb); replace HB := Aside0.mk (below_step tb hb); clear hb hbox hg; have hcz12_0 : w11.cell? ⟨gb687, 0, none⟩ = some (.int .i64 a0_0) := (blk_cell BK687.out 0).trans rfl; have hcz12_1 : w11.cell? ⟨gb687, 1, none⟩ = some (.int .i64 a0_1) := (blk_cell BK687.out 1).trans rfl; have hcz12_2 : w11.cell? ⟨gb687, 2, none⟩ = some (.int .i64 a0_2) := (blk_cell BK687.out 2).trans rfl; have hfz12_0 := blk_frozen BK687.out 0; have hfz12_1 := blk_frozen BK687.out 1; have hfz12_2 := blk_frozen BK687.out 2) | (refine gL 55 (some 5) Try.func55 #[.int .i64 a0_0, .int .i64 0, .int .i64 20] ?_; (with_reducible refine (spec_l1In.calls a0_0 0 20 true _ A2.out).mono ?_); rintro e w' ⟨rfl, ⟨nd, rfl⟩⟩; refine ⟨_, rfl, ?_⟩) | (go_at_call 55; (with_reducible refine (spec_l1In.calls a0_1 0 20 true _ A4.out).mono ?_); rintro e w' ⟨rfl, ⟨nd, rfl⟩⟩) | (go_at_call 55; (with_reducible refine (spec_l1In.calls a0_2 0 20 true _ A6.out).mono ?_); rintro e w' ⟨rfl, ⟨nd, rfl⟩⟩))
          go_ret
          exact ⟨rE, tG1 GE687.out⟩
      · replace c7 := Bool.eq_false_iff.mpr c7
        subst c7
        rw [if_neg (show ¬ (false = true) by decide)] at H
        obtain rfl := Option.some.inj H
        go_enter Try.func66, Try.ntmps66
        go_wp2_with (first | ((with_reducible refine gate_dst (N := 1) rfl ?_); refine box_event ?hg (N := 1) ?hd (cs := #[.int .i64 a0_0, .int .i64 a0_1, .int .i64 a0_2]) (t := 46) ?hr ?_; (case hd => rfl); (case hg => rfl); (case hr => exact gS); intro gb687 hg w13 hbox hb; have BK687 := Aside0.mk (hbox); have GW687 := Aside0.mk (gW hg tb); have GE687 := Aside0.mk (gW hg tb); replace HB := Aside0.mk (below_step tb hb); clear hb hbox hg; have hcz14_0 : w13.cell? ⟨gb687, 0, none⟩ = some (.int .i64 a0_0) := (blk_cell BK687.out 0).trans rfl; have hcz14_1 : w13.cell? ⟨gb687, 1, none⟩ = some (.int .i64 a0_1) := (blk_cell BK687.out 1).trans rfl; have hcz14_2 : w13.cell? ⟨gb687, 2, none⟩ = some (.int .i64 a0_2) := (blk_cell BK687.out 2).trans rfl; have hfz14_0 := blk_frozen BK687.out 0; have hfz14_1 := blk_frozen BK687.out 1; have hfz14_2 := blk_frozen BK687.out 2) | (refine gL 55 (some 5) Try.func55 #[.int .i64 a0_0, .int .i64 0, .int .i64 20] ?_; (with_reducible refine (spec_l1In.calls a0_0 0 20 true _ A2.out).mono ?_); rintro e w' ⟨rfl, ⟨nd, rfl⟩⟩; refine ⟨_, rfl, ?_⟩) | (go_at_call 55; (with_reducible refine (spec_l1In.calls a0_1 0 20 true _ A4.out).mono ?_); rintro e w' ⟨rfl, ⟨nd, rfl⟩⟩) | (go_at_call 55; (with_reducible refine (spec_l1In.calls a0_2 0 20 false _ A6.out).mono ?_); rintro e w' ⟨rfl, ⟨nd, rfl⟩⟩))
        go_ret
        exact ⟨rE, tG1 GE687.out⟩
    · replace c5 := Bool.eq_false_iff.mpr c5
      subst c5
      rw [if_neg (show ¬ (false = true) by decide)] at H
      obtain rfl := Option.some.inj H
      go_enter Try.func66, Try.ntmps66
      go_wp2_with (first | ((with_reducible refine gate_dst (N := 1) rfl ?_); refine box_event ?hg (N := 1) ?hd (cs := #[.int .i64 a0_0, .int .i64 a0_1, .int .i64 a0_2]) (t := 46) ?hr ?_; (case hd => rfl); (case hg => rfl); (case hr => exact gS); intro gb687 hg w15 hbox hb; have BK687 := Aside0.mk (hbox); have GW687 := Aside0.mk (gW hg tb); have GE687 := Aside0.mk (gW hg tb); replace HB := Aside0.mk (below_step tb hb); clear hb hbox hg; have hcz16_0 : w15.cell? ⟨gb687, 0, none⟩ = some (.int .i64 a0_0) := (blk_cell BK687.out 0).trans rfl; have hcz16_1 : w15.cell? ⟨gb687, 1, none⟩ = some (.int .i64 a0_1) := (blk_cell BK687.out 1).trans rfl; have hcz16_2 : w15.cell? ⟨gb687, 2, none⟩ = some (.int .i64 a0_2) := (blk_cell BK687.out 2).trans rfl; have hfz16_0 := blk_frozen BK687.out 0; have hfz16_1 := blk_frozen BK687.out 1; have hfz16_2 := blk_frozen BK687.out 2) | (refine gL 55 (some 5) Try.func55 #[.int .i64 a0_0, .int .i64 0, .int .i64 20] ?_; (with_reducible refine (spec_l1In.calls a0_0 0 20 true _ A2.out).mono ?_); rintro e w' ⟨rfl, ⟨nd, rfl⟩⟩; refine ⟨_, rfl, ?_⟩) | (go_at_call 55; (with_reducible refine (spec_l1In.calls a0_1 0 20 false _ A4.out).mono ?_); rintro e w' ⟨rfl, ⟨nd, rfl⟩⟩))
      go_ret
      exact ⟨rE, tG1 GE687.out⟩
  · replace c3 := Bool.eq_false_iff.mpr c3
    subst c3
    rw [if_neg (show ¬ (false = true) by decide)] at H
    obtain rfl := Option.some.inj H
    go_enter Try.func66, Try.ntmps66
    go_wp2_with (first | ((with_reducible refine gate_dst (N := 1) rfl ?_); refine box_event ?hg (N := 1) ?hd (cs := #[.int .i64 a0_0, .int .i64 a0_1, .int .i64 a0_2]) (t := 46) ?hr ?_; (case hd => rfl); (case hg => rfl); (case hr => exact gS); intro gb687 hg w17 hbox hb; have BK687 := Aside0.mk (hbox); have GW687 := Aside0.mk (gW hg tb); have GE687 := Aside0.mk (gW hg tb); replace HB := Aside0.mk (below_step tb hb); clear hb hbox hg; have hcz18_0 : w17.cell? ⟨gb687, 0, none⟩ = some (.int .i64 a0_0) := (blk_cell BK687.out 0).trans rfl; have hcz18_1 : w17.cell? ⟨gb687, 1, none⟩ = some (.int .i64 a0_1) := (blk_cell BK687.out 1).trans rfl; have hcz18_2 : w17.cell? ⟨gb687, 2, none⟩ = some (.int .i64 a0_2) := (blk_cell BK687.out 2).trans rfl; have hfz18_0 := blk_frozen BK687.out 0; have hfz18_1 := blk_frozen BK687.out 1; have hfz18_2 := blk_frozen BK687.out 2) | (refine gL 55 (some 5) Try.func55 #[.int .i64 a0_0, .int .i64 0, .int .i64 20] ?_; (with_reducible refine (spec_l1In.calls a0_0 0 20 false _ A2.out).mono ?_); rintro e w' ⟨rfl, ⟨nd, rfl⟩⟩; refine ⟨_, rfl, ?_⟩))
    go_ret
    exact ⟨rE, tG1 GE687.out⟩

/-! ### spec_EulerNumber: function 28 -/
def spec_EulerNumber.f (a0_0 : Int) (a0_1 : Int) (a0_2 : Int) : Option (Int) := (spec_IsSurface.f a0_0 a0_1 a0_2).bind fun t692 => (if t692 = true then (some (wrap64 ((wrap64 ((wrap64 (2 - (wrap64 (2 * a0_0)))) - a0_1)) - a0_2))) else (some (-100)))
set_option maxHeartbeats 8000000 in
set_option maxRecDepth 100000 in
theorem spec_EulerNumber.calls (a0_0 : Int) (a0_1 : Int) (a0_2 : Int) (r : Int) (w : World) (h : spec_EulerNumber.f a0_0 a0_1 a0_2 = some r) :
    Calls Try.prog 28 #[.agg #[.int .i64 a0_0, .int .i64 a0_1, .int .i64 a0_2]] w fun e w' => e = .returned (.int .i64 r) ∧ Below w.heap.size w w' := by
  have hu46 := Try.underlying46
  have HB := Aside0.mk (Below.refl w.heap.size w)
  have H : ((spec_IsSurface.f a0_0 a0_1 a0_2).bind fun t692 => (if t692 = true then (some (wrap64 ((wrap64 ((wrap64 (2 - (wrap64 (2 * a0_0)))) - a0_1)) - a0_2))) else (some (-100)))) = some r := h
  clear h
  obtain ⟨t692, A2, H⟩ := bs H
  by_cases c3 : t692 = true
  · subst c3
    rw [if_pos rfl] at H
    obtain rfl := Option.some.inj H
    go_enter Try.func28, Try.ntmps28
    go_wp2_with (first | ((with_reducible refine gate_dst (N := 1) rfl ?_); refine box_event ?hg (N := 1) ?hd (cs := #[.int .i64 a0_0, .int .i64 a0_1, .int .i64 a0_2]) (t := 46) ?hr ?_; (case hd => rfl); (case hg => rfl); (case hr => exact gS); intro gb691 hg w4 hbox hb; have BK691 := Aside0.mk (hbox); have GW691 := Aside0.mk (gW hg tb); have GE691 := Aside0.mk (gW hg tb); replace HB := Aside0.mk (below_step tb hb); clear hb hbox hg; have hcz5_0 : w4.cell? ⟨gb691, 0, none⟩ = some (.int .i64 a0_0) := (blk_cell BK691.out 0).trans rfl; have hcz5_1 : w4.cell? ⟨gb691, 1, none⟩ = some (.int .i64 a0_1) := (blk_cell BK691.out 1).trans rfl; have hcz5_2 : w4.cell? ⟨gb691, 2, none⟩ = some (.int .i64 a0_2) := (blk_cell BK691.out 2).trans rfl; have hfz5_0 := blk_frozen BK691.out 0; have hfz5_1 := blk_frozen BK691.out 1; have hfz5_2 := blk_frozen BK691.out 2) | (refine gL 66 (some 4) Try.func66 #[.agg #[.int .i64 a0_0, .int .i64 a0_1, .int .i64 a0_2]] ?_; (with_reducible refine (spec_IsSurface.calls a0_0 a0_1 a0_2 true _ A2.out).mono ?_); rintro e w6 ⟨rfl, hb⟩; refine ⟨_, rfl, ?_⟩; replace BK691 := Aside0.mk (bB BK691 hb); replace HB := Aside0.mk (below_step (tG1 GE691.out) hb); have hcz7_0 : w6.cell? ⟨gb691, 0, none⟩ = some (.int .i64 a0_0) := (blk_cell BK691.out 0).trans rfl; have hcz7_1 : w6.cell? ⟨gb691, 1, none⟩ = some (.int .i64 a0_1) := (blk_cell BK691.out 1).trans rfl; have hcz7_2 : w6.cell? ⟨gb691, 2, none⟩ = some (.int .i64 a0_2) := (blk_cell BK691.out 2).trans rfl; have hfz7_0 := blk_frozen BK691.out 0; have hfz7_1 := blk_frozen BK691.out 1; have hfz7_2 := blk_frozen BK691.out 2))
    go_ret
    exact ⟨rE, tG1 GE691.out⟩
  · replace c3 := Bool.eq_false_iff.mpr c3
    subst c3
    rw [if_neg (show ¬ (false = true) by decide)] at H
    obtain rfl := Option.some.inj H
    go_enter Try.func28, Try.ntmps28
    go_wp2_with (first | ((with_reducible refine gate_dst (N := 1) rfl ?_); refine box_event ?hg (N := 1) ?hd (cs := #[.int .i64 a0_0, .int .i64 a0_1, .int .i64 a0_2]) (t := 46) ?hr ?_; (case hd => rfl); (case hg => rfl); (case hr => exact gS); intro gb691 hg w8 hbox hb; have BK691 := Aside0.mk (hbox); have GW691 := Aside0.mk (gW hg tb); have GE691 := Aside0.mk (gW hg tb); replace HB := Aside0.mk (below_step tb hb); clear hb hbox hg; have hcz9_0 : w8.cell? ⟨gb691, 0, none⟩ = some (.int .i64 a0_0) := (blk_cell BK691.out 0).trans rfl; have hcz9_1 : w8.cell? ⟨gb691, 1, none⟩ = some (.int .i64 a0_1) := (blk_cell BK691.out 1).trans rfl; have hcz9_2 : w8.cell? ⟨gb691, 2, none⟩ = some (.int .i64 a0_2) := (blk_cell BK691.out 2).trans rfl; have hfz9_0 := blk_frozen BK691.out 0; have hfz9_1 := blk_frozen BK691.out 1; have hfz9_2 := blk_frozen BK691.out 2) | (refine gL 66 (some 4) Try.func66 #[.agg #[.int .i64 a0_0, .int .i64 a0_1, .int .i64 a0_2]] ?_; (with_reducible refine (spec_IsSurface.calls a0_0 a0_1 a0_2 false _ A2.out).mono ?_); rintro e w10 ⟨rfl, hb⟩; refine ⟨_, rfl, ?_⟩; replace BK691 := Aside0.mk (bB BK691 hb); replace HB := Aside0.mk (below_step (tG1 GE691.out) hb)))
    go_ret
    exact ⟨rE, tG1 GE691.out⟩

end Go.Proofs.Ytepogblkmiidnaa.PFnCovers
