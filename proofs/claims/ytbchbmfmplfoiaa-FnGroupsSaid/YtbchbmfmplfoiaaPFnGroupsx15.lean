import Derived.Test.YtbchbmfmplfoiaaWSpanB
import Derived.Test.YtbchbmfmplfoiaaPFnGroupsx0
import Derived.Test.YtbchbmfmplfoiaaPFnGroupsx5
import Derived.Test.YtbchbmfmplfoiaaPFnGroupsx6
import Derived.Test.YtbchbmfmplfoiaaPFnGroupsx14
namespace Go.Proofs.Ytbchbmfmplfoiaa.PFnGroups
open Go.RowKit Go.Proofs.YtbchbmfmplfoiaaW.PrintWords Go.Proofs.YtbchbmfmplfoiaaW.PrintLast Go.Proofs.YtbchbmfmplfoiaaW.PrintMore
attribute [local go_sem] max2_int min2_int max_two min_two max_three min_three max_four min_four   -- for this text's walks alone
set_option linter.unusedVariables false
set_option linter.unusedSimpArgs false

/-! ### spec_l9Act: function 54 -/
def spec_l9Act.l0 : Nat → List (List Int) → List Int → Int → Int → Option (Int)
 | 0, _, _, _, _ => none
 | k + 1, x0, x1, x2, x7 => if x7 < (x1.length : Int) then (if 0 ≤ x7 then ((spec_l3Abs.f (rd x1 x7)).bind fun t784 => (if 0 ≤ (wrap64 (t784 - 1)) then (if (wrap64 (t784 - 1)) < (x0.length : Int) then (if (rd x1 x7) < 0 then ((spec_l6Inverse.f k (rd_L2 x0 (wrap64 (t784 - 1)))).bind fun t787 => (if 0 ≤ x2 then (if x2 < (t787.length : Int) then (spec_l9Act.l0 k x0 x1 (rd t787 x2) (wrap64 (x7 + 1))) else (none)) else (none))) else (if 0 ≤ x2 then (if x2 < ((rd_L2 x0 (wrap64 (t784 - 1))).length : Int) then (spec_l9Act.l0 k x0 x1 (rd (rd_L2 x0 (wrap64 (t784 - 1))) x2) (wrap64 (x7 + 1))) else (none)) else (none))) else (none)) else (none))) else (none)) else (some x2)
def spec_l9Act.f (k : Nat) (l0 : List (List Int)) (l1 : List Int) (a2 : Int) : Option (Int) := spec_l9Act.l0 k l0 l1 a2 0
set_option maxHeartbeats 8000000 in
set_option maxRecDepth 100000 in
theorem spec_l9Act.calls (k : Nat) (A0 : Option Addr) (c0 : Nat) (l0 : List (List Int)) (A1 : Option Addr) (c1 : Nat) (l1 : List Int) (a2 : Int) (r : Int) (w : World) (hr0 : Kd.C (Kd.slice 3 (Kd.int .i64)) w A0 l0.length l0) (hc0 : l0.length ≤ c0) (hr1 : Kd.C (Kd.int .i64) w A1 l1.length l1) (hc1 : l1.length ≤ c1) (h : spec_l9Act.f k l0 l1 a2 = some r) :
  Calls Try.prog 54 #[.slice A0 l0.length c0, .slice A1 l1.length c1, .int .i64 a2] w fun e w' => e = .returned (.int .i64 r) ∧ Below w.heap.size w w' := by
 have HR0 := Aside0.mk hr0
 have HC0 := Aside0.mk hc0
 clear hr0 hc0
 have HR1 := Aside0.mk hr1
 have HC1 := Aside0.mk hc1
 clear hr1 hc1
 have HB := Aside0.mk (Below.refl w.heap.size w)
 have H : (spec_l9Act.l0 k l0 l1 a2 0) = some r := h
 clear h
 have H' := Aside0.mk H
 clear H
 go_enter Try.func54, Try.ntmps54
 go_wp2
 go_loopg [2, 7] k (fun kq v2 v7 w' => ∃ (x2_1 : Int) (x7_1 : Int), v2 = .int .i64 x2_1 ∧ v7 = .int .i64 x7_1 ∧ Aside0 (spec_l9Act.l0 kq l0 l1 x2_1 x7_1 = some r) ∧ Aside0 (kq ≤ k) ∧ Aside0 (Below w.heap.size w w'))
 case atStart => exact ⟨(a2), (0), rS, rS, H', ⟨Nat.le_refl _⟩, ⟨tb⟩⟩
 case round =>
  clear H'
  try clear c1
  try clear p2
  obtain ⟨x2_1, x7_1, rfl, rfl, HA, HK1, HB⟩ := hrel
  cases gk with
  | zero => exact absurd HA.out (by simp [spec_l9Act.l0])
  | succ k1 =>
   have H := HA.out
   clear HA
   simp only [spec_l9Act.l0] at H
   obtain ⟨c4b0, H⟩ | ⟨c4b0, H⟩ := gi H
   ·obtain ⟨c5b0, H⟩ := gdt H
    obtain ⟨t784, A6, H⟩ := bs H
    obtain ⟨ji7, hji7⟩ : ∃ j_ : Int, (wrap64 (t784 - 1)) = j_ := ⟨_, rfl⟩
    replace H : (if 0 ≤ (ji7) then (if (ji7) < (l0.length : Int) then (if (rd l1 x7_1) < 0 then ((spec_l6Inverse.f k1 (rd_L2 l0 (ji7))).bind fun t787 => (if 0 ≤ x2_1 then (if x2_1 < (t787.length : Int) then (spec_l9Act.l0 k1 l0 l1 (rd t787 x2_1) (wrap64 (x7_1 + 1))) else (none)) else (none))) else (if 0 ≤ x2_1 then (if x2_1 < ((rd_L2 l0 (ji7)).length : Int) then (spec_l9Act.l0 k1 l0 l1 (rd (rd_L2 l0 (ji7)) x2_1) (wrap64 (x7_1 + 1))) else (none)) else (none))) else (none)) else (none)) = some r := by first | (rw [hji7] at H; exact H) | (simp only [hji7] at H ⊢; exact H)
    (try rw [hji7] at A6)
    have hji7w : (IntKind.i64.wrap (t784 - 1)) = ji7 := (i64_w _).trans hji7
    obtain ⟨c8b0, H⟩ := gdt H
    obtain ⟨c9b0, H⟩ := gdt H
    obtain ⟨c10b0, H⟩ | ⟨c10b0, H⟩ := gi H
    ·obtain ⟨t787, A11, H⟩ := bs H
     obtain ⟨c12b0, H⟩ := gdt H
     obtain ⟨c13b0, H⟩ := gdt H
     have H' := Aside0.mk H
     clear H
     have p783 : 0 ≤ (x7_1 : Int) := dT
     have q783 : x7_1 < (l1.length : Int) := dT
     obtain ⟨ad783, e783, hx783_0⟩ := Kd.at_int HR1.out x7_1 p783 q783
     cases e783
     replace hx783_0 := cB HB hx783_0
     replace p783 := eq_true p783
     replace q783 := eq_true q783
     go_wp2_with (first | (refine gL 53 (some 20) Try.func53 #[.int .i64 (rd l1 x7_1)] ?_; (with_reducible refine (spec_l3Abs.calls (rd l1 x7_1) t784 _ A6.out).mono ?_); rintro e w' ⟨rfl, ⟨nd, rfl⟩⟩; refine ⟨_, rfl, ?_⟩; have p785 : 0 ≤ ((ji7) : Int) := dT; have q785 : (ji7) < (l0.length : Int) := dT; obtain ⟨ad785, A785_0, c785_0, e785, hx785_0, hl785_0, hi785_0⟩ := at_L2 HR0.out (ji7) p785 q785; cases e785; replace hx785_0 := cB HB hx785_0; have HR785_0 := Aside0.mk hi785_0; have HC785_0 := Aside0.mk hl785_0; clear hi785_0 hl785_0; replace p785 := eq_true p785; replace q785 := eq_true q785; have p786 : 0 ≤ (x7_1 : Int) := dT; have q786 : x7_1 < (l1.length : Int) := dT; obtain ⟨ad786, e786, hx786_0⟩ := Kd.at_int HR1.out x7_1 p786 q786; obtain rfl : ad783 = ad786 := (by injection e786); replace hx786_0 := cB HB hx786_0; replace p786 := eq_true p786; replace q786 := eq_true q786) | ((with_reducible refine gate_callee (f := 66) rfl ?_); refine goesL_ (some 30) rfl rfl Try.func66 (by kernel_rfl) rfl #[.slice A785_0 (rd_L2 l0 (ji7)).length c785_0] rfl (by (try simp only [List.map_toArray, List.map_cons, List.map_nil]); first | done | (simp only [hji7]; rfl) | rfl | (simp only [List.length_drop, List.length_take]; rfl)) ?_; (with_reducible refine (spec_l6Inverse.calls k1 _ _ (rd_L2 l0 (ji7)) t787 _ ?side1 ?side2 A11.out).mono ?_); (case side1 => exact C_l (Kd.C_below HR785_0.out tb)); (case side2 => exact HC785_0.out); rintro e w14 ⟨v788, rfl, ho0, hb⟩; refine ⟨_, rfl, ?_⟩; have HO789 := Aside0.mk (Kd.R_lower ho0 (below_size tb)); replace HB := Aside0.mk (below_step tb hb); obtain ⟨Ao15, co15, eo15⟩ := Kd.R_slice HO789.out; subst eo15; have p790 : 0 ≤ (x2_1 : Int) := dT; have q790 : x2_1 < (t787.length : Int) := dT; obtain ⟨ad790, e790, hx790_0⟩ := Kd.at_int (Kd.R_reads' HO789.out).2.2 x2_1 p790 q790; cases e790; replace p790 := eq_true p790; replace q790 := eq_true q790))
     go_roundg k1
     case measure => exact oK
     case rel => exact ⟨(rd t787 x2_1), (wrap64 (x7_1 + 1)), rS, rS, H', ⟨oK⟩, ⟨tb⟩⟩
    ·obtain ⟨c16b0, H⟩ := gdt H
     obtain ⟨c17b0, H⟩ := gdt H
     have H' := Aside0.mk H
     clear H
     have p783 : 0 ≤ (x7_1 : Int) := dT
     have q783 : x7_1 < (l1.length : Int) := dT
     obtain ⟨ad783, e783, hx783_0⟩ := Kd.at_int HR1.out x7_1 p783 q783
     cases e783
     replace hx783_0 := cB HB hx783_0
     replace p783 := eq_true p783
     replace q783 := eq_true q783
     go_wp2_with (first | (refine gL 53 (some 20) Try.func53 #[.int .i64 (rd l1 x7_1)] ?_; (with_reducible refine (spec_l3Abs.calls (rd l1 x7_1) t784 _ A6.out).mono ?_); rintro e w' ⟨rfl, ⟨nd, rfl⟩⟩; refine ⟨_, rfl, ?_⟩; have p785 : 0 ≤ ((ji7) : Int) := dT; have q785 : (ji7) < (l0.length : Int) := dT; obtain ⟨ad785, A785_0, c785_0, e785, hx785_0, hl785_0, hi785_0⟩ := at_L2 HR0.out (ji7) p785 q785; cases e785; replace hx785_0 := cB HB hx785_0; have HR785_0 := Aside0.mk hi785_0; have HC785_0 := Aside0.mk hl785_0; clear hi785_0 hl785_0; replace p785 := eq_true p785; replace q785 := eq_true q785; have p786 : 0 ≤ (x7_1 : Int) := dT; have q786 : x7_1 < (l1.length : Int) := dT; obtain ⟨ad786, e786, hx786_0⟩ := Kd.at_int HR1.out x7_1 p786 q786; obtain rfl : ad783 = ad786 := (by injection e786); replace hx786_0 := cB HB hx786_0; replace p786 := eq_true p786; replace q786 := eq_true q786; have p791 : 0 ≤ (x2_1 : Int) := dT; have q791 : x2_1 < ((rd_L2 l0 (ji7)).length : Int) := dT; obtain ⟨ad791, e791, hx791_0⟩ := Kd.at_int HR785_0.out x2_1 p791 q791; cases e791; replace hx791_0 := cB HB hx791_0; replace p791 := eq_true p791; replace q791 := eq_true q791))
     go_roundg k1
     case measure => exact oK
     case rel => exact ⟨(rd (rd_L2 l0 (ji7)) x2_1), (wrap64 (x7_1 + 1)), (by first | rfl | (simp; done) | (simp only [← hji7] <;> (first | rfl | simp)) | (simp [*]; done)), rS, H', ⟨oK⟩, ⟨tb⟩⟩
   ·obtain rfl := Option.some.inj H
    go_wp2
    go_ret
    exact ⟨rE, tb⟩

/-! ### spec_ActWord: function 28 -/
mutual
def spec_ActWord.j0 : Nat → List (List Int) → List Int → Bool → Option (List Int)
 | 0, _, _, _ => none
 | k + 1, x0, x1, x15 => if x15 = true then (some (([] : List Int))) else (spec_ActWord.l0 k x0 x1 0)
def spec_ActWord.l0 : Nat → List (List Int) → List Int → Int → Option (List Int)
 | 0, _, _, _ => none
 | k + 1, x0, x1, x5 => if x5 < (x1.length : Int) then (if 0 ≤ x5 then ((spec_l3Abs.f (rd x1 x5)).bind fun t798 => (if t798 > (x0.length : Int) then (some (([] : List Int))) else (spec_ActWord.l0 k x0 x1 (wrap64 (x5 + 1))))) else (none)) else (spec_ActWord.l1 k x0 x1 (([] : List Int)) 0)
def spec_ActWord.l1 : Nat → List (List Int) → List Int → List Int → Int → Option (List Int)
 | 0, _, _, _, _ => none
 | k + 1, x0, x1, x6, x7 => if 0 < (x0.length : Int) then (if x7 < ((rd_L2 x0 0).length : Int) then ((spec_l9Act.f k x0 x1 x7).bind fun t806 => (if x6.length < 17592186044416 then (spec_ActWord.l1 k x0 x1 (x6 ++ [t806]) (wrap64 (x7 + 1))) else (none))) else (some x6)) else (none)
end
def spec_ActWord.f (k : Nat) (l0 : List (List Int)) (l1 : List Int) : Option (List Int) := (spec_l9Perms.f k l0).bind fun t792 => (if t792 = true then ((spec_IsWord.f k l1).bind fun t793 => (spec_ActWord.j0 k l0 l1 (!t793))) else (spec_ActWord.j0 k l0 l1 true))
set_option maxHeartbeats 8000000 in
set_option maxRecDepth 100000 in
theorem spec_ActWord.calls (k : Nat) (A0 : Option Addr) (c0 : Nat) (l0 : List (List Int)) (A1 : Option Addr) (c1 : Nat) (l1 : List Int) (r : List Int) (w : World) (hr0 : Kd.C (Kd.slice 3 (Kd.int .i64)) w A0 l0.length l0) (hc0 : l0.length ≤ c0) (hr1 : Kd.C (Kd.int .i64) w A1 l1.length l1) (hc1 : l1.length ≤ c1) (h : spec_ActWord.f k l0 l1 = some r) :
  Calls Try.prog 28 #[.slice A0 l0.length c0, .slice A1 l1.length c1] w fun e w' => ∃ v0_ : Value, e = .returned (v0_) ∧ Kd.R (Kd.int .i64) 3 w' w.heap.size (fun _ => True) v0_ r ∧ Below w.heap.size w w' := by
 have HR0 := Aside0.mk hr0
 have HC0 := Aside0.mk hc0
 clear hr0 hc0
 have HR1 := Aside0.mk hr1
 have HC1 := Aside0.mk hc1
 clear hr1 hc1
 have HB := Aside0.mk (Below.refl w.heap.size w)
 have H : ((spec_l9Perms.f k l0).bind fun t792 => (if t792 = true then ((spec_IsWord.f k l1).bind fun t793 => (spec_ActWord.j0 k l0 l1 (!t793))) else (spec_ActWord.j0 k l0 l1 true))) = some r := h
 clear h
 have HC3 := Aside0.mk H
 clear H
 go_enter Try.func28, Try.ntmps28
 go_upto_region 1 with (fail)
 go_cut [15] (fun v15 wc => ∃ (kq : Nat) (x15_2 : Bool), v15 = .bool x15_2 ∧ Aside0 (spec_ActWord.j0 kq l0 l1 x15_2 = some r) ∧ Aside0 (kq ≤ k) ∧ Aside0 (Below w.heap.size w wc))
 case first =>
  have H := HC3.out
  clear HC3
  obtain ⟨t792, A4, H⟩ := bs H
  by_cases c5 : t792 = true
  ·subst c5
   rw [if_pos rfl] at H
   obtain ⟨t793, A6, H⟩ := bs H
   have H' := Aside0.mk H
   clear H
   go_wp2_with (first | (refine gL 52 (some 9) Try.func52 #[.slice A0 l0.length c0] ?_; (with_reducible refine (spec_l9Perms.calls k _ _ l0 true _ ?side1 ?side2 A4.out).mono ?_); (case side1 => exact C_l (Kd.C_below HR0.out HB.out)); (case side2 => exact HC0.out); rintro e w7 ⟨rfl, hb⟩; refine ⟨_, rfl, ?_⟩; replace HB := Aside0.mk (below_step tb hb)) | (go_at_call 50; (with_reducible refine (spec_IsWord.calls k _ _ l1 t793 _ ?side1 ?side2 A6.out).mono ?_); (case side1 => exact C_l (Kd.C_below HR1.out HB.out)); (case side2 => exact HC1.out); rintro e w' ⟨rfl, ⟨nd, rfl⟩⟩))
   go_meet
   case rel => exact ⟨_, (!t793), rS, H', ⟨by first | omega | exact Nat.le_refl _⟩, ⟨tb⟩⟩
  ·replace c5 := Bool.eq_false_iff.mpr c5
   subst c5
   rw [if_neg (show ¬ (false = true) by decide)] at H
   have H' := Aside0.mk H
   clear H
   go_wp2_with (first | (refine gL 52 (some 9) Try.func52 #[.slice A0 l0.length c0] ?_; (with_reducible refine (spec_l9Perms.calls k _ _ l0 false _ ?side1 ?side2 A4.out).mono ?_); (case side1 => exact C_l (Kd.C_below HR0.out HB.out)); (case side2 => exact HC0.out); rintro e w8 ⟨rfl, hb⟩; refine ⟨_, rfl, ?_⟩; replace HB := Aside0.mk (below_step tb hb)))
   go_meet
   case rel => exact ⟨_, (true), rS, H', ⟨by first | omega | exact Nat.le_refl _⟩, ⟨tb⟩⟩
 case rest =>
  clear HC3
  try clear c1
  try clear c2
  try clear p2
  try clear c5
  obtain ⟨kq, x15_2, rfl, HA, HJ2, HB⟩ := hcut
  cases kq with
  | zero => exact absurd HA.out (by simp [spec_ActWord.j0])
  | succ kj2 =>
   have H := HA.out
   clear HA
   simp only [spec_ActWord.j0] at H
   by_cases c9 : x15_2 = true
   ·subst c9
    rw [if_pos rfl] at H
    generalize hy794 : (([] : List Int) : List Int) = y794 at H
    have Ny794 := Aside0.mk hy794.symm; clear hy794
    obtain rfl := Option.some.inj H
    go_wp2_with (first | ((with_reducible refine gate_dst (N := 16) rfl ?_); refine Kd.R_lit (Kd.int .i64) _ 3 ?hg (N := 16) ?hd (xs := ([] : List Int)) (inner := []) (ok := fun _ => True) (okp := fun _ => True) ?hr ?hp (fun _ hk => hk) trivial (Below.refl _ _) (Nat.le_refl _) (by simp) ?_; (case hd => rfl); (case hg => rfl); (case hr => exact gS); (case hp => exact (Reps.none _ _)); intro v795 w10 ho11 hb hg_ hnew_; clear hg_ hnew_; (first | rw [← Ny794.out] at ho11 | (simp only [Int.reduceToNat] at ho11; rw [← Ny794.out] at ho11)); have HO796 := Aside0.mk (Kd.R_lower ho11 (below_size tb)); replace HB := Aside0.mk (below_step tb hb); clear hb ho11))
    go_ret
    exact ⟨_, rE, R_l HO796.out, tb⟩
   ·replace c9 := Bool.eq_false_iff.mpr c9
    subst c9
    rw [if_neg (show ¬ (false = true) by decide)] at H
    have H' := Aside0.mk H
    clear H
    go_wp2
    go_loopg [5] kj2 (fun kq v5 w' => ∃ (x5_2 : Int), v5 = .int .i64 x5_2 ∧ Aside0 (spec_ActWord.l0 kq l0 l1 x5_2 = some r) ∧ Aside0 (kq ≤ kj2) ∧ Aside0 (Below w.heap.size w w'))
    case atStart => exact ⟨(0), rS, H', ⟨Nat.le_refl _⟩, ⟨tb⟩⟩
    case round =>
     clear H'
     try clear c1
     try clear c2
     try clear p2
     try clear c5
     try clear c9
     try clear p2
     obtain ⟨x5_2, rfl, HA, HK2, HB⟩ := hrel
     cases gk with
     | zero => exact absurd HA.out (by simp [spec_ActWord.l0])
     | succ k2 =>
      have H := HA.out
      clear HA
      simp only [spec_ActWord.l0] at H
      obtain ⟨c12b0, H⟩ | ⟨c12b0, H⟩ := gi H
      ·obtain ⟨c13b0, H⟩ := gdt H
       obtain ⟨t798, A14, H⟩ := bs H
       by_cases c15 : t798 > (l0.length : Int)
       ·rw [if_pos c15] at H
        have c15b0 : decide ((l0.length : Int) < t798) = true := decide_eq_true c15
        clear c15
        generalize hy799 : (([] : List Int) : List Int) = y799 at H
        have Ny799 := Aside0.mk hy799.symm; clear hy799
        obtain rfl := Option.some.inj H
        have p797 : 0 ≤ (x5_2 : Int) := dT
        have q797 : x5_2 < (l1.length : Int) := dT
        obtain ⟨ad797, e797, hx797_0⟩ := Kd.at_int HR1.out x5_2 p797 q797
        cases e797
        replace hx797_0 := cB HB hx797_0
        replace p797 := eq_true p797
        replace q797 := eq_true q797
        go_wp2_with (first | (refine gL 53 (some 27) Try.func53 #[.int .i64 (rd l1 x5_2)] ?_; (with_reducible refine (spec_l3Abs.calls (rd l1 x5_2) t798 _ A14.out).mono ?_); rintro e w' ⟨rfl, ⟨nd, rfl⟩⟩; refine ⟨_, rfl, ?_⟩) | ((with_reducible refine gate_dst (N := 31) rfl ?_); refine Kd.R_lit (Kd.int .i64) _ 3 ?hg (N := 31) ?hd (xs := ([] : List Int)) (inner := []) (ok := fun _ => True) (okp := fun _ => True) ?hr ?hp (fun _ hk => hk) trivial (Below.refl _ _) (Nat.le_refl _) (by simp) ?_; (case hd => rfl); (case hg => rfl); (case hr => exact gS); (case hp => exact (Reps.none _ _)); intro v800 w16 ho17 hb hg_ hnew_; clear hg_ hnew_; (first | rw [← Ny799.out] at ho17 | (simp only [Int.reduceToNat] at ho17; rw [← Ny799.out] at ho17)); have HO801 := Aside0.mk (Kd.R_lower ho17 (below_size tb)); replace HB := Aside0.mk (below_step tb hb); clear hb ho17))
        go_ret
        exact ⟨_, rE, R_l HO801.out, tb⟩
       ·rw [if_neg c15] at H
        have c15b0 : decide ((l0.length : Int) < t798) = false := decide_eq_false c15
        clear c15
        have H' := Aside0.mk H
        clear H
        have p797 : 0 ≤ (x5_2 : Int) := dT
        have q797 : x5_2 < (l1.length : Int) := dT
        obtain ⟨ad797, e797, hx797_0⟩ := Kd.at_int HR1.out x5_2 p797 q797
        cases e797
        replace hx797_0 := cB HB hx797_0
        replace p797 := eq_true p797
        replace q797 := eq_true q797
        go_wp2_with (first | (refine gL 53 (some 27) Try.func53 #[.int .i64 (rd l1 x5_2)] ?_; (with_reducible refine (spec_l3Abs.calls (rd l1 x5_2) t798 _ A14.out).mono ?_); rintro e w' ⟨rfl, ⟨nd, rfl⟩⟩; refine ⟨_, rfl, ?_⟩))
        go_roundg k2
        case measure => have := HJ2.out; have := HK2.out; omega
        case rel => exact ⟨(wrap64 (x5_2 + 1)), rS, H', ⟨by have := HJ2.out; have := HK2.out; omega⟩, ⟨tb⟩⟩
      ·obtain ⟨y802, hy802⟩ : ∃ y_ : List Int, y_ = (([] : List Int)) := ⟨_, rfl⟩
       replace H : (spec_ActWord.l1 k2 l0 l1 y802 0) = some r := by first | (rw [hy802]; with_reducible exact H) | (have H2_ := (Option.bind_some _ _).symm.trans H; rw [hy802]; with_reducible exact H2_) | (have H2_ := (Option.bind_some _ _).symm.trans H; with_reducible exact H2_) | with_reducible exact H | (rw [hy802]; exact H) | exact H
       have Ny802 := Aside0.mk hy802
       clear hy802
       have H' := Aside0.mk H
       clear H
       go_wp2_with (first | ((with_reducible refine gate_dst (N := 32) rfl ?_); refine Kd.R_lit (Kd.int .i64) _ 3 ?hg (N := 32) ?hd (xs := ([] : List Int)) (inner := []) (ok := fun _ => True) (okp := fun _ => True) ?hr ?hp (fun _ hk => hk) trivial (Below.refl _ _) (Nat.le_refl _) (by simp) ?_; (case hd => rfl); (case hg => rfl); (case hr => exact gS); (case hp => exact (Reps.none _ _)); intro v803 w18 ho19 hb hg_ hnew_; clear hg_ hnew_; (first | rw [← Ny802.out] at ho19 | (simp only [Int.reduceToNat] at ho19; rw [← Ny802.out] at ho19)); have HO804 := Aside0.mk (Kd.R_lower ho19 (below_size tb)); replace HB := Aside0.mk (below_step tb hb); clear hb ho19))
       go_loopg [6, 7] k2 (fun kq v6 v7 w' => ∃ (x6_3 : List Int) (x7_3 : Int), v7 = .int .i64 x7_3 ∧ Aside0 (spec_ActWord.l1 kq l0 l1 x6_3 x7_3 = some r) ∧ Aside0 (kq ≤ k2) ∧ Aside0 (Kd.R (Kd.int .i64) 3 w' w.heap.size (fun _ => True) v6 x6_3) ∧ Aside0 (Below w.heap.size w w'))
       case atStart => exact ⟨(y802), (0), rS, H', ⟨Nat.le_refl _⟩, ⟨R_l HO804.out⟩, ⟨tb⟩⟩
       case round =>
        clear H'
        try clear c1
        try clear c2
        try clear p2
        try clear c5
        try clear p6
        try clear p7
        try clear q7
        try clear hx7
        try clear c9
        try clear c12
        try clear c12b0
        try clear c13
        try clear c13b0
        try clear c15
        try clear c15b0
        try clear hx797_0
        try clear p2
        try clear p797
        try clear q797
        obtain ⟨x6_3, x7_3, rfl, HA, HK3, HO_6, HB⟩ := hrel
        cases gk with
        | zero => exact absurd HA.out (by simp [spec_ActWord.l1])
        | succ k3 =>
         have H := HA.out
         clear HA
         simp only [spec_ActWord.l1] at H
         by_cases c20 : 0 < (l0.length : Int)
         ·rw [if_pos c20] at H
          have c20b0 : decide (0 < (l0.length : Int)) = true := decide_eq_true c20
          have c20b1 : decide (0 < l0.length) = true := decide_eq_true (by omega)
          clear c20
          obtain ⟨c21b0, H⟩ | ⟨c21b0, H⟩ := gi H
          ·obtain ⟨t806, A22, H⟩ := bs H
           obtain ⟨LMc23, H⟩ := gda H
           generalize hy807 : (x6_3 ++ [t806] : List Int) = y807 at H
           have Ny807 := Aside0.mk hy807.symm; clear hy807
           have H' := Aside0.mk H
           clear H
           have p805 : 0 ≤ (0 : Int) := (by omega)
           have q805 : 0 < (l0.length : Int) := dT
           obtain ⟨ad805, A805_0, c805_0, e805, hx805_0, hl805_0, hi805_0⟩ := at_L2 HR0.out 0 p805 q805
           cases e805
           have qi805 : (0 < l0.length) = True := eq_true (by omega)
           (try rw [show ((0 : Int)).toNat = 0 from rfl] at hx805_0)
           (try rw [Addr.add_zero'] at hx805_0)
           replace hx805_0 := cB HB hx805_0
           have HR805_0 := Aside0.mk hi805_0
           have HC805_0 := Aside0.mk hl805_0
           clear hi805_0 hl805_0
           replace p805 := eq_true p805
           replace q805 := eq_true q805
           go_wp2_with (first | (refine gL 54 (some 45) Try.func54 #[.slice (some ad805) l0.length c0, .slice A1 l1.length c1, .int .i64 x7_3] ?_; (with_reducible refine (spec_l9Act.calls k3 _ _ l0 _ _ l1 x7_3 t806 _ ?side1 ?side2 ?side3 ?side4 A22.out).mono ?_); (case side1 => exact C_l (Kd.C_below HR0.out HB.out)); (case side2 => exact HC0.out); (case side3 => exact C_l (Kd.C_below HR1.out HB.out)); (case side4 => exact HC1.out); rintro e w24 ⟨rfl, hb⟩; refine ⟨_, rfl, ?_⟩; replace HO_6 := Aside0.mk (rB HO_6.out hb); replace HB := Aside0.mk (below_step tb hb)) | ((with_reducible refine gate_builtin (b := .append) (xs := #[.tmp 41, .tmp 46]) rfl ?_); at_builtin; refine Kd.R_append (Kd.int .i64) (w0 := w) w.heap.size rfl (.tmp 41) (.tmp 46) 24 3 (.int .i64 0) 8 rfl Try.underlying24 info3 rfl (by decide) (by omega) u6 x6_3 t806 [.int .i64 t806] (fun _ => True) (fun _ => False) rfl rfl ?aP (fun _ hk => hk.elim) ?aF ?aO ?aB ?aS ?aL ?_; (case aP => exact rfl); (case aB => exact tb); (case aF => exact (fun _ _ => trivial)); (case aO => exact (R_l HO_6.out)); (case aS => exact (below_size tb)); (case aL => have := LMc23.out; omega); intro v808 w25 ho hb hg hat; rw [← Ny807.out] at ho; replace HB := Aside0.mk (hb); have HO809 := Aside0.mk (ho); clear HO_6; clear ho hb hg hat))
           go_roundg k3
           case measure => have := HJ2.out; have := HK2.out; have := HK3.out; omega
           case rel => exact ⟨(y807), (wrap64 (x7_3 + 1)), rS, H', ⟨by have := HJ2.out; have := HK2.out; have := HK3.out; omega⟩, ⟨R_l HO809.out⟩, ⟨tb⟩⟩
          ·obtain rfl := Option.some.inj H
           have p805 : 0 ≤ (0 : Int) := (by omega)
           have q805 : 0 < (l0.length : Int) := dT
           obtain ⟨ad805, A805_0, c805_0, e805, hx805_0, hl805_0, hi805_0⟩ := at_L2 HR0.out 0 p805 q805
           cases e805
           have qi805 : (0 < l0.length) = True := eq_true (by omega)
           (try rw [show ((0 : Int)).toNat = 0 from rfl] at hx805_0)
           (try rw [Addr.add_zero'] at hx805_0)
           replace hx805_0 := cB HB hx805_0
           have HR805_0 := Aside0.mk hi805_0
           have HC805_0 := Aside0.mk hl805_0
           clear hi805_0 hl805_0
           replace p805 := eq_true p805
           replace q805 := eq_true q805
           go_wp2
           go_ret
           exact ⟨_, rE, R_l HO_6.out, tb⟩
         ·rw [if_neg c20] at H
          exact absurd H (by simp)

end Go.Proofs.Ytbchbmfmplfoiaa.PFnGroups
