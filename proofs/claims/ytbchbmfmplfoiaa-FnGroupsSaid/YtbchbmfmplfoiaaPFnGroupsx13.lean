import Derived.Test.YtbchbmfmplfoiaaWSpanB
import Derived.Test.YtbchbmfmplfoiaaPFnGroupsx0
import Derived.Test.YtbchbmfmplfoiaaPFnGroupsx2
import Derived.Test.YtbchbmfmplfoiaaPFnGroupsx5
namespace Go.Proofs.Ytbchbmfmplfoiaa.PFnGroups
open Go.RowKit Go.Proofs.YtbchbmfmplfoiaaW.PrintWords Go.Proofs.YtbchbmfmplfoiaaW.PrintLast Go.Proofs.YtbchbmfmplfoiaaW.PrintMore
attribute [local go_sem] max2_int min2_int max_two min_two max_three min_three max_four min_four   -- for this text's walks alone
set_option linter.unusedVariables false
set_option linter.unusedSimpArgs false

/-! ### spec_TurnWord: function 27 -/
def spec_TurnWord.f (k : Nat) (l0 : List Int) (a1 : Int) : Option (List Int) := (spec_IsWord.f k l0).bind fun t755 => (if t755 = true then ((spec_l2Turn.f l0 a1).bind fun t756 => (some t756)) else (some (([] : List Int))))
set_option maxHeartbeats 8000000 in
set_option maxRecDepth 100000 in
theorem spec_TurnWord.calls (k : Nat) (A0 : Option Addr) (c0 : Nat) (l0 : List Int) (a1 : Int) (r : List Int) (w : World) (hr0 : Kd.C (Kd.int .i64) w A0 l0.length l0) (hc0 : l0.length ≤ c0) (h : spec_TurnWord.f k l0 a1 = some r) :
  Calls Try.prog 27 #[.slice A0 l0.length c0, .int .i64 a1] w fun e w' => ∃ v0_ : Value, e = .returned (v0_) ∧ Kd.R (Kd.int .i64) 3 w' w.heap.size (fun _ => True) v0_ r ∧ Below w.heap.size w w' := by
 have HR0 := Aside0.mk hr0
 have HC0 := Aside0.mk hc0
 clear hr0 hc0
 have HB := Aside0.mk (Below.refl w.heap.size w)
 have H : ((spec_IsWord.f k l0).bind fun t755 => (if t755 = true then ((spec_l2Turn.f l0 a1).bind fun t756 => (some t756)) else (some (([] : List Int))))) = some r := h
 clear h
 obtain ⟨t755, A3, H⟩ := bs H
 by_cases c4 : t755 = true
 ·subst c4
  rw [if_pos rfl] at H
  obtain ⟨t756, A5, H⟩ := bs H
  obtain rfl := Option.some.inj H
  go_enter Try.func27, Try.ntmps27
  go_wp2_with (first | (refine gL 50 (some 6) Try.func50 #[.slice A0 l0.length c0] ?_; (with_reducible refine (spec_IsWord.calls k _ _ l0 true _ ?side1 ?side2 A3.out).mono ?_); (case side1 => exact C_l HR0.out); (case side2 => exact HC0.out); rintro e w' ⟨rfl, ⟨nd, rfl⟩⟩; refine ⟨_, rfl, ?_⟩) | (refine gL 51 (some 11) Try.func51 #[.slice A0 l0.length c0, .int .i64 a1] ?_; (with_reducible refine (spec_l2Turn.calls _ _ l0 a1 t756 _ ?side1 ?side2 A5.out).mono ?_); (case side1 => exact C_l HR0.out); (case side2 => exact HC0.out); rintro e w6 ⟨v757, rfl, ho0, hb⟩; refine ⟨_, rfl, ?_⟩; have HO758 := Aside0.mk (Kd.R_lower ho0 (below_size tb)); replace HB := Aside0.mk (below_step tb hb)))
  go_ret
  exact ⟨_, rE, R_l HO758.out, tb⟩
 ·replace c4 := Bool.eq_false_iff.mpr c4
  subst c4
  rw [if_neg (show ¬ (false = true) by decide)] at H
  generalize hy759 : (([] : List Int) : List Int) = y759 at H
  have Ny759 := Aside0.mk hy759.symm; clear hy759
  obtain rfl := Option.some.inj H
  go_enter Try.func27, Try.ntmps27
  go_wp2_with (first | (refine gL 50 (some 6) Try.func50 #[.slice A0 l0.length c0] ?_; (with_reducible refine (spec_IsWord.calls k _ _ l0 false _ ?side1 ?side2 A3.out).mono ?_); (case side1 => exact C_l HR0.out); (case side2 => exact HC0.out); rintro e w' ⟨rfl, ⟨nd, rfl⟩⟩; refine ⟨_, rfl, ?_⟩) | ((with_reducible refine gate_dst (N := 8) rfl ?_); refine Kd.R_lit (Kd.int .i64) _ 3 ?hg (N := 8) ?hd (xs := ([] : List Int)) (inner := []) (ok := fun _ => True) (okp := fun _ => True) ?hr ?hp (fun _ hk => hk) trivial (Below.refl _ _) (Nat.le_refl _) (by simp) ?_; (case hd => rfl); (case hg => rfl); (case hr => exact gS); (case hp => exact (Reps.none _ _)); intro v760 w7 ho8 hb hg_ hnew_; clear hg_ hnew_; (first | rw [← Ny759.out] at ho8 | (simp only [Int.reduceToNat] at ho8; rw [← Ny759.out] at ho8)); have HO761 := Aside0.mk (Kd.R_lower ho8 (below_size tb)); replace HB := Aside0.mk (below_step tb hb); clear hb ho8))
  go_ret
  exact ⟨_, rE, R_l HO761.out, tb⟩

/-! ### spec_l6Perm: function 64 -/
def spec_l6Perm.l0 : Nat → List Int → List Bool → Int → Option (Bool)
 | 0, _, _, _ => none
 | k + 1, x0, x3, x4 => if x4 < (x0.length : Int) then (if 0 ≤ x4 then ((spec_l1In.f (rd x0 x4) 0 (wrap64 ((x0.length : Int) - 1))).bind fun t766 => (if t766 = true then (if 0 ≤ (rd x0 x4) then (if (rd x0 x4) < (x3.length : Int) then (if rdOf false x3 (rd x0 x4) = true then (some false) else (spec_l6Perm.l0 k x0 (x3.set ((rd x0 x4) : Int).toNat true) (wrap64 (x4 + 1)))) else (none)) else (none)) else (some false))) else (none)) else (some true)
def spec_l6Perm.f (k : Nat) (l0 : List Int) : Option (Bool) := if 0 ≤ (l0.length : Int) then (if ((l0.length : Int) : Int).toNat ≤ 281474976710656 then (spec_l6Perm.l0 k l0 (List.replicate ((l0.length : Int) : Int).toNat false) 0) else (none)) else (none)
set_option maxHeartbeats 8000000 in
set_option maxRecDepth 100000 in
theorem spec_l6Perm.calls (k : Nat) (A0 : Option Addr) (c0 : Nat) (l0 : List Int) (r : Bool) (w : World) (hr0 : Kd.C (Kd.int .i64) w A0 l0.length l0) (hc0 : l0.length ≤ c0) (h : spec_l6Perm.f k l0 = some r) :
  Calls Try.prog 64 #[.slice A0 l0.length c0] w fun e w' => e = .returned (.bool r) ∧ Below w.heap.size w w' := by
 have HR0 := Aside0.mk hr0
 have HC0 := Aside0.mk hc0
 clear hr0 hc0
 have HB := Aside0.mk (Below.refl w.heap.size w)
 have H : (if 0 ≤ (l0.length : Int) then (if ((l0.length : Int) : Int).toNat ≤ 281474976710656 then (spec_l6Perm.l0 k l0 (List.replicate ((l0.length : Int) : Int).toNat false) 0) else (none)) else (none)) = some r := h
 clear h
 by_cases c2 : 0 ≤ (l0.length : Int)
 ·rw [if_pos c2] at H
  have c2b0 := eq_true c2
  have c2b1 : decide (0 ≤ (l0.length : Int)) = true := decide_eq_true c2
  clear c2
  obtain ⟨c3, H⟩ := gd H
  have c3b0 := eq_true c3
  have c3b1 : decide (((l0.length : Int) : Int).toNat ≤ 281474976710656) = true := decide_eq_true c3
  clear c3
  generalize hy762 : (List.replicate ((l0.length : Int) : Int).toNat false : List Bool) = y762 at H
  have Ny762 := Aside0.mk hy762.symm; clear hy762
  have H' := Aside0.mk H
  clear H
  go_enter Try.func64, Try.ntmps64
  go_wp2_with (first | ((with_reducible refine gate_dst (N := 7) rfl ?_); refine Kd.R_make Kd.bool _ 4 rfl (N := 7) rfl 64 _ _ rfl (l0.length : Int) rfl rfl Try.underlying64 (.bool false) 1 info4 rfl (by decide) (by omega) false (ok := fun _ => True) (okp := fun _ => True) rfl (fun _ hk => hk) trivial dT (Nat.le_trans (Nat.mul_le_mul_right _ (dT : (l0.length : Int).toNat ≤ 281474976710656)) (by omega)) (Below.refl _ _) (Nat.le_refl _) ?_; intro v763 w4 ho5 hb hg_ hnew_; clear hg_ hnew_; (first | rw [← Ny762.out] at ho5 | (simp only [Int.reduceToNat] at ho5; rw [← Ny762.out] at ho5)); have HO764 := Aside0.mk (Kd.R_lower ho5 (below_size tb)); replace HB := Aside0.mk (below_step tb hb); clear hb ho5))
  go_loopg [4] k (fun kq v4 w' => ∃ (x3_1 : List Bool) (x4_1 : Int), v4 = .int .i64 x4_1 ∧ Aside0 (spec_l6Perm.l0 kq l0 x3_1 x4_1 = some r) ∧ Aside0 (kq ≤ k) ∧ Aside0 (Kd.R Kd.bool 4 w' w.heap.size (fun _ => True) v763 x3_1) ∧ Aside0 (Below w.heap.size w w'))
  case atStart => exact ⟨(y762), (0), rS, H', ⟨Nat.le_refl _⟩, ⟨R_l HO764.out⟩, ⟨tb⟩⟩
  case round =>
   clear H'
   try clear c2
   try clear c2b0
   try clear c2b1
   try clear p2
   try clear c3
   try clear c3b0
   try clear c3b1
   obtain ⟨x3_1, x4_1, rfl, HA, HK1, HO_3, HB⟩ := hrel
   cases gk with
   | zero => exact absurd HA.out (by simp [spec_l6Perm.l0])
   | succ k1 =>
    have H := HA.out
    clear HA
    simp only [spec_l6Perm.l0] at H
    obtain ⟨c6b0, H⟩ | ⟨c6b0, H⟩ := gi H
    ·obtain ⟨c7b0, H⟩ := gdt H
     obtain ⟨t766, A8, H⟩ := bs H
     by_cases c9 : t766 = true
     ·subst c9
      rw [if_pos rfl] at H
      obtain ⟨c10b0, H⟩ := gdt H
      obtain ⟨c11b0, H⟩ := gdt H
      obtain ⟨bq12, hbq12⟩ : ∃ b_ : Bool, b_ = (rdOf false x3_1 (rd l0 x4_1)) := ⟨_, rfl⟩
      replace H : (if bq12 = true then (some false) else (spec_l6Perm.l0 k1 l0 (x3_1.set ((rd l0 x4_1) : Int).toNat true) (wrap64 (x4_1 + 1)))) = some r := by rw [← hbq12] at H; exact H
      have Nbq12 := Aside0.mk hbq12
      clear hbq12
      by_cases c13 : bq12 = true
      ·subst c13
       rw [if_pos rfl] at H
       obtain rfl := Option.some.inj H
       have p765 : 0 ≤ (x4_1 : Int) := dT
       have q765 : x4_1 < (l0.length : Int) := dT
       obtain ⟨ad765, e765, hx765_0⟩ := Kd.at_int HR0.out x4_1 p765 q765
       cases e765
       replace hx765_0 := cB HB hx765_0
       replace p765 := eq_true p765
       replace q765 := eq_true q765
       go_wp2_with (first | (refine gL 58 (some 21) Try.func58 #[.int .i64 (rd l0 x4_1), .int .i64 0, .int .i64 (wrap64 ((l0.length : Int) - 1))] ?_; (with_reducible refine (spec_l1In.calls (rd l0 x4_1) 0 (wrap64 ((l0.length : Int) - 1)) true _ A8.out).mono ?_); rintro e w' ⟨rfl, ⟨nd, rfl⟩⟩; refine ⟨_, rfl, ?_⟩; have p767 : 0 ≤ (x4_1 : Int) := dT; have q767 : x4_1 < (l0.length : Int) := dT; obtain ⟨ad767, e767, hx767_0⟩ := Kd.at_int HR0.out x4_1 p767 q767; obtain rfl : ad765 = ad767 := (by injection e767); replace hx767_0 := cB HB hx767_0; replace p767 := eq_true p767; replace q767 := eq_true q767; obtain ⟨Ao14, co14, eo14⟩ := Kd.R_slice HO_3.out; subst eo14; have p768 : 0 ≤ ((rd l0 x4_1) : Int) := dT; have q768 : (rd l0 x4_1) < (x3_1.length : Int) := dT; obtain ⟨ad768, e768, hx768_0⟩ := Kd.at_bool (Kd.R_reads' HO_3.out).2.2 (rd l0 x4_1) p768 q768; (try rw [← Nbq12.out] at hx768_0); cases e768; replace p768 := eq_true p768; replace q768 := eq_true q768))
       go_ret
       exact ⟨rE, tb⟩
      ·replace c13 := Bool.eq_false_iff.mpr c13
       subst c13
       rw [if_neg (show ¬ (false = true) by decide)] at H
       generalize hy770 : (x3_1.set ((rd l0 x4_1) : Int).toNat true : List Bool) = y770 at H
       have Ny770 := Aside0.mk hy770.symm; clear hy770
       have H' := Aside0.mk H
       clear H
       have p765 : 0 ≤ (x4_1 : Int) := dT
       have q765 : x4_1 < (l0.length : Int) := dT
       obtain ⟨ad765, e765, hx765_0⟩ := Kd.at_int HR0.out x4_1 p765 q765
       cases e765
       replace hx765_0 := cB HB hx765_0
       replace p765 := eq_true p765
       replace q765 := eq_true q765
       go_wp2_with (first | (refine gL 58 (some 21) Try.func58 #[.int .i64 (rd l0 x4_1), .int .i64 0, .int .i64 (wrap64 ((l0.length : Int) - 1))] ?_; (with_reducible refine (spec_l1In.calls (rd l0 x4_1) 0 (wrap64 ((l0.length : Int) - 1)) true _ A8.out).mono ?_); rintro e w' ⟨rfl, ⟨nd, rfl⟩⟩; refine ⟨_, rfl, ?_⟩; (try (rw [drewN_self wr]; generalize hq_ : World.drewN wr _ = wr; have n0_ : Aside0 (Kd.R Kd.bool 4 wr w.heap.size (fun _ => True) v763 x3_1) := ⟨by rw [← hq_]; exact (R_l HO_3.out)⟩; have n1_ : Aside0 (Below w.heap.size w wr) := ⟨by rw [← hq_]; exact tb⟩; clear HO_3 HB hq_; have HO_3 := n0_; have HB := n1_; clear n0_ n1_)); have p767 : 0 ≤ (x4_1 : Int) := dT; have q767 : x4_1 < (l0.length : Int) := dT; obtain ⟨ad767, e767, hx767_0⟩ := Kd.at_int HR0.out x4_1 p767 q767; obtain rfl : ad765 = ad767 := (by injection e767); replace hx767_0 := cB HB hx767_0; replace p767 := eq_true p767; replace q767 := eq_true q767; obtain ⟨Ao16, co16, eo16⟩ := Kd.R_slice HO_3.out; subst eo16; have p768 : 0 ≤ ((rd l0 x4_1) : Int) := dT; have q768 : (rd l0 x4_1) < (x3_1.length : Int) := dT; obtain ⟨ad768, e768, hx768_0⟩ := Kd.at_bool (Kd.R_reads' HO_3.out).2.2 (rd l0 x4_1) p768 q768; (try rw [← Nbq12.out] at hx768_0); cases e768; replace p768 := eq_true p768; replace q768 := eq_true q768; have p769 : 0 ≤ (x4_1 : Int) := dT; have q769 : x4_1 < (l0.length : Int) := dT; obtain ⟨ad769, e769, hx769_0⟩ := Kd.at_int HR0.out x4_1 p769 q769; obtain rfl : ad765 = ad769 := (by injection e769); replace hx769_0 := cB HB hx769_0; replace p769 := eq_true p769; replace q769 := eq_true q769; have p15 : 0 ≤ ((rd l0 x4_1) : Int) := dT; have q15 : ((rd l0 x4_1) : Int) < ((x3_1.length : Int) : Int) := dT; obtain ⟨go15, co15, eo15, gb15, gl15, cl15, HG15⟩ := Kd.R_form HO_3.out (by omega); (first | cases eo15 | (injection eo15 with ea_ en_ ec_; (first | subst ea_ | (injection ea_ with ea_; subst ea_)); subst ec_; clear en_)); have GB15 := Aside0.mk gb15; have GG15 := Aside0.mk HG15; clear gb15 gl15 HG15; (first | simp only [add_plain] at hx768_0 | skip); obtain ⟨hx15_0, hf15_0⟩ := Kd.R_celln false HO_3.out ((rd l0 x4_1) : Int) p15 q15; replace p15 := eq_true p15; replace q15 := eq_true q15; obtain ⟨hy17_, hz17_⟩ := Kd.R_celln false HO_3.out ((rd l0 x4_1) : Int) dT dT; have HP17 := Kd.R_putg HO_3.out ((rd l0 x4_1) : Int) true) | ((with_reducible refine gate_store (t := 4) (p := 37) rfl ?_); refine store_event (t := 4) (p := 37) (v := ?vo_w18) (w1 := (wr.setCell ⟨go15, ((rd l0 x4_1) : Int).toNat, none⟩ (.bool true))) ?hg ?ho ?hn ?hr ?_; (case ho => rfl); (case hg => rfl); (case hn => rfl); (case hr => exact gS); intro w18 hw; have hg : wr.grownBy w18 (some go15) := (by rw [hw]; exact HP17.2); have hp_ : Kd.R Kd.bool 4 w18 w.heap.size (fun _ => True) (.slice (some ⟨go15, 0, none⟩) x3_1.length co16) y770 := (by rw [hw, Ny770.out]; exact HP17.1); clear HP17; replace HO_3 := Aside0.mk (hp_); replace HB := Aside0.mk ((by rw [hw]; exact below_set (HB.out) GB15.out : Below w.heap.size w w18)); clear hg hw hp_))
       go_roundg k1
       case measure => exact oK
       case rel => exact ⟨(y770), (wrap64 (x4_1 + 1)), rS, H', ⟨oK⟩, ⟨R_l HO_3.out⟩, ⟨tb⟩⟩
     ·replace c9 := Bool.eq_false_iff.mpr c9
      subst c9
      rw [if_neg (show ¬ (false = true) by decide)] at H
      obtain rfl := Option.some.inj H
      have p765 : 0 ≤ (x4_1 : Int) := dT
      have q765 : x4_1 < (l0.length : Int) := dT
      obtain ⟨ad765, e765, hx765_0⟩ := Kd.at_int HR0.out x4_1 p765 q765
      cases e765
      replace hx765_0 := cB HB hx765_0
      replace p765 := eq_true p765
      replace q765 := eq_true q765
      go_wp2_with (first | (refine gL 58 (some 21) Try.func58 #[.int .i64 (rd l0 x4_1), .int .i64 0, .int .i64 (wrap64 ((l0.length : Int) - 1))] ?_; (with_reducible refine (spec_l1In.calls (rd l0 x4_1) 0 (wrap64 ((l0.length : Int) - 1)) false _ A8.out).mono ?_); rintro e w' ⟨rfl, ⟨nd, rfl⟩⟩; refine ⟨_, rfl, ?_⟩))
      go_ret
      exact ⟨rE, tb⟩
    ·obtain rfl := Option.some.inj H
     go_wp2
     go_ret
     exact ⟨rE, tb⟩
 ·rw [if_neg c2] at H
  exact absurd H (by simp)

end Go.Proofs.Ytbchbmfmplfoiaa.PFnGroups
