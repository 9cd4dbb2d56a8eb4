import Derived.Test.YtkbkkpgllphdhaaWSpan
import Derived.Test.YtkbkkpgllphdhaaWLater
import Derived.Test.YtkbkkpgllphdhaaPFnBranchesx0
import Derived.Test.YtkbkkpgllphdhaaPFnBranchesx2
import Derived.Test.YtkbkkpgllphdhaaPFnBranchesx10
namespace Go.Proofs.Ytkbkkpgllphdhaa.PFnBranches
open Go.RowKit Go.Proofs.YtkbkkpgllphdhaaW.PrintWords Go.Proofs.YtkbkkpgllphdhaaW.PrintLast Go.Proofs.YtkbkkpgllphdhaaW.PrintMore
attribute [local go_sem] max2_int min2_int max_two min_two max_three min_three max_four min_four   -- for this text's walks alone
set_option linter.unusedVariables false
set_option linter.unusedSimpArgs false

/-! ### spec_l9Put: function 60 -/
def spec_l9Put.l0 : Nat → List Int → Int → Int → Option (List Int)
 | 0, _, _, _ => none
 | k + 1, x0, x1, x5 => if x5 > 0 then (if 0 ≤ (wrap64 (x5 - 1)) then (if (wrap64 (x5 - 1)) < (x0.length : Int) then (if (rd x0 (wrap64 (x5 - 1))) > x1 then (spec_l9Put.l0 k x0 x1 (wrap64 (x5 - 1))) else ((some (([] : List Int) : List Int)).bind fun y694 => (if 0 ≤ x5 then (if x5 ≤ (x0.length : Int) then ((some (x0.drop (x5 : Int).toNat : List Int)).bind fun y697 => (if y694.length + y697.length < 17592186044416 then ((some (y694 ++ y697 : List Int)).bind fun y701 => ((some (x0.take (x5 : Int).toNat : List Int)).bind fun y704 => (if y704.length < 17592186044416 then ((some (y704 ++ [x1] : List Int)).bind fun y707 => (if y707.length + y701.length < 17592186044416 then (some (y707 ++ y701)) else (none))) else (none)))) else (none))) else (none)) else (none)))) else (none)) else (none)) else ((some (([] : List Int) : List Int)).bind fun y713 => (if 0 ≤ x5 then (if x5 ≤ (x0.length : Int) then ((some (x0.drop (x5 : Int).toNat : List Int)).bind fun y716 => (if y713.length + y716.length < 17592186044416 then ((some (y713 ++ y716 : List Int)).bind fun y720 => ((some (x0.take (x5 : Int).toNat : List Int)).bind fun y723 => (if y723.length < 17592186044416 then ((some (y723 ++ [x1] : List Int)).bind fun y726 => (if y726.length + y720.length < 17592186044416 then (some (y726 ++ y720)) else (none))) else (none)))) else (none))) else (none)) else (none)))
def spec_l9Put.f (k : Nat) (l0 : List Int) (a1 : Int) : Option (List Int) := spec_l9Put.l0 k l0 a1 (l0.length : Int)
set_option maxHeartbeats 8000000 in
set_option maxRecDepth 100000 in
theorem spec_l9Put.calls (k : Nat) (P0_ : Nat → Prop) (u9000_ : Value) (l0 : List Int) (a1 : Int) (r : List Int) (w0 w : World) (hB : Below w0.heap.size w0 w) (ho0 : Kd.R (Kd.int .i64) 3 w w0.heap.size P0_ u9000_ l0) (h : spec_l9Put.f k l0 a1 = some r) :
  Calls Try.prog 60 #[u9000_, .int .i64 a1] w fun e w' => ∃ v0_ : Value, e = .returned (v0_) ∧ Kd.R (Kd.int .i64) 3 w' w0.heap.size (fun k_ => (P0_ k_ ∨ w.heap.size ≤ k_)) v0_ r ∧ Below w0.heap.size w0 w' ∧ Kept w w' (fun k_ => P0_ k_) := by
 have HO0 := Aside0.mk (show Kd.R (Kd.int .i64) 3 w w0.heap.size (fun k_ => (P0_ k_ ∨ w.heap.size ≤ k_)) u9000_ l0 from Kd.R_mono ho0 (fun k_ hk => (.inl hk)))
 have HK := Aside0.mk (Kept.refl w (fun k_ => P0_ k_))
 have HW0 := Aside0.mk hB.size
 have HB := Aside0.mk hB
 clear hB
 have H : (spec_l9Put.l0 k l0 a1 (l0.length : Int)) = some r := h
 clear h
 have H' := Aside0.mk H
 clear H
 obtain ⟨Ao3, co3, eo3⟩ := Kd.R_slice HO0.out
 subst eo3
 go_enter Try.func60, Try.ntmps60
 go_wp2
 go_loopg [5] k (fun kq v5 w' => ∃ (x5_1 : Int), v5 = .int .i64 x5_1 ∧ Aside0 (spec_l9Put.l0 kq l0 a1 x5_1 = some r) ∧ Aside0 (kq ≤ k) ∧ Aside0 (Kd.R (Kd.int .i64) 3 w' w0.heap.size (fun k_ => (P0_ k_ ∨ w.heap.size ≤ k_)) (.slice Ao3 l0.length co3) l0) ∧ Aside0 (Kept w w' (fun k_ => P0_ k_)) ∧ Aside0 (Below w0.heap.size w0 w'))
 case atStart => exact ⟨((l0.length : Int)), rS, H', ⟨Nat.le_refl _⟩, ⟨R_l HO0.out⟩, ⟨by repeat (first | (with_reducible first | exact HK.out | apply Kept.alloc | apply Kept.drewN | apply Kept.drew) | exact HK.out)⟩, ⟨B_l HB.out⟩⟩
 case round =>
  clear H'
  try clear p2
  obtain ⟨x5_1, rfl, HA, HK1, HO_0, HK, HB⟩ := hrel
  cases gk with
  | zero => exact absurd HA.out (by simp [spec_l9Put.l0])
  | succ k1 =>
   have H := HA.out
   clear HA
   simp only [spec_l9Put.l0] at H
   by_cases c4 : x5_1 > 0
   ·rw [if_pos c4] at H
    have c4b0 : decide (0 < x5_1) = true := decide_eq_true c4
    clear c4
    obtain ⟨ji5, hji5⟩ : ∃ j_ : Int, (wrap64 (x5_1 - 1)) = j_ := ⟨_, rfl⟩
    replace H : (if 0 ≤ (ji5) then (if (ji5) < (l0.length : Int) then (if (rd l0 (ji5)) > a1 then (spec_l9Put.l0 k1 l0 a1 ji5) else ((some (([] : List Int) : List Int)).bind fun y694 => (if 0 ≤ x5_1 then (if x5_1 ≤ (l0.length : Int) then ((some (l0.drop (x5_1 : Int).toNat : List Int)).bind fun y697 => (if y694.length + y697.length < 17592186044416 then ((some (y694 ++ y697 : List Int)).bind fun y701 => ((some (l0.take (x5_1 : Int).toNat : List Int)).bind fun y704 => (if y704.length < 17592186044416 then ((some (y704 ++ [a1] : List Int)).bind fun y707 => (if y707.length + y701.length < 17592186044416 then (some (y707 ++ y701)) else (none))) else (none)))) else (none))) else (none)) else (none)))) else (none)) else (none)) = some r := by first | (rw [hji5] at H; exact H) | (simp only [hji5] at H ⊢; exact H)
    have hji5w : (IntKind.i64.wrap (x5_1 - 1)) = ji5 := (i64_w _).trans hji5
    obtain ⟨c6b0, H⟩ := gdt H
    obtain ⟨c7b0, H⟩ := gdt H
    by_cases c8 : (rd l0 (ji5)) > a1
    ·rw [if_pos c8] at H
     have c8b0 : decide (a1 < (rd l0 (ji5))) = true := decide_eq_true c8
     clear c8
     have H' := Aside0.mk H
     clear H
     have p693 : 0 ≤ ((ji5) : Int) := dT
     have q693 : (ji5) < (l0.length : Int) := dT
     obtain ⟨ad693, e693, hx693_0⟩ := Kd.at_int (Kd.R_reads' HO_0.out).2.2 (ji5) p693 q693
     cases e693
     replace p693 := eq_true p693
     replace q693 := eq_true q693
     go_wp2
     go_roundg k1
     case measure => exact oK
     case rel => exact ⟨(ji5), (by first | rfl | (simp; done) | (simp only [← hji5] <;> (first | rfl | simp)) | (simp [*]; done)), H', ⟨oK⟩, ⟨R_l HO_0.out⟩, ⟨by repeat (first | (with_reducible first | exact HK.out | apply Kept.alloc | apply Kept.drewN | apply Kept.drew) | exact HK.out)⟩, ⟨B_l HB.out⟩⟩
    ·rw [if_neg c8] at H
     have c8b0 : decide (a1 < (rd l0 (ji5))) = false := decide_eq_false c8
     clear c8
     obtain ⟨y694, hy694⟩ : ∃ y_ : List Int, y_ = (([] : List Int)) := ⟨_, rfl⟩
     replace H : (if 0 ≤ x5_1 then (if x5_1 ≤ (l0.length : Int) then ((some (l0.drop (x5_1 : Int).toNat : List Int)).bind fun y697 => (if y694.length + y697.length < 17592186044416 then ((some (y694 ++ y697 : List Int)).bind fun y701 => ((some (l0.take (x5_1 : Int).toNat : List Int)).bind fun y704 => (if y704.length < 17592186044416 then ((some (y704 ++ [a1] : List Int)).bind fun y707 => (if y707.length + y701.length < 17592186044416 then (some (y707 ++ y701)) else (none))) else (none)))) else (none))) else (none)) else (none)) = some r := by first | (rw [hy694]; with_reducible exact H) | (have H2_ := (Option.bind_some _ _).symm.trans H; rw [hy694]; with_reducible exact H2_) | (have H2_ := (Option.bind_some _ _).symm.trans H; with_reducible exact H2_) | with_reducible exact H | (rw [hy694]; exact H) | exact H
     have Ny694 := Aside0.mk hy694
     clear hy694
     obtain ⟨c9, H⟩ := gd H
     have c9b0 := eq_true c9
     have c9b1 : decide (0 ≤ x5_1) = true := decide_eq_true c9
     clear c9
     obtain ⟨c10, H⟩ := gd H
     have c10b0 := eq_true c10
     have c10b1 : decide (x5_1 ≤ (l0.length : Int)) = true := decide_eq_true c10
     clear c10
     generalize hy697 : (l0.drop (x5_1 : Int).toNat : List Int) = y697 at H
     have Ny697 := Aside0.mk hy697.symm; clear hy697
     obtain ⟨LMc11, H⟩ := gda H
     generalize hy701 : (y694 ++ y697 : List Int) = y701 at H
     have Ny701 := Aside0.mk hy701.symm; clear hy701
     have c12b0 := eq_true (dT : x5_1 ≤ (l0.length : Int))
     generalize hy704 : (l0.take (x5_1 : Int).toNat : List Int) = y704 at H
     have Ny704 := Aside0.mk hy704.symm; clear hy704
     obtain ⟨LMc13, H⟩ := gda H
     generalize hy707 : (y704 ++ [a1] : List Int) = y707 at H
     have Ny707 := Aside0.mk hy707.symm; clear hy707
     obtain ⟨LMc14, H⟩ := gda H
     generalize hy710 : (y707 ++ y701 : List Int) = y710 at H
     have Ny710 := Aside0.mk hy710.symm; clear hy710
     obtain rfl := Option.some.inj H
     have p693 : 0 ≤ ((ji5) : Int) := dT
     have q693 : (ji5) < (l0.length : Int) := dT
     obtain ⟨ad693, e693, hx693_0⟩ := Kd.at_int (Kd.R_reads' HO_0.out).2.2 (ji5) p693 q693
     cases e693
     replace p693 := eq_true p693
     replace q693 := eq_true q693
     go_wp2_with (first | ((with_reducible refine gate_dst (N := 22) rfl ?_); refine Kd.R_lit (Kd.int .i64) _ 3 ?hg (N := 22) ?hd (xs := ([] : List Int)) (inner := []) (ok := fun _ => True) (okp := fun _ => True) ?hr ?hp (fun _ hk => hk) trivial (Below.refl _ _) (Nat.le_refl _) (by simp) ?_; (case hd => rfl); (case hg => rfl); (case hr => exact gS); (case hp => exact (Reps.none _ _)); intro v695 w15 ho16 hb hg_ hnew_; clear hg_ hnew_; (first | rw [← Ny694.out] at ho16 | (simp only [Int.reduceToNat] at ho16; rw [← Ny694.out] at ho16)); have HO696 := Aside0.mk (Kd.R_lower (Kd.R_new' (Kd.R_newM (M := fun k_ => (P0_ k_ ∨ w.heap.size ≤ k_)) ho16 (by first | exact HK.out.1 | exact (show Kept w _ (fun k_ => P0_ k_) from by repeat (first | (with_reducible first | exact HK.out | apply Kept.alloc | apply Kept.drewN | apply Kept.drew) | exact HK.out)).1) (fun k_ h_ => .inr h_)) (Kd.R_lt (R_l HO_0.out))) (zB HB)); replace HO_0 := Aside0.mk (Kd.R_elder' (R_l HO_0.out) (Kd.R_base ho16) hb); replace HK := Aside0.mk (Kept.below (S := (fun k_ => P0_ k_)) (by repeat (first | (with_reducible first | exact HK.out | apply Kept.alloc | apply Kept.drewN | apply Kept.drew) | exact HK.out)) hb); replace HB := Aside0.mk (zS HB hb); clear hb ho16; have q17 : (x5_1 : Int) ≤ ((l0.length : Int) : Int) := dT; obtain ⟨i017, hi017, _, hsz17, _⟩ := info_parts info3; have hroom17 : l0.length ≤ co3 := (Kd.R_reads' HO_0.out).2.1; have hC17 : Kd.C (Kd.int .i64) _ (some ad693) l0.length l0 := (Kd.R_reads' HO_0.out).2.2; have q017 : (0 : Int) ≤ (x5_1 : Int) := dT; have hcut17 := cut_from (P := Try.prog) 35 3 .i64 Try.underlying35 hi017 1 hsz17 (some ad693) l0.length co3 x5_1 q017 q17; have hr17 := Kd.C_drop (m := (x5_1 : Int).toNat) (c := co3) hC17 (by omega) hroom17; obtain ⟨A17, hA17⟩ : ∃ A1, A1 = (if co3 = (x5_1 : Int).toNat then (some ad693) else ((some ad693) : Option Addr).map (·.add ((x5_1 : Int).toNat * 1))) := ⟨_, rfl⟩; obtain ⟨c17, hc17⟩ : ∃ c1, c1 = co3 - (x5_1 : Int).toNat := ⟨_, rfl⟩; have hy17 : y697.length = l0.length - (x5_1 : Int).toNat := (by rw [Ny697.out, List.length_drop] <;> omega); rw [show (l0).drop (x5_1 : Int).toNat = y697 from Ny697.out.symm] at hr17; replace hr17 : Kd.C (Kd.int .i64) _ A17 y697.length y697 := (by rw [hA17]; exact hr17); rw [← hy17, ← hA17, ← hc17] at hcut17; have HR700 := Aside0.mk hr17; have HC700 := Aside0.mk (show y697.length ≤ c17 from by rw [hy17, hc17]; exact Nat.sub_le_sub_right hroom17 _); clear hr17 hC17 hroom17 hi017 hsz17 hc17; have KY17 := Aside0.mk hy17; have KA17 := Aside0.mk hA17; clear hy17 hA17; have KL17 := Aside0.mk (show (x5_1 : Int).toNat ≤ l0.length from by omega); replace q17 := eq_true q17) | ((with_reducible refine gate_builtin (b := .append) (xs := #[.tmp 22, .tmp 25]) rfl ?_); at_builtin; refine Kd.R_append_rows (Kd.int .i64) (w0 := w0) w0.heap.size rfl (.tmp 22) (.tmp 25) 35 3 (.int .i64 0) 8 rfl Try.underlying35 info3 rfl (by decide) (by omega) v695 y694 y697 _ _ _ (fun k_ => (P0_ k_ ∨ w.heap.size ≤ k_) ∧ some k_ ≠ (.slice (some ad693) l0.length co3 : Value).ownBlock) (fun _ => False) rfl rfl ?aO ?aR (fun _ _ h => h) (fun _ h => h.elim) ?aF ?aB ?aS ?aL ?_; (case aR => repeat (first | exact (by repeat (first | (with_reducible exact HR700.out) | (with_reducible refine Kd.C_alloc ?_ _) | (with_reducible refine Kd.C_drewN ?_ _) | (with_reducible refine Kd.C_drew ?_) | exact HR700.out)) | (with_reducible refine Kd.C_alloc ?_ _) | (with_reducible refine Kd.C_drewN ?_ _) | (with_reducible refine Kd.C_drew ?_))); (case aB => exact (B_l HB.out)); (case aF => exact (fun k_ hk => ⟨(.inr (Nat.le_trans (by first | exact HK.out.1 | exact (show Kept w _ (fun k_ => P0_ k_) from by repeat (first | (with_reducible first | exact HK.out | apply Kept.alloc | apply Kept.drewN | apply Kept.drew) | exact HK.out)).1) hk)), Kd.fresh' (Kd.R_lt (R_l HO_0.out)) k_ hk⟩)); (case aO => exact (R_l (Kd.R_mono HO696.out (fun _ hk => ⟨hk.1.1, hk.2⟩)))); (case aS => exact (zB HB)); (case aL => have := LMc11.out; omega); intro v702 w18 ho hb hg hat; rw [← Ny701.out] at ho; replace HB := Aside0.mk (hb); replace HK := Aside0.mk (Kept.of_grown (S := (fun k_ => P0_ k_)) hg (by repeat (first | (with_reducible first | exact HK.out | apply Kept.alloc | apply Kept.drewN | apply Kept.drew) | exact HK.out)) (fun k_ e_ => (HO696.out.1 k_ e_).1.1)); replace HR700 := Aside0.mk ((show Kd.C (Kd.int .i64) w18 A17 y697.length y697 from by rw [Ny697.out, KA17.out]; exact Kd.C_drop (m := (x5_1 : Int).toNat) (c := co3) ((Kd.R_reads' (Kd.R_after (ok := (fun k_ => (P0_ k_ ∨ w.heap.size ≤ k_))) (R_l HO_0.out) hg hat)).2.2) KL17.out ((Kd.R_reads' (Kd.R_after (ok := (fun k_ => (P0_ k_ ∨ w.heap.size ≤ k_))) (R_l HO_0.out) hg hat)).2.1))); replace HO_0 := Aside0.mk (Kd.R_after (ok := (fun k_ => (P0_ k_ ∨ w.heap.size ≤ k_))) (R_l HO_0.out) hg hat); have HO703 := Aside0.mk (ho); clear HO696; clear ho hb hg hat; have q19 : (x5_1 : Int) ≤ ((l0.length : Int) : Int) := dT; obtain ⟨i019, hi019, _, hsz19, _⟩ := info_parts info3; have hcut19 := cut_to (P := Try.prog) 35 3 .i64 Try.underlying35 hi019 (some ad693) l0.length co3 x5_1 dT q19 (Kd.R_reads' HO_0.out).2.1; have hr19 := Kd.R_take (m := (x5_1 : Int).toNat) HO_0.out (by omega); have hy19 : y704.length = (x5_1 : Int).toNat := (by rw [Ny704.out, List.length_take]; omega); rw [← Ny704.out] at hr19; rw [← hy19] at hr19 hcut19; clear hy19 hi019 hsz19 HO_0; have HO706 := Aside0.mk hr19; clear hr19; replace q19 := eq_true q19) | ((with_reducible refine gate_builtin (b := .append) (xs := #[.tmp 29, .tmp 31]) rfl ?_); at_builtin; refine Kd.R_append (Kd.int .i64) (w0 := w0) w0.heap.size rfl (.tmp 29) (.tmp 31) 35 3 (.int .i64 0) 8 rfl Try.underlying35 info3 rfl (by decide) (by omega) (.slice (some ad693) y704.length co3) y704 a1 [.int .i64 a1] (fun k_ => (P0_ k_ ∨ w.heap.size ≤ k_) ∧ some k_ ≠ (v702 : Value).ownBlock) (fun _ => False) rfl rfl ?aP (fun _ hk => hk.elim) ?aF ?aO ?aB ?aS ?aL ?_; (case aP => exact rfl); (case aB => exact (B_l HB.out)); (case aF => exact (fun k_ hk => ⟨(.inr (Nat.le_trans (by first | exact HK.out.1 | exact (show Kept w _ (fun k_ => P0_ k_) from by repeat (first | (with_reducible first | exact HK.out | apply Kept.alloc | apply Kept.drewN | apply Kept.drew) | exact HK.out)).1) hk)), Kd.fresh' (Kd.R_lt (R_l HO703.out)) k_ hk⟩)); (case aO => exact (R_l HO706.out)); (case aS => exact (zB HB)); (case aL => have := LMc13.out; omega); intro v708 w20 ho hb hg hat; rw [← Ny707.out] at ho; replace HO703 := Aside0.mk (Kd.R_after (ok := (fun k_ => (P0_ k_ ∨ w.heap.size ≤ k_))) (by (with_reducible repeat (first | apply Kd.R_alloc | apply Kd.R_drewN | apply Kd.R_drew)); first | exact HO703.out | exact Kd.R_mono HO703.out (fun k_ hk_ => ⟨hk_.1, by have h_ := hk_.2; revert h_; cases Ao3 <;> exact fun h_ => h_⟩)) hg hat); replace HB := Aside0.mk (hb); replace HK := Aside0.mk (Kept.of_grown (S := (fun k_ => P0_ k_)) hg (by repeat (first | (with_reducible first | exact HK.out | apply Kept.alloc | apply Kept.drewN | apply Kept.drew) | exact HK.out)) (fun k_ e_ => (HO706.out.1 k_ e_).1)); have HO709 := Aside0.mk (ho); clear HO706; clear ho hb hg hat; obtain ⟨Ao22, co22, eo22⟩ := Kd.R_slice HO703.out; subst eo22) | ((with_reducible refine gate_builtin (b := .append) (xs := #[.tmp 32, .tmp 33]) rfl ?_); at_builtin; refine Kd.R_append_rows (Kd.int .i64) (w0 := w0) w0.heap.size rfl (.tmp 32) (.tmp 33) 35 3 (.int .i64 0) 8 rfl Try.underlying35 info3 rfl (by decide) (by omega) v708 y707 y701 _ _ _ (fun k_ => (P0_ k_ ∨ w.heap.size ≤ k_) ∧ some k_ ≠ (.slice Ao22 y701.length co22 : Value).ownBlock) (fun _ => False) rfl rfl ?aO ?aR (fun _ _ h => h) (fun _ h => h.elim) ?aF ?aB ?aS ?aL ?_; (case aR => exact C_l ((Kd.R_reads' HO703.out).2.2)); (case aB => exact (B_l HB.out)); (case aF => exact (fun k_ hk => ⟨(.inr (Nat.le_trans (by first | exact HK.out.1 | exact (show Kept w _ (fun k_ => P0_ k_) from by repeat (first | (with_reducible first | exact HK.out | apply Kept.alloc | apply Kept.drewN | apply Kept.drew) | exact HK.out)).1) hk)), Kd.fresh' (Kd.R_lt (R_l HO703.out)) k_ hk⟩)); (case aO => exact (R_l HO709.out)); (case aS => exact (zB HB)); (case aL => have := LMc14.out; omega); intro v711 w21 ho hb hg hat; rw [← Ny710.out] at ho; replace HO703 := Aside0.mk (Kd.R_after (ok := (fun k_ => (P0_ k_ ∨ w.heap.size ≤ k_))) (by (with_reducible repeat (first | apply Kd.R_alloc | apply Kd.R_drewN | apply Kd.R_drew)); first | exact HO703.out | exact Kd.R_mono HO703.out (fun k_ hk_ => ⟨hk_.1, by have h_ := hk_.2; revert h_; cases Ao3 <;> exact fun h_ => h_⟩)) hg hat); replace HB := Aside0.mk (hb); replace HK := Aside0.mk (Kept.of_grown (S := (fun k_ => P0_ k_)) hg (by repeat (first | (with_reducible first | exact HK.out | apply Kept.alloc | apply Kept.drewN | apply Kept.drew) | exact HK.out)) (fun k_ e_ => (HO709.out.1 k_ e_).1)); have HO712 := Aside0.mk (ho); clear HO709; clear ho hb hg hat))
     go_ret
     exact ⟨_, by first | rfl | (simp [errW_none, errW_some] <;> rfl) | (simp only [← hji5]; first | rfl | (simp [errW_none, errW_some] <;> rfl)) | (simp [*, errW_none, errW_some] <;> rfl), R_l (Kd.R_mono HO712.out (fun _ hk => hk.1)), B_l HB.out, by repeat (first | (with_reducible first | exact HK.out | apply Kept.alloc | apply Kept.drewN | apply Kept.drew) | exact HK.out)⟩
   ·rw [if_neg c4] at H
    have c4b0 : decide (0 < x5_1) = false := decide_eq_false c4
    clear c4
    obtain ⟨y713, Ny713, H⟩ := bn H
    by_cases c23 : 0 ≤ x5_1
    ·rw [if_pos c23] at H
     have c23b0 := eq_true c23
     have c23b1 : decide (0 ≤ x5_1) = true := decide_eq_true c23
     clear c23
     obtain ⟨c24, H⟩ := gd H
     have c24b0 := eq_true c24
     have c24b1 : decide (x5_1 ≤ (l0.length : Int)) = true := decide_eq_true c24
     clear c24
     generalize hy716 : (l0.drop (x5_1 : Int).toNat : List Int) = y716 at H
     have Ny716 := Aside0.mk hy716.symm; clear hy716
     obtain ⟨LMc25, H⟩ := gda H
     generalize hy720 : (y713 ++ y716 : List Int) = y720 at H
     have Ny720 := Aside0.mk hy720.symm; clear hy720
     have c26b0 := eq_true (dT : x5_1 ≤ (l0.length : Int))
     generalize hy723 : (l0.take (x5_1 : Int).toNat : List Int) = y723 at H
     have Ny723 := Aside0.mk hy723.symm; clear hy723
     obtain ⟨LMc27, H⟩ := gda H
     generalize hy726 : (y723 ++ [a1] : List Int) = y726 at H
     have Ny726 := Aside0.mk hy726.symm; clear hy726
     obtain ⟨LMc28, H⟩ := gda H
     generalize hy729 : (y726 ++ y720 : List Int) = y729 at H
     have Ny729 := Aside0.mk hy729.symm; clear hy729
     obtain rfl := Option.some.inj H
     go_wp2_with (first | ((with_reducible refine gate_dst (N := 22) rfl ?_); refine Kd.R_lit (Kd.int .i64) _ 3 ?hg (N := 22) ?hd (xs := ([] : List Int)) (inner := []) (ok := fun _ => True) (okp := fun _ => True) ?hr ?hp (fun _ hk => hk) trivial (Below.refl _ _) (Nat.le_refl _) (by simp) ?_; (case hd => rfl); (case hg => rfl); (case hr => exact gS); (case hp => exact (Reps.none _ _)); intro v714 w29 ho30 hb hg_ hnew_; clear hg_ hnew_; (first | rw [← Ny713.out] at ho30 | (simp only [Int.reduceToNat] at ho30; rw [← Ny713.out] at ho30)); have HO715 := Aside0.mk (Kd.R_lower (Kd.R_new' (Kd.R_newM (M := fun k_ => (P0_ k_ ∨ w.heap.size ≤ k_)) ho30 (by first | exact HK.out.1 | exact (show Kept w _ (fun k_ => P0_ k_) from by repeat (first | (with_reducible first | exact HK.out | apply Kept.alloc | apply Kept.drewN | apply Kept.drew) | exact HK.out)).1) (fun k_ h_ => .inr h_)) (Kd.R_lt (R_l HO_0.out))) (zB HB)); replace HO_0 := Aside0.mk (Kd.R_elder' (R_l HO_0.out) (Kd.R_base ho30) hb); replace HK := Aside0.mk (Kept.below (S := (fun k_ => P0_ k_)) (by repeat (first | (with_reducible first | exact HK.out | apply Kept.alloc | apply Kept.drewN | apply Kept.drew) | exact HK.out)) hb); replace HB := Aside0.mk (zS HB hb); clear hb ho30; have q31 : (x5_1 : Int) ≤ ((l0.length : Int) : Int) := dT; obtain ⟨i031, hi031, _, hsz31, _⟩ := info_parts info3; have hroom31 : l0.length ≤ co3 := (Kd.R_reads' HO_0.out).2.1; have hC31 : Kd.C (Kd.int .i64) _ Ao3 l0.length l0 := (Kd.R_reads' HO_0.out).2.2; have q031 : (0 : Int) ≤ (x5_1 : Int) := dT; have hcut31 := cut_from (P := Try.prog) 35 3 .i64 Try.underlying35 hi031 1 hsz31 Ao3 l0.length co3 x5_1 q031 q31; have hr31 := Kd.C_drop (m := (x5_1 : Int).toNat) (c := co3) hC31 (by omega) hroom31; obtain ⟨A31, hA31⟩ : ∃ A1, A1 = (if co3 = (x5_1 : Int).toNat then Ao3 else (Ao3 : Option Addr).map (·.add ((x5_1 : Int).toNat * 1))) := ⟨_, rfl⟩; obtain ⟨c31, hc31⟩ : ∃ c1, c1 = co3 - (x5_1 : Int).toNat := ⟨_, rfl⟩; have hy31 : y716.length = l0.length - (x5_1 : Int).toNat := (by rw [Ny716.out, List.length_drop] <;> omega); rw [show (l0).drop (x5_1 : Int).toNat = y716 from Ny716.out.symm] at hr31; replace hr31 : Kd.C (Kd.int .i64) _ A31 y716.length y716 := (by rw [hA31]; exact hr31); rw [← hy31, ← hA31, ← hc31] at hcut31; have HR719 := Aside0.mk hr31; have HC719 := Aside0.mk (show y716.length ≤ c31 from by rw [hy31, hc31]; exact Nat.sub_le_sub_right hroom31 _); clear hr31 hC31 hroom31 hi031 hsz31 hc31; have KY31 := Aside0.mk hy31; have KA31 := Aside0.mk hA31; clear hy31 hA31; have KL31 := Aside0.mk (show (x5_1 : Int).toNat ≤ l0.length from by omega); replace q31 := eq_true q31) | ((with_reducible refine gate_builtin (b := .append) (xs := #[.tmp 22, .tmp 25]) rfl ?_); at_builtin; refine Kd.R_append_rows (Kd.int .i64) (w0 := w0) w0.heap.size rfl (.tmp 22) (.tmp 25) 35 3 (.int .i64 0) 8 rfl Try.underlying35 info3 rfl (by decide) (by omega) v714 y713 y716 _ _ _ (fun k_ => (P0_ k_ ∨ w.heap.size ≤ k_) ∧ some k_ ≠ (.slice Ao3 l0.length co3 : Value).ownBlock) (fun _ => False) rfl rfl ?aO ?aR (fun _ _ h => h) (fun _ h => h.elim) ?aF ?aB ?aS ?aL ?_; (case aR => repeat (first | exact (by repeat (first | (with_reducible exact HR719.out) | (with_reducible refine Kd.C_alloc ?_ _) | (with_reducible refine Kd.C_drewN ?_ _) | (with_reducible refine Kd.C_drew ?_) | exact HR719.out)) | (with_reducible refine Kd.C_alloc ?_ _) | (with_reducible refine Kd.C_drewN ?_ _) | (with_reducible refine Kd.C_drew ?_))); (case aB => exact (B_l HB.out)); (case aF => exact (fun k_ hk => ⟨(.inr (Nat.le_trans (by first | exact HK.out.1 | exact (show Kept w _ (fun k_ => P0_ k_) from by repeat (first | (with_reducible first | exact HK.out | apply Kept.alloc | apply Kept.drewN | apply Kept.drew) | exact HK.out)).1) hk)), Kd.fresh' (Kd.R_lt (R_l HO_0.out)) k_ hk⟩)); (case aO => exact (R_l (Kd.R_mono HO715.out (fun _ hk => ⟨hk.1.1, hk.2⟩)))); (case aS => exact (zB HB)); (case aL => have := LMc25.out; omega); intro v721 w32 ho hb hg hat; rw [← Ny720.out] at ho; replace HB := Aside0.mk (hb); replace HK := Aside0.mk (Kept.of_grown (S := (fun k_ => P0_ k_)) hg (by repeat (first | (with_reducible first | exact HK.out | apply Kept.alloc | apply Kept.drewN | apply Kept.drew) | exact HK.out)) (fun k_ e_ => (HO715.out.1 k_ e_).1.1)); replace HR719 := Aside0.mk ((show Kd.C (Kd.int .i64) w32 A31 y716.length y716 from by rw [Ny716.out, KA31.out]; exact Kd.C_drop (m := (x5_1 : Int).toNat) (c := co3) ((Kd.R_reads' (Kd.R_after (ok := (fun k_ => (P0_ k_ ∨ w.heap.size ≤ k_))) (R_l HO_0.out) hg hat)).2.2) KL31.out ((Kd.R_reads' (Kd.R_after (ok := (fun k_ => (P0_ k_ ∨ w.heap.size ≤ k_))) (R_l HO_0.out) hg hat)).2.1))); replace HO_0 := Aside0.mk (Kd.R_after (ok := (fun k_ => (P0_ k_ ∨ w.heap.size ≤ k_))) (R_l HO_0.out) hg hat); have HO722 := Aside0.mk (ho); clear HO715; clear ho hb hg hat; have q33 : (x5_1 : Int) ≤ ((l0.length : Int) : Int) := dT; obtain ⟨i033, hi033, _, hsz33, _⟩ := info_parts info3; have hcut33 := cut_to (P := Try.prog) 35 3 .i64 Try.underlying35 hi033 Ao3 l0.length co3 x5_1 dT q33 (Kd.R_reads' HO_0.out).2.1; have hr33 := Kd.R_take (m := (x5_1 : Int).toNat) HO_0.out (by omega); have hy33 : y723.length = (x5_1 : Int).toNat := (by rw [Ny723.out, List.length_take]; omega); rw [← Ny723.out] at hr33; rw [← hy33] at hr33 hcut33; clear hy33 hi033 hsz33 HO_0; have HO725 := Aside0.mk hr33; clear hr33; replace q33 := eq_true q33) | ((with_reducible refine gate_builtin (b := .append) (xs := #[.tmp 29, .tmp 31]) rfl ?_); at_builtin; refine Kd.R_append (Kd.int .i64) (w0 := w0) w0.heap.size rfl (.tmp 29) (.tmp 31) 35 3 (.int .i64 0) 8 rfl Try.underlying35 info3 rfl (by decide) (by omega) (.slice Ao3 y723.length co3) y723 a1 [.int .i64 a1] (fun k_ => (P0_ k_ ∨ w.heap.size ≤ k_) ∧ some k_ ≠ (v721 : Value).ownBlock) (fun _ => False) rfl rfl ?aP (fun _ hk => hk.elim) ?aF ?aO ?aB ?aS ?aL ?_; (case aP => exact rfl); (case aB => exact (B_l HB.out)); (case aF => exact (fun k_ hk => ⟨(.inr (Nat.le_trans (by first | exact HK.out.1 | exact (show Kept w _ (fun k_ => P0_ k_) from by repeat (first | (with_reducible first | exact HK.out | apply Kept.alloc | apply Kept.drewN | apply Kept.drew) | exact HK.out)).1) hk)), Kd.fresh' (Kd.R_lt (R_l HO722.out)) k_ hk⟩)); (case aO => exact (R_l HO725.out)); (case aS => exact (zB HB)); (case aL => have := LMc27.out; omega); intro v727 w34 ho hb hg hat; rw [← Ny726.out] at ho; replace HO722 := Aside0.mk (Kd.R_after (ok := (fun k_ => (P0_ k_ ∨ w.heap.size ≤ k_))) (by (with_reducible repeat (first | apply Kd.R_alloc | apply Kd.R_drewN | apply Kd.R_drew)); first | exact HO722.out | exact Kd.R_mono HO722.out (fun k_ hk_ => ⟨hk_.1, by have h_ := hk_.2; revert h_; cases Ao3 <;> exact fun h_ => h_⟩)) hg hat); replace HB := Aside0.mk (hb); replace HK := Aside0.mk (Kept.of_grown (S := (fun k_ => P0_ k_)) hg (by repeat (first | (with_reducible first | exact HK.out | apply Kept.alloc | apply Kept.drewN | apply Kept.drew) | exact HK.out)) (fun k_ e_ => (HO725.out.1 k_ e_).1)); have HO728 := Aside0.mk (ho); clear HO725; clear ho hb hg hat; obtain ⟨Ao36, co36, eo36⟩ := Kd.R_slice HO722.out; subst eo36) | ((with_reducible refine gate_builtin (b := .append) (xs := #[.tmp 32, .tmp 33]) rfl ?_); at_builtin; refine Kd.R_append_rows (Kd.int .i64) (w0 := w0) w0.heap.size rfl (.tmp 32) (.tmp 33) 35 3 (.int .i64 0) 8 rfl Try.underlying35 info3 rfl (by decide) (by omega) v727 y726 y720 _ _ _ (fun k_ => (P0_ k_ ∨ w.heap.size ≤ k_) ∧ some k_ ≠ (.slice Ao36 y720.length co36 : Value).ownBlock) (fun _ => False) rfl rfl ?aO ?aR (fun _ _ h => h) (fun _ h => h.elim) ?aF ?aB ?aS ?aL ?_; (case aR => exact C_l ((Kd.R_reads' HO722.out).2.2)); (case aB => exact (B_l HB.out)); (case aF => exact (fun k_ hk => ⟨(.inr (Nat.le_trans (by first | exact HK.out.1 | exact (show Kept w _ (fun k_ => P0_ k_) from by repeat (first | (with_reducible first | exact HK.out | apply Kept.alloc | apply Kept.drewN | apply Kept.drew) | exact HK.out)).1) hk)), Kd.fresh' (Kd.R_lt (R_l HO722.out)) k_ hk⟩)); (case aO => exact (R_l HO728.out)); (case aS => exact (zB HB)); (case aL => have := LMc28.out; omega); intro v730 w35 ho hb hg hat; rw [← Ny729.out] at ho; replace HO722 := Aside0.mk (Kd.R_after (ok := (fun k_ => (P0_ k_ ∨ w.heap.size ≤ k_))) (by (with_reducible repeat (first | apply Kd.R_alloc | apply Kd.R_drewN | apply Kd.R_drew)); first | exact HO722.out | exact Kd.R_mono HO722.out (fun k_ hk_ => ⟨hk_.1, by have h_ := hk_.2; revert h_; cases Ao3 <;> exact fun h_ => h_⟩)) hg hat); replace HB := Aside0.mk (hb); replace HK := Aside0.mk (Kept.of_grown (S := (fun k_ => P0_ k_)) hg (by repeat (first | (with_reducible first | exact HK.out | apply Kept.alloc | apply Kept.drewN | apply Kept.drew) | exact HK.out)) (fun k_ e_ => (HO728.out.1 k_ e_).1)); have HO731 := Aside0.mk (ho); clear HO728; clear ho hb hg hat))
     go_ret
     exact ⟨_, rE, R_l (Kd.R_mono HO731.out (fun _ hk => hk.1)), B_l HB.out, by repeat (first | (with_reducible first | exact HK.out | apply Kept.alloc | apply Kept.drewN | apply Kept.drew) | exact HK.out)⟩
    ·rw [if_neg c23] at H
     exact absurd H (by simp)

/-! ### spec_CycleTypes: function 23 -/
mutual
def spec_CycleTypes.l0 : Nat → List (List Int) → List (List Int) → Int → Option ((List (List Int)))
 | 0, _, _, _ => none
 | k + 1, x0, x3, x4 => if x4 < (x0.length : Int) then ((spec_IsPassport.f k x0).bind fun t735 => (spec_CycleTypes.j1 k x0 x3 x4 t735)) else (spec_CycleTypes.j1 k x0 x3 x4 false)
def spec_CycleTypes.j1 : Nat → List (List Int) → List (List Int) → Int → Bool → Option ((List (List Int)))
 | 0, _, _, _, _ => none
 | k + 1, x0, x3, x4, x16 => if x16 = true then (if 0 ≤ x4 then (if x4 < (x0.length : Int) then ((spec_l6Cycles.f k (rd_L3 x0 x4)).bind fun t740 => (spec_CycleTypes.l1 k x0 x3 x4 (([] : List Int)) t740 0)) else (none)) else (none)) else (some x3)
def spec_CycleTypes.l1 : Nat → List (List Int) → List (List Int) → Int → List Int → List (List Int) → Int → Option ((List (List Int)))
 | 0, _, _, _, _, _, _ => none
 | k + 1, x0, x3, x4, x5, x6, x7 => if x7 < (x6.length : Int) then (if 0 ≤ x7 then ((spec_l9Put.f k x5 ((rd_L3 x6 x7).length : Int)).bind fun t744 => (spec_CycleTypes.l1 k x0 x3 x4 t744 x6 (wrap64 (x7 + 1)))) else (none)) else (if x3.length < 5864062014805 then (spec_CycleTypes.l0 k x0 (x3 ++ [x5]) (wrap64 (x4 + 1))) else (none))
end
def spec_CycleTypes.f (k : Nat) (l0 : List (List Int)) : Option ((List (List Int))) := spec_CycleTypes.l0 k l0 (([] : List (List Int))) 0
set_option maxHeartbeats 8000000 in
set_option maxRecDepth 100000 in
theorem spec_CycleTypes.calls (k : Nat) (A0 : Option Addr) (c0 : Nat) (l0 : List (List Int)) (r : List (List Int)) (w : World) (hr0 : Kd.C (Kd.slice 3 (Kd.int .i64)) w A0 l0.length l0) (hc0 : l0.length ≤ c0) (h : spec_CycleTypes.f k l0 = some r) :
  Calls Try.prog 23 #[.slice A0 l0.length c0] w fun e w' => ∃ v0_ : Value, e = .returned (v0_) ∧ Kd.S (Kd.slice 3 (Kd.int .i64)) 35 w' w.heap.size (fun _ => True) v0_ r ∧ Below w.heap.size w w' := by
 have HR0 := Aside0.mk hr0
 have HC0 := Aside0.mk hc0
 clear hr0 hc0
 have HB := Aside0.mk (Below.refl w.heap.size w)
 have H : (spec_CycleTypes.l0 k l0 (([] : List (List Int))) 0) = some r := h
 clear h
 generalize hy732 : (([] : List (List Int)) : List (List Int)) = y732 at H
 have Ny732 := Aside0.mk hy732.symm; clear hy732
 have H' := Aside0.mk H
 clear H
 go_enter Try.func23, Try.ntmps23
 go_wp2_with (first | ((with_reducible refine gate_dst (N := 8) rfl ?_); refine Kd.S_lit (Kd.slice 3 (Kd.int .i64)) _ 35 ?hg (N := 8) ?hd (xs := ([] : List (List Int))) (inner := []) (ok := fun _ => True) (okp := fun _ => True) ?hr ?hp (fun _ hk => hk) trivial (Below.refl _ _) (Nat.le_refl _) (by simp) ?_; (case hd => rfl); (case hg => rfl); (case hr => exact gS); (case hp => exact (Reps.none _ _)); intro v733 w2 ho3 hb hg_ hnew_; clear hg_ hnew_; (first | rw [← Ny732.out] at ho3 | (simp only [Int.reduceToNat] at ho3; rw [← Ny732.out] at ho3)); have HO734 := Aside0.mk (Kd.S_lower ho3 (zB HB)); replace HB := Aside0.mk (zS HB hb); clear hb ho3))
 go_loopg [3, 4] k (fun kq v3 v4 w' => ∃ (x3_1 : List (List Int)) (x4_1 : Int), v4 = .int .i64 x4_1 ∧ Aside0 (spec_CycleTypes.l0 kq l0 x3_1 x4_1 = some r) ∧ Aside0 (kq ≤ k) ∧ Aside0 (Kd.S (Kd.slice 3 (Kd.int .i64)) 35 w' w.heap.size (fun _ => True) v3 x3_1) ∧ Aside0 (Below w.heap.size w w'))
 case atStart => exact ⟨(y732), (0), rS, H', ⟨Nat.le_refl _⟩, ⟨S_l HO734.out⟩, ⟨B_l HB.out⟩⟩
 case round =>
  clear H'
  try clear c2
  try clear p2
  obtain ⟨x3_1, x4_1, rfl, HA, HK1, HO_3, HB⟩ := hrel
  cases gk with
  | zero => exact absurd HA.out (by simp [spec_CycleTypes.l0])
  | succ k1 =>
   have H := HA.out
   clear HA
   simp only [spec_CycleTypes.l0] at H
   have HC4 := Aside0.mk H
   clear H
   go_upto_region 3 with (fail)
   go_cut [16] (fun v16 wc => ∃ (kq : Nat) (x16_3 : Bool), v16 = .bool x16_3 ∧ Aside0 (spec_CycleTypes.j1 kq l0 x3_1 x4_1 x16_3 = some r) ∧ Aside0 (kq ≤ k1) ∧ Aside0 (Kd.S (Kd.slice 3 (Kd.int .i64)) 35 wc w.heap.size (fun _ => True) u3 x3_1) ∧ Aside0 (Below w.heap.size w wc))
   case first =>
    have H := HC4.out
    clear HC4
    obtain ⟨c5b0, H⟩ | ⟨c5b0, H⟩ := gi H
    ·(first | rw [c5b0] | (simp only [i64_w, i32_w]; rw [c5b0]) | skip)
     obtain ⟨t735, A6, H⟩ := bs H
     have H' := Aside0.mk H
     clear H
     go_wp2_with (first | (go_at_call 19; (with_reducible refine (spec_IsPassport.calls k1 _ _ l0 t735 _ ?side1 ?side2 A6.out).mono ?_); (case side1 => exact C_l (Kd.C_below HR0.out HB.out)); (case side2 => exact HC0.out); rintro e w7 ⟨rfl, hb⟩; replace HO_3 := Aside0.mk (Kd.S_below (S_l HO_3.out) hb); replace HB := Aside0.mk (zS HB hb)))
     go_meet
     case rel => exact ⟨_, (t735), rS, H', ⟨by have := HK1.out; first | omega | exact Nat.le_refl _⟩, ⟨S_l HO_3.out⟩, ⟨B_l HB.out⟩⟩
    ·(first | rw [c5b0] | (simp only [i64_w, i32_w]; rw [c5b0]) | skip)
     have H' := Aside0.mk H
     clear H
     go_wp2
     go_meet
     case rel => exact ⟨_, (false), rS, H', ⟨by have := HK1.out; first | omega | exact Nat.le_refl _⟩, ⟨S_l HO_3.out⟩, ⟨B_l HB.out⟩⟩
   case rest =>
    clear HC4
    try clear c2
    try clear p2
    try clear c5
    try clear c5b0
    try clear p2
    obtain ⟨kq, x16_3, rfl, HA, HJ3, HO_3, HB⟩ := hcut
    cases kq with
    | zero => exact absurd HA.out (by simp [spec_CycleTypes.j1])
    | succ kj3 =>
     have H := HA.out
     clear HA
     simp only [spec_CycleTypes.j1] at H
     by_cases c8 : x16_3 = true
     ·subst c8
      rw [if_pos rfl] at H
      generalize hy736 : (([] : List Int) : List Int) = y736 at H
      have Ny736 := Aside0.mk hy736.symm; clear hy736
      obtain ⟨c9b0, H⟩ := gdt H
      obtain ⟨c10b0, H⟩ := gdt H
      obtain ⟨t740, A11, H⟩ := bs H
      have H' := Aside0.mk H
      clear H
      go_wp2_with (first | ((with_reducible refine gate_dst (N := 19) rfl ?_); refine Kd.R_lit (Kd.int .i64) _ 3 ?hg (N := 19) ?hd (xs := ([] : List Int)) (inner := []) (ok := fun _ => True) (okp := fun _ => True) ?hr ?hp (fun _ hk => hk) trivial (Below.refl _ _) (Nat.le_refl _) (by simp) ?_; (case hd => rfl); (case hg => rfl); (case hr => exact gS); (case hp => exact (Reps.none _ _)); intro v737 w12 ho13 hb hg_ hnew_; clear hg_ hnew_; (first | rw [← Ny736.out] at ho13 | (simp only [Int.reduceToNat] at ho13; rw [← Ny736.out] at ho13)); replace HO_3 := Aside0.mk (Kd.S_elder' (S_l HO_3.out) (Kd.R_base ho13) hb); have HO738 := Aside0.mk (Kd.R_lower ho13 (zB HB)); replace HB := Aside0.mk (zS HB hb); clear hb ho13; have p739 : 0 ≤ (x4_1 : Int) := dT; have q739 : x4_1 < (l0.length : Int) := dT; obtain ⟨ad739, A739_0, c739_0, e739, hx739_0, hl739_0, hi739_0⟩ := at_L3 HR0.out x4_1 p739 q739; cases e739; replace hx739_0 := cB HB hx739_0; have HR739_0 := Aside0.mk hi739_0; have HC739_0 := Aside0.mk hl739_0; clear hi739_0 hl739_0; replace p739 := eq_true p739; replace q739 := eq_true q739) | (refine gL 58 (some 24) Try.func58 #[.slice A739_0 (rd_L3 l0 x4_1).length c739_0] ?_; (with_reducible refine (spec_l6Cycles.calls kj3 _ _ (rd_L3 l0 x4_1) t740 _ ?side1 ?side2 A11.out).mono ?_); (case side1 => exact C_l (Kd.C_below HR739_0.out HB.out)); (case side2 => exact HC739_0.out); rintro e w14 ⟨v741, rfl, ho0, hb⟩; refine ⟨_, rfl, ?_⟩; have HO742 := Aside0.mk (Kd.S_lower (Kd.S_new' (Kd.S_new' ho0 (Kd.S_lt (S_l HO_3.out))) (Kd.R_lt (R_l HO738.out))) (zB HB)); replace HO_3 := Aside0.mk (Kd.S_elder' (S_l HO_3.out) (Kd.S_base ho0) hb); replace HO738 := Aside0.mk (Kd.R_below (R_l HO738.out) hb); replace HB := Aside0.mk (zS HB hb)))
      go_loopg [5, 7] kj3 (fun kq v5 v7 w' => ∃ (x5_3 : List Int) (x7_3 : Int), v7 = .int .i64 x7_3 ∧ Aside0 (spec_CycleTypes.l1 kq l0 x3_1 x4_1 x5_3 t740 x7_3 = some r) ∧ Aside0 (kq ≤ kj3) ∧ Aside0 (Kd.S (Kd.slice 3 (Kd.int .i64)) 35 w' w.heap.size (fun k_ => some k_ ≠ (v5 : Value).ownBlock ∧ some k_ ≠ (v741 : Value).ownBlock) u3 x3_1) ∧ Aside0 (Kd.R (Kd.int .i64) 3 w' w.heap.size (fun _ => True) v5 x5_3) ∧ Aside0 (Kd.S (Kd.slice 3 (Kd.int .i64)) 35 w' w.heap.size (fun k_ => some k_ ≠ (u3 : Value).ownBlock ∧ some k_ ≠ (v5 : Value).ownBlock) v741 t740) ∧ Aside0 (Below w.heap.size w w'))
      case atStart => exact ⟨(y736), (0), rS, H', ⟨Nat.le_refl _⟩, ⟨S_l (Kd.S_mono HO_3.out (fun _ hk => ⟨hk.1.2, hk.2⟩))⟩, ⟨R_l HO738.out⟩, ⟨S_l (Kd.S_mono HO742.out (fun _ hk => ⟨hk.1.2, hk.2⟩))⟩, ⟨B_l HB.out⟩⟩
      case round =>
       clear H'
       try clear c1
       try clear c2
       try clear p2
       try clear c5
       try clear c5b0
       try clear c7
       try clear p7
       try clear q7
       try clear hx7
       try clear c8
       try clear c9
       try clear c9b0
       try clear c10
       try clear c10b0
       try clear hx739_0
       try clear p2
       try clear p739
       try clear q739
       obtain ⟨x5_3, x7_3, rfl, HA, HK3, HO_3, HO_5, HO_6, HB⟩ := hrel
       cases gk with
       | zero => exact absurd HA.out (by simp [spec_CycleTypes.l1])
       | succ k3 =>
        have H := HA.out
        clear HA
        simp only [spec_CycleTypes.l1] at H
        obtain ⟨c15b0, H⟩ | ⟨c15b0, H⟩ := gi H
        ·obtain ⟨c16b0, H⟩ := gdt H
         obtain ⟨t744, A17, H⟩ := bs H
         have H' := Aside0.mk H
         clear H
         obtain ⟨Ao18, co18, eo18⟩ := Kd.S_slice HO_6.out
         subst eo18
         have p743 : 0 ≤ (x7_3 : Int) := dT
         have q743 : x7_3 < (t740.length : Int) := dT
         obtain ⟨ad743, A743_0, c743_0, e743, hx743_0, hl743_0, hi743_0⟩ := at_L3 (Kd.S_reads' HO_6.out).2.2 x7_3 p743 q743
         cases e743
         obtain ⟨ce743, hce743, hMe743, hcc743⟩ := Kd.S_get HO_6.out [] x7_3 p743 (by first | exact q743 | exact dT | (have e_ := (Kd.S_reads' HO_6.out).1; omega))
         obtain ⟨ve743_0, rfl, ge743_0⟩ := hMe743
         have hv743_0 := hcc743 0 _ rfl
         rw [Nat.add_zero, show ((Kd.slice 3 (Kd.int .i64))).sz = 1 from rfl, Nat.mul_one] at hv743_0
         replace hv743_0 := Option.some.inj (hv743_0.symm.trans hx743_0)
         rw [hv743_0] at ge743_0
         have HL743_0 := Aside0.mk (show Kd.R (Kd.int .i64) 3 _ _ _ _ (rd_L3 t740 x7_3) from ge743_0)
         clear hv743_0 ge743_0
         clear hcc743 hce743
         have HR743_0 := Aside0.mk hi743_0
         have HC743_0 := Aside0.mk hl743_0
         clear hi743_0 hl743_0
         replace p743 := eq_true p743
         replace q743 := eq_true q743
         obtain ⟨Ao19, co19, eo19⟩ := Kd.R_slice HO_5.out
         subst eo19
         go_wp2_with (first | (refine gL 60 (some 37) Try.func60 #[.slice Ao19 x5_3.length co19, .int .i64 ((rd_L3 t740 x7_3).length : Int)] ?_; (with_reducible refine (spec_l9Put.calls k3 (fun k_ => some k_ = (.slice Ao19 x5_3.length co19 : Value).ownBlock) (.slice Ao19 x5_3.length co19) x5_3 ((rd_L3 t740 x7_3).length : Int) t744 w _ ?side1 ?side2 A17.out).mono ?_); (case side1 => exact tb); (case side2 => exact Kd.R_tight rfl HO_5.out); rintro e w20 ⟨v745, rfl, ho0, hb, hkp⟩; refine ⟨_, rfl, ?_⟩; replace HO_3 := Aside0.mk (Kd.S_mono (ok' := fun k_ => some k_ ≠ (.slice (some ad743) t740.length co18 : Value).ownBlock ∧ some k_ ≠ (v745 : Value).ownBlock) (Kd.S_keptB (HO_3.out) hkp (fun k_ hk_ hs_ => (hk_.1) hs_)) (fun k_ hk_ => ⟨hk_.1.2, fun e_ => Or.elim (ho0.1 k_ e_.symm) (fun hs_ => hk_.2.1 hs_) (fun hn_ => Nat.not_le.2 hk_.2.2 hn_)⟩)); replace HO_6 := Aside0.mk (Kd.S_mono (ok' := fun k_ => some k_ ≠ (u3 : Value).ownBlock ∧ some k_ ≠ (v745 : Value).ownBlock) (Kd.S_keptB (HO_6.out) hkp (fun k_ hk_ hs_ => (hk_.2) hs_)) (fun k_ hk_ => ⟨hk_.1.1, fun e_ => Or.elim (ho0.1 k_ e_.symm) (fun hs_ => hk_.2.1 hs_) (fun hn_ => Nat.not_le.2 hk_.2.2 hn_)⟩)); have HO746 := Aside0.mk (Kd.R_mono (ok' := fun k_ => True) ho0 (fun k_ hk_ => trivial)); replace HB := Aside0.mk (hb); clear HO_5 HL743_0; (try clear hkp)))
         go_roundg k3
         case measure => have := HK1.out; have := HJ3.out; have := HK3.out; omega
         case rel => exact ⟨(t744), (wrap64 (x7_3 + 1)), rS, H', ⟨by have := HK1.out; have := HJ3.out; have := HK3.out; omega⟩, ⟨S_l (Kd.S_mono HO_3.out (fun _ hk => ⟨hk.2, hk.1⟩))⟩, ⟨R_l HO746.out⟩, ⟨S_l HO_6.out⟩, ⟨B_l HB.out⟩⟩
        ·obtain ⟨LMc21, H⟩ := gda H
         generalize hy747 : (x3_1 ++ [x5_3] : List (List Int)) = y747 at H
         have Ny747 := Aside0.mk hy747.symm; clear hy747
         have H' := Aside0.mk H
         clear H
         obtain ⟨Ao22, co22, eo22⟩ := Kd.S_slice HO_6.out
         subst eo22
         obtain ⟨Ao24, co24, eo24⟩ := Kd.R_slice HO_5.out
         subst eo24
         go_wp2_with (first | ((with_reducible refine gate_builtin (b := .append) (xs := #[.tmp 38, .tmp 40]) rfl ?_); at_builtin; refine Kd.S_append (Kd.slice 3 (Kd.int .i64)) (w0 := w) w.heap.size rfl (.tmp 38) (.tmp 40) 24 35 (.slice none 0 0) 24 rfl Try.underlying24 info35 rfl (by decide) (by omega) u3 x3_1 x5_3 [.slice Ao24 x5_3.length co24] (fun k_ => some k_ ≠ (.slice Ao22 t740.length co22 : Value).ownBlock) (fun k_ => some k_ = (.slice Ao24 x5_3.length co24 : Value).ownBlock) rfl rfl ?aP (fun k_ hk_ => ((Kd.R_mono (ok' := fun k_ => ((fun k_ => some k_ ≠ (.slice Ao22 t740.length co22 : Value).ownBlock)) k_ ∧ some k_ ≠ (u3 : Value).ownBlock) (Kd.R_apart' (Kd.R_apart' (HO_5.out) (Kd.S_typed HO_6.out) (by decide)) (Kd.S_typed HO_3.out) (by decide)) (fun k_ hk => ⟨hk.1.2, hk.2⟩))).1 k_ hk_.symm) ?aF ?aO ?aB ?aS ?aL ?_; (case aP => exact Kd.M_row (Kd.R_mono (Kd.R_tight rfl (Kd.R_mono (ok' := fun k_ => ((fun k_ => some k_ ≠ (.slice Ao22 t740.length co22 : Value).ownBlock)) k_ ∧ some k_ ≠ (u3 : Value).ownBlock) (Kd.R_apart' (Kd.R_apart' (HO_5.out) (Kd.S_typed HO_6.out) (by decide)) (Kd.S_typed HO_3.out) (by decide)) (fun k_ hk => ⟨hk.1.2, hk.2⟩))) (fun _ h_ => h_))); (case aB => exact (B_l HB.out)); (case aF => exact (fun k_ hk => Kd.fresh' (Kd.S_lt (S_l HO_6.out)) k_ hk)); (case aO => exact (S_l (Kd.S_mono HO_3.out (fun k_ hk => ⟨hk.2, fun e_ => hk.1 e_⟩)))); (case aS => exact (zB HB)); (case aL => have := LMc21.out; omega); intro v748 w23 ho hb hg hat; rw [← Ny747.out] at ho; replace HO_6 := Aside0.mk (Kd.S_after (ok := (fun k_ => some k_ ≠ (.slice Ao24 x5_3.length co24 : Value).ownBlock)) (S_l (Kd.S_mono HO_6.out (fun _ hk => ⟨hk.2, hk.1⟩))) hg hat); replace HB := Aside0.mk (hb); have HO749 := Aside0.mk (ho); clear HO_3 HO_5; clear ho hb hg hat))
         go_roundg k3
         case measure => have := HK1.out; have := HJ3.out; have := HK3.out; omega
         case rel => exact ⟨(y747), (wrap64 (x4_1 + 1)), rS, H', ⟨by have := HK1.out; have := HJ3.out; have := HK3.out; omega⟩, ⟨S_l (Kd.S_mono HO749.out (fun _ hk => trivial))⟩, ⟨B_l HB.out⟩⟩
     ·replace c8 := Bool.eq_false_iff.mpr c8
      subst c8
      rw [if_neg (show ¬ (false = true) by decide)] at H
      obtain rfl := Option.some.inj H
      go_wp2
      go_ret
      exact ⟨_, rE, S_l HO_3.out, B_l HB.out⟩

/-! ### spec_IsSurface: function 61 -/
def spec_IsSurface.f (a0_0 : Int) (a0_1 : Int) (a0_2 : Int) : Option (Bool) := (spec_l1In.f a0_0 0 20).bind fun t751 => (if t751 = true then ((spec_l1In.f a0_1 0 20).bind fun t752 => (if t752 = true then ((spec_l1In.f a0_2 0 20).bind fun t753 => (if t753 = true then (if a0_0 = 0 then (some true) else (some (a0_1 == 0))) else (some false))) else (some false))) else (some false))
set_option maxHeartbeats 8000000 in
set_option maxRecDepth 100000 in
theorem spec_IsSurface.calls (a0_0 : Int) (a0_1 : Int) (a0_2 : Int) (r : Bool) (w : World) (h : spec_IsSurface.f a0_0 a0_1 a0_2 = some r) :
  Calls Try.prog 61 #[.agg #[.int .i64 a0_0, .int .i64 a0_1, .int .i64 a0_2]] w fun e w' => e = .returned (.bool r) ∧ Below w.heap.size w w' := by
 have hu27 := Try.underlying27
 have HB := Aside0.mk (Below.refl w.heap.size w)
 have H : ((spec_l1In.f a0_0 0 20).bind fun t751 => (if t751 = true then ((spec_l1In.f a0_1 0 20).bind fun t752 => (if t752 = true then ((spec_l1In.f a0_2 0 20).bind fun t753 => (if t753 = true then (if a0_0 = 0 then (some true) else (some (a0_1 == 0))) else (some false))) else (some false))) else (some false))) = some r := h
 clear h
 obtain ⟨t751, A2, H⟩ := bs H
 by_cases c3 : t751 = true
 ·subst c3
  rw [if_pos rfl] at H
  obtain ⟨t752, A4, H⟩ := bs H
  by_cases c5 : t752 = true
  ·subst c5
   rw [if_pos rfl] at H
   obtain ⟨t753, A6, H⟩ := bs H
   by_cases c7 : t753 = true
   ·subst c7
    rw [if_pos rfl] at H
    by_cases c8 : a0_0 = 0
    ·rw [if_pos c8] at H
     have c8b0 : (a0_0 == 0) = true := beq_iff_eq.mpr c8
     have c8b1 : (a0_0 != 0) = false := bne_eq_false_iff_eq.mpr c8
     clear c8
     obtain rfl := Option.some.inj H
     go_enter Try.func61, Try.ntmps61
     go_wp2_with (first | ((with_reducible refine gate_dst (N := 1) rfl ?_); refine box_event ?hg (N := 1) ?hd (cs := #[.int .i64 a0_0, .int .i64 a0_1, .int .i64 a0_2]) (t := 27) ?hr ?_; (case hd => rfl); (case hg => rfl); (case hr => exact gS); intro gb750 hg w9 hbox hb; have BK750 := Aside0.mk (hbox); have GW750 := Aside0.mk ((by rw [hg]; exact (zB HB) : w.heap.size ≤ gb750)); have GE750 := Aside0.mk ((by rw [hg]; exact (zB HB) : w.heap.size ≤ gb750)); replace HB := Aside0.mk (zS HB hb); clear hb hbox hg; have hcz10_0 : w9.cell? ⟨gb750, 0, none⟩ = some (.int .i64 a0_0) := (blk_cell BK750.out 0).trans rfl; have hcz10_1 : w9.cell? ⟨gb750, 1, none⟩ = some (.int .i64 a0_1) := (blk_cell BK750.out 1).trans rfl; have hcz10_2 : w9.cell? ⟨gb750, 2, none⟩ = some (.int .i64 a0_2) := (blk_cell BK750.out 2).trans rfl; have hfz10_0 := blk_frozen BK750.out 0; have hfz10_1 := blk_frozen BK750.out 1; have hfz10_2 := blk_frozen BK750.out 2) | (refine gL 38 (some 5) Try.func38 #[.int .i64 a0_0, .int .i64 0, .int .i64 20] ?_; (with_reducible refine (spec_l1In.calls a0_0 0 20 true _ A2.out).mono ?_); rintro e w' ⟨rfl, ⟨nd, rfl⟩⟩; refine ⟨_, rfl, ?_⟩) | (go_at_call 38; (with_reducible refine (spec_l1In.calls a0_1 0 20 true _ A4.out).mono ?_); rintro e w' ⟨rfl, ⟨nd, rfl⟩⟩) | (go_at_call 38; (with_reducible refine (spec_l1In.calls a0_2 0 20 true _ A6.out).mono ?_); rintro e w' ⟨rfl, ⟨nd, rfl⟩⟩))
     go_ret
     exact ⟨rE, by repeat (first | (with_reducible first | exact HB.out | apply below_alloc | apply pw_below_drewN | apply below_drew1 | refine below_set ?_ GE750.out) | exact HB.out)⟩
    ·rw [if_neg c8] at H
     have c8b0 : (a0_0 == 0) = false := beq_eq_false_iff_ne.mpr c8
     have c8b1 : (a0_0 != 0) = true := bne_iff_ne.mpr c8
     obtain rfl := Option.some.inj H
     go_enter Try.func61, Try.ntmps61
     go_wp2_with (first | ((with_reducible refine gate_dst (N := 1) rfl ?_); refine box_event ?hg (N := 1) ?hd (cs := #[.int .i64 a0_0, .int .i64 a0_1, .int .i64 a0_2]) (t := 27) ?hr ?_; (case hd => rfl); (case hg => rfl); (case hr => exact gS); intro gb750 hg w11 hbox hb; have BK750 := Aside0.mk (hbox); have GW750 := Aside0.mk ((by rw [hg]; exact (zB HB) : w.heap.size ≤ gb750)); have GE750 := Aside0.mk ((by rw [hg]; exact (zB HB) : w.heap.size ≤ gb750)); replace HB := Aside0.mk (zS HB hb); clear hb hbox hg; have hcz12_0 : w11.cell? ⟨gb750, 0, none⟩ = some (.int .i64 a0_0) := (blk_cell BK750.out 0).trans rfl; have hcz12_1 : w11.cell? ⟨gb750, 1, none⟩ = some (.int .i64 a0_1) := (blk_cell BK750.out 1).trans rfl; have hcz12_2 : w11.cell? ⟨gb750, 2, none⟩ = some (.int .i64 a0_2) := (blk_cell BK750.out 2).trans rfl; have hfz12_0 := blk_frozen BK750.out 0; have hfz12_1 := blk_frozen BK750.out 1; have hfz12_2 := blk_frozen BK750.out 2) | (refine gL 38 (some 5) Try.func38 #[.int .i64 a0_0, .int .i64 0, .int .i64 20] ?_; (with_reducible refine (spec_l1In.calls a0_0 0 20 true _ A2.out).mono ?_); rintro e w' ⟨rfl, ⟨nd, rfl⟩⟩; refine ⟨_, rfl, ?_⟩) | (go_at_call 38; (with_reducible refine (spec_l1In.calls a0_1 0 20 true _ A4.out).mono ?_); rintro e w' ⟨rfl, ⟨nd, rfl⟩⟩) | (go_at_call 38; (with_reducible refine (spec_l1In.calls a0_2 0 20 true _ A6.out).mono ?_); rintro e w' ⟨rfl, ⟨nd, rfl⟩⟩))
     go_ret
     exact ⟨rE, by repeat (first | (with_reducible first | exact HB.out | apply below_alloc | apply pw_below_drewN | apply below_drew1 | refine below_set ?_ GE750.out) | exact HB.out)⟩
   ·replace c7 := Bool.eq_false_iff.mpr c7
    subst c7
    rw [if_neg (show ¬ (false = true) by decide)] at H
    obtain rfl := Option.some.inj H
    go_enter Try.func61, Try.ntmps61
    go_wp2_with (first | ((with_reducible refine gate_dst (N := 1) rfl ?_); refine box_event ?hg (N := 1) ?hd (cs := #[.int .i64 a0_0, .int .i64 a0_1, .int .i64 a0_2]) (t := 27) ?hr ?_; (case hd => rfl); (case hg => rfl); (case hr => exact gS); intro gb750 hg w13 hbox hb; have BK750 := Aside0.mk (hbox); have GW750 := Aside0.mk ((by rw [hg]; exact (zB HB) : w.heap.size ≤ gb750)); have GE750 := Aside0.mk ((by rw [hg]; exact (zB HB) : w.heap.size ≤ gb750)); replace HB := Aside0.mk (zS HB hb); clear hb hbox hg; have hcz14_0 : w13.cell? ⟨gb750, 0, none⟩ = some (.int .i64 a0_0) := (blk_cell BK750.out 0).trans rfl; have hcz14_1 : w13.cell? ⟨gb750, 1, none⟩ = some (.int .i64 a0_1) := (blk_cell BK750.out 1).trans rfl; have hcz14_2 : w13.cell? ⟨gb750, 2, none⟩ = some (.int .i64 a0_2) := (blk_cell BK750.out 2).trans rfl; have hfz14_0 := blk_frozen BK750.out 0; have hfz14_1 := blk_frozen BK750.out 1; have hfz14_2 := blk_frozen BK750.out 2) | (refine gL 38 (some 5) Try.func38 #[.int .i64 a0_0, .int .i64 0, .int .i64 20] ?_; (with_reducible refine (spec_l1In.calls a0_0 0 20 true _ A2.out).mono ?_); rintro e w' ⟨rfl, ⟨nd, rfl⟩⟩; refine ⟨_, rfl, ?_⟩) | (go_at_call 38; (with_reducible refine (spec_l1In.calls a0_1 0 20 true _ A4.out).mono ?_); rintro e w' ⟨rfl, ⟨nd, rfl⟩⟩) | (go_at_call 38; (with_reducible refine (spec_l1In.calls a0_2 0 20 false _ A6.out).mono ?_); rintro e w' ⟨rfl, ⟨nd, rfl⟩⟩))
    go_ret
    exact ⟨rE, by repeat (first | (with_reducible first | exact HB.out | apply below_alloc | apply pw_below_drewN | apply below_drew1 | refine below_set ?_ GE750.out) | exact HB.out)⟩
  ·replace c5 := Bool.eq_false_iff.mpr c5
   subst c5
   rw [if_neg (show ¬ (false = true) by decide)] at H
   obtain rfl := Option.some.inj H
   go_enter Try.func61, Try.ntmps61
   go_wp2_with (first | ((with_reducible refine gate_dst (N := 1) rfl ?_); refine box_event ?hg (N := 1) ?hd (cs := #[.int .i64 a0_0, .int .i64 a0_1, .int .i64 a0_2]) (t := 27) ?hr ?_; (case hd => rfl); (case hg => rfl); (case hr => exact gS); intro gb750 hg w15 hbox hb; have BK750 := Aside0.mk (hbox); have GW750 := Aside0.mk ((by rw [hg]; exact (zB HB) : w.heap.size ≤ gb750)); have GE750 := Aside0.mk ((by rw [hg]; exact (zB HB) : w.heap.size ≤ gb750)); replace HB := Aside0.mk (zS HB hb); clear hb hbox hg; have hcz16_0 : w15.cell? ⟨gb750, 0, none⟩ = some (.int .i64 a0_0) := (blk_cell BK750.out 0).trans rfl; have hcz16_1 : w15.cell? ⟨gb750, 1, none⟩ = some (.int .i64 a0_1) := (blk_cell BK750.out 1).trans rfl; have hcz16_2 : w15.cell? ⟨gb750, 2, none⟩ = some (.int .i64 a0_2) := (blk_cell BK750.out 2).trans rfl; have hfz16_0 := blk_frozen BK750.out 0; have hfz16_1 := blk_frozen BK750.out 1; have hfz16_2 := blk_frozen BK750.out 2) | (refine gL 38 (some 5) Try.func38 #[.int .i64 a0_0, .int .i64 0, .int .i64 20] ?_; (with_reducible refine (spec_l1In.calls a0_0 0 20 true _ A2.out).mono ?_); rintro e w' ⟨rfl, ⟨nd, rfl⟩⟩; refine ⟨_, rfl, ?_⟩) | (go_at_call 38; (with_reducible refine (spec_l1In.calls a0_1 0 20 false _ A4.out).mono ?_); rintro e w' ⟨rfl, ⟨nd, rfl⟩⟩))
   go_ret
   exact ⟨rE, by repeat (first | (with_reducible first | exact HB.out | apply below_alloc | apply pw_below_drewN | apply below_drew1 | refine below_set ?_ GE750.out) | exact HB.out)⟩
 ·replace c3 := Bool.eq_false_iff.mpr c3
  subst c3
  rw [if_neg (show ¬ (false = true) by decide)] at H
  obtain rfl := Option.some.inj H
  go_enter Try.func61, Try.ntmps61
  go_wp2_with (first | ((with_reducible refine gate_dst (N := 1) rfl ?_); refine box_event ?hg (N := 1) ?hd (cs := #[.int .i64 a0_0, .int .i64 a0_1, .int .i64 a0_2]) (t := 27) ?hr ?_; (case hd => rfl); (case hg => rfl); (case hr => exact gS); intro gb750 hg w17 hbox hb; have BK750 := Aside0.mk (hbox); have GW750 := Aside0.mk ((by rw [hg]; exact (zB HB) : w.heap.size ≤ gb750)); have GE750 := Aside0.mk ((by rw [hg]; exact (zB HB) : w.heap.size ≤ gb750)); replace HB := Aside0.mk (zS HB hb); clear hb hbox hg; have hcz18_0 : w17.cell? ⟨gb750, 0, none⟩ = some (.int .i64 a0_0) := (blk_cell BK750.out 0).trans rfl; have hcz18_1 : w17.cell? ⟨gb750, 1, none⟩ = some (.int .i64 a0_1) := (blk_cell BK750.out 1).trans rfl; have hcz18_2 : w17.cell? ⟨gb750, 2, none⟩ = some (.int .i64 a0_2) := (blk_cell BK750.out 2).trans rfl; have hfz18_0 := blk_frozen BK750.out 0; have hfz18_1 := blk_frozen BK750.out 1; have hfz18_2 := blk_frozen BK750.out 2) | (refine gL 38 (some 5) Try.func38 #[.int .i64 a0_0, .int .i64 0, .int .i64 20] ?_; (with_reducible refine (spec_l1In.calls a0_0 0 20 false _ A2.out).mono ?_); rintro e w' ⟨rfl, ⟨nd, rfl⟩⟩; refine ⟨_, rfl, ?_⟩))
  go_ret
  exact ⟨rE, by repeat (first | (with_reducible first | exact HB.out | apply below_alloc | apply pw_below_drewN | apply below_drew1 | refine below_set ?_ GE750.out) | exact HB.out)⟩

/-! ### spec_EulerNumber: function 24 -/
def spec_EulerNumber.f (a0_0 : Int) (a0_1 : Int) (a0_2 : Int) : Option (Int) := (spec_IsSurface.f a0_0 a0_1 a0_2).bind fun t755 => (if t755 = true then (some (wrap64 ((wrap64 ((wrap64 (2 - (wrap64 (2 * a0_0)))) - a0_1)) - a0_2))) else (some (-100)))
set_option maxHeartbeats 8000000 in
set_option maxRecDepth 100000 in
theorem spec_EulerNumber.calls (a0_0 : Int) (a0_1 : Int) (a0_2 : Int) (r : Int) (w : World) (h : spec_EulerNumber.f a0_0 a0_1 a0_2 = some r) :
  Calls Try.prog 24 #[.agg #[.int .i64 a0_0, .int .i64 a0_1, .int .i64 a0_2]] w fun e w' => e = .returned (.int .i64 r) ∧ Below w.heap.size w w' := by
 have hu27 := Try.underlying27
 have HB := Aside0.mk (Below.refl w.heap.size w)
 have H : ((spec_IsSurface.f a0_0 a0_1 a0_2).bind fun t755 => (if t755 = true then (some (wrap64 ((wrap64 ((wrap64 (2 - (wrap64 (2 * a0_0)))) - a0_1)) - a0_2))) else (some (-100)))) = some r := h
 clear h
 obtain ⟨t755, A2, H⟩ := bs H
 by_cases c3 : t755 = true
 ·subst c3
  rw [if_pos rfl] at H
  obtain rfl := Option.some.inj H
  go_enter Try.func24, Try.ntmps24
  go_wp2_with (first | ((with_reducible refine gate_dst (N := 1) rfl ?_); refine box_event ?hg (N := 1) ?hd (cs := #[.int .i64 a0_0, .int .i64 a0_1, .int .i64 a0_2]) (t := 27) ?hr ?_; (case hd => rfl); (case hg => rfl); (case hr => exact gS); intro gb754 hg w4 hbox hb; have BK754 := Aside0.mk (hbox); have GW754 := Aside0.mk ((by rw [hg]; exact (zB HB) : w.heap.size ≤ gb754)); have GE754 := Aside0.mk ((by rw [hg]; exact (zB HB) : w.heap.size ≤ gb754)); replace HB := Aside0.mk (zS HB hb); clear hb hbox hg; have hcz5_0 : w4.cell? ⟨gb754, 0, none⟩ = some (.int .i64 a0_0) := (blk_cell BK754.out 0).trans rfl; have hcz5_1 : w4.cell? ⟨gb754, 1, none⟩ = some (.int .i64 a0_1) := (blk_cell BK754.out 1).trans rfl; have hcz5_2 : w4.cell? ⟨gb754, 2, none⟩ = some (.int .i64 a0_2) := (blk_cell BK754.out 2).trans rfl; have hfz5_0 := blk_frozen BK754.out 0; have hfz5_1 := blk_frozen BK754.out 1; have hfz5_2 := blk_frozen BK754.out 2) | (refine gL 61 (some 4) Try.func61 #[.agg #[.int .i64 a0_0, .int .i64 a0_1, .int .i64 a0_2]] ?_; (with_reducible refine (spec_IsSurface.calls a0_0 a0_1 a0_2 true _ A2.out).mono ?_); rintro e w6 ⟨rfl, hb⟩; refine ⟨_, rfl, ?_⟩; replace BK754 := Aside0.mk (blk_below (g := gb754) (o := .cells #[.int .i64 a0_0, .int .i64 a0_1, .int .i64 a0_2] 27 (0, 0)) (by (with_reducible repeat (first | refine blk_drewN ?_ _ | refine blk_drew ?_ | refine blk_alloc ?_ _)); exact BK754.out) hb); replace HB := Aside0.mk (below_step (by repeat (first | (with_reducible first | exact HB.out | apply below_alloc | apply pw_below_drewN | apply below_drew1 | refine below_set ?_ GE754.out) | exact HB.out)) hb); have hcz7_0 : w6.cell? ⟨gb754, 0, none⟩ = some (.int .i64 a0_0) := (blk_cell BK754.out 0).trans rfl; have hcz7_1 : w6.cell? ⟨gb754, 1, none⟩ = some (.int .i64 a0_1) := (blk_cell BK754.out 1).trans rfl; have hcz7_2 : w6.cell? ⟨gb754, 2, none⟩ = some (.int .i64 a0_2) := (blk_cell BK754.out 2).trans rfl; have hfz7_0 := blk_frozen BK754.out 0; have hfz7_1 := blk_frozen BK754.out 1; have hfz7_2 := blk_frozen BK754.out 2))
  go_ret
  exact ⟨rE, by repeat (first | (with_reducible first | exact HB.out | apply below_alloc | apply pw_below_drewN | apply below_drew1 | refine below_set ?_ GE754.out) | exact HB.out)⟩
 ·replace c3 := Bool.eq_false_iff.mpr c3
  subst c3
  rw [if_neg (show ¬ (false = true) by decide)] at H
  obtain rfl := Option.some.inj H
  go_enter Try.func24, Try.ntmps24
  go_wp2_with (first | ((with_reducible refine gate_dst (N := 1) rfl ?_); refine box_event ?hg (N := 1) ?hd (cs := #[.int .i64 a0_0, .int .i64 a0_1, .int .i64 a0_2]) (t := 27) ?hr ?_; (case hd => rfl); (case hg => rfl); (case hr => exact gS); intro gb754 hg w8 hbox hb; have BK754 := Aside0.mk (hbox); have GW754 := Aside0.mk ((by rw [hg]; exact (zB HB) : w.heap.size ≤ gb754)); have GE754 := Aside0.mk ((by rw [hg]; exact (zB HB) : w.heap.size ≤ gb754)); replace HB := Aside0.mk (zS HB hb); clear hb hbox hg; have hcz9_0 : w8.cell? ⟨gb754, 0, none⟩ = some (.int .i64 a0_0) := (blk_cell BK754.out 0).trans rfl; have hcz9_1 : w8.cell? ⟨gb754, 1, none⟩ = some (.int .i64 a0_1) := (blk_cell BK754.out 1).trans rfl; have hcz9_2 : w8.cell? ⟨gb754, 2, none⟩ = some (.int .i64 a0_2) := (blk_cell BK754.out 2).trans rfl; have hfz9_0 := blk_frozen BK754.out 0; have hfz9_1 := blk_frozen BK754.out 1; have hfz9_2 := blk_frozen BK754.out 2) | (refine gL 61 (some 4) Try.func61 #[.agg #[.int .i64 a0_0, .int .i64 a0_1, .int .i64 a0_2]] ?_; (with_reducible refine (spec_IsSurface.calls a0_0 a0_1 a0_2 false _ A2.out).mono ?_); rintro e w10 ⟨rfl, hb⟩; refine ⟨_, rfl, ?_⟩; replace BK754 := Aside0.mk (blk_below (g := gb754) (o := .cells #[.int .i64 a0_0, .int .i64 a0_1, .int .i64 a0_2] 27 (0, 0)) (by (with_reducible repeat (first | refine blk_drewN ?_ _ | refine blk_drew ?_ | refine blk_alloc ?_ _)); exact BK754.out) hb); replace HB := Aside0.mk (below_step (by repeat (first | (with_reducible first | exact HB.out | apply below_alloc | apply pw_below_drewN | apply below_drew1 | refine below_set ?_ GE754.out) | exact HB.out)) hb)))
  go_ret
  exact ⟨rE, by repeat (first | (with_reducible first | exact HB.out | apply below_alloc | apply pw_below_drewN | apply below_drew1 | refine below_set ?_ GE754.out) | exact HB.out)⟩

end Go.Proofs.Ytkbkkpgllphdhaa.PFnBranches
