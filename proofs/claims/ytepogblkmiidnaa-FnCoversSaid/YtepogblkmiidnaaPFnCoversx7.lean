import Derived.Test.YtepogblkmiidnaaWSpanB
import Derived.Test.YtepogblkmiidnaaPFnCoversx0
import Derived.Test.YtepogblkmiidnaaPFnCoversx3
namespace Go.Proofs.Ytepogblkmiidnaa.PFnCovers
open Go.RowKit Go.Proofs.YtepogblkmiidnaaW.PrintWords Go.Proofs.YtepogblkmiidnaaW.PrintLast Go.Proofs.YtepogblkmiidnaaW.PrintMore
attribute [local go_sem] max2_int min2_int max_two min_two max_three min_three max_four min_four   -- for this text's walks alone
set_option linter.unusedVariables false
set_option linter.unusedSimpArgs false

/-! ### impl_cycles: function 32 -/
mutual
def impl_cycles.l0 : Nat → List Int → List (List Int) → List Bool → Int → Int → Option ((List (List Int)))
 | 0, _, _, _, _, _ => none
 | k + 1, x0, x3, x4, x13, x14 => if x14 < x13 then (if 0 ≤ x14 then (if x14 < (x4.length : Int) then (if rdOf false x4 x14 = true then (impl_cycles.l0 k x0 x3 x4 x13 (wrap64 (x14 + 1))) else (impl_cycles.l1 k x0 x3 x4 (([] : List Int)) x14 x13 x14)) else (none)) else (none)) else (some x3)
def impl_cycles.l1 : Nat → List Int → List (List Int) → List Bool → List Int → Int → Int → Int → Option ((List (List Int)))
 | 0, _, _, _, _, _, _, _ => none
 | k + 1, x0, x3, x4, x6, x7, x13, x14 => if 0 ≤ x7 then (if x7 < (x4.length : Int) then (if rdOf false x4 x7 = true then (if x3.length < 5864062014805 then (impl_cycles.l0 k x0 (x3 ++ [x6]) x4 x13 (wrap64 (x14 + 1))) else (none)) else (if x6.length < 17592186044416 then (if x7 < (x0.length : Int) then (impl_cycles.l1 k x0 x3 (x4.set (x7 : Int).toNat true) (x6 ++ [x7]) (rd x0 x7) x13 x14) else (none)) else (none))) else (none)) else (none)
end
def impl_cycles.f (k : Nat) (l0 : List Int) : Option ((List (List Int))) := if 0 ≤ (l0.length : Int) then (if ((l0.length : Int) : Int).toNat ≤ 281474976710656 then (impl_cycles.l0 k l0 (([] : List (List Int))) (List.replicate ((l0.length : Int) : Int).toNat false) (l0.length : Int) 0) else (none)) else (none)
theorem impl_cycles.mono_l : ∀ k, (∀ y0 y1 y2 y3 y4, LeO (impl_cycles.l0 k y0 y1 y2 y3 y4) (impl_cycles.l0 (k + 1) y0 y1 y2 y3 y4)) ∧ (∀ y0 y1 y2 y3 y4 y5 y6, LeO (impl_cycles.l1 k y0 y1 y2 y3 y4 y5 y6) (impl_cycles.l1 (k + 1) y0 y1 y2 y3 y4 y5 y6))
 | 0 => ⟨fun _ _ _ _ _ r h => by simp [impl_cycles.l0] at h, fun _ _ _ _ _ _ _ r h => by simp [impl_cycles.l1] at h⟩
 | k + 1 => by
  obtain ⟨ih0, ih1⟩ := impl_cycles.mono_l k
  refine ⟨?_, ?_⟩
  ·intro y0 y1 y2 y3 y4
   unfold impl_cycles.l0
   exact mM2 ih0 ih1
  ·intro y0 y1 y2 y3 y4 y5 y6
   unfold impl_cycles.l1
   exact mM2 ih0 ih1
theorem impl_cycles.mono : ∀ a0 k, LeO (impl_cycles.f k a0) (impl_cycles.f (k + 1) a0) := by
 intro a0 k
 obtain ⟨ih0, ih1⟩ := impl_cycles.mono_l k
 unfold impl_cycles.f
 exact mM2 ih0 ih1
set_option maxHeartbeats 8000000 in
set_option maxRecDepth 100000 in
theorem impl_cycles.calls (k : Nat) (A0 : Option Addr) (c0 : Nat) (l0 : List Int) (r : List (List Int)) (w : World) (hr0 : Kd.C (Kd.int .i64) w A0 l0.length l0) (hc0 : l0.length ≤ c0) (h : impl_cycles.f k l0 = some r) :
  Calls Try.prog 32 #[.slice A0 l0.length c0] w fun e w' => ∃ v0_ : Value, e = .returned (v0_) ∧ Kd.S (Kd.slice 3 (Kd.int .i64)) 30 w' w.heap.size (fun _ => True) v0_ r ∧ Below w.heap.size w w' := by
 have HR0 := Aside0.mk hr0
 have HC0 := Aside0.mk hc0
 clear hr0 hc0
 have HB := Aside0.mk (Below.refl w.heap.size w)
 have H : (if 0 ≤ (l0.length : Int) then (if ((l0.length : Int) : Int).toNat ≤ 281474976710656 then (impl_cycles.l0 k l0 (([] : List (List Int))) (List.replicate ((l0.length : Int) : Int).toNat false) (l0.length : Int) 0) else (none)) else (none)) = some r := h
 clear h
 generalize hy235 : (([] : List (List Int)) : List (List Int)) = y235 at H
 have Ny235 := Aside0.mk hy235.symm; clear hy235
 by_cases c2 : 0 ≤ (l0.length : Int)
 ·rw [if_pos c2] at H
  have c2b0 := eq_true c2
  have c2b1 : decide (0 ≤ (l0.length : Int)) = true := decide_eq_true c2
  clear c2
  obtain ⟨c3, H⟩ := gd H
  have c3b0 := eq_true c3
  have c3b1 : decide (((l0.length : Int) : Int).toNat ≤ 281474976710656) = true := decide_eq_true c3
  clear c3
  generalize hy238 : (List.replicate ((l0.length : Int) : Int).toNat false : List Bool) = y238 at H
  have Ny238 := Aside0.mk hy238.symm; clear hy238
  have H' := Aside0.mk H
  clear H
  go_enter Try.func32, Try.ntmps32
  try go_wp2
  replace HB := Aside0.mk (below_drew1 HB.out)
  refine start_ (n := 6) (S := fun w' => True) (ds := []) #[false, false, false, false, false, false] (by kernel_rfl) rfl rfl trivial (fun hHeld => ?_)
  generalize w.drew = w4 at HB hHeld ⊢
  refine pure_ (i := 1) (N := some 9) (v := ?_) (a' := ?_) #[false, true, false, false, false, false] rfl rfl (by kernel_rfl) (fun _ _ _ h => h) (Or.inl ⟨by rfl, ?_⟩) ?_ ?_
  rotate_left
  ·intro w'
   go_simp
   with_reducible rfl
  rotate_left
  ·simp only [Act.put, List.setIfInBounds_toArray, List.set_cons_zero, List.set_cons_succ, i64_w, i32_w]
   rfl
  refine pure_ (i := 2) (N := some 10) (v := ?_) (a' := ?_) #[false, true, true, false, false, false] rfl rfl (by kernel_rfl) (fun _ _ _ h => h) (Or.inl ⟨by rfl, ?_⟩) ?_ ?_
  rotate_left
  ·intro w'
   go_simp
   with_reducible rfl
  rotate_left
  ·simp only [Act.put, List.setIfInBounds_toArray, List.set_cons_zero, List.set_cons_succ, i64_w, i32_w]
   rfl
  refine join_ (σ := Value × Value) 1 #[true, true, true, true, true, false] (fun s_ => [(8, s_.1), (11, s_.2), (3, s_.1)]) (fun s_ w' => (Kd.S (Kd.slice 3 (Kd.int .i64)) 30 w' w.heap.size (fun _ => True) s_.1 y235) ∧ (Kd.R Kd.bool 4 w' w.heap.size (fun _ => True) s_.2 y238) ∧ (Below w.heap.size w w')) ?_ ?_
  rotate_left
  ·intro hCont
   refine two_ (i := 0) (j := 3) (Ni := some 8) (Nj := some 11) #[true, true, true, false, false, false] #[false, true, true, true, false, false] rfl rfl rfl rfl (by kernel_rfl) (by decide) (by decide) (fun K hK => ?_) (fun K hK => ?_)
   ·skip
    refine Kd.S_lit_step (Kd.slice 3 (Kd.int .i64)) _ 30 ?hg (N := 8) ?hd (xs := ([] : List (List Int))) (inner := []) (ok := fun _ => True) (okp := fun _ => True) ?hr ?hp (fun _ hk => hk) trivial (Below.refl _ _) (Nat.le_refl _) (by simp) ?_; (case hd => rfl); (case hg => rfl); (case hr => exact gS); (case hp => exact (Reps.none _ _))
    intro v236 w5 ho6 hb hg_ hnew_
    clear hg_ hnew_
    (first | rw [← Ny235.out] at ho6 | (simp only [Int.reduceToNat] at ho6; rw [← Ny235.out] at ho6))
    have HO237 := Aside0.mk (Kd.S_lower ho6 (below_size tb)); replace HB := Aside0.mk (below_step tb hb)
    clear hb ho6
    refine hK.out _ _ trivial (fun hHeld => ?_)
    clear hK K
    refine norm_ (a' := ?_) ?_ ?_
    rotate_left
    ·show Act.put _ (some 8) _ = _
     simp only [Act.put, List.setIfInBounds_toArray, List.set_cons_zero, List.set_cons_succ, i64_w, i32_w]
     rfl
    refine pure_ (i := 4) (N := some 3) (v := ?_) (a' := ?_) #[true, true, true, false, true, false] rfl rfl (by kernel_rfl) (fun _ _ _ h => h) (Or.inl ⟨by rfl, ?_⟩) ?_ ?_
    rotate_left
    ·intro w'
     go_simp
     with_reducible rfl
    rotate_left
    ·simp only [Act.put, List.setIfInBounds_toArray, List.set_cons_zero, List.set_cons_succ, i64_w, i32_w]
     rfl
    refine one_ (i := 3) (N := some 11) #[true, true, true, true, true, false] rfl rfl (by kernel_rfl) (by decide) (fun K hK => ?_)
    refine Kd.R_make_step Kd.bool _ 4 (by rfl) (N := 11) rfl 81 _ _ rfl (l0.length : Int) rfl rfl Try.underlying81 (.bool false) 1 info4 rfl (by decide) (by omega) false (ok := fun _ => True) (okp := fun _ => True) rfl (fun _ hk => hk) trivial dT (Nat.le_trans (Nat.mul_le_mul_right _ (dT : (l0.length : Int).toNat ≤ 281474976710656)) (by omega)) (Below.refl _ _) (Nat.le_refl _) ?_
    intro v239 w7 ho8 hb hg_ hnew_
    clear hg_ hnew_
    (first | rw [← Ny238.out] at ho8 | (simp only [Int.reduceToNat] at ho8; rw [← Ny238.out] at ho8))
    replace HO237 := Aside0.mk (sB HO237.out hb); have HO240 := Aside0.mk (Kd.R_lower ho8 (below_size tb)); replace HB := Aside0.mk (below_step tb hb)
    clear hb ho8
    refine hK.out _ _ trivial (fun hHeld => ?_)
    clear hK K
    refine norm_ (a' := ?_) ?_ ?_
    rotate_left
    ·show Act.put _ (some 11) _ = _
     simp only [Act.put, List.setIfInBounds_toArray, List.set_cons_zero, List.set_cons_succ, i64_w, i32_w]
     rfl
    exact norm_ (by simp only [putAll, Act.put, List.setIfInBounds_toArray, List.set_cons_zero, List.set_cons_succ]) (hCont (v236, v239) _ ⟨(S_l HO237.out), (R_l HO240.out), tb⟩)
   ·skip
    refine Kd.R_make_step Kd.bool _ 4 (by rfl) (N := 11) rfl 81 _ _ rfl (l0.length : Int) rfl rfl Try.underlying81 (.bool false) 1 info4 rfl (by decide) (by omega) false (ok := fun _ => True) (okp := fun _ => True) rfl (fun _ hk => hk) trivial dT (Nat.le_trans (Nat.mul_le_mul_right _ (dT : (l0.length : Int).toNat ≤ 281474976710656)) (by omega)) (Below.refl _ _) (Nat.le_refl _) ?_
    intro v239 w5 ho6 hb hg_ hnew_
    clear hg_ hnew_
    (first | rw [← Ny238.out] at ho6 | (simp only [Int.reduceToNat] at ho6; rw [← Ny238.out] at ho6))
    have HO240 := Aside0.mk (Kd.R_lower ho6 (below_size tb)); replace HB := Aside0.mk (below_step tb hb)
    clear hb ho6
    refine hK.out _ _ trivial (fun hHeld => ?_)
    clear hK K
    refine norm_ (a' := ?_) ?_ ?_
    rotate_left
    ·show Act.put _ (some 11) _ = _
     simp only [Act.put, List.setIfInBounds_toArray, List.set_cons_zero, List.set_cons_succ, i64_w, i32_w]
     rfl
    refine one_ (i := 0) (N := some 8) #[true, true, true, true, false, false] rfl rfl (by kernel_rfl) (by decide) (fun K hK => ?_)
    refine Kd.S_lit_step (Kd.slice 3 (Kd.int .i64)) _ 30 ?hg (N := 8) ?hd (xs := ([] : List (List Int))) (inner := []) (ok := fun _ => True) (okp := fun _ => True) ?hr ?hp (fun _ hk => hk) trivial (Below.refl _ _) (Nat.le_refl _) (by simp) ?_; (case hd => rfl); (case hg => rfl); (case hr => exact gS); (case hp => exact (Reps.none _ _))
    intro v236 w7 ho8 hb hg_ hnew_
    clear hg_ hnew_
    (first | rw [← Ny235.out] at ho8 | (simp only [Int.reduceToNat] at ho8; rw [← Ny235.out] at ho8))
    replace HO240 := Aside0.mk (rB HO240.out hb); have HO237 := Aside0.mk (Kd.S_lower ho8 (below_size tb)); replace HB := Aside0.mk (below_step tb hb)
    clear hb ho8
    refine hK.out _ _ trivial (fun hHeld => ?_)
    clear hK K
    refine norm_ (a' := ?_) ?_ ?_
    rotate_left
    ·show Act.put _ (some 8) _ = _
     simp only [Act.put, List.setIfInBounds_toArray, List.set_cons_zero, List.set_cons_succ, i64_w, i32_w]
     rfl
    refine pure_ (i := 4) (N := some 3) (v := ?_) (a' := ?_) #[true, true, true, true, true, false] rfl rfl (by kernel_rfl) (fun _ _ _ h => h) (Or.inl ⟨by rfl, ?_⟩) ?_ ?_
    rotate_left
    ·intro w'
     go_simp
     with_reducible rfl
    rotate_left
    ·simp only [Act.put, List.setIfInBounds_toArray, List.set_cons_zero, List.set_cons_succ, i64_w, i32_w]
     rfl
    exact norm_ (by simp only [putAll, Act.put, List.setIfInBounds_toArray, List.set_cons_zero, List.set_cons_succ]) (hCont (v236, v239) _ ⟨(S_l HO237.out), (R_l HO240.out), tb⟩)
  rintro ⟨v236, v239⟩ w9 ⟨h0_, h1_, h2_⟩
  have n0_ : Aside0 (Kd.S (Kd.slice 3 (Kd.int .i64)) 30 w9 w.heap.size (fun _ => True) v236 y235) := ⟨h0_⟩
  have n1_ : Aside0 (Kd.R Kd.bool 4 w9 w.heap.size (fun _ => True) v239 y238) := ⟨h1_⟩
  have n2_ : Aside0 (Below w.heap.size w w9) := ⟨h2_⟩
  clear HB
  clear h0_ h1_ h2_
  have HO237 := n0_
  have HO240 := n1_
  have HB := n2_
  clear n0_ n1_ n2_
  have hHeld := trivial
  refine norm_ (a' := ?_) ?_ ?_
  rotate_left
  ·simp only [putAll, Act.put, List.setIfInBounds_toArray, List.set_cons_zero, List.set_cons_succ]
   rfl
  refine pure_ (i := 5) (N := some 4) (v := ?_) (a' := ?_) #[true, true, true, true, true, true] rfl rfl (by kernel_rfl) (fun _ _ _ h => h) (Or.inl ⟨by rfl, ?_⟩) ?_ ?_
  rotate_left
  ·intro w'
   go_simp
   with_reducible rfl
  rotate_left
  ·simp only [Act.put, List.setIfInBounds_toArray, List.set_cons_zero, List.set_cons_succ, i64_w, i32_w]
   rfl
  refine done_ (by kernel_rfl) ?_
  try go_wp2
  go_loopg [3, 14] k (fun kq v3 v14 w' => ∃ (x3_1 : List (List Int)) (x4_1 : List Bool) (x14_1 : Int), v14 = .int .i64 x14_1 ∧ Aside0 (impl_cycles.l0 kq l0 x3_1 x4_1 (l0.length : Int) x14_1 = some r) ∧ Aside0 (kq ≤ k) ∧ Aside0 (Kd.S (Kd.slice 3 (Kd.int .i64)) 30 w' w.heap.size (fun _ => True) v3 x3_1) ∧ Aside0 (Kd.R Kd.bool 4 w' w.heap.size (fun _ => True) v239 x4_1) ∧ Aside0 (Below w.heap.size w w'))
  case atStart => exact ⟨(y235), (y238), (0), rS, H', ⟨Nat.le_refl _⟩, ⟨S_l HO237.out⟩, ⟨R_l HO240.out⟩, ⟨tb⟩⟩
  case round =>
   clear H'
   try clear c2
   try clear c2b0
   try clear c2b1
   try clear p2
   try clear c3
   try clear c3b0
   try clear c3b1
   obtain ⟨x3_1, x4_1, x14_1, rfl, HA, HK1, HO_3, HO_4, HB⟩ := hrel
   cases gk with
   | zero => exact absurd HA.out (by simp [impl_cycles.l0])
   | succ k1 =>
    have H := HA.out
    clear HA
    simp only [impl_cycles.l0] at H
    obtain ⟨c10b0, H⟩ | ⟨c10b0, H⟩ := gi H
    ·obtain ⟨c11b0, H⟩ := gdt H
     obtain ⟨c12b0, H⟩ := gdt H
     obtain ⟨bq13, hbq13⟩ : ∃ b_ : Bool, b_ = (rdOf false x4_1 x14_1) := ⟨_, rfl⟩
     replace H : (if bq13 = true then (impl_cycles.l0 k1 l0 x3_1 x4_1 (l0.length : Int) (wrap64 (x14_1 + 1))) else (impl_cycles.l1 k1 l0 x3_1 x4_1 (([] : List Int)) x14_1 (l0.length : Int) x14_1)) = some r := by rw [← hbq13] at H; exact H
     have Nbq13 := Aside0.mk hbq13
     clear hbq13
     by_cases c14 : bq13 = true
     ·subst c14
      rw [if_pos rfl] at H
      have H' := Aside0.mk H
      clear H
      obtain ⟨Ao15, co15, eo15⟩ := Kd.R_slice HO_4.out
      subst eo15
      have p241 : 0 ≤ (x14_1 : Int) := dT
      have q241 : x14_1 < (x4_1.length : Int) := dT
      obtain ⟨ad241, e241, hx241_0⟩ := Kd.at_bool (Kd.R_reads' HO_4.out).2.2 x14_1 p241 q241
      (try rw [← Nbq13.out] at hx241_0)
      cases e241
      replace p241 := eq_true p241
      replace q241 := eq_true q241
      go_wp2
      go_roundg k1
      case measure => exact oK
      case rel => exact ⟨(x3_1), (x4_1), (wrap64 (x14_1 + 1)), rS, H', ⟨oK⟩, ⟨S_l HO_3.out⟩, ⟨R_l HO_4.out⟩, ⟨tb⟩⟩
     ·replace c14 := Bool.eq_false_iff.mpr c14
      subst c14
      rw [if_neg (show ¬ (false = true) by decide)] at H
      generalize hy242 : (([] : List Int) : List Int) = y242 at H
      have Ny242 := Aside0.mk hy242.symm; clear hy242
      have H' := Aside0.mk H
      clear H
      obtain ⟨Ao16, co16, eo16⟩ := Kd.R_slice HO_4.out
      subst eo16
      have p241 : 0 ≤ (x14_1 : Int) := dT
      have q241 : x14_1 < (x4_1.length : Int) := dT
      obtain ⟨ad241, e241, hx241_0⟩ := Kd.at_bool (Kd.R_reads' HO_4.out).2.2 x14_1 p241 q241
      (try rw [← Nbq13.out] at hx241_0)
      cases e241
      replace p241 := eq_true p241
      replace q241 := eq_true q241
      go_wp2_with (first | ((with_reducible refine gate_dst (N := 21) rfl ?_); refine Kd.R_lit (Kd.int .i64) _ 3 ?hg (N := 21) ?hd (xs := ([] : List Int)) (inner := []) (ok := fun _ => True) (okp := fun _ => True) ?hr ?hp (fun _ hk => hk) trivial (Below.refl _ _) (Nat.le_refl _) (by simp) ?_; (case hd => rfl); (case hg => rfl); (case hr => exact gS); (case hp => exact (Reps.none _ _)); intro v243 w17 ho18 hb hg_ hnew_; clear hg_ hnew_; (first | rw [← Ny242.out] at ho18 | (simp only [Int.reduceToNat] at ho18; rw [← Ny242.out] at ho18)); replace HO_3 := Aside0.mk (Kd.S_elder' (S_l HO_3.out) (Kd.R_base ho18) hb); replace HO_4 := Aside0.mk (rB HO_4.out hb); have HO244 := Aside0.mk (Kd.R_lower ho18 (below_size tb)); replace HB := Aside0.mk (below_step tb hb); clear hb ho18))
      go_loopg [6, 7] k1 (fun kq v6 v7 w' => ∃ (x4_2 : List Bool) (x6_2 : List Int) (x7_2 : Int), v7 = .int .i64 x7_2 ∧ Aside0 (impl_cycles.l1 kq l0 x3_1 x4_2 x6_2 x7_2 (l0.length : Int) x14_1 = some r) ∧ Aside0 (kq ≤ k1) ∧ Aside0 (Kd.S (Kd.slice 3 (Kd.int .i64)) 30 w' w.heap.size (fun k_ => some k_ ≠ (v6 : Value).ownBlock) u3 x3_1) ∧ Aside0 (Kd.R Kd.bool 4 w' w.heap.size (fun _ => True) (.slice (some ad241) x4_1.length co16) x4_2) ∧ Aside0 (Kd.R (Kd.int .i64) 3 w' w.heap.size (fun _ => True) v6 x6_2) ∧ Aside0 (Below w.heap.size w w'))
      case atStart => exact ⟨(x4_1), (y242), (x14_1), rS, H', ⟨Nat.le_refl _⟩, ⟨S_l (Kd.S_mono HO_3.out (fun _ hk => hk.2))⟩, ⟨R_l HO_4.out⟩, ⟨R_l HO244.out⟩, ⟨tb⟩⟩
      case round =>
       clear H'
       try clear c1
       try clear q1
       try clear c2
       try clear c2b0
       try clear c2b1
       try clear p2
       try clear q2
       try clear hx2
       try clear c3
       try clear c3b0
       try clear c3b1
       try clear p6
       try clear c10
       try clear c10b0
       try clear c11
       try clear c11b0
       try clear c12
       try clear c12b0
       try clear q13
       try clear c14
       try clear hx241_0
       try clear p2
       try clear p241
       try clear q241
       obtain ⟨x4_2, x6_2, x7_2, rfl, HA, HK2, HO_3, HO_4, HO_6, HB⟩ := hrel
       have hl4_2 := (Kd.R_reads' HO_4.out).1
       rw [hl4_2] at HO_4
       (try simp only [hl4_2])
       (try simp only [hl4_2] at HO_3)
       (try simp only [hl4_2] at HO_6)
       cases gk with
       | zero => exact absurd HA.out (by simp [impl_cycles.l1])
       | succ k2 =>
        have H := HA.out
        clear HA
        simp only [impl_cycles.l1] at H
        obtain ⟨c19b0, H⟩ := gdt H
        obtain ⟨c20b0, H⟩ := gdt H
        obtain ⟨bq21, hbq21⟩ : ∃ b_ : Bool, b_ = (rdOf false x4_2 x7_2) := ⟨_, rfl⟩
        replace H : (if bq21 = true then (if x3_1.length < 5864062014805 then (impl_cycles.l0 k2 l0 (x3_1 ++ [x6_2]) x4_2 (l0.length : Int) (wrap64 (x14_1 + 1))) else (none)) else (if x6_2.length < 17592186044416 then (if x7_2 < (l0.length : Int) then (impl_cycles.l1 k2 l0 x3_1 (x4_2.set (x7_2 : Int).toNat true) (x6_2 ++ [x7_2]) (rd l0 x7_2) (l0.length : Int) x14_1) else (none)) else (none))) = some r := by rw [← hbq21] at H; exact H
        have Nbq21 := Aside0.mk hbq21
        clear hbq21
        by_cases c22 : bq21 = true
        ·subst c22
         rw [if_pos rfl] at H
         obtain ⟨LMc23, H⟩ := gda H
         generalize hy246 : (x3_1 ++ [x6_2] : List (List Int)) = y246 at H
         have Ny246 := Aside0.mk hy246.symm; clear hy246
         have H' := Aside0.mk H
         clear H
         have p245 : 0 ≤ (x7_2 : Int) := dT
         have q245 : x7_2 < (x4_2.length : Int) := dT
         obtain ⟨ad245, e245, hx245_0⟩ := Kd.at_bool (Kd.R_reads' HO_4.out).2.2 x7_2 p245 q245
         (try rw [← Nbq13.out] at hx245_0)
         (try rw [← Nbq21.out] at hx245_0)
         obtain rfl : ad241 = ad245 := (by injection e245)
         replace p245 := eq_true p245
         replace q245 := eq_true q245
         obtain ⟨Ao25, co25, eo25⟩ := Kd.R_slice HO_6.out
         subst eo25
         go_wp2_with (first | ((with_reducible refine gate_builtin (b := .append) (xs := #[.tmp 39, .tmp 41]) rfl ?_); at_builtin; refine Kd.S_append (Kd.slice 3 (Kd.int .i64)) (w0 := w) w.heap.size rfl (.tmp 39) (.tmp 41) 24 30 (.slice none 0 0) 24 rfl Try.underlying24 info30 rfl (by decide) (by omega) u3 x3_1 x6_2 [.slice Ao25 x6_2.length co25] (fun _ => True) (fun k_ => some k_ = (.slice Ao25 x6_2.length co25 : Value).ownBlock) rfl rfl ?aP (fun k_ hk_ => ((Kd.R_mono (ok' := fun k_ => ((fun _ => True)) k_ ∧ some k_ ≠ (u3 : Value).ownBlock) (Kd.R_apart' (HO_6.out) (Kd.S_typed HO_3.out) (by decide)) (fun k_ hk => ⟨trivial, hk.2⟩))).1 k_ hk_.symm) ?aF ?aO ?aB ?aS ?aL ?_; (case aP => exact Kd.M_row (Kd.R_mono (Kd.R_tight rfl (Kd.R_mono (ok' := fun k_ => ((fun _ => True)) k_ ∧ some k_ ≠ (u3 : Value).ownBlock) (Kd.R_apart' (HO_6.out) (Kd.S_typed HO_3.out) (by decide)) (fun k_ hk => ⟨trivial, hk.2⟩))) (fun _ h_ => h_))); (case aB => exact tb); (case aF => exact (fun _ _ => trivial)); (case aO => exact (S_l (Kd.S_mono HO_3.out (fun k_ hk => ⟨trivial, fun e_ => hk e_⟩)))); (case aS => exact (below_size tb)); (case aL => have := LMc23.out; omega); intro v247 w24 ho hb hg hat; rw [← Ny246.out] at ho; replace HO_4 := Aside0.mk (Kd.R_over' (R_l HO_4.out) (Kd.S_typed (S_l HO_3.out)) (by decide) hg); replace HB := Aside0.mk (hb); have HO248 := Aside0.mk (ho); clear HO_3 HO_6; clear ho hb hg hat))
         (try simp only [← hl4_2])
         go_roundg k2
         case measure => exact oK
         case rel => exact ⟨(y246), (x4_2), (wrap64 (x14_1 + 1)), rS, H', ⟨oK⟩, ⟨by (try simp only [hl4_2]); (with_reducible repeat (first | apply Kd.S_alloc | apply Kd.S_drewN | apply Kd.S_drew)); exact HO248.out⟩, ⟨by (try simp only [hl4_2]); (with_reducible repeat (first | apply Kd.R_alloc | apply Kd.R_drewN | apply Kd.R_drew)); exact HO_4.out⟩, ⟨tb⟩⟩
        ·replace c22 := Bool.eq_false_iff.mpr c22
         subst c22
         rw [if_neg (show ¬ (false = true) by decide)] at H
         generalize hy249 : (x4_2.set (x7_2 : Int).toNat true : List Bool) = y249 at H
         have Ny249 := Aside0.mk hy249.symm; clear hy249
         obtain ⟨LMc27, H⟩ := gda H
         generalize hy250 : (x6_2 ++ [x7_2] : List Int) = y250 at H
         have Ny250 := Aside0.mk hy250.symm; clear hy250
         obtain ⟨c28b0, H⟩ := gdt H
         have H' := Aside0.mk H
         clear H
         have p245 : 0 ≤ (x7_2 : Int) := dT
         have q245 : x7_2 < (x4_2.length : Int) := dT
         obtain ⟨ad245, e245, hx245_0⟩ := Kd.at_bool (Kd.R_reads' HO_4.out).2.2 x7_2 p245 q245
         (try rw [← Nbq13.out] at hx245_0)
         (try rw [← Nbq21.out] at hx245_0)
         obtain rfl : ad241 = ad245 := (by injection e245)
         replace p245 := eq_true p245
         replace q245 := eq_true q245
         have p26 : 0 ≤ (x7_2 : Int) := dT
         have q26 : (x7_2 : Int) < ((x4_2.length : Int) : Int) := dT
         obtain ⟨go26, co26, eo26, gb26, gl26, cl26, HG26⟩ := Kd.R_form HO_4.out (by omega)
         (first | cases eo26 | (injection eo26 with ea_ en_ ec_; (first | subst ea_ | (injection ea_ with ea_; subst ea_)); subst ec_; clear en_))
         (try simp only [add_plain] at *)
         have GB26 := Aside0.mk gb26
         have GG26 := Aside0.mk HG26
         clear gb26 gl26 HG26
         (first | simp only [add_plain] at hx241_0 | skip)
         (first | simp only [add_plain] at hx245_0 | skip)
         obtain ⟨hx26_0, hf26_0⟩ := Kd.R_celln false HO_4.out (x7_2 : Int) p26 q26
         replace p26 := eq_true p26
         replace q26 := eq_true q26
         have HP29 := Kd.R_putg HO_4.out (x7_2 : Int) true
         go_wp2_with (first | ((with_reducible refine gate_store (t := 4) (p := 34) rfl ?_); refine store_event (t := 4) (p := 34) (v := ?vo_w30) (w1 := (wr.setCell ⟨go26, (x7_2 : Int).toNat, none⟩ (.bool true))) ?hg ?ho ?hn ?hr ?_; (case ho => rfl); (case hg => rfl); (case hn => rfl); (case hr => exact gS); intro w30 hw; have hg : wr.grownBy w30 (some go26) := (by rw [hw]; exact HP29.2); have hp_ : Kd.R Kd.bool 4 w30 w.heap.size (fun _ => True) (.slice (some ⟨go26, 0, none⟩) x4_2.length co16) y249 := (by rw [hw, Ny249.out]; exact HP29.1); clear HP29; replace HO_3 := Aside0.mk (Kd.S_over' (v := (.slice (some ⟨go26, 0, none⟩) x4_2.length co16)) (S_l HO_3.out) (Kd.R_typed HO_4.out) (by decide) hg); replace HO_6 := Aside0.mk (Kd.R_over' (v := (.slice (some ⟨go26, 0, none⟩) x4_2.length co16)) (R_l HO_6.out) (Kd.R_typed HO_4.out) (by decide) hg); replace HO_4 := Aside0.mk (hp_); replace HB := Aside0.mk ((by rw [hw]; exact below_set (HB.out) GB26.out : Below w.heap.size w w30)); clear hg hw hp_) | ((with_reducible refine gate_builtin (b := .append) (xs := #[.tmp 35, .tmp 37]) rfl ?_); at_builtin; refine Kd.R_append (Kd.int .i64) (w0 := w) w.heap.size rfl (.tmp 35) (.tmp 37) 30 3 (.int .i64 0) 8 rfl Try.underlying30 info3 rfl (by decide) (by omega) u6 x6_2 x7_2 [.int .i64 x7_2] (fun _ => True) (fun _ => False) rfl rfl ?aP (fun _ hk => hk.elim) ?aF ?aO ?aB ?aS ?aL ?_; (case aP => exact rfl); (case aB => exact tb); (case aF => exact (fun _ _ => trivial)); (case aO => exact (R_l HO_6.out)); (case aS => exact (below_size tb)); (case aL => have := LMc27.out; omega); intro v251 w31 ho hb hg hat; rw [← Ny250.out] at ho; replace HO_3 := Aside0.mk (Kd.S_after (ok := (fun _ => True)) (S_l (Kd.S_mono HO_3.out (fun _ hk => ⟨trivial, hk⟩))) hg hat); replace HO_4 := Aside0.mk (Kd.R_over' (R_l HO_4.out) (Kd.R_typed (R_l HO_6.out)) (by decide) hg); replace HB := Aside0.mk (hb); have HO252 := Aside0.mk (ho); clear HO_6; clear ho hb hg hat; have p253 : 0 ≤ (x7_2 : Int) := dT; have q253 : x7_2 < (l0.length : Int) := dT; obtain ⟨ad253, e253, hx253_0⟩ := Kd.at_int HR0.out x7_2 p253 q253; cases e253; replace hx253_0 := cB HB hx253_0; replace p253 := eq_true p253; replace q253 := eq_true q253))
         (try simp only [← hl4_2])
         go_roundg k2
         case measure => exact oK
         case rel => exact ⟨(y249), (y250), (rd l0 x7_2), rS, H', ⟨oK⟩, ⟨by (try simp only [hl4_2]); (with_reducible repeat (first | apply Kd.S_alloc | apply Kd.S_drewN | apply Kd.S_drew)); exact Kd.S_mono HO_3.out (fun _ hk => hk.2)⟩, ⟨by (try simp only [hl4_2]); (with_reducible repeat (first | apply Kd.R_alloc | apply Kd.R_drewN | apply Kd.R_drew)); exact HO_4.out⟩, ⟨by (try simp only [hl4_2]); (with_reducible repeat (first | apply Kd.R_alloc | apply Kd.R_drewN | apply Kd.R_drew)); exact HO252.out⟩, ⟨tb⟩⟩
    ·obtain rfl := Option.some.inj H
     go_wp2
     go_ret
     exact ⟨_, rE, S_l HO_3.out, tb⟩
 ·rw [if_neg c2] at H
  exact absurd H (by simp)

/-! ### impl_indexOf: function 35 -/
def impl_indexOf.l0 : Nat → Int → List Int → Int → Int → Option (Int)
 | 0, _, _, _, _ => none
 | k + 1, x1, x7, x8, x9 => if x9 < x8 then (if 0 ≤ x9 then (if x9 < (x7.length : Int) then (if (rd x7 x9) = x1 then (some x9) else (impl_indexOf.l0 k x1 x7 x8 (wrap64 (x9 + 1)))) else (none)) else (none)) else (some (-1))
def impl_indexOf.f (k : Nat) (l0 : List Int) (a1 : Int) : Option (Int) := impl_indexOf.l0 k a1 l0 (l0.length : Int) 0
set_option maxHeartbeats 8000000 in
set_option maxRecDepth 100000 in
theorem impl_indexOf.calls (k : Nat) (A0 : Option Addr) (c0 : Nat) (l0 : List Int) (a1 : Int) (r : Int) (w : World) (hr0 : Kd.C (Kd.int .i64) w A0 l0.length l0) (hc0 : l0.length ≤ c0) (h : impl_indexOf.f k l0 a1 = some r) :
  Calls Try.prog 35 #[.slice A0 l0.length c0, .int .i64 a1] w fun e w' => e = .returned (.int .i64 r) ∧ Drawn0 w w' := by
 have HR0 := Aside0.mk hr0
 have HC0 := Aside0.mk hc0
 clear hr0 hc0
 have H : (impl_indexOf.l0 k a1 l0 (l0.length : Int) 0) = some r := h
 clear h
 have H' := Aside0.mk H
 clear H
 go_enter Try.func35, Try.ntmps35
 go_wp2
 go_loopg [9] k (fun kq v9 w' => ∃ (x9_1 : Int), v9 = .int .i64 x9_1 ∧ Aside0 (impl_indexOf.l0 kq a1 l0 (l0.length : Int) x9_1 = some r) ∧ Aside0 (kq ≤ k) ∧ Drawn0 w w')
 case atStart => exact ⟨(0), rS, H', ⟨Nat.le_refl _⟩, tD⟩
 case round =>
  clear H'
  try clear p2
  obtain ⟨x9_1, rfl, HA, HK1, ⟨m1, rfl⟩⟩ := hrel
  cases gk with
  | zero => exact absurd HA.out (by simp [impl_indexOf.l0])
  | succ k1 =>
   have H := HA.out
   clear HA
   simp only [impl_indexOf.l0] at H
   obtain ⟨c3b0, H⟩ | ⟨c3b0, H⟩ := gi H
   ·obtain ⟨c4b0, H⟩ := gdt H
    obtain ⟨c5b0, H⟩ := gdt H
    by_cases c6 : (rd l0 x9_1) = a1
    ·rw [if_pos c6] at H
     have c6b0 : ((rd l0 x9_1) == a1) = true := beq_iff_eq.mpr c6
     have c6b1 : ((rd l0 x9_1) != a1) = false := bne_eq_false_iff_eq.mpr c6
     clear c6
     obtain rfl := Option.some.inj H
     have p254 : 0 ≤ (x9_1 : Int) := dT
     have q254 : x9_1 < (l0.length : Int) := dT
     obtain ⟨ad254, e254, hx254_0⟩ := Kd.at_int HR0.out x9_1 p254 q254
     cases e254
     replace p254 := eq_true p254
     replace q254 := eq_true q254
     go_wp2
     go_ret
     exact ⟨rS, tD⟩
    ·rw [if_neg c6] at H
     have c6b0 : ((rd l0 x9_1) == a1) = false := beq_eq_false_iff_ne.mpr c6
     have c6b1 : ((rd l0 x9_1) != a1) = true := bne_iff_ne.mpr c6
     have H' := Aside0.mk H
     clear H
     have p254 : 0 ≤ (x9_1 : Int) := dT
     have q254 : x9_1 < (l0.length : Int) := dT
     obtain ⟨ad254, e254, hx254_0⟩ := Kd.at_int HR0.out x9_1 p254 q254
     cases e254
     replace p254 := eq_true p254
     replace q254 := eq_true q254
     go_wp2
     go_roundg k1
     case measure => exact oK
     case rel => exact ⟨(wrap64 (x9_1 + 1)), rS, H', ⟨oK⟩, tD⟩
   ·obtain rfl := Option.some.inj H
    go_wp2
    go_ret
    exact ⟨rS, tD⟩

/-! ### impl_mod: function 74 -/
def impl_mod.f (a0 : Int) (a1 : Int) : Option (Int) := if a1 = 0 then (none) else (if (Int.tmod a0 a1) < 0 then (some (wrap64 ((Int.tmod a0 a1) + a1))) else (some (Int.tmod a0 a1)))
set_option maxHeartbeats 8000000 in
set_option maxRecDepth 100000 in
theorem impl_mod.calls (a0 : Int) (a1 : Int) (r : Int) (w : World) (h : impl_mod.f a0 a1 = some r) :
  Calls Try.prog 74 #[.int .i64 a0, .int .i64 a1] w fun e w' => e = .returned (.int .i64 r) ∧ Drawn0 w w' := by
 have H : (if a1 = 0 then (none) else (if (Int.tmod a0 a1) < 0 then (some (wrap64 ((Int.tmod a0 a1) + a1))) else (some (Int.tmod a0 a1)))) = some r := h
 clear h
 by_cases c3 : a1 = 0
 ·rw [if_pos c3] at H
  exact absurd H (by simp)
 ·rw [if_neg c3] at H
  have c3b0 : (a1 == 0) = false := beq_eq_false_iff_ne.mpr c3
  have c3b1 : (a1 != 0) = true := bne_iff_ne.mpr c3
  obtain ⟨c4b0, H⟩ | ⟨c4b0, H⟩ := gi H
  ·obtain rfl := Option.some.inj H
   go_enter Try.func74, Try.ntmps74
   go_wp2
   go_ret
   exact ⟨rS, tD⟩
  ·obtain rfl := Option.some.inj H
   go_enter Try.func74, Try.ntmps74
   go_wp2
   go_ret
   exact ⟨rS, tD⟩

/-! ### impl_IsSurface: function 75 -/
def impl_IsSurface.f (a0_0 : Int) (a0_1 : Int) (a0_2 : Int) : Option (Bool) := (impl_within.f a0_0 0 20).bind fun t256 => (if t256 = true then ((impl_within.f a0_1 0 20).bind fun t257 => (if t257 = true then ((impl_within.f a0_2 0 20).bind fun t258 => (if t258 = true then (if a0_0 = 0 then (some true) else (some (a0_1 == 0))) else (some false))) else (some false))) else (some false))
set_option maxHeartbeats 8000000 in
set_option maxRecDepth 100000 in
theorem impl_IsSurface.calls (a0_0 : Int) (a0_1 : Int) (a0_2 : Int) (r : Bool) (w : World) (h : impl_IsSurface.f a0_0 a0_1 a0_2 = some r) :
  Calls Try.prog 75 #[.agg #[.int .i64 a0_0, .int .i64 a0_1, .int .i64 a0_2]] w fun e w' => e = .returned (.bool r) ∧ Below w.heap.size w w' := by
 have hu46 := Try.underlying46
 have HB := Aside0.mk (Below.refl w.heap.size w)
 have H : ((impl_within.f a0_0 0 20).bind fun t256 => (if t256 = true then ((impl_within.f a0_1 0 20).bind fun t257 => (if t257 = true then ((impl_within.f a0_2 0 20).bind fun t258 => (if t258 = true then (if a0_0 = 0 then (some true) else (some (a0_1 == 0))) else (some false))) else (some false))) else (some false))) = some r := h
 clear h
 obtain ⟨t256, A2, H⟩ := bs H
 by_cases c3 : t256 = true
 ·subst c3
  rw [if_pos rfl] at H
  obtain ⟨t257, A4, H⟩ := bs H
  by_cases c5 : t257 = true
  ·subst c5
   rw [if_pos rfl] at H
   obtain ⟨t258, A6, H⟩ := bs H
   by_cases c7 : t258 = true
   ·subst c7
    rw [if_pos rfl] at H
    by_cases c8 : a0_0 = 0
    ·rw [if_pos c8] at H
     have c8b0 : (a0_0 == 0) = true := beq_iff_eq.mpr c8
     have c8b1 : (a0_0 != 0) = false := bne_eq_false_iff_eq.mpr c8
     clear c8
     obtain rfl := Option.some.inj H
     go_enter Try.func75, Try.ntmps75
     go_wp2_with (first | ((with_reducible refine gate_dst (N := 1) rfl ?_); refine box_event ?hg (N := 1) ?hd (cs := #[.int .i64 a0_0, .int .i64 a0_1, .int .i64 a0_2]) (t := 46) ?hr ?_; (case hd => rfl); (case hg => rfl); (case hr => exact gS); intro gb255 hg w9 hbox hb; have BK255 := Aside0.mk (hbox); have GW255 := Aside0.mk (gW hg tb); have GE255 := Aside0.mk (gW hg tb); replace HB := Aside0.mk (below_step tb hb); clear hb hbox hg; have hcz10_0 : w9.cell? ⟨gb255, 0, none⟩ = some (.int .i64 a0_0) := (blk_cell BK255.out 0).trans rfl; have hcz10_1 : w9.cell? ⟨gb255, 1, none⟩ = some (.int .i64 a0_1) := (blk_cell BK255.out 1).trans rfl; have hcz10_2 : w9.cell? ⟨gb255, 2, none⟩ = some (.int .i64 a0_2) := (blk_cell BK255.out 2).trans rfl; have hfz10_0 := blk_frozen BK255.out 0; have hfz10_1 := blk_frozen BK255.out 1; have hfz10_2 := blk_frozen BK255.out 2) | (refine gL 48 (some 5) Try.func48 #[.int .i64 a0_0, .int .i64 0, .int .i64 20] ?_; (with_reducible refine (impl_within.calls a0_0 0 20 true _ A2.out).mono ?_); rintro e w' ⟨rfl, ⟨nd, rfl⟩⟩; refine ⟨_, rfl, ?_⟩) | (go_at_call 48; (with_reducible refine (impl_within.calls a0_1 0 20 true _ A4.out).mono ?_); rintro e w' ⟨rfl, ⟨nd, rfl⟩⟩) | (go_at_call 48; (with_reducible refine (impl_within.calls a0_2 0 20 true _ A6.out).mono ?_); rintro e w' ⟨rfl, ⟨nd, rfl⟩⟩))
     go_ret
     exact ⟨rE, tG1 GE255.out⟩
    ·rw [if_neg c8] at H
     have c8b0 : (a0_0 == 0) = false := beq_eq_false_iff_ne.mpr c8
     have c8b1 : (a0_0 != 0) = true := bne_iff_ne.mpr c8
     obtain rfl := Option.some.inj H
     go_enter Try.func75, Try.ntmps75
     go_wp2_with (first | ((with_reducible refine gate_dst (N := 1) rfl ?_); refine box_event ?hg (N := 1) ?hd (cs := #[.int .i64 a0_0, .int .i64 a0_1, .int .i64 a0_2]) (t := 46) ?hr ?_; (case hd => rfl); (case hg => rfl); (case hr => exact gS); intro gb255 hg w11 hbox hb; have BK255 := Aside0.mk (hbox); have GW255 := Aside0.mk (gW hg tb); have GE255 := Aside0.mk (gW hg tb); replace HB := Aside0.mk (below_step tb hb); clear hb hbox hg; have hcz12_0 : w11.cell? ⟨gb255, 0, none⟩ = some (.int .i64 a0_0) := (blk_cell BK255.out 0).trans rfl; have hcz12_1 : w11.cell? ⟨gb255, 1, none⟩ = some (.int .i64 a0_1) := (blk_cell BK255.out 1).trans rfl; have hcz12_2 : w11.cell? ⟨gb255, 2, none⟩ = some (.int .i64 a0_2) := (blk_cell BK255.out 2).trans rfl; have hfz12_0 := blk_frozen BK255.out 0; have hfz12_1 := blk_frozen BK255.out 1; have hfz12_2 := blk_frozen BK255.out 2) | (refine gL 48 (some 5) Try.func48 #[.int .i64 a0_0, .int .i64 0, .int .i64 20] ?_; (with_reducible refine (impl_within.calls a0_0 0 20 true _ A2.out).mono ?_); rintro e w' ⟨rfl, ⟨nd, rfl⟩⟩; refine ⟨_, rfl, ?_⟩) | (go_at_call 48; (with_reducible refine (impl_within.calls a0_1 0 20 true _ A4.out).mono ?_); rintro e w' ⟨rfl, ⟨nd, rfl⟩⟩) | (go_at_call 48; (with_reducible refine (impl_within.calls a0_2 0 20 true _ A6.out).mono ?_); rintro e w' ⟨rfl, ⟨nd, rfl⟩⟩))
     go_ret
     exact ⟨rE, tG1 GE255.out⟩
   ·replace c7 := Bool.eq_false_iff.mpr c7
    subst c7
    rw [if_neg (show ¬ (false = true) by decide)] at H
    obtain rfl := Option.some.inj H
    go_enter Try.func75, Try.ntmps75
    go_wp2_with (first | ((with_reducible refine gate_dst (N := 1) rfl ?_); refine box_event ?hg (N := 1) ?hd (cs := #[.int .i64 a0_0, .int .i64 a0_1, .int .i64 a0_2]) (t := 46) ?hr ?_; (case hd => rfl); (case hg => rfl); (case hr => exact gS); intro gb255 hg w13 hbox hb; have BK255 := Aside0.mk (hbox); have GW255 := Aside0.mk (gW hg tb); have GE255 := Aside0.mk (gW hg tb); replace HB := Aside0.mk (below_step tb hb); clear hb hbox hg; have hcz14_0 : w13.cell? ⟨gb255, 0, none⟩ = some (.int .i64 a0_0) := (blk_cell BK255.out 0).trans rfl; have hcz14_1 : w13.cell? ⟨gb255, 1, none⟩ = some (.int .i64 a0_1) := (blk_cell BK255.out 1).trans rfl; have hcz14_2 : w13.cell? ⟨gb255, 2, none⟩ = some (.int .i64 a0_2) := (blk_cell BK255.out 2).trans rfl; have hfz14_0 := blk_frozen BK255.out 0; have hfz14_1 := blk_frozen BK255.out 1; have hfz14_2 := blk_frozen BK255.out 2) | (refine gL 48 (some 5) Try.func48 #[.int .i64 a0_0, .int .i64 0, .int .i64 20] ?_; (with_reducible refine (impl_within.calls a0_0 0 20 true _ A2.out).mono ?_); rintro e w' ⟨rfl, ⟨nd, rfl⟩⟩; refine ⟨_, rfl, ?_⟩) | (go_at_call 48; (with_reducible refine (impl_within.calls a0_1 0 20 true _ A4.out).mono ?_); rintro e w' ⟨rfl, ⟨nd, rfl⟩⟩) | (go_at_call 48; (with_reducible refine (impl_within.calls a0_2 0 20 false _ A6.out).mono ?_); rintro e w' ⟨rfl, ⟨nd, rfl⟩⟩))
    go_ret
    exact ⟨rE, tG1 GE255.out⟩
  ·replace c5 := Bool.eq_false_iff.mpr c5
   subst c5
   rw [if_neg (show ¬ (false = true) by decide)] at H
   obtain rfl := Option.some.inj H
   go_enter Try.func75, Try.ntmps75
   go_wp2_with (first | ((with_reducible refine gate_dst (N := 1) rfl ?_); refine box_event ?hg (N := 1) ?hd (cs := #[.int .i64 a0_0, .int .i64 a0_1, .int .i64 a0_2]) (t := 46) ?hr ?_; (case hd => rfl); (case hg => rfl); (case hr => exact gS); intro gb255 hg w15 hbox hb; have BK255 := Aside0.mk (hbox); have GW255 := Aside0.mk (gW hg tb); have GE255 := Aside0.mk (gW hg tb); replace HB := Aside0.mk (below_step tb hb); clear hb hbox hg; have hcz16_0 : w15.cell? ⟨gb255, 0, none⟩ = some (.int .i64 a0_0) := (blk_cell BK255.out 0).trans rfl; have hcz16_1 : w15.cell? ⟨gb255, 1, none⟩ = some (.int .i64 a0_1) := (blk_cell BK255.out 1).trans rfl; have hcz16_2 : w15.cell? ⟨gb255, 2, none⟩ = some (.int .i64 a0_2) := (blk_cell BK255.out 2).trans rfl; have hfz16_0 := blk_frozen BK255.out 0; have hfz16_1 := blk_frozen BK255.out 1; have hfz16_2 := blk_frozen BK255.out 2) | (refine gL 48 (some 5) Try.func48 #[.int .i64 a0_0, .int .i64 0, .int .i64 20] ?_; (with_reducible refine (impl_within.calls a0_0 0 20 true _ A2.out).mono ?_); rintro e w' ⟨rfl, ⟨nd, rfl⟩⟩; refine ⟨_, rfl, ?_⟩) | (go_at_call 48; (with_reducible refine (impl_within.calls a0_1 0 20 false _ A4.out).mono ?_); rintro e w' ⟨rfl, ⟨nd, rfl⟩⟩))
   go_ret
   exact ⟨rE, tG1 GE255.out⟩
 ·replace c3 := Bool.eq_false_iff.mpr c3
  subst c3
  rw [if_neg (show ¬ (false = true) by decide)] at H
  obtain rfl := Option.some.inj H
  go_enter Try.func75, Try.ntmps75
  go_wp2_with (first | ((with_reducible refine gate_dst (N := 1) rfl ?_); refine box_event ?hg (N := 1) ?hd (cs := #[.int .i64 a0_0, .int .i64 a0_1, .int .i64 a0_2]) (t := 46) ?hr ?_; (case hd => rfl); (case hg => rfl); (case hr => exact gS); intro gb255 hg w17 hbox hb; have BK255 := Aside0.mk (hbox); have GW255 := Aside0.mk (gW hg tb); have GE255 := Aside0.mk (gW hg tb); replace HB := Aside0.mk (below_step tb hb); clear hb hbox hg; have hcz18_0 : w17.cell? ⟨gb255, 0, none⟩ = some (.int .i64 a0_0) := (blk_cell BK255.out 0).trans rfl; have hcz18_1 : w17.cell? ⟨gb255, 1, none⟩ = some (.int .i64 a0_1) := (blk_cell BK255.out 1).trans rfl; have hcz18_2 : w17.cell? ⟨gb255, 2, none⟩ = some (.int .i64 a0_2) := (blk_cell BK255.out 2).trans rfl; have hfz18_0 := blk_frozen BK255.out 0; have hfz18_1 := blk_frozen BK255.out 1; have hfz18_2 := blk_frozen BK255.out 2) | (refine gL 48 (some 5) Try.func48 #[.int .i64 a0_0, .int .i64 0, .int .i64 20] ?_; (with_reducible refine (impl_within.calls a0_0 0 20 false _ A2.out).mono ?_); rintro e w' ⟨rfl, ⟨nd, rfl⟩⟩; refine ⟨_, rfl, ?_⟩))
  go_ret
  exact ⟨rE, tG1 GE255.out⟩

/-! ### impl_surfaceWith: function 36 -/
def impl_surfaceWith.f (a0 : Int) (a1 : Int) (a2 : Bool) : Option (Int × Int × Int × Bool) := if a2 = true then ((impl_mod.f (wrap64 ((wrap64 (2 - a0)) - a1)) 2).bind fun m => (if m = 0 then ((impl_IsSurface.f (wrap64 (Int.tdiv (wrap64 ((wrap64 (2 - a0)) - a1)) 2)) 0 a1).bind fun s => (if s = true then (some (wrap64 (Int.tdiv (wrap64 ((wrap64 (2 - a0)) - a1)) 2), 0, a1, true)) else (some (0, 0, 0, false)))) else (some (0, 0, 0, false)))) else (none)
/-- two surfaces in memory, at blocks g (the result) and h -/
structure SW (w w1 : World) (g h : Nat) (x y z p q r : Int) : Prop where
 c6 : w1.heap[g]? = some (.cells #[.int .i64 x, .int .i64 y, .int .i64 z] 46 (0, 0))
 c9 : w1.heap[h]? = some (.cells #[.int .i64 p, .int .i64 q, .int .i64 r] 46 (0, 0))
 bel : Below w.heap.size w w1
 g0 : w.heap.size ≤ g
 h0 : w.heap.size ≤ h
 ne : g ≠ h
theorem SW.put9 {w w1 : World} {g h : Nat} {x y z p q r : Int} (m : SW w w1 g h x y z p q r) (a b c : Int) : SW w (((w1.setCell ⟨h, 0, none⟩ (.int .i64 a)).setCell ⟨h, 1, none⟩ (.int .i64 b)).setCell ⟨h, 2, none⟩ (.int .i64 c)) g h x y z a b c :=
 ⟨blk_far (blk_far (blk_far m.c6 m.ne _) m.ne _) m.ne _, blk_put (blk_put (blk_put m.c9 0 _ rfl) 1 _ rfl) 2 _ rfl, below_set (below_set (below_set m.bel m.h0) m.h0) m.h0, m.g0, m.h0, m.ne⟩
theorem SW.put6 {w w1 : World} {g h : Nat} {x y z p q r : Int} (m : SW w w1 g h x y z p q r) (a b c : Int) : SW w (((w1.setCell ⟨g, 0, none⟩ (.int .i64 a)).setCell ⟨g, 1, none⟩ (.int .i64 b)).setCell ⟨g, 2, none⟩ (.int .i64 c)) g h a b c p q r :=
 ⟨blk_put (blk_put (blk_put m.c6 0 _ rfl) 1 _ rfl) 2 _ rfl, blk_far (blk_far (blk_far m.c9 m.ne.symm _) m.ne.symm _) m.ne.symm _, below_set (below_set (below_set m.bel m.g0) m.g0) m.g0, m.g0, m.h0, m.ne⟩
theorem SW.drawn {w w1 : World} {g h : Nat} {x y z p q r : Int} (m : SW w w1 g h x y z p q r) (n : Nat) : SW w (w1.drewN n) g h x y z p q r :=
 ⟨blk_drewN m.c6 n, blk_drewN m.c9 n, pw_below_drewN m.bel n, m.g0, m.h0, m.ne⟩
theorem SW.on {w w1 w2 : World} {g h : Nat} {x y z p q r : Int} (m : SW w w1 g h x y z p q r) (hb : Below w1.heap.size w1 w2) : SW w w2 g h x y z p q r :=
 ⟨blk_below m.c6 hb, blk_below m.c9 hb, below_step m.bel hb, m.g0, m.h0, m.ne⟩
theorem SW.r9 {w w1 : World} {g h : Nat} {x y z p q r : Int} (m : SW w w1 g h x y z p q r) : (w1.cell? ⟨h, 0, none⟩ = some (.int .i64 p) ∧ w1.cell? ⟨h, 1, none⟩ = some (.int .i64 q) ∧ w1.cell? ⟨h, 2, none⟩ = some (.int .i64 r)) ∧ w1.frozen? ⟨h, 0, none⟩ = false ∧ w1.frozen? ⟨h, 1, none⟩ = false ∧ w1.frozen? ⟨h, 2, none⟩ = false :=
 ⟨⟨(blk_cell m.c9 0).trans rfl, (blk_cell m.c9 1).trans rfl, (blk_cell m.c9 2).trans rfl⟩, blk_frozen m.c9 0, blk_frozen m.c9 1, blk_frozen m.c9 2⟩
theorem SW.r6 {w w1 : World} {g h : Nat} {x y z p q r : Int} (m : SW w w1 g h x y z p q r) : (w1.cell? ⟨g, 0, none⟩ = some (.int .i64 x) ∧ w1.cell? ⟨g, 1, none⟩ = some (.int .i64 y) ∧ w1.cell? ⟨g, 2, none⟩ = some (.int .i64 z)) ∧ w1.frozen? ⟨g, 0, none⟩ = false ∧ w1.frozen? ⟨g, 1, none⟩ = false ∧ w1.frozen? ⟨g, 2, none⟩ = false :=
 ⟨⟨(blk_cell m.c6 0).trans rfl, (blk_cell m.c6 1).trans rfl, (blk_cell m.c6 2).trans rfl⟩, blk_frozen m.c6 0, blk_frozen m.c6 1, blk_frozen m.c6 2⟩
set_option maxHeartbeats 8000000 in
set_option maxRecDepth 100000 in
theorem impl_surfaceWith.calls (a0 : Int) (a1 : Int) (a2 : Bool) (r1 : Int) (r2 : Int) (r3 : Int) (r4 : Bool) (w : World) (h : impl_surfaceWith.f a0 a1 a2 = some (r1, r2, r3, r4)) :
  Calls Try.prog 36 #[.int .i64 a0, .int .i64 a1, .bool a2] w fun e w' => e = .returned (.tuple #[.agg #[.int .i64 r1, .int .i64 r2, .int .i64 r3], .bool r4]) ∧ Below w.heap.size w w' := by
 have hu42 := Try.underlying46
 unfold impl_surfaceWith.f at h
 obtain ⟨q1, hq1⟩ : ∃ x_ : Int, wrap64 (2 - a0) = x_ := ⟨_, rfl⟩
 obtain ⟨q2, hq2⟩ : ∃ x_ : Int, wrap64 (q1 - a1) = x_ := ⟨_, rfl⟩
 obtain ⟨q3, hq3⟩ : ∃ x_ : Int, wrap64 (Int.tdiv q2 2) = x_ := ⟨_, rfl⟩
 rw [hq1, hq2, hq3] at h
 have hq1w : IntKind.i64.wrap (2 - a0) = q1 := (i64_w _).trans hq1
 have hq2w : IntKind.i64.wrap (q1 - a1) = q2 := (i64_w _).trans hq2
 have hq3w : IntKind.i64.wrap (Int.tdiv q2 2) = q3 := (i64_w _).trans hq3
 clear hq1 hq2 hq3
 cases a2 with
 | false => rw [if_neg (by decide)] at h; cases h
 | true =>
  rw [if_pos rfl] at h
  obtain ⟨m, hm, h⟩ := Option.bind_eq_some_iff.mp h
  have A5 := Aside0.mk hm
  clear hm
  by_cases c6 : m = 0
  ·rw [if_pos c6] at h
   have c6b0 : (m == 0) = true := beq_iff_eq.mpr c6
   have c6b1 : (m != 0) = false := bne_eq_false_iff_eq.mpr c6
   clear c6
   obtain ⟨s, hs, h⟩ := Option.bind_eq_some_iff.mp h
   have A7 := Aside0.mk hs
   clear hs
   cases s with
   | true =>
    rw [if_pos rfl] at h
    simp only [Option.some.injEq, Prod.mk.injEq] at h
    obtain ⟨rfl, rfl, rfl, rfl⟩ := h
    go_enter Try.func36, Try.ntmps36
    go_wp2_with (first | ((with_reducible refine gate_dst (N := 6) rfl ?_); refine box_event ?hg (N := 6) ?hd (cs := #[.int .i64 0, .int .i64 0, .int .i64 0]) (t := 46) ?hr ?_; (case hd => rfl); (case hg => rfl); (case hr => exact gS); intro g6 hg w9 hbox hb; have B9 := Aside0.mk hb; have K9 := Aside0.mk hbox; have G9 := Aside0.mk (show w.heap.size ≤ g6 by rw [hg]; exact Nat.le_refl _); clear hg hbox hb) | ((with_reducible refine gate_dst (N := 9) rfl ?_); refine box_event ?hg (N := 9) ?hd (cs := #[.int .i64 0, .int .i64 0, .int .i64 0]) (t := 46) ?hr ?_; (case hd => rfl); (case hg => rfl); (case hr => exact gS); intro g9 hg w10 hbox hb; have M_w10 := Aside0.mk (show SW w w10 g6 g9 0 0 0 0 0 0 from ⟨blk_below K9.out hb, hbox, below_step B9.out hb, G9.out, by rw [hg]; exact B9.out.size, by rw [hg]; exact Nat.ne_of_lt (blk_lt K9.out)⟩); clear hg hbox hb; obtain ⟨⟨d0_, d1_, d2_⟩, d3_, d4_, d5_⟩ := M_w10.out.r6; obtain ⟨⟨e0_, e1_, e2_⟩, e3_, e4_, e5_⟩ := M_w10.out.r9) | ((with_reducible refine gate_store (t := 46) (p := 9) rfl ?_); refine store_event (t := 46) (p := 9) (v := ?vo_w11_1) (w1 := (((w10.setCell ⟨g9, 0, none⟩ (.int .i64 0)).setCell ⟨g9, 1, none⟩ (.int .i64 q2)).setCell ⟨g9, 2, none⟩ (.int .i64 a1))) ?hg ?ho ?hn ?hr ?_; (case ho => rfl); (case hg => rfl); (case hn => rfl); (case hr => exact gS); intro w11 hw_; have M_w11 := Aside0.mk (hw_ ▸ M_w10.out.put9 0 q2 a1 : SW w w11 _ _ _ _ _ _ _ _); clear d0_ d1_ d2_ d3_ d4_ d5_ e0_ e1_ e2_ e3_ e4_ e5_; obtain ⟨⟨d0_, d1_, d2_⟩, d3_, d4_, d5_⟩ := M_w11.out.r6; obtain ⟨⟨e0_, e1_, e2_⟩, e3_, e4_, e5_⟩ := M_w11.out.r9; clear hw_) | (go_at_call 74; (with_reducible refine (impl_mod.calls q2 2 m _ A5.out).mono ?_); rintro e w' ⟨rfl, ⟨nd, rfl⟩⟩; have M_0 := Aside0.mk (M_w11.out.drawn nd); clear d0_ d1_ d2_ d3_ d4_ d5_ e0_ e1_ e2_ e3_ e4_ e5_; generalize w11.drewN nd = w12 at M_0 ⊢; have M_w12 := M_0; clear M_0; obtain ⟨⟨d0_, d1_, d2_⟩, d3_, d4_, d5_⟩ := M_w12.out.r6; obtain ⟨⟨e0_, e1_, e2_⟩, e3_, e4_, e5_⟩ := M_w12.out.r9) | ((with_reducible refine gate_store (t := 46) (p := 9) rfl ?_); refine store_event (t := 46) (p := 9) (v := ?vo_w13_1) (w1 := (((w12.setCell ⟨g9, 0, none⟩ (.int .i64 q3)).setCell ⟨g9, 1, none⟩ (.int .i64 0)).setCell ⟨g9, 2, none⟩ (.int .i64 a1))) ?hg ?ho ?hn ?hr ?_; (case ho => rfl); (case hg => rfl); (case hn => rfl); (case hr => exact gS); intro w13 hw_; have M_w13 := Aside0.mk (hw_ ▸ M_w12.out.put9 q3 0 a1 : SW w w13 _ _ _ _ _ _ _ _); clear d0_ d1_ d2_ d3_ d4_ d5_ e0_ e1_ e2_ e3_ e4_ e5_; obtain ⟨⟨d0_, d1_, d2_⟩, d3_, d4_, d5_⟩ := M_w13.out.r6; obtain ⟨⟨e0_, e1_, e2_⟩, e3_, e4_, e5_⟩ := M_w13.out.r9; clear hw_) | (go_at_call 75; (with_reducible refine (impl_IsSurface.calls q3 0 a1 true _ A7.out).mono ?_); rintro e w14 ⟨rfl, hb⟩; have M_w14 := Aside0.mk (M_w13.out.on hb); clear hb; clear d0_ d1_ d2_ d3_ d4_ d5_ e0_ e1_ e2_ e3_ e4_ e5_; obtain ⟨⟨d0_, d1_, d2_⟩, d3_, d4_, d5_⟩ := M_w14.out.r6; obtain ⟨⟨e0_, e1_, e2_⟩, e3_, e4_, e5_⟩ := M_w14.out.r9) | ((with_reducible refine gate_store (t := 46) (p := 6) rfl ?_); refine store_event (t := 46) (p := 6) (v := ?vo_w15_1) (w1 := (((w14.setCell ⟨g6, 0, none⟩ (.int .i64 q3)).setCell ⟨g6, 1, none⟩ (.int .i64 0)).setCell ⟨g6, 2, none⟩ (.int .i64 a1))) ?hg ?ho ?hn ?hr ?_; (case ho => rfl); (case hg => rfl); (case hn => rfl); (case hr => exact gS); intro w15 hw_; have M_w15 := Aside0.mk (hw_ ▸ M_w14.out.put6 q3 0 a1 : SW w w15 _ _ _ _ _ _ _ _); clear d0_ d1_ d2_ d3_ d4_ d5_ e0_ e1_ e2_ e3_ e4_ e5_; obtain ⟨⟨d0_, d1_, d2_⟩, d3_, d4_, d5_⟩ := M_w15.out.r6; obtain ⟨⟨e0_, e1_, e2_⟩, e3_, e4_, e5_⟩ := M_w15.out.r9; clear hw_))
    refine bodyPost_ret (results_ct rfl _ _ g6 46 #[.int .i64 q3, .int .i64 0, .int .i64 a1] (0, 0) _ rfl M_w15.out.c6 Try.underlying46 rfl (by kernel_rfl)) rfl ?_
    exact ⟨rfl, M_w15.out.bel⟩
   | false =>
    rw [if_neg (by decide)] at h
    simp only [Option.some.injEq, Prod.mk.injEq] at h
    obtain ⟨rfl, rfl, rfl, rfl⟩ := h
    go_enter Try.func36, Try.ntmps36
    go_wp2_with (first | ((with_reducible refine gate_dst (N := 6) rfl ?_); refine box_event ?hg (N := 6) ?hd (cs := #[.int .i64 0, .int .i64 0, .int .i64 0]) (t := 46) ?hr ?_; (case hd => rfl); (case hg => rfl); (case hr => exact gS); intro g6 hg w9 hbox hb; have B9 := Aside0.mk hb; have K9 := Aside0.mk hbox; have G9 := Aside0.mk (show w.heap.size ≤ g6 by rw [hg]; exact Nat.le_refl _); clear hg hbox hb) | ((with_reducible refine gate_dst (N := 9) rfl ?_); refine box_event ?hg (N := 9) ?hd (cs := #[.int .i64 0, .int .i64 0, .int .i64 0]) (t := 46) ?hr ?_; (case hd => rfl); (case hg => rfl); (case hr => exact gS); intro g9 hg w10 hbox hb; have M_w10 := Aside0.mk (show SW w w10 g6 g9 0 0 0 0 0 0 from ⟨blk_below K9.out hb, hbox, below_step B9.out hb, G9.out, by rw [hg]; exact B9.out.size, by rw [hg]; exact Nat.ne_of_lt (blk_lt K9.out)⟩); clear hg hbox hb; obtain ⟨⟨d0_, d1_, d2_⟩, d3_, d4_, d5_⟩ := M_w10.out.r6; obtain ⟨⟨e0_, e1_, e2_⟩, e3_, e4_, e5_⟩ := M_w10.out.r9) | ((with_reducible refine gate_store (t := 46) (p := 9) rfl ?_); refine store_event (t := 46) (p := 9) (v := ?vo_w11_2) (w1 := (((w10.setCell ⟨g9, 0, none⟩ (.int .i64 0)).setCell ⟨g9, 1, none⟩ (.int .i64 q2)).setCell ⟨g9, 2, none⟩ (.int .i64 a1))) ?hg ?ho ?hn ?hr ?_; (case ho => rfl); (case hg => rfl); (case hn => rfl); (case hr => exact gS); intro w11 hw_; have M_w11 := Aside0.mk (hw_ ▸ M_w10.out.put9 0 q2 a1 : SW w w11 _ _ _ _ _ _ _ _); clear d0_ d1_ d2_ d3_ d4_ d5_ e0_ e1_ e2_ e3_ e4_ e5_; obtain ⟨⟨d0_, d1_, d2_⟩, d3_, d4_, d5_⟩ := M_w11.out.r6; obtain ⟨⟨e0_, e1_, e2_⟩, e3_, e4_, e5_⟩ := M_w11.out.r9; clear hw_) | (go_at_call 74; (with_reducible refine (impl_mod.calls q2 2 m _ A5.out).mono ?_); rintro e w' ⟨rfl, ⟨nd, rfl⟩⟩; have M_0 := Aside0.mk (M_w11.out.drawn nd); clear d0_ d1_ d2_ d3_ d4_ d5_ e0_ e1_ e2_ e3_ e4_ e5_; generalize w11.drewN nd = w12 at M_0 ⊢; have M_w12 := M_0; clear M_0; obtain ⟨⟨d0_, d1_, d2_⟩, d3_, d4_, d5_⟩ := M_w12.out.r6; obtain ⟨⟨e0_, e1_, e2_⟩, e3_, e4_, e5_⟩ := M_w12.out.r9) | ((with_reducible refine gate_store (t := 46) (p := 9) rfl ?_); refine store_event (t := 46) (p := 9) (v := ?vo_w13_2) (w1 := (((w12.setCell ⟨g9, 0, none⟩ (.int .i64 q3)).setCell ⟨g9, 1, none⟩ (.int .i64 0)).setCell ⟨g9, 2, none⟩ (.int .i64 a1))) ?hg ?ho ?hn ?hr ?_; (case ho => rfl); (case hg => rfl); (case hn => rfl); (case hr => exact gS); intro w13 hw_; have M_w13 := Aside0.mk (hw_ ▸ M_w12.out.put9 q3 0 a1 : SW w w13 _ _ _ _ _ _ _ _); clear d0_ d1_ d2_ d3_ d4_ d5_ e0_ e1_ e2_ e3_ e4_ e5_; obtain ⟨⟨d0_, d1_, d2_⟩, d3_, d4_, d5_⟩ := M_w13.out.r6; obtain ⟨⟨e0_, e1_, e2_⟩, e3_, e4_, e5_⟩ := M_w13.out.r9; clear hw_) | (go_at_call 75; (with_reducible refine (impl_IsSurface.calls q3 0 a1 false _ A7.out).mono ?_); rintro e w14 ⟨rfl, hb⟩; have M_w14 := Aside0.mk (M_w13.out.on hb); clear hb; clear d0_ d1_ d2_ d3_ d4_ d5_ e0_ e1_ e2_ e3_ e4_ e5_; obtain ⟨⟨d0_, d1_, d2_⟩, d3_, d4_, d5_⟩ := M_w14.out.r6; obtain ⟨⟨e0_, e1_, e2_⟩, e3_, e4_, e5_⟩ := M_w14.out.r9) | ((with_reducible refine gate_store (t := 46) (p := 6) rfl ?_); refine store_event (t := 46) (p := 6) (v := ?vo_w15_2) (w1 := (((w14.setCell ⟨g6, 0, none⟩ (.int .i64 0)).setCell ⟨g6, 1, none⟩ (.int .i64 0)).setCell ⟨g6, 2, none⟩ (.int .i64 0))) ?hg ?ho ?hn ?hr ?_; (case ho => rfl); (case hg => rfl); (case hn => rfl); (case hr => exact gS); intro w15 hw_; have M_w15 := Aside0.mk (hw_ ▸ M_w14.out.put6 0 0 0 : SW w w15 _ _ _ _ _ _ _ _); clear d0_ d1_ d2_ d3_ d4_ d5_ e0_ e1_ e2_ e3_ e4_ e5_; obtain ⟨⟨d0_, d1_, d2_⟩, d3_, d4_, d5_⟩ := M_w15.out.r6; obtain ⟨⟨e0_, e1_, e2_⟩, e3_, e4_, e5_⟩ := M_w15.out.r9; clear hw_))
    refine bodyPost_ret (results_ct rfl _ _ g6 46 #[.int .i64 0, .int .i64 0, .int .i64 0] (0, 0) _ rfl M_w15.out.c6 Try.underlying46 rfl (by kernel_rfl)) rfl ?_
    exact ⟨rfl, M_w15.out.bel⟩
  ·rw [if_neg c6] at h
   have c6b0 : (m == 0) = false := beq_eq_false_iff_ne.mpr c6
   have c6b1 : (m != 0) = true := bne_iff_ne.mpr c6
   clear c6
   simp only [Option.some.injEq, Prod.mk.injEq] at h
   obtain ⟨rfl, rfl, rfl, rfl⟩ := h
   go_enter Try.func36, Try.ntmps36
   go_wp2_with (first | ((with_reducible refine gate_dst (N := 6) rfl ?_); refine box_event ?hg (N := 6) ?hd (cs := #[.int .i64 0, .int .i64 0, .int .i64 0]) (t := 46) ?hr ?_; (case hd => rfl); (case hg => rfl); (case hr => exact gS); intro g6 hg w9 hbox hb; have B9 := Aside0.mk hb; have K9 := Aside0.mk hbox; have G9 := Aside0.mk (show w.heap.size ≤ g6 by rw [hg]; exact Nat.le_refl _); clear hg hbox hb) | ((with_reducible refine gate_dst (N := 9) rfl ?_); refine box_event ?hg (N := 9) ?hd (cs := #[.int .i64 0, .int .i64 0, .int .i64 0]) (t := 46) ?hr ?_; (case hd => rfl); (case hg => rfl); (case hr => exact gS); intro g9 hg w10 hbox hb; have M_w10 := Aside0.mk (show SW w w10 g6 g9 0 0 0 0 0 0 from ⟨blk_below K9.out hb, hbox, below_step B9.out hb, G9.out, by rw [hg]; exact B9.out.size, by rw [hg]; exact Nat.ne_of_lt (blk_lt K9.out)⟩); clear hg hbox hb; obtain ⟨⟨d0_, d1_, d2_⟩, d3_, d4_, d5_⟩ := M_w10.out.r6; obtain ⟨⟨e0_, e1_, e2_⟩, e3_, e4_, e5_⟩ := M_w10.out.r9) | ((with_reducible refine gate_store (t := 46) (p := 9) rfl ?_); refine store_event (t := 46) (p := 9) (v := ?vo_w11_3) (w1 := (((w10.setCell ⟨g9, 0, none⟩ (.int .i64 0)).setCell ⟨g9, 1, none⟩ (.int .i64 q2)).setCell ⟨g9, 2, none⟩ (.int .i64 a1))) ?hg ?ho ?hn ?hr ?_; (case ho => rfl); (case hg => rfl); (case hn => rfl); (case hr => exact gS); intro w11 hw_; have M_w11 := Aside0.mk (hw_ ▸ M_w10.out.put9 0 q2 a1 : SW w w11 _ _ _ _ _ _ _ _); clear d0_ d1_ d2_ d3_ d4_ d5_ e0_ e1_ e2_ e3_ e4_ e5_; obtain ⟨⟨d0_, d1_, d2_⟩, d3_, d4_, d5_⟩ := M_w11.out.r6; obtain ⟨⟨e0_, e1_, e2_⟩, e3_, e4_, e5_⟩ := M_w11.out.r9; clear hw_) | (go_at_call 74; (with_reducible refine (impl_mod.calls q2 2 m _ A5.out).mono ?_); rintro e w' ⟨rfl, ⟨nd, rfl⟩⟩; have M_0 := Aside0.mk (M_w11.out.drawn nd); clear d0_ d1_ d2_ d3_ d4_ d5_ e0_ e1_ e2_ e3_ e4_ e5_; generalize w11.drewN nd = w12 at M_0 ⊢; have M_w12 := M_0; clear M_0; obtain ⟨⟨d0_, d1_, d2_⟩, d3_, d4_, d5_⟩ := M_w12.out.r6; obtain ⟨⟨e0_, e1_, e2_⟩, e3_, e4_, e5_⟩ := M_w12.out.r9) | ((with_reducible refine gate_store (t := 46) (p := 6) rfl ?_); refine store_event (t := 46) (p := 6) (v := ?vo_w15_3) (w1 := (((w12.setCell ⟨g6, 0, none⟩ (.int .i64 0)).setCell ⟨g6, 1, none⟩ (.int .i64 0)).setCell ⟨g6, 2, none⟩ (.int .i64 0))) ?hg ?ho ?hn ?hr ?_; (case ho => rfl); (case hg => rfl); (case hn => rfl); (case hr => exact gS); intro w15 hw_; have M_w15 := Aside0.mk (hw_ ▸ M_w12.out.put6 0 0 0 : SW w w15 _ _ _ _ _ _ _ _); clear d0_ d1_ d2_ d3_ d4_ d5_ e0_ e1_ e2_ e3_ e4_ e5_; obtain ⟨⟨d0_, d1_, d2_⟩, d3_, d4_, d5_⟩ := M_w15.out.r6; obtain ⟨⟨e0_, e1_, e2_⟩, e3_, e4_, e5_⟩ := M_w15.out.r9; clear hw_))
   refine bodyPost_ret (results_ct rfl _ _ g6 46 #[.int .i64 0, .int .i64 0, .int .i64 0] (0, 0) _ rfl M_w15.out.c6 Try.underlying46 rfl (by kernel_rfl)) rfl ?_
   exact ⟨rfl, M_w15.out.bel⟩

end Go.Proofs.Ytepogblkmiidnaa.PFnCovers
