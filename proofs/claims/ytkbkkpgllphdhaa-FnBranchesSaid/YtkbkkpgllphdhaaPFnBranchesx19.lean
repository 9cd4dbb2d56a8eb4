import Derived.Test.YtkbkkpgllphdhaaWSpan
import Derived.Test.YtkbkkpgllphdhaaWLater
import Derived.Test.YtkbkkpgllphdhaaPFnBranchesx0
import Derived.Test.YtkbkkpgllphdhaaPFnBranchesx10
import Derived.Test.YtkbkkpgllphdhaaPFnBranchesx11
import Derived.Test.YtkbkkpgllphdhaaPFnBranchesx13
import Derived.Test.YtkbkkpgllphdhaaPFnBranchesx14
import Derived.Test.YtkbkkpgllphdhaaPFnBranchesx16
namespace Go.Proofs.Ytkbkkpgllphdhaa.PFnBranches
open Go.RowKit Go.Proofs.YtkbkkpgllphdhaaW.PrintWords Go.Proofs.YtkbkkpgllphdhaaW.PrintLast Go.Proofs.YtkbkkpgllphdhaaW.PrintMore
attribute [local go_sem] max2_int min2_int max_two min_two max_three min_three max_four min_four   -- for this text's walks alone
set_option linter.unusedVariables false
set_option linter.unusedSimpArgs false

/-! ### spec_l6Parts: function 62 -/
mutual
def spec_l6Parts.l0 : Nat → List Int → List Int → Int → Option (Int)
 | 0, _, _, _ => none
 | k + 1, x0, x3, x4 => if x4 < (x0.length : Int) then (if x3.length < 17592186044416 then (spec_l6Parts.l0 k x0 (x3 ++ [x4]) (wrap64 (x4 + 1))) else (none)) else (spec_l6Parts.l1 k x0 x3 0)
def spec_l6Parts.l1 : Nat → List Int → List Int → Int → Option (Int)
 | 0, _, _, _ => none
 | k + 1, x0, x3, x5 => if x5 < (x0.length : Int) then ((spec_l3Find.f k x3 x5).bind fun t762 => (if 0 ≤ x5 then ((spec_l3Find.f k x3 (rd x0 x5)).bind fun t764 => (if 0 ≤ t762 then (if t762 < (x3.length : Int) then ((some (x3.set (t762 : Int).toNat t764 : List Int)).bind fun y765 => ((spec_l3Find.f k y765 x5).bind fun t766 => ((spec_l6Mate.f x5).bind fun t767 => ((spec_l3Find.f k y765 t767).bind fun t768 => (if 0 ≤ t766 then (if t766 < (x3.length : Int) then (spec_l6Parts.l1 k x0 (y765.set (t766 : Int).toNat t768) (wrap64 (x5 + 1))) else (none)) else (none)))))) else (none)) else (none))) else (none))) else (spec_l6Parts.l2 k x0 x3 0 0)
def spec_l6Parts.l2 : Nat → List Int → List Int → Int → Int → Option (Int)
 | 0, _, _, _, _ => none
 | k + 1, x0, x3, x6, x7 => if x7 < (x0.length : Int) then (if 0 ≤ x7 then (if x7 < (x3.length : Int) then ((spec_l1Bit.f ((rd x3 x7) == x7)).bind fun t771 => (spec_l6Parts.l2 k x0 x3 (wrap64 (x6 + t771)) (wrap64 (x7 + 1)))) else (none)) else (none)) else (some x6)
end
def spec_l6Parts.f (k : Nat) (l0 : List Int) : Option (Int) := spec_l6Parts.l0 k l0 (([] : List Int)) 0
theorem spec_l6Parts.mono_l : ∀ k, (∀ y0 y1 y2, LeO (spec_l6Parts.l0 k y0 y1 y2) (spec_l6Parts.l0 (k + 1) y0 y1 y2)) ∧ (∀ y0 y1 y2, LeO (spec_l6Parts.l1 k y0 y1 y2) (spec_l6Parts.l1 (k + 1) y0 y1 y2)) ∧ (∀ y0 y1 y2 y3, LeO (spec_l6Parts.l2 k y0 y1 y2 y3) (spec_l6Parts.l2 (k + 1) y0 y1 y2 y3))
 | 0 => ⟨fun _ _ _ r h => by simp [spec_l6Parts.l0] at h, fun _ _ _ r h => by simp [spec_l6Parts.l1] at h, fun _ _ _ _ r h => by simp [spec_l6Parts.l2] at h⟩
 | k + 1 => by
  obtain ⟨ih0, ih1, ih2⟩ := spec_l6Parts.mono_l k
  refine ⟨?_, ?_, ?_⟩
  ·intro y0 y1 y2
   unfold spec_l6Parts.l0
   exact mM4 ih0 ih1 ih2 spec_l3Find.mono
  ·intro y0 y1 y2
   unfold spec_l6Parts.l1
   exact mM4 ih0 ih1 ih2 spec_l3Find.mono
  ·intro y0 y1 y2 y3
   unfold spec_l6Parts.l2
   exact mM4 ih0 ih1 ih2 spec_l3Find.mono
theorem spec_l6Parts.mono : ∀ a0 k, LeO (spec_l6Parts.f k a0) (spec_l6Parts.f (k + 1) a0) := by
 intro a0 k
 obtain ⟨ih0, ih1, ih2⟩ := spec_l6Parts.mono_l k
 unfold spec_l6Parts.f
 exact mM4 ih0 ih1 ih2 spec_l3Find.mono
def spec_l6Parts.T9 : Bool × List (List Nat × List Nat) := (true, [([], []), ([], []), ([], []), ([1, 2], [1, 2]), ([], []), ([], []), ([], []), ([5, 6], [5, 6]), ([7], [7]), ([4, 8, 3], [4, 8]), ([0, 3, 0, 1, 2, 3, 4, 5, 6, 7, 8, 9], [0, 3]), ([10, 9, 9, 0, 1, 2, 3, 4, 5, 6, 7, 8, 9], [9, 10])])
def spec_l6Parts.B9 : List Nat := [0, 0, 0, 6, 0, 0, 0, 96, 224, 510, 1023, 2047]
theorem spec_l6Parts.tab9 : rtab .any (opsOf Try.f62 9) = spec_l6Parts.T9 := by kernel_rfl
theorem spec_l6Parts.bits9 : waitsOk spec_l6Parts.T9.2 spec_l6Parts.B9 = true := by kernel_rfl
set_option maxHeartbeats 8000000 in
set_option maxRecDepth 100000 in
theorem spec_l6Parts.calls (k : Nat) (A0 : Option Addr) (c0 : Nat) (l0 : List Int) (r : Int) (w : World) (hr0 : Kd.C (Kd.int .i64) w A0 l0.length l0) (hc0 : l0.length ≤ c0) (h : spec_l6Parts.f k l0 = some r) :
  Calls Try.prog 62 #[.slice A0 l0.length c0] w fun e w' => e = .returned (.int .i64 r) ∧ Below w.heap.size w w' := by
 have HR0 := Aside0.mk hr0
 have HC0 := Aside0.mk hc0
 clear hr0 hc0
 have HB := Aside0.mk (Below.refl w.heap.size w)
 have H : (spec_l6Parts.l0 k l0 (([] : List Int)) 0) = some r := h
 clear h
 generalize hy756 : (([] : List Int) : List Int) = y756 at H
 have Ny756 := Aside0.mk hy756.symm; clear hy756
 have H' := Aside0.mk H
 clear H
 go_enter Try.func62, Try.ntmps62
 go_wp2_with (first | ((with_reducible refine gate_dst (N := 8) rfl ?_); refine Kd.R_lit (Kd.int .i64) _ 3 ?hg (N := 8) ?hd (xs := ([] : List Int)) (inner := []) (ok := fun _ => True) (okp := fun _ => True) ?hr ?hp (fun _ hk => hk) trivial (Below.refl _ _) (Nat.le_refl _) (by simp) ?_; (case hd => rfl); (case hg => rfl); (case hr => exact gS); (case hp => exact (Reps.none _ _)); intro v757 w2 ho3 hb hg_ hnew_; clear hg_ hnew_; (first | rw [← Ny756.out] at ho3 | (simp only [Int.reduceToNat] at ho3; rw [← Ny756.out] at ho3)); have HO758 := Aside0.mk (Kd.R_lower ho3 (zB HB)); replace HB := Aside0.mk (zS HB hb); clear hb ho3))
 go_loopg [3, 4] k (fun kq v3 v4 w' => ∃ (x3_1 : List Int) (x4_1 : Int), v4 = .int .i64 x4_1 ∧ Aside0 (spec_l6Parts.l0 kq l0 x3_1 x4_1 = some r) ∧ Aside0 (kq ≤ k) ∧ Aside0 (Kd.R (Kd.int .i64) 3 w' w.heap.size (fun _ => True) v3 x3_1) ∧ Aside0 (Below w.heap.size w w'))
 case atStart => exact ⟨(y756), (0), rS, H', ⟨Nat.le_refl _⟩, ⟨R_l HO758.out⟩, ⟨B_l HB.out⟩⟩
 case round =>
  clear H'
  try clear p2
  obtain ⟨x3_1, x4_1, rfl, HA, HK1, HO_3, HB⟩ := hrel
  cases gk with
  | zero => exact absurd HA.out (by simp [spec_l6Parts.l0])
  | succ k1 =>
   have H := HA.out
   clear HA
   simp only [spec_l6Parts.l0] at H
   obtain ⟨c4b0, H⟩ | ⟨c4b0, H⟩ := gi H
   ·obtain ⟨LMc5, H⟩ := gda H
    generalize hy759 : (x3_1 ++ [x4_1] : List Int) = y759 at H
    have Ny759 := Aside0.mk hy759.symm; clear hy759
    have H' := Aside0.mk H
    clear H
    go_wp2_with (first | ((with_reducible refine gate_builtin (b := .append) (xs := #[.tmp 15, .tmp 17]) rfl ?_); at_builtin; refine Kd.R_append (Kd.int .i64) (w0 := w) w.heap.size rfl (.tmp 15) (.tmp 17) 35 3 (.int .i64 0) 8 rfl Try.underlying35 info3 rfl (by decide) (by omega) u3 x3_1 x4_1 [.int .i64 x4_1] (fun _ => True) (fun _ => False) rfl rfl ?aP (fun _ hk => hk.elim) ?aF ?aO ?aB ?aS ?aL ?_; (case aP => exact rfl); (case aB => exact (B_l HB.out)); (case aF => exact (fun _ _ => trivial)); (case aO => exact (R_l HO_3.out)); (case aS => exact (zB HB)); (case aL => have := LMc5.out; omega); intro v760 w6 ho hb hg hat; rw [← Ny759.out] at ho; replace HB := Aside0.mk (hb); have HO761 := Aside0.mk (ho); clear HO_3; clear ho hb hg hat))
    go_roundg k1
    case measure => exact oK
    case rel => exact ⟨(y759), (wrap64 (x4_1 + 1)), rS, H', ⟨oK⟩, ⟨R_l HO761.out⟩, ⟨B_l HB.out⟩⟩
   ·have H' := Aside0.mk H
    clear H
    go_wp2
    go_loopg [5] k1 (fun kq v5 w' => ∃ (x3_2 : List Int) (x5_2 : Int), v5 = .int .i64 x5_2 ∧ Aside0 (spec_l6Parts.l1 kq l0 x3_2 x5_2 = some r) ∧ Aside0 (kq ≤ k1) ∧ Aside0 (Kd.R (Kd.int .i64) 3 w' w.heap.size (fun _ => True) u3 x3_2) ∧ Aside0 (Below w.heap.size w w'))
    case atStart => exact ⟨(x3_1), (0), rS, H', ⟨Nat.le_refl _⟩, ⟨R_l HO_3.out⟩, ⟨B_l HB.out⟩⟩
    case round =>
     clear H'
     try clear p2
     try clear c4
     try clear c4b0
     try clear c5
     try clear c6
     try clear p6
     try clear p2
     obtain ⟨x3_2, x5_2, rfl, HA, HK2, HO_3, HB⟩ := hrel
     cases gk with
     | zero => exact absurd HA.out (by simp [spec_l6Parts.l1])
     | succ k2 =>
      have H := HA.out
      clear HA
      simp only [spec_l6Parts.l1] at H
      obtain ⟨c7b0, H⟩ | ⟨c7b0, H⟩ := gi H
      ·obtain ⟨t762, A8, H⟩ := bs H
       obtain ⟨c9b0, H⟩ := gdt H
       obtain ⟨t764, A10, H⟩ := bs H
       obtain ⟨c11b0, H⟩ := gdt H
       obtain ⟨c12b0, H⟩ := gdt H
       obtain ⟨y765, Ny765, H⟩ := bn H
       obtain ⟨t766, A14, H⟩ := bs H
       obtain ⟨t767, A15, H⟩ := bs H
       obtain ⟨t768, A16, H⟩ := bs H
       obtain ⟨c17b0, H⟩ := gdt H
       obtain ⟨c18b0, H⟩ := gdt H
       generalize hy769 : (y765.set (t766 : Int).toNat t768 : List Int) = y769 at H
       have Ny769 := Aside0.mk hy769.symm; clear hy769
       have H' := Aside0.mk H
       clear H
       try go_wp2
       replace HO_3 := Aside0.mk (Kd.R_drew HO_3.out); replace HB := Aside0.mk (below_drew1 HB.out)
       have p763 : 0 ≤ (x5_2 : Int) := dT
       have q763 : x5_2 < (l0.length : Int) := dT
       obtain ⟨ad763, e763, hx763_0⟩ := Kd.at_int HR0.out x5_2 p763 q763
       have hw763_0 := hx763_0
       cases e763
       replace hx763_0 := cB HB hx763_0
       replace p763 := eq_true p763
       replace q763 := eq_true q763
       obtain ⟨Ao21, co21, eo21⟩ := Kd.R_slice HO_3.out
       (first | subst eo21 | (injection eo21 with f1_ f2_ f3_; have f4_ := f1_.symm; have f5_ := f3_.symm; clear f1_ f2_ f3_; subst f4_; subst f5_))
       refine start_ (n := 12) (S := fun w' => w'.cell? (ad763.add (x5_2).toNat) = some (.int .i64 (rd l0 x5_2))) (ds := [11]) #[false, false, false, false, false, false, false, false, false, false, false, false] (by kernel_rfl) rfl rfl (((HB.out.cell (World.block_lt_of_cell? w _ hw763_0)).trans hw763_0)) (fun hHeld => ?_); refine with_tabW spec_l6Parts.tab9 spec_l6Parts.bits9 (fun HT_ HW_ => ?_)
       generalize wr.drew = w20 at HO_3 HB hx763_0 hHeld ⊢
       refine pu_ 0 (some 25) ?_
       refine pu_ 1 (some 26) ?_
       refine pu_ 2 (some 27) ?_
       refine pu_ 4 (some 29) ?_
       refine pu_ 5 (some 30) ?_
       refine pu_ 6 (some 31) ?_
       refine pu_ 7 (some 32) ?_
       refine take_ (i := 8) (N := some 33) (v := ?_) (a' := ?_) #[true, true, true, false, true, true, true, true, true, false, false, false] rfl rfl (take_ofW HT_.out HW_.out (by kernel_rfl)) (fun _ _ _ h => h) (Or.inl ⟨by rfl, ?_⟩) hHeld ?_ ?_
       rotate_left
       ·intro w' s0
        go_simp
        with_reducible rfl
       rotate_left
       ·simp only [Act.put, List.setIfInBounds_toArray, List.set_cons_zero, List.set_cons_succ, i64_w, i32_w]
        rfl
       refine one_ (i := 3) (N := some 28) #[true, true, true, true, true, true, true, true, true, false, false, false] rfl rfl (one_of HT_.out (by kernel_rfl)) (by decide) (fun K hK => ?_)
       refine goes_ Try.func70 (by kernel_rfl) rfl #[.slice Ao21 x3_2.length co21, .int .i64 x5_2] (by rfl) rfl rfl mp_ ?_
       with_reducible refine (spec_l3Find.calls k2 _ _ x3_2 x5_2 t762 _ ?side1 ?side2 A8.out).mono ?_
       (case side1 => exact C_l ((Kd.R_reads' HO_3.out).2.2))
       (case side2 => exact (Kd.R_reads' HO_3.out).2.1)
       rintro e w' ⟨rfl, ⟨nda, rfl⟩⟩
       refine ⟨_, rfl, ?_⟩
       refine hK.out _ _ (((HB.out.cell (World.block_lt_of_cell? w _ hw763_0)).trans hw763_0)) (fun hHeld => ?_)
       clear hK K
       refine norm_ (a' := ?_) ?_ ?_
       rotate_left
       ·show Act.put _ (some 28) _ = _
        simp only [Act.put, List.setIfInBounds_toArray, List.set_cons_zero, List.set_cons_succ, i64_w, i32_w]
        rfl
       refine one_ (i := 9) (N := some 34) #[true, true, true, true, true, true, true, true, true, true, false, false] rfl rfl (one_of HT_.out (by kernel_rfl)) (by decide) (fun K hK => ?_)
       refine goes_ Try.func70 (by kernel_rfl) rfl #[.slice Ao21 x3_2.length co21, .int .i64 (rd l0 x5_2)] (by rfl) rfl rfl mp_ ?_
       with_reducible refine (spec_l3Find.calls k2 _ _ x3_2 (rd l0 x5_2) t764 _ ?side1 ?side2 A10.out).mono ?_
       (case side1 => exact C_l ((Kd.R_reads' HO_3.out).2.2))
       (case side2 => exact (Kd.R_reads' HO_3.out).2.1)
       rintro e w' ⟨rfl, ⟨ndb, rfl⟩⟩
       refine ⟨_, rfl, ?_⟩
       have p13 : 0 ≤ (t762 : Int) := dT
       have q13 : (t762 : Int) < ((x3_2.length : Int) : Int) := dT
       obtain ⟨go13, co13, eo13, gb13, gl13, cl13, HG13⟩ := Kd.R_form HO_3.out (by omega)
       (first | cases eo13 | (injection eo13 with ea_ en_ ec_; (first | subst ea_ | (injection ea_ with ea_; subst ea_)); subst ec_; clear en_))
       have GB13 := Aside0.mk gb13
       have GG13 := Aside0.mk HG13
       clear gb13 gl13 HG13
       obtain ⟨hx13_0, hf13_0⟩ := Kd.R_celln 0 HO_3.out (t762 : Int) p13 q13
       replace p13 := eq_true p13
       replace q13 := eq_true q13
       have HP22 := Kd.R_putn HO_3.out (t762 : Int) t764
       rw [← Ny765.out] at HP22
       have HQ22 := Aside0.mk HP22
       clear HP22
       refine hK.out _ _ (((HB.out.cell (World.block_lt_of_cell? w _ hw763_0)).trans hw763_0)) (fun hHeld => ?_)
       clear hK K
       refine norm_ (a' := ?_) ?_ ?_
       rotate_left
       ·show Act.put _ (some 34) _ = _
        simp only [Act.put, List.setIfInBounds_toArray, List.set_cons_zero, List.set_cons_succ, i64_w, i32_w]
        rfl
       refine pu_ 10 (some 35) ?_
       refine last_ (i := 11) (N := none) #[true, true, true, true, true, true, true, true, true, true, true, true] rfl rfl (one_of HT_.out (by kernel_rfl)) (by decide) (fun K hK => ?_)
       refine skip_ (w1 := ?_) (by rfl) rfl ?_ ?_
       rotate_left
       ·go_simp
        rfl
       refine hK.out _ _ ?_
       clear hK K
       refine done_ (done_of HT_.out (by kernel_rfl)) ?_
       have n0_ : Aside0 (Kd.R (Kd.int .i64) 3 ((w20.drewN (nda + ndb)).setCell ⟨go13, (t762 : Int).toNat, none⟩ (.int .i64 t764)) w.heap.size (fun _ => True) (.slice (some ⟨go13, 0, none⟩) x3_2.length co21) y765) := ⟨Kd.R_drewN HQ22.out (nda + ndb)⟩
       have n1_ : Aside0 (Below w.heap.size w ((w20.drewN (nda + ndb)).setCell ⟨go13, (t762 : Int).toNat, none⟩ (.int .i64 t764))) := ⟨pw_below_drewN (below_set HB.out GB13.out) (nda + ndb)⟩
       (try clear HO_3)
       (try clear HB)
       generalize ((w20.drewN (nda + ndb)).setCell ⟨go13, (t762 : Int).toNat, none⟩ (.int .i64 t764)) = w23 at n0_ n1_ ⊢
       have HO_3 := n0_
       have HB := n1_
       clear n0_ n1_
       try go_wp2_with (first | ((with_reducible refine gate_callee (f := 70) rfl ?_); refine goesL_ (some 39) rfl rfl Try.func70 (by kernel_rfl) rfl #[.slice (some ⟨go13, 0, none⟩) y765.length co21, .int .i64 x5_2] rfl (by (try simp only [List.map_toArray, List.map_cons, List.map_nil]); first | done | (rw [show y765.length = x3_2.length from (Kd.R_reads' HO_3.out).1.symm] <;> rfl) | rfl | (simp only [List.length_drop, List.length_take]; rfl)) ?_; (with_reducible refine (spec_l3Find.calls k2 _ _ y765 x5_2 t766 _ ?side1 ?side2 A14.out).mono ?_); (case side1 => exact C_l ((Kd.R_reads' HO_3.out).2.2)); (case side2 => rw [show y765.length = x3_2.length from (Kd.R_reads' HO_3.out).1.symm]; exact (Kd.R_reads' HO_3.out).2.1); rintro e w' ⟨rfl, ⟨nd, rfl⟩⟩; refine ⟨_, rfl, ?_⟩; (try (rw [drewN_self w23]; generalize hq_ : World.drewN w23 _ = w23; have n0_ : Aside0 (Kd.R (Kd.int .i64) 3 w23 w.heap.size (fun _ => True) (.slice (some ⟨go13, 0, none⟩) x3_2.length co21) y765) := ⟨by rw [← hq_]; exact (R_l HO_3.out)⟩; have n1_ : Aside0 (Below w.heap.size w w23) := ⟨by rw [← hq_]; exact (B_l HB.out)⟩; clear HO_3 HB hq_; have HO_3 := n0_; have HB := n1_; clear n0_ n1_))) | (refine gL 52 (some 42) Try.func52 #[.int .i64 x5_2] ?_; (with_reducible refine (spec_l6Mate.calls x5_2 t767 _ A15.out).mono ?_); rintro e w' ⟨rfl, ⟨nd, rfl⟩⟩; refine ⟨_, rfl, ?_⟩; (try (rw [drewN_self w23]; generalize hq_ : World.drewN w23 _ = w23; have n0_ : Aside0 (Kd.R (Kd.int .i64) 3 w23 w.heap.size (fun _ => True) (.slice (some ⟨go13, 0, none⟩) x3_2.length co21) y765) := ⟨by rw [← hq_]; exact (R_l HO_3.out)⟩; have n1_ : Aside0 (Below w.heap.size w w23) := ⟨by rw [← hq_]; exact (B_l HB.out)⟩; clear HO_3 HB hq_; have HO_3 := n0_; have HB := n1_; clear n0_ n1_))) | ((with_reducible refine gate_callee (f := 70) rfl ?_); refine goesL_ (some 43) rfl rfl Try.func70 (by kernel_rfl) rfl #[.slice (some ⟨go13, 0, none⟩) y765.length co21, .int .i64 t767] rfl (by (try simp only [List.map_toArray, List.map_cons, List.map_nil]); first | done | (rw [show y765.length = x3_2.length from (Kd.R_reads' HO_3.out).1.symm] <;> rfl) | rfl | (simp only [List.length_drop, List.length_take]; rfl)) ?_; (with_reducible refine (spec_l3Find.calls k2 _ _ y765 t767 t768 _ ?side1 ?side2 A16.out).mono ?_); (case side1 => exact C_l ((Kd.R_reads' HO_3.out).2.2)); (case side2 => rw [show y765.length = x3_2.length from (Kd.R_reads' HO_3.out).1.symm]; exact (Kd.R_reads' HO_3.out).2.1); rintro e w' ⟨rfl, ⟨nd, rfl⟩⟩; refine ⟨_, rfl, ?_⟩; (try (rw [drewN_self w23]; generalize hq_ : World.drewN w23 _ = w23; have n0_ : Aside0 (Kd.R (Kd.int .i64) 3 w23 w.heap.size (fun _ => True) (.slice (some ⟨go13, 0, none⟩) x3_2.length co21) y765) := ⟨by rw [← hq_]; exact (R_l HO_3.out)⟩; have n1_ : Aside0 (Below w.heap.size w w23) := ⟨by rw [← hq_]; exact (B_l HB.out)⟩; clear HO_3 HB hq_; have HO_3 := n0_; have HB := n1_; clear n0_ n1_)); have p19 : 0 ≤ (t766 : Int) := dT; have q19 : (t766 : Int) < ((x3_2.length : Int) : Int) := dT; obtain ⟨hx19_0, hf19_0⟩ := Kd.R_celln 0 HO_3.out (t766 : Int) p19 q19; replace p19 := eq_true p19; replace q19 := eq_true q19; obtain ⟨hy24_, hz24_⟩ := Kd.R_celln 0 HO_3.out (t766 : Int) dT dT; have HP24 := Kd.R_putg HO_3.out (t766 : Int) t768) | ((with_reducible refine gate_store (t := 3) (p := 44) rfl ?_); refine store_event (t := 3) (p := 44) (v := ?vo_w25) (w1 := (w23.setCell ⟨go13, (t766 : Int).toNat, none⟩ (.int .i64 t768))) ?hg ?ho ?hn ?hr ?_; (case ho => rfl); (case hg => rfl); (case hn => rfl); (case hr => exact gS); intro w25 hw; have hg : w23.grownBy w25 (some go13) := (by rw [hw]; exact HP24.2); have hp_ : Kd.R (Kd.int .i64) 3 w25 w.heap.size (fun _ => True) (.slice (some ⟨go13, 0, none⟩) x3_2.length co21) y769 := (by rw [hw, Ny769.out]; exact HP24.1); clear HP24; replace HO_3 := Aside0.mk (hp_); replace HB := Aside0.mk ((by rw [hw]; exact below_set (HB.out) GB13.out : Below w.heap.size w w25)); clear hg hw hp_))
       go_roundg k2
       case measure => exact oK
       case rel => exact ⟨(y769), (wrap64 (x5_2 + 1)), rS, H', ⟨oK⟩, ⟨R_l HO_3.out⟩, ⟨B_l HB.out⟩⟩
      ·have H' := Aside0.mk H
       clear H
       go_wp2
       go_loopg [6, 7] k2 (fun kq v6 v7 w' => ∃ (x6_3 : Int) (x7_3 : Int), v6 = .int .i64 x6_3 ∧ v7 = .int .i64 x7_3 ∧ Aside0 (spec_l6Parts.l2 kq l0 x3_2 x6_3 x7_3 = some r) ∧ Aside0 (kq ≤ k2) ∧ Aside0 (Kd.R (Kd.int .i64) 3 w' w.heap.size (fun _ => True) u3 x3_2) ∧ Aside0 (Below w.heap.size w w'))
       case atStart => exact ⟨(0), (0), rS, rS, H', ⟨Nat.le_refl _⟩, ⟨R_l HO_3.out⟩, ⟨B_l HB.out⟩⟩
       case round =>
        clear H'
        try clear c1
        try clear p1
        try clear q1
        try clear hx1
        try clear hf1
        try clear p2
        try clear c4
        try clear c4b0
        try clear c5
        try clear c6
        try clear p6
        try clear c7
        try clear c7b0
        try clear p7
        try clear q7
        try clear hx7
        try clear c9
        try clear c9b0
        try clear c11
        try clear c11b0
        try clear c12
        try clear c12b0
        try clear p13
        try clear q13
        try clear hx13
        try clear hf13
        try clear c17
        try clear c17b0
        try clear c18
        try clear c18b0
        try clear p19
        try clear q19
        try clear hx19
        try clear hf19
        try clear hx13_0
        try clear hx19_0
        try clear hx763_0
        try clear p13
        try clear p19
        try clear p2
        try clear p6
        try clear p763
        try clear q13
        try clear q19
        try clear q763
        obtain ⟨x6_3, x7_3, rfl, rfl, HA, HK3, HO_3, HB⟩ := hrel
        cases gk with
        | zero => exact absurd HA.out (by simp [spec_l6Parts.l2])
        | succ k3 =>
         have H := HA.out
         clear HA
         simp only [spec_l6Parts.l2] at H
         obtain ⟨c26b0, H⟩ | ⟨c26b0, H⟩ := gi H
         ·obtain ⟨c27b0, H⟩ := gdt H
          obtain ⟨c28b0, H⟩ := gdt H
          obtain ⟨t771, A29, H⟩ := bs H
          have H' := Aside0.mk H
          clear H
          obtain ⟨Ao30, co30, eo30⟩ := Kd.R_slice HO_3.out
          subst eo30
          have p770 : 0 ≤ (x7_3 : Int) := dT
          have q770 : x7_3 < (x3_2.length : Int) := dT
          obtain ⟨ad770, e770, hx770_0⟩ := Kd.at_int (Kd.R_reads' HO_3.out).2.2 x7_3 p770 q770
          cases e770
          replace p770 := eq_true p770
          replace q770 := eq_true q770
          go_wp2_with (first | (refine gL 45 (some 58) Try.func45 #[.bool ((rd x3_2 x7_3) == x7_3)] ?_; (with_reducible refine (spec_l1Bit.calls ((rd x3_2 x7_3) == x7_3) t771 _ A29.out).mono ?_); rintro e w' ⟨rfl, ⟨nd, rfl⟩⟩; refine ⟨_, rfl, ?_⟩))
          go_roundg k3
          case measure => exact oK
          case rel => exact ⟨(wrap64 (x6_3 + t771)), (wrap64 (x7_3 + 1)), rS, rS, H', ⟨oK⟩, ⟨R_l HO_3.out⟩, ⟨B_l HB.out⟩⟩
         ·obtain rfl := Option.some.inj H
          go_wp2
          go_ret
          exact ⟨rE, B_l HB.out⟩

/-! ### spec_MapParts: function 25 -/
def spec_MapParts.f (k : Nat) (l0 : List Int) : Option (Int) := (spec_IsMap.f k l0).bind fun t772 => (if t772 = true then ((spec_l6Parts.f k l0).bind fun t773 => (some t773)) else (some (-1)))
theorem spec_MapParts.mono : ∀ a0 k, LeO (spec_MapParts.f k a0) (spec_MapParts.f (k + 1) a0) := by
 intro a0 k
 unfold spec_MapParts.f
 exact mM2 spec_IsMap.mono spec_l6Parts.mono
set_option maxHeartbeats 8000000 in
set_option maxRecDepth 100000 in
theorem spec_MapParts.calls (k : Nat) (A0 : Option Addr) (c0 : Nat) (l0 : List Int) (r : Int) (w : World) (hr0 : Kd.C (Kd.int .i64) w A0 l0.length l0) (hc0 : l0.length ≤ c0) (h : spec_MapParts.f k l0 = some r) :
  Calls Try.prog 25 #[.slice A0 l0.length c0] w fun e w' => e = .returned (.int .i64 r) ∧ Below w.heap.size w w' := by
 have HR0 := Aside0.mk hr0
 have HC0 := Aside0.mk hc0
 clear hr0 hc0
 have HB := Aside0.mk (Below.refl w.heap.size w)
 have H : ((spec_IsMap.f k l0).bind fun t772 => (if t772 = true then ((spec_l6Parts.f k l0).bind fun t773 => (some t773)) else (some (-1)))) = some r := h
 clear h
 obtain ⟨t772, A2, H⟩ := bs H
 by_cases c3 : t772 = true
 ·subst c3
  rw [if_pos rfl] at H
  obtain ⟨t773, A4, H⟩ := bs H
  obtain rfl := Option.some.inj H
  go_enter Try.func25, Try.ntmps25
  go_wp2_with (first | (refine gL 51 (some 4) Try.func51 #[.slice A0 l0.length c0] ?_; (with_reducible refine (spec_IsMap.calls k _ _ l0 true _ ?side1 ?side2 A2.out).mono ?_); (case side1 => exact C_l HR0.out); (case side2 => exact HC0.out); rintro e w5 ⟨rfl, hb⟩; refine ⟨_, rfl, ?_⟩; replace HB := Aside0.mk (zS HB hb)) | (refine gL 62 (some 7) Try.func62 #[.slice A0 l0.length c0] ?_; (with_reducible refine (spec_l6Parts.calls k _ _ l0 t773 _ ?side1 ?side2 A4.out).mono ?_); (case side1 => exact C_l (Kd.C_below HR0.out HB.out)); (case side2 => exact HC0.out); rintro e w6 ⟨rfl, hb⟩; refine ⟨_, rfl, ?_⟩; replace HB := Aside0.mk (zS HB hb)))
  go_ret
  exact ⟨rE, B_l HB.out⟩
 ·replace c3 := Bool.eq_false_iff.mpr c3
  subst c3
  rw [if_neg (show ¬ (false = true) by decide)] at H
  obtain rfl := Option.some.inj H
  go_enter Try.func25, Try.ntmps25
  go_wp2_with (first | (refine gL 51 (some 4) Try.func51 #[.slice A0 l0.length c0] ?_; (with_reducible refine (spec_IsMap.calls k _ _ l0 false _ ?side1 ?side2 A2.out).mono ?_); (case side1 => exact C_l HR0.out); (case side2 => exact HC0.out); rintro e w7 ⟨rfl, hb⟩; refine ⟨_, rfl, ?_⟩; replace HB := Aside0.mk (zS HB hb)))
  go_ret
  exact ⟨rE, B_l HB.out⟩

/-! ### spec_l6Dual: function 82 -/
def spec_l6Dual.l0 : Nat → List Int → List Int → Int → Option (List Int)
 | 0, _, _, _ => none
 | k + 1, x0, x3, x4 => if x4 < (x0.length : Int) then ((spec_l6Mate.f x4).bind fun t777 => (if 0 ≤ t777 then (if t777 < (x0.length : Int) then (if x3.length < 17592186044416 then (spec_l6Dual.l0 k x0 (x3 ++ [rd x0 t777]) (wrap64 (x4 + 1))) else (none)) else (none)) else (none))) else (some x3)
def spec_l6Dual.f (k : Nat) (l0 : List Int) : Option (List Int) := spec_l6Dual.l0 k l0 (([] : List Int)) 0
theorem spec_l6Dual.mono_l : ∀ k, (∀ y0 y1 y2, LeO (spec_l6Dual.l0 k y0 y1 y2) (spec_l6Dual.l0 (k + 1) y0 y1 y2))
 | 0 => fun _ _ _ r h => by simp [spec_l6Dual.l0] at h
 | k + 1 => by
  have ih0 := spec_l6Dual.mono_l k
  ·intro y0 y1 y2
   unfold spec_l6Dual.l0
   exact mM1 ih0
theorem spec_l6Dual.mono : ∀ a0 k, LeO (spec_l6Dual.f k a0) (spec_l6Dual.f (k + 1) a0) := by
 intro a0 k
 have ih0 := spec_l6Dual.mono_l k
 unfold spec_l6Dual.f
 exact mM1 ih0
set_option maxHeartbeats 8000000 in
set_option maxRecDepth 100000 in
theorem spec_l6Dual.calls (k : Nat) (A0 : Option Addr) (c0 : Nat) (l0 : List Int) (r : List Int) (w : World) (hr0 : Kd.C (Kd.int .i64) w A0 l0.length l0) (hc0 : l0.length ≤ c0) (h : spec_l6Dual.f k l0 = some r) :
  Calls Try.prog 82 #[.slice A0 l0.length c0] w fun e w' => ∃ v0_ : Value, e = .returned (v0_) ∧ Kd.R (Kd.int .i64) 3 w' w.heap.size (fun _ => True) v0_ r ∧ Below w.heap.size w w' := by
 have HR0 := Aside0.mk hr0
 have HC0 := Aside0.mk hc0
 clear hr0 hc0
 have HB := Aside0.mk (Below.refl w.heap.size w)
 have H : (spec_l6Dual.l0 k l0 (([] : List Int)) 0) = some r := h
 clear h
 generalize hy774 : (([] : List Int) : List Int) = y774 at H
 have Ny774 := Aside0.mk hy774.symm; clear hy774
 have H' := Aside0.mk H
 clear H
 go_enter Try.func82, Try.ntmps82
 go_wp2_with (first | ((with_reducible refine gate_dst (N := 5) rfl ?_); refine Kd.R_lit (Kd.int .i64) _ 3 ?hg (N := 5) ?hd (xs := ([] : List Int)) (inner := []) (ok := fun _ => True) (okp := fun _ => True) ?hr ?hp (fun _ hk => hk) trivial (Below.refl _ _) (Nat.le_refl _) (by simp) ?_; (case hd => rfl); (case hg => rfl); (case hr => exact gS); (case hp => exact (Reps.none _ _)); intro v775 w2 ho3 hb hg_ hnew_; clear hg_ hnew_; (first | rw [← Ny774.out] at ho3 | (simp only [Int.reduceToNat] at ho3; rw [← Ny774.out] at ho3)); have HO776 := Aside0.mk (Kd.R_lower ho3 (zB HB)); replace HB := Aside0.mk (zS HB hb); clear hb ho3))
 go_loopg [3, 4] k (fun kq v3 v4 w' => ∃ (x3_1 : List Int) (x4_1 : Int), v4 = .int .i64 x4_1 ∧ Aside0 (spec_l6Dual.l0 kq l0 x3_1 x4_1 = some r) ∧ Aside0 (kq ≤ k) ∧ Aside0 (Kd.R (Kd.int .i64) 3 w' w.heap.size (fun _ => True) v3 x3_1) ∧ Aside0 (Below w.heap.size w w'))
 case atStart => exact ⟨(y774), (0), rS, H', ⟨Nat.le_refl _⟩, ⟨R_l HO776.out⟩, ⟨B_l HB.out⟩⟩
 case round =>
  clear H'
  try clear p2
  obtain ⟨x3_1, x4_1, rfl, HA, HK1, HO_3, HB⟩ := hrel
  cases gk with
  | zero => exact absurd HA.out (by simp [spec_l6Dual.l0])
  | succ k1 =>
   have H := HA.out
   clear HA
   simp only [spec_l6Dual.l0] at H
   obtain ⟨c4b0, H⟩ | ⟨c4b0, H⟩ := gi H
   ·obtain ⟨t777, A5, H⟩ := bs H
    obtain ⟨c6b0, H⟩ := gdt H
    obtain ⟨c7b0, H⟩ := gdt H
    obtain ⟨LMc8, H⟩ := gda H
    generalize hy779 : (x3_1 ++ [rd l0 t777] : List Int) = y779 at H
    have Ny779 := Aside0.mk hy779.symm; clear hy779
    have H' := Aside0.mk H
    clear H
    go_wp2_with (first | (refine gL 52 (some 15) Try.func52 #[.int .i64 x4_1] ?_; (with_reducible refine (spec_l6Mate.calls x4_1 t777 _ A5.out).mono ?_); rintro e w' ⟨rfl, ⟨nd, rfl⟩⟩; refine ⟨_, rfl, ?_⟩; have p778 : 0 ≤ (t777 : Int) := dT; have q778 : t777 < (l0.length : Int) := dT; obtain ⟨ad778, e778, hx778_0⟩ := Kd.at_int HR0.out t777 p778 q778; cases e778; replace hx778_0 := cB HB hx778_0; replace p778 := eq_true p778; replace q778 := eq_true q778) | ((with_reducible refine gate_builtin (b := .append) (xs := #[.tmp 12, .tmp 18]) rfl ?_); at_builtin; refine Kd.R_append (Kd.int .i64) (w0 := w) w.heap.size rfl (.tmp 12) (.tmp 18) 35 3 (.int .i64 0) 8 rfl Try.underlying35 info3 rfl (by decide) (by omega) u3 x3_1 (rd l0 t777) [.int .i64 (rd l0 t777)] (fun _ => True) (fun _ => False) rfl rfl ?aP (fun _ hk => hk.elim) ?aF ?aO ?aB ?aS ?aL ?_; (case aP => exact rfl); (case aB => exact (B_l HB.out)); (case aF => exact (fun _ _ => trivial)); (case aO => exact (R_l HO_3.out)); (case aS => exact (zB HB)); (case aL => have := LMc8.out; omega); intro v780 w9 ho hb hg hat; rw [← Ny779.out] at ho; replace HB := Aside0.mk (hb); have HO781 := Aside0.mk (ho); clear HO_3; clear ho hb hg hat))
    go_roundg k1
    case measure => exact oK
    case rel => exact ⟨(y779), (wrap64 (x4_1 + 1)), rS, H', ⟨oK⟩, ⟨R_l HO781.out⟩, ⟨B_l HB.out⟩⟩
   ·obtain rfl := Option.some.inj H
    go_wp2
    go_ret
    exact ⟨_, rE, R_l HO_3.out, B_l HB.out⟩

/-! ### spec_l6Genus: function 63 -/
def spec_l6Genus.f (k : Nat) (l0 : List Int) : Option (Int) := (spec_l6Parts.f k l0).bind fun t782 => ((spec_l6Cycles.f k l0).bind fun t783 => ((spec_l6Dual.f k l0).bind fun t786 => ((spec_l6Cycles.f k t786).bind fun t789 => (some (wrap64 (t782 - (wrap64 (Int.tdiv (wrap64 ((wrap64 ((t783.length : Int) - (wrap64 ((l0.length : Int) / 2)))) + (t789.length : Int))) 2))))))))
theorem spec_l6Genus.mono : ∀ a0 k, LeO (spec_l6Genus.f k a0) (spec_l6Genus.f (k + 1) a0) := by
 intro a0 k
 unfold spec_l6Genus.f
 exact mM3 spec_l6Cycles.mono spec_l6Dual.mono spec_l6Parts.mono
set_option maxHeartbeats 8000000 in
set_option maxRecDepth 100000 in
theorem spec_l6Genus.calls (k : Nat) (A0 : Option Addr) (c0 : Nat) (l0 : List Int) (r : Int) (w : World) (hr0 : Kd.C (Kd.int .i64) w A0 l0.length l0) (hc0 : l0.length ≤ c0) (h : spec_l6Genus.f k l0 = some r) :
  Calls Try.prog 63 #[.slice A0 l0.length c0] w fun e w' => e = .returned (.int .i64 r) ∧ Below w.heap.size w w' := by
 have HR0 := Aside0.mk hr0
 have HC0 := Aside0.mk hc0
 clear hr0 hc0
 have HB := Aside0.mk (Below.refl w.heap.size w)
 have H : ((spec_l6Parts.f k l0).bind fun t782 => ((spec_l6Cycles.f k l0).bind fun t783 => ((spec_l6Dual.f k l0).bind fun t786 => ((spec_l6Cycles.f k t786).bind fun t789 => (some (wrap64 (t782 - (wrap64 (Int.tdiv (wrap64 ((wrap64 ((t783.length : Int) - (wrap64 ((l0.length : Int) / 2)))) + (t789.length : Int))) 2))))))))) = some r := h
 clear h
 obtain ⟨t782, A2, H⟩ := bs H
 obtain ⟨t783, A3, H⟩ := bs H
 obtain ⟨t786, A4, H⟩ := bs H
 obtain ⟨t789, A5, H⟩ := bs H
 obtain rfl := Option.some.inj H
 go_enter Try.func63, Try.ntmps63
 go_wp2_with (first | (refine gL 62 (some 4) Try.func62 #[.slice A0 l0.length c0] ?_; (with_reducible refine (spec_l6Parts.calls k _ _ l0 t782 _ ?side1 ?side2 A2.out).mono ?_); (case side1 => exact C_l HR0.out); (case side2 => exact HC0.out); rintro e w6 ⟨rfl, hb⟩; refine ⟨_, rfl, ?_⟩; replace HB := Aside0.mk (zS HB hb)) | (refine gL 58 (some 6) Try.func58 #[.slice A0 l0.length c0] ?_; (with_reducible refine (spec_l6Cycles.calls k _ _ l0 t783 _ ?side1 ?side2 A3.out).mono ?_); (case side1 => exact C_l (Kd.C_below HR0.out HB.out)); (case side2 => exact HC0.out); rintro e w7 ⟨v784, rfl, ho0, hb⟩; refine ⟨_, rfl, ?_⟩; have HO785 := Aside0.mk (Kd.S_lower ho0 (zB HB)); replace HB := Aside0.mk (zS HB hb); obtain ⟨Ao8, co8, eo8⟩ := Kd.S_slice HO785.out; subst eo8) | (refine gL 82 (some 13) Try.func82 #[.slice A0 l0.length c0] ?_; (with_reducible refine (spec_l6Dual.calls k _ _ l0 t786 _ ?side1 ?side2 A4.out).mono ?_); (case side1 => exact C_l (Kd.C_below HR0.out HB.out)); (case side2 => exact HC0.out); rintro e w9 ⟨v787, rfl, ho0, hb⟩; refine ⟨_, rfl, ?_⟩; replace HO785 := Aside0.mk (Kd.S_elder' (S_l HO785.out) (Kd.R_base ho0) hb); have HO788 := Aside0.mk (Kd.R_lower ho0 (zB HB)); replace HB := Aside0.mk (zS HB hb); obtain ⟨Ao10, co10, eo10⟩ := Kd.R_slice HO788.out; subst eo10) | (refine gL 58 (some 14) Try.func58 #[.slice Ao10 t786.length co10] ?_; (with_reducible refine (spec_l6Cycles.calls k _ _ t786 t789 _ ?side1 ?side2 A5.out).mono ?_); (case side1 => exact C_l ((Kd.R_reads' HO788.out).2.2)); (case side2 => exact (Kd.R_reads' HO788.out).2.1); rintro e w11 ⟨v790, rfl, ho0, hb⟩; refine ⟨_, rfl, ?_⟩; have HO791 := Aside0.mk (Kd.S_lower (Kd.S_new' (Kd.S_new' ho0 (Kd.S_lt (S_l HO785.out))) (Kd.R_lt (R_l HO788.out))) (zB HB)); replace HO785 := Aside0.mk (Kd.S_elder' (S_l HO785.out) (Kd.S_base ho0) hb); replace HO788 := Aside0.mk (Kd.R_below (R_l HO788.out) hb); replace HB := Aside0.mk (zS HB hb); obtain ⟨Ao12, co12, eo12⟩ := Kd.S_slice HO791.out; subst eo12))
 go_ret
 exact ⟨rE, B_l HB.out⟩

/-! ### spec_GenusOf: function 26 -/
def spec_GenusOf.f (k : Nat) (l0 : List Int) : Option (Int) := (spec_IsMap.f k l0).bind fun t792 => (if t792 = true then ((spec_l6Genus.f k l0).bind fun t793 => (some t793)) else (some (-1)))
theorem spec_GenusOf.mono : ∀ a0 k, LeO (spec_GenusOf.f k a0) (spec_GenusOf.f (k + 1) a0) := by
 intro a0 k
 unfold spec_GenusOf.f
 exact mM2 spec_IsMap.mono spec_l6Genus.mono
set_option maxHeartbeats 8000000 in
set_option maxRecDepth 100000 in
theorem spec_GenusOf.calls (k : Nat) (A0 : Option Addr) (c0 : Nat) (l0 : List Int) (r : Int) (w : World) (hr0 : Kd.C (Kd.int .i64) w A0 l0.length l0) (hc0 : l0.length ≤ c0) (h : spec_GenusOf.f k l0 = some r) :
  Calls Try.prog 26 #[.slice A0 l0.length c0] w fun e w' => e = .returned (.int .i64 r) ∧ Below w.heap.size w w' := by
 have HR0 := Aside0.mk hr0
 have HC0 := Aside0.mk hc0
 clear hr0 hc0
 have HB := Aside0.mk (Below.refl w.heap.size w)
 have H : ((spec_IsMap.f k l0).bind fun t792 => (if t792 = true then ((spec_l6Genus.f k l0).bind fun t793 => (some t793)) else (some (-1)))) = some r := h
 clear h
 obtain ⟨t792, A2, H⟩ := bs H
 by_cases c3 : t792 = true
 ·subst c3
  rw [if_pos rfl] at H
  obtain ⟨t793, A4, H⟩ := bs H
  obtain rfl := Option.some.inj H
  go_enter Try.func26, Try.ntmps26
  go_wp2_with (first | (refine gL 51 (some 4) Try.func51 #[.slice A0 l0.length c0] ?_; (with_reducible refine (spec_IsMap.calls k _ _ l0 true _ ?side1 ?side2 A2.out).mono ?_); (case side1 => exact C_l HR0.out); (case side2 => exact HC0.out); rintro e w5 ⟨rfl, hb⟩; refine ⟨_, rfl, ?_⟩; replace HB := Aside0.mk (zS HB hb)) | (refine gL 63 (some 7) Try.func63 #[.slice A0 l0.length c0] ?_; (with_reducible refine (spec_l6Genus.calls k _ _ l0 t793 _ ?side1 ?side2 A4.out).mono ?_); (case side1 => exact C_l (Kd.C_below HR0.out HB.out)); (case side2 => exact HC0.out); rintro e w6 ⟨rfl, hb⟩; refine ⟨_, rfl, ?_⟩; replace HB := Aside0.mk (zS HB hb)))
  go_ret
  exact ⟨rE, B_l HB.out⟩
 ·replace c3 := Bool.eq_false_iff.mpr c3
  subst c3
  rw [if_neg (show ¬ (false = true) by decide)] at H
  obtain rfl := Option.some.inj H
  go_enter Try.func26, Try.ntmps26
  go_wp2_with (first | (refine gL 51 (some 4) Try.func51 #[.slice A0 l0.length c0] ?_; (with_reducible refine (spec_IsMap.calls k _ _ l0 false _ ?side1 ?side2 A2.out).mono ?_); (case side1 => exact C_l HR0.out); (case side2 => exact HC0.out); rintro e w7 ⟨rfl, hb⟩; refine ⟨_, rfl, ?_⟩; replace HB := Aside0.mk (zS HB hb)))
  go_ret
  exact ⟨rE, B_l HB.out⟩

end Go.Proofs.Ytkbkkpgllphdhaa.PFnBranches
