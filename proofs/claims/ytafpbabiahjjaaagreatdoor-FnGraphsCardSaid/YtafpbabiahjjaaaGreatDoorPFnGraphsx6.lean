import Derived.Test.YtafpbabiahjjaaaGreatDoorWSpanB
import Derived.Test.YtafpbabiahjjaaaGreatDoorPFnGraphsx0
namespace Go.Proofs.YtafpbabiahjjaaaGreatDoor.PFnGraphs
open Go.RowKit Go.Proofs.YtafpbabiahjjaaaGreatDoorW.PrintWords Go.Proofs.YtafpbabiahjjaaaGreatDoorW.PrintLast Go.Proofs.YtafpbabiahjjaaaGreatDoorW.PrintMore
attribute [local go_sem] max2_int min2_int max_two min_two max_three min_three max_four min_four   -- for this text's walks alone
set_option linter.unusedVariables false
set_option linter.unusedSimpArgs false

/-! ### impl_dartsAt: function 39 -/
def impl_dartsAt.l0 : Nat → List (List Int) → List (List Int) → Int → Int → Option ((List (List Int)))
 | 0, _, _, _, _ => none
 | k + 1, x3, x7, x8, x9 => if x9 < x8 then (if 0 ≤ x9 then (if x9 < (x7.length : Int) then (if 0 < ((rd_L2 x7 x9).length : Int) then (if 0 ≤ (rd (rd_L2 x7 x9) 0) then (if (rd (rd_L2 x7 x9) 0) < (x3.length : Int) then (if (rd_L2 x3 (rd (rd_L2 x7 x9) 0)).length < 17592186044416 then ((some (x3.set ((rd (rd_L2 x7 x9) 0) : Int).toNat ((rd_L2 x3 (rd (rd_L2 x7 x9) 0)) ++ [wrap64 (2 * x9)]) : List (List Int))).bind fun y255 => (if 1 < ((rd_L2 x7 x9).length : Int) then (if 0 ≤ (rd (rd_L2 x7 x9) 1) then (if (rd (rd_L2 x7 x9) 1) < (x3.length : Int) then (if (rd_L2 y255 (rd (rd_L2 x7 x9) 1)).length < 17592186044416 then (impl_dartsAt.l0 k (y255.set ((rd (rd_L2 x7 x9) 1) : Int).toNat ((rd_L2 y255 (rd (rd_L2 x7 x9) 1)) ++ [wrap64 ((wrap64 (2 * x9)) + 1)])) x7 x8 (wrap64 (x9 + 1))) else (none)) else (none)) else (none)) else (none))) else (none)) else (none)) else (none)) else (none)) else (none)) else (none)) else (some x3)
def impl_dartsAt.f (k : Nat) (l0 : List (List Int)) : Option ((List (List Int))) := if 7 ≤ 11728124029610 then (impl_dartsAt.l0 k (List.replicate 7 []) l0 (l0.length : Int) 0) else (none)
def impl_dartsAt.T5 : Bool × List (List Nat × List Nat) := (true, [([], []), ([], []), ([1], [1]), ([2], [2]), ([], []), ([], []), ([5], [5]), ([6], [6]), ([4, 7], [4, 7]), ([8], [8]), ([], []), ([10], [10]), ([11], [11]), ([9, 12], [9, 12]), ([0, 3, 0, 1, 2, 3, 4, 5, 6, 7, 8, 9, 10, 11, 12, 13], [0, 3]), ([14, 13, 13, 0, 1, 2, 3, 4, 5, 6, 7, 8, 9, 10, 11, 12, 13], [13, 14])])
def impl_dartsAt.B5 : List Nat := [0, 0, 2, 6, 0, 0, 32, 96, 240, 496, 0, 1024, 3072, 8176, 16383, 32767]
theorem impl_dartsAt.tab5 : rtab .any (opsOf Tryz.f39 5) = impl_dartsAt.T5 := by kernel_rfl
theorem impl_dartsAt.bits5 : waitsOk impl_dartsAt.T5.2 impl_dartsAt.B5 = true := by kernel_rfl
def impl_dartsAt.T6 : Bool × List (List Nat × List Nat) := (true, [([], []), ([], []), ([1], [1]), ([2], [2]), ([], []), ([], []), ([5], [5]), ([6], [6]), ([4, 7], [4, 7]), ([8], [8]), ([], []), ([10], [10]), ([11], [11]), ([12], [12]), ([9, 13], [9, 13]), ([0, 3, 0, 1, 2, 3, 4, 5, 6, 7, 8, 9, 10, 11, 12, 13, 14], [0, 3]), ([15, 14, 14, 0, 1, 2, 3, 4, 5, 6, 7, 8, 9, 10, 11, 12, 13, 14], [14, 15])])
def impl_dartsAt.B6 : List Nat := [0, 0, 2, 6, 0, 0, 32, 96, 240, 496, 0, 1024, 3072, 7168, 16368, 32767, 65535]
theorem impl_dartsAt.tab6 : rtab .any (opsOf Tryz.f39 6) = impl_dartsAt.T6 := by kernel_rfl
theorem impl_dartsAt.bits6 : waitsOk impl_dartsAt.T6.2 impl_dartsAt.B6 = true := by kernel_rfl
set_option maxHeartbeats 8000000 in
set_option maxRecDepth 100000 in
theorem impl_dartsAt.calls (k : Nat) (A0 : Option Addr) (c0 : Nat) (l0 : List (List Int)) (r : List (List Int)) (w : World) (hr0 : Kd.C (Kd.slice 3 (Kd.int .i64)) w A0 l0.length l0) (hc0 : l0.length ≤ c0) (h : impl_dartsAt.f k l0 = some r) :
  Calls Tryz.prog 39 #[.slice A0 l0.length c0] w fun e w' => ∃ v0_ : Value, e = .returned (v0_) ∧ Kd.S (Kd.slice 3 (Kd.int .i64)) 26 w' w.heap.size (fun _ => True) v0_ r ∧ Below w.heap.size w w' := by
 have HR0 := Aside0.mk hr0
 have HC0 := Aside0.mk hc0
 clear hr0 hc0
 have HB := Aside0.mk (Below.refl w.heap.size w)
 have H : (if 7 ≤ 11728124029610 then (impl_dartsAt.l0 k (List.replicate 7 []) l0 (l0.length : Int) 0) else (none)) = some r := h
 clear h
 by_cases c2 : 7 ≤ 11728124029610
 ·rw [if_pos c2] at H
  have c2b0 := eq_true c2
  have c2b1 : decide (7 ≤ 11728124029610) = true := decide_eq_true c2
  clear c2
  generalize hy245 : (List.replicate 7 [] : List (List Int)) = y245 at H
  have Ny245 := Aside0.mk hy245.symm; clear hy245
  have H' := Aside0.mk H
  clear H
  go_enter Tryz.func39, Tryz.ntmps39
  go_wp2_with (first | ((with_reducible refine gate_dst (N := 6) rfl ?_); refine Kd.S_make (Kd.slice 3 (Kd.int .i64)) _ 26 rfl (N := 6) rfl 24 _ _ rfl 7 rfl rfl Tryz.underlying24 (.slice none 0 0) 24 info26 rfl (by decide) (by omega) [] (ok := fun _ => True) (okp := fun _ => True) ⟨_, rfl, Kd.R_nil _ _ _ _ _⟩ (fun _ hk => hk) trivial (by omega) (by omega) (Below.refl _ _) (Nat.le_refl _) ?_; intro v246 w3 ho4 hb hg_ hnew_; clear hg_ hnew_; (first | rw [← Ny245.out] at ho4 | (simp only [Int.reduceToNat] at ho4; rw [← Ny245.out] at ho4)); have HO247 := Aside0.mk (Kd.S_lower ho4 (below_size tb)); replace HB := Aside0.mk (below_step tb hb); clear hb ho4))
  go_loopg [9] k (fun kq v9 w' => ∃ (x3_1 : List (List Int)) (x9_1 : Int), v9 = .int .i64 x9_1 ∧ Aside0 (impl_dartsAt.l0 kq x3_1 l0 (l0.length : Int) x9_1 = some r) ∧ Aside0 (kq ≤ k) ∧ Aside0 (Kd.S (Kd.slice 3 (Kd.int .i64)) 26 w' w.heap.size (fun _ => True) v246 x3_1) ∧ Aside0 (Below w.heap.size w w'))
  case atStart => exact ⟨(y245), (0), rS, H', ⟨Nat.le_refl _⟩, ⟨S_l HO247.out⟩, ⟨tb⟩⟩
  case round =>
   clear H'
   try clear c2
   try clear c2b0
   try clear c2b1
   try clear p2
   try clear c3
   obtain ⟨x3_1, x9_1, rfl, HA, HK1, HO_3, HB⟩ := hrel
   cases gk with
   | zero => exact absurd HA.out (by simp [impl_dartsAt.l0])
   | succ k1 =>
    have H := HA.out
    clear HA
    simp only [impl_dartsAt.l0] at H
    obtain ⟨c5b0, H⟩ | ⟨c5b0, H⟩ := gi H
    ·obtain ⟨c6b0, H⟩ := gdt H
     obtain ⟨c7b0, H⟩ := gdt H
     obtain ⟨c8, H⟩ := gd H
     have c8b0 : decide (0 < ((rd_L2 l0 x9_1).length : Int)) = true := decide_eq_true c8
     have c8b1 : decide (0 < (rd_L2 l0 x9_1).length) = true := decide_eq_true (by omega)
     clear c8
     obtain ⟨c9b0, H⟩ := gdt H
     obtain ⟨c10b0, H⟩ := gdt H
     obtain ⟨LMc11, H⟩ := gda H
     generalize hy252 : ((rd_L2 x3_1 (rd (rd_L2 l0 x9_1) 0)) ++ [wrap64 (2 * x9_1)] : List Int) = y252 at H
     have Ny252 := Aside0.mk hy252.symm; clear hy252
     generalize hy255 : (x3_1.set ((rd (rd_L2 l0 x9_1) 0) : Int).toNat y252 : List (List Int)) = y255 at H
     have Ny255 := Aside0.mk hy255.symm; clear hy255
     obtain ⟨c13, H⟩ := gd H
     have c13b0 : decide (1 < ((rd_L2 l0 x9_1).length : Int)) = true := decide_eq_true c13
     have c13b1 : decide (1 < (rd_L2 l0 x9_1).length) = true := decide_eq_true (by omega)
     clear c13
     obtain ⟨c14b0, H⟩ := gdt H
     obtain ⟨c15b0, H⟩ := gdt H
     obtain ⟨LMc16, H⟩ := gda H
     generalize hy259 : ((rd_L2 y255 (rd (rd_L2 l0 x9_1) 1)) ++ [wrap64 ((wrap64 (2 * x9_1)) + 1)] : List Int) = y259 at H
     have Ny259 := Aside0.mk hy259.symm; clear hy259
     generalize hy262 : (y255.set ((rd (rd_L2 l0 x9_1) 1) : Int).toNat y259 : List (List Int)) = y262 at H
     have Ny262 := Aside0.mk hy262.symm; clear hy262
     have H' := Aside0.mk H
     clear H
     have p248 : 0 ≤ (x9_1 : Int) := dT
     have q248 : x9_1 < (l0.length : Int) := dT
     obtain ⟨ad248, A248_0, c248_0, e248, hx248_0, hl248_0, hi248_0⟩ := at_L2 HR0.out x9_1 p248 q248
     cases e248
     replace hx248_0 := cB HB hx248_0
     have HR248_0 := Aside0.mk hi248_0
     have HC248_0 := Aside0.mk hl248_0
     clear hi248_0 hl248_0
     replace p248 := eq_true p248
     replace q248 := eq_true q248
     try go_wp2
     replace HO_3 := Aside0.mk (Kd.S_drew HO_3.out); replace HB := Aside0.mk (below_drew1 HB.out)
     have p249 : 0 ≤ (0 : Int) := (by omega)
     have q249 : 0 < ((rd_L2 l0 x9_1).length : Int) := dT
     obtain ⟨ad249, e249, hx249_0⟩ := Kd.at_int HR248_0.out 0 p249 q249
     have hw249_0 := hx249_0
     (try rw [show ((0 : Int)).toNat = 0 from rfl] at hw249_0)
     (try rw [show 0 * 1 = 0 from rfl] at hw249_0)
     (try rw [Addr.add_zero'] at hw249_0)
     cases e249
     have qi249 : (0 < (rd_L2 l0 x9_1).length) = True := eq_true (by omega)
     (try rw [show ((0 : Int)).toNat = 0 from rfl] at hx249_0)
     (try rw [Addr.add_zero'] at hx249_0)
     replace hx249_0 := cB HB hx249_0
     replace p249 := eq_true p249
     replace q249 := eq_true q249
     have p250 : 0 ≤ (0 : Int) := (by omega)
     have q250 : 0 < ((rd_L2 l0 x9_1).length : Int) := dT
     obtain ⟨ad250, e250, hx250_0⟩ := Kd.at_int HR248_0.out 0 p250 q250
     have hw250_0 := hx250_0
     (try rw [show ((0 : Int)).toNat = 0 from rfl] at hw250_0)
     (try rw [show 0 * 1 = 0 from rfl] at hw250_0)
     (try rw [Addr.add_zero'] at hw250_0)
     obtain rfl : ad249 = ad250 := (by injection e250)
     have qi250 : (0 < (rd_L2 l0 x9_1).length) = True := eq_true (by omega)
     (try rw [show ((0 : Int)).toNat = 0 from rfl] at hx250_0)
     (try rw [Addr.add_zero'] at hx250_0)
     replace hx250_0 := cB HB hx250_0
     replace p250 := eq_true p250
     replace q250 := eq_true q250
     obtain ⟨Ao19, co19, eo19⟩ := Kd.S_slice HO_3.out
     (first | subst eo19 | (injection eo19 with f1_ f2_ f3_; have f4_ := f1_.symm; have f5_ := f3_.symm; clear f1_ f2_ f3_; subst f4_; subst f5_))
     have p251 : 0 ≤ ((rd (rd_L2 l0 x9_1) 0) : Int) := dT
     have q251 : (rd (rd_L2 l0 x9_1) 0) < (x3_1.length : Int) := dT
     obtain ⟨ad251, A251_0, c251_0, e251, hx251_0, hl251_0, hi251_0⟩ := at_L2 (Kd.S_reads' HO_3.out).2.2 (rd (rd_L2 l0 x9_1) 0) p251 q251
     cases e251
     obtain ⟨ce251, hce251, hMe251, hcc251⟩ := Kd.S_get HO_3.out [] (rd (rd_L2 l0 x9_1) 0) p251 (by first | exact q251 | exact dT | (have e_ := (Kd.S_reads' HO_3.out).1; omega))
     obtain ⟨ve251_0, rfl, ge251_0⟩ := hMe251
     have hv251_0 := hcc251 0 _ rfl
     rw [Nat.add_zero, show ((Kd.slice 3 (Kd.int .i64))).sz = 1 from rfl, Nat.mul_one] at hv251_0
     replace hv251_0 := Option.some.inj (hv251_0.symm.trans hx251_0)
     rw [hv251_0] at ge251_0
     have HL251_0 := Aside0.mk (show Kd.R (Kd.int .i64) 3 _ _ _ _ (rd_L2 x3_1 (rd (rd_L2 l0 x9_1) 0)) from ge251_0)
     clear hv251_0 ge251_0
     have HX251_0 := Aside0.mk hx251_0
     clear hcc251 hce251
     have HR251_0 := Aside0.mk hi251_0
     have HC251_0 := Aside0.mk hl251_0
     clear hi251_0 hl251_0
     replace p251 := eq_true p251
     replace q251 := eq_true q251
     obtain ⟨go20, co20, eo20, gb20, gl20, cl20, HG20⟩ := Kd.S_form HO_3.out (by have h_ : ((rd (rd_L2 l0 x9_1) 0) : Int) < ((x3_1.length : Int) : Int) := dT; have h2_ : 0 ≤ ((rd (rd_L2 l0 x9_1) 0) : Int) := dT; omega)
     (first | cases eo20 | (injection eo20 with ea_ en_ ec_; (first | subst ea_ | (injection ea_ with ea_; subst ea_)); subst ec_; clear en_))
     have GB20 := Aside0.mk gb20
     have GG20 := Aside0.mk HG20
     clear gb20 gl20 HG20
     (first | simp only [add_plain] at hx251_0 | skip)
     obtain ⟨oki20, ce20, hcl20, hM20, hcc20, _, _, hH20⟩ := Kd.S_elem HO_3.out [] ((rd (rd_L2 l0 x9_1) 0) : Int) dT (by have h_ : ((rd (rd_L2 l0 x9_1) 0) : Int) < ((x3_1.length : Int) : Int) := dT; first | exact h_ | (have e_ := (Kd.S_reads' HO_3.out).1; omega) | simpa using h_)
     obtain ⟨ve20_0, rfl, ge20_0⟩ := hM20
     have hv20 := hcc20 0 _ rfl
     have hX20 := HX251_0.out
     (try simp only [add_plain] at hX20)
     (try simp only [Nat.add_zero] at hv20)
     (try rw [show ((Kd.slice 3 (Kd.int .i64))).sz = 1 from rfl, Nat.mul_one] at hv20)
     replace hv20 := Option.some.inj (hv20.symm.trans hX20)
     subst hv20
     clear hX20 hcc20 hcl20
     have UU20 := Aside0.mk (show Kd.R (Kd.int .i64) 3 _ w.heap.size oki20 (.slice A251_0 (rd_L2 x3_1 (rd (rd_L2 l0 x9_1) 0)).length c251_0) (rd_L2 x3_1 (rd (rd_L2 l0 x9_1) 0)) from ge20_0)
     have HH20 := Aside0.mk hH20
     have HN20 := Aside0.mk (Kd.S_reads' HO_3.out).1
     clear hH20 ge20_0
     refine start_ (n := 16) (S := fun w' => w'.cell? ad249 = some (.int .i64 (rd (rd_L2 l0 x9_1) 0)) ∧ w'.cell? ad249 = some (.int .i64 (rd (rd_L2 l0 x9_1) 0)) ∧ w'.cell? (⟨go20, ((rd (rd_L2 l0 x9_1) 0)).toNat, none⟩ : Addr) = some (.slice A251_0 (rd_L2 x3_1 (rd (rd_L2 l0 x9_1) 0)).length c251_0)) (ds := [15]) #[false, false, false, false, false, false, false, false, false, false, false, false, false, false, false, false] (by kernel_rfl) rfl rfl ⟨((HB.out.cell (World.block_lt_of_cell? w _ hw249_0)).trans hw249_0), ((HB.out.cell (World.block_lt_of_cell? w _ hw250_0)).trans hw250_0), hx251_0⟩ (fun hHeld => ?_); refine with_tabW impl_dartsAt.tab5 impl_dartsAt.bits5 (fun HT_ HW_ => ?_)
     generalize wr.drew = w18 at HO_3 HB GG20 HH20 HL251_0 HR251_0 HX251_0 UU20 hx249_0 hx250_0 hx251_0 hHeld ⊢
     refine pu_ 0 (some 14) ?_
     refine pu_ 1 (some 15) ?_
     refine pu_ 2 (some 16) ?_
     refine pu_ 4 (some 18) ?_
     refine pu_ 5 (some 19) ?_
     refine pu_ 6 (some 20) ?_
     refine pu_ 10 (some 24) ?_
     refine pu_ 11 (some 25) ?_
     refine take_ (i := 3) (N := some 17) (v := ?_) (a' := ?_) #[true, true, true, true, true, true, true, false, false, false, true, true, false, false, false, false] rfl rfl (take_ofW HT_.out HW_.out (by kernel_rfl)) (fun _ _ _ h => h) (Or.inl ⟨by rfl, ?_⟩) hHeld ?_ ?_
     rotate_left
     ·rintro w' ⟨s0, s1, s2⟩
      go_simp
      with_reducible rfl
     rotate_left
     ·simp only [Act.put, List.setIfInBounds_toArray, List.set_cons_zero, List.set_cons_succ, i64_w, i32_w]
      rfl
     refine take_ (i := 7) (N := some 21) (v := ?_) (a' := ?_) #[true, true, true, true, true, true, true, true, false, false, true, true, false, false, false, false] rfl rfl (take_ofW HT_.out HW_.out (by kernel_rfl)) (fun _ _ _ h => h) (Or.inl ⟨by rfl, ?_⟩) hHeld ?_ ?_
     rotate_left
     ·rintro w' ⟨s0, s1, s2⟩
      go_simp
      with_reducible rfl
     rotate_left
     ·simp only [Act.put, List.setIfInBounds_toArray, List.set_cons_zero, List.set_cons_succ, i64_w, i32_w]
      rfl
     refine pu_ 8 (some 22) ?_
     refine take_ (i := 9) (N := some 23) (v := ?_) (a' := ?_) #[true, true, true, true, true, true, true, true, true, true, true, true, false, false, false, false] rfl rfl (take_ofW HT_.out HW_.out (by kernel_rfl)) (fun _ _ _ h => h) (Or.inl ⟨by rfl, ?_⟩) hHeld ?_ ?_
     rotate_left
     ·rintro w' ⟨s0, s1, s2⟩
      go_simp
      with_reducible rfl
     rotate_left
     ·simp only [Act.put, List.setIfInBounds_toArray, List.set_cons_zero, List.set_cons_succ, i64_w, i32_w]
      rfl
     refine one_ (i := 12) (N := some 26) #[true, true, true, true, true, true, true, true, true, true, true, true, true, false, false, false] rfl rfl (one_of HT_.out (by kernel_rfl)) (by decide) (fun K hK => ?_)
     refine value_ (w1 := ?_) (v := ?_) (by rfl) rfl ?_ ?_
     rotate_left 2
     ·go_simp
      constructor
      ·rfl
      ·rfl
     refine hK.out _ _ ⟨(World.cell?_alloc_lt _ _ _ (World.block_lt_of_cell? _ _ (((HB.out.cell (World.block_lt_of_cell? w _ hw249_0)).trans hw249_0)))).trans (((HB.out.cell (World.block_lt_of_cell? w _ hw249_0)).trans hw249_0)), (World.cell?_alloc_lt _ _ _ (World.block_lt_of_cell? _ _ (((HB.out.cell (World.block_lt_of_cell? w _ hw250_0)).trans hw250_0)))).trans (((HB.out.cell (World.block_lt_of_cell? w _ hw250_0)).trans hw250_0)), (World.cell?_alloc_lt _ _ _ (World.block_lt_of_cell? _ _ (hHeld.2.2))).trans (hHeld.2.2)⟩ (fun hHeld => ?_)
     clear hK K
     refine norm_ (a' := ?_) ?_ ?_
     rotate_left
     ·show Act.put _ (some 26) _ = _
      simp only [Act.put, List.setIfInBounds_toArray, List.set_cons_zero, List.set_cons_succ, i64_w, i32_w]
      rfl
     refine one_ (i := 13) (N := some 27) #[true, true, true, true, true, true, true, true, true, true, true, true, true, true, false, false] rfl rfl (one_of HT_.out (by kernel_rfl)) (by decide) (fun K hK => ?_)
     refine Kd.R_append_step (Kd.int .i64) (w0 := w) w.heap.size (by rfl) (.tmp 23) (.tmp 26) 26 3 (.int .i64 0) 8 rfl Tryz.underlying26 info3 rfl (by decide) (by omega) (.slice A251_0 (rd_L2 x3_1 (rd (rd_L2 l0 x9_1) 0)).length c251_0) (rd_L2 x3_1 (rd (rd_L2 l0 x9_1) 0)) (wrap64 (2 * x9_1)) [.int .i64 (wrap64 (2 * x9_1))] (fun k_ => oki20 k_ ∨ ((fun _ => True)) k_ ∧ w18.heap.size ≤ k_) (fun _ => False) rfl rfl ?aP (fun _ hk => hk.elim) ?aF ?aO ?aB ?aS ?aL ?_
     (case aP => exact rfl)
     (case aB => exact tb)
     (case aF => exact (fun k_ hk => .inr ⟨trivial, hk⟩))
     (case aO => exact (R_l (Kd.R_mono UU20.out (fun _ hk => .inl hk))))
     (case aS => exact (below_size tb))
     (case aL => have := LMc11.out; omega)
     intro v253 w21 ho hb hg hat
     (first | have HS2_ := cell_grown hg (hHeld.2.2) (by first | (rw [add_block]; exact (fun e_ => ((HL251_0.out.1 _ e_.symm).2) rfl)) | (show some (Addr.add _ _).block ≠ _; rw [add_block]; exact (fun e_ => ((HL251_0.out.1 _ e_.symm).2) rfl)) | exact (fun e_ => ((HL251_0.out.1 _ e_.symm).2) rfl)) | have HS2_ := cell_grown hg (cell_unalloc (hHeld.2.2) (by first | (rw [add_block]; exact Kd.S_lt HO_3.out _ rfl) | (show (Addr.add _ _).block < _; rw [add_block]; exact Kd.S_lt HO_3.out _ rfl) | exact Kd.S_lt HO_3.out _ rfl)) (by first | (rw [add_block]; exact (fun e_ => ((HL251_0.out.1 _ e_.symm).2) rfl)) | (show some (Addr.add _ _).block ≠ _; rw [add_block]; exact (fun e_ => ((HL251_0.out.1 _ e_.symm).2) rfl)) | exact (fun e_ => ((HL251_0.out.1 _ e_.symm).2) rfl)))
     rw [← Ny252.out] at ho
     replace HB := Aside0.mk (hb); replace HH20 := Aside0.mk (Kd.H_grown (Kd.H_widen (by repeat (first | exact HH20.out | refine Kd.H_alloc ?_ _ | refine Kd.H_drewN ?_ _ | refine Kd.H_drew ?_))) hg (fun k_ e_ => .inl (UU20.out.1 k_ e_))); have HO254 := Aside0.mk (ho); clear HO_3 UU20 HL251_0
     clear ho hb hg hat
     have p12 : 0 ≤ ((rd (rd_L2 l0 x9_1) 0) : Int) := dT
     have q12 : ((rd (rd_L2 l0 x9_1) 0) : Int) < ((x3_1.length : Int) : Int) := dT
     replace p12 := eq_true p12
     replace q12 := eq_true q12
     obtain ⟨Ao24, co24, eo24⟩ := Kd.R_slice HO254.out
     (first | subst eo24 | (injection eo24 with f1_ f2_ f3_; have f4_ := f1_.symm; have f5_ := f3_.symm; clear f1_ f2_ f3_; subst f4_; subst f5_))
     obtain ⟨_, _, hraw22, _, _, hcc22, _⟩ := Kd.H_raw HH20.out dT (by have h_ : ((rd (rd_L2 l0 x9_1) 0) : Int) < ((x3_1.length : Int) : Int) := dT; first | exact h_ | (have e_ := (HN20.out); omega) | simpa using h_)
     obtain ⟨_, hfr22⟩ := Kd.H_at HH20.out dT (by have h_ : ((rd (rd_L2 l0 x9_1) 0) : Int) < ((x3_1.length : Int) : Int) := dT; first | exact h_ | (have e_ := (HN20.out); omega) | simpa using h_)
     have hx22_0 := hcc22 0 _ rfl
     have hf22_0 := hfr22 0
     (try simp only [Nat.add_zero] at hx22_0 hf22_0)
     (try rw [show ((Kd.slice 3 (Kd.int .i64))).sz = 1 from rfl, Nat.mul_one] at hx22_0)
     (try rw [show ((Kd.slice 3 (Kd.int .i64))).sz = 1 from rfl, Nat.mul_one] at hf22_0)
     have HP22 := Kd.S_seg0 HH20.out dT (by have h_ : ((rd (rd_L2 l0 x9_1) 0) : Int) < ((x3_1.length : Int) : Int) := dT; first | exact h_ | (have e_ := (HN20.out); omega) | simpa using h_) (seg := [.slice Ao24 y252.length co24]) (j := 0) (show 1 ≤ 1 from by decide) (x' := y252) (Kd.M_row HO254.out) (fun _ hk => hk)
     (try simp only [show ((Kd.slice 3 (Kd.int .i64))).sz = 1 from rfl, Nat.mul_one, Nat.add_zero] at HP22)
     clear hcc22 hfr22
     have HS22 := HP22.1
     rw [← Ny255.out] at HS22
     have HQ22 := Aside0.mk HS22
     obtain ⟨_, hgg22⟩ := Kd.R_typed hraw22 go20 rfl
     have GG22_ := Aside0.mk hgg22
     clear HP22 HS22 hgg22
     refine hK.out _ _ ⟨((HB.out.cell (World.block_lt_of_cell? w _ hw249_0)).trans hw249_0), ((HB.out.cell (World.block_lt_of_cell? w _ hw250_0)).trans hw250_0), HS2_⟩ (fun hHeld => ?_)
     clear hK K
     refine norm_ (a' := ?_) ?_ ?_
     rotate_left
     ·show Act.put _ (some 27) _ = _
      simp only [Act.put, List.setIfInBounds_toArray, List.set_cons_zero, List.set_cons_succ, i64_w, i32_w]
      rfl
     refine pu_ 14 (some 28) ?_
     refine last_ (i := 15) (N := none) #[true, true, true, true, true, true, true, true, true, true, true, true, true, true, true, true] rfl rfl (one_of HT_.out (by kernel_rfl)) (by decide) (fun K hK => ?_)
     refine skip_ (w1 := ?_) (by rfl) rfl ?_ ?_
     rotate_left
     ·go_simp
      rfl
     refine hK.out _ _ ?_
     clear hK K
     refine done_ (done_of HT_.out (by kernel_rfl)) ?_
     try go_wp2
     have n0_ : Aside0 (Kd.S (Kd.slice 3 (Kd.int .i64)) 26 (w21.setCell ⟨go20, ((rd (rd_L2 l0 x9_1) 0) : Int).toNat, none⟩ (.slice Ao24 y252.length co24)) w.heap.size (fun _ => True) (.slice (some ⟨go20, 0, none⟩) x3_1.length co19) y255) := ⟨HQ22.out⟩
     have n1_ : Aside0 (Below w.heap.size w (w21.setCell ⟨go20, ((rd (rd_L2 l0 x9_1) 0) : Int).toNat, none⟩ (.slice Ao24 y252.length co24))) := ⟨tG1 GB20.out⟩
     (try clear HO_3)
     (try clear HB)
     generalize (w21.setCell ⟨go20, ((rd (rd_L2 l0 x9_1) 0) : Int).toNat, none⟩ (.slice Ao24 y252.length co24)) = w25 at n0_ n1_ ⊢
     have HO_3 := n0_
     have HB := n1_
     clear n0_ n1_
     replace HO_3 := Aside0.mk (Kd.S_drew HO_3.out); replace HB := Aside0.mk (below_drew1 HB.out)
     have p256 : 0 ≤ (1 : Int) := (by omega)
     have q256 : 1 < ((rd_L2 l0 x9_1).length : Int) := dT
     obtain ⟨ad256, e256, hx256_0⟩ := Kd.at_int HR248_0.out 1 p256 q256
     have hw256_0 := hx256_0
     (try rw [show ((1 : Int)).toNat = 1 from rfl] at hw256_0)
     (try rw [show 1 * 1 = 1 from rfl] at hw256_0)
     (try simp only [Nat.reduceMul, Nat.reduceEqDiff, Go.Addr.add, ↓reduceIte] at hw256_0)
     obtain rfl : ad249 = ad256 := (by injection e256)
     (try simp only [show (1 : Int).toNat = 1 from rfl, Nat.reduceMul, Nat.reduceEqDiff, Go.Addr.add, ↓reduceIte] at hx256_0)
     have qi256 : (1 < (rd_L2 l0 x9_1).length) = True := eq_true (by omega)
     (try rw [show ((1 : Int)).toNat = 1 from rfl] at hx256_0)
     replace hx256_0 := cB HB hx256_0
     replace p256 := eq_true p256
     replace q256 := eq_true q256
     have p257 : 0 ≤ (1 : Int) := (by omega)
     have q257 : 1 < ((rd_L2 l0 x9_1).length : Int) := dT
     obtain ⟨ad257, e257, hx257_0⟩ := Kd.at_int HR248_0.out 1 p257 q257
     have hw257_0 := hx257_0
     (try rw [show ((1 : Int)).toNat = 1 from rfl] at hw257_0)
     (try rw [show 1 * 1 = 1 from rfl] at hw257_0)
     (try simp only [Nat.reduceMul, Nat.reduceEqDiff, Go.Addr.add, ↓reduceIte] at hw257_0)
     obtain rfl : ad249 = ad257 := (by injection e257)
     (try simp only [show (1 : Int).toNat = 1 from rfl, Nat.reduceMul, Nat.reduceEqDiff, Go.Addr.add, ↓reduceIte] at hx257_0)
     have qi257 : (1 < (rd_L2 l0 x9_1).length) = True := eq_true (by omega)
     (try rw [show ((1 : Int)).toNat = 1 from rfl] at hx257_0)
     replace hx257_0 := cB HB hx257_0
     replace p257 := eq_true p257
     replace q257 := eq_true q257
     have p258 : 0 ≤ ((rd (rd_L2 l0 x9_1) 1) : Int) := dT
     have q258 : (rd (rd_L2 l0 x9_1) 1) < (y255.length : Int) := (by have h_ : ((rd (rd_L2 l0 x9_1) 1) : Int) < ((x3_1.length : Int) : Int) := dT; first | (have e_ := (Kd.S_reads' HO_3.out).1; omega) | simpa only [Ny255.out, List.length_set] using h_)
     have ql258 : (((rd (rd_L2 l0 x9_1) 1) : Int) < ((x3_1.length : Int) : Int)) = True := eq_true dT
     obtain ⟨ad258, A258_0, c258_0, e258, hx258_0, hl258_0, hi258_0⟩ := at_L2 (Kd.S_reads' HO_3.out).2.2 (rd (rd_L2 l0 x9_1) 1) p258 q258
     obtain rfl : (⟨go20, 0, none⟩ : Addr) = ad258 := (by injection e258)
     obtain ⟨ce258, hce258, hMe258, hcc258⟩ := Kd.S_get HO_3.out [] (rd (rd_L2 l0 x9_1) 1) p258 (by first | exact q258 | exact dT | (have e_ := (Kd.S_reads' HO_3.out).1; omega))
     obtain ⟨ve258_0, rfl, ge258_0⟩ := hMe258
     have hv258_0 := hcc258 0 _ rfl
     rw [Nat.add_zero, show ((Kd.slice 3 (Kd.int .i64))).sz = 1 from rfl, Nat.mul_one] at hv258_0
     replace hv258_0 := Option.some.inj (hv258_0.symm.trans hx258_0)
     rw [hv258_0] at ge258_0
     have HL258_0 := Aside0.mk (show Kd.R (Kd.int .i64) 3 _ _ _ _ (rd_L2 y255 (rd (rd_L2 l0 x9_1) 1)) from ge258_0)
     clear hv258_0 ge258_0
     have HX258_0 := Aside0.mk hx258_0
     clear hcc258 hce258
     (first | simp only [add_plain] at hx258_0 | simp only [add_at] at hx258_0 | simp only [Addr.add, Nat.zero_add] at hx258_0 | skip)
     have HR258_0 := Aside0.mk hi258_0
     have HC258_0 := Aside0.mk hl258_0
     clear hi258_0 hl258_0
     replace p258 := eq_true p258
     replace q258 := eq_true q258
     obtain ⟨oki27, ce27, hcl27, hM27, hcc27, _, _, hH27⟩ := Kd.S_elem HO_3.out [] ((rd (rd_L2 l0 x9_1) 1) : Int) dT (by have h_ : ((rd (rd_L2 l0 x9_1) 1) : Int) < ((x3_1.length : Int) : Int) := dT; first | exact h_ | (have e_ := (Kd.S_reads' HO_3.out).1; omega) | simpa using h_)
     obtain ⟨ve27_0, rfl, ge27_0⟩ := hM27
     have hv27 := hcc27 0 _ rfl
     have hX27 := HX258_0.out
     (try simp only [add_plain] at hX27)
     (try simp only [Nat.add_zero] at hv27)
     (try rw [show ((Kd.slice 3 (Kd.int .i64))).sz = 1 from rfl, Nat.mul_one] at hv27)
     replace hv27 := Option.some.inj (hv27.symm.trans hX27)
     subst hv27
     clear hX27 hcc27 hcl27
     have UU27 := Aside0.mk (show Kd.R (Kd.int .i64) 3 _ w.heap.size oki27 (.slice A258_0 (rd_L2 y255 (rd (rd_L2 l0 x9_1) 1)).length c258_0) (rd_L2 y255 (rd (rd_L2 l0 x9_1) 1)) from ge27_0)
     have HH27 := Aside0.mk hH27
     have HN27 := Aside0.mk (Kd.S_reads' HO_3.out).1
     clear hH27 ge27_0
     refine start_ (n := 17) (S := fun w' => w'.cell? ⟨ad249.block, ad249.off + 1, none⟩ = some (.int .i64 (rd (rd_L2 l0 x9_1) 1)) ∧ w'.cell? ⟨ad249.block, ad249.off + 1, none⟩ = some (.int .i64 (rd (rd_L2 l0 x9_1) 1)) ∧ w'.cell? ⟨go20, ((rd (rd_L2 l0 x9_1) 1)).toNat, none⟩ = some (.slice A258_0 (rd_L2 y255 (rd (rd_L2 l0 x9_1) 1)).length c258_0)) (ds := [16]) #[false, false, false, false, false, false, false, false, false, false, false, false, false, false, false, false, false] (by kernel_rfl) rfl rfl ⟨((HB.out.cell (World.block_lt_of_cell? w _ hw256_0)).trans hw256_0), ((HB.out.cell (World.block_lt_of_cell? w _ hw257_0)).trans hw257_0), hx258_0⟩ (fun hHeld => ?_); refine with_tabW impl_dartsAt.tab6 impl_dartsAt.bits6 (fun HT_ HW_ => ?_)
     generalize w25.drew = w26 at HO_3 HB HH27 HL258_0 HQ22 HR258_0 HX258_0 UU27 hx256_0 hx257_0 hx258_0 hHeld ⊢
     refine pu_ 0 (some 29) ?_
     refine pu_ 1 (some 30) ?_
     refine pu_ 2 (some 31) ?_
     refine pu_ 4 (some 33) ?_
     refine pu_ 5 (some 34) ?_
     refine pu_ 6 (some 35) ?_
     refine pu_ 10 (some 39) ?_
     refine pu_ 11 (some 40) ?_
     refine pu_ 12 (some 41) ?_
     refine take_ (i := 3) (N := some 32) (v := ?_) (a' := ?_) #[true, true, true, true, true, true, true, false, false, false, true, true, true, false, false, false, false] rfl rfl (take_ofW HT_.out HW_.out (by kernel_rfl)) (fun _ _ _ h => h) (Or.inl ⟨by rfl, ?_⟩) hHeld ?_ ?_
     rotate_left
     ·rintro w' ⟨s0, s1, s2⟩
      go_simp
      with_reducible rfl
     rotate_left
     ·simp only [Act.put, List.setIfInBounds_toArray, List.set_cons_zero, List.set_cons_succ, i64_w, i32_w]
      rfl
     refine take_ (i := 7) (N := some 36) (v := ?_) (a' := ?_) #[true, true, true, true, true, true, true, true, false, false, true, true, true, false, false, false, false] rfl rfl (take_ofW HT_.out HW_.out (by kernel_rfl)) (fun _ _ _ h => h) (Or.inl ⟨by rfl, ?_⟩) hHeld ?_ ?_
     rotate_left
     ·rintro w' ⟨s0, s1, s2⟩
      go_simp
      with_reducible rfl
     rotate_left
     ·simp only [Act.put, List.setIfInBounds_toArray, List.set_cons_zero, List.set_cons_succ, i64_w, i32_w]
      rfl
     refine pu_ 8 (some 37) ?_
     refine take_ (i := 9) (N := some 38) (v := ?_) (a' := ?_) #[true, true, true, true, true, true, true, true, true, true, true, true, true, false, false, false, false] rfl rfl (take_ofW HT_.out HW_.out (by kernel_rfl)) (fun _ _ _ h => h) (Or.inl ⟨by rfl, ?_⟩) hHeld ?_ ?_
     rotate_left
     ·rintro w' ⟨s0, s1, s2⟩
      go_simp
      with_reducible rfl
     rotate_left
     ·simp only [Act.put, List.setIfInBounds_toArray, List.set_cons_zero, List.set_cons_succ, i64_w, i32_w]
      rfl
     refine one_ (i := 13) (N := some 42) #[true, true, true, true, true, true, true, true, true, true, true, true, true, true, false, false, false] rfl rfl (one_of HT_.out (by kernel_rfl)) (by decide) (fun K hK => ?_)
     refine value_ (w1 := ?_) (v := ?_) (by rfl) rfl ?_ ?_
     rotate_left 2
     ·go_simp
      constructor
      ·rfl
      ·rfl
     refine hK.out _ _ ⟨(World.cell?_alloc_lt _ _ _ (World.block_lt_of_cell? _ _ (((HB.out.cell (World.block_lt_of_cell? w _ hw256_0)).trans hw256_0)))).trans (((HB.out.cell (World.block_lt_of_cell? w _ hw256_0)).trans hw256_0)), (World.cell?_alloc_lt _ _ _ (World.block_lt_of_cell? _ _ (((HB.out.cell (World.block_lt_of_cell? w _ hw257_0)).trans hw257_0)))).trans (((HB.out.cell (World.block_lt_of_cell? w _ hw257_0)).trans hw257_0)), (World.cell?_alloc_lt _ _ _ (World.block_lt_of_cell? _ _ (hHeld.2.2))).trans (hHeld.2.2)⟩ (fun hHeld => ?_)
     clear hK K
     refine norm_ (a' := ?_) ?_ ?_
     rotate_left
     ·show Act.put _ (some 42) _ = _
      simp only [Act.put, List.setIfInBounds_toArray, List.set_cons_zero, List.set_cons_succ, i64_w, i32_w]
      rfl
     refine one_ (i := 14) (N := some 43) #[true, true, true, true, true, true, true, true, true, true, true, true, true, true, true, false, false] rfl rfl (one_of HT_.out (by kernel_rfl)) (by decide) (fun K hK => ?_)
     refine Kd.R_append_step (Kd.int .i64) (w0 := w) w.heap.size (by rfl) (.tmp 38) (.tmp 42) 26 3 (.int .i64 0) 8 rfl Tryz.underlying26 info3 rfl (by decide) (by omega) (.slice A258_0 (rd_L2 y255 (rd (rd_L2 l0 x9_1) 1)).length c258_0) (rd_L2 y255 (rd (rd_L2 l0 x9_1) 1)) (wrap64 ((wrap64 (2 * x9_1)) + 1)) [.int .i64 (wrap64 ((wrap64 (2 * x9_1)) + 1))] (fun k_ => oki27 k_ ∨ ((fun _ => True)) k_ ∧ w26.heap.size ≤ k_) (fun _ => False) rfl rfl ?aP (fun _ hk => hk.elim) ?aF ?aO ?aB ?aS ?aL ?_
     (case aP => exact rfl)
     (case aB => exact tb)
     (case aF => exact (fun k_ hk => .inr ⟨trivial, hk⟩))
     (case aO => exact (R_l (Kd.R_mono UU27.out (fun _ hk => .inl hk))))
     (case aS => exact (below_size tb))
     (case aL => have := LMc16.out; omega)
     intro v260 w28 ho hb hg hat
     (first | have HS2_ := cell_grown hg (hHeld.2.2) (by first | (rw [add_block]; exact (fun e_ => ((HL258_0.out.1 _ e_.symm).2) rfl)) | (show some (Addr.add _ _).block ≠ _; rw [add_block]; exact (fun e_ => ((HL258_0.out.1 _ e_.symm).2) rfl)) | exact (fun e_ => ((HL258_0.out.1 _ e_.symm).2) rfl)) | have HS2_ := cell_grown hg (cell_unalloc (hHeld.2.2) (by first | (rw [add_block]; exact Kd.S_lt HO_3.out _ rfl) | (show (Addr.add _ _).block < _; rw [add_block]; exact Kd.S_lt HO_3.out _ rfl) | exact Kd.S_lt HO_3.out _ rfl)) (by first | (rw [add_block]; exact (fun e_ => ((HL258_0.out.1 _ e_.symm).2) rfl)) | (show some (Addr.add _ _).block ≠ _; rw [add_block]; exact (fun e_ => ((HL258_0.out.1 _ e_.symm).2) rfl)) | exact (fun e_ => ((HL258_0.out.1 _ e_.symm).2) rfl)))
     rw [← Ny259.out] at ho
     replace HB := Aside0.mk (hb); replace HH27 := Aside0.mk (Kd.H_grown (Kd.H_widen (by repeat (first | exact HH27.out | refine Kd.H_alloc ?_ _ | refine Kd.H_drewN ?_ _ | refine Kd.H_drew ?_))) hg (fun k_ e_ => .inl (UU27.out.1 k_ e_))); have HO261 := Aside0.mk (ho); clear HO_3 UU27 HL258_0
     clear ho hb hg hat
     have p17 : 0 ≤ ((rd (rd_L2 l0 x9_1) 1) : Int) := dT
     have q17 : ((rd (rd_L2 l0 x9_1) 1) : Int) < ((x3_1.length : Int) : Int) := dT
     replace p17 := eq_true p17
     replace q17 := eq_true q17
     obtain ⟨Ao31, co31, eo31⟩ := Kd.R_slice HO261.out
     (first | subst eo31 | (injection eo31 with f1_ f2_ f3_; have f4_ := f1_.symm; have f5_ := f3_.symm; clear f1_ f2_ f3_; subst f4_; subst f5_))
     obtain ⟨_, _, hraw29, _, _, hcc29, _⟩ := Kd.H_raw HH27.out dT (by have h_ : ((rd (rd_L2 l0 x9_1) 1) : Int) < ((x3_1.length : Int) : Int) := dT; first | exact h_ | (have e_ := (HN27.out); omega) | simpa using h_)
     obtain ⟨_, hfr29⟩ := Kd.H_at HH27.out dT (by have h_ : ((rd (rd_L2 l0 x9_1) 1) : Int) < ((x3_1.length : Int) : Int) := dT; first | exact h_ | (have e_ := (HN27.out); omega) | simpa using h_)
     have hx29_0 := hcc29 0 _ rfl
     have hf29_0 := hfr29 0
     (try simp only [Nat.add_zero] at hx29_0 hf29_0)
     (try rw [show ((Kd.slice 3 (Kd.int .i64))).sz = 1 from rfl, Nat.mul_one] at hx29_0)
     (try rw [show ((Kd.slice 3 (Kd.int .i64))).sz = 1 from rfl, Nat.mul_one] at hf29_0)
     have HP29 := Kd.S_seg0 HH27.out dT (by have h_ : ((rd (rd_L2 l0 x9_1) 1) : Int) < ((x3_1.length : Int) : Int) := dT; first | exact h_ | (have e_ := (HN27.out); omega) | simpa using h_) (seg := [.slice Ao31 y259.length co31]) (j := 0) (show 1 ≤ 1 from by decide) (x' := y259) (Kd.M_row HO261.out) (fun _ hk => hk)
     (try simp only [show ((Kd.slice 3 (Kd.int .i64))).sz = 1 from rfl, Nat.mul_one, Nat.add_zero] at HP29)
     clear hcc29 hfr29
     have HS29 := HP29.1
     rw [← Ny262.out] at HS29
     have HQ29 := Aside0.mk HS29
     obtain ⟨_, hgg29⟩ := Kd.R_typed hraw29 go20 rfl
     have GG29_ := Aside0.mk hgg29
     clear HP29 HS29 hgg29
     refine hK.out _ _ ⟨((HB.out.cell (World.block_lt_of_cell? w _ hw256_0)).trans hw256_0), ((HB.out.cell (World.block_lt_of_cell? w _ hw257_0)).trans hw257_0), HS2_⟩ (fun hHeld => ?_)
     clear hK K
     refine norm_ (a' := ?_) ?_ ?_
     rotate_left
     ·show Act.put _ (some 43) _ = _
      simp only [Act.put, List.setIfInBounds_toArray, List.set_cons_zero, List.set_cons_succ, i64_w, i32_w]
      rfl
     refine pu_ 15 (some 44) ?_
     refine last_ (i := 16) (N := none) #[true, true, true, true, true, true, true, true, true, true, true, true, true, true, true, true, true] rfl rfl (one_of HT_.out (by kernel_rfl)) (by decide) (fun K hK => ?_)
     refine skip_ (w1 := ?_) (by rfl) rfl ?_ ?_
     rotate_left
     ·go_simp
      rfl
     refine hK.out _ _ ?_
     clear hK K
     refine done_ (done_of HT_.out (by kernel_rfl)) ?_
     try go_wp2
     go_roundg k1
     case measure => exact oK
     case rel => exact ⟨(y262), (wrap64 (x9_1 + 1)), rS, H', ⟨oK⟩, ⟨HQ29.out⟩, ⟨tG1 GB20.out⟩⟩
    ·obtain rfl := Option.some.inj H
     go_wp2
     go_ret
     exact ⟨_, rE, S_l HO_3.out, tb⟩
 ·rw [if_neg c2] at H
  exact absurd H (by simp)

end Go.Proofs.YtafpbabiahjjaaaGreatDoor.PFnGraphs
