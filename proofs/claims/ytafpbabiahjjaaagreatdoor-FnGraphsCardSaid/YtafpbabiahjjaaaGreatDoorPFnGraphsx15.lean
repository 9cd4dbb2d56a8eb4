import Derived.Test.YtafpbabiahjjaaaGreatDoorWSpanB
import Derived.Test.YtafpbabiahjjaaaGreatDoorPFnGraphsx0
import Derived.Test.YtafpbabiahjjaaaGreatDoorPFnGraphsx14
namespace Go.Proofs.YtafpbabiahjjaaaGreatDoor.PFnGraphs
open Go.RowKit Go.Proofs.YtafpbabiahjjaaaGreatDoorW.PrintWords Go.Proofs.YtafpbabiahjjaaaGreatDoorW.PrintLast Go.Proofs.YtafpbabiahjjaaaGreatDoorW.PrintMore
attribute [local go_sem] max2_int min2_int max_two min_two max_three min_three max_four min_four   -- for this text's walks alone
set_option linter.unusedVariables false
set_option linter.unusedSimpArgs false

/-! ### spec_l3Find: function 88 -/
def spec_l3Find.l0 : Nat → List Int → Int → Option (Int)
 | 0, _, _ => none
 | k + 1, x0, x1 => if 0 ≤ x1 then (if x1 < (x0.length : Int) then (if (rd x0 x1) = x1 then (some x1) else (spec_l3Find.l0 k x0 (rd x0 x1))) else (none)) else (none)
def spec_l3Find.f (k : Nat) (l0 : List Int) (a1 : Int) : Option (Int) := spec_l3Find.l0 k l0 a1
set_option maxHeartbeats 8000000 in
set_option maxRecDepth 100000 in
theorem spec_l3Find.calls (k : Nat) (A0 : Option Addr) (c0 : Nat) (l0 : List Int) (a1 : Int) (r : Int) (w : World) (hr0 : Kd.C (Kd.int .i64) w A0 l0.length l0) (hc0 : l0.length ≤ c0) (h : spec_l3Find.f k l0 a1 = some r) :
  Calls Tryz.prog 88 #[.slice A0 l0.length c0, .int .i64 a1] w fun e w' => e = .returned (.int .i64 r) ∧ Drawn0 w w' := by
 have HR0 := Aside0.mk hr0
 have HC0 := Aside0.mk hc0
 clear hr0 hc0
 have H : (spec_l3Find.l0 k l0 a1) = some r := h
 clear h
 have H' := Aside0.mk H
 clear H
 go_enter Tryz.func88, Tryz.ntmps88
 go_wp2
 go_loopg [1] k (fun kq v1 w' => ∃ (x1_1 : Int), v1 = .int .i64 x1_1 ∧ Aside0 (spec_l3Find.l0 kq l0 x1_1 = some r) ∧ Aside0 (kq ≤ k) ∧ Drawn0 w w')
 case atStart => exact ⟨(a1), rS, H', ⟨Nat.le_refl _⟩, tD⟩
 case round =>
  clear H'
  try clear p2
  obtain ⟨x1_1, rfl, HA, HK1, ⟨m1, rfl⟩⟩ := hrel
  cases gk with
  | zero => exact absurd HA.out (by simp [spec_l3Find.l0])
  | succ k1 =>
   have H := HA.out
   clear HA
   simp only [spec_l3Find.l0] at H
   by_cases c3 : 0 ≤ x1_1
   ·rw [if_pos c3] at H
    have c3b0 : decide (0 ≤ x1_1) = true := decide_eq_true c3
    clear c3
    obtain ⟨c4b0, H⟩ := gdt H
    by_cases c5 : (rd l0 x1_1) = x1_1
    ·rw [if_pos c5] at H
     have c5b0 : ((rd l0 x1_1) == x1_1) = true := beq_iff_eq.mpr c5
     have c5b1 : ((rd l0 x1_1) != x1_1) = false := bne_eq_false_iff_eq.mpr c5
     clear c5
     obtain rfl := Option.some.inj H
     have p520 : 0 ≤ (x1_1 : Int) := dT
     have q520 : x1_1 < (l0.length : Int) := dT
     obtain ⟨ad520, e520, hx520_0⟩ := Kd.at_int HR0.out x1_1 p520 q520
     cases e520
     replace p520 := eq_true p520
     replace q520 := eq_true q520
     go_wp2
     go_ret
     exact ⟨rS, tD⟩
    ·rw [if_neg c5] at H
     have c5b0 : ((rd l0 x1_1) == x1_1) = false := beq_eq_false_iff_ne.mpr c5
     have c5b1 : ((rd l0 x1_1) != x1_1) = true := bne_iff_ne.mpr c5
     have H' := Aside0.mk H
     clear H
     have p520 : 0 ≤ (x1_1 : Int) := dT
     have q520 : x1_1 < (l0.length : Int) := dT
     obtain ⟨ad520, e520, hx520_0⟩ := Kd.at_int HR0.out x1_1 p520 q520
     cases e520
     replace p520 := eq_true p520
     replace q520 := eq_true q520
     have p521 : 0 ≤ (x1_1 : Int) := dT
     have q521 : x1_1 < (l0.length : Int) := dT
     obtain ⟨ad521, e521, hx521_0⟩ := Kd.at_int HR0.out x1_1 p521 q521
     obtain rfl : ad520 = ad521 := (by injection e521)
     replace p521 := eq_true p521
     replace q521 := eq_true q521
     go_wp2
     go_roundg k1
     case measure => exact oK
     case rel => exact ⟨(rd l0 x1_1), rS, H', ⟨oK⟩, tD⟩
   ·rw [if_neg c3] at H
    exact absurd H (by simp)

/-! ### spec_l6Mate: function 89 -/
def spec_l6Mate.f (a0 : Int) : Option (Int) := some (wrap64 ((wrap64 (a0 + 1)) - (wrap64 (2 * (Int.tmod a0 2)))))
set_option maxHeartbeats 8000000 in
set_option maxRecDepth 100000 in
theorem spec_l6Mate.calls (a0 : Int) (r : Int) (w : World) (h : spec_l6Mate.f a0 = some r) :
  Calls Tryz.prog 89 #[.int .i64 a0] w fun e w' => e = .returned (.int .i64 r) ∧ Drawn0 w w' := by
 have H : (some (wrap64 ((wrap64 (a0 + 1)) - (wrap64 (2 * (Int.tmod a0 2)))))) = some r := h
 clear h
 obtain rfl := Option.some.inj H
 go_enter Tryz.func89, Tryz.ntmps89
 go_wp2
 go_ret
 exact ⟨rS, tD⟩

/-! ### spec_l1Bit: function 90 -/
def spec_l1Bit.f (a0 : Bool) : Option (Int) := if a0 = true then (some 1) else (some 0)
set_option maxHeartbeats 8000000 in
set_option maxRecDepth 100000 in
theorem spec_l1Bit.calls (a0 : Bool) (r : Int) (w : World) (h : spec_l1Bit.f a0 = some r) :
  Calls Tryz.prog 90 #[.bool a0] w fun e w' => e = .returned (.int .i64 r) ∧ Drawn0 w w' := by
 have H : (if a0 = true then (some 1) else (some 0)) = some r := h
 clear h
 by_cases c2 : a0 = true
 ·subst c2
  rw [if_pos rfl] at H
  obtain rfl := Option.some.inj H
  go_enter Tryz.func90, Tryz.ntmps90
  go_wp2
  go_ret
  exact ⟨rS, tD⟩
 ·replace c2 := Bool.eq_false_iff.mpr c2
  subst c2
  rw [if_neg (show ¬ (false = true) by decide)] at H
  obtain rfl := Option.some.inj H
  go_enter Tryz.func90, Tryz.ntmps90
  go_wp2
  go_ret
  exact ⟨rS, tD⟩

/-! ### spec_l6Parts: function 77 -/
mutual
def spec_l6Parts.l0 : Nat → List Int → List Int → Int → Option (Int)
 | 0, _, _, _ => none
 | k + 1, x0, x3, x4 => if x4 < (x0.length : Int) then (if x3.length < 17592186044416 then (spec_l6Parts.l0 k x0 (x3 ++ [x4]) (wrap64 (x4 + 1))) else (none)) else (spec_l6Parts.l1 k x0 x3 0)
def spec_l6Parts.l1 : Nat → List Int → List Int → Int → Option (Int)
 | 0, _, _, _ => none
 | k + 1, x0, x3, x5 => if x5 < (x0.length : Int) then ((spec_l3Find.f k x3 x5).bind fun t528 => (if 0 ≤ x5 then ((spec_l3Find.f k x3 (rd x0 x5)).bind fun t530 => (if 0 ≤ t528 then (if t528 < (x3.length : Int) then ((some (x3.set (t528 : Int).toNat t530 : List Int)).bind fun y531 => ((spec_l3Find.f k y531 x5).bind fun t532 => ((spec_l6Mate.f x5).bind fun t533 => ((spec_l3Find.f k y531 t533).bind fun t534 => (if 0 ≤ t532 then (if t532 < (x3.length : Int) then (spec_l6Parts.l1 k x0 (y531.set (t532 : Int).toNat t534) (wrap64 (x5 + 1))) else (none)) else (none)))))) else (none)) else (none))) else (none))) else (spec_l6Parts.l2 k x0 x3 0 0)
def spec_l6Parts.l2 : Nat → List Int → List Int → Int → Int → Option (Int)
 | 0, _, _, _, _ => none
 | k + 1, x0, x3, x6, x7 => if x7 < (x0.length : Int) then (if 0 ≤ x7 then (if x7 < (x3.length : Int) then ((spec_l1Bit.f ((rd x3 x7) == x7)).bind fun t537 => (spec_l6Parts.l2 k x0 x3 (wrap64 (x6 + t537)) (wrap64 (x7 + 1)))) else (none)) else (none)) else (some x6)
end
def spec_l6Parts.f (k : Nat) (l0 : List Int) : Option (Int) := spec_l6Parts.l0 k l0 (([] : List Int)) 0
def spec_l6Parts.T9 : Bool × List (List Nat × List Nat) := (true, [([], []), ([], []), ([], []), ([1, 2], [1, 2]), ([], []), ([], []), ([], []), ([5, 6], [5, 6]), ([7], [7]), ([4, 8, 3], [4, 8]), ([0, 3, 0, 1, 2, 3, 4, 5, 6, 7, 8, 9], [0, 3]), ([10, 9, 9, 0, 1, 2, 3, 4, 5, 6, 7, 8, 9], [9, 10])])
def spec_l6Parts.B9 : List Nat := [0, 0, 0, 6, 0, 0, 0, 96, 224, 510, 1023, 2047]
theorem spec_l6Parts.tab9 : rtab .any (opsOf Tryz.f77 9) = spec_l6Parts.T9 := by kernel_rfl
theorem spec_l6Parts.bits9 : waitsOk spec_l6Parts.T9.2 spec_l6Parts.B9 = true := by kernel_rfl
set_option maxHeartbeats 8000000 in
set_option maxRecDepth 100000 in
theorem spec_l6Parts.calls (k : Nat) (A0 : Option Addr) (c0 : Nat) (l0 : List Int) (r : Int) (w : World) (hr0 : Kd.C (Kd.int .i64) w A0 l0.length l0) (hc0 : l0.length ≤ c0) (h : spec_l6Parts.f k l0 = some r) :
  Calls Tryz.prog 77 #[.slice A0 l0.length c0] w fun e w' => e = .returned (.int .i64 r) ∧ Below w.heap.size w w' := by
 have HR0 := Aside0.mk hr0
 have HC0 := Aside0.mk hc0
 clear hr0 hc0
 have HB := Aside0.mk (Below.refl w.heap.size w)
 have H : (spec_l6Parts.l0 k l0 (([] : List Int)) 0) = some r := h
 clear h
 generalize hy522 : (([] : List Int) : List Int) = y522 at H
 have Ny522 := Aside0.mk hy522.symm; clear hy522
 have H' := Aside0.mk H
 clear H
 go_enter Tryz.func77, Tryz.ntmps77
 go_wp2_with (first | ((with_reducible refine gate_dst (N := 8) rfl ?_); refine Kd.R_lit (Kd.int .i64) _ 3 ?hg (N := 8) ?hd (xs := ([] : List Int)) (inner := []) (ok := fun _ => True) (okp := fun _ => True) ?hr ?hp (fun _ hk => hk) trivial (Below.refl _ _) (Nat.le_refl _) (by simp) ?_; (case hd => rfl); (case hg => rfl); (case hr => exact gS); (case hp => exact (Reps.none _ _)); intro v523 w2 ho3 hb hg_ hnew_; clear hg_ hnew_; (first | rw [← Ny522.out] at ho3 | (simp only [Int.reduceToNat] at ho3; rw [← Ny522.out] at ho3)); have HO524 := Aside0.mk (Kd.R_lower ho3 (below_size tb)); replace HB := Aside0.mk (below_step tb hb); clear hb ho3))
 go_loopg [3, 4] k (fun kq v3 v4 w' => ∃ (x3_1 : List Int) (x4_1 : Int), v4 = .int .i64 x4_1 ∧ Aside0 (spec_l6Parts.l0 kq l0 x3_1 x4_1 = some r) ∧ Aside0 (kq ≤ k) ∧ Aside0 (Kd.R (Kd.int .i64) 3 w' w.heap.size (fun _ => True) v3 x3_1) ∧ Aside0 (Below w.heap.size w w'))
 case atStart => exact ⟨(y522), (0), rS, H', ⟨Nat.le_refl _⟩, ⟨R_l HO524.out⟩, ⟨tb⟩⟩
 case round =>
  clear H'
  try clear p2
  obtain ⟨x3_1, x4_1, rfl, HA, HK1, HO_3, HB⟩ := hrel
  cases gk with
  | zero => exact absurd HA.out (by simp [spec_l6Parts.l0])
  | succ k1 =>
   have H := HA.out
   clear HA
   simp only [spec_l6Parts.l0] at H
   obtain ⟨c4b0, H⟩ | ⟨c4b0, H⟩ := gi H
   ·obtain ⟨LMc5, H⟩ := gda H
    generalize hy525 : (x3_1 ++ [x4_1] : List Int) = y525 at H
    have Ny525 := Aside0.mk hy525.symm; clear hy525
    have H' := Aside0.mk H
    clear H
    go_wp2_with (first | ((with_reducible refine gate_builtin (b := .append) (xs := #[.tmp 15, .tmp 17]) rfl ?_); at_builtin; refine Kd.R_append (Kd.int .i64) (w0 := w) w.heap.size rfl (.tmp 15) (.tmp 17) 26 3 (.int .i64 0) 8 rfl Tryz.underlying26 info3 rfl (by decide) (by omega) u3 x3_1 x4_1 [.int .i64 x4_1] (fun _ => True) (fun _ => False) rfl rfl ?aP (fun _ hk => hk.elim) ?aF ?aO ?aB ?aS ?aL ?_; (case aP => exact rfl); (case aB => exact tb); (case aF => exact (fun _ _ => trivial)); (case aO => exact (R_l HO_3.out)); (case aS => exact (below_size tb)); (case aL => have := LMc5.out; omega); intro v526 w6 ho hb hg hat; rw [← Ny525.out] at ho; replace HB := Aside0.mk (hb); have HO527 := Aside0.mk (ho); clear HO_3; clear ho hb hg hat))
    go_roundg k1
    case measure => exact oK
    case rel => exact ⟨(y525), (wrap64 (x4_1 + 1)), rS, H', ⟨oK⟩, ⟨R_l HO527.out⟩, ⟨tb⟩⟩
   ·have H' := Aside0.mk H
    clear H
    go_wp2
    go_loopg [5] k1 (fun kq v5 w' => ∃ (x3_2 : List Int) (x5_2 : Int), v5 = .int .i64 x5_2 ∧ Aside0 (spec_l6Parts.l1 kq l0 x3_2 x5_2 = some r) ∧ Aside0 (kq ≤ k1) ∧ Aside0 (Kd.R (Kd.int .i64) 3 w' w.heap.size (fun _ => True) u3 x3_2) ∧ Aside0 (Below w.heap.size w w'))
    case atStart => exact ⟨(x3_1), (0), rS, H', ⟨Nat.le_refl _⟩, ⟨R_l HO_3.out⟩, ⟨tb⟩⟩
    case round =>
     clear H'
     try clear p2
     try clear c4
     try clear c4b0
     try clear c5
     try clear p6
     try clear p2
     obtain ⟨x3_2, x5_2, rfl, HA, HK2, HO_3, HB⟩ := hrel
     cases gk with
     | zero => exact absurd HA.out (by simp [spec_l6Parts.l1])
     | succ k2 =>
      have H := HA.out
      clear HA
      simp only [spec_l6Parts.l1] at H
      obtain ⟨c7b0, H⟩ | ⟨c7b0, H⟩ := gi H
      ·obtain ⟨t528, A8, H⟩ := bs H
       obtain ⟨c9b0, H⟩ := gdt H
       obtain ⟨t530, A10, H⟩ := bs H
       obtain ⟨c11b0, H⟩ := gdt H
       obtain ⟨c12b0, H⟩ := gdt H
       obtain ⟨y531, Ny531, H⟩ := bn H
       obtain ⟨t532, A14, H⟩ := bs H
       obtain ⟨t533, A15, H⟩ := bs H
       obtain ⟨t534, A16, H⟩ := bs H
       obtain ⟨c17b0, H⟩ := gdt H
       obtain ⟨c18b0, H⟩ := gdt H
       generalize hy535 : (y531.set (t532 : Int).toNat t534 : List Int) = y535 at H
       have Ny535 := Aside0.mk hy535.symm; clear hy535
       have H' := Aside0.mk H
       clear H
       try go_wp2
       replace HO_3 := Aside0.mk (Kd.R_drew HO_3.out); replace HB := Aside0.mk (below_drew1 HB.out)
       have p529 : 0 ≤ (x5_2 : Int) := dT
       have q529 : x5_2 < (l0.length : Int) := dT
       obtain ⟨ad529, e529, hx529_0⟩ := Kd.at_int HR0.out x5_2 p529 q529
       have hw529_0 := hx529_0
       cases e529
       replace hx529_0 := cB HB hx529_0
       replace p529 := eq_true p529
       replace q529 := eq_true q529
       obtain ⟨Ao21, co21, eo21⟩ := Kd.R_slice HO_3.out
       (first | subst eo21 | (injection eo21 with f1_ f2_ f3_; have f4_ := f1_.symm; have f5_ := f3_.symm; clear f1_ f2_ f3_; subst f4_; subst f5_))
       refine start_ (n := 12) (S := fun w' => w'.cell? (ad529.add (x5_2).toNat) = some (.int .i64 (rd l0 x5_2))) (ds := [11]) #[false, false, false, false, false, false, false, false, false, false, false, false] (by kernel_rfl) rfl rfl (((HB.out.cell (World.block_lt_of_cell? w _ hw529_0)).trans hw529_0)) (fun hHeld => ?_); refine with_tabW spec_l6Parts.tab9 spec_l6Parts.bits9 (fun HT_ HW_ => ?_)
       generalize wr.drew = w20 at HO_3 HB hx529_0 hHeld ⊢
       refine pu_ 0 (some 25) ?_
       refine pu_ 1 (some 26) ?_
       refine pu_ 2 (some 27) ?_
       refine pu_ 4 (some 29) ?_
       refine pu_ 5 (some 30) ?_
       refine pu_ 6 (some 31) ?_
       refine pu_ 7 (some 32) ?_
       refine take_ (i := 8) (N := some 33) (v := ?_) (a' := ?_) #[true, true, true, false, true, true, true, true, true, false, false, false] rfl rfl (take_ofW HT_.out HW_.out (by kernel_rfl)) (fun _ _ _ h => h) (Or.inl ⟨by rfl, ?_⟩) hHeld ?_ ?_
       rotate_left
       ·intro w' s0
        go_simp
        with_reducible rfl
       rotate_left
       ·simp only [Act.put, List.setIfInBounds_toArray, List.set_cons_zero, List.set_cons_succ, i64_w, i32_w]
        rfl
       refine one_ (i := 3) (N := some 28) #[true, true, true, true, true, true, true, true, true, false, false, false] rfl rfl (one_of HT_.out (by kernel_rfl)) (by decide) (fun K hK => ?_)
       refine goes_ Tryz.func88 (by kernel_rfl) rfl #[.slice Ao21 x3_2.length co21, .int .i64 x5_2] (by rfl) rfl rfl mp_ ?_
       with_reducible refine (spec_l3Find.calls k2 _ _ x3_2 x5_2 t528 _ ?side1 ?side2 A8.out).mono ?_
       (case side1 => exact C_l ((Kd.R_reads' HO_3.out).2.2))
       (case side2 => exact (Kd.R_reads' HO_3.out).2.1)
       rintro e w' ⟨rfl, ⟨nda, rfl⟩⟩
       refine ⟨_, rfl, ?_⟩
       refine hK.out _ _ (((HB.out.cell (World.block_lt_of_cell? w _ hw529_0)).trans hw529_0)) (fun hHeld => ?_)
       clear hK K
       refine norm_ (a' := ?_) ?_ ?_
       rotate_left
       ·show Act.put _ (some 28) _ = _
        simp only [Act.put, List.setIfInBounds_toArray, List.set_cons_zero, List.set_cons_succ, i64_w, i32_w]
        rfl
       refine one_ (i := 9) (N := some 34) #[true, true, true, true, true, true, true, true, true, true, false, false] rfl rfl (one_of HT_.out (by kernel_rfl)) (by decide) (fun K hK => ?_)
       refine goes_ Tryz.func88 (by kernel_rfl) rfl #[.slice Ao21 x3_2.length co21, .int .i64 (rd l0 x5_2)] (by rfl) rfl rfl mp_ ?_
       with_reducible refine (spec_l3Find.calls k2 _ _ x3_2 (rd l0 x5_2) t530 _ ?side1 ?side2 A10.out).mono ?_
       (case side1 => exact C_l ((Kd.R_reads' HO_3.out).2.2))
       (case side2 => exact (Kd.R_reads' HO_3.out).2.1)
       rintro e w' ⟨rfl, ⟨ndb, rfl⟩⟩
       refine ⟨_, rfl, ?_⟩
       have p13 : 0 ≤ (t528 : Int) := dT
       have q13 : (t528 : Int) < ((x3_2.length : Int) : Int) := dT
       obtain ⟨go13, co13, eo13, gb13, gl13, cl13, HG13⟩ := Kd.R_form HO_3.out (by omega)
       (first | cases eo13 | (injection eo13 with ea_ en_ ec_; (first | subst ea_ | (injection ea_ with ea_; subst ea_)); subst ec_; clear en_))
       have GB13 := Aside0.mk gb13
       have GG13 := Aside0.mk HG13
       clear gb13 gl13 HG13
       obtain ⟨hx13_0, hf13_0⟩ := Kd.R_celln 0 HO_3.out (t528 : Int) p13 q13
       replace p13 := eq_true p13
       replace q13 := eq_true q13
       have HP22 := Kd.R_putn HO_3.out (t528 : Int) t530
       rw [← Ny531.out] at HP22
       have HQ22 := Aside0.mk HP22
       clear HP22
       refine hK.out _ _ (((HB.out.cell (World.block_lt_of_cell? w _ hw529_0)).trans hw529_0)) (fun hHeld => ?_)
       clear hK K
       refine norm_ (a' := ?_) ?_ ?_
       rotate_left
       ·show Act.put _ (some 34) _ = _
        simp only [Act.put, List.setIfInBounds_toArray, List.set_cons_zero, List.set_cons_succ, i64_w, i32_w]
        rfl
       refine pu_ 10 (some 35) ?_
       refine last_ (i := 11) (N := none) #[true, true, true, true, true, true, true, true, true, true, true, true] rfl rfl (one_of HT_.out (by kernel_rfl)) (by decide) (fun K hK => ?_)
       refine skip_ (w1 := ?_) (by rfl) rfl ?_ ?_
       rotate_left
       ·go_simp
        rfl
       refine hK.out _ _ ?_
       clear hK K
       refine done_ (done_of HT_.out (by kernel_rfl)) ?_
       have n0_ : Aside0 (Kd.R (Kd.int .i64) 3 ((w20.drewN (nda + ndb)).setCell ⟨go13, (t528 : Int).toNat, none⟩ (.int .i64 t530)) w.heap.size (fun _ => True) (.slice (some ⟨go13, 0, none⟩) x3_2.length co21) y531) := ⟨Kd.R_drewN HQ22.out (nda + ndb)⟩
       have n1_ : Aside0 (Below w.heap.size w ((w20.drewN (nda + ndb)).setCell ⟨go13, (t528 : Int).toNat, none⟩ (.int .i64 t530))) := ⟨pw_below_drewN (below_set HB.out GB13.out) (nda + ndb)⟩
       (try clear HO_3)
       (try clear HB)
       generalize ((w20.drewN (nda + ndb)).setCell ⟨go13, (t528 : Int).toNat, none⟩ (.int .i64 t530)) = w23 at n0_ n1_ ⊢
       have HO_3 := n0_
       have HB := n1_
       clear n0_ n1_
       try go_wp2_with (first | ((with_reducible refine gate_callee (f := 88) rfl ?_); refine goesL_ (some 39) rfl rfl Tryz.func88 (by kernel_rfl) rfl #[.slice (some ⟨go13, 0, none⟩) y531.length co21, .int .i64 x5_2] rfl (by (try simp only [List.map_toArray, List.map_cons, List.map_nil]); first | done | (rw [show y531.length = x3_2.length from (Kd.R_reads' HO_3.out).1.symm] <;> rfl) | rfl | (simp only [List.length_drop, List.length_take]; rfl)) ?_; (with_reducible refine (spec_l3Find.calls k2 _ _ y531 x5_2 t532 _ ?side1 ?side2 A14.out).mono ?_); (case side1 => exact C_l ((Kd.R_reads' HO_3.out).2.2)); (case side2 => rw [show y531.length = x3_2.length from (Kd.R_reads' HO_3.out).1.symm]; exact (Kd.R_reads' HO_3.out).2.1); rintro e w' ⟨rfl, ⟨nd, rfl⟩⟩; refine ⟨_, rfl, ?_⟩; (try (rw [drewN_self w23]; generalize hq_ : World.drewN w23 _ = w23; have n0_ : Aside0 (Kd.R (Kd.int .i64) 3 w23 w.heap.size (fun _ => True) (.slice (some ⟨go13, 0, none⟩) x3_2.length co21) y531) := ⟨by rw [← hq_]; exact (R_l HO_3.out)⟩; have n1_ : Aside0 (Below w.heap.size w w23) := ⟨by rw [← hq_]; exact tb⟩; clear HO_3 HB hq_; have HO_3 := n0_; have HB := n1_; clear n0_ n1_))) | ((with_reducible refine gate_callee (f := 89) rfl ?_); refine goesL_ (some 42) rfl rfl Tryz.func89 (by kernel_rfl) rfl #[.int .i64 x5_2] rfl mp_ ?_; (with_reducible refine (spec_l6Mate.calls x5_2 t533 _ A15.out).mono ?_); rintro e w' ⟨rfl, ⟨nd, rfl⟩⟩; refine ⟨_, rfl, ?_⟩; (try (rw [drewN_self w23]; generalize hq_ : World.drewN w23 _ = w23; have n0_ : Aside0 (Kd.R (Kd.int .i64) 3 w23 w.heap.size (fun _ => True) (.slice (some ⟨go13, 0, none⟩) x3_2.length co21) y531) := ⟨by rw [← hq_]; exact (R_l HO_3.out)⟩; have n1_ : Aside0 (Below w.heap.size w w23) := ⟨by rw [← hq_]; exact tb⟩; clear HO_3 HB hq_; have HO_3 := n0_; have HB := n1_; clear n0_ n1_))) | ((with_reducible refine gate_callee (f := 88) rfl ?_); refine goesL_ (some 43) rfl rfl Tryz.func88 (by kernel_rfl) rfl #[.slice (some ⟨go13, 0, none⟩) y531.length co21, .int .i64 t533] rfl (by (try simp only [List.map_toArray, List.map_cons, List.map_nil]); first | done | (rw [show y531.length = x3_2.length from (Kd.R_reads' HO_3.out).1.symm] <;> rfl) | rfl | (simp only [List.length_drop, List.length_take]; rfl)) ?_; (with_reducible refine (spec_l3Find.calls k2 _ _ y531 t533 t534 _ ?side1 ?side2 A16.out).mono ?_); (case side1 => exact C_l ((Kd.R_reads' HO_3.out).2.2)); (case side2 => rw [show y531.length = x3_2.length from (Kd.R_reads' HO_3.out).1.symm]; exact (Kd.R_reads' HO_3.out).2.1); rintro e w' ⟨rfl, ⟨nd, rfl⟩⟩; refine ⟨_, rfl, ?_⟩; (try (rw [drewN_self w23]; generalize hq_ : World.drewN w23 _ = w23; have n0_ : Aside0 (Kd.R (Kd.int .i64) 3 w23 w.heap.size (fun _ => True) (.slice (some ⟨go13, 0, none⟩) x3_2.length co21) y531) := ⟨by rw [← hq_]; exact (R_l HO_3.out)⟩; have n1_ : Aside0 (Below w.heap.size w w23) := ⟨by rw [← hq_]; exact tb⟩; clear HO_3 HB hq_; have HO_3 := n0_; have HB := n1_; clear n0_ n1_)); have p19 : 0 ≤ (t532 : Int) := dT; have q19 : (t532 : Int) < ((x3_2.length : Int) : Int) := dT; obtain ⟨hx19_0, hf19_0⟩ := Kd.R_celln 0 HO_3.out (t532 : Int) p19 q19; replace p19 := eq_true p19; replace q19 := eq_true q19; obtain ⟨hy24_, hz24_⟩ := Kd.R_celln 0 HO_3.out (t532 : Int) dT dT; have HP24 := Kd.R_putg HO_3.out (t532 : Int) t534) | ((with_reducible refine gate_store (t := 3) (p := 44) rfl ?_); refine store_event (t := 3) (p := 44) (v := ?vo_w25) (w1 := (w23.setCell ⟨go13, (t532 : Int).toNat, none⟩ (.int .i64 t534))) ?hg ?ho ?hn ?hr ?_; (case ho => rfl); (case hg => rfl); (case hn => rfl); (case hr => exact gS); intro w25 hw; have hg : w23.grownBy w25 (some go13) := (by rw [hw]; exact HP24.2); have hp_ : Kd.R (Kd.int .i64) 3 w25 w.heap.size (fun _ => True) (.slice (some ⟨go13, 0, none⟩) x3_2.length co21) y535 := (by rw [hw, Ny535.out]; exact HP24.1); clear HP24; replace HO_3 := Aside0.mk (hp_); replace HB := Aside0.mk ((by rw [hw]; exact below_set (HB.out) GB13.out : Below w.heap.size w w25)); clear hg hw hp_))
       go_roundg k2
       case measure => exact oK
       case rel => exact ⟨(y535), (wrap64 (x5_2 + 1)), rS, H', ⟨oK⟩, ⟨R_l HO_3.out⟩, ⟨tb⟩⟩
      ·have H' := Aside0.mk H
       clear H
       go_wp2
       go_loopg [6, 7] k2 (fun kq v6 v7 w' => ∃ (x6_3 : Int) (x7_3 : Int), v6 = .int .i64 x6_3 ∧ v7 = .int .i64 x7_3 ∧ Aside0 (spec_l6Parts.l2 kq l0 x3_2 x6_3 x7_3 = some r) ∧ Aside0 (kq ≤ k2) ∧ Aside0 (Kd.R (Kd.int .i64) 3 w' w.heap.size (fun _ => True) u3 x3_2) ∧ Aside0 (Below w.heap.size w w'))
       case atStart => exact ⟨(0), (0), rS, rS, H', ⟨Nat.le_refl _⟩, ⟨R_l HO_3.out⟩, ⟨tb⟩⟩
       case round =>
        clear H'
        try clear c1
        try clear p1
        try clear q1
        try clear hx1
        try clear hf1
        try clear p2
        try clear c4
        try clear c4b0
        try clear c5
        try clear p5
        try clear q5
        try clear hx5
        try clear p6
        try clear c7
        try clear c7b0
        try clear c8
        try clear c9
        try clear c9b0
        try clear c11
        try clear c11b0
        try clear c12
        try clear c12b0
        try clear p13
        try clear q13
        try clear hx13
        try clear hf13
        try clear c17
        try clear c17b0
        try clear c18
        try clear c18b0
        try clear p19
        try clear q19
        try clear hx19
        try clear hf19
        try clear hx13_0
        try clear hx19_0
        try clear hx529_0
        try clear p13
        try clear p19
        try clear p2
        try clear p529
        try clear p6
        try clear q13
        try clear q19
        try clear q529
        obtain ⟨x6_3, x7_3, rfl, rfl, HA, HK3, HO_3, HB⟩ := hrel
        cases gk with
        | zero => exact absurd HA.out (by simp [spec_l6Parts.l2])
        | succ k3 =>
         have H := HA.out
         clear HA
         simp only [spec_l6Parts.l2] at H
         obtain ⟨c26b0, H⟩ | ⟨c26b0, H⟩ := gi H
         ·obtain ⟨c27b0, H⟩ := gdt H
          obtain ⟨c28b0, H⟩ := gdt H
          obtain ⟨t537, A29, H⟩ := bs H
          have H' := Aside0.mk H
          clear H
          obtain ⟨Ao30, co30, eo30⟩ := Kd.R_slice HO_3.out
          subst eo30
          have p536 : 0 ≤ (x7_3 : Int) := dT
          have q536 : x7_3 < (x3_2.length : Int) := dT
          obtain ⟨ad536, e536, hx536_0⟩ := Kd.at_int (Kd.R_reads' HO_3.out).2.2 x7_3 p536 q536
          cases e536
          replace p536 := eq_true p536
          replace q536 := eq_true q536
          go_wp2_with (first | ((with_reducible refine gate_callee (f := 90) rfl ?_); refine goesL_ (some 58) rfl rfl Tryz.func90 (by kernel_rfl) rfl #[.bool ((rd x3_2 x7_3) == x7_3)] rfl mp_ ?_; (with_reducible refine (spec_l1Bit.calls ((rd x3_2 x7_3) == x7_3) t537 _ A29.out).mono ?_); rintro e w' ⟨rfl, ⟨nd, rfl⟩⟩; refine ⟨_, rfl, ?_⟩))
          go_roundg k3
          case measure => exact oK
          case rel => exact ⟨(wrap64 (x6_3 + t537)), (wrap64 (x7_3 + 1)), rS, rS, H', ⟨oK⟩, ⟨R_l HO_3.out⟩, ⟨tb⟩⟩
         ·obtain rfl := Option.some.inj H
          go_wp2
          go_ret
          exact ⟨rE, tb⟩

/-! ### spec_l6Dual: function 78 -/
def spec_l6Dual.l0 : Nat → List Int → List Int → Int → Option (List Int)
 | 0, _, _, _ => none
 | k + 1, x0, x3, x4 => if x4 < (x0.length : Int) then ((spec_l6Mate.f x4).bind fun t541 => (if 0 ≤ t541 then (if t541 < (x0.length : Int) then (if x3.length < 17592186044416 then (spec_l6Dual.l0 k x0 (x3 ++ [rd x0 t541]) (wrap64 (x4 + 1))) else (none)) else (none)) else (none))) else (some x3)
def spec_l6Dual.f (k : Nat) (l0 : List Int) : Option (List Int) := spec_l6Dual.l0 k l0 (([] : List Int)) 0
set_option maxHeartbeats 8000000 in
set_option maxRecDepth 100000 in
theorem spec_l6Dual.calls (k : Nat) (A0 : Option Addr) (c0 : Nat) (l0 : List Int) (r : List Int) (w : World) (hr0 : Kd.C (Kd.int .i64) w A0 l0.length l0) (hc0 : l0.length ≤ c0) (h : spec_l6Dual.f k l0 = some r) :
  Calls Tryz.prog 78 #[.slice A0 l0.length c0] w fun e w' => ∃ v0_ : Value, e = .returned (v0_) ∧ Kd.R (Kd.int .i64) 3 w' w.heap.size (fun _ => True) v0_ r ∧ Below w.heap.size w w' := by
 have HR0 := Aside0.mk hr0
 have HC0 := Aside0.mk hc0
 clear hr0 hc0
 have HB := Aside0.mk (Below.refl w.heap.size w)
 have H : (spec_l6Dual.l0 k l0 (([] : List Int)) 0) = some r := h
 clear h
 generalize hy538 : (([] : List Int) : List Int) = y538 at H
 have Ny538 := Aside0.mk hy538.symm; clear hy538
 have H' := Aside0.mk H
 clear H
 go_enter Tryz.func78, Tryz.ntmps78
 go_wp2_with (first | ((with_reducible refine gate_dst (N := 5) rfl ?_); refine Kd.R_lit (Kd.int .i64) _ 3 ?hg (N := 5) ?hd (xs := ([] : List Int)) (inner := []) (ok := fun _ => True) (okp := fun _ => True) ?hr ?hp (fun _ hk => hk) trivial (Below.refl _ _) (Nat.le_refl _) (by simp) ?_; (case hd => rfl); (case hg => rfl); (case hr => exact gS); (case hp => exact (Reps.none _ _)); intro v539 w2 ho3 hb hg_ hnew_; clear hg_ hnew_; (first | rw [← Ny538.out] at ho3 | (simp only [Int.reduceToNat] at ho3; rw [← Ny538.out] at ho3)); have HO540 := Aside0.mk (Kd.R_lower ho3 (below_size tb)); replace HB := Aside0.mk (below_step tb hb); clear hb ho3))
 go_loopg [3, 4] k (fun kq v3 v4 w' => ∃ (x3_1 : List Int) (x4_1 : Int), v4 = .int .i64 x4_1 ∧ Aside0 (spec_l6Dual.l0 kq l0 x3_1 x4_1 = some r) ∧ Aside0 (kq ≤ k) ∧ Aside0 (Kd.R (Kd.int .i64) 3 w' w.heap.size (fun _ => True) v3 x3_1) ∧ Aside0 (Below w.heap.size w w'))
 case atStart => exact ⟨(y538), (0), rS, H', ⟨Nat.le_refl _⟩, ⟨R_l HO540.out⟩, ⟨tb⟩⟩
 case round =>
  clear H'
  try clear p2
  obtain ⟨x3_1, x4_1, rfl, HA, HK1, HO_3, HB⟩ := hrel
  cases gk with
  | zero => exact absurd HA.out (by simp [spec_l6Dual.l0])
  | succ k1 =>
   have H := HA.out
   clear HA
   simp only [spec_l6Dual.l0] at H
   obtain ⟨c4b0, H⟩ | ⟨c4b0, H⟩ := gi H
   ·obtain ⟨t541, A5, H⟩ := bs H
    obtain ⟨c6b0, H⟩ := gdt H
    obtain ⟨c7b0, H⟩ := gdt H
    obtain ⟨LMc8, H⟩ := gda H
    generalize hy543 : (x3_1 ++ [rd l0 t541] : List Int) = y543 at H
    have Ny543 := Aside0.mk hy543.symm; clear hy543
    have H' := Aside0.mk H
    clear H
    go_wp2_with (first | ((with_reducible refine gate_callee (f := 89) rfl ?_); refine goesL_ (some 15) rfl rfl Tryz.func89 (by kernel_rfl) rfl #[.int .i64 x4_1] rfl mp_ ?_; (with_reducible refine (spec_l6Mate.calls x4_1 t541 _ A5.out).mono ?_); rintro e w' ⟨rfl, ⟨nd, rfl⟩⟩; refine ⟨_, rfl, ?_⟩; have p542 : 0 ≤ (t541 : Int) := dT; have q542 : t541 < (l0.length : Int) := dT; obtain ⟨ad542, e542, hx542_0⟩ := Kd.at_int HR0.out t541 p542 q542; cases e542; replace hx542_0 := cB HB hx542_0; replace p542 := eq_true p542; replace q542 := eq_true q542) | ((with_reducible refine gate_builtin (b := .append) (xs := #[.tmp 12, .tmp 18]) rfl ?_); at_builtin; refine Kd.R_append (Kd.int .i64) (w0 := w) w.heap.size rfl (.tmp 12) (.tmp 18) 26 3 (.int .i64 0) 8 rfl Tryz.underlying26 info3 rfl (by decide) (by omega) u3 x3_1 (rd l0 t541) [.int .i64 (rd l0 t541)] (fun _ => True) (fun _ => False) rfl rfl ?aP (fun _ hk => hk.elim) ?aF ?aO ?aB ?aS ?aL ?_; (case aP => exact rfl); (case aB => exact tb); (case aF => exact (fun _ _ => trivial)); (case aO => exact (R_l HO_3.out)); (case aS => exact (below_size tb)); (case aL => have := LMc8.out; omega); intro v544 w9 ho hb hg hat; rw [← Ny543.out] at ho; replace HB := Aside0.mk (hb); have HO545 := Aside0.mk (ho); clear HO_3; clear ho hb hg hat))
    go_roundg k1
    case measure => exact oK
    case rel => exact ⟨(y543), (wrap64 (x4_1 + 1)), rS, H', ⟨oK⟩, ⟨R_l HO545.out⟩, ⟨tb⟩⟩
   ·obtain rfl := Option.some.inj H
    go_wp2
    go_ret
    exact ⟨_, rE, R_l HO_3.out, tb⟩

/-! ### spec_l6Genus: function 63 -/
def spec_l6Genus.f (k : Nat) (l0 : List Int) : Option (Int) := (spec_l6Parts.f k l0).bind fun t546 => ((spec_l6Cycles.f k l0).bind fun t547 => ((spec_l6Dual.f k l0).bind fun t550 => ((spec_l6Cycles.f k t550).bind fun t553 => (some (wrap64 (t546 - (wrap64 (Int.tdiv (wrap64 ((wrap64 ((t547.length : Int) - (wrap64 ((l0.length : Int) / 2)))) + (t553.length : Int))) 2))))))))
set_option maxHeartbeats 8000000 in
set_option maxRecDepth 100000 in
theorem spec_l6Genus.calls (k : Nat) (A0 : Option Addr) (c0 : Nat) (l0 : List Int) (r : Int) (w : World) (hr0 : Kd.C (Kd.int .i64) w A0 l0.length l0) (hc0 : l0.length ≤ c0) (h : spec_l6Genus.f k l0 = some r) :
  Calls Tryz.prog 63 #[.slice A0 l0.length c0] w fun e w' => e = .returned (.int .i64 r) ∧ Below w.heap.size w w' := by
 have HR0 := Aside0.mk hr0
 have HC0 := Aside0.mk hc0
 clear hr0 hc0
 have HB := Aside0.mk (Below.refl w.heap.size w)
 have H : ((spec_l6Parts.f k l0).bind fun t546 => ((spec_l6Cycles.f k l0).bind fun t547 => ((spec_l6Dual.f k l0).bind fun t550 => ((spec_l6Cycles.f k t550).bind fun t553 => (some (wrap64 (t546 - (wrap64 (Int.tdiv (wrap64 ((wrap64 ((t547.length : Int) - (wrap64 ((l0.length : Int) / 2)))) + (t553.length : Int))) 2))))))))) = some r := h
 clear h
 obtain ⟨t546, A2, H⟩ := bs H
 obtain ⟨t547, A3, H⟩ := bs H
 obtain ⟨t550, A4, H⟩ := bs H
 obtain ⟨t553, A5, H⟩ := bs H
 obtain rfl := Option.some.inj H
 go_enter Tryz.func63, Tryz.ntmps63
 go_wp2_with (first | ((with_reducible refine gate_callee (f := 77) rfl ?_); refine goesL_ (some 4) rfl rfl Tryz.func77 (by kernel_rfl) rfl #[.slice A0 l0.length c0] rfl mp_ ?_; (with_reducible refine (spec_l6Parts.calls k _ _ l0 t546 _ ?side1 ?side2 A2.out).mono ?_); (case side1 => exact C_l HR0.out); (case side2 => exact HC0.out); rintro e w6 ⟨rfl, hb⟩; refine ⟨_, rfl, ?_⟩; replace HB := Aside0.mk (below_step tb hb)) | ((with_reducible refine gate_callee (f := 62) rfl ?_); refine goesL_ (some 6) rfl rfl Tryz.func62 (by kernel_rfl) rfl #[.slice A0 l0.length c0] rfl mp_ ?_; (with_reducible refine (spec_l6Cycles.calls k _ _ l0 t547 _ ?side1 ?side2 A3.out).mono ?_); (case side1 => exact C_l (Kd.C_below HR0.out HB.out)); (case side2 => exact HC0.out); rintro e w7 ⟨v548, rfl, ho0, hb⟩; refine ⟨_, rfl, ?_⟩; have HO549 := Aside0.mk (Kd.S_lower ho0 (below_size tb)); replace HB := Aside0.mk (below_step tb hb); obtain ⟨Ao8, co8, eo8⟩ := Kd.S_slice HO549.out; subst eo8) | ((with_reducible refine gate_callee (f := 78) rfl ?_); refine goesL_ (some 13) rfl rfl Tryz.func78 (by kernel_rfl) rfl #[.slice A0 l0.length c0] rfl mp_ ?_; (with_reducible refine (spec_l6Dual.calls k _ _ l0 t550 _ ?side1 ?side2 A4.out).mono ?_); (case side1 => exact C_l (Kd.C_below HR0.out HB.out)); (case side2 => exact HC0.out); rintro e w9 ⟨v551, rfl, ho0, hb⟩; refine ⟨_, rfl, ?_⟩; replace HO549 := Aside0.mk (Kd.S_elder' (S_l HO549.out) (Kd.R_base ho0) hb); have HO552 := Aside0.mk (Kd.R_lower ho0 (below_size tb)); replace HB := Aside0.mk (below_step tb hb); obtain ⟨Ao10, co10, eo10⟩ := Kd.R_slice HO552.out; subst eo10) | ((with_reducible refine gate_callee (f := 62) rfl ?_); refine goesL_ (some 14) rfl rfl Tryz.func62 (by kernel_rfl) rfl #[.slice Ao10 t550.length co10] rfl mp_ ?_; (with_reducible refine (spec_l6Cycles.calls k _ _ t550 t553 _ ?side1 ?side2 A5.out).mono ?_); (case side1 => exact C_l ((Kd.R_reads' HO552.out).2.2)); (case side2 => exact (Kd.R_reads' HO552.out).2.1); rintro e w11 ⟨v554, rfl, ho0, hb⟩; refine ⟨_, rfl, ?_⟩; have HO555 := Aside0.mk (Kd.S_lower (Kd.S_new' (Kd.S_new' ho0 (Kd.S_lt (S_l HO549.out))) (Kd.R_lt (R_l HO552.out))) (below_size tb)); replace HO549 := Aside0.mk (Kd.S_elder' (S_l HO549.out) (Kd.S_base ho0) hb); replace HO552 := Aside0.mk (rB HO552.out hb); replace HB := Aside0.mk (below_step tb hb); obtain ⟨Ao12, co12, eo12⟩ := Kd.S_slice HO555.out; subst eo12))
 go_ret
 exact ⟨rE, tb⟩

/-! ### spec_l1Min: function 83 -/
def spec_l1Min.f (a0 : Int) (a1 : Int) : Option (Int) := if a0 < a1 then (some a0) else (some a1)
set_option maxHeartbeats 8000000 in
set_option maxRecDepth 100000 in
theorem spec_l1Min.calls (a0 : Int) (a1 : Int) (r : Int) (w : World) (h : spec_l1Min.f a0 a1 = some r) :
  Calls Tryz.prog 83 #[.int .i64 a0, .int .i64 a1] w fun e w' => e = .returned (.int .i64 r) ∧ Drawn0 w w' := by
 have H : (if a0 < a1 then (some a0) else (some a1)) = some r := h
 clear h
 obtain ⟨c3b0, H⟩ | ⟨c3b0, H⟩ := gi H
 ·obtain rfl := Option.some.inj H
  go_enter Tryz.func83, Tryz.ntmps83
  go_wp2
  go_ret
  exact ⟨rS, tD⟩
 ·obtain rfl := Option.some.inj H
  go_enter Tryz.func83, Tryz.ntmps83
  go_wp2
  go_ret
  exact ⟨rS, tD⟩

end Go.Proofs.YtafpbabiahjjaaaGreatDoor.PFnGraphs
