import Derived.Test.YtafpbabiahjjaaaGreatDoorWSpanB
import Derived.Test.YtafpbabiahjjaaaGreatDoorPFnGraphsx0
import Derived.Test.YtafpbabiahjjaaaGreatDoorPFnGraphsx2
import Derived.Test.YtafpbabiahjjaaaGreatDoorPFnGraphsx3
import Derived.Test.YtafpbabiahjjaaaGreatDoorPFnGraphsx4
namespace Go.Proofs.YtafpbabiahjjaaaGreatDoor.PFnGraphs
open Go.RowKit Go.Proofs.YtafpbabiahjjaaaGreatDoorW.PrintWords Go.Proofs.YtafpbabiahjjaaaGreatDoorW.PrintLast Go.Proofs.YtafpbabiahjjaaaGreatDoorW.PrintMore
attribute [local go_sem] max2_int min2_int max_two min_two max_three min_three max_four min_four   -- for this text's walks alone
set_option linter.unusedVariables false
set_option linter.unusedSimpArgs false

/-! ### spec_SplitByte: function 47 -/
def spec_SplitByte.l0 : Nat → ByteArray → Int → List ByteArray → Int → Int → Option (List ByteArray)
 | 0, _, _, _, _, _ => none
 | k + 1, x0, x1, x5, x6, x7 => if x7 ≤ (x0.size : Int) then (if x7 = (x0.size : Int) then (if 0 ≤ x6 then (if x6 ≤ x7 then (if x5.length < 8796093022208 then (spec_SplitByte.l0 k x0 x1 (x5 ++ [x0.extract (x6 : Int).toNat (x7 : Int).toNat]) (wrap64 (x7 + 1)) (wrap64 (x7 + 1))) else (none)) else (none)) else (none)) else (if 0 ≤ x7 then (if x7 < (x0.size : Int) then (if (bt x0 x7) = x1 then (if 0 ≤ x6 then (if x6 ≤ x7 then (if x5.length < 8796093022208 then (spec_SplitByte.l0 k x0 x1 (x5 ++ [x0.extract (x6 : Int).toNat (x7 : Int).toNat]) (wrap64 (x7 + 1)) (wrap64 (x7 + 1))) else (none)) else (none)) else (none)) else (spec_SplitByte.l0 k x0 x1 x5 x6 (wrap64 (x7 + 1)))) else (none)) else (none))) else (some x5)
def spec_SplitByte.f (k : Nat) (a0 : ByteArray) (a1 : Int) : Option (List ByteArray) := spec_SplitByte.l0 k a0 a1 (([] : List ByteArray)) 0 0
set_option maxHeartbeats 8000000 in
set_option maxRecDepth 100000 in
theorem spec_SplitByte.calls (k : Nat) (a0 : ByteArray) (a1 : Int) (r : List ByteArray) (w : World) (h : spec_SplitByte.f k a0 a1 = some r) :
  Calls Tryz.prog 47 #[.string a0, .int .u8 a1] w fun e w' => ∃ v0_ : Value, e = .returned (v0_) ∧ Kd.R Kd.string 9 w' w.heap.size (fun _ => True) v0_ r ∧ Below w.heap.size w w' := by
 have HB := Aside0.mk (Below.refl w.heap.size w)
 have H : (spec_SplitByte.l0 k a0 a1 (([] : List ByteArray)) 0 0) = some r := h
 clear h
 generalize hy406 : (([] : List ByteArray) : List ByteArray) = y406 at H
 have Ny406 := Aside0.mk hy406.symm; clear hy406
 have H' := Aside0.mk H
 clear H
 go_enter Tryz.func47, Tryz.ntmps47
 go_wp2_with (first | ((with_reducible refine gate_dst (N := 8) rfl ?_); refine Kd.R_lit Kd.string _ 9 ?hg (N := 8) ?hd (xs := ([] : List ByteArray)) (inner := []) (ok := fun _ => True) (okp := fun _ => True) ?hr ?hp (fun _ hk => hk) trivial (Below.refl _ _) (Nat.le_refl _) (by simp) ?_; (case hd => rfl); (case hg => rfl); (case hr => exact gS); (case hp => exact (Reps.none _ _)); intro v407 w3 ho4 hb hg_ hnew_; clear hg_ hnew_; (first | rw [← Ny406.out] at ho4 | (simp only [Int.reduceToNat] at ho4; rw [← Ny406.out] at ho4)); have HO408 := Aside0.mk (Kd.R_lower ho4 (below_size tb)); replace HB := Aside0.mk (below_step tb hb); clear hb ho4))
 go_loopg [5, 6, 7] k (fun kq v5 v6 v7 w' => ∃ (x5_1 : List ByteArray) (x6_1 : Int) (x7_1 : Int), v6 = .int .i64 x6_1 ∧ v7 = .int .i64 x7_1 ∧ Aside0 (spec_SplitByte.l0 kq a0 a1 x5_1 x6_1 x7_1 = some r) ∧ Aside0 (kq ≤ k) ∧ Aside0 (Kd.R Kd.string 9 w' w.heap.size (fun _ => True) v5 x5_1) ∧ Aside0 (Below w.heap.size w w'))
 case atStart => exact ⟨(y406), (0), (0), rS, rS, H', ⟨Nat.le_refl _⟩, ⟨R_l HO408.out⟩, ⟨tb⟩⟩
 case round =>
  clear H'
  try clear p2
  try clear c4
  obtain ⟨x5_1, x6_1, x7_1, rfl, rfl, HA, HK1, HO_5, HB⟩ := hrel
  cases gk with
  | zero => exact absurd HA.out (by simp [spec_SplitByte.l0])
  | succ k1 =>
   have H := HA.out
   clear HA
   simp only [spec_SplitByte.l0] at H
   obtain ⟨c5b0, H⟩ | ⟨c5b0, H⟩ := gi H
   ·by_cases c6 : x7_1 = (a0.size : Int)
    ·rw [if_pos c6] at H
     have c6b0 : (x7_1 == (a0.size : Int)) = true := beq_iff_eq.mpr c6
     have c6b1 : (x7_1 != (a0.size : Int)) = false := bne_eq_false_iff_eq.mpr c6
     clear c6
     obtain ⟨c7, H⟩ := gd H
     have c7b0 := eq_true c7
     have c7b1 : decide (0 ≤ x6_1) = true := decide_eq_true c7
     clear c7
     obtain ⟨c8, H⟩ := gd H
     have c8b0 := eq_true c8
     have c8b1 : decide (x6_1 ≤ x7_1) = true := decide_eq_true c8
     clear c8
     have c9b0 := eq_true (dT : x7_1 ≤ (a0.size : Int))
     obtain ⟨LMc10, H⟩ := gda H
     generalize hy409 : (x5_1 ++ [a0.extract (x6_1 : Int).toNat (x7_1 : Int).toNat] : List ByteArray) = y409 at H
     have Ny409 := Aside0.mk hy409.symm; clear hy409
     have H' := Aside0.mk H
     clear H
     go_wp2_with (first | ((with_reducible refine gate_builtin (b := .append) (xs := #[.tmp 26, .tmp 31]) rfl ?_); at_builtin; refine Kd.R_append Kd.string (w0 := w) w.heap.size rfl (.tmp 26) (.tmp 31) 51 9 (.string ⟨#[]⟩) 16 rfl Tryz.underlying51 info9 rfl (by decide) (by omega) u5 x5_1 (a0.extract (x6_1 : Int).toNat (x7_1 : Int).toNat) [.string (a0.extract (x6_1 : Int).toNat (x7_1 : Int).toNat)] (fun _ => True) (fun _ => False) rfl rfl ?aP (fun _ hk => hk.elim) ?aF ?aO ?aB ?aS ?aL ?_; (case aP => exact rfl); (case aB => exact tb); (case aF => exact (fun _ _ => trivial)); (case aO => exact (R_l HO_5.out)); (case aS => exact (below_size tb)); (case aL => have := LMc10.out; omega); intro v410 w11 ho hb hg hat; rw [← Ny409.out] at ho; replace HB := Aside0.mk (hb); have HO411 := Aside0.mk (ho); clear HO_5; clear ho hb hg hat))
     go_roundg k1
     case measure => exact oK
     case rel => exact ⟨(y409), (wrap64 (x7_1 + 1)), (wrap64 (x7_1 + 1)), rS, rS, H', ⟨oK⟩, ⟨R_l HO411.out⟩, ⟨tb⟩⟩
    ·rw [if_neg c6] at H
     have c6b0 : (x7_1 == (a0.size : Int)) = false := beq_eq_false_iff_ne.mpr c6
     have c6b1 : (x7_1 != (a0.size : Int)) = true := bne_iff_ne.mpr c6
     obtain ⟨c12b0, H⟩ := gdt H
     obtain ⟨c13b0, H⟩ := gdt H
     by_cases c15 : (bt a0 x7_1) = a1
     ·rw [if_pos c15] at H
      have c15b0 : ((bt a0 x7_1) == a1) = true := beq_iff_eq.mpr c15
      have c15b1 : ((bt a0 x7_1) != a1) = false := bne_eq_false_iff_eq.mpr c15
      clear c15
      obtain ⟨c16, H⟩ := gd H
      have c16b0 := eq_true c16
      have c16b1 : decide (0 ≤ x6_1) = true := decide_eq_true c16
      clear c16
      obtain ⟨c17, H⟩ := gd H
      have c17b0 := eq_true c17
      have c17b1 : decide (x6_1 ≤ x7_1) = true := decide_eq_true c17
      clear c17
      have c18b0 := eq_true (dT : x7_1 ≤ (a0.size : Int))
      obtain ⟨LMc19, H⟩ := gda H
      generalize hy412 : (x5_1 ++ [a0.extract (x6_1 : Int).toNat (x7_1 : Int).toNat] : List ByteArray) = y412 at H
      have Ny412 := Aside0.mk hy412.symm; clear hy412
      have H' := Aside0.mk H
      clear H
      have p14 : 0 ≤ (x7_1 : Int) := dT
      have q14 : x7_1 < (a0.size : Int) := dT
      have hx14 := bt_at a0 x7_1
      replace p14 := eq_true p14
      replace q14 := eq_true q14
      go_wp2_with (first | ((with_reducible refine gate_builtin (b := .append) (xs := #[.tmp 26, .tmp 31]) rfl ?_); at_builtin; refine Kd.R_append Kd.string (w0 := w) w.heap.size rfl (.tmp 26) (.tmp 31) 51 9 (.string ⟨#[]⟩) 16 rfl Tryz.underlying51 info9 rfl (by decide) (by omega) u5 x5_1 (a0.extract (x6_1 : Int).toNat (x7_1 : Int).toNat) [.string (a0.extract (x6_1 : Int).toNat (x7_1 : Int).toNat)] (fun _ => True) (fun _ => False) rfl rfl ?aP (fun _ hk => hk.elim) ?aF ?aO ?aB ?aS ?aL ?_; (case aP => exact rfl); (case aB => exact tb); (case aF => exact (fun _ _ => trivial)); (case aO => exact (R_l HO_5.out)); (case aS => exact (below_size tb)); (case aL => have := LMc19.out; omega); intro v413 w20 ho hb hg hat; rw [← Ny412.out] at ho; replace HB := Aside0.mk (hb); have HO414 := Aside0.mk (ho); clear HO_5; clear ho hb hg hat))
      go_roundg k1
      case measure => exact oK
      case rel => exact ⟨(y412), (wrap64 (x7_1 + 1)), (wrap64 (x7_1 + 1)), rS, rS, H', ⟨oK⟩, ⟨R_l HO414.out⟩, ⟨tb⟩⟩
     ·rw [if_neg c15] at H
      have c15b0 : ((bt a0 x7_1) == a1) = false := beq_eq_false_iff_ne.mpr c15
      have c15b1 : ((bt a0 x7_1) != a1) = true := bne_iff_ne.mpr c15
      have H' := Aside0.mk H
      clear H
      have p14 : 0 ≤ (x7_1 : Int) := dT
      have q14 : x7_1 < (a0.size : Int) := dT
      have hx14 := bt_at a0 x7_1
      replace p14 := eq_true p14
      replace q14 := eq_true q14
      go_wp2
      go_roundg k1
      case measure => exact oK
      case rel => exact ⟨(x5_1), (x6_1), (wrap64 (x7_1 + 1)), rS, rS, H', ⟨oK⟩, ⟨R_l HO_5.out⟩, ⟨tb⟩⟩
   ·obtain rfl := Option.some.inj H
    go_wp2
    go_ret
    exact ⟨_, rE, R_l HO_5.out, tb⟩

/-! ### spec_ParseGraph: function 9 -/
def spec_ParseGraph.l0 : Nat → List (List Int) → List ByteArray → Int → Option ((List (List Int)) × Bool)
 | 0, _, _, _ => none
 | k + 1, x4, x5, x6 => if x6 < (x5.length : Int) then (if 0 ≤ x6 then (if ((rdOf ByteArray.empty x5 x6).size : Int) = 2 then (if 0 < ((rdOf ByteArray.empty x5 x6).size : Int) then (if 1 < ((rdOf ByteArray.empty x5 x6).size : Int) then (if x4.length < 5864062014805 then (spec_ParseGraph.l0 k (x4 ++ [(([wrap64 ((wrap64 (bt (rdOf ByteArray.empty x5 x6) 0)) - 48), wrap64 ((wrap64 (bt (rdOf ByteArray.empty x5 x6) 1)) - 48)] : List Int))]) x5 (wrap64 (x6 + 1))) else (none)) else (none)) else (none)) else (some ((([] : List (List Int))), false))) else (none)) else ((spec_IsGraph.f k x4).bind fun t433 => (if t433 = true then (some (x4, true)) else (some ((([] : List (List Int))), false))))
def spec_ParseGraph.f (k : Nat) (a0 : ByteArray) : Option ((List (List Int)) × Bool) := (spec_SplitByte.f k a0 32).bind fun t418 => (spec_ParseGraph.l0 k (([] : List (List Int))) t418 0)
def spec_ParseGraph.T8 : Bool × List (List Nat × List Nat) := (true, [([], []), ([], []), ([], []), ([1, 2], [1, 2]), ([3], [3]), ([4], [4]), ([5], [5]), ([6], [6]), ([], []), ([], []), ([8, 9], [8, 9]), ([10], [10]), ([11], [11]), ([12], [12]), ([13], [13]), ([7, 14], [7, 14]), ([15], [15]), ([0, 16], [0, 16]), ([17, 17, 0, 1, 2, 3, 4, 5, 6, 7, 8, 9, 10, 11, 12, 13, 14, 15, 16, 17], [0, 17])])
def spec_ParseGraph.B8 : List Nat := [0, 0, 0, 6, 14, 30, 62, 126, 0, 0, 768, 1792, 3840, 7936, 16128, 32766, 65534, 131071, 262143]
theorem spec_ParseGraph.tab8 : rtab .any (opsOf Tryz.f9 8) = spec_ParseGraph.T8 := by kernel_rfl
theorem spec_ParseGraph.bits8 : waitsOk spec_ParseGraph.T8.2 spec_ParseGraph.B8 = true := by kernel_rfl
set_option maxHeartbeats 8000000 in
set_option maxRecDepth 100000 in
theorem spec_ParseGraph.calls (k : Nat) (a0 : ByteArray) (r1 : List (List Int)) (r2 : Bool) (w : World) (h : spec_ParseGraph.f k a0 = some (r1, r2)) :
  Calls Tryz.prog 9 #[.string a0] w fun e w' => ∃ v0_ : Value, e = .returned (.tuple #[v0_, .bool r2]) ∧ Kd.S (Kd.slice 3 (Kd.int .i64)) 26 w' w.heap.size (fun _ => True) v0_ r1 ∧ Below w.heap.size w w' := by
 have HB := Aside0.mk (Below.refl w.heap.size w)
 have H : ((spec_SplitByte.f k a0 32).bind fun t418 => (spec_ParseGraph.l0 k (([] : List (List Int))) t418 0)) = some (r1, r2) := h
 clear h
 generalize hy415 : (([] : List (List Int)) : List (List Int)) = y415 at H
 have Ny415 := Aside0.mk hy415.symm; clear hy415
 obtain ⟨t418, A2, H⟩ := bs H
 have H' := Aside0.mk H
 clear H
 go_enter Tryz.func9, Tryz.ntmps9
 go_wp2_with (first | ((with_reducible refine gate_dst (N := 7) rfl ?_); refine Kd.S_lit (Kd.slice 3 (Kd.int .i64)) _ 26 ?hg (N := 7) ?hd (xs := ([] : List (List Int))) (inner := []) (ok := fun _ => True) (okp := fun _ => True) ?hr ?hp (fun _ hk => hk) trivial (Below.refl _ _) (Nat.le_refl _) (by simp) ?_; (case hd => rfl); (case hg => rfl); (case hr => exact gS); (case hp => exact (Reps.none _ _)); intro v416 w3 ho4 hb hg_ hnew_; clear hg_ hnew_; (first | rw [← Ny415.out] at ho4 | (simp only [Int.reduceToNat] at ho4; rw [← Ny415.out] at ho4)); have HO417 := Aside0.mk (Kd.S_lower ho4 (below_size tb)); replace HB := Aside0.mk (below_step tb hb); clear hb ho4) | ((with_reducible refine gate_callee (f := 47) rfl ?_); refine goesL_ (some 9) rfl rfl Tryz.func47 (by kernel_rfl) rfl #[.string a0, .int .u8 32] rfl mp_ ?_; (with_reducible refine (spec_SplitByte.calls k a0 32 t418 _ A2.out).mono ?_); rintro e w5 ⟨v419, rfl, ho0, hb⟩; refine ⟨_, rfl, ?_⟩; replace HO417 := Aside0.mk (sB HO417.out hb); have HO420 := Aside0.mk (Kd.R_lower ho0 (below_size tb)); replace HB := Aside0.mk (below_step tb hb)))
 go_loopg [4, 6] k (fun kq v4 v6 w' => ∃ (x4_1 : List (List Int)) (x6_1 : Int), v6 = .int .i64 x6_1 ∧ Aside0 (spec_ParseGraph.l0 kq x4_1 t418 x6_1 = some (r1, r2)) ∧ Aside0 (kq ≤ k) ∧ Aside0 (Kd.S (Kd.slice 3 (Kd.int .i64)) 26 w' w.heap.size (fun _ => True) v4 x4_1) ∧ Aside0 (Kd.R Kd.string 9 w' w.heap.size (fun _ => True) v419 t418) ∧ Aside0 (Below w.heap.size w w'))
 case atStart => exact ⟨(y415), (0), rS, H', ⟨Nat.le_refl _⟩, ⟨S_l HO417.out⟩, ⟨R_l HO420.out⟩, ⟨tb⟩⟩
 case round =>
  clear H'
  try clear p2
  try clear c4
  obtain ⟨x4_1, x6_1, rfl, HA, HK1, HO_4, HO_5, HB⟩ := hrel
  cases gk with
  | zero => exact absurd HA.out (by simp [spec_ParseGraph.l0])
  | succ k1 =>
   have H := HA.out
   clear HA
   simp only [spec_ParseGraph.l0] at H
   obtain ⟨c6b0, H⟩ | ⟨c6b0, H⟩ := gi H
   ·obtain ⟨c7b0, H⟩ := gdt H
    by_cases c8 : ((rdOf ByteArray.empty t418 x6_1).size : Int) = 2
    ·rw [if_pos c8] at H
     have c8b0 : (((rdOf ByteArray.empty t418 x6_1).size : Int) == 2) = true := beq_iff_eq.mpr c8
     have c8b1 : (((rdOf ByteArray.empty t418 x6_1).size : Int) != 2) = false := bne_eq_false_iff_eq.mpr c8
     clear c8
     obtain ⟨c9, H⟩ := gd H
     have c9b0 : decide (0 < ((rdOf ByteArray.empty t418 x6_1).size : Int)) = true := decide_eq_true c9
     have c9b1 : decide (0 < (rdOf ByteArray.empty t418 x6_1).size) = true := decide_eq_true (by omega)
     clear c9
     obtain ⟨c11, H⟩ := gd H
     have c11b0 : decide (1 < ((rdOf ByteArray.empty t418 x6_1).size : Int)) = true := decide_eq_true c11
     have c11b1 : decide (1 < (rdOf ByteArray.empty t418 x6_1).size) = true := decide_eq_true (by omega)
     clear c11
     generalize hy424 : (([wrap64 ((wrap64 (bt (rdOf ByteArray.empty t418 x6_1) 0)) - 48), wrap64 ((wrap64 (bt (rdOf ByteArray.empty t418 x6_1) 1)) - 48)] : List Int) : List Int) = y424 at H
     have Ny424 := Aside0.mk hy424.symm; clear hy424
     obtain ⟨LMc13, H⟩ := gda H
     generalize hy427 : (x4_1 ++ [y424] : List (List Int)) = y427 at H
     have Ny427 := Aside0.mk hy427.symm; clear hy427
     have H' := Aside0.mk H
     clear H
     obtain ⟨Ao14, co14, eo14⟩ := Kd.R_slice HO_5.out
     subst eo14
     have p421 : 0 ≤ (x6_1 : Int) := dT
     have q421 : x6_1 < (t418.length : Int) := dT
     obtain ⟨ad421, e421, hx421_0⟩ := Kd.at_string (Kd.R_reads' HO_5.out).2.2 x6_1 p421 q421
     cases e421
     replace p421 := eq_true p421
     replace q421 := eq_true q421
     try go_wp2
     replace HO_4 := Aside0.mk (Kd.S_drew HO_4.out); replace HO_5 := Aside0.mk (Kd.R_drew HO_5.out); replace HB := Aside0.mk (below_drew1 HB.out)
     have p422 : 0 ≤ (x6_1 : Int) := dT
     have q422 : x6_1 < (t418.length : Int) := dT
     obtain ⟨ad422, e422, hx422_0⟩ := Kd.at_string (Kd.R_reads' HO_5.out).2.2 x6_1 p422 q422
     obtain rfl : ad421 = ad422 := (by injection e422)
     replace p422 := eq_true p422
     replace q422 := eq_true q422
     have p10 : 0 ≤ (0 : Int) := (by omega)
     have q10 : 0 < (rdOf ByteArray.empty t418 x6_1).size := (by have : (0 : Int) < ((rdOf ByteArray.empty t418 x6_1).size : Int) := dT; omega)
     have hx10 : ∀ h : 0 < (rdOf ByteArray.empty t418 x6_1).size, (((rdOf ByteArray.empty t418 x6_1)[0]'h).toNat : Int) = bt (rdOf ByteArray.empty t418 x6_1) 0 := bt_at (rdOf ByteArray.empty t418 x6_1) 0
     clear p10
     have qi10 : (0 < ((rdOf ByteArray.empty t418 x6_1).size : Int)) = True := eq_true dT
     replace q10 := eq_true q10
     have p423 : 0 ≤ (x6_1 : Int) := dT
     have q423 : x6_1 < (t418.length : Int) := dT
     obtain ⟨ad423, e423, hx423_0⟩ := Kd.at_string (Kd.R_reads' HO_5.out).2.2 x6_1 p423 q423
     obtain rfl : ad421 = ad423 := (by injection e423)
     replace p423 := eq_true p423
     replace q423 := eq_true q423
     have p12 : 0 ≤ (1 : Int) := (by omega)
     have q12 : 1 < (rdOf ByteArray.empty t418 x6_1).size := (by have : (1 : Int) < ((rdOf ByteArray.empty t418 x6_1).size : Int) := dT; omega)
     have hx12 : ∀ h : 1 < (rdOf ByteArray.empty t418 x6_1).size, (((rdOf ByteArray.empty t418 x6_1)[1]'h).toNat : Int) = bt (rdOf ByteArray.empty t418 x6_1) 1 := bt_at (rdOf ByteArray.empty t418 x6_1) 1
     clear p12
     have qi12 : (1 < ((rdOf ByteArray.empty t418 x6_1).size : Int)) = True := eq_true dT
     replace q12 := eq_true q12
     refine start_ (n := 19) (S := fun w' => w'.cell? (ad421.add (x6_1).toNat) = some (.string (rdOf ByteArray.empty t418 x6_1)) ∧ w'.cell? (ad421.add (x6_1).toNat) = some (.string (rdOf ByteArray.empty t418 x6_1))) (ds := [16, 17]) #[false, false, false, false, false, false, false, false, false, false, false, false, false, false, false, false, false, false, false] (by kernel_rfl) rfl rfl ⟨hx422_0, hx423_0⟩ (fun hHeld => ?_); refine with_tabW spec_ParseGraph.tab8 spec_ParseGraph.bits8 (fun HT_ HW_ => ?_)
     generalize wr.drew = w15 at HO_4 HO_5 HB hx422_0 hx423_0 hHeld ⊢
     refine pu_ 0 (some 23) ?_
     refine pu_ 1 (some 24) ?_
     refine pu_ 2 (some 25) ?_
     refine pu_ 3 (some 26) ?_
     refine pu_ 8 (some 31) ?_
     refine pu_ 9 (some 32) ?_
     refine pu_ 10 (some 33) ?_
     refine take_ (i := 4) (N := some 27) (v := ?_) (a' := ?_) #[true, true, true, true, true, false, false, false, true, true, true, false, false, false, false, false, false, false, false] rfl rfl (take_ofW HT_.out HW_.out (by kernel_rfl)) (fun _ _ _ h => h) (Or.inl ⟨by rfl, ?_⟩) hHeld ?_ ?_
     rotate_left
     ·rintro w' ⟨s0, s1⟩
      go_simp
      with_reducible rfl
     rotate_left
     ·simp only [Act.put, List.setIfInBounds_toArray, List.set_cons_zero, List.set_cons_succ, i64_w, i32_w]
      rfl
     refine take_ (i := 5) (N := some 28) (v := ?_) (a' := ?_) #[true, true, true, true, true, true, false, false, true, true, true, false, false, false, false, false, false, false, false] rfl rfl (take_ofW HT_.out HW_.out (by kernel_rfl)) (fun _ _ _ h => h) (Or.inl ⟨by rfl, ?_⟩) hHeld ?_ ?_
     rotate_left
     ·rintro w' ⟨s0, s1⟩
      go_simp
      with_reducible rfl
     rotate_left
     ·simp only [Act.put, List.setIfInBounds_toArray, List.set_cons_zero, List.set_cons_succ, i64_w, i32_w]
      rfl
     refine pu_ 6 (some 29) ?_
     refine pu_ 7 (some 30) ?_
     refine take_ (i := 11) (N := some 34) (v := ?_) (a' := ?_) #[true, true, true, true, true, true, true, true, true, true, true, true, false, false, false, false, false, false, false] rfl rfl (take_ofW HT_.out HW_.out (by kernel_rfl)) (fun _ _ _ h => h) (Or.inl ⟨by rfl, ?_⟩) hHeld ?_ ?_
     rotate_left
     ·rintro w' ⟨s0, s1⟩
      go_simp
      with_reducible rfl
     rotate_left
     ·simp only [Act.put, List.setIfInBounds_toArray, List.set_cons_zero, List.set_cons_succ, i64_w, i32_w]
      rfl
     refine take_ (i := 12) (N := some 35) (v := ?_) (a' := ?_) #[true, true, true, true, true, true, true, true, true, true, true, true, true, false, false, false, false, false, false] rfl rfl (take_ofW HT_.out HW_.out (by kernel_rfl)) (fun _ _ _ h => h) (Or.inl ⟨by rfl, ?_⟩) hHeld ?_ ?_
     rotate_left
     ·rintro w' ⟨s0, s1⟩
      go_simp
      with_reducible rfl
     rotate_left
     ·simp only [Act.put, List.setIfInBounds_toArray, List.set_cons_zero, List.set_cons_succ, i64_w, i32_w]
      rfl
     refine pu_ 13 (some 36) ?_
     refine pu_ 14 (some 37) ?_
     refine one_ (i := 15) (N := some 38) #[true, true, true, true, true, true, true, true, true, true, true, true, true, true, true, true, false, false, false] rfl rfl (one_of HT_.out (by kernel_rfl)) (by decide) (fun K hK => ?_)
     refine Kd.R_lit_step (Kd.int .i64) _ 3 ?hg (N := 38) ?hd (xs := ([wrap64 ((wrap64 (bt (rdOf ByteArray.empty t418 x6_1) 0)) - 48), wrap64 ((wrap64 (bt (rdOf ByteArray.empty t418 x6_1) 1)) - 48)] : List Int)) (inner := [.int .i64 (wrap64 ((wrap64 (bt (rdOf ByteArray.empty t418 x6_1) 0)) - 48)), .int .i64 (wrap64 ((wrap64 (bt (rdOf ByteArray.empty t418 x6_1) 1)) - 48))]) (ok := fun _ => True) (okp := fun _ => True) ?hr ?hp (fun _ hk => hk) trivial (Below.refl _ _) (Nat.le_refl _) (by simp) ?_; (case hd => rfl); (case hg => rfl); (case hr => exact gS); (case hp => exact (Reps.one (show Kd.M (Kd.int .i64) _ _ _ (wrap64 ((wrap64 (bt (rdOf ByteArray.empty t418 x6_1) 0)) - 48)) [.int .i64 (wrap64 ((wrap64 (bt (rdOf ByteArray.empty t418 x6_1) 0)) - 48))] from rfl) (Reps.one (show Kd.M (Kd.int .i64) _ _ _ (wrap64 ((wrap64 (bt (rdOf ByteArray.empty t418 x6_1) 1)) - 48)) [.int .i64 (wrap64 ((wrap64 (bt (rdOf ByteArray.empty t418 x6_1) 1)) - 48))] from rfl) (Reps.none _ _))))
     intro v425 w16 ho17 hb hg_ hnew_
     have HS0_ := (hb.cell (World.block_lt_of_cell? _ _ (hHeld.1))).trans (hHeld.1)
     have HS1_ := (hb.cell (World.block_lt_of_cell? _ _ (hHeld.2))).trans (hHeld.2)
     clear hg_ hnew_
     (first | rw [← Ny424.out] at ho17 | (simp only [Int.reduceToNat] at ho17; rw [← Ny424.out] at ho17))
     replace HO_4 := Aside0.mk (Kd.S_elder' (S_l HO_4.out) (Kd.R_base ho17) hb); replace HO_5 := Aside0.mk (rB HO_5.out hb); have HO426 := Aside0.mk (Kd.R_lower ho17 (below_size tb)); replace HB := Aside0.mk (below_step tb hb)
     clear hb ho17
     obtain ⟨Ao19, co19, eo19⟩ := Kd.R_slice HO426.out
     (first | subst eo19 | (injection eo19 with f1_ f2_ f3_; have f4_ := f1_.symm; have f5_ := f3_.symm; clear f1_ f2_ f3_; subst f4_; subst f5_))
     refine hK.out _ _ ⟨HS0_, HS1_⟩ (fun hHeld => ?_)
     clear hK K
     refine norm_ (a' := ?_) ?_ ?_
     rotate_left
     ·show Act.put _ (some 38) _ = _
      simp only [Act.put, List.setIfInBounds_toArray, List.set_cons_zero, List.set_cons_succ, i64_w, i32_w]
      rfl
     refine last_ (i := 16) (N := some 39) #[true, true, true, true, true, true, true, true, true, true, true, true, true, true, true, true, true, false, false] rfl rfl (one_of HT_.out (by kernel_rfl)) (by decide) (fun K hK => ?_)
     refine value_ (w1 := ?_) (v := ?_) (by rfl) rfl ?_ ?_
     rotate_left 2
     ·go_simp
      constructor
      ·rfl
      ·rfl
     refine hK.out _ _ ?_
     clear hK K
     refine norm_ (a' := ?_) ?_ ?_
     rotate_left
     ·show Act.put _ (some 39) _ = _
      simp only [Act.put, List.setIfInBounds_toArray, List.set_cons_zero, List.set_cons_succ, i64_w, i32_w]
      rfl
     refine last_ (i := 17) (N := some 40) #[true, true, true, true, true, true, true, true, true, true, true, true, true, true, true, true, true, true, false] rfl rfl (one_of HT_.out (by kernel_rfl)) (by decide) (fun K hK => ?_)
     refine Kd.S_append_step (Kd.slice 3 (Kd.int .i64)) (w0 := w) w.heap.size (by rfl) (.tmp 23) (.tmp 39) 24 26 (.slice none 0 0) 24 rfl Tryz.underlying24 info26 rfl (by decide) (by omega) u4 x4_1 y424 [.slice Ao19 y424.length co19] (fun _ => True) (fun k_ => some k_ = (.slice Ao19 y424.length co19 : Value).ownBlock) rfl rfl ?aP (fun k_ hk_ => ((Kd.R_mono (ok' := fun k_ => ((fun _ => True)) k_ ∧ some k_ ≠ (u4 : Value).ownBlock) (Kd.R_apart' (HO426.out) (Kd.S_typed HO_4.out) (by decide)) (fun k_ hk => ⟨trivial, hk.2⟩))).1 k_ hk_.symm) ?aF ?aO ?aB ?aS ?aL ?_
     (case aP => exact Kd.M_row (Kd.R_mono (Kd.R_tight rfl (Kd.R_mono (ok' := fun k_ => ((fun _ => True)) k_ ∧ some k_ ≠ (u4 : Value).ownBlock) (Kd.R_apart' (HO426.out) (Kd.S_typed HO_4.out) (by decide)) (fun k_ hk => ⟨trivial, hk.2⟩))) (fun _ h_ => h_)))
     (case aB => exact tb)
     (case aF => exact (fun _ _ => trivial))
     (case aO => exact (S_l (Kd.S_mono HO_4.out (fun k_ hk => ⟨trivial, fun e_ => hk.2 e_⟩))))
     (case aS => exact (below_size tb))
     (case aL => have := LMc13.out; omega)
     intro v428 w18 ho hb hg hat
     rw [← Ny427.out] at ho
     replace HO_5 := Aside0.mk (Kd.R_over' (R_l HO_5.out) (Kd.S_typed (S_l HO_4.out)) (by decide) hg); replace HB := Aside0.mk (hb); have HO429 := Aside0.mk (ho); clear HO_4 HO426
     clear ho hb hg hat
     refine hK.out _ _ ?_
     clear hK K
     refine norm_ (a' := ?_) ?_ ?_
     rotate_left
     ·show Act.put _ (some 40) _ = _
      simp only [Act.put, List.setIfInBounds_toArray, List.set_cons_zero, List.set_cons_succ, i64_w, i32_w]
      rfl
     refine pu_ 18 (some 4) ?_
     refine done_ (done_of HT_.out (by kernel_rfl)) ?_
     try go_wp2
     go_roundg k1
     case measure => exact oK
     case rel => exact ⟨(y427), (wrap64 (x6_1 + 1)), rS, H', ⟨oK⟩, ⟨S_l HO429.out⟩, ⟨R_l HO_5.out⟩, ⟨tb⟩⟩
    ·rw [if_neg c8] at H
     have c8b0 : (((rdOf ByteArray.empty t418 x6_1).size : Int) == 2) = false := beq_eq_false_iff_ne.mpr c8
     have c8b1 : (((rdOf ByteArray.empty t418 x6_1).size : Int) != 2) = true := bne_iff_ne.mpr c8
     generalize hy430 : (([] : List (List Int)) : List (List Int)) = y430 at H
     have Ny430 := Aside0.mk hy430.symm; clear hy430
     simp only [Option.some.injEq, Prod.mk.injEq] at H
     obtain ⟨rfl, rfl⟩ := H
     obtain ⟨Ao20, co20, eo20⟩ := Kd.R_slice HO_5.out
     subst eo20
     have p421 : 0 ≤ (x6_1 : Int) := dT
     have q421 : x6_1 < (t418.length : Int) := dT
     obtain ⟨ad421, e421, hx421_0⟩ := Kd.at_string (Kd.R_reads' HO_5.out).2.2 x6_1 p421 q421
     cases e421
     replace p421 := eq_true p421
     replace q421 := eq_true q421
     go_wp2_with (first | ((with_reducible refine gate_dst (N := 22) rfl ?_); refine Kd.S_lit (Kd.slice 3 (Kd.int .i64)) _ 26 ?hg (N := 22) ?hd (xs := ([] : List (List Int))) (inner := []) (ok := fun _ => True) (okp := fun _ => True) ?hr ?hp (fun _ hk => hk) trivial (Below.refl _ _) (Nat.le_refl _) (by simp) ?_; (case hd => rfl); (case hg => rfl); (case hr => exact gS); (case hp => exact (Reps.none _ _)); intro v431 w21 ho22 hb hg_ hnew_; clear hg_ hnew_; (first | rw [← Ny430.out] at ho22 | (simp only [Int.reduceToNat] at ho22; rw [← Ny430.out] at ho22)); replace HO_5 := Aside0.mk (rB HO_5.out hb); have HO432 := Aside0.mk (Kd.S_lower (Kd.S_new' ho22 (Kd.S_lt (S_l HO_4.out))) (below_size tb)); replace HO_4 := Aside0.mk (Kd.S_elder' (S_l HO_4.out) (Kd.S_base ho22) hb); replace HB := Aside0.mk (below_step tb hb); clear hb ho22))
     go_ret2
     exact ⟨_, rE, S_l (Kd.S_mono HO432.out (fun _ hk => trivial)), tb⟩
   ·obtain ⟨t433, A23, H⟩ := bs H
    by_cases c24 : t433 = true
    ·subst c24
     rw [if_pos rfl] at H
     simp only [Option.some.injEq, Prod.mk.injEq] at H
     obtain ⟨rfl, rfl⟩ := H
     obtain ⟨Ao25, co25, eo25⟩ := Kd.R_slice HO_5.out
     subst eo25
     obtain ⟨Ao26, co26, eo26⟩ := Kd.S_slice HO_4.out
     subst eo26
     go_wp2_with (first | ((with_reducible refine gate_callee (f := 25) rfl ?_); refine goesL_ (some 42) rfl rfl Tryz.func25 (by kernel_rfl) rfl #[.slice Ao26 x4_1.length co26] rfl mp_ ?_; (with_reducible refine (spec_IsGraph.calls k1 _ _ x4_1 true _ ?side1 ?side2 A23.out).mono ?_); (case side1 => exact C_l ((Kd.S_reads' HO_4.out).2.2)); (case side2 => exact (Kd.S_reads' HO_4.out).2.1); rintro e w27 ⟨rfl, hb⟩; refine ⟨_, rfl, ?_⟩; replace HO_4 := Aside0.mk (sB HO_4.out hb); replace HO_5 := Aside0.mk (rB HO_5.out hb); replace HB := Aside0.mk (below_step tb hb)))
     go_ret2
     exact ⟨_, rE, S_l HO_4.out, tb⟩
    ·replace c24 := Bool.eq_false_iff.mpr c24
     subst c24
     rw [if_neg (show ¬ (false = true) by decide)] at H
     generalize hy434 : (([] : List (List Int)) : List (List Int)) = y434 at H
     have Ny434 := Aside0.mk hy434.symm; clear hy434
     simp only [Option.some.injEq, Prod.mk.injEq] at H
     obtain ⟨rfl, rfl⟩ := H
     obtain ⟨Ao28, co28, eo28⟩ := Kd.R_slice HO_5.out
     subst eo28
     obtain ⟨Ao29, co29, eo29⟩ := Kd.S_slice HO_4.out
     subst eo29
     go_wp2_with (first | ((with_reducible refine gate_callee (f := 25) rfl ?_); refine goesL_ (some 42) rfl rfl Tryz.func25 (by kernel_rfl) rfl #[.slice Ao29 x4_1.length co29] rfl mp_ ?_; (with_reducible refine (spec_IsGraph.calls k1 _ _ x4_1 false _ ?side1 ?side2 A23.out).mono ?_); (case side1 => exact C_l ((Kd.S_reads' HO_4.out).2.2)); (case side2 => exact (Kd.S_reads' HO_4.out).2.1); rintro e w30 ⟨rfl, hb⟩; refine ⟨_, rfl, ?_⟩; replace HO_4 := Aside0.mk (sB HO_4.out hb); replace HO_5 := Aside0.mk (rB HO_5.out hb); replace HB := Aside0.mk (below_step tb hb)) | ((with_reducible refine gate_dst (N := 44) rfl ?_); refine Kd.S_lit (Kd.slice 3 (Kd.int .i64)) _ 26 ?hg (N := 44) ?hd (xs := ([] : List (List Int))) (inner := []) (ok := fun _ => True) (okp := fun _ => True) ?hr ?hp (fun _ hk => hk) trivial (Below.refl _ _) (Nat.le_refl _) (by simp) ?_; (case hd => rfl); (case hg => rfl); (case hr => exact gS); (case hp => exact (Reps.none _ _)); intro v435 w31 ho32 hb hg_ hnew_; clear hg_ hnew_; (first | rw [← Ny434.out] at ho32 | (simp only [Int.reduceToNat] at ho32; rw [← Ny434.out] at ho32)); replace HO_5 := Aside0.mk (rB HO_5.out hb); have HO436 := Aside0.mk (Kd.S_lower (Kd.S_new' ho32 (Kd.S_lt (S_l HO_4.out))) (below_size tb)); replace HO_4 := Aside0.mk (Kd.S_elder' (S_l HO_4.out) (Kd.S_base ho32) hb); replace HB := Aside0.mk (below_step tb hb); clear hb ho32))
     go_ret2
     exact ⟨_, rE, S_l (Kd.S_mono HO436.out (fun _ hk => trivial)), tb⟩

/-! ### spec_DrawCompleteGraph: function 10 -/
def spec_DrawCompleteGraph.f (k : Nat) (l0 : List Int) : Option (Int) := (spec_l1New.f k l0).bind fun bt437 => ((spec_l1Below.f bt437.1 bt437.2.1 bt437.2.2 8).bind fun bt441 => (some (wrap64 (bt441.1 - 1))))
set_option maxHeartbeats 8000000 in
set_option maxRecDepth 100000 in
theorem spec_DrawCompleteGraph.calls (k : Nat) (A0 : Option Addr) (c0 : Nat) (l0 : List Int) (r : Int) (w : World) (hr0 : Kd.C (Kd.int .u8) w A0 l0.length l0) (hc0 : l0.length ≤ c0) (h : spec_DrawCompleteGraph.f k l0 = some r) :
  Calls Tryz.prog 10 #[.slice A0 l0.length c0] w fun e w' => e = .returned (.int .i64 r) ∧ Below w.heap.size w w' := by
 have HR0 := Aside0.mk hr0
 have HC0 := Aside0.mk hc0
 clear hr0 hc0
 have HB := Aside0.mk (Below.refl w.heap.size w)
 have H : ((spec_l1New.f k l0).bind fun bt437 => ((spec_l1Below.f bt437.1 bt437.2.1 bt437.2.2 8).bind fun bt441 => (some (wrap64 (bt441.1 - 1))))) = some r := h
 clear h
 obtain ⟨⟨t437, t438, t439⟩, A2, H⟩ := bs H
 try dsimp only at H
 obtain ⟨⟨t441, t442, t443⟩, A3, H⟩ := bs H
 try dsimp only at H
 obtain rfl := Option.some.inj H
 go_enter Tryz.func10, Tryz.ntmps10
 go_wp2_with (first | ((with_reducible refine gate_callee (f := 38) rfl ?_); refine goesL_ (some 4) rfl rfl Tryz.func38 (by kernel_rfl) rfl #[.slice A0 l0.length c0] rfl mp_ ?_; (with_reducible refine (spec_l1New.calls k _ _ l0 t437 t438 t439 w _ ?side1 ?side2 ?side3 A2.out).mono ?_); (case side1 => exact tb); (case side2 => exact HR0.out); (case side3 => exact HC0.out); rintro e w4 ⟨g440, rfl, hi, hb, hb2⟩; refine ⟨_, rfl, ?_⟩; replace HB := Aside0.mk (hb); have HI440 := Aside0.mk (hi)) | ((with_reducible refine gate_callee (f := 48) rfl ?_); refine goesL_ (some 5) rfl rfl Tryz.func48 (by kernel_rfl) rfl #[.pointer (some ⟨g440, 0, none⟩), .int .i64 8] rfl mp_ ?_; (with_reducible refine (spec_l1Below.calls g440 t437 t438 t439 8 t441 t442 t443 w _ ?side1 ?side2 A3.out).mono ?_); (case side1 => repeat (first | (with_reducible first | exact HI440.out | apply IsS64.alloc | apply IsS64.drewN | apply IsS64.drew | apply IsS64.set_1 | apply IsS64.set_2) | exact HI440.out)); (case side2 => repeat (first | (with_reducible first | exact HB.out | apply below_alloc | apply pw_below_drewN | apply below_drew1 | refine below_set ?_ (IsS64.ge HI440.out)) | exact HB.out)); rintro e w5 ⟨rfl, hi, hb, hk⟩; refine ⟨_, rfl, ?_⟩; replace HB := Aside0.mk (hb); replace HI440 := Aside0.mk (hi)))
 go_ret
 exact ⟨rE, by repeat (first | (with_reducible first | exact HB.out | apply below_alloc | apply pw_below_drewN | apply below_drew1 | refine below_set ?_ (IsS64.ge HI440.out)) | exact HB.out)⟩

/-! ### spec_DrawBipartiteGraph: function 11 -/
def spec_DrawBipartiteGraph.f (k : Nat) (l0 : List Int) : Option (Int × Int) := (spec_l1New.f k l0).bind fun bt444 => ((spec_l1Below.f bt444.1 bt444.2.1 bt444.2.2 7).bind fun bt448 => ((spec_l1Below.f bt444.1 bt448.2.1 bt448.2.2 6).bind fun bt451 => (some (wrap64 (bt448.1 - 1), bt451.1))))
set_option maxHeartbeats 8000000 in
set_option maxRecDepth 100000 in
theorem spec_DrawBipartiteGraph.calls (k : Nat) (A0 : Option Addr) (c0 : Nat) (l0 : List Int) (r1 : Int) (r2 : Int) (w : World) (hr0 : Kd.C (Kd.int .u8) w A0 l0.length l0) (hc0 : l0.length ≤ c0) (h : spec_DrawBipartiteGraph.f k l0 = some (r1, r2)) :
  Calls Tryz.prog 11 #[.slice A0 l0.length c0] w fun e w' => e = .returned (.tuple #[.int .i64 r1, .int .i64 r2]) ∧ Below w.heap.size w w' := by
 have HR0 := Aside0.mk hr0
 have HC0 := Aside0.mk hc0
 clear hr0 hc0
 have HB := Aside0.mk (Below.refl w.heap.size w)
 have H : ((spec_l1New.f k l0).bind fun bt444 => ((spec_l1Below.f bt444.1 bt444.2.1 bt444.2.2 7).bind fun bt448 => ((spec_l1Below.f bt444.1 bt448.2.1 bt448.2.2 6).bind fun bt451 => (some (wrap64 (bt448.1 - 1), bt451.1))))) = some (r1, r2) := h
 clear h
 obtain ⟨⟨t444, t445, t446⟩, A2, H⟩ := bs H
 try dsimp only at H
 obtain ⟨⟨t448, t449, t450⟩, A3, H⟩ := bs H
 try dsimp only at H
 obtain ⟨⟨t451, t452, t453⟩, A4, H⟩ := bs H
 try dsimp only at H
 simp only [Option.some.injEq, Prod.mk.injEq] at H
 obtain ⟨rfl, rfl⟩ := H
 go_enter Tryz.func11, Tryz.ntmps11
 go_wp2_with (first | ((with_reducible refine gate_callee (f := 38) rfl ?_); refine goesL_ (some 6) rfl rfl Tryz.func38 (by kernel_rfl) rfl #[.slice A0 l0.length c0] rfl mp_ ?_; (with_reducible refine (spec_l1New.calls k _ _ l0 t444 t445 t446 w _ ?side1 ?side2 ?side3 A2.out).mono ?_); (case side1 => exact tb); (case side2 => exact HR0.out); (case side3 => exact HC0.out); rintro e w5 ⟨g447, rfl, hi, hb, hb2⟩; refine ⟨_, rfl, ?_⟩; replace HB := Aside0.mk (hb); have HI447 := Aside0.mk (hi)) | ((with_reducible refine gate_callee (f := 48) rfl ?_); refine goesL_ (some 8) rfl rfl Tryz.func48 (by kernel_rfl) rfl #[.pointer (some ⟨g447, 0, none⟩), .int .i64 7] rfl mp_ ?_; (with_reducible refine (spec_l1Below.calls g447 t444 t445 t446 7 t448 t449 t450 w _ ?side1 ?side2 A3.out).mono ?_); (case side1 => repeat (first | (with_reducible first | exact HI447.out | apply IsS64.alloc | apply IsS64.drewN | apply IsS64.drew | apply IsS64.set_1 | apply IsS64.set_2) | exact HI447.out)); (case side2 => repeat (first | (with_reducible first | exact HB.out | apply below_alloc | apply pw_below_drewN | apply below_drew1 | refine below_set ?_ (IsS64.ge HI447.out)) | exact HB.out)); rintro e w6 ⟨rfl, hi, hb, hk⟩; refine ⟨_, rfl, ?_⟩; replace HB := Aside0.mk (hb); replace HI447 := Aside0.mk (hi)) | ((with_reducible refine gate_callee (f := 48) rfl ?_); refine goesL_ (some 11) rfl rfl Tryz.func48 (by kernel_rfl) rfl #[.pointer (some ⟨g447, 0, none⟩), .int .i64 6] rfl mp_ ?_; (with_reducible refine (spec_l1Below.calls g447 t444 t449 t450 6 t451 t452 t453 w _ ?side1 ?side2 A4.out).mono ?_); (case side1 => repeat (first | (with_reducible first | exact HI447.out | apply IsS64.alloc | apply IsS64.drewN | apply IsS64.drew | apply IsS64.set_1 | apply IsS64.set_2) | exact HI447.out)); (case side2 => repeat (first | (with_reducible first | exact HB.out | apply below_alloc | apply pw_below_drewN | apply below_drew1 | refine below_set ?_ (IsS64.ge HI447.out)) | exact HB.out)); rintro e w7 ⟨rfl, hi, hb, hk⟩; refine ⟨_, rfl, ?_⟩; replace HB := Aside0.mk (hb); replace HI447 := Aside0.mk (hi)))
 go_ret2
 exact ⟨rE, by repeat (first | (with_reducible first | exact HB.out | apply below_alloc | apply pw_below_drewN | apply below_drew1 | refine below_set ?_ (IsS64.ge HI447.out)) | exact HB.out)⟩

/-! ### spec_DrawRingGraph: function 12 -/
def spec_DrawRingGraph.f (k : Nat) (l0 : List Int) : Option (Int) := (spec_l1New.f k l0).bind fun bt454 => ((spec_l1Below.f bt454.1 bt454.2.1 bt454.2.2 9).bind fun bt458 => (some bt458.1))
set_option maxHeartbeats 8000000 in
set_option maxRecDepth 100000 in
theorem spec_DrawRingGraph.calls (k : Nat) (A0 : Option Addr) (c0 : Nat) (l0 : List Int) (r : Int) (w : World) (hr0 : Kd.C (Kd.int .u8) w A0 l0.length l0) (hc0 : l0.length ≤ c0) (h : spec_DrawRingGraph.f k l0 = some r) :
  Calls Tryz.prog 12 #[.slice A0 l0.length c0] w fun e w' => e = .returned (.int .i64 r) ∧ Below w.heap.size w w' := by
 have HR0 := Aside0.mk hr0
 have HC0 := Aside0.mk hc0
 clear hr0 hc0
 have HB := Aside0.mk (Below.refl w.heap.size w)
 have H : ((spec_l1New.f k l0).bind fun bt454 => ((spec_l1Below.f bt454.1 bt454.2.1 bt454.2.2 9).bind fun bt458 => (some bt458.1))) = some r := h
 clear h
 obtain ⟨⟨t454, t455, t456⟩, A2, H⟩ := bs H
 try dsimp only at H
 obtain ⟨⟨t458, t459, t460⟩, A3, H⟩ := bs H
 try dsimp only at H
 obtain rfl := Option.some.inj H
 go_enter Tryz.func12, Tryz.ntmps12
 go_wp2_with (first | ((with_reducible refine gate_callee (f := 38) rfl ?_); refine goesL_ (some 4) rfl rfl Tryz.func38 (by kernel_rfl) rfl #[.slice A0 l0.length c0] rfl mp_ ?_; (with_reducible refine (spec_l1New.calls k _ _ l0 t454 t455 t456 w _ ?side1 ?side2 ?side3 A2.out).mono ?_); (case side1 => exact tb); (case side2 => exact HR0.out); (case side3 => exact HC0.out); rintro e w4 ⟨g457, rfl, hi, hb, hb2⟩; refine ⟨_, rfl, ?_⟩; replace HB := Aside0.mk (hb); have HI457 := Aside0.mk (hi)) | ((with_reducible refine gate_callee (f := 48) rfl ?_); refine goesL_ (some 5) rfl rfl Tryz.func48 (by kernel_rfl) rfl #[.pointer (some ⟨g457, 0, none⟩), .int .i64 9] rfl mp_ ?_; (with_reducible refine (spec_l1Below.calls g457 t454 t455 t456 9 t458 t459 t460 w _ ?side1 ?side2 A3.out).mono ?_); (case side1 => repeat (first | (with_reducible first | exact HI457.out | apply IsS64.alloc | apply IsS64.drewN | apply IsS64.drew | apply IsS64.set_1 | apply IsS64.set_2) | exact HI457.out)); (case side2 => repeat (first | (with_reducible first | exact HB.out | apply below_alloc | apply pw_below_drewN | apply below_drew1 | refine below_set ?_ (IsS64.ge HI457.out)) | exact HB.out)); rintro e w5 ⟨rfl, hi, hb, hk⟩; refine ⟨_, rfl, ?_⟩; replace HB := Aside0.mk (hb); replace HI457 := Aside0.mk (hi)))
 go_ret
 exact ⟨rE, by repeat (first | (with_reducible first | exact HB.out | apply below_alloc | apply pw_below_drewN | apply below_drew1 | refine below_set ?_ (IsS64.ge HI457.out)) | exact HB.out)⟩

end Go.Proofs.YtafpbabiahjjaaaGreatDoor.PFnGraphs
