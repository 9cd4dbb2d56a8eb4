-- written by a copy of the print that takes contracts by hand (stubprint.py)
import Derived.Test.YtafpbabiahjjaaaGreatDoorWSpanB
import Derived.Test.YtafpbabiahjjaaaGreatDoorJoin
import Derived.Test.YtafpbabiahjjaaaGreatDoorPFnGraphsx0
import Derived.Test.YtafpbabiahjjaaaGreatDoorPFnGraphsx4
import Derived.Test.YtafpbabiahjjaaaGreatDoorPFnGraphsx17
namespace Go.Proofs.YtafpbabiahjjaaaGreatDoor.PFnGraphs
open Go.RowKit Go.Proofs.YtafpbabiahjjaaaGreatDoorW.PrintWords Go.Proofs.YtafpbabiahjjaaaGreatDoorW.PrintLast Go.Proofs.YtafpbabiahjjaaaGreatDoorW.PrintMore
attribute [local go_sem] max2_int min2_int max_two min_two max_three min_three max_four min_four   -- for this text's walks alone
set_option linter.unusedVariables false
set_option linter.unusedSimpArgs false

/-! ### spec_LeastGenus: function 31 -/
def spec_LeastGenus.l0 : Nat → List Int → Int → Option (Int)
  | 0, _, _ => none
  | k + 1, x3, x4 => if x4 < (x3.length : Int) then (if 0 ≤ x4 then (if (rd x3 x4) > 0 then (some x4) else (spec_LeastGenus.l0 k x3 (wrap64 (x4 + 1)))) else (none)) else (some (-1))
def spec_LeastGenus.f (k : Nat) (l0 : List (List Int)) : Option (Int) := (spec_GenusRow.f k l0).bind fun t648 => (spec_LeastGenus.l0 k t648 0)
set_option maxHeartbeats 8000000 in
set_option maxRecDepth 100000 in
theorem spec_LeastGenus.calls (k : Nat) (A0 : Option Addr) (c0 : Nat) (l0 : List (List Int)) (r : Int) (w : World) (hr0 : Kd.C (Kd.slice 3 (Kd.int .i64)) w A0 l0.length l0) (hc0 : l0.length ≤ c0) (h : spec_LeastGenus.f k l0 = some r) :
    Calls Tryz.prog 31 #[.slice A0 l0.length c0] w fun e w' => e = .returned (.int .i64 r) ∧ Below w.heap.size w w' := by
  have HR0 := Aside0.mk hr0
  have HC0 := Aside0.mk hc0
  clear hr0 hc0
  have HB := Aside0.mk (Below.refl w.heap.size w)
  have H : ((spec_GenusRow.f k l0).bind fun t648 => (spec_LeastGenus.l0 k t648 0)) = some r := h
  clear h
  obtain ⟨t648, A2, H⟩ := bs H
  have H' := Aside0.mk H
  clear H
  go_enter Tryz.func31, Tryz.ntmps31
  go_wp2_with (first | ((with_reducible refine gate_callee (f := 15) rfl ?_); refine goesL_ (some 6) rfl rfl Tryz.func15 (by kernel_rfl) rfl #[.slice A0 l0.length c0] rfl mp_ ?_; (with_reducible refine (spec_GenusRow.calls k _ _ l0 t648 _ ?side1 ?side2 A2.out).mono ?_); (case side1 => exact C_l HR0.out); (case side2 => exact HC0.out); rintro e w3 ⟨v649, rfl, ho0, hb⟩; refine ⟨_, rfl, ?_⟩; have HO650 := Aside0.mk (Kd.R_lower ho0 (below_size tb)); replace HB := Aside0.mk (below_step tb hb)))
  go_loopg [4] k (fun kq v4 w' => ∃ (x4_1 : Int), v4 = .int .i64 x4_1 ∧ Aside0 (spec_LeastGenus.l0 kq t648 x4_1 = some r) ∧ Aside0 (kq ≤ k) ∧ Aside0 (Kd.R (Kd.int .i64) 3 w' w.heap.size (fun _ => True) v649 t648) ∧ Aside0 (Below w.heap.size w w'))
  case atStart => exact ⟨(0), rS, H', ⟨Nat.le_refl _⟩, ⟨R_l HO650.out⟩, ⟨tb⟩⟩
  case round =>
    clear H'
    try clear c1
    try clear p2
    try clear c3
    obtain ⟨x4_1, rfl, HA, HK1, HO_3, HB⟩ := hrel
    cases gk with
    | zero => exact absurd HA.out (by simp [spec_LeastGenus.l0])
    | succ k1 =>
      have H := HA.out
      clear HA
      simp only [spec_LeastGenus.l0] at H
      obtain ⟨c4b0, H⟩ | ⟨c4b0, H⟩ := gi H
      · obtain ⟨c5b0, H⟩ := gdt H
        by_cases c6 : (rd t648 x4_1) > 0
        · rw [if_pos c6] at H
          have c6b0 : decide (0 < (rd t648 x4_1)) = true := decide_eq_true c6
          clear c6
          obtain rfl := Option.some.inj H
          obtain ⟨Ao7, co7, eo7⟩ := Kd.R_slice HO_3.out
          subst eo7
          have p651 : 0 ≤ (x4_1 : Int) := dT
          have q651 : x4_1 < (t648.length : Int) := dT
          obtain ⟨ad651, e651, hx651_0⟩ := Kd.at_int (Kd.R_reads' HO_3.out).2.2 x4_1 p651 q651
          cases e651
          replace p651 := eq_true p651
          replace q651 := eq_true q651
          go_wp2
          go_ret
          exact ⟨rE, tb⟩
        · rw [if_neg c6] at H
          have c6b0 : decide (0 < (rd t648 x4_1)) = false := decide_eq_false c6
          clear c6
          have H' := Aside0.mk H
          clear H
          obtain ⟨Ao8, co8, eo8⟩ := Kd.R_slice HO_3.out
          subst eo8
          have p651 : 0 ≤ (x4_1 : Int) := dT
          have q651 : x4_1 < (t648.length : Int) := dT
          obtain ⟨ad651, e651, hx651_0⟩ := Kd.at_int (Kd.R_reads' HO_3.out).2.2 x4_1 p651 q651
          cases e651
          replace p651 := eq_true p651
          replace q651 := eq_true q651
          go_wp2
          go_roundg k1
          case measure => exact oK
          case rel => exact ⟨(wrap64 (x4_1 + 1)), rS, H', ⟨oK⟩, ⟨R_l HO_3.out⟩, ⟨tb⟩⟩
      · obtain rfl := Option.some.inj H
        obtain ⟨Ao9, co9, eo9⟩ := Kd.R_slice HO_3.out
        subst eo9
        go_wp2
        go_ret
        exact ⟨rE, tb⟩

/-! ### impl_FormatInt: function 57 -/
def impl_FormatInt.f (a0 : Int) : Option (ByteArray) := if -9223372036854775808 ≤ a0 ∧ a0 ≤ 9223372036854775807 then some (⟨(Lib.itoa a0).toArray⟩ : ByteArray) else none
set_option maxHeartbeats 8000000 in
set_option maxRecDepth 100000 in
theorem impl_FormatInt.calls (a0 : Int) (r : ByteArray) (w : World) (h : impl_FormatInt.f a0 = some r) (ht : Tab10 w) :
    Calls Tryz.prog 57 #[.int .i64 a0] w fun e w' => e = .returned (.string r) ∧ Below w.heap.size w w' := by
  have HB := Aside0.mk (Below.refl w.heap.size w)
  unfold impl_FormatInt.f at h
  by_cases c : -9223372036854775808 ≤ a0 ∧ a0 ≤ 9223372036854775807
  · rw [if_pos c] at h
    obtain rfl := Option.some.inj h
    go_enter Tryz.func57, Tryz.ntmps57
    go_wp2_with fail
    (go_at_call 74; (with_reducible refine (strconv_Itoa.calls a0 c.1 c.2 _ ht).mono ?_))
    rintro e w1 ⟨rfl, hb⟩
    go_wp2
    go_ret
    exact ⟨rfl, below_step HB.out hb⟩
  · rw [if_neg c] at h
    exact absurd h (by simp)

-- NOT PRINTED: function 99 (abi_NoEscape)

-- NOT PRINTED: function 93 (strings_Builder_copyCheck)

-- NOT PRINTED: function 100 (bytealg_MakeNoZero)

-- NOT PRINTED: function 94 (strings_Builder_grow)

-- NOT PRINTED: function 85 (strings_Builder_Grow)

-- NOT PRINTED: function 86 (strings_Builder_WriteString)

-- NOT PRINTED: function 87 (strings_Builder_String)

-- NOT PRINTED: function 75 (strings_Join)

/-! ### impl_Join: function 58 -/
def impl_Join.f (l0 : List ByteArray) (a1 : ByteArray) : Option (ByteArray) :=
  if l0.length ≤ 140737488355328 ∧ (Lib.join (l0.map (·.data.toList)) a1.data.toList).length ≤ 140737488355328 then some (⟨(Lib.join (l0.map (·.data.toList)) a1.data.toList).toArray⟩ : ByteArray) else none
set_option maxHeartbeats 8000000 in
set_option maxRecDepth 100000 in
theorem impl_Join.calls (A0 : Option Addr) (c0 : Nat) (l0 : List ByteArray) (a1 : ByteArray) (r : ByteArray) (w : World) (hr0 : Kd.C Kd.string w A0 l0.length l0) (hc0 : l0.length ≤ c0) (h : impl_Join.f l0 a1 = some r) :
    Calls Tryz.prog 58 #[.slice A0 l0.length c0, .string a1] w fun e w' => e = .returned (.string r) ∧ Below w.heap.size w w' := by
  have HB := Aside0.mk (Below.refl w.heap.size w)
  unfold impl_Join.f at h
  by_cases c : l0.length ≤ 140737488355328 ∧ (Lib.join (l0.map (·.data.toList)) a1.data.toList).length ≤ 140737488355328
  · rw [if_pos c] at h
    obtain rfl := Option.some.inj h
    clear h
    go_enter Tryz.func58, Tryz.ntmps58
    go_wp2_with fail
    (go_at_call 75; (with_reducible refine (strings_Join.calls A0 c0 l0 a1 _ hr0 hc0 c.1 c.2).mono ?_))
    rintro e w1 ⟨rfl, hb⟩
    go_wp2
    go_ret
    exact ⟨rfl, below_step HB.out hb⟩
  · rw [if_neg c] at h
    exact absurd h (by simp)

/-! ### impl_GraphText: function 32 -/
def impl_GraphText.l0 : Nat → List ByteArray → List (List Int) → Int → Int → Option (ByteArray)
  | 0, _, _, _, _ => none
  | k + 1, x3, x10, x11, x12 => if x12 < x11 then (if 0 ≤ x12 then (if x12 < (x10.length : Int) then (if 0 < ((rd_L2 x10 x12).length : Int) then ((impl_FormatInt.f (rd (rd_L2 x10 x12) 0)).bind fun t678 => (if 1 < ((rd_L2 x10 x12).length : Int) then ((impl_FormatInt.f (rd (rd_L2 x10 x12) 1)).bind fun t680 => (if t678.size + t680.size ≤ 9223372036854775807 then (if x3.length < 8796093022208 then (impl_GraphText.l0 k (x3 ++ [t678 ++ t680]) x10 x11 (wrap64 (x12 + 1))) else (none)) else (none))) else (none))) else (none)) else (none)) else (none)) else ((impl_Join.f x3 (⟨#[32]⟩ : ByteArray)).bind fun t684 => (some t684))
def impl_GraphText.f (k : Nat) (l0 : List (List Int)) : Option (ByteArray) := (impl_IsGraph.f k l0).bind fun t672 => (if t672 = true then (impl_GraphText.l0 k (([] : List ByteArray)) l0 (l0.length : Int) 0) else (some (⟨#[]⟩ : ByteArray)))
def impl_GraphText.T7 : Bool × List (List Nat × List Nat) := (true, [([], []), ([], []), ([1], [1]), ([2], [2]), ([3], [3]), ([], []), ([5], [5]), ([6], [6]), ([7, 4], [7]), ([4, 8], [4, 8]), ([9], [9]), ([0, 10, 8], [0, 10]), ([11, 11, 0, 1, 2, 3, 4, 5, 6, 7, 8, 9, 10, 11], [0, 11])])
def impl_GraphText.B7 : List Nat := [0, 0, 2, 6, 14, 0, 32, 96, 254, 510, 1022, 2047, 4095]
theorem impl_GraphText.tab7 : rtab .any (opsOf Tryz.f32 7) = impl_GraphText.T7 := by kernel_rfl
theorem impl_GraphText.bits7 : waitsOk impl_GraphText.T7.2 impl_GraphText.B7 = true := by kernel_rfl
set_option maxHeartbeats 8000000 in
set_option maxRecDepth 100000 in
theorem impl_GraphText.calls (k : Nat) (A0 : Option Addr) (c0 : Nat) (l0 : List (List Int)) (r : ByteArray) (w : World) (hr0 : Kd.C (Kd.slice 3 (Kd.int .i64)) w A0 l0.length l0) (hc0 : l0.length ≤ c0) (h : impl_GraphText.f k l0 = some r) (ht : Tab10 w) :
    Calls Tryz.prog 32 #[.slice A0 l0.length c0] w fun e w' => e = .returned (.string r) ∧ Below w.heap.size w w' := by
  have HR0 := Aside0.mk hr0
  have HC0 := Aside0.mk hc0
  clear hr0 hc0
  have HB := Aside0.mk (Below.refl w.heap.size w)
  have H : ((impl_IsGraph.f k l0).bind fun t672 => (if t672 = true then (impl_GraphText.l0 k (([] : List ByteArray)) l0 (l0.length : Int) 0) else (some (⟨#[]⟩ : ByteArray)))) = some r := h
  clear h
  obtain ⟨t672, A2, H⟩ := bs H
  by_cases c3 : t672 = true
  · subst c3
    rw [if_pos rfl] at H
    generalize hy673 : (([] : List ByteArray) : List ByteArray) = y673 at H
    have Ny673 := Aside0.mk hy673.symm; clear hy673
    have H' := Aside0.mk H
    clear H
    go_enter Tryz.func32, Tryz.ntmps32
    go_wp2_with (first | ((with_reducible refine gate_callee (f := 24) rfl ?_); refine goesL_ (some 7) rfl rfl Tryz.func24 (by kernel_rfl) rfl #[.slice A0 l0.length c0] rfl mp_ ?_; (with_reducible refine (impl_IsGraph.calls k _ _ l0 true _ ?side1 ?side2 A2.out).mono ?_); (case side1 => exact C_l HR0.out); (case side2 => exact HC0.out); rintro e w' ⟨rfl, ⟨nd, rfl⟩⟩; refine ⟨_, rfl, ?_⟩) | ((with_reducible refine gate_dst (N := 9) rfl ?_); refine Kd.R_lit Kd.string _ 9 ?hg (N := 9) ?hd (xs := ([] : List ByteArray)) (inner := []) (ok := fun _ => True) (okp := fun _ => True) ?hr ?hp (fun _ hk => hk) trivial (Below.refl _ _) (Nat.le_refl _) (by simp) ?_; (case hd => rfl); (case hg => rfl); (case hr => exact gS); (case hp => exact (Reps.none _ _)); intro v674 w4 ho5 hb hg_ hnew_; clear hg_ hnew_; (first | rw [← Ny673.out] at ho5 | (simp only [Int.reduceToNat] at ho5; rw [← Ny673.out] at ho5)); have HO675 := Aside0.mk (Kd.R_lower ho5 (below_size tb)); replace HB := Aside0.mk (below_step tb hb); clear hb ho5))
    go_loopg [3, 12] k (fun kq v3 v12 w' => ∃ (x3_1 : List ByteArray) (x12_1 : Int), v12 = .int .i64 x12_1 ∧ Aside0 (impl_GraphText.l0 kq x3_1 l0 (l0.length : Int) x12_1 = some r) ∧ Aside0 (kq ≤ k) ∧ Aside0 (Kd.R Kd.string 9 w' w.heap.size (fun _ => True) v3 x3_1) ∧ Aside0 (Below w.heap.size w w'))
    case atStart => exact ⟨(y673), (0), rS, H', ⟨Nat.le_refl _⟩, ⟨R_l HO675.out⟩, ⟨tb⟩⟩
    case round =>
      clear H'
      try clear c2
      try clear p2
      try clear c3
      obtain ⟨x3_1, x12_1, rfl, HA, HK1, HO_3, HB⟩ := hrel
      cases gk with
      | zero => exact absurd HA.out (by simp [impl_GraphText.l0])
      | succ k1 =>
        have H := HA.out
        clear HA
        simp only [impl_GraphText.l0] at H
        obtain ⟨c6b0, H⟩ | ⟨c6b0, H⟩ := gi H
        · obtain ⟨c7b0, H⟩ := gdt H
          obtain ⟨c8b0, H⟩ := gdt H
          obtain ⟨c9, H⟩ := gd H
          have c9b0 : decide (0 < ((rd_L2 l0 x12_1).length : Int)) = true := decide_eq_true c9
          have c9b1 : decide (0 < (rd_L2 l0 x12_1).length) = true := decide_eq_true (by omega)
          clear c9
          obtain ⟨t678, A10, H⟩ := bs H
          obtain ⟨c11, H⟩ := gd H
          have c11b0 : decide (1 < ((rd_L2 l0 x12_1).length : Int)) = true := decide_eq_true c11
          have c11b1 : decide (1 < (rd_L2 l0 x12_1).length) = true := decide_eq_true (by omega)
          clear c11
          obtain ⟨t680, A12, H⟩ := bs H
          obtain ⟨c13, H⟩ := gd H
          have c13b0 := eq_true c13
          have c13b1 : decide (t678.size + t680.size ≤ 9223372036854775807) = true := decide_eq_true c13
          try have c13b2 : (9223372036854775807 < t678.size + t680.size) = False := eq_false (Nat.not_lt.2 c13)
          obtain ⟨LMc14, H⟩ := gda H
          generalize hy681 : (x3_1 ++ [t678 ++ t680] : List ByteArray) = y681 at H
          have Ny681 := Aside0.mk hy681.symm; clear hy681
          have H' := Aside0.mk H
          clear H
          have p676 : 0 ≤ (x12_1 : Int) := dT
          have q676 : x12_1 < (l0.length : Int) := dT
          obtain ⟨ad676, A676_0, c676_0, e676, hx676_0, hl676_0, hi676_0⟩ := at_L2 HR0.out x12_1 p676 q676
          cases e676
          replace hx676_0 := cB HB hx676_0
          have HR676_0 := Aside0.mk hi676_0
          have HC676_0 := Aside0.mk hl676_0
          clear hi676_0 hl676_0
          replace p676 := eq_true p676
          replace q676 := eq_true q676
          try go_wp2
          replace HO_3 := Aside0.mk (Kd.R_drew HO_3.out); replace HB := Aside0.mk (below_drew1 HB.out)
          have p677 : 0 ≤ (0 : Int) := (by omega)
          have q677 : 0 < ((rd_L2 l0 x12_1).length : Int) := dT
          obtain ⟨ad677, e677, hx677_0⟩ := Kd.at_int HR676_0.out 0 p677 q677
          have hw677_0 := hx677_0
          (try rw [show ((0 : Int)).toNat = 0 from rfl] at hw677_0)
          (try rw [show 0 * 1 = 0 from rfl] at hw677_0)
          (try rw [Addr.add_zero'] at hw677_0)
          cases e677
          have qi677 : (0 < (rd_L2 l0 x12_1).length) = True := eq_true (by omega)
          (try rw [show ((0 : Int)).toNat = 0 from rfl] at hx677_0)
          (try rw [Addr.add_zero'] at hx677_0)
          replace hx677_0 := cB HB hx677_0
          replace p677 := eq_true p677
          replace q677 := eq_true q677
          have p679 : 0 ≤ (1 : Int) := (by omega)
          have q679 : 1 < ((rd_L2 l0 x12_1).length : Int) := dT
          obtain ⟨ad679, e679, hx679_0⟩ := Kd.at_int HR676_0.out 1 p679 q679
          have hw679_0 := hx679_0
          (try rw [show ((1 : Int)).toNat = 1 from rfl] at hw679_0)
          (try rw [show 1 * 1 = 1 from rfl] at hw679_0)
          (try simp only [Nat.reduceMul, Nat.reduceEqDiff, Go.Addr.add, ↓reduceIte] at hw679_0)
          obtain rfl : ad677 = ad679 := (by injection e679)
          (try simp only [show (1 : Int).toNat = 1 from rfl, Nat.reduceMul, Nat.reduceEqDiff, Go.Addr.add, ↓reduceIte] at hx679_0)
          have qi679 : (1 < (rd_L2 l0 x12_1).length) = True := eq_true (by omega)
          (try rw [show ((1 : Int)).toNat = 1 from rfl] at hx679_0)
          replace hx679_0 := cB HB hx679_0
          replace p679 := eq_true p679
          replace q679 := eq_true q679
          refine start_ (n := 13) (S := fun w' => w'.cell? ad677 = some (.int .i64 (rd (rd_L2 l0 x12_1) 0)) ∧ w'.cell? ⟨ad677.block, ad677.off + 1, none⟩ = some (.int .i64 (rd (rd_L2 l0 x12_1) 1))) (ds := []) #[false, false, false, false, false, false, false, false, false, false, false, false, false] (by kernel_rfl) rfl rfl ⟨((HB.out.cell (World.block_lt_of_cell? w _ hw677_0)).trans hw677_0), ((HB.out.cell (World.block_lt_of_cell? w _ hw679_0)).trans hw679_0)⟩ (fun hHeld => ?_); refine with_tabW impl_GraphText.tab7 impl_GraphText.bits7 (fun HT_ HW_ => ?_)
          generalize wr.drew = w15 at HO_3 HB hx677_0 hx679_0 hHeld ⊢
          refine pu_ 0 (some 16) ?_
          refine pu_ 1 (some 17) ?_
          refine pu_ 2 (some 18) ?_
          refine pu_ 5 (some 21) ?_
          refine pu_ 6 (some 22) ?_
          refine take_ (i := 3) (N := some 19) (v := ?_) (a' := ?_) #[true, true, true, true, false, true, true, false, false, false, false, false, false] rfl rfl (take_ofW HT_.out HW_.out (by kernel_rfl)) (fun _ _ _ h => h) (Or.inl ⟨by rfl, ?_⟩) hHeld ?_ ?_
          rotate_left
          · rintro w' ⟨s0, s1⟩
            go_simp
            with_reducible rfl
          rotate_left
          · simp only [Act.put, List.setIfInBounds_toArray, List.set_cons_zero, List.set_cons_succ, i64_w, i32_w]
            rfl
          refine take_ (i := 7) (N := some 23) (v := ?_) (a' := ?_) #[true, true, true, true, false, true, true, true, false, false, false, false, false] rfl rfl (take_ofW HT_.out HW_.out (by kernel_rfl)) (fun _ _ _ h => h) (Or.inl ⟨by rfl, ?_⟩) hHeld ?_ ?_
          rotate_left
          · rintro w' ⟨s0, s1⟩
            go_simp
            with_reducible rfl
          rotate_left
          · simp only [Act.put, List.setIfInBounds_toArray, List.set_cons_zero, List.set_cons_succ, i64_w, i32_w]
            rfl
          refine one_ (i := 4) (N := some 20) #[true, true, true, true, true, true, true, true, false, false, false, false, false] rfl rfl (one_of HT_.out (by kernel_rfl)) (by decide) (fun K hK => ?_)
          refine goes_ Tryz.func57 (by kernel_rfl) rfl #[.int .i64 (rd (rd_L2 l0 x12_1) 0)] (by rfl) rfl rfl mp_ ?_
          with_reducible refine (impl_FormatInt.calls (rd (rd_L2 l0 x12_1) 0) t678 _ A10.out (tab10_b ht tb)).mono ?_
          rintro e w16 ⟨rfl, hb⟩
          refine ⟨_, rfl, ?_⟩
          replace HO_3 := Aside0.mk (rB HO_3.out hb); replace HB := Aside0.mk (below_step tb hb)
          (try clear hb)
          (try clear hb2)
          (try clear hk)
          (try clear hi)
          refine hK.out _ _ ⟨((HB.out.cell (World.block_lt_of_cell? w _ hw677_0)).trans hw677_0), ((HB.out.cell (World.block_lt_of_cell? w _ hw679_0)).trans hw679_0)⟩ (fun hHeld => ?_)
          clear hK K
          refine norm_ (a' := ?_) ?_ ?_
          rotate_left
          · show Act.put _ (some 20) _ = _
            simp only [Act.put, List.setIfInBounds_toArray, List.set_cons_zero, List.set_cons_succ, i64_w, i32_w]
            rfl
          refine one_ (i := 8) (N := some 24) #[true, true, true, true, true, true, true, true, true, false, false, false, false] rfl rfl (one_of HT_.out (by kernel_rfl)) (by decide) (fun K hK => ?_)
          refine goes_ Tryz.func57 (by kernel_rfl) rfl #[.int .i64 (rd (rd_L2 l0 x12_1) 1)] (by rfl) rfl rfl mp_ ?_
          with_reducible refine (impl_FormatInt.calls (rd (rd_L2 l0 x12_1) 1) t680 _ A12.out (tab10_b ht tb)).mono ?_
          rintro e w17 ⟨rfl, hb⟩
          refine ⟨_, rfl, ?_⟩
          replace HO_3 := Aside0.mk (rB HO_3.out hb); replace HB := Aside0.mk (below_step tb hb)
          (try clear hb)
          (try clear hb2)
          (try clear hk)
          (try clear hi)
          refine hK.out _ _ ⟨((HB.out.cell (World.block_lt_of_cell? w _ hw677_0)).trans hw677_0), ((HB.out.cell (World.block_lt_of_cell? w _ hw679_0)).trans hw679_0)⟩ (fun hHeld => ?_)
          clear hK K
          refine norm_ (a' := ?_) ?_ ?_
          rotate_left
          · show Act.put _ (some 24) _ = _
            simp only [Act.put, List.setIfInBounds_toArray, List.set_cons_zero, List.set_cons_succ, i64_w, i32_w]
            rfl
          refine pu_ 9 (some 25) ?_
          refine one_ (i := 10) (N := some 26) #[true, true, true, true, true, true, true, true, true, true, true, false, false] rfl rfl (one_of HT_.out (by kernel_rfl)) (by decide) (fun K hK => ?_)
          refine value_ (w1 := ?_) (v := ?_) (by rfl) rfl ?_ ?_
          rotate_left 2
          · go_simp
            constructor
            · rfl
            · rfl
          refine hK.out _ _ ⟨(World.cell?_alloc_lt _ _ _ (World.block_lt_of_cell? _ _ (((HB.out.cell (World.block_lt_of_cell? w _ hw677_0)).trans hw677_0)))).trans (((HB.out.cell (World.block_lt_of_cell? w _ hw677_0)).trans hw677_0)), (World.cell?_alloc_lt _ _ _ (World.block_lt_of_cell? _ _ (((HB.out.cell (World.block_lt_of_cell? w _ hw679_0)).trans hw679_0)))).trans (((HB.out.cell (World.block_lt_of_cell? w _ hw679_0)).trans hw679_0))⟩ (fun hHeld => ?_)
          clear hK K
          refine norm_ (a' := ?_) ?_ ?_
          rotate_left
          · show Act.put _ (some 26) _ = _
            simp only [Act.put, List.setIfInBounds_toArray, List.set_cons_zero, List.set_cons_succ, i64_w, i32_w]
            rfl
          refine one_ (i := 11) (N := some 27) #[true, true, true, true, true, true, true, true, true, true, true, true, false] rfl rfl (one_of HT_.out (by kernel_rfl)) (by decide) (fun K hK => ?_)
          refine Kd.R_append_step Kd.string (w0 := w) w.heap.size (by rfl) (.tmp 16) (.tmp 26) 51 9 (.string ⟨#[]⟩) 16 rfl Tryz.underlying51 info9 rfl (by decide) (by omega) u3 x3_1 (t678 ++ t680) [.string (t678 ++ t680)] (fun _ => True) (fun _ => False) rfl rfl ?aP (fun _ hk => hk.elim) ?aF ?aO ?aB ?aS ?aL ?_
          (case aP => exact rfl)
          (case aB => exact tb)
          (case aF => exact (fun _ _ => trivial))
          (case aO => exact (R_l HO_3.out))
          (case aS => exact (below_size tb))
          (case aL => have := LMc14.out; omega)
          intro v682 w18 ho hb hg hat
          rw [← Ny681.out] at ho
          replace HB := Aside0.mk (hb); have HO683 := Aside0.mk (ho); clear HO_3
          clear ho hb hg hat
          refine hK.out _ _ ⟨((HB.out.cell (World.block_lt_of_cell? w _ hw677_0)).trans hw677_0), ((HB.out.cell (World.block_lt_of_cell? w _ hw679_0)).trans hw679_0)⟩ (fun hHeld => ?_)
          clear hK K
          refine norm_ (a' := ?_) ?_ ?_
          rotate_left
          · show Act.put _ (some 27) _ = _
            simp only [Act.put, List.setIfInBounds_toArray, List.set_cons_zero, List.set_cons_succ, i64_w, i32_w]
            rfl
          refine pu_ 12 (some 3) ?_
          refine done_ (done_of HT_.out (by kernel_rfl)) ?_
          try go_wp2
          go_roundg k1
          case measure => exact oK
          case rel => exact ⟨(y681), (wrap64 (x12_1 + 1)), rS, H', ⟨oK⟩, ⟨R_l HO683.out⟩, ⟨tb⟩⟩
        · obtain ⟨t684, A19, H⟩ := bs H
          obtain rfl := Option.some.inj H
          obtain ⟨Ao20, co20, eo20⟩ := Kd.R_slice HO_3.out
          subst eo20
          go_wp2_with (first | ((with_reducible refine gate_callee (f := 58) rfl ?_); refine goesL_ (some 30) rfl rfl Tryz.func58 (by kernel_rfl) rfl #[.slice Ao20 x3_1.length co20, .string (⟨#[32]⟩ : ByteArray)] rfl mp_ ?_; (with_reducible refine (impl_Join.calls _ _ x3_1 (⟨#[32]⟩ : ByteArray) t684 _ ?side1 ?side2 A19.out).mono ?_); (case side1 => exact C_l ((Kd.R_reads' HO_3.out).2.2)); (case side2 => exact (Kd.R_reads' HO_3.out).2.1); rintro e w21 ⟨rfl, hb⟩; refine ⟨_, rfl, ?_⟩; replace HO_3 := Aside0.mk (rB HO_3.out hb); replace HB := Aside0.mk (below_step tb hb)))
          go_ret
          exact ⟨rE, tb⟩
  · replace c3 := Bool.eq_false_iff.mpr c3
    subst c3
    rw [if_neg (show ¬ (false = true) by decide)] at H
    obtain rfl := Option.some.inj H
    go_enter Tryz.func32, Tryz.ntmps32
    go_wp2_with (first | ((with_reducible refine gate_callee (f := 24) rfl ?_); refine goesL_ (some 7) rfl rfl Tryz.func24 (by kernel_rfl) rfl #[.slice A0 l0.length c0] rfl mp_ ?_; (with_reducible refine (impl_IsGraph.calls k _ _ l0 false _ ?side1 ?side2 A2.out).mono ?_); (case side1 => exact C_l HR0.out); (case side2 => exact HC0.out); rintro e w' ⟨rfl, ⟨nd, rfl⟩⟩; refine ⟨_, rfl, ?_⟩))
    go_ret
    exact ⟨rE, tb⟩

end Go.Proofs.YtafpbabiahjjaaaGreatDoor.PFnGraphs
