-- written by a copy of the print that takes contracts by hand (stubprint.py)
import Derived.Test.YtomjfejacjphnaaDoorWSpanB
import Derived.Test.YtomjfejacjphnaaDoorItoa
import Derived.Test.YtomjfejacjphnaaDoorPFnSlopesx0
import Derived.Test.YtomjfejacjphnaaDoorPFnSlopesx2
import Derived.Test.YtomjfejacjphnaaDoorPFnSlopesx5
namespace Go.Proofs.YtomjfejacjphnaaDoor.PFnSlopes
open Go.RowKit Go.Proofs.YtomjfejacjphnaaDoorW.PrintWords Go.Proofs.YtomjfejacjphnaaDoorW.PrintLast Go.Proofs.YtomjfejacjphnaaDoorW.PrintMore
attribute [local go_sem] max2_int min2_int max_two min_two max_three min_three max_four min_four   -- for this text's walks alone
set_option linter.unusedVariables false
set_option linter.unusedSimpArgs false

/-! ### laws_sameInts: function 21 -/
def laws_sameInts.l0 : Nat → List Int → List Int → Int → Option (Bool)
  | 0, _, _, _ => none
  | k + 1, x0, x1, x5 => if x5 < (x0.length : Int) then (if 0 ≤ x5 then (if x5 < (x1.length : Int) then (if (rd x0 x5) = (rd x1 x5) then (laws_sameInts.l0 k x0 x1 (wrap64 (x5 + 1))) else (some false)) else (none)) else (none)) else (some true)
def laws_sameInts.f (k : Nat) (l0 : List Int) (l1 : List Int) : Option (Bool) := if (l0.length : Int) = (l1.length : Int) then (laws_sameInts.l0 k l0 l1 0) else (some false)
set_option maxHeartbeats 8000000 in
set_option maxRecDepth 100000 in
theorem laws_sameInts.calls (k : Nat) (A0 : Option Addr) (c0 : Nat) (l0 : List Int) (A1 : Option Addr) (c1 : Nat) (l1 : List Int) (r : Bool) (w : World) (hr0 : Kd.C (Kd.int .i64) w A0 l0.length l0) (hc0 : l0.length ≤ c0) (hr1 : Kd.C (Kd.int .i64) w A1 l1.length l1) (hc1 : l1.length ≤ c1) (h : laws_sameInts.f k l0 l1 = some r) :
    Calls Tryd.prog 21 #[.slice A0 l0.length c0, .slice A1 l1.length c1] w fun e w' => e = .returned (.bool r) ∧ Drawn0 w w' := by
  have HR0 := Aside0.mk hr0
  have HC0 := Aside0.mk hc0
  clear hr0 hc0
  have HR1 := Aside0.mk hr1
  have HC1 := Aside0.mk hc1
  clear hr1 hc1
  have H : (if (l0.length : Int) = (l1.length : Int) then (laws_sameInts.l0 k l0 l1 0) else (some false)) = some r := h
  clear h
  by_cases c3 : (l0.length : Int) = (l1.length : Int)
  · rw [if_pos c3] at H
    have c3b0 : ((l0.length : Int) == (l1.length : Int)) = true := beq_iff_eq.mpr c3
    have c3b1 : ((l0.length : Int) != (l1.length : Int)) = false := bne_eq_false_iff_eq.mpr c3
    have c3b2 : (l0.length == l1.length) = true := by first | simpa using c3 | (simp at c3 ⊢; omega)
    clear c3
    have H' := Aside0.mk H
    clear H
    go_enter Tryd.func21, Tryd.ntmps21
    go_wp2
    repeat (go_quiet (fail); try go_wp2)
    go_loopg [5] k (fun kq v5 w' => ∃ (x5_1 : Int), v5 = .int .i64 x5_1 ∧ Aside0 (laws_sameInts.l0 kq l0 l1 x5_1 = some r) ∧ Aside0 (kq ≤ k) ∧ Drawn0 w w')
    case atStart => exact ⟨(0), rS, H', ⟨Nat.le_refl _⟩, tD⟩
    case round =>
      clear H'
      try clear c1
      try clear c2
      try clear p2
      try clear c3
      try clear c3b0
      try clear c3b1
      try clear c3b2
      obtain ⟨x5_1, rfl, HA, HK1, ⟨m1, rfl⟩⟩ := hrel
      cases gk with
      | zero => exact absurd HA.out (by simp [laws_sameInts.l0])
      | succ k1 =>
        have H := HA.out
        clear HA
        simp only [laws_sameInts.l0] at H
        obtain ⟨c4b0, H⟩ | ⟨c4b0, H⟩ := gi H
        · obtain ⟨c5b0, H⟩ := gdt H
          obtain ⟨c6b0, H⟩ := gdt H
          by_cases c7 : (rd l0 x5_1) = (rd l1 x5_1)
          · rw [if_pos c7] at H
            have c7b0 : ((rd l0 x5_1) == (rd l1 x5_1)) = true := beq_iff_eq.mpr c7
            have c7b1 : ((rd l0 x5_1) != (rd l1 x5_1)) = false := bne_eq_false_iff_eq.mpr c7
            clear c7
            have H' := Aside0.mk H
            clear H
            have p459 : 0 ≤ (x5_1 : Int) := dT
            have q459 : x5_1 < (l0.length : Int) := dT
            obtain ⟨ad459, e459, hx459_0⟩ := Kd.at_int HR0.out x5_1 p459 q459
            cases e459
            replace p459 := eq_true p459
            replace q459 := eq_true q459
            have p460 : 0 ≤ (x5_1 : Int) := dT
            have q460 : x5_1 < (l1.length : Int) := dT
            obtain ⟨ad460, e460, hx460_0⟩ := Kd.at_int HR1.out x5_1 p460 q460
            cases e460
            replace p460 := eq_true p460
            replace q460 := eq_true q460
            go_wp2
            repeat (go_quiet (fail); try go_wp2)
            go_roundg k1
            case measure => exact oK
            case rel => exact ⟨(wrap64 (x5_1 + 1)), rS, H', ⟨oK⟩, tD⟩
          · rw [if_neg c7] at H
            have c7b0 : ((rd l0 x5_1) == (rd l1 x5_1)) = false := beq_eq_false_iff_ne.mpr c7
            have c7b1 : ((rd l0 x5_1) != (rd l1 x5_1)) = true := bne_iff_ne.mpr c7
            obtain rfl := Option.some.inj H
            have p459 : 0 ≤ (x5_1 : Int) := dT
            have q459 : x5_1 < (l0.length : Int) := dT
            obtain ⟨ad459, e459, hx459_0⟩ := Kd.at_int HR0.out x5_1 p459 q459
            cases e459
            replace p459 := eq_true p459
            replace q459 := eq_true q459
            have p460 : 0 ≤ (x5_1 : Int) := dT
            have q460 : x5_1 < (l1.length : Int) := dT
            obtain ⟨ad460, e460, hx460_0⟩ := Kd.at_int HR1.out x5_1 p460 q460
            cases e460
            replace p460 := eq_true p460
            replace q460 := eq_true q460
            go_wp2
            repeat (go_quiet (fail); try go_wp2)
            go_ret
            exact ⟨rS, tD⟩
        · obtain rfl := Option.some.inj H
          go_wp2
          repeat (go_quiet (fail); try go_wp2)
          go_ret
          exact ⟨rS, tD⟩
  · rw [if_neg c3] at H
    have c3b0 : ((l0.length : Int) == (l1.length : Int)) = false := beq_eq_false_iff_ne.mpr c3
    have c3b1 : ((l0.length : Int) != (l1.length : Int)) = true := bne_iff_ne.mpr c3
    have c3b2 : (l0.length == l1.length) = false := by first | simpa using c3 | (simp at c3 ⊢; omega)
    obtain rfl := Option.some.inj H
    go_enter Tryd.func21, Tryd.ntmps21
    go_wp2
    repeat (go_quiet (fail); try go_wp2)
    go_ret
    exact ⟨rS, tD⟩

/-! ### impl_IsBasisPair: function 24 -/
def impl_IsBasisPair.f (k : Nat) (a0_0 : Int) (a0_1 : Int) (a1_0 : Int) (a1_1 : Int) : Option (Bool) := (impl_CrossNumber.f k a0_0 a0_1 a1_0 a1_1).bind fun t463 => (some (t463 == 1))
set_option maxHeartbeats 8000000 in
set_option maxRecDepth 100000 in
theorem impl_IsBasisPair.calls (k : Nat) (a0_0 : Int) (a0_1 : Int) (a1_0 : Int) (a1_1 : Int) (r : Bool) (w : World) (h : impl_IsBasisPair.f k a0_0 a0_1 a1_0 a1_1 = some r) :
    Calls Tryd.prog 24 #[.agg #[.int .i64 a0_0, .int .i64 a0_1], .agg #[.int .i64 a1_0, .int .i64 a1_1]] w fun e w' => e = .returned (.bool r) ∧ Below w.heap.size w w' := by
  have hu25 := Tryd.underlying25
  have HB := Aside0.mk (Below.refl w.heap.size w)
  have H : ((impl_CrossNumber.f k a0_0 a0_1 a1_0 a1_1).bind fun t463 => (some (t463 == 1))) = some r := h
  clear h
  obtain ⟨t463, A3, H⟩ := bs H
  obtain rfl := Option.some.inj H
  go_enter Tryd.func24, Tryd.ntmps24
  go_wp2_with (first | ((with_reducible refine gate_dst (N := 2) rfl ?_); refine box_event ?hg (N := 2) ?hd (cs := #[.int .i64 a0_0, .int .i64 a0_1]) (t := 25) ?hr ?_; (case hd => rfl); (case hg => rfl); (case hr => exact gS); intro gb461 hg w4 hbox hb; have BK461 := Aside0.mk (hbox); have GW461 := Aside0.mk (gW hg tb); have GE461 := Aside0.mk (gW hg tb); replace HB := Aside0.mk (below_step tb hb); clear hb hbox hg) | ((with_reducible refine gate_dst (N := 3) rfl ?_); refine box_event ?hg (N := 3) ?hd (cs := #[.int .i64 a1_0, .int .i64 a1_1]) (t := 25) ?hr ?_; (case hd => rfl); (case hg => rfl); (case hr => exact gS); intro gb462 hg w5 hbox hb; have BK462 := Aside0.mk (hbox); have GW462 := Aside0.mk (gW hg (tG1 GE461.out)); have GE462 := Aside0.mk (gW hg (tG1 GE461.out)); replace HB := Aside0.mk (below_step (tG1 GE461.out) hb); have NB461_462 := Aside0.mk (neL BK461 hg); have NB462_461 := Aside0.mk (neG BK461 hg); replace BK461 := Aside0.mk (bB BK461 hb); clear hb hbox hg; have hnb6 := NB461_462.out; have hnc6 := NB462_461.out; have hcz7_0 : w5.cell? ⟨gb461, 0, none⟩ = some (.int .i64 a0_0) := (blk_cell BK461.out 0).trans rfl; have hcz7_1 : w5.cell? ⟨gb461, 1, none⟩ = some (.int .i64 a0_1) := (blk_cell BK461.out 1).trans rfl; have hfz7_0 := blk_frozen BK461.out 0; have hfz7_1 := blk_frozen BK461.out 1; have hcz8_0 : w5.cell? ⟨gb462, 0, none⟩ = some (.int .i64 a1_0) := (blk_cell BK462.out 0).trans rfl; have hcz8_1 : w5.cell? ⟨gb462, 1, none⟩ = some (.int .i64 a1_1) := (blk_cell BK462.out 1).trans rfl; have hfz8_0 := blk_frozen BK462.out 0; have hfz8_1 := blk_frozen BK462.out 1) | ((with_reducible refine gate_callee (f := 6) rfl ?_); refine goesL_ (some 7) rfl rfl Tryd.func6 (by kernel_rfl) rfl #[.agg #[.int .i64 a0_0, .int .i64 a0_1], .agg #[.int .i64 a1_0, .int .i64 a1_1]] rfl mp_ ?_; (with_reducible refine (impl_CrossNumber.calls k a0_0 a0_1 a1_0 a1_1 t463 _ A3.out).mono ?_); rintro e w9 ⟨rfl, hb⟩; refine ⟨_, rfl, ?_⟩; replace BK461 := Aside0.mk (bB BK461 hb); replace BK462 := Aside0.mk (bB BK462 hb); replace HB := Aside0.mk (below_step (tG2 GE461.out GE462.out) hb)))
  go_ret
  exact ⟨rE, tG2 GE461.out GE462.out⟩

/-! ### impl_FormatInt: function 50 -/
def impl_FormatInt.f (a0 : Int) : Option (ByteArray) := if -9223372036854775808 ≤ a0 ∧ a0 ≤ 9223372036854775807 then some (⟨(Lib.itoa a0).toArray⟩ : ByteArray) else none
set_option maxHeartbeats 8000000 in
set_option maxRecDepth 100000 in
theorem impl_FormatInt.calls (a0 : Int) (r : ByteArray) (w : World) (h : impl_FormatInt.f a0 = some r) (ht : Tab10 w) :
    Calls Tryd.prog 50 #[.int .i64 a0] w fun e w' => e = .returned (.string r) ∧ Below w.heap.size w w' := by
  have HB := Aside0.mk (Below.refl w.heap.size w)
  unfold impl_FormatInt.f at h
  by_cases c : -9223372036854775808 ≤ a0 ∧ a0 ≤ 9223372036854775807
  · rw [if_pos c] at h
    obtain rfl := Option.some.inj h
    go_enter Tryd.func50, Tryd.ntmps50
    go_wp2_with fail
    (go_at_call 59; (with_reducible refine (strconv_Itoa.calls a0 c.1 c.2 _ ht).mono ?_))
    rintro e w1 ⟨rfl, hb⟩
    go_wp2
    go_ret
    exact ⟨rfl, below_step HB.out hb⟩
  · rw [if_neg c] at h
    exact absurd h (by simp)

/-! ### impl_SlopeText: function 25 -/
def impl_SlopeText.f (k : Nat) (a0_0 : Int) (a0_1 : Int) : Option (ByteArray) := (impl_IsSlope.f k a0_0 a0_1).bind fun t465 => (if t465 = true then ((impl_FormatInt.f a0_0).bind fun t466 => (if t466.size + 1 ≤ 9223372036854775807 then ((impl_FormatInt.f a0_1).bind fun t467 => (if (t466 ++ (⟨#[47]⟩ : ByteArray)).size + t467.size ≤ 9223372036854775807 then (some ((t466 ++ (⟨#[47]⟩ : ByteArray)) ++ t467)) else (none))) else (none))) else (some (⟨#[]⟩ : ByteArray)))
def impl_SlopeText.T3 : Bool × List (List Nat × List Nat) := (true, [([], []), ([0], [0]), ([1], [1]), ([2], [2]), ([], []), ([4], [4]), ([5, 2], [5]), ([3, 6], [3, 6]), ([7, 6, 0, 1, 2, 3, 4, 5, 6, 7], [7])])
def impl_SlopeText.B3 : List Nat := [0, 1, 3, 7, 0, 16, 55, 127, 255]
theorem impl_SlopeText.tab3 : rtab .any (opsOf Tryd.f25 3) = impl_SlopeText.T3 := by kernel_rfl
theorem impl_SlopeText.bits3 : waitsOk impl_SlopeText.T3.2 impl_SlopeText.B3 = true := by kernel_rfl
set_option maxHeartbeats 8000000 in
set_option maxRecDepth 100000 in
theorem impl_SlopeText.calls (k : Nat) (a0_0 : Int) (a0_1 : Int) (r : ByteArray) (w : World) (h : impl_SlopeText.f k a0_0 a0_1 = some r) (ht : Tab10 w) :
    Calls Tryd.prog 25 #[.agg #[.int .i64 a0_0, .int .i64 a0_1]] w fun e w' => e = .returned (.string r) ∧ Below w.heap.size w w' := by
  have hu25 := Tryd.underlying25
  have HB := Aside0.mk (Below.refl w.heap.size w)
  have H : ((impl_IsSlope.f k a0_0 a0_1).bind fun t465 => (if t465 = true then ((impl_FormatInt.f a0_0).bind fun t466 => (if t466.size + 1 ≤ 9223372036854775807 then ((impl_FormatInt.f a0_1).bind fun t467 => (if (t466 ++ (⟨#[47]⟩ : ByteArray)).size + t467.size ≤ 9223372036854775807 then (some ((t466 ++ (⟨#[47]⟩ : ByteArray)) ++ t467)) else (none))) else (none))) else (some (⟨#[]⟩ : ByteArray)))) = some r := h
  clear h
  obtain ⟨t465, A2, H⟩ := bs H
  by_cases c3 : t465 = true
  · subst c3
    rw [if_pos rfl] at H
    obtain ⟨t466, A4, H⟩ := bs H
    obtain ⟨c5, H⟩ := gd H
    have c5b0 := eq_true c5
    have c5b1 : decide (t466.size + 1 ≤ 9223372036854775807) = true := decide_eq_true c5
    try have c5b2 : (9223372036854775807 < t466.size + 1) = False := eq_false (Nat.not_lt.2 c5)
    obtain ⟨t467, A6, H⟩ := bs H
    obtain ⟨c7, H⟩ := gd H
    have c7b0 := eq_true c7
    have c7b1 : decide ((t466 ++ (⟨#[47]⟩ : ByteArray)).size + t467.size ≤ 9223372036854775807) = true := decide_eq_true c7
    try have c7b2 : (9223372036854775807 < (t466 ++ (⟨#[47]⟩ : ByteArray)).size + t467.size) = False := eq_false (Nat.not_lt.2 c7)
    have c7b3 : (9223372036854775807 < t466.size + 1 + t467.size) = False := eq_false (by have := c7; rw [ByteArray.size_append] at this; have e_ : (⟨#[47]⟩ : ByteArray).size = 1 := rfl; omega)
    obtain rfl := Option.some.inj H
    go_enter Tryd.func25, Tryd.ntmps25
    try go_wp2_with (first | ((with_reducible refine gate_dst (N := 1) rfl ?_); refine box_event ?hg (N := 1) ?hd (cs := #[.int .i64 a0_0, .int .i64 a0_1]) (t := 25) ?hr ?_; (case hd => rfl); (case hg => rfl); (case hr => exact gS); intro gb464 hg w8 hbox hb; have BK464 := Aside0.mk (hbox); have GW464 := Aside0.mk (gW hg tb); have GE464 := Aside0.mk (gW hg tb); replace HB := Aside0.mk (below_step tb hb); clear hb hbox hg; have hcz9_0 : w8.cell? ⟨gb464, 0, none⟩ = some (.int .i64 a0_0) := (blk_cell BK464.out 0).trans rfl; have hcz9_1 : w8.cell? ⟨gb464, 1, none⟩ = some (.int .i64 a0_1) := (blk_cell BK464.out 1).trans rfl; have hfz9_0 := blk_frozen BK464.out 0; have hfz9_1 := blk_frozen BK464.out 1) | ((with_reducible refine gate_callee (f := 22) rfl ?_); refine goesL_ (some 4) rfl rfl Tryd.func22 (by kernel_rfl) rfl #[.agg #[.int .i64 a0_0, .int .i64 a0_1]] rfl mp_ ?_; (with_reducible refine (impl_IsSlope.calls k a0_0 a0_1 true _ A2.out).mono ?_); rintro e w10 ⟨rfl, hb⟩; refine ⟨_, rfl, ?_⟩; replace BK464 := Aside0.mk (bB BK464 hb); replace HB := Aside0.mk (below_step (tG1 GE464.out) hb)))
    replace BK464 := Aside0.mk (blk_drew BK464.out); replace HB := Aside0.mk (below_drew1 HB.out)
    refine start_ (n := 9) (S := fun w' => w'.cell? ⟨gb464, 0, none⟩ = some (.int .i64 a0_0) ∧ w'.cell? ⟨gb464, 1, none⟩ = some (.int .i64 a0_1)) (ds := []) #[false, false, false, false, false, false, false, false, false] (by kernel_rfl) rfl rfl ⟨(blk_cell BK464.out 0).trans rfl, (blk_cell BK464.out 1).trans rfl⟩ (fun hHeld => ?_); refine with_tabW impl_SlopeText.tab3 impl_SlopeText.bits3 (fun HT_ HW_ => ?_)
    generalize w10.drew = w11 at BK464 HB hHeld ⊢
    refine pu_ 0 (some 6) ?_
    refine pu_ 4 (some 10) ?_
    refine take_ (i := 1) (N := some 7) (v := ?_) (a' := ?_) #[true, true, false, false, true, false, false, false, false] rfl rfl (take_ofW HT_.out HW_.out (by kernel_rfl)) (fun _ _ _ h => h) (Or.inl ⟨by rfl, ?_⟩) hHeld ?_ ?_
    rotate_left
    · rintro w' ⟨s0, s1⟩
      go_simp
      with_reducible rfl
    rotate_left
    · simp only [Act.put, List.setIfInBounds_toArray, List.set_cons_zero, List.set_cons_succ, i64_w, i32_w]
      rfl
    refine take_ (i := 5) (N := some 11) (v := ?_) (a' := ?_) #[true, true, false, false, true, true, false, false, false] rfl rfl (take_ofW HT_.out HW_.out (by kernel_rfl)) (fun _ _ _ h => h) (Or.inl ⟨by rfl, ?_⟩) hHeld ?_ ?_
    rotate_left
    · rintro w' ⟨s0, s1⟩
      go_simp
      with_reducible rfl
    rotate_left
    · simp only [Act.put, List.setIfInBounds_toArray, List.set_cons_zero, List.set_cons_succ, i64_w, i32_w]
      rfl
    refine one_ (i := 2) (N := some 8) #[true, true, true, false, true, true, false, false, false] rfl rfl (one_of HT_.out (by kernel_rfl)) (by decide) (fun K hK => ?_)
    refine goes_ Tryd.func50 (by kernel_rfl) rfl #[.int .i64 a0_0] (by rfl) rfl rfl mp_ ?_
    with_reducible refine (impl_FormatInt.calls a0_0 t466 _ A4.out (tab10_b ht (tG1 GE464.out))).mono ?_
    rintro e w12 ⟨rfl, hb⟩
    refine ⟨_, rfl, ?_⟩
    replace BK464 := Aside0.mk (bB BK464 hb); replace HB := Aside0.mk (below_step (tG1 GE464.out) hb)
    (try clear hb)
    (try clear hb2)
    (try clear hk)
    (try clear hi)
    refine hK.out _ _ ⟨(blk_cell BK464.out 0).trans rfl, (blk_cell BK464.out 1).trans rfl⟩ (fun hHeld => ?_)
    clear hK K
    refine norm_ (a' := ?_) ?_ ?_
    rotate_left
    · show Act.put _ (some 8) _ = _
      simp only [Act.put, List.setIfInBounds_toArray, List.set_cons_zero, List.set_cons_succ, i64_w, i32_w]
      rfl
    refine pu_ 3 (some 9) ?_
    refine one_ (i := 6) (N := some 12) #[true, true, true, true, true, true, true, false, false] rfl rfl (one_of HT_.out (by kernel_rfl)) (by decide) (fun K hK => ?_)
    refine goes_ Tryd.func50 (by kernel_rfl) rfl #[.int .i64 a0_1] (by rfl) rfl rfl mp_ ?_
    with_reducible refine (impl_FormatInt.calls a0_1 t467 _ A6.out (tab10_b ht (tG1 GE464.out))).mono ?_
    rintro e w13 ⟨rfl, hb⟩
    refine ⟨_, rfl, ?_⟩
    replace BK464 := Aside0.mk (bB BK464 hb); replace HB := Aside0.mk (below_step (tG1 GE464.out) hb)
    (try clear hb)
    (try clear hb2)
    (try clear hk)
    (try clear hi)
    refine hK.out _ _ ⟨(blk_cell BK464.out 0).trans rfl, (blk_cell BK464.out 1).trans rfl⟩ (fun hHeld => ?_)
    clear hK K
    refine norm_ (a' := ?_) ?_ ?_
    rotate_left
    · show Act.put _ (some 12) _ = _
      simp only [Act.put, List.setIfInBounds_toArray, List.set_cons_zero, List.set_cons_succ, i64_w, i32_w]
      rfl
    refine pu_ 7 (some 13) ?_
    refine pu_ 8 (some 2) ?_
    refine done_ (done_of HT_.out (by kernel_rfl)) ?_
    try go_wp2
    go_ret
    exact ⟨rE, tG1 GE464.out⟩
  · replace c3 := Bool.eq_false_iff.mpr c3
    subst c3
    rw [if_neg (show ¬ (false = true) by decide)] at H
    obtain rfl := Option.some.inj H
    go_enter Tryd.func25, Tryd.ntmps25
    go_wp2_with (first | ((with_reducible refine gate_dst (N := 1) rfl ?_); refine box_event ?hg (N := 1) ?hd (cs := #[.int .i64 a0_0, .int .i64 a0_1]) (t := 25) ?hr ?_; (case hd => rfl); (case hg => rfl); (case hr => exact gS); intro gb464 hg w14 hbox hb; have BK464 := Aside0.mk (hbox); have GW464 := Aside0.mk (gW hg tb); have GE464 := Aside0.mk (gW hg tb); replace HB := Aside0.mk (below_step tb hb); clear hb hbox hg; have hcz15_0 : w14.cell? ⟨gb464, 0, none⟩ = some (.int .i64 a0_0) := (blk_cell BK464.out 0).trans rfl; have hcz15_1 : w14.cell? ⟨gb464, 1, none⟩ = some (.int .i64 a0_1) := (blk_cell BK464.out 1).trans rfl; have hfz15_0 := blk_frozen BK464.out 0; have hfz15_1 := blk_frozen BK464.out 1) | ((with_reducible refine gate_callee (f := 22) rfl ?_); refine goesL_ (some 4) rfl rfl Tryd.func22 (by kernel_rfl) rfl #[.agg #[.int .i64 a0_0, .int .i64 a0_1]] rfl mp_ ?_; (with_reducible refine (impl_IsSlope.calls k a0_0 a0_1 false _ A2.out).mono ?_); rintro e w16 ⟨rfl, hb⟩; refine ⟨_, rfl, ?_⟩; replace BK464 := Aside0.mk (bB BK464 hb); replace HB := Aside0.mk (below_step (tG1 GE464.out) hb)))
    go_ret
    exact ⟨rE, tG1 GE464.out⟩

/-! ### laws_magnitude: function 27 -/
def laws_magnitude.f (a0 : Int) : Option (Int) := if a0 < 0 then (some (wrap64 (-a0))) else (some a0)
set_option maxHeartbeats 8000000 in
set_option maxRecDepth 100000 in
theorem laws_magnitude.calls (a0 : Int) (r : Int) (w : World) (h : laws_magnitude.f a0 = some r) :
    Calls Tryd.prog 27 #[.int .i64 a0] w fun e w' => e = .returned (.int .i64 r) ∧ Drawn0 w w' := by
  have H : (if a0 < 0 then (some (wrap64 (-a0))) else (some a0)) = some r := h
  clear h
  obtain ⟨c2b0, H⟩ | ⟨c2b0, H⟩ := gi H
  · obtain rfl := Option.some.inj H
    go_enter Tryd.func27, Tryd.ntmps27
    go_wp2
    go_ret
    exact ⟨rS, tD⟩
  · obtain rfl := Option.some.inj H
    go_enter Tryd.func27, Tryd.ntmps27
    go_wp2
    go_ret
    exact ⟨rS, tD⟩

/-! ### spec_l2Letter: function 60 -/
def spec_l2Letter.f (a0 : Int) : Option (Bool) := (spec_l1In.f a0 1 8).bind fun t468 => (if t468 = true then (some true) else ((spec_l1In.f a0 (-8) (-1)).bind fun t469 => (some t469)))
set_option maxHeartbeats 8000000 in
set_option maxRecDepth 100000 in
theorem spec_l2Letter.calls (a0 : Int) (r : Bool) (w : World) (h : spec_l2Letter.f a0 = some r) :
    Calls Tryd.prog 60 #[.int .i64 a0] w fun e w' => e = .returned (.bool r) ∧ Drawn0 w w' := by
  have H : ((spec_l1In.f a0 1 8).bind fun t468 => (if t468 = true then (some true) else ((spec_l1In.f a0 (-8) (-1)).bind fun t469 => (some t469)))) = some r := h
  clear h
  obtain ⟨t468, A2, H⟩ := bs H
  by_cases c3 : t468 = true
  · subst c3
    rw [if_pos rfl] at H
    obtain rfl := Option.some.inj H
    go_enter Tryd.func60, Tryd.ntmps60
    go_wp2_with (first | ((with_reducible refine gate_callee (f := 38) rfl ?_); refine goesL_ (some 4) rfl rfl Tryd.func38 (by kernel_rfl) rfl #[.int .i64 a0, .int .i64 1, .int .i64 8] rfl mp_ ?_; (with_reducible refine (spec_l1In.calls a0 1 8 true _ A2.out).mono ?_); rintro e w' ⟨rfl, ⟨nd, rfl⟩⟩; refine ⟨_, rfl, ?_⟩))
    go_ret
    exact ⟨rS, tD⟩
  · replace c3 := Bool.eq_false_iff.mpr c3
    subst c3
    rw [if_neg (show ¬ (false = true) by decide)] at H
    obtain ⟨t469, A4, H⟩ := bs H
    obtain rfl := Option.some.inj H
    go_enter Tryd.func60, Tryd.ntmps60
    go_wp2_with (first | ((with_reducible refine gate_callee (f := 38) rfl ?_); refine goesL_ (some 4) rfl rfl Tryd.func38 (by kernel_rfl) rfl #[.int .i64 a0, .int .i64 1, .int .i64 8] rfl mp_ ?_; (with_reducible refine (spec_l1In.calls a0 1 8 false _ A2.out).mono ?_); rintro e w' ⟨rfl, ⟨nd, rfl⟩⟩; refine ⟨_, rfl, ?_⟩) | (go_at_call 38; (with_reducible refine (spec_l1In.calls a0 (-8) (-1) t469 _ A4.out).mono ?_); rintro e w' ⟨rfl, ⟨nd, rfl⟩⟩))
    go_ret
    exact ⟨rS, tD⟩

/-! ### spec_IsWord: function 52 -/
def spec_IsWord.l0 : Nat → List Int → Int → Option (Bool)
  | 0, _, _ => none
  | k + 1, x0, x3 => if x3 < (x0.length : Int) then (if 0 ≤ x3 then ((spec_l2Letter.f (rd x0 x3)).bind fun t471 => (if t471 = true then (spec_IsWord.l0 k x0 (wrap64 (x3 + 1))) else (some false))) else (none)) else (some (decide ((x0.length : Int) ≤ 24)))
def spec_IsWord.f (k : Nat) (l0 : List Int) : Option (Bool) := spec_IsWord.l0 k l0 0
set_option maxHeartbeats 8000000 in
set_option maxRecDepth 100000 in
theorem spec_IsWord.calls (k : Nat) (A0 : Option Addr) (c0 : Nat) (l0 : List Int) (r : Bool) (w : World) (hr0 : Kd.C (Kd.int .i64) w A0 l0.length l0) (hc0 : l0.length ≤ c0) (h : spec_IsWord.f k l0 = some r) :
    Calls Tryd.prog 52 #[.slice A0 l0.length c0] w fun e w' => e = .returned (.bool r) ∧ Drawn0 w w' := by
  have HR0 := Aside0.mk hr0
  have HC0 := Aside0.mk hc0
  clear hr0 hc0
  have H : (spec_IsWord.l0 k l0 0) = some r := h
  clear h
  have H' := Aside0.mk H
  clear H
  go_enter Tryd.func52, Tryd.ntmps52
  go_wp2
  go_loopg [3] k (fun kq v3 w' => ∃ (x3_1 : Int), v3 = .int .i64 x3_1 ∧ Aside0 (spec_IsWord.l0 kq l0 x3_1 = some r) ∧ Aside0 (kq ≤ k) ∧ Drawn0 w w')
  case atStart => exact ⟨(0), rS, H', ⟨Nat.le_refl _⟩, tD⟩
  case round =>
    clear H'
    obtain ⟨x3_1, rfl, HA, HK1, ⟨m1, rfl⟩⟩ := hrel
    cases gk with
    | zero => exact absurd HA.out (by simp [spec_IsWord.l0])
    | succ k1 =>
      have H := HA.out
      clear HA
      simp only [spec_IsWord.l0] at H
      obtain ⟨c2b0, H⟩ | ⟨c2b0, H⟩ := gi H
      · obtain ⟨c3b0, H⟩ := gdt H
        obtain ⟨t471, A4, H⟩ := bs H
        by_cases c5 : t471 = true
        · subst c5
          rw [if_pos rfl] at H
          have H' := Aside0.mk H
          clear H
          have p470 : 0 ≤ (x3_1 : Int) := dT
          have q470 : x3_1 < (l0.length : Int) := dT
          obtain ⟨ad470, e470, hx470_0⟩ := Kd.at_int HR0.out x3_1 p470 q470
          cases e470
          replace p470 := eq_true p470
          replace q470 := eq_true q470
          go_wp2_with (first | ((with_reducible refine gate_callee (f := 60) rfl ?_); refine goesL_ (some 14) rfl rfl Tryd.func60 (by kernel_rfl) rfl #[.int .i64 (rd l0 x3_1)] rfl mp_ ?_; (with_reducible refine (spec_l2Letter.calls (rd l0 x3_1) true _ A4.out).mono ?_); rintro e w' ⟨rfl, ⟨nd, rfl⟩⟩; refine ⟨_, rfl, ?_⟩))
          go_roundg k1
          case measure => exact oK
          case rel => exact ⟨(wrap64 (x3_1 + 1)), rS, H', ⟨oK⟩, tD⟩
        · replace c5 := Bool.eq_false_iff.mpr c5
          subst c5
          rw [if_neg (show ¬ (false = true) by decide)] at H
          obtain rfl := Option.some.inj H
          have p470 : 0 ≤ (x3_1 : Int) := dT
          have q470 : x3_1 < (l0.length : Int) := dT
          obtain ⟨ad470, e470, hx470_0⟩ := Kd.at_int HR0.out x3_1 p470 q470
          cases e470
          replace p470 := eq_true p470
          replace q470 := eq_true q470
          go_wp2_with (first | ((with_reducible refine gate_callee (f := 60) rfl ?_); refine goesL_ (some 14) rfl rfl Tryd.func60 (by kernel_rfl) rfl #[.int .i64 (rd l0 x3_1)] rfl mp_ ?_; (with_reducible refine (spec_l2Letter.calls (rd l0 x3_1) false _ A4.out).mono ?_); rintro e w' ⟨rfl, ⟨nd, rfl⟩⟩; refine ⟨_, rfl, ?_⟩))
          go_ret
          exact ⟨rS, tD⟩
      · obtain rfl := Option.some.inj H
        go_wp2
        go_ret
        exact ⟨rS, tD⟩

end Go.Proofs.YtomjfejacjphnaaDoor.PFnSlopes
