-- written by a copy of the print that takes contracts by hand (stubprint.py)
import Derived.Test.YtomjfejacjphnaaDoorWSpanB
import Derived.Test.YtomjfejacjphnaaDoorAtoi
import Derived.Test.YtomjfejacjphnaaDoorPFnSlopesx0
import Derived.Test.YtomjfejacjphnaaDoorPFnSlopesx5
import Derived.Test.YtomjfejacjphnaaDoorPFnSlopesx6
namespace Go.Proofs.YtomjfejacjphnaaDoor.PFnSlopes
open Go.RowKit Go.Proofs.YtomjfejacjphnaaDoorW.PrintWords Go.Proofs.YtomjfejacjphnaaDoorW.PrintLast Go.Proofs.YtomjfejacjphnaaDoorW.PrintMore
attribute [local go_sem] max2_int min2_int max_two min_two max_three min_three max_four min_four   -- for this text's walks alone
set_option linter.unusedVariables false
set_option linter.unusedSimpArgs false

-- NOT PRINTED: function 76 (strconv_ParseUint)

-- NOT PRINTED: function 67 (strconv_ParseInt)

-- NOT PRINTED: function 64 (strconv_Atoi_64)

-- NOT PRINTED: function 77 (stringslite_Clone)

-- NOT PRINTED: function 68 (strconv_syntaxError)

-- NOT PRINTED: function 69 (strconv_rangeError)

-- NOT PRINTED: function 78 (errors_New)

-- NOT PRINTED: function 70 (strconv_baseError)

-- NOT PRINTED: function 71 (strconv_bitSizeError)

-- NOT PRINTED: function 65 (strconv_toError)

-- NOT PRINTED: function 62 (strconv_Atoi_62)

/-! ### impl_readInt: function 56 -/
def impl_readInt.f (a0 : ByteArray) (a1 : Int) (a2 : Int) : Option (Int × Bool) :=
  if -9223372036854775808 ≤ a1 ∧ a2 ≤ 9223372036854775807 then
    if (a0.size : Int) > 20 then some (0, false) else
    match Lib.atoiAll a0.data.toList with
    | .ok n => if a1 ≤ n ∧ n ≤ a2 then (if (⟨(Lib.itoa n).toArray⟩ : ByteArray).toList = a0.toList then some (n, true) else some (0, false)) else some (0, false)
    | _ => some (0, false)
  else none
set_option maxHeartbeats 8000000 in
set_option maxRecDepth 100000 in
theorem impl_readInt.calls (a0 : ByteArray) (a1 : Int) (a2 : Int) (r1 : Int) (r2 : Bool) (w : World) (h : impl_readInt.f a0 a1 a2 = some (r1, r2)) (ht : TabE w) :
    Calls Tryd.prog 56 #[.string a0, .int .i64 a1, .int .i64 a2] w fun e w' => e = .returned (.tuple #[.int .i64 r1, .bool r2]) ∧ Below w.heap.size w w' := by
  have HB := Aside0.mk (Below.refl w.heap.size w)
  have hu56 := Tryd.underlying56
  have HT := Aside0.mk ht
  have HT1 := Aside0.mk ht.1
  clear ht
  unfold impl_readInt.f at h
  by_cases c : -9223372036854775808 ≤ a1 ∧ a2 ≤ 9223372036854775807
  · rw [if_pos c] at h
    by_cases c1 : (a0.size : Int) > 20
    · rw [if_pos c1] at h
      obtain ⟨rfl, rfl⟩ := Prod.mk.inj (Option.some.inj h)
      clear h
      have c1b0 : decide (20 < (a0.size : Int)) = true := decide_eq_true c1
      have c1b1 : decide (20 < a0.size) = true := decide_eq_true (by omega)
      clear c1
      go_enter Tryd.func56, Tryd.ntmps56
      go_wp2
      go_ret2
      exact ⟨rfl, HB.out⟩
    · rw [if_neg c1] at h
      have hs : a0.size ≤ 1000000 := by omega
      have c1b0 : decide (20 < (a0.size : Int)) = false := decide_eq_false c1
      have c1b1 : decide (20 < a0.size) = false := decide_eq_false (by omega)
      clear c1
      have H := Aside0.mk h
      clear h
      go_enter Tryd.func56, Tryd.ntmps56
      go_wp2_with fail
      (go_at_call 62; (with_reducible refine (strconv_Atoi.calls a0 hs _ HT.out).mono ?_))
      rintro e w1 ⟨n, ev, rfl, hb, hc⟩
      have HB1 := Aside0.mk hb
      have HC := Aside0.mk hc
      clear hb hc
      rcases HC.out with ⟨ha, rfl⟩ | ⟨ha, N, rfl⟩
      · have h := H.out
        rw [ha] at h
        have h2 : (if a1 ≤ n ∧ n ≤ a2 then (if (⟨(Lib.itoa n).toArray⟩ : ByteArray).toList = a0.toList then some (n, true) else some ((0 : Int), false)) else some (0, false)) = some (r1, r2) := h
        clear h H ha HC
        by_cases hin : a1 ≤ n ∧ n ≤ a2
        · rw [if_pos hin] at h2
          have hw : impl_within.f n a1 a2 = some true := by
            unfold impl_within.f
            rw [if_pos hin.1, decide_eq_true hin.2]
          have hn0 : -9223372036854775808 ≤ n := by omega
          have hn1 : n ≤ 9223372036854775807 := by omega
          by_cases he : (⟨(Lib.itoa n).toArray⟩ : ByteArray).toList = a0.toList
          · rw [if_pos he] at h2
            obtain ⟨rfl, rfl⟩ := Prod.mk.inj (Option.some.inj h2)
            clear h2
            have heb : ((⟨(Lib.itoa n).toArray⟩ : ByteArray).toList != a0.toList) = false := bne_eq_false_iff_eq.mpr he
            have heb1 : ((⟨(Lib.itoa n).toArray⟩ : ByteArray).toList == a0.toList) = true := beq_iff_eq.mpr he
            have heb2 : (Lib.itoa n == a0.toList) = true := beq_iff_eq.mpr ((ByteArray.toList_eq (⟨(Lib.itoa n).toArray⟩ : ByteArray)).symm.trans he)
            go_wp2_with (first | (go_at_call 36; (with_reducible refine (impl_within.calls n a1 a2 true _ hw).mono ?_); rintro e w2 ⟨rfl, hd⟩; obtain ⟨m2, rfl⟩ := hd.out; have HB2 := Aside0.mk (pw_below_drewN HB1.out m2); clear hd) | (go_at_call 59; (with_reducible refine (strconv_Itoa.calls n hn0 hn1 _ (tab10_b HT1.out HB2.out)).mono ?_); rintro e w3 ⟨rfl, hb3⟩; have HB3 := Aside0.mk hb3; clear hb3))
            go_ret2
            exact ⟨rfl, below_step HB2.out HB3.out⟩
          · rw [if_neg he] at h2
            obtain ⟨rfl, rfl⟩ := Prod.mk.inj (Option.some.inj h2)
            clear h2
            have heb : ((⟨(Lib.itoa n).toArray⟩ : ByteArray).toList != a0.toList) = true := bne_iff_ne.mpr he
            have heb1 : ((⟨(Lib.itoa n).toArray⟩ : ByteArray).toList == a0.toList) = false := beq_eq_false_iff_ne.mpr he
            have heb2 : (Lib.itoa n == a0.toList) = false := beq_eq_false_iff_ne.mpr (fun e_ => he ((ByteArray.toList_eq _).trans e_))
            go_wp2_with (first | (go_at_call 36; (with_reducible refine (impl_within.calls n a1 a2 true _ hw).mono ?_); rintro e w2 ⟨rfl, hd⟩; obtain ⟨m2, rfl⟩ := hd.out; have HB2 := Aside0.mk (pw_below_drewN HB1.out m2); clear hd) | (go_at_call 59; (with_reducible refine (strconv_Itoa.calls n hn0 hn1 _ (tab10_b HT1.out HB2.out)).mono ?_); rintro e w3 ⟨rfl, hb3⟩; have HB3 := Aside0.mk hb3; clear hb3))
            go_ret2
            exact ⟨rfl, below_step HB2.out HB3.out⟩
        · rw [if_neg hin] at h2
          obtain ⟨rfl, rfl⟩ := Prod.mk.inj (Option.some.inj h2)
          clear h2
          have hw : impl_within.f n a1 a2 = some false := by
            unfold impl_within.f
            by_cases h1 : n ≥ a1
            · rw [if_pos h1, decide_eq_false (fun h2 => hin ⟨h1, h2⟩)]
            · rw [if_neg h1]
          go_wp2_with (go_at_call 36; (with_reducible refine (impl_within.calls n a1 a2 false _ hw).mono ?_); rintro e w2 ⟨rfl, hd⟩; obtain ⟨m2, rfl⟩ := hd.out; have HB2 := Aside0.mk (pw_below_drewN HB1.out m2); clear hd)
          go_ret2
          exact ⟨rfl, HB2.out⟩
      · have h := H.out
        have h2 : some ((0 : Int), false) = some (r1, r2) := by
          rw [← h]
          split
          · rename_i hh
            exact absurd hh (ha _)
          · rfl
        obtain ⟨rfl, rfl⟩ := Prod.mk.inj (Option.some.inj h2)
        clear h h2 H ha HC
        go_wp2
        go_ret2
        exact ⟨rfl, HB1.out⟩
  · rw [if_neg c] at h
    exact absurd h (by simp)

/-! ### impl_ParseInt: function 43 -/
def impl_ParseInt.f (a0 : ByteArray) : Option (Int × Bool) := (impl_readInt.f a0 (-999999999999) 999999999999).bind fun bt342 => (some (bt342.1, bt342.2))
set_option maxHeartbeats 8000000 in
set_option maxRecDepth 100000 in
theorem impl_ParseInt.calls (a0 : ByteArray) (r1 : Int) (r2 : Bool) (w : World) (h : impl_ParseInt.f a0 = some (r1, r2)) (ht : TabE w) :
    Calls Tryd.prog 43 #[.string a0] w fun e w' => e = .returned (.tuple #[.int .i64 r1, .bool r2]) ∧ Below w.heap.size w w' := by
  have HB := Aside0.mk (Below.refl w.heap.size w)
  have H : ((impl_readInt.f a0 (-999999999999) 999999999999).bind fun bt342 => (some (bt342.1, bt342.2))) = some (r1, r2) := h
  clear h
  obtain ⟨⟨t342, t343⟩, A2, H⟩ := bs H
  try dsimp only at H
  simp only [Option.some.injEq, Prod.mk.injEq] at H
  obtain ⟨rfl, rfl⟩ := H
  go_enter Tryd.func43, Tryd.ntmps43
  go_wp2_with (first | ((with_reducible refine gate_callee (f := 56) rfl ?_); refine goesL_ (some 5) rfl rfl Tryd.func56 (by kernel_rfl) rfl #[.string a0, .int .i64 (-999999999999), .int .i64 999999999999] rfl mp_ ?_; (with_reducible refine (impl_readInt.calls a0 (-999999999999) 999999999999 t342 t343 _ A2.out (tabE_b ht tb)).mono ?_); rintro e w3 ⟨rfl, hb⟩; refine ⟨_, rfl, ?_⟩; replace HB := Aside0.mk (below_step tb hb)))
  go_ret2
  exact ⟨rE, tb⟩

/-! ### impl_ParseSlope: function 11 -/
def impl_ParseSlope.f (k : Nat) (a0 : ByteArray) : Option (Int × Int × Bool) := (impl_SplitByte.f k a0 47).bind fun t345 => (if (t345.length : Int) = 2 then (if 0 < (t345.length : Int) then ((impl_ParseInt.f (rdOf ByteArray.empty t345 0)).bind fun bt349 => (if 1 < (t345.length : Int) then ((impl_ParseInt.f (rdOf ByteArray.empty t345 1)).bind fun bt352 => (if bt349.2 = true then (if bt352.2 = true then ((impl_IsSlope.f k bt349.1 bt352.1).bind fun t355 => (if t355 = true then (some (bt349.1, bt352.1, true)) else (some (0, 0, false)))) else (some (0, 0, false))) else (some (0, 0, false)))) else (none))) else (none)) else (some (0, 0, false)))
set_option maxHeartbeats 8000000 in
set_option maxRecDepth 100000 in
theorem impl_ParseSlope.calls (k : Nat) (a0 : ByteArray) (r1 : Int) (r2 : Int) (r3 : Bool) (w : World) (h : impl_ParseSlope.f k a0 = some (r1, r2, r3)) (ht : TabE w) :
    Calls Tryd.prog 11 #[.string a0] w fun e w' => e = .returned (.tuple #[.agg #[.int .i64 r1, .int .i64 r2], .bool r3]) ∧ Below w.heap.size w w' := by
  have hu25 := Tryd.underlying25
  have HB := Aside0.mk (Below.refl w.heap.size w)
  have H : ((impl_SplitByte.f k a0 47).bind fun t345 => (if (t345.length : Int) = 2 then (if 0 < (t345.length : Int) then ((impl_ParseInt.f (rdOf ByteArray.empty t345 0)).bind fun bt349 => (if 1 < (t345.length : Int) then ((impl_ParseInt.f (rdOf ByteArray.empty t345 1)).bind fun bt352 => (if bt349.2 = true then (if bt352.2 = true then ((impl_IsSlope.f k bt349.1 bt352.1).bind fun t355 => (if t355 = true then (some (bt349.1, bt352.1, true)) else (some (0, 0, false)))) else (some (0, 0, false))) else (some (0, 0, false)))) else (none))) else (none)) else (some (0, 0, false)))) = some (r1, r2, r3) := h
  clear h
  obtain ⟨t345, A2, H⟩ := bs H
  by_cases c3 : (t345.length : Int) = 2
  · rw [if_pos c3] at H
    have c3b0 : ((t345.length : Int) == 2) = true := beq_iff_eq.mpr c3
    have c3b1 : ((t345.length : Int) != 2) = false := bne_eq_false_iff_eq.mpr c3
    clear c3
    obtain ⟨c4, H⟩ := gd H
    have c4b0 : decide (0 < (t345.length : Int)) = true := decide_eq_true c4
    have c4b1 : decide (0 < t345.length) = true := decide_eq_true (by omega)
    clear c4
    obtain ⟨⟨t349, t350⟩, A5, H⟩ := bs H
    try dsimp only at H
    obtain ⟨c6, H⟩ := gd H
    have c6b0 : decide (1 < (t345.length : Int)) = true := decide_eq_true c6
    have c6b1 : decide (1 < t345.length) = true := decide_eq_true (by omega)
    clear c6
    obtain ⟨⟨t352, t353⟩, A7, H⟩ := bs H
    try dsimp only at H
    by_cases c8 : t350 = true
    · subst c8
      rw [if_pos rfl] at H
      by_cases c9 : t353 = true
      · subst c9
        rw [if_pos rfl] at H
        obtain ⟨t355, A10, H⟩ := bs H
        by_cases c11 : t355 = true
        · subst c11
          rw [if_pos rfl] at H
          simp only [Option.some.injEq, Prod.mk.injEq] at H
          obtain ⟨rfl, rfl, rfl⟩ := H
          go_enter Tryd.func11, Tryd.ntmps11
          go_wp2_with (first | ((with_reducible refine gate_dst (N := 2) rfl ?_); refine box_event ?hg (N := 2) ?hd (cs := #[.int .i64 0, .int .i64 0]) (t := 25) ?hr ?_; (case hd => rfl); (case hg => rfl); (case hr => exact gS); intro gb344 hg w12 hbox hb; have BK344 := Aside0.mk (hbox); have GW344 := Aside0.mk (gW hg tb); have GE344 := Aside0.mk (gW hg tb); replace HB := Aside0.mk (below_step tb hb); clear hb hbox hg) | ((with_reducible refine gate_callee (f := 42) rfl ?_); refine goesL_ (some 11) rfl rfl Tryd.func42 (by kernel_rfl) rfl #[.string a0, .int .u8 47] rfl mp_ ?_; (with_reducible refine (impl_SplitByte.calls k a0 47 t345 _ A2.out).mono ?_); rintro e w13 ⟨v346, rfl, ho0, hb⟩; refine ⟨_, rfl, ?_⟩; have HO347 := Aside0.mk (Kd.R_lower ho0 (below_size (tG1 GE344.out))); replace BK344 := Aside0.mk (bB BK344 hb); replace HB := Aside0.mk (below_step (tG1 GE344.out) hb); obtain ⟨Ao14, co14, eo14⟩ := Kd.R_slice HO347.out; subst eo14; have p348 : 0 ≤ (0 : Int) := (by omega); have q348 : 0 < (t345.length : Int) := dT; obtain ⟨ad348, e348, hx348_0⟩ := Kd.at_string (Kd.R_reads' HO347.out).2.2 0 p348 q348; cases e348; have qi348 : (0 < t345.length) = True := eq_true (by omega); (try rw [show ((0 : Int)).toNat = 0 from rfl] at hx348_0); (try rw [Addr.add_zero'] at hx348_0); replace p348 := eq_true p348; replace q348 := eq_true q348) | ((with_reducible refine gate_callee (f := 43) rfl ?_); refine goesL_ (some 20) rfl rfl Tryd.func43 (by kernel_rfl) rfl #[.string (rdOf ByteArray.empty t345 0)] rfl mp_ ?_; (with_reducible refine (impl_ParseInt.calls (rdOf ByteArray.empty t345 0) t349 true _ A5.out (tabE_b ht (tG1 GE344.out))).mono ?_); rintro e w15 ⟨rfl, hb⟩; refine ⟨_, rfl, ?_⟩; replace HO347 := Aside0.mk (rB HO347.out hb); replace BK344 := Aside0.mk (bB BK344 hb); replace HB := Aside0.mk (below_step (tG1 GE344.out) hb); have p351 : 0 ≤ (1 : Int) := (by omega); have q351 : 1 < (t345.length : Int) := dT; obtain ⟨ad351, e351, hx351_0⟩ := Kd.at_string (Kd.R_reads' HO347.out).2.2 1 p351 q351; obtain rfl : ad348 = ad351 := (by injection e351); (try simp only [show (1 : Int).toNat = 1 from rfl, Nat.reduceMul, Nat.reduceEqDiff, Go.Addr.add, ↓reduceIte] at hx351_0); have qi351 : (1 < t345.length) = True := eq_true (by omega); (try rw [show ((1 : Int)).toNat = 1 from rfl] at hx351_0); replace p351 := eq_true p351; replace q351 := eq_true q351) | ((with_reducible refine gate_callee (f := 43) rfl ?_); refine goesL_ (some 27) rfl rfl Tryd.func43 (by kernel_rfl) rfl #[.string (rdOf ByteArray.empty t345 1)] rfl mp_ ?_; (with_reducible refine (impl_ParseInt.calls (rdOf ByteArray.empty t345 1) t352 true _ A7.out (tabE_b ht (tG1 GE344.out))).mono ?_); rintro e w16 ⟨rfl, hb⟩; refine ⟨_, rfl, ?_⟩; replace HO347 := Aside0.mk (rB HO347.out hb); replace BK344 := Aside0.mk (bB BK344 hb); replace HB := Aside0.mk (below_step (tG1 GE344.out) hb)) | ((with_reducible refine gate_dst (N := 9) rfl ?_); refine box_event ?hg (N := 9) ?hd (cs := #[.int .i64 0, .int .i64 0]) (t := 25) ?hr ?_; (case hd => rfl); (case hg => rfl); (case hr => exact gS); intro gb354 hg w17 hbox hb; replace HO347 := Aside0.mk (rB HO347.out hb); have BK354 := Aside0.mk (hbox); have GW354 := Aside0.mk (gW hg (tG1 GE344.out)); have GE354 := Aside0.mk (gW hg (tG1 GE344.out)); replace HB := Aside0.mk (below_step (tG1 GE344.out) hb); have NB344_354 := Aside0.mk (neL BK344 hg); have NB354_344 := Aside0.mk (neG BK344 hg); replace BK344 := Aside0.mk (bB BK344 hb); clear hb hbox hg; have hnb18 := NB354_344.out; have hnc18 := NB344_354.out; have hcz19_0 : w17.cell? ⟨gb354, 0, none⟩ = some (.int .i64 0) := (blk_cell BK354.out 0).trans rfl; have hcz19_1 : w17.cell? ⟨gb354, 1, none⟩ = some (.int .i64 0) := (blk_cell BK354.out 1).trans rfl; have hfz19_0 := blk_frozen BK354.out 0; have hfz19_1 := blk_frozen BK354.out 1) | (go_at_call 22; (with_reducible refine (impl_IsSlope.calls k t349 t352 true _ A10.out).mono ?_); rintro e w20 ⟨rfl, hb⟩; replace HO347 := Aside0.mk (rB (Kd.R_mono (Kd.R_far (p := ⟨gb354, 1, none⟩) (Kd.R_far (p := ⟨gb354, 0, none⟩) (Kd.R_types HO347.out BK354.out (by decide)) (fun _ hk => hk.2) (.int .i64 t349)) (fun _ hk => hk.2) (.int .i64 t352)) (fun _ h_ => h_.1)) hb); replace BK344 := Aside0.mk (blk_below (g := gb344) (o := .cells #[.int .i64 0, .int .i64 0] 25 (0, 0)) (bF1 BK344.out NB344_354.out) hb); replace BK354 := Aside0.mk (blk_below (g := gb354) (o := .cells #[.int .i64 t349, .int .i64 t352] 25 (0, 0)) (by (with_reducible repeat (first | refine blk_drewN ?_ _ | refine blk_drew ?_ | refine blk_alloc ?_ _)); refine blk_put (cs := #[.int .i64 t349, .int .i64 0]) ?_ 1 _ rfl; (with_reducible repeat (first | refine blk_drewN ?_ _ | refine blk_drew ?_ | refine blk_alloc ?_ _)); refine blk_put (cs := #[.int .i64 0, .int .i64 0]) ?_ 0 _ rfl; (with_reducible repeat (first | refine blk_drewN ?_ _ | refine blk_drew ?_ | refine blk_alloc ?_ _)); exact BK354.out) hb); replace HB := Aside0.mk (below_step (tG2 GE344.out GE354.out) hb); have hcz21_0 : w20.cell? ⟨gb354, 0, none⟩ = some (.int .i64 t349) := (blk_cell BK354.out 0).trans rfl; have hcz21_1 : w20.cell? ⟨gb354, 1, none⟩ = some (.int .i64 t352) := (blk_cell BK354.out 1).trans rfl; have hfz21_0 := blk_frozen BK354.out 0; have hfz21_1 := blk_frozen BK354.out 1; have hcz22_0 : w20.cell? ⟨gb344, 0, none⟩ = some (.int .i64 0) := (blk_cell BK344.out 0).trans rfl; have hcz22_1 : w20.cell? ⟨gb344, 1, none⟩ = some (.int .i64 0) := (blk_cell BK344.out 1).trans rfl; have hfz22_0 := blk_frozen BK344.out 0; have hfz22_1 := blk_frozen BK344.out 1))
          refine bodyPost_ret (results_ct rfl _ _ gb344 25 #[.int .i64 t349, .int .i64 t352] (0, 0) _ rfl (by (with_reducible repeat (first | refine blk_drewN ?_ _ | refine blk_drew ?_ | refine blk_alloc ?_ _)); refine blk_put (cs := #[.int .i64 t349, .int .i64 0]) ?_ 1 _ rfl; (with_reducible repeat (first | refine blk_drewN ?_ _ | refine blk_drew ?_ | refine blk_alloc ?_ _)); refine blk_put (cs := #[.int .i64 0, .int .i64 0]) ?_ 0 _ rfl; (with_reducible repeat (first | refine blk_drewN ?_ _ | refine blk_drew ?_ | refine blk_alloc ?_ _)); exact BK344.out) Tryd.underlying25 rfl (by kernel_rfl)) rfl ?_
          exact ⟨rE, tG2 GE344.out GE354.out⟩
        · replace c11 := Bool.eq_false_iff.mpr c11
          subst c11
          rw [if_neg (show ¬ (false = true) by decide)] at H
          simp only [Option.some.injEq, Prod.mk.injEq] at H
          obtain ⟨rfl, rfl, rfl⟩ := H
          go_enter Tryd.func11, Tryd.ntmps11
          go_wp2_with (first | ((with_reducible refine gate_dst (N := 2) rfl ?_); refine box_event ?hg (N := 2) ?hd (cs := #[.int .i64 0, .int .i64 0]) (t := 25) ?hr ?_; (case hd => rfl); (case hg => rfl); (case hr => exact gS); intro gb344 hg w23 hbox hb; have BK344 := Aside0.mk (hbox); have GW344 := Aside0.mk (gW hg tb); have GE344 := Aside0.mk (gW hg tb); replace HB := Aside0.mk (below_step tb hb); clear hb hbox hg) | ((with_reducible refine gate_callee (f := 42) rfl ?_); refine goesL_ (some 11) rfl rfl Tryd.func42 (by kernel_rfl) rfl #[.string a0, .int .u8 47] rfl mp_ ?_; (with_reducible refine (impl_SplitByte.calls k a0 47 t345 _ A2.out).mono ?_); rintro e w24 ⟨v346, rfl, ho0, hb⟩; refine ⟨_, rfl, ?_⟩; have HO347 := Aside0.mk (Kd.R_lower ho0 (below_size (tG1 GE344.out))); replace BK344 := Aside0.mk (bB BK344 hb); replace HB := Aside0.mk (below_step (tG1 GE344.out) hb); obtain ⟨Ao25, co25, eo25⟩ := Kd.R_slice HO347.out; subst eo25; have p348 : 0 ≤ (0 : Int) := (by omega); have q348 : 0 < (t345.length : Int) := dT; obtain ⟨ad348, e348, hx348_0⟩ := Kd.at_string (Kd.R_reads' HO347.out).2.2 0 p348 q348; cases e348; have qi348 : (0 < t345.length) = True := eq_true (by omega); (try rw [show ((0 : Int)).toNat = 0 from rfl] at hx348_0); (try rw [Addr.add_zero'] at hx348_0); replace p348 := eq_true p348; replace q348 := eq_true q348) | ((with_reducible refine gate_callee (f := 43) rfl ?_); refine goesL_ (some 20) rfl rfl Tryd.func43 (by kernel_rfl) rfl #[.string (rdOf ByteArray.empty t345 0)] rfl mp_ ?_; (with_reducible refine (impl_ParseInt.calls (rdOf ByteArray.empty t345 0) t349 true _ A5.out (tabE_b ht (tG1 GE344.out))).mono ?_); rintro e w26 ⟨rfl, hb⟩; refine ⟨_, rfl, ?_⟩; replace HO347 := Aside0.mk (rB HO347.out hb); replace BK344 := Aside0.mk (bB BK344 hb); replace HB := Aside0.mk (below_step (tG1 GE344.out) hb); have p351 : 0 ≤ (1 : Int) := (by omega); have q351 : 1 < (t345.length : Int) := dT; obtain ⟨ad351, e351, hx351_0⟩ := Kd.at_string (Kd.R_reads' HO347.out).2.2 1 p351 q351; obtain rfl : ad348 = ad351 := (by injection e351); (try simp only [show (1 : Int).toNat = 1 from rfl, Nat.reduceMul, Nat.reduceEqDiff, Go.Addr.add, ↓reduceIte] at hx351_0); have qi351 : (1 < t345.length) = True := eq_true (by omega); (try rw [show ((1 : Int)).toNat = 1 from rfl] at hx351_0); replace p351 := eq_true p351; replace q351 := eq_true q351) | ((with_reducible refine gate_callee (f := 43) rfl ?_); refine goesL_ (some 27) rfl rfl Tryd.func43 (by kernel_rfl) rfl #[.string (rdOf ByteArray.empty t345 1)] rfl mp_ ?_; (with_reducible refine (impl_ParseInt.calls (rdOf ByteArray.empty t345 1) t352 true _ A7.out (tabE_b ht (tG1 GE344.out))).mono ?_); rintro e w27 ⟨rfl, hb⟩; refine ⟨_, rfl, ?_⟩; replace HO347 := Aside0.mk (rB HO347.out hb); replace BK344 := Aside0.mk (bB BK344 hb); replace HB := Aside0.mk (below_step (tG1 GE344.out) hb)) | ((with_reducible refine gate_dst (N := 9) rfl ?_); refine box_event ?hg (N := 9) ?hd (cs := #[.int .i64 0, .int .i64 0]) (t := 25) ?hr ?_; (case hd => rfl); (case hg => rfl); (case hr => exact gS); intro gb354 hg w28 hbox hb; replace HO347 := Aside0.mk (rB HO347.out hb); have BK354 := Aside0.mk (hbox); have GW354 := Aside0.mk (gW hg (tG1 GE344.out)); have GE354 := Aside0.mk (gW hg (tG1 GE344.out)); replace HB := Aside0.mk (below_step (tG1 GE344.out) hb); have NB344_354 := Aside0.mk (neL BK344 hg); have NB354_344 := Aside0.mk (neG BK344 hg); replace BK344 := Aside0.mk (bB BK344 hb); clear hb hbox hg; have hnb29 := NB354_344.out; have hnc29 := NB344_354.out; have hcz30_0 : w28.cell? ⟨gb354, 0, none⟩ = some (.int .i64 0) := (blk_cell BK354.out 0).trans rfl; have hcz30_1 : w28.cell? ⟨gb354, 1, none⟩ = some (.int .i64 0) := (blk_cell BK354.out 1).trans rfl; have hfz30_0 := blk_frozen BK354.out 0; have hfz30_1 := blk_frozen BK354.out 1) | (go_at_call 22; (with_reducible refine (impl_IsSlope.calls k t349 t352 false _ A10.out).mono ?_); rintro e w31 ⟨rfl, hb⟩; replace HO347 := Aside0.mk (rB (Kd.R_mono (Kd.R_far (p := ⟨gb354, 1, none⟩) (Kd.R_far (p := ⟨gb354, 0, none⟩) (Kd.R_types HO347.out BK354.out (by decide)) (fun _ hk => hk.2) (.int .i64 t349)) (fun _ hk => hk.2) (.int .i64 t352)) (fun _ h_ => h_.1)) hb); replace BK344 := Aside0.mk (blk_below (g := gb344) (o := .cells #[.int .i64 0, .int .i64 0] 25 (0, 0)) (bF1 BK344.out NB344_354.out) hb); replace BK354 := Aside0.mk (blk_below (g := gb354) (o := .cells #[.int .i64 t349, .int .i64 t352] 25 (0, 0)) (by (with_reducible repeat (first | refine blk_drewN ?_ _ | refine blk_drew ?_ | refine blk_alloc ?_ _)); refine blk_put (cs := #[.int .i64 t349, .int .i64 0]) ?_ 1 _ rfl; (with_reducible repeat (first | refine blk_drewN ?_ _ | refine blk_drew ?_ | refine blk_alloc ?_ _)); refine blk_put (cs := #[.int .i64 0, .int .i64 0]) ?_ 0 _ rfl; (with_reducible repeat (first | refine blk_drewN ?_ _ | refine blk_drew ?_ | refine blk_alloc ?_ _)); exact BK354.out) hb); replace HB := Aside0.mk (below_step (tG2 GE344.out GE354.out) hb); have hcz32_0 : w31.cell? ⟨gb344, 0, none⟩ = some (.int .i64 0) := (blk_cell BK344.out 0).trans rfl; have hcz32_1 : w31.cell? ⟨gb344, 1, none⟩ = some (.int .i64 0) := (blk_cell BK344.out 1).trans rfl; have hfz32_0 := blk_frozen BK344.out 0; have hfz32_1 := blk_frozen BK344.out 1))
          refine bodyPost_ret (results_ct rfl _ _ gb344 25 #[.int .i64 0, .int .i64 0] (0, 0) _ rfl (by (with_reducible repeat (first | refine blk_drewN ?_ _ | refine blk_drew ?_ | refine blk_alloc ?_ _)); refine blk_put (cs := #[.int .i64 0, .int .i64 0]) ?_ 1 _ rfl; (with_reducible repeat (first | refine blk_drewN ?_ _ | refine blk_drew ?_ | refine blk_alloc ?_ _)); refine blk_put (cs := #[.int .i64 0, .int .i64 0]) ?_ 0 _ rfl; (with_reducible repeat (first | refine blk_drewN ?_ _ | refine blk_drew ?_ | refine blk_alloc ?_ _)); exact BK344.out) Tryd.underlying25 rfl (by kernel_rfl)) rfl ?_
          exact ⟨rE, tG2 GE344.out GE354.out⟩
      · replace c9 := Bool.eq_false_iff.mpr c9
        subst c9
        rw [if_neg (show ¬ (false = true) by decide)] at H
        simp only [Option.some.injEq, Prod.mk.injEq] at H
        obtain ⟨rfl, rfl, rfl⟩ := H
        go_enter Tryd.func11, Tryd.ntmps11
        go_wp2_with (first | ((with_reducible refine gate_dst (N := 2) rfl ?_); refine box_event ?hg (N := 2) ?hd (cs := #[.int .i64 0, .int .i64 0]) (t := 25) ?hr ?_; (case hd => rfl); (case hg => rfl); (case hr => exact gS); intro gb344 hg w33 hbox hb; have BK344 := Aside0.mk (hbox); have GW344 := Aside0.mk (gW hg tb); have GE344 := Aside0.mk (gW hg tb); replace HB := Aside0.mk (below_step tb hb); clear hb hbox hg) | ((with_reducible refine gate_callee (f := 42) rfl ?_); refine goesL_ (some 11) rfl rfl Tryd.func42 (by kernel_rfl) rfl #[.string a0, .int .u8 47] rfl mp_ ?_; (with_reducible refine (impl_SplitByte.calls k a0 47 t345 _ A2.out).mono ?_); rintro e w34 ⟨v346, rfl, ho0, hb⟩; refine ⟨_, rfl, ?_⟩; have HO347 := Aside0.mk (Kd.R_lower ho0 (below_size (tG1 GE344.out))); replace BK344 := Aside0.mk (bB BK344 hb); replace HB := Aside0.mk (below_step (tG1 GE344.out) hb); obtain ⟨Ao35, co35, eo35⟩ := Kd.R_slice HO347.out; subst eo35; have p348 : 0 ≤ (0 : Int) := (by omega); have q348 : 0 < (t345.length : Int) := dT; obtain ⟨ad348, e348, hx348_0⟩ := Kd.at_string (Kd.R_reads' HO347.out).2.2 0 p348 q348; cases e348; have qi348 : (0 < t345.length) = True := eq_true (by omega); (try rw [show ((0 : Int)).toNat = 0 from rfl] at hx348_0); (try rw [Addr.add_zero'] at hx348_0); replace p348 := eq_true p348; replace q348 := eq_true q348) | ((with_reducible refine gate_callee (f := 43) rfl ?_); refine goesL_ (some 20) rfl rfl Tryd.func43 (by kernel_rfl) rfl #[.string (rdOf ByteArray.empty t345 0)] rfl mp_ ?_; (with_reducible refine (impl_ParseInt.calls (rdOf ByteArray.empty t345 0) t349 true _ A5.out (tabE_b ht (tG1 GE344.out))).mono ?_); rintro e w36 ⟨rfl, hb⟩; refine ⟨_, rfl, ?_⟩; replace HO347 := Aside0.mk (rB HO347.out hb); replace BK344 := Aside0.mk (bB BK344 hb); replace HB := Aside0.mk (below_step (tG1 GE344.out) hb); have p351 : 0 ≤ (1 : Int) := (by omega); have q351 : 1 < (t345.length : Int) := dT; obtain ⟨ad351, e351, hx351_0⟩ := Kd.at_string (Kd.R_reads' HO347.out).2.2 1 p351 q351; obtain rfl : ad348 = ad351 := (by injection e351); (try simp only [show (1 : Int).toNat = 1 from rfl, Nat.reduceMul, Nat.reduceEqDiff, Go.Addr.add, ↓reduceIte] at hx351_0); have qi351 : (1 < t345.length) = True := eq_true (by omega); (try rw [show ((1 : Int)).toNat = 1 from rfl] at hx351_0); replace p351 := eq_true p351; replace q351 := eq_true q351) | ((with_reducible refine gate_callee (f := 43) rfl ?_); refine goesL_ (some 27) rfl rfl Tryd.func43 (by kernel_rfl) rfl #[.string (rdOf ByteArray.empty t345 1)] rfl mp_ ?_; (with_reducible refine (impl_ParseInt.calls (rdOf ByteArray.empty t345 1) t352 false _ A7.out (tabE_b ht (tG1 GE344.out))).mono ?_); rintro e w37 ⟨rfl, hb⟩; refine ⟨_, rfl, ?_⟩; replace HO347 := Aside0.mk (rB HO347.out hb); replace BK344 := Aside0.mk (bB BK344 hb); replace HB := Aside0.mk (below_step (tG1 GE344.out) hb)) | ((with_reducible refine gate_dst (N := 9) rfl ?_); refine box_event ?hg (N := 9) ?hd (cs := #[.int .i64 0, .int .i64 0]) (t := 25) ?hr ?_; (case hd => rfl); (case hg => rfl); (case hr => exact gS); intro gb354 hg w38 hbox hb; replace HO347 := Aside0.mk (rB HO347.out hb); have BK354 := Aside0.mk (hbox); have GW354 := Aside0.mk (gW hg (tG1 GE344.out)); have GE354 := Aside0.mk (gW hg (tG1 GE344.out)); replace HB := Aside0.mk (below_step (tG1 GE344.out) hb); have NB344_354 := Aside0.mk (neL BK344 hg); have NB354_344 := Aside0.mk (neG BK344 hg); replace BK344 := Aside0.mk (bB BK344 hb); clear hb hbox hg; have hnb39 := NB354_344.out; have hnc39 := NB344_354.out; have hcz40_0 : w38.cell? ⟨gb354, 0, none⟩ = some (.int .i64 0) := (blk_cell BK354.out 0).trans rfl; have hcz40_1 : w38.cell? ⟨gb354, 1, none⟩ = some (.int .i64 0) := (blk_cell BK354.out 1).trans rfl; have hfz40_0 := blk_frozen BK354.out 0; have hfz40_1 := blk_frozen BK354.out 1; have hcz41_0 : w38.cell? ⟨gb344, 0, none⟩ = some (.int .i64 0) := (blk_cell BK344.out 0).trans rfl; have hcz41_1 : w38.cell? ⟨gb344, 1, none⟩ = some (.int .i64 0) := (blk_cell BK344.out 1).trans rfl; have hfz41_0 := blk_frozen BK344.out 0; have hfz41_1 := blk_frozen BK344.out 1))
        refine bodyPost_ret (results_ct rfl _ _ gb344 25 #[.int .i64 0, .int .i64 0] (0, 0) _ rfl (by (with_reducible repeat (first | refine blk_drewN ?_ _ | refine blk_drew ?_ | refine blk_alloc ?_ _)); refine blk_put (cs := #[.int .i64 0, .int .i64 0]) ?_ 1 _ rfl; (with_reducible repeat (first | refine blk_drewN ?_ _ | refine blk_drew ?_ | refine blk_alloc ?_ _)); refine blk_put (cs := #[.int .i64 0, .int .i64 0]) ?_ 0 _ rfl; (with_reducible repeat (first | refine blk_drewN ?_ _ | refine blk_drew ?_ | refine blk_alloc ?_ _)); refine blk_far ?_ NB344_354.out _; (with_reducible repeat (first | refine blk_drewN ?_ _ | refine blk_drew ?_ | refine blk_alloc ?_ _)); refine blk_far ?_ NB344_354.out _; (with_reducible repeat (first | refine blk_drewN ?_ _ | refine blk_drew ?_ | refine blk_alloc ?_ _)); exact BK344.out) Tryd.underlying25 rfl (by kernel_rfl)) rfl ?_
        exact ⟨rE, tG2 GE344.out GE354.out⟩
    · replace c8 := Bool.eq_false_iff.mpr c8
      subst c8
      rw [if_neg (show ¬ (false = true) by decide)] at H
      simp only [Option.some.injEq, Prod.mk.injEq] at H
      obtain ⟨rfl, rfl, rfl⟩ := H
      go_enter Tryd.func11, Tryd.ntmps11
      go_wp2_with (first | ((with_reducible refine gate_dst (N := 2) rfl ?_); refine box_event ?hg (N := 2) ?hd (cs := #[.int .i64 0, .int .i64 0]) (t := 25) ?hr ?_; (case hd => rfl); (case hg => rfl); (case hr => exact gS); intro gb344 hg w42 hbox hb; have BK344 := Aside0.mk (hbox); have GW344 := Aside0.mk (gW hg tb); have GE344 := Aside0.mk (gW hg tb); replace HB := Aside0.mk (below_step tb hb); clear hb hbox hg) | ((with_reducible refine gate_callee (f := 42) rfl ?_); refine goesL_ (some 11) rfl rfl Tryd.func42 (by kernel_rfl) rfl #[.string a0, .int .u8 47] rfl mp_ ?_; (with_reducible refine (impl_SplitByte.calls k a0 47 t345 _ A2.out).mono ?_); rintro e w43 ⟨v346, rfl, ho0, hb⟩; refine ⟨_, rfl, ?_⟩; have HO347 := Aside0.mk (Kd.R_lower ho0 (below_size (tG1 GE344.out))); replace BK344 := Aside0.mk (bB BK344 hb); replace HB := Aside0.mk (below_step (tG1 GE344.out) hb); obtain ⟨Ao44, co44, eo44⟩ := Kd.R_slice HO347.out; subst eo44; have p348 : 0 ≤ (0 : Int) := (by omega); have q348 : 0 < (t345.length : Int) := dT; obtain ⟨ad348, e348, hx348_0⟩ := Kd.at_string (Kd.R_reads' HO347.out).2.2 0 p348 q348; cases e348; have qi348 : (0 < t345.length) = True := eq_true (by omega); (try rw [show ((0 : Int)).toNat = 0 from rfl] at hx348_0); (try rw [Addr.add_zero'] at hx348_0); replace p348 := eq_true p348; replace q348 := eq_true q348) | ((with_reducible refine gate_callee (f := 43) rfl ?_); refine goesL_ (some 20) rfl rfl Tryd.func43 (by kernel_rfl) rfl #[.string (rdOf ByteArray.empty t345 0)] rfl mp_ ?_; (with_reducible refine (impl_ParseInt.calls (rdOf ByteArray.empty t345 0) t349 false _ A5.out (tabE_b ht (tG1 GE344.out))).mono ?_); rintro e w45 ⟨rfl, hb⟩; refine ⟨_, rfl, ?_⟩; replace HO347 := Aside0.mk (rB HO347.out hb); replace BK344 := Aside0.mk (bB BK344 hb); replace HB := Aside0.mk (below_step (tG1 GE344.out) hb); have p351 : 0 ≤ (1 : Int) := (by omega); have q351 : 1 < (t345.length : Int) := dT; obtain ⟨ad351, e351, hx351_0⟩ := Kd.at_string (Kd.R_reads' HO347.out).2.2 1 p351 q351; obtain rfl : ad348 = ad351 := (by injection e351); (try simp only [show (1 : Int).toNat = 1 from rfl, Nat.reduceMul, Nat.reduceEqDiff, Go.Addr.add, ↓reduceIte] at hx351_0); have qi351 : (1 < t345.length) = True := eq_true (by omega); (try rw [show ((1 : Int)).toNat = 1 from rfl] at hx351_0); replace p351 := eq_true p351; replace q351 := eq_true q351) | ((with_reducible refine gate_callee (f := 43) rfl ?_); refine goesL_ (some 27) rfl rfl Tryd.func43 (by kernel_rfl) rfl #[.string (rdOf ByteArray.empty t345 1)] rfl mp_ ?_; (with_reducible refine (impl_ParseInt.calls (rdOf ByteArray.empty t345 1) t352 t353 _ A7.out (tabE_b ht (tG1 GE344.out))).mono ?_); rintro e w46 ⟨rfl, hb⟩; refine ⟨_, rfl, ?_⟩; replace HO347 := Aside0.mk (rB HO347.out hb); replace BK344 := Aside0.mk (bB BK344 hb); replace HB := Aside0.mk (below_step (tG1 GE344.out) hb)) | ((with_reducible refine gate_dst (N := 9) rfl ?_); refine box_event ?hg (N := 9) ?hd (cs := #[.int .i64 0, .int .i64 0]) (t := 25) ?hr ?_; (case hd => rfl); (case hg => rfl); (case hr => exact gS); intro gb354 hg w47 hbox hb; replace HO347 := Aside0.mk (rB HO347.out hb); have BK354 := Aside0.mk (hbox); have GW354 := Aside0.mk (gW hg (tG1 GE344.out)); have GE354 := Aside0.mk (gW hg (tG1 GE344.out)); replace HB := Aside0.mk (below_step (tG1 GE344.out) hb); have NB344_354 := Aside0.mk (neL BK344 hg); have NB354_344 := Aside0.mk (neG BK344 hg); replace BK344 := Aside0.mk (bB BK344 hb); clear hb hbox hg; have hnb48 := NB354_344.out; have hnc48 := NB344_354.out; have hcz49_0 : w47.cell? ⟨gb354, 0, none⟩ = some (.int .i64 0) := (blk_cell BK354.out 0).trans rfl; have hcz49_1 : w47.cell? ⟨gb354, 1, none⟩ = some (.int .i64 0) := (blk_cell BK354.out 1).trans rfl; have hfz49_0 := blk_frozen BK354.out 0; have hfz49_1 := blk_frozen BK354.out 1; have hcz50_0 : w47.cell? ⟨gb344, 0, none⟩ = some (.int .i64 0) := (blk_cell BK344.out 0).trans rfl; have hcz50_1 : w47.cell? ⟨gb344, 1, none⟩ = some (.int .i64 0) := (blk_cell BK344.out 1).trans rfl; have hfz50_0 := blk_frozen BK344.out 0; have hfz50_1 := blk_frozen BK344.out 1))
      refine bodyPost_ret (results_ct rfl _ _ gb344 25 #[.int .i64 0, .int .i64 0] (0, 0) _ rfl (by (with_reducible repeat (first | refine blk_drewN ?_ _ | refine blk_drew ?_ | refine blk_alloc ?_ _)); refine blk_put (cs := #[.int .i64 0, .int .i64 0]) ?_ 1 _ rfl; (with_reducible repeat (first | refine blk_drewN ?_ _ | refine blk_drew ?_ | refine blk_alloc ?_ _)); refine blk_put (cs := #[.int .i64 0, .int .i64 0]) ?_ 0 _ rfl; (with_reducible repeat (first | refine blk_drewN ?_ _ | refine blk_drew ?_ | refine blk_alloc ?_ _)); refine blk_far ?_ NB344_354.out _; (with_reducible repeat (first | refine blk_drewN ?_ _ | refine blk_drew ?_ | refine blk_alloc ?_ _)); refine blk_far ?_ NB344_354.out _; (with_reducible repeat (first | refine blk_drewN ?_ _ | refine blk_drew ?_ | refine blk_alloc ?_ _)); exact BK344.out) Tryd.underlying25 rfl (by kernel_rfl)) rfl ?_
      exact ⟨rE, tG2 GE344.out GE354.out⟩
  · rw [if_neg c3] at H
    have c3b0 : ((t345.length : Int) == 2) = false := beq_eq_false_iff_ne.mpr c3
    have c3b1 : ((t345.length : Int) != 2) = true := bne_iff_ne.mpr c3
    simp only [Option.some.injEq, Prod.mk.injEq] at H
    obtain ⟨rfl, rfl, rfl⟩ := H
    go_enter Tryd.func11, Tryd.ntmps11
    go_wp2_with (first | ((with_reducible refine gate_dst (N := 2) rfl ?_); refine box_event ?hg (N := 2) ?hd (cs := #[.int .i64 0, .int .i64 0]) (t := 25) ?hr ?_; (case hd => rfl); (case hg => rfl); (case hr => exact gS); intro gb344 hg w51 hbox hb; have BK344 := Aside0.mk (hbox); have GW344 := Aside0.mk (gW hg tb); have GE344 := Aside0.mk (gW hg tb); replace HB := Aside0.mk (below_step tb hb); clear hb hbox hg) | ((with_reducible refine gate_callee (f := 42) rfl ?_); refine goesL_ (some 11) rfl rfl Tryd.func42 (by kernel_rfl) rfl #[.string a0, .int .u8 47] rfl mp_ ?_; (with_reducible refine (impl_SplitByte.calls k a0 47 t345 _ A2.out).mono ?_); rintro e w52 ⟨v346, rfl, ho0, hb⟩; refine ⟨_, rfl, ?_⟩; have HO347 := Aside0.mk (Kd.R_lower ho0 (below_size (tG1 GE344.out))); replace BK344 := Aside0.mk (bB BK344 hb); replace HB := Aside0.mk (below_step (tG1 GE344.out) hb); obtain ⟨Ao53, co53, eo53⟩ := Kd.R_slice HO347.out; subst eo53; have hcz54_0 : w52.cell? ⟨gb344, 0, none⟩ = some (.int .i64 0) := (blk_cell BK344.out 0).trans rfl; have hcz54_1 : w52.cell? ⟨gb344, 1, none⟩ = some (.int .i64 0) := (blk_cell BK344.out 1).trans rfl; have hfz54_0 := blk_frozen BK344.out 0; have hfz54_1 := blk_frozen BK344.out 1))
    refine bodyPost_ret (results_ct rfl _ _ gb344 25 #[.int .i64 0, .int .i64 0] (0, 0) _ rfl (by (with_reducible repeat (first | refine blk_drewN ?_ _ | refine blk_drew ?_ | refine blk_alloc ?_ _)); refine blk_put (cs := #[.int .i64 0, .int .i64 0]) ?_ 1 _ rfl; (with_reducible repeat (first | refine blk_drewN ?_ _ | refine blk_drew ?_ | refine blk_alloc ?_ _)); refine blk_put (cs := #[.int .i64 0, .int .i64 0]) ?_ 0 _ rfl; (with_reducible repeat (first | refine blk_drewN ?_ _ | refine blk_drew ?_ | refine blk_alloc ?_ _)); exact BK344.out) Tryd.underlying25 rfl (by kernel_rfl)) rfl ?_
    exact ⟨rE, tG1 GE344.out⟩

/-! ### spec_SplitByte: function 44 -/
def spec_SplitByte.l0 : Nat → ByteArray → Int → List ByteArray → Int → Int → Option (List ByteArray)
  | 0, _, _, _, _, _ => none
  | k + 1, x0, x1, x5, x6, x7 => if x7 ≤ (x0.size : Int) then (if x7 = (x0.size : Int) then (if 0 ≤ x6 then (if x6 ≤ x7 then (if x5.length < 8796093022208 then (spec_SplitByte.l0 k x0 x1 (x5 ++ [x0.extract (x6 : Int).toNat (x7 : Int).toNat]) (wrap64 (x7 + 1)) (wrap64 (x7 + 1))) else (none)) else (none)) else (none)) else (if 0 ≤ x7 then (if x7 < (x0.size : Int) then (if (bt x0 x7) = x1 then (if 0 ≤ x6 then (if x6 ≤ x7 then (if x5.length < 8796093022208 then (spec_SplitByte.l0 k x0 x1 (x5 ++ [x0.extract (x6 : Int).toNat (x7 : Int).toNat]) (wrap64 (x7 + 1)) (wrap64 (x7 + 1))) else (none)) else (none)) else (none)) else (spec_SplitByte.l0 k x0 x1 x5 x6 (wrap64 (x7 + 1)))) else (none)) else (none))) else (some x5)
def spec_SplitByte.f (k : Nat) (a0 : ByteArray) (a1 : Int) : Option (List ByteArray) := spec_SplitByte.l0 k a0 a1 (([] : List ByteArray)) 0 0
set_option maxHeartbeats 8000000 in
set_option maxRecDepth 100000 in
theorem spec_SplitByte.calls (k : Nat) (a0 : ByteArray) (a1 : Int) (r : List ByteArray) (w : World) (h : spec_SplitByte.f k a0 a1 = some r) :
    Calls Tryd.prog 44 #[.string a0, .int .u8 a1] w fun e w' => ∃ v0_ : Value, e = .returned (v0_) ∧ Kd.R Kd.string 9 w' w.heap.size (fun _ => True) v0_ r ∧ Below w.heap.size w w' := by
  have HB := Aside0.mk (Below.refl w.heap.size w)
  have H : (spec_SplitByte.l0 k a0 a1 (([] : List ByteArray)) 0 0) = some r := h
  clear h
  generalize hy356 : (([] : List ByteArray) : List ByteArray) = y356 at H
  have Ny356 := Aside0.mk hy356.symm; clear hy356
  have H' := Aside0.mk H
  clear H
  go_enter Tryd.func44, Tryd.ntmps44
  go_wp2_with (first | ((with_reducible refine gate_dst (N := 8) rfl ?_); refine Kd.R_lit Kd.string _ 9 ?hg (N := 8) ?hd (xs := ([] : List ByteArray)) (inner := []) (ok := fun _ => True) (okp := fun _ => True) ?hr ?hp (fun _ hk => hk) trivial (Below.refl _ _) (Nat.le_refl _) (by simp) ?_; (case hd => rfl); (case hg => rfl); (case hr => exact gS); (case hp => exact (Reps.none _ _)); intro v357 w3 ho4 hb hg_ hnew_; clear hg_ hnew_; (first | rw [← Ny356.out] at ho4 | (simp only [Int.reduceToNat] at ho4; rw [← Ny356.out] at ho4)); have HO358 := Aside0.mk (Kd.R_lower ho4 (below_size tb)); replace HB := Aside0.mk (below_step tb hb); clear hb ho4))
  go_loopg [5, 6, 7] k (fun kq v5 v6 v7 w' => ∃ (x5_1 : List ByteArray) (x6_1 : Int) (x7_1 : Int), v6 = .int .i64 x6_1 ∧ v7 = .int .i64 x7_1 ∧ Aside0 (spec_SplitByte.l0 kq a0 a1 x5_1 x6_1 x7_1 = some r) ∧ Aside0 (kq ≤ k) ∧ Aside0 (Kd.R Kd.string 9 w' w.heap.size (fun _ => True) v5 x5_1) ∧ Aside0 (Below w.heap.size w w'))
  case atStart => exact ⟨(y356), (0), (0), rS, rS, H', ⟨Nat.le_refl _⟩, ⟨R_l HO358.out⟩, ⟨tb⟩⟩
  case round =>
    clear H'
    try clear p2
    try clear c4
    obtain ⟨x5_1, x6_1, x7_1, rfl, rfl, HA, HK1, HO_5, HB⟩ := hrel
    cases gk with
    | zero => exact absurd HA.out (by simp [spec_SplitByte.l0])
    | succ k1 =>
      have H := HA.out
      clear HA
      simp only [spec_SplitByte.l0] at H
      obtain ⟨c5b0, H⟩ | ⟨c5b0, H⟩ := gi H
      · by_cases c6 : x7_1 = (a0.size : Int)
        · rw [if_pos c6] at H
          have c6b0 : (x7_1 == (a0.size : Int)) = true := beq_iff_eq.mpr c6
          have c6b1 : (x7_1 != (a0.size : Int)) = false := bne_eq_false_iff_eq.mpr c6
          clear c6
          obtain ⟨c7, H⟩ := gd H
          have c7b0 := eq_true c7
          have c7b1 : decide (0 ≤ x6_1) = true := decide_eq_true c7
          clear c7
          obtain ⟨c8, H⟩ := gd H
          have c8b0 := eq_true c8
          have c8b1 : decide (x6_1 ≤ x7_1) = true := decide_eq_true c8
          clear c8
          have c9b0 := eq_true (dT : x7_1 ≤ (a0.size : Int))
          obtain ⟨LMc10, H⟩ := gda H
          generalize hy359 : (x5_1 ++ [a0.extract (x6_1 : Int).toNat (x7_1 : Int).toNat] : List ByteArray) = y359 at H
          have Ny359 := Aside0.mk hy359.symm; clear hy359
          have H' := Aside0.mk H
          clear H
          go_wp2_with (first | ((with_reducible refine gate_builtin (b := .append) (xs := #[.tmp 26, .tmp 31]) rfl ?_); at_builtin; refine Kd.R_append Kd.string (w0 := w) w.heap.size rfl (.tmp 26) (.tmp 31) 58 9 (.string ⟨#[]⟩) 16 rfl Tryd.underlying58 info9 rfl (by decide) (by omega) u5 x5_1 (a0.extract (x6_1 : Int).toNat (x7_1 : Int).toNat) [.string (a0.extract (x6_1 : Int).toNat (x7_1 : Int).toNat)] (fun _ => True) (fun _ => False) rfl rfl ?aP (fun _ hk => hk.elim) ?aF ?aO ?aB ?aS ?aL ?_; (case aP => exact rfl); (case aB => exact tb); (case aF => exact (fun _ _ => trivial)); (case aO => exact (R_l HO_5.out)); (case aS => exact (below_size tb)); (case aL => have := LMc10.out; omega); intro v360 w11 ho hb hg hat; rw [← Ny359.out] at ho; replace HB := Aside0.mk (hb); have HO361 := Aside0.mk (ho); clear HO_5; clear ho hb hg hat))
          go_roundg k1
          case measure => exact oK
          case rel => exact ⟨(y359), (wrap64 (x7_1 + 1)), (wrap64 (x7_1 + 1)), rS, rS, H', ⟨oK⟩, ⟨R_l HO361.out⟩, ⟨tb⟩⟩
        · rw [if_neg c6] at H
          have c6b0 : (x7_1 == (a0.size : Int)) = false := beq_eq_false_iff_ne.mpr c6
          have c6b1 : (x7_1 != (a0.size : Int)) = true := bne_iff_ne.mpr c6
          obtain ⟨c12b0, H⟩ := gdt H
          obtain ⟨c13b0, H⟩ := gdt H
          by_cases c15 : (bt a0 x7_1) = a1
          · rw [if_pos c15] at H
            have c15b0 : ((bt a0 x7_1) == a1) = true := beq_iff_eq.mpr c15
            have c15b1 : ((bt a0 x7_1) != a1) = false := bne_eq_false_iff_eq.mpr c15
            clear c15
            obtain ⟨c16, H⟩ := gd H
            have c16b0 := eq_true c16
            have c16b1 : decide (0 ≤ x6_1) = true := decide_eq_true c16
            clear c16
            obtain ⟨c17, H⟩ := gd H
            have c17b0 := eq_true c17
            have c17b1 : decide (x6_1 ≤ x7_1) = true := decide_eq_true c17
            clear c17
            have c18b0 := eq_true (dT : x7_1 ≤ (a0.size : Int))
            obtain ⟨LMc19, H⟩ := gda H
            generalize hy362 : (x5_1 ++ [a0.extract (x6_1 : Int).toNat (x7_1 : Int).toNat] : List ByteArray) = y362 at H
            have Ny362 := Aside0.mk hy362.symm; clear hy362
            have H' := Aside0.mk H
            clear H
            have p14 : 0 ≤ (x7_1 : Int) := dT
            have q14 : x7_1 < (a0.size : Int) := dT
            have hx14 := bt_at a0 x7_1
            replace p14 := eq_true p14
            replace q14 := eq_true q14
            go_wp2_with (first | ((with_reducible refine gate_builtin (b := .append) (xs := #[.tmp 26, .tmp 31]) rfl ?_); at_builtin; refine Kd.R_append Kd.string (w0 := w) w.heap.size rfl (.tmp 26) (.tmp 31) 58 9 (.string ⟨#[]⟩) 16 rfl Tryd.underlying58 info9 rfl (by decide) (by omega) u5 x5_1 (a0.extract (x6_1 : Int).toNat (x7_1 : Int).toNat) [.string (a0.extract (x6_1 : Int).toNat (x7_1 : Int).toNat)] (fun _ => True) (fun _ => False) rfl rfl ?aP (fun _ hk => hk.elim) ?aF ?aO ?aB ?aS ?aL ?_; (case aP => exact rfl); (case aB => exact tb); (case aF => exact (fun _ _ => trivial)); (case aO => exact (R_l HO_5.out)); (case aS => exact (below_size tb)); (case aL => have := LMc19.out; omega); intro v363 w20 ho hb hg hat; rw [← Ny362.out] at ho; replace HB := Aside0.mk (hb); have HO364 := Aside0.mk (ho); clear HO_5; clear ho hb hg hat))
            go_roundg k1
            case measure => exact oK
            case rel => exact ⟨(y362), (wrap64 (x7_1 + 1)), (wrap64 (x7_1 + 1)), rS, rS, H', ⟨oK⟩, ⟨R_l HO364.out⟩, ⟨tb⟩⟩
          · rw [if_neg c15] at H
            have c15b0 : ((bt a0 x7_1) == a1) = false := beq_eq_false_iff_ne.mpr c15
            have c15b1 : ((bt a0 x7_1) != a1) = true := bne_iff_ne.mpr c15
            have H' := Aside0.mk H
            clear H
            have p14 : 0 ≤ (x7_1 : Int) := dT
            have q14 : x7_1 < (a0.size : Int) := dT
            have hx14 := bt_at a0 x7_1
            replace p14 := eq_true p14
            replace q14 := eq_true q14
            go_wp2
            go_roundg k1
            case measure => exact oK
            case rel => exact ⟨(x5_1), (x6_1), (wrap64 (x7_1 + 1)), rS, rS, H', ⟨oK⟩, ⟨R_l HO_5.out⟩, ⟨tb⟩⟩
      · obtain rfl := Option.some.inj H
        go_wp2
        go_ret
        exact ⟨_, rE, R_l HO_5.out, tb⟩

end Go.Proofs.YtomjfejacjphnaaDoor.PFnSlopes
