import Derived.Test.YtbchbmfmplfoiaaWSpanB
import Derived.Test.YtbchbmfmplfoiaaPFnGroupsx0
import Derived.Test.YtbchbmfmplfoiaaPFnGroupsx1
import Derived.Test.YtbchbmfmplfoiaaPFnGroupsx2
import Derived.Test.YtbchbmfmplfoiaaPFnGroupsx6
namespace Go.Proofs.Ytbchbmfmplfoiaa.PFnGroups
open Go.RowKit Go.Proofs.YtbchbmfmplfoiaaW.PrintWords Go.Proofs.YtbchbmfmplfoiaaW.PrintLast Go.Proofs.YtbchbmfmplfoiaaW.PrintMore
attribute [local go_sem] max2_int min2_int max_two min_two max_three min_three max_four min_four   -- for this text's walks alone
set_option linter.unusedVariables false
set_option linter.unusedSimpArgs false

/-! ### spec_l8Step: function 39 -/
mutual
def spec_l8Step.l0 : Nat → Int → List Int → Int → Option (List Int × Bool)
 | 0, _, _, _ => none
 | k + 1, x0, x1, x6 => if x6 < (x1.length : Int) then (spec_l8Step.l1 k x0 x1 x6 0 (([] : List Int)) 0) else (some ((([] : List Int)), false))
def spec_l8Step.l1 : Nat → Int → List Int → Int → Int → List Int → Int → Option (List Int × Bool)
 | 0, _, _, _, _, _, _ => none
 | k + 1, x0, x1, x6, x7, x8, x9 => if x9 < (wrap64 (8 * x0)) then ((spec_Relator.f x0).bind fun t440 => (if x9 ≥ (wrap64 (4 * x0)) then ((spec_l2Inverse.f k t440).bind fun t443 => (spec_l8Step.j2 k x0 x1 x6 x7 x8 x9 t443)) else (spec_l8Step.j2 k x0 x1 x6 x7 x8 x9 t440))) else (if x7 > (wrap64 (2 * x0)) then ((some (([] : List Int) : List Int)).bind fun y423 => (if 0 ≤ x6 then (if x6 ≤ (x1.length : Int) then (if y423.length + (x1.take (x6 : Int).toNat).length < 17592186044416 then ((some (y423 ++ (x1.take (x6 : Int).toNat) : List Int)).bind fun y427 => (if y427.length + x8.length < 17592186044416 then ((some (y427 ++ x8 : List Int)).bind fun y430 => (if 0 ≤ (wrap64 (x6 + x7)) then (if (wrap64 (x6 + x7)) ≤ (x1.length : Int) then (if y430.length + (x1.drop ((wrap64 (x6 + x7)) : Int).toNat).length < 17592186044416 then ((spec_l2Reduce.f k (y430 ++ (x1.drop ((wrap64 (x6 + x7)) : Int).toNat))).bind fun t437 => (some (t437, true))) else (none)) else (none)) else (none))) else (none))) else (none)) else (none)) else (none))) else (spec_l8Step.l0 k x0 x1 (wrap64 (x6 + 1))))
def spec_l8Step.j2 : Nat → Int → List Int → Int → Int → List Int → Int → List Int → Option (List Int × Bool)
 | 0, _, _, _, _, _, _, _ => none
 | k + 1, x0, x1, x6, x7, x8, x9, x10 => (spec_l2Turn.f x10 x9).bind fun t446 => (if 0 ≤ x6 then (if x6 ≤ (x1.length : Int) then ((spec_l8Match.f k (x1.drop (x6 : Int).toNat) t446 (wrap64 (4 * x0))).bind fun t450 => (if t450 > x7 then (if 0 ≤ t450 then (if t450 ≤ (t446.length : Int) then ((spec_l2Inverse.f k (t446.drop (t450 : Int).toNat)).bind fun t455 => (spec_l8Step.l1 k x0 x1 x6 t450 t455 (wrap64 (x9 + 1)))) else (none)) else (none)) else (spec_l8Step.l1 k x0 x1 x6 x7 x8 (wrap64 (x9 + 1))))) else (none)) else (none))
end
def spec_l8Step.f (k : Nat) (a0 : Int) (l1 : List Int) : Option (List Int × Bool) := spec_l8Step.l0 k a0 l1 0
def spec_l8Step.T18 : Bool × List (List Nat × List Nat) := (true, [([], []), ([], []), ([], []), ([1, 2], [1, 2]), ([0, 3], [0, 3]), ([], []), ([4, 5, 4], [4, 5]), ([], []), ([], []), ([], []), ([8, 9], [8, 9]), ([7, 10], [7, 10]), ([6, 11, 6], [6, 11]), ([12, 12, 0, 1, 2, 3, 4, 5, 6, 7, 8, 9, 10, 11, 12], [12])])
def spec_l8Step.B18 : List Nat := [0, 0, 0, 6, 15, 0, 63, 0, 0, 0, 768, 1920, 4095, 8191]
theorem spec_l8Step.tab18 : rtab .any (opsOf Try.f39 18) = spec_l8Step.T18 := by kernel_rfl
theorem spec_l8Step.bits18 : waitsOk spec_l8Step.T18.2 spec_l8Step.B18 = true := by kernel_rfl
set_option maxHeartbeats 8000000 in
set_option maxRecDepth 100000 in
theorem spec_l8Step.calls (k : Nat) (a0 : Int) (A1 : Option Addr) (c1 : Nat) (l1 : List Int) (r1 : List Int) (r2 : Bool) (w : World) (hr1 : Kd.C (Kd.int .i64) w A1 l1.length l1) (hc1 : l1.length ≤ c1) (h : spec_l8Step.f k a0 l1 = some (r1, r2)) :
  Calls Try.prog 39 #[.int .i64 a0, .slice A1 l1.length c1] w fun e w' => ∃ v0_ : Value, e = .returned (.tuple #[v0_, .bool r2]) ∧ Kd.R (Kd.int .i64) 3 w' w.heap.size (fun _ => True) v0_ r1 ∧ Below w.heap.size w w' := by
 have HR1 := Aside0.mk hr1
 have HC1 := Aside0.mk hc1
 clear hr1 hc1
 have HB := Aside0.mk (Below.refl w.heap.size w)
 have H : (spec_l8Step.l0 k a0 l1 0) = some (r1, r2) := h
 clear h
 have H' := Aside0.mk H
 clear H
 go_enter Try.func39, Try.ntmps39
 go_wp2
 go_loopg [6] k (fun kq v6 w' => ∃ (x6_1 : Int), v6 = .int .i64 x6_1 ∧ Aside0 (spec_l8Step.l0 kq a0 l1 x6_1 = some (r1, r2)) ∧ Aside0 (kq ≤ k) ∧ Aside0 (Below w.heap.size w w'))
 case atStart => exact ⟨(0), rS, H', ⟨Nat.le_refl _⟩, ⟨tb⟩⟩
 case round =>
  clear H'
  try clear c1
  try clear p2
  obtain ⟨x6_1, rfl, HA, HK1, HB⟩ := hrel
  cases gk with
  | zero => exact absurd HA.out (by simp [spec_l8Step.l0])
  | succ k1 =>
   have H := HA.out
   clear HA
   simp only [spec_l8Step.l0] at H
   obtain ⟨c3b0, H⟩ | ⟨c3b0, H⟩ := gi H
   ·obtain ⟨y420, hy420⟩ : ∃ y_ : List Int, y_ = (([] : List Int)) := ⟨_, rfl⟩
    replace H : (spec_l8Step.l1 k1 a0 l1 x6_1 0 y420 0) = some (r1, r2) := by first | (rw [hy420]; with_reducible exact H) | (have H2_ := (Option.bind_some _ _).symm.trans H; rw [hy420]; with_reducible exact H2_) | (have H2_ := (Option.bind_some _ _).symm.trans H; with_reducible exact H2_) | with_reducible exact H | (rw [hy420]; exact H) | exact H
    have Ny420 := Aside0.mk hy420
    clear hy420
    have H' := Aside0.mk H
    clear H
    go_wp2_with (first | ((with_reducible refine gate_dst (N := 19) rfl ?_); refine Kd.R_lit (Kd.int .i64) _ 3 ?hg (N := 19) ?hd (xs := ([] : List Int)) (inner := []) (ok := fun _ => True) (okp := fun _ => True) ?hr ?hp (fun _ hk => hk) trivial (Below.refl _ _) (Nat.le_refl _) (by simp) ?_; (case hd => rfl); (case hg => rfl); (case hr => exact gS); (case hp => exact (Reps.none _ _)); intro v421 w4 ho5 hb hg_ hnew_; clear hg_ hnew_; (first | rw [← Ny420.out] at ho5 | (simp only [Int.reduceToNat] at ho5; rw [← Ny420.out] at ho5)); have HO422 := Aside0.mk (Kd.R_lower ho5 (below_size tb)); replace HB := Aside0.mk (below_step tb hb); clear hb ho5))
    go_loopg [7, 8, 9] k1 (fun kq v7 v8 v9 w' => ∃ (x7_2 : Int) (x8_2 : List Int) (x9_2 : Int), v7 = .int .i64 x7_2 ∧ v9 = .int .i64 x9_2 ∧ Aside0 (spec_l8Step.l1 kq a0 l1 x6_1 x7_2 x8_2 x9_2 = some (r1, r2)) ∧ Aside0 (kq ≤ k1) ∧ Aside0 (Kd.R (Kd.int .i64) 3 w' w.heap.size (fun _ => True) v8 x8_2) ∧ Aside0 (Below w.heap.size w w'))
    case atStart => exact ⟨(0), (y420), (0), rS, rS, H', ⟨Nat.le_refl _⟩, ⟨R_l HO422.out⟩, ⟨tb⟩⟩
    case round =>
     clear H'
     try clear c1
     try clear p2
     try clear c3
     try clear c3b0
     try clear p2
     obtain ⟨x7_2, x8_2, x9_2, rfl, rfl, HA, HK2, HO_8, HB⟩ := hrel
     cases gk with
     | zero => exact absurd HA.out (by simp [spec_l8Step.l1])
     | succ k2 =>
      have H := HA.out
      clear HA
      simp only [spec_l8Step.l1] at H
      obtain ⟨c6b0, H⟩ | ⟨c6b0, H⟩ := gi H
      ·obtain ⟨t440, A7, H⟩ := bs H
       have HC8 := Aside0.mk H
       clear H
       go_upto_if 31 with (first | ((with_reducible refine gate_callee (f := 18) rfl ?_); refine goesL_ (some 27) rfl rfl Try.func18 (by kernel_rfl) rfl #[.int .i64 a0] rfl mp_ ?_; (with_reducible refine (spec_Relator.calls a0 t440 _ A7.out).mono ?_); rintro e w9 ⟨v441, rfl, ho0, hb⟩; refine ⟨_, rfl, ?_⟩; have HO442 := Aside0.mk (Kd.R_lower (Kd.R_new' ho0 (Kd.R_lt (R_l HO_8.out))) (below_size tb)); replace HO_8 := Aside0.mk (Kd.R_elder' (R_l HO_8.out) (Kd.R_base ho0) hb); replace HB := Aside0.mk (below_step tb hb)))
       (try simp only [Act.put, List.setIfInBounds_toArray, List.set_cons_zero, List.set_cons_succ])
       go_cut [10] (fun v10 wc => ∃ (kq : Nat) (x10_7 : List Int), Aside0 (spec_l8Step.j2 kq a0 l1 x6_1 x7_2 x8_2 x9_2 x10_7 = some (r1, r2)) ∧ Aside0 (kq ≤ k2) ∧ Aside0 (Kd.R (Kd.int .i64) 3 wc w.heap.size (fun k_ => some k_ ≠ (v10 : Value).ownBlock) u8 x8_2) ∧ Aside0 (Kd.R (Kd.int .i64) 3 wc w.heap.size (fun k_ => some k_ ≠ (u8 : Value).ownBlock) v10 x10_7) ∧ Aside0 (Below w.heap.size w wc))
       case first =>
        have H := HC8.out
        clear HC8
        by_cases c10 : x9_2 ≥ (wrap64 (4 * a0))
        ·rw [if_pos c10] at H
         have c10b0 : decide ((wrap64 (4 * a0)) ≤ x9_2) = true := decide_eq_true c10
         clear c10
         (first | rw [c10b0] | (simp only [i64_w, i32_w]; rw [c10b0]) | skip)
         obtain ⟨t443, A11, H⟩ := bs H
         have H' := Aside0.mk H
         clear H
         obtain ⟨Ao12, co12, eo12⟩ := Kd.R_slice HO442.out
         subst eo12
         go_wp2_with (first | ((with_reducible refine gate_callee (f := 46) rfl ?_); refine goesL_ (some 33) rfl rfl Try.func46 (by kernel_rfl) rfl #[.slice Ao12 t440.length co12] rfl mp_ ?_; (with_reducible refine (spec_l2Inverse.calls k2 _ _ t440 t443 _ ?side1 ?side2 A11.out).mono ?_); (case side1 => exact C_l ((Kd.R_reads' HO442.out).2.2)); (case side2 => exact (Kd.R_reads' HO442.out).2.1); rintro e w13 ⟨v444, rfl, ho0, hb⟩; refine ⟨_, rfl, ?_⟩; have HO445 := Aside0.mk (Kd.R_lower (Kd.R_new' (Kd.R_new' ho0 (Kd.R_lt (R_l HO_8.out))) (Kd.R_lt (R_l HO442.out))) (below_size tb)); replace HO_8 := Aside0.mk (Kd.R_elder' (R_l HO_8.out) (Kd.R_base ho0) hb); replace HO442 := Aside0.mk (Kd.R_elder' (R_l HO442.out) (Kd.R_base ho0) hb); replace HB := Aside0.mk (below_step tb hb)))
         go_meet
         case rel => exact ⟨_, (t443), H', ⟨by have := HK1.out; have := HK2.out; first | omega | exact Nat.le_refl _⟩, ⟨R_l (Kd.R_mono HO_8.out (fun _ hk => hk.2))⟩, ⟨R_l (Kd.R_mono HO445.out (fun _ hk => hk.1.2))⟩, ⟨tb⟩⟩
        ·rw [if_neg c10] at H
         have c10b0 : decide ((wrap64 (4 * a0)) ≤ x9_2) = false := decide_eq_false c10
         clear c10
         (first | rw [c10b0] | (simp only [i64_w, i32_w]; rw [c10b0]) | skip)
         have H' := Aside0.mk H
         clear H
         go_wp2
         go_meet
         case rel => exact ⟨_, (t440), H', ⟨by have := HK1.out; have := HK2.out; first | omega | exact Nat.le_refl _⟩, ⟨R_l (Kd.R_mono HO_8.out (fun _ hk => hk.2))⟩, ⟨R_l (Kd.R_mono HO442.out (fun _ hk => hk.2))⟩, ⟨tb⟩⟩
       case rest =>
        clear HC8
        try clear c1
        try clear p2
        try clear c3
        try clear c3b0
        try clear c4
        try clear c6
        try clear c6b0
        try clear p6
        try clear c10
        try clear c10b0
        try clear p2
        obtain ⟨kq, x10_7, HA, HJ7, HO_8, HO_10, HB⟩ := hcut
        cases kq with
        | zero => exact absurd HA.out (by simp [spec_l8Step.j2])
        | succ kj7 =>
         have H := HA.out
         clear HA
         simp only [spec_l8Step.j2] at H
         obtain ⟨t446, A14, H⟩ := bs H
         obtain ⟨c15, H⟩ := gd H
         have c15b0 := eq_true c15
         have c15b1 : decide (0 ≤ x6_1) = true := decide_eq_true c15
         clear c15
         obtain ⟨c16, H⟩ := gd H
         have c16b0 := eq_true c16
         have c16b1 : decide (x6_1 ≤ (l1.length : Int)) = true := decide_eq_true c16
         clear c16
         obtain ⟨t450, A17, H⟩ := bs H
         by_cases c18 : t450 > x7_2
         ·rw [if_pos c18] at H
          have c18b0 : decide (x7_2 < t450) = true := decide_eq_true c18
          clear c18
          obtain ⟨c19, H⟩ := gd H
          have c19b0 := eq_true c19
          have c19b1 : decide (0 ≤ t450) = true := decide_eq_true c19
          clear c19
          obtain ⟨c20, H⟩ := gd H
          have c20b0 := eq_true c20
          have c20b1 : decide (t450 ≤ (t446.length : Int)) = true := decide_eq_true c20
          clear c20
          generalize hy451 : (t446.drop (t450 : Int).toNat : List Int) = y451 at H
          have Ny451 := Aside0.mk hy451.symm; clear hy451
          obtain ⟨t455, A21, H⟩ := bs H
          have H' := Aside0.mk H
          clear H
          obtain ⟨Ao22, co22, eo22⟩ := Kd.R_slice HO_10.out
          subst eo22
          go_wp2_with (first | ((with_reducible refine gate_callee (f := 51) rfl ?_); refine goesL_ (some 36) rfl rfl Try.func51 (by kernel_rfl) rfl #[.slice Ao22 x10_7.length co22, .int .i64 x9_2] rfl mp_ ?_; (with_reducible refine (spec_l2Turn.calls _ _ x10_7 x9_2 t446 _ ?side1 ?side2 A14.out).mono ?_); (case side1 => exact C_l ((Kd.R_reads' HO_10.out).2.2)); (case side2 => exact (Kd.R_reads' HO_10.out).2.1); rintro e w23 ⟨v447, rfl, ho0, hb⟩; refine ⟨_, rfl, ?_⟩; have HO448 := Aside0.mk (Kd.R_lower (Kd.R_new' (Kd.R_new' ho0 (Kd.R_lt (R_l HO_8.out))) (Kd.R_lt (R_l HO_10.out))) (below_size tb)); replace HO_8 := Aside0.mk (Kd.R_elder' (R_l HO_8.out) (Kd.R_base ho0) hb); replace HO_10 := Aside0.mk (Kd.R_elder' (R_l HO_10.out) (Kd.R_base ho0) hb); replace HB := Aside0.mk (below_step tb hb); obtain ⟨i024, hi024, _, hsz24, _⟩ := info_parts info3; obtain ⟨A24, hcut24, hA24, hC24⟩ := print_drop_of (P := Try.prog) (Value.int .i64) 0 24 3 .i64 Try.underlying24 hi024 hsz24 A1 c1 l1 x6_1 dT dT HC1.out; have HR449 := Aside0.mk (Kd.C_of_reads (h1 := fun _ => rfl) (hA24 _ (Kd.reads_of_C HR1.out))); have HC449 := Aside0.mk hC24; clear hA24 hC24 hi024 hsz24; obtain ⟨Ao25, co25, eo25⟩ := Kd.R_slice HO448.out; subst eo25) | ((with_reducible refine gate_callee (f := 59) rfl ?_); refine goesL_ (some 43) rfl rfl Try.func59 (by kernel_rfl) rfl #[.slice A24 (l1.drop (x6_1 : Int).toNat).length (c1 - x6_1.toNat), .slice Ao25 t446.length co25, .int .i64 (wrap64 (4 * a0))] rfl (by (try simp only [List.map_toArray, List.map_cons, List.map_nil]); first | done | (rw [show (l1.drop (x6_1 : Int).toNat).length = (l1.length - x6_1.toNat) from List.length_drop] <;> rfl) | rfl | (simp only [List.length_drop, List.length_take]; rfl)) ?_; (with_reducible refine (spec_l8Match.calls kj7 _ _ (l1.drop (x6_1 : Int).toNat) _ _ t446 (wrap64 (4 * a0)) t450 _ ?side1 ?side2 ?side3 ?side4 A17.out).mono ?_); (case side1 => exact C_l (Kd.C_below HR449.out HB.out)); (case side2 => exact HC449.out); (case side3 => exact C_l ((Kd.R_reads' HO448.out).2.2)); (case side4 => exact (Kd.R_reads' HO448.out).2.1); rintro e w' ⟨rfl, ⟨nd, rfl⟩⟩; refine ⟨_, rfl, ?_⟩; have q26 : (t450 : Int) ≤ ((t446.length : Int) : Int) := dT; obtain ⟨i026, hi026, _, hsz26, _⟩ := info_parts info3; have hroom26 : t446.length ≤ co25 := (Kd.R_reads' HO448.out).2.1; have hC26 : Kd.C (Kd.int .i64) _ Ao25 t446.length t446 := (Kd.R_reads' HO448.out).2.2; have q026 : (0 : Int) ≤ (t450 : Int) := dT; have hcut26 := cut_from (P := Try.prog) 24 3 .i64 Try.underlying24 hi026 1 hsz26 Ao25 t446.length co25 t450 q026 q26; have hr26 := Kd.C_drop (m := (t450 : Int).toNat) (c := co25) hC26 (by omega) hroom26; obtain ⟨A26, hA26⟩ : ∃ A1, A1 = (if co25 = (t450 : Int).toNat then Ao25 else (Ao25 : Option Addr).map (·.add ((t450 : Int).toNat * 1))) := ⟨_, rfl⟩; obtain ⟨c26, hc26⟩ : ∃ c1, c1 = co25 - (t450 : Int).toNat := ⟨_, rfl⟩; have hy26 : y451.length = t446.length - (t450 : Int).toNat := (by rw [Ny451.out, List.length_drop] <;> omega); rw [show (t446).drop (t450 : Int).toNat = y451 from Ny451.out.symm] at hr26; replace hr26 : Kd.C (Kd.int .i64) _ A26 y451.length y451 := (by rw [hA26]; exact hr26); rw [← hy26, ← hA26, ← hc26] at hcut26; have HR454 := Aside0.mk hr26; have HC454 := Aside0.mk (show y451.length ≤ c26 from by rw [hy26, hc26]; exact Nat.sub_le_sub_right hroom26 _); clear hr26 hC26 hroom26 hi026 hsz26 hc26; have KY26 := Aside0.mk hy26; have KA26 := Aside0.mk hA26; clear hy26 hA26; have KL26 := Aside0.mk (show (t450 : Int).toNat ≤ t446.length from by omega); replace q26 := eq_true q26) | ((with_reducible refine gate_callee (f := 46) rfl ?_); refine goesL_ (some 51) rfl rfl Try.func46 (by kernel_rfl) rfl #[.slice A26 y451.length c26] rfl mp_ ?_; (with_reducible refine (spec_l2Inverse.calls kj7 _ _ y451 t455 _ ?side1 ?side2 A21.out).mono ?_); (case side1 => repeat (first | exact (by repeat (first | (with_reducible exact HR454.out) | (with_reducible refine Kd.C_alloc ?_ _) | (with_reducible refine Kd.C_drewN ?_ _) | (with_reducible refine Kd.C_drew ?_) | exact HR454.out)) | (with_reducible refine Kd.C_alloc ?_ _) | (with_reducible refine Kd.C_drewN ?_ _) | (with_reducible refine Kd.C_drew ?_))); (case side2 => exact HC454.out); rintro e w27 ⟨v456, rfl, ho0, hb⟩; refine ⟨_, rfl, ?_⟩; have HO457 := Aside0.mk (Kd.R_lower (Kd.R_new' (Kd.R_new' (Kd.R_new' ho0 (Kd.R_lt (R_l HO_8.out))) (Kd.R_lt (R_l HO_10.out))) (Kd.R_lt (R_l HO448.out))) (below_size tb)); replace HO_8 := Aside0.mk (Kd.R_elder' (R_l HO_8.out) (Kd.R_base ho0) hb); replace HO_10 := Aside0.mk (Kd.R_elder' (R_l HO_10.out) (Kd.R_base ho0) hb); replace HO448 := Aside0.mk (Kd.R_elder' (R_l HO448.out) (Kd.R_base ho0) hb); replace HR454 := Aside0.mk (Kd.C_below (by repeat (first | (with_reducible exact HR454.out) | (with_reducible refine Kd.C_alloc ?_ _) | (with_reducible refine Kd.C_drewN ?_ _) | (with_reducible refine Kd.C_drew ?_) | exact HR454.out)) hb); replace HB := Aside0.mk (below_step tb hb)))
          go_roundg kj7
          case measure => have := HK1.out; have := HK2.out; have := HJ7.out; omega
          case rel => exact ⟨(t450), (t455), (wrap64 (x9_2 + 1)), rS, rS, H', ⟨by have := HK1.out; have := HK2.out; have := HJ7.out; omega⟩, ⟨R_l (Kd.R_mono HO457.out (fun _ hk => trivial))⟩, ⟨tb⟩⟩
         ·rw [if_neg c18] at H
          have c18b0 : decide (x7_2 < t450) = false := decide_eq_false c18
          clear c18
          have H' := Aside0.mk H
          clear H
          obtain ⟨Ao28, co28, eo28⟩ := Kd.R_slice HO_10.out
          subst eo28
          go_wp2_with (first | ((with_reducible refine gate_callee (f := 51) rfl ?_); refine goesL_ (some 36) rfl rfl Try.func51 (by kernel_rfl) rfl #[.slice Ao28 x10_7.length co28, .int .i64 x9_2] rfl mp_ ?_; (with_reducible refine (spec_l2Turn.calls _ _ x10_7 x9_2 t446 _ ?side1 ?side2 A14.out).mono ?_); (case side1 => exact C_l ((Kd.R_reads' HO_10.out).2.2)); (case side2 => exact (Kd.R_reads' HO_10.out).2.1); rintro e w29 ⟨v447, rfl, ho0, hb⟩; refine ⟨_, rfl, ?_⟩; have HO448 := Aside0.mk (Kd.R_lower (Kd.R_new' (Kd.R_new' ho0 (Kd.R_lt (R_l HO_8.out))) (Kd.R_lt (R_l HO_10.out))) (below_size tb)); replace HO_8 := Aside0.mk (Kd.R_elder' (R_l HO_8.out) (Kd.R_base ho0) hb); replace HO_10 := Aside0.mk (Kd.R_elder' (R_l HO_10.out) (Kd.R_base ho0) hb); replace HB := Aside0.mk (below_step tb hb); obtain ⟨i030, hi030, _, hsz30, _⟩ := info_parts info3; obtain ⟨A30, hcut30, hA30, hC30⟩ := print_drop_of (P := Try.prog) (Value.int .i64) 0 24 3 .i64 Try.underlying24 hi030 hsz30 A1 c1 l1 x6_1 dT dT HC1.out; have HR449 := Aside0.mk (Kd.C_of_reads (h1 := fun _ => rfl) (hA30 _ (Kd.reads_of_C HR1.out))); have HC449 := Aside0.mk hC30; clear hA30 hC30 hi030 hsz30; obtain ⟨Ao31, co31, eo31⟩ := Kd.R_slice HO448.out; subst eo31) | ((with_reducible refine gate_callee (f := 59) rfl ?_); refine goesL_ (some 43) rfl rfl Try.func59 (by kernel_rfl) rfl #[.slice A30 (l1.drop (x6_1 : Int).toNat).length (c1 - x6_1.toNat), .slice Ao31 t446.length co31, .int .i64 (wrap64 (4 * a0))] rfl (by (try simp only [List.map_toArray, List.map_cons, List.map_nil]); first | done | (rw [show (l1.drop (x6_1 : Int).toNat).length = (l1.length - x6_1.toNat) from List.length_drop] <;> rfl) | rfl | (simp only [List.length_drop, List.length_take]; rfl)) ?_; (with_reducible refine (spec_l8Match.calls kj7 _ _ (l1.drop (x6_1 : Int).toNat) _ _ t446 (wrap64 (4 * a0)) t450 _ ?side1 ?side2 ?side3 ?side4 A17.out).mono ?_); (case side1 => exact C_l (Kd.C_below HR449.out HB.out)); (case side2 => exact HC449.out); (case side3 => exact C_l ((Kd.R_reads' HO448.out).2.2)); (case side4 => exact (Kd.R_reads' HO448.out).2.1); rintro e w' ⟨rfl, ⟨nd, rfl⟩⟩; refine ⟨_, rfl, ?_⟩))
          go_roundg kj7
          case measure => have := HK1.out; have := HK2.out; have := HJ7.out; omega
          case rel => exact ⟨(x7_2), (x8_2), (wrap64 (x9_2 + 1)), rS, rS, H', ⟨by have := HK1.out; have := HK2.out; have := HJ7.out; omega⟩, ⟨R_l (Kd.R_mono HO_8.out (fun _ hk => trivial))⟩, ⟨tb⟩⟩
      ·by_cases c32 : x7_2 > (wrap64 (2 * a0))
       ·rw [if_pos c32] at H
        have c32b0 : decide ((wrap64 (2 * a0)) < x7_2) = true := decide_eq_true c32
        clear c32
        obtain ⟨y423, Ny423, H⟩ := bn H
        obtain ⟨c33, H⟩ := gd H
        have c33b0 := eq_true c33
        have c33b1 : decide (0 ≤ x6_1) = true := decide_eq_true c33
        clear c33
        obtain ⟨c34, H⟩ := gd H
        have c34b0 := eq_true c34
        have c34b1 : decide (x6_1 ≤ (l1.length : Int)) = true := decide_eq_true c34
        clear c34
        obtain ⟨LMc35, H⟩ := gda H
        obtain ⟨y427, Ny427, H⟩ := bn H
        obtain ⟨LMc36, H⟩ := gda H
        obtain ⟨y430, Ny430, H⟩ := bn H
        obtain ⟨ji37, hji37⟩ : ∃ j_ : Int, (wrap64 (x6_1 + x7_2)) = j_ := ⟨_, rfl⟩
        replace H : (if 0 ≤ (ji37) then (if (ji37) ≤ (l1.length : Int) then (if y430.length + (l1.drop ((ji37) : Int).toNat).length < 17592186044416 then ((spec_l2Reduce.f k2 (y430 ++ (l1.drop ((ji37) : Int).toNat))).bind fun t437 => (some (t437, true))) else (none)) else (none)) else (none)) = some (r1, r2) := by first | (rw [hji37] at H; exact H) | (simp only [hji37] at H ⊢; exact H)
        have hji37w : (IntKind.i64.wrap (x6_1 + x7_2)) = ji37 := (i64_w _).trans hji37
        obtain ⟨c38, H⟩ := gd H
        have c38b0 := eq_true c38
        have c38b1 : decide (0 ≤ (ji37)) = true := decide_eq_true c38
        clear c38
        obtain ⟨c39, H⟩ := gd H
        have c39b0 := eq_true c39
        have c39b1 : decide ((ji37) ≤ (l1.length : Int)) = true := decide_eq_true c39
        clear c39
        obtain ⟨LMc40, H⟩ := gda H
        generalize hy434 : (y430 ++ (l1.drop ((ji37) : Int).toNat) : List Int) = y434 at H
        have Ny434 := Aside0.mk hy434.symm; clear hy434
        obtain ⟨t437, A41, H⟩ := bs H
        simp only [Option.some.injEq, Prod.mk.injEq] at H
        obtain ⟨rfl, rfl⟩ := H
        try go_wp2
        replace HO_8 := Aside0.mk (Kd.R_drew HO_8.out); replace HB := Aside0.mk (below_drew1 HB.out)
        obtain ⟨i043, hi043, _, hsz43, _⟩ := info_parts info3
        obtain ⟨hcut43, hA43, hC43⟩ := print_take_of (P := Try.prog) (Value.int .i64) 0 24 3 .i64 Try.underlying24 hi043 hsz43 A1 c1 l1 x6_1 dT dT HC1.out
        have HR426 := Aside0.mk (Kd.C_of_reads (h1 := fun _ => rfl) (hA43 _ (Kd.reads_of_C HR1.out)))
        have HC426 := Aside0.mk hC43
        clear hA43 hC43 hi043 hsz43
        obtain ⟨i044, hi044, _, hsz44, _⟩ := info_parts info3
        obtain ⟨A44, hcut44, hA44, hC44⟩ := print_drop_of (P := Try.prog) (Value.int .i64) 0 24 3 .i64 Try.underlying24 hi044 hsz44 A1 c1 l1 (ji37) dT dT HC1.out
        have HR433 := Aside0.mk (Kd.C_of_reads (h1 := fun _ => rfl) (hA44 _ (Kd.reads_of_C HR1.out)))
        have HC433 := Aside0.mk hC44
        clear hA44 hC44 hi044 hsz44
        refine start_ (n := 14) (S := fun w' => True) (ds := []) #[false, false, false, false, false, false, false, false, false, false, false, false, false, false] (by kernel_rfl) rfl rfl trivial (fun hHeld => ?_); refine with_tabW spec_l8Step.tab18 spec_l8Step.bits18 (fun HT_ HW_ => ?_)
        generalize wr.drew = w42 at HO_8 HB HR426 HR433 hHeld ⊢
        refine pu_ 1 (some 57) ?_
        refine pu_ 2 (some 58) ?_
        refine pu_ 3 (some 59) ?_
        refine pu_ 5 (some 61) ?_
        refine pu_ 7 (some 63) ?_
        refine pu_ 8 (some 64) ?_
        refine pu_ 9 (some 65) ?_
        refine pu_ 10 (some 66) ?_
        refine pu_ 11 (some 67) ?_
        refine one_ (i := 0) (N := some 56) #[true, true, true, true, false, true, false, true, true, true, true, true, false, false] rfl rfl (one_of HT_.out (by kernel_rfl)) (by decide) (fun K hK => ?_)
        refine Kd.R_lit_step (Kd.int .i64) _ 3 ?hg (N := 56) ?hd (xs := ([] : List Int)) (inner := []) (ok := fun _ => True) (okp := fun _ => True) ?hr ?hp (fun _ hk => hk) trivial (Below.refl _ _) (Nat.le_refl _) (by simp) ?_; (case hd => rfl); (case hg => rfl); (case hr => exact gS); (case hp => exact (Reps.none _ _))
        intro v424 w45 ho46 hb hg_ hnew_
        clear hg_ hnew_
        (first | rw [← Ny423.out] at ho46 | (simp only [Int.reduceToNat] at ho46; rw [← Ny423.out] at ho46))
        have HO425 := Aside0.mk (Kd.R_lower (Kd.R_new' ho46 (Kd.R_lt (R_l HO_8.out))) (below_size tb)); replace HO_8 := Aside0.mk (Kd.R_elder' (R_l HO_8.out) (Kd.R_base ho46) hb); replace HB := Aside0.mk (below_step tb hb)
        clear hb ho46
        refine hK.out _ _ trivial (fun hHeld => ?_)
        clear hK K
        refine norm_ (a' := ?_) ?_ ?_
        rotate_left
        ·show Act.put _ (some 56) _ = _
         simp only [Act.put, List.setIfInBounds_toArray, List.set_cons_zero, List.set_cons_succ, i64_w, i32_w]
         rfl
        refine one_ (i := 4) (N := some 60) #[true, true, true, true, true, true, false, true, true, true, true, true, false, false] rfl rfl (one_of HT_.out (by kernel_rfl)) (by decide) (fun K hK => ?_)
        refine Kd.R_append_rows_step (Kd.int .i64) (w0 := w) w.heap.size (by rfl) (.tmp 56) (.tmp 59) 24 3 (.int .i64 0) 8 rfl Try.underlying24 info3 rfl (by decide) (by omega) v424 y423 (l1.take (x6_1 : Int).toNat) _ _ _ (fun k_ => some k_ ≠ (u8 : Value).ownBlock) (fun _ => False) rfl rfl ?aO ?aR (fun _ _ h => h) (fun _ h => h.elim) ?aF ?aB ?aS ?aL ?_
        (case aR => first | (have hC_ := (Kd.C_below HR426.out HB.out); rw [show (l1.take (x6_1 : Int).toNat).length = x6_1.toNat from (by rw [List.length_take]; have h_ : (x6_1 : Int) ≤ (l1.length : Int) := dT; omega)] at hC_; exact hC_) | (rw [← show (l1.take (x6_1 : Int).toNat).length = x6_1.toNat from (by rw [List.length_take]; have h_ : (x6_1 : Int) ≤ (l1.length : Int) := dT; omega)]; exact C_l (Kd.C_below HR426.out HB.out)) | (exact C_l (Kd.C_below HR426.out HB.out)))
        (case aB => exact tb)
        (case aF => exact (fun k_ hk => Kd.fresh' (Kd.R_lt (R_l HO_8.out)) k_ hk))
        (case aO => exact (R_l (Kd.R_mono HO425.out (fun _ hk => hk.2))))
        (case aS => exact (below_size tb))
        (case aL => have := LMc35.out; have hlx_ := (show (l1.take (x6_1 : Int).toNat).length = x6_1.toNat from (by rw [List.length_take]; have h_ : (x6_1 : Int) ≤ (l1.length : Int) := dT; omega)); omega)
        intro v428 w47 ho hb hg hat
        rw [← Ny427.out] at ho
        replace HO_8 := Aside0.mk (Kd.R_after (ok := (fun _ => True)) (R_l HO_8.out) hg hat); replace HB := Aside0.mk (hb); have HO429 := Aside0.mk (ho); clear HO425
        clear ho hb hg hat
        obtain ⟨Ao49, co49, eo49⟩ := Kd.R_slice HO_8.out
        (first | subst eo49 | (injection eo49 with f1_ f2_ f3_; have f4_ := f1_.symm; have f5_ := f3_.symm; clear f1_ f2_ f3_; subst f4_; subst f5_))
        refine hK.out _ _ trivial (fun hHeld => ?_)
        clear hK K
        refine norm_ (a' := ?_) ?_ ?_
        rotate_left
        ·show Act.put _ (some 60) _ = _
         simp only [Act.put, List.setIfInBounds_toArray, List.set_cons_zero, List.set_cons_succ, i64_w, i32_w]
         rfl
        refine one_ (i := 6) (N := some 62) #[true, true, true, true, true, true, true, true, true, true, true, true, false, false] rfl rfl (one_of HT_.out (by kernel_rfl)) (by decide) (fun K hK => ?_)
        refine Kd.R_append_rows_step (Kd.int .i64) (w0 := w) w.heap.size (by rfl) (.tmp 60) (.tmp 61) 24 3 (.int .i64 0) 8 rfl Try.underlying24 info3 rfl (by decide) (by omega) v428 y427 x8_2 _ _ _ (fun k_ => some k_ ≠ (.slice Ao49 x8_2.length co49 : Value).ownBlock) (fun _ => False) rfl rfl ?aO ?aR (fun _ _ h => h) (fun _ h => h.elim) ?aF ?aB ?aS ?aL ?_
        (case aR => exact C_l ((Kd.R_reads' HO_8.out).2.2))
        (case aB => exact tb)
        (case aF => exact (fun k_ hk => Kd.fresh' (Kd.R_lt (R_l HO_8.out)) k_ hk))
        (case aO => exact (R_l HO429.out))
        (case aS => exact (below_size tb))
        (case aL => have := LMc36.out; omega)
        intro v431 w48 ho hb hg hat
        rw [← Ny430.out] at ho
        replace HO_8 := Aside0.mk (Kd.R_after (ok := (fun _ => True)) (R_l HO_8.out) hg hat); replace HB := Aside0.mk (hb); have HO432 := Aside0.mk (ho); clear HO429
        clear ho hb hg hat
        refine hK.out _ _ trivial (fun hHeld => ?_)
        clear hK K
        refine norm_ (a' := ?_) ?_ ?_
        rotate_left
        ·show Act.put _ (some 62) _ = _
         simp only [Act.put, List.setIfInBounds_toArray, List.set_cons_zero, List.set_cons_succ, i64_w, i32_w]
         rfl
        refine one_ (i := 12) (N := some 68) #[true, true, true, true, true, true, true, true, true, true, true, true, true, false] rfl rfl (one_of HT_.out (by kernel_rfl)) (by decide) (fun K hK => ?_)
        refine Kd.R_append_rows_step (Kd.int .i64) (w0 := w) w.heap.size (by rfl) (.tmp 62) (.tmp 67) 24 3 (.int .i64 0) 8 rfl Try.underlying24 info3 rfl (by decide) (by omega) v431 y430 (l1.drop ((ji37) : Int).toNat) _ _ _ (fun k_ => some k_ ≠ (.slice Ao49 x8_2.length co49 : Value).ownBlock) (fun _ => False) rfl rfl ?aO ?aR (fun _ _ h => h) (fun _ h => h.elim) ?aF ?aB ?aS ?aL ?_
        (case aR => first | (rw [← show (l1.drop ((ji37) : Int).toNat).length = (l1.length - (ji37).toNat) from List.length_drop]; exact C_l (Kd.C_below HR433.out HB.out)) | (exact C_l (Kd.C_below HR433.out HB.out)))
        (case aB => exact tb)
        (case aF => exact (fun k_ hk => Kd.fresh' (Kd.R_lt (R_l HO_8.out)) k_ hk))
        (case aO => exact (R_l HO432.out))
        (case aS => exact (below_size tb))
        (case aL => have := LMc40.out; have hlx_ := (show (l1.drop ((ji37) : Int).toNat).length = (l1.length - (ji37).toNat) from List.length_drop); omega)
        intro v435 w50 ho hb hg hat
        rw [← Ny434.out] at ho
        replace HO_8 := Aside0.mk (Kd.R_after (ok := (fun _ => True)) (R_l HO_8.out) hg hat); replace HB := Aside0.mk (hb); have HO436 := Aside0.mk (ho); clear HO432
        clear ho hb hg hat
        refine hK.out _ _ trivial (fun hHeld => ?_)
        clear hK K
        refine norm_ (a' := ?_) ?_ ?_
        rotate_left
        ·show Act.put _ (some 68) _ = _
         simp only [Act.put, List.setIfInBounds_toArray, List.set_cons_zero, List.set_cons_succ, i64_w, i32_w]
         rfl
        refine pu_ 13 (some 12) ?_
        refine done_ (done_of HT_.out (by kernel_rfl)) ?_
        obtain ⟨Ao51, co51, eo51⟩ := Kd.R_slice HO436.out
        subst eo51
        try go_wp2_with (first | ((with_reducible refine gate_callee (f := 40) rfl ?_); refine goesL_ (some 70) rfl rfl Try.func40 (by kernel_rfl) rfl #[.slice Ao51 y434.length co51] rfl mp_ ?_; (with_reducible refine (spec_l2Reduce.calls k2 _ _ y434 t437 _ ?side1 ?side2 A41.out).mono ?_); (case side1 => exact C_l ((Kd.R_reads' HO436.out).2.2)); (case side2 => exact (Kd.R_reads' HO436.out).2.1); rintro e w52 ⟨v438, rfl, ho0, hb⟩; refine ⟨_, rfl, ?_⟩; have HO439 := Aside0.mk (Kd.R_lower (Kd.R_new' (Kd.R_new' ho0 (Kd.R_lt (R_l HO_8.out))) (Kd.R_lt (R_l HO436.out))) (below_size tb)); replace HO_8 := Aside0.mk (Kd.R_elder' (R_l HO_8.out) (Kd.R_base ho0) hb); replace HO436 := Aside0.mk (Kd.R_elder' (R_l HO436.out) (Kd.R_base ho0) hb); replace HB := Aside0.mk (below_step tb hb)))
        go_ret2
        exact ⟨_, by first | rfl | (simp [errW_none, errW_some] <;> rfl) | (simp only [← hji37]; first | rfl | (simp [errW_none, errW_some] <;> rfl)) | (simp [*, errW_none, errW_some] <;> rfl), R_l (Kd.R_mono HO439.out (fun _ hk => trivial)), tb⟩
       ·rw [if_neg c32] at H
        have c32b0 : decide ((wrap64 (2 * a0)) < x7_2) = false := decide_eq_false c32
        clear c32
        have H' := Aside0.mk H
        clear H
        go_wp2
        go_roundg k2
        case measure => exact oK
        case rel => exact ⟨(wrap64 (x6_1 + 1)), rS, H', ⟨oK⟩, ⟨tb⟩⟩
   ·obtain ⟨y417, hy417⟩ : ∃ y_ : List Int, y_ = (([] : List Int)) := ⟨_, rfl⟩
    replace H : (some (y417, false)) = some (r1, r2) := by first | (rw [hy417]; with_reducible exact H) | (have H2_ := (Option.bind_some _ _).symm.trans H; rw [hy417]; with_reducible exact H2_) | (have H2_ := (Option.bind_some _ _).symm.trans H; with_reducible exact H2_) | with_reducible exact H | (rw [hy417]; exact H) | exact H
    have Ny417 := Aside0.mk hy417
    clear hy417
    simp only [Option.some.injEq, Prod.mk.injEq] at H
    obtain ⟨rfl, rfl⟩ := H
    go_wp2_with (first | ((with_reducible refine gate_dst (N := 71) rfl ?_); refine Kd.R_lit (Kd.int .i64) _ 3 ?hg (N := 71) ?hd (xs := ([] : List Int)) (inner := []) (ok := fun _ => True) (okp := fun _ => True) ?hr ?hp (fun _ hk => hk) trivial (Below.refl _ _) (Nat.le_refl _) (by simp) ?_; (case hd => rfl); (case hg => rfl); (case hr => exact gS); (case hp => exact (Reps.none _ _)); intro v418 w53 ho54 hb hg_ hnew_; clear hg_ hnew_; (first | rw [← Ny417.out] at ho54 | (simp only [Int.reduceToNat] at ho54; rw [← Ny417.out] at ho54)); have HO419 := Aside0.mk (Kd.R_lower ho54 (below_size tb)); replace HB := Aside0.mk (below_step tb hb); clear hb ho54))
    go_ret2
    exact ⟨_, rE, R_l HO419.out, tb⟩

/-! ### spec_DehnStep: function 7 -/
def spec_DehnStep.f (k : Nat) (a0 : Int) (l1 : List Int) : Option (List Int × Bool) := (spec_l8Fits.f k a0 l1).bind fun t458 => (if t458 = true then ((spec_l2Reduce.f k l1).bind fun t459 => ((spec_l8Step.f k a0 t459).bind fun bt462 => (some (bt462.1, bt462.2)))) else (some ((([] : List Int)), false)))
set_option maxHeartbeats 8000000 in
set_option maxRecDepth 100000 in
theorem spec_DehnStep.calls (k : Nat) (a0 : Int) (A1 : Option Addr) (c1 : Nat) (l1 : List Int) (r1 : List Int) (r2 : Bool) (w : World) (hr1 : Kd.C (Kd.int .i64) w A1 l1.length l1) (hc1 : l1.length ≤ c1) (h : spec_DehnStep.f k a0 l1 = some (r1, r2)) :
  Calls Try.prog 7 #[.int .i64 a0, .slice A1 l1.length c1] w fun e w' => ∃ v0_ : Value, e = .returned (.tuple #[v0_, .bool r2]) ∧ Kd.R (Kd.int .i64) 3 w' w.heap.size (fun _ => True) v0_ r1 ∧ Below w.heap.size w w' := by
 have HR1 := Aside0.mk hr1
 have HC1 := Aside0.mk hc1
 clear hr1 hc1
 have HB := Aside0.mk (Below.refl w.heap.size w)
 have H : ((spec_l8Fits.f k a0 l1).bind fun t458 => (if t458 = true then ((spec_l2Reduce.f k l1).bind fun t459 => ((spec_l8Step.f k a0 t459).bind fun bt462 => (some (bt462.1, bt462.2)))) else (some ((([] : List Int)), false)))) = some (r1, r2) := h
 clear h
 obtain ⟨t458, A3, H⟩ := bs H
 by_cases c4 : t458 = true
 ·subst c4
  rw [if_pos rfl] at H
  obtain ⟨t459, A5, H⟩ := bs H
  obtain ⟨⟨t462, t463⟩, A6, H⟩ := bs H
  try dsimp only at H
  simp only [Option.some.injEq, Prod.mk.injEq] at H
  obtain ⟨rfl, rfl⟩ := H
  go_enter Try.func7, Try.ntmps7
  go_wp2_with (first | ((with_reducible refine gate_callee (f := 38) rfl ?_); refine goesL_ (some 10) rfl rfl Try.func38 (by kernel_rfl) rfl #[.int .i64 a0, .slice A1 l1.length c1] rfl mp_ ?_; (with_reducible refine (spec_l8Fits.calls k a0 _ _ l1 true _ ?side1 ?side2 A3.out).mono ?_); (case side1 => exact C_l HR1.out); (case side2 => exact HC1.out); rintro e w' ⟨rfl, ⟨nd, rfl⟩⟩; refine ⟨_, rfl, ?_⟩) | ((with_reducible refine gate_callee (f := 40) rfl ?_); refine goesL_ (some 16) rfl rfl Try.func40 (by kernel_rfl) rfl #[.slice A1 l1.length c1] rfl mp_ ?_; (with_reducible refine (spec_l2Reduce.calls k _ _ l1 t459 _ ?side1 ?side2 A5.out).mono ?_); (case side1 => exact C_l HR1.out); (case side2 => exact HC1.out); rintro e w7 ⟨v460, rfl, ho0, hb⟩; refine ⟨_, rfl, ?_⟩; have HO461 := Aside0.mk (Kd.R_lower ho0 (below_size tb)); replace HB := Aside0.mk (below_step tb hb); obtain ⟨Ao8, co8, eo8⟩ := Kd.R_slice HO461.out; subst eo8) | ((with_reducible refine gate_callee (f := 39) rfl ?_); refine goesL_ (some 17) rfl rfl Try.func39 (by kernel_rfl) rfl #[.int .i64 a0, .slice Ao8 t459.length co8] rfl mp_ ?_; (with_reducible refine (spec_l8Step.calls k a0 _ _ t459 t462 t463 _ ?side1 ?side2 A6.out).mono ?_); (case side1 => exact C_l ((Kd.R_reads' HO461.out).2.2)); (case side2 => exact (Kd.R_reads' HO461.out).2.1); rintro e w9 ⟨v464, rfl, ho0, hb⟩; refine ⟨_, rfl, ?_⟩; have HO465 := Aside0.mk (Kd.R_lower (Kd.R_new' ho0 (Kd.R_lt (R_l HO461.out))) (below_size tb)); replace HO461 := Aside0.mk (Kd.R_elder' (R_l HO461.out) (Kd.R_base ho0) hb); replace HB := Aside0.mk (below_step tb hb)))
  go_ret2
  exact ⟨_, rE, R_l (Kd.R_mono HO465.out (fun _ hk => trivial)), tb⟩
 ·replace c4 := Bool.eq_false_iff.mpr c4
  subst c4
  rw [if_neg (show ¬ (false = true) by decide)] at H
  generalize hy466 : (([] : List Int) : List Int) = y466 at H
  have Ny466 := Aside0.mk hy466.symm; clear hy466
  simp only [Option.some.injEq, Prod.mk.injEq] at H
  obtain ⟨rfl, rfl⟩ := H
  go_enter Try.func7, Try.ntmps7
  go_wp2_with (first | ((with_reducible refine gate_callee (f := 38) rfl ?_); refine goesL_ (some 10) rfl rfl Try.func38 (by kernel_rfl) rfl #[.int .i64 a0, .slice A1 l1.length c1] rfl mp_ ?_; (with_reducible refine (spec_l8Fits.calls k a0 _ _ l1 false _ ?side1 ?side2 A3.out).mono ?_); (case side1 => exact C_l HR1.out); (case side2 => exact HC1.out); rintro e w' ⟨rfl, ⟨nd, rfl⟩⟩; refine ⟨_, rfl, ?_⟩) | ((with_reducible refine gate_dst (N := 12) rfl ?_); refine Kd.R_lit (Kd.int .i64) _ 3 ?hg (N := 12) ?hd (xs := ([] : List Int)) (inner := []) (ok := fun _ => True) (okp := fun _ => True) ?hr ?hp (fun _ hk => hk) trivial (Below.refl _ _) (Nat.le_refl _) (by simp) ?_; (case hd => rfl); (case hg => rfl); (case hr => exact gS); (case hp => exact (Reps.none _ _)); intro v467 w10 ho11 hb hg_ hnew_; clear hg_ hnew_; (first | rw [← Ny466.out] at ho11 | (simp only [Int.reduceToNat] at ho11; rw [← Ny466.out] at ho11)); have HO468 := Aside0.mk (Kd.R_lower ho11 (below_size tb)); replace HB := Aside0.mk (below_step tb hb); clear hb ho11))
  go_ret2
  exact ⟨_, rE, R_l HO468.out, tb⟩

end Go.Proofs.Ytbchbmfmplfoiaa.PFnGroups
