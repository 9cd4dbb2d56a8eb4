import Derived.Test.YtafpbabiahjjaaaGreatDoorWSpanB
import Derived.Test.YtafpbabiahjjaaaGreatDoorPFnGraphsx0
import Derived.Test.YtafpbabiahjjaaaGreatDoorPFnGraphsx3
namespace Go.Proofs.YtafpbabiahjjaaaGreatDoor.PFnGraphs
open Go.RowKit Go.Proofs.YtafpbabiahjjaaaGreatDoorW.PrintWords Go.Proofs.YtafpbabiahjjaaaGreatDoorW.PrintLast Go.Proofs.YtafpbabiahjjaaaGreatDoorW.PrintMore
attribute [local go_sem] max2_int min2_int max_two min_two max_three min_three max_four min_four   -- for this text's walks alone
set_option linter.unusedVariables false
set_option linter.unusedSimpArgs false

/-! ### spec_l7Draw: function 45 -/
def spec_l7Draw.l0 : Nat → List (List Int) → Int → Int → List Int → Int → Int → Option ((List (List Int)) × Int × Int)
 | 0, _, _, _, _, _, _ => none
 | k + 1, x3, x4, x5, x1000, x1001, x1002 => if x5 > 0 then ((spec_l1Below.f x1000 x1001 x1002 x4).bind fun bt167 => ((spec_l1Below.f x1000 bt167.2.1 bt167.2.2 (wrap64 (x4 - 1))).bind fun bt170 => (if x4 = 0 then (none) else (if x3.length < 5864062014805 then (spec_l7Draw.l0 k (x3 ++ [(([bt167.1, Int.tmod (wrap64 ((wrap64 (bt167.1 + 1)) + bt170.1)) x4] : List Int))]) x4 (wrap64 (x5 - 1)) x1000 bt170.2.1 bt170.2.2) else (none))))) else (some (x3, x1001, x1002))
def spec_l7Draw.f (k : Nat) (s0_0 : List Int) (s0_1 : Int) (s0_2 : Int) : Option ((List (List Int)) × Int × Int) := (spec_l1Below.f s0_0 s0_1 s0_2 4).bind fun bt161 => ((spec_l1Below.f s0_0 bt161.2.1 bt161.2.2 6).bind fun bt164 => (spec_l7Draw.l0 k (([] : List (List Int))) (wrap64 (2 + bt161.1)) (wrap64 (1 + bt164.1)) s0_0 bt164.2.1 bt164.2.2))
set_option maxHeartbeats 8000000 in
set_option maxRecDepth 100000 in
theorem spec_l7Draw.calls (k : Nat) (g : Nat) (s0_0 : List Int) (s0_1 : Int) (s0_2 : Int) (r1 : List (List Int)) (r2 : Int) (r3 : Int) (w0 w : World) (hI : IsS64 w0 w g s0_0 s0_1 s0_2) (hB : Below w0.heap.size w0 w) (h : spec_l7Draw.f k s0_0 s0_1 s0_2 = some (r1, r2, r3)) :
  Calls Tryz.prog 45 #[.pointer (some ⟨g, 0, none⟩)] w fun e w' => ∃ v0_ : Value, e = .returned (v0_) ∧ Kd.S (Kd.slice 3 (Kd.int .i64)) 26 w' w.heap.size (fun _ => True) v0_ r1 ∧ IsS64 w0 w' g s0_0 r2 r3 ∧ Below w0.heap.size w0 w' ∧ KeepBut w w' g none := by
 have HI0 := Aside0.mk hI
 have HK := Aside0.mk (KeepBut.refl w g none)
 have HL := Aside0.mk hB.size
 clear hI
 have HW0 := Aside0.mk hB.size
 have HB := Aside0.mk hB
 clear hB
 have H : ((spec_l1Below.f s0_0 s0_1 s0_2 4).bind fun bt161 => ((spec_l1Below.f s0_0 bt161.2.1 bt161.2.2 6).bind fun bt164 => (spec_l7Draw.l0 k (([] : List (List Int))) (wrap64 (2 + bt161.1)) (wrap64 (1 + bt164.1)) s0_0 bt164.2.1 bt164.2.2))) = some (r1, r2, r3) := h
 clear h
 generalize hy158 : (([] : List (List Int)) : List (List Int)) = y158 at H
 have Ny158 := Aside0.mk hy158.symm; clear hy158
 obtain ⟨⟨t161, t162, t163⟩, A2, H⟩ := bs H
 try dsimp only at H
 obtain ⟨⟨t164, t165, t166⟩, A3, H⟩ := bs H
 try dsimp only at H
 have H' := Aside0.mk H
 clear H
 go_enter Tryz.func45, Tryz.ntmps45
 go_wp2_with (first | ((with_reducible refine gate_dst (N := 7) rfl ?_); refine Kd.S_lit (Kd.slice 3 (Kd.int .i64)) _ 26 ?hg (N := 7) ?hd (xs := ([] : List (List Int))) (inner := []) (ok := fun _ => True) (okp := fun _ => True) ?hr ?hp (fun _ hk => hk) trivial (Below.refl _ _) (Nat.le_refl _) (by simp) ?_; (case hd => rfl); (case hg => rfl); (case hr => exact gS); (case hp => exact (Reps.none _ _)); intro v159 w4 ho5 hb hg_ hnew_; clear hg_ hnew_; (first | rw [← Ny158.out] at ho5 | (simp only [Int.reduceToNat] at ho5; rw [← Ny158.out] at ho5)); have HO160 := Aside0.mk (Kd.S_lower ho5 (zK)); replace HK := Aside0.mk (KeepBut.trans tK (KeepBut.of_below hb g none) (.inl rfl)); replace HB := Aside0.mk (below_step tB hb); replace HI0 := Aside0.mk (IsS64.below tI hb); clear hb ho5) | ((with_reducible refine gate_callee (f := 48) rfl ?_); refine goesL_ (some 9) rfl rfl Tryz.func48 (by kernel_rfl) rfl #[.pointer (some ⟨g, 0, none⟩), .int .i64 4] rfl mp_ ?_; (with_reducible refine (spec_l1Below.calls g s0_0 s0_1 s0_2 4 t161 t162 t163 w0 _ ?side1 ?side2 A2.out).mono ?_); (case side1 => exact tI); (case side2 => exact tB); rintro e w6 ⟨rfl, hi, hb, hk⟩; refine ⟨_, rfl, ?_⟩; replace HO160 := Aside0.mk (Kd.S_mono (Kd.S_keep (IsS64.apartS (show IsS64 w0 _ g s0_0 s0_1 s0_2 from tI) (S_l HO160.out) (by decide)) hk (fun _ h => h.2)) (fun _ h => h.1)); replace HK := Aside0.mk (KeepBut.trans tK hk (.inl rfl)); replace HB := Aside0.mk (hb); replace HI0 := Aside0.mk (hi)) | ((with_reducible refine gate_callee (f := 48) rfl ?_); refine goesL_ (some 12) rfl rfl Tryz.func48 (by kernel_rfl) rfl #[.pointer (some ⟨g, 0, none⟩), .int .i64 6] rfl mp_ ?_; (with_reducible refine (spec_l1Below.calls g s0_0 t162 t163 6 t164 t165 t166 w0 _ ?side1 ?side2 A3.out).mono ?_); (case side1 => exact tI); (case side2 => exact tB); rintro e w7 ⟨rfl, hi, hb, hk⟩; refine ⟨_, rfl, ?_⟩; replace HO160 := Aside0.mk (Kd.S_mono (Kd.S_keep (IsS64.apartS (show IsS64 w0 _ g s0_0 t162 t163 from tI) (S_l HO160.out) (by decide)) hk (fun _ h => h.2)) (fun _ h => h.1)); replace HK := Aside0.mk (KeepBut.trans tK hk (.inl rfl)); replace HB := Aside0.mk (hb); replace HI0 := Aside0.mk (hi)))
 go_loopg [3, 5] k (fun kq v3 v5 w' => ∃ (x3_1 : List (List Int)) (x5_1 : Int) (x1001_1 : Int) (x1002_1 : Int), v5 = .int .i64 x5_1 ∧ Aside0 (spec_l7Draw.l0 kq x3_1 (wrap64 (2 + t161)) x5_1 s0_0 x1001_1 x1002_1 = some (r1, r2, r3)) ∧ Aside0 (kq ≤ k) ∧ Aside0 (Kd.S (Kd.slice 3 (Kd.int .i64)) 26 w' w.heap.size (fun _ => True) v3 x3_1) ∧ Aside0 (IsS64 w0 w' g s0_0 x1001_1 x1002_1) ∧ Aside0 (KeepBut w w' g none) ∧ Aside0 (Below w0.heap.size w0 w'))
 case atStart => exact ⟨(y158), (wrap64 (1 + t164)), (t165), (t166), rS, H', ⟨Nat.le_refl _⟩, ⟨S_l HO160.out⟩, ⟨tI⟩, ⟨tK⟩, ⟨tB⟩⟩
 case round =>
  clear H'
  try clear p2
  try clear c4
  try clear p6
  obtain ⟨x3_1, x5_1, x1001_1, x1002_1, rfl, HA, HK1, HO_3, HI0, HK, HB⟩ := hrel
  cases gk with
  | zero => exact absurd HA.out (by simp [spec_l7Draw.l0])
  | succ k1 =>
   have H := HA.out
   clear HA
   simp only [spec_l7Draw.l0] at H
   by_cases c8 : x5_1 > 0
   ·rw [if_pos c8] at H
    have c8b0 : decide (0 < x5_1) = true := decide_eq_true c8
    clear c8
    obtain ⟨⟨t167, t168, t169⟩, A9, H⟩ := bs H
    try dsimp only at H
    obtain ⟨⟨t170, t171, t172⟩, A10, H⟩ := bs H
    try dsimp only at H
    by_cases c11 : (wrap64 (2 + t161)) = 0
    ·rw [if_pos c11] at H
     exact absurd H (by simp)
    ·rw [if_neg c11] at H
     have c11b0 : ((wrap64 (2 + t161)) == 0) = false := beq_eq_false_iff_ne.mpr c11
     have c11b1 : ((wrap64 (2 + t161)) != 0) = true := bne_iff_ne.mpr c11
     generalize hy173 : (([t167, Int.tmod (wrap64 ((wrap64 (t167 + 1)) + t170)) (wrap64 (2 + t161))] : List Int) : List Int) = y173 at H
     have Ny173 := Aside0.mk hy173.symm; clear hy173
     obtain ⟨LMc12, H⟩ := gda H
     generalize hy176 : (x3_1 ++ [y173] : List (List Int)) = y176 at H
     have Ny176 := Aside0.mk hy176.symm; clear hy176
     have H' := Aside0.mk H
     clear H
     go_wp2_with (first | ((with_reducible refine gate_callee (f := 48) rfl ?_); refine goesL_ (some 20) rfl rfl Tryz.func48 (by kernel_rfl) rfl #[.pointer (some ⟨g, 0, none⟩), .int .i64 (wrap64 (2 + t161))] rfl mp_ ?_; (with_reducible refine (spec_l1Below.calls g s0_0 x1001_1 x1002_1 (wrap64 (2 + t161)) t167 t168 t169 w0 _ ?side1 ?side2 A9.out).mono ?_); (case side1 => exact tI); (case side2 => exact tB); rintro e w13 ⟨rfl, hi, hb, hk⟩; refine ⟨_, rfl, ?_⟩; replace HO_3 := Aside0.mk (Kd.S_mono (Kd.S_keep (IsS64.apartS (show IsS64 w0 _ g s0_0 x1001_1 x1002_1 from tI) (S_l HO_3.out) (by decide)) hk (fun _ h => h.2)) (fun _ h => h.1)); replace HK := Aside0.mk (KeepBut.trans tK hk (.inl rfl)); replace HB := Aside0.mk (hb); replace HI0 := Aside0.mk (hi)) | ((with_reducible refine gate_callee (f := 48) rfl ?_); refine goesL_ (some 28) rfl rfl Tryz.func48 (by kernel_rfl) rfl #[.pointer (some ⟨g, 0, none⟩), .int .i64 (wrap64 ((wrap64 (2 + t161)) - 1))] rfl mp_ ?_; (with_reducible refine (spec_l1Below.calls g s0_0 t168 t169 (wrap64 ((wrap64 (2 + t161)) - 1)) t170 t171 t172 w0 _ ?side1 ?side2 A10.out).mono ?_); (case side1 => exact tI); (case side2 => exact tB); rintro e w14 ⟨rfl, hi, hb, hk⟩; refine ⟨_, rfl, ?_⟩; replace HO_3 := Aside0.mk (Kd.S_mono (Kd.S_keep (IsS64.apartS (show IsS64 w0 _ g s0_0 t168 t169 from tI) (S_l HO_3.out) (by decide)) hk (fun _ h => h.2)) (fun _ h => h.1)); replace HK := Aside0.mk (KeepBut.trans tK hk (.inl rfl)); replace HB := Aside0.mk (hb); replace HI0 := Aside0.mk (hi)) | ((with_reducible refine gate_dst (N := 32) rfl ?_); refine Kd.R_lit (Kd.int .i64) _ 3 ?hg (N := 32) ?hd (xs := ([t167, Int.tmod (wrap64 ((wrap64 (t167 + 1)) + t170)) (wrap64 (2 + t161))] : List Int)) (inner := [.int .i64 t167, .int .i64 (Int.tmod (wrap64 ((wrap64 (t167 + 1)) + t170)) (wrap64 (2 + t161)))]) (ok := fun _ => True) (okp := fun _ => True) ?hr ?hp (fun _ hk => hk) trivial (Below.refl _ _) (Nat.le_refl _) (by simp) ?_; (case hd => rfl); (case hg => rfl); (case hr => exact gS); (case hp => exact (Reps.one (show Kd.M (Kd.int .i64) _ _ _ t167 [.int .i64 t167] from rfl) (Reps.one (show Kd.M (Kd.int .i64) _ _ _ (Int.tmod (wrap64 ((wrap64 (t167 + 1)) + t170)) (wrap64 (2 + t161))) [.int .i64 (Int.tmod (wrap64 ((wrap64 (t167 + 1)) + t170)) (wrap64 (2 + t161)))] from rfl) (Reps.none _ _)))); intro v174 w15 ho16 hb hg_ hnew_; clear hg_ hnew_; (first | rw [← Ny173.out] at ho16 | (simp only [Int.reduceToNat] at ho16; rw [← Ny173.out] at ho16)); replace HO_3 := Aside0.mk (Kd.S_elder' (S_l HO_3.out) (Kd.R_base ho16) hb); have HO175 := Aside0.mk (Kd.R_lower ho16 (zK)); replace HK := Aside0.mk (KeepBut.trans tK (KeepBut.of_below hb g none) (.inl rfl)); replace HB := Aside0.mk (below_step tB hb); replace HI0 := Aside0.mk (IsS64.below tI hb); clear hb ho16; obtain ⟨Ao18, co18, eo18⟩ := Kd.R_slice HO175.out; subst eo18) | ((with_reducible refine gate_builtin (b := .append) (xs := #[.tmp 21, .tmp 33]) rfl ?_); at_builtin; refine Kd.S_append (Kd.slice 3 (Kd.int .i64)) w.heap.size rfl (.tmp 21) (.tmp 33) 24 26 (.slice none 0 0) 24 rfl Tryz.underlying24 info26 rfl (by decide) (by omega) u3 x3_1 y173 [.slice Ao18 y173.length co18] (fun _ => True) (fun k_ => some k_ = (.slice Ao18 y173.length co18 : Value).ownBlock) rfl rfl ?aP (fun k_ hk_ => ((Kd.R_mono (ok' := fun k_ => ((fun _ => True)) k_ ∧ some k_ ≠ (u3 : Value).ownBlock) (Kd.R_apart' (HO175.out) (Kd.S_typed HO_3.out) (by decide)) (fun k_ hk => ⟨trivial, hk.2⟩))).1 k_ hk_.symm) ?aF ?aO (Below.refl _ _) ?aS ?aL ?_; (case aP => exact Kd.M_row (Kd.R_mono (Kd.R_tight rfl (Kd.R_mono (ok' := fun k_ => ((fun _ => True)) k_ ∧ some k_ ≠ (u3 : Value).ownBlock) (Kd.R_apart' (HO175.out) (Kd.S_typed HO_3.out) (by decide)) (fun k_ hk => ⟨trivial, hk.2⟩))) (fun _ h_ => h_))); (case aF => exact (fun _ _ => trivial)); (case aO => exact (S_l (Kd.S_mono HO_3.out (fun k_ hk => ⟨trivial, fun e_ => hk.2 e_⟩)))); (case aS => exact (zK)); (case aL => have := LMc12.out; omega); intro v177 w17 ho hb hg hat; rw [← Ny176.out] at ho; replace HB := Aside0.mk (below_weaken tB HL.out hb); replace HI0 := Aside0.mk (IsS64.grown tI hg (IsS64.own_neS HI0.out HO_3.out (by decide))); replace HK := Aside0.mk (KeepBut.trans tK (KeepBut.of_grown hg g) (Kd.S_base2 HO_3.out)); have HO178 := Aside0.mk (ho); clear HO_3 HO175; clear ho hb hg hat))
     go_roundg k1
     case measure => exact oK
     case rel => exact ⟨(y176), (wrap64 (x5_1 - 1)), (t171), (t172), rS, H', ⟨oK⟩, ⟨S_l HO178.out⟩, ⟨tI⟩, ⟨tK⟩, ⟨tB⟩⟩
   ·rw [if_neg c8] at H
    have c8b0 : decide (0 < x5_1) = false := decide_eq_false c8
    clear c8
    simp only [Option.some.injEq, Prod.mk.injEq] at H
    obtain ⟨rfl, rfl, rfl⟩ := H
    go_wp2
    go_ret
    exact ⟨_, rE, S_l HO_3.out, tI, tB, tK⟩

/-! ### spec_l1PickInt: function 64 -/
def spec_l1PickInt.f (s0_0 : List Int) (s0_1 : Int) (s0_2 : Int) (l1 : List Int) : Option (Int × Int × Int) := (spec_l1Below.f s0_0 s0_1 s0_2 (l1.length : Int)).bind fun bt179 => (if 0 ≤ bt179.1 then (if bt179.1 < (l1.length : Int) then (some (rd l1 bt179.1, bt179.2.1, bt179.2.2)) else (none)) else (none))
set_option maxHeartbeats 8000000 in
set_option maxRecDepth 100000 in
theorem spec_l1PickInt.calls (g : Nat) (s0_0 : List Int) (s0_1 : Int) (s0_2 : Int) (A1 : Option Addr) (c1 : Nat) (l1 : List Int) (r1 : Int) (r2 : Int) (r3 : Int) (w0 w : World) (hI : IsS64 w0 w g s0_0 s0_1 s0_2) (hB : Below w0.heap.size w0 w) (hr1 : Kd.C (Kd.int .i64) w A1 l1.length l1) (hc1 : l1.length ≤ c1) (hf1 : ∀ ad, A1 = some ad → 0 < l1.length → ad.block ≠ g) (h : spec_l1PickInt.f s0_0 s0_1 s0_2 l1 = some (r1, r2, r3)) :
  Calls Tryz.prog 64 #[.pointer (some ⟨g, 0, none⟩), .slice A1 l1.length c1] w fun e w' => e = .returned (.int .i64 r1) ∧ IsS64 w0 w' g s0_0 r2 r3 ∧ Below w0.heap.size w0 w' ∧ KeepBut w w' g none := by
 have HR1 := Aside0.mk hr1
 have HC1 := Aside0.mk hc1
 clear hr1 hc1
 have HI0 := Aside0.mk hI
 have HK := Aside0.mk (KeepBut.refl w g none)
 have HL := Aside0.mk hB.size
 clear hI
 have HW0 := Aside0.mk hB.size
 have HB := Aside0.mk hB
 clear hB
 have H : ((spec_l1Below.f s0_0 s0_1 s0_2 (l1.length : Int)).bind fun bt179 => (if 0 ≤ bt179.1 then (if bt179.1 < (l1.length : Int) then (some (rd l1 bt179.1, bt179.2.1, bt179.2.2)) else (none)) else (none))) = some (r1, r2, r3) := h
 clear h
 obtain ⟨⟨t179, t180, t181⟩, A3, H⟩ := bs H
 try dsimp only at H
 by_cases c4 : 0 ≤ t179
 ·rw [if_pos c4] at H
  have c4b0 : decide (0 ≤ t179) = true := decide_eq_true c4
  clear c4
  obtain ⟨c5b0, H⟩ := gdt H
  simp only [Option.some.injEq, Prod.mk.injEq] at H
  obtain ⟨rfl, rfl, rfl⟩ := H
  go_enter Tryz.func64, Tryz.ntmps64
  go_wp2_with (first | ((with_reducible refine gate_callee (f := 48) rfl ?_); refine goesL_ (some 9) rfl rfl Tryz.func48 (by kernel_rfl) rfl #[.pointer (some ⟨g, 0, none⟩), .int .i64 (l1.length : Int)] rfl mp_ ?_; (with_reducible refine (spec_l1Below.calls g s0_0 s0_1 s0_2 (l1.length : Int) t179 t180 t181 w0 _ ?side1 ?side2 A3.out).mono ?_); (case side1 => exact tI); (case side2 => exact tB); rintro e w6 ⟨rfl, hi, hb, hk⟩; refine ⟨_, rfl, ?_⟩; replace HK := Aside0.mk (KeepBut.trans tK hk (.inl rfl)); replace HB := Aside0.mk (hb); replace HI0 := Aside0.mk (hi); have p182 : 0 ≤ (t179 : Int) := dT; have q182 : t179 < (l1.length : Int) := dT; obtain ⟨ad182, e182, hx182_0⟩ := Kd.at_int HR1.out t179 p182 q182; cases e182; replace hx182_0 := keep_cell HK.out hx182_0 (by first | (rw [add_block]; exact hf1 _ rfl (by omega)) | exact hf1 _ rfl (by omega) | exact hf1 ad182 rfl (by omega)); replace p182 := eq_true p182; replace q182 := eq_true q182))
  go_ret
  exact ⟨rE, tI, tB, tK⟩
 ·rw [if_neg c4] at H
  exact absurd H (by simp)

/-! ### spec_l7Bent: function 37 -/
def spec_l7Bent.f (k : Nat) (s0_0 : List Int) (s0_1 : Int) (s0_2 : Int) : Option ((List (List Int)) × Int × Int) := (spec_l7Draw.f k s0_0 s0_1 s0_2).bind fun bt183 => ((spec_l1Below.f s0_0 bt183.2.1 bt183.2.2 18).bind fun bt188 => (if bt188.1 = 0 then ((spec_l1PickInt.f s0_0 bt188.2.1 bt188.2.2 (([1, 7, (-1), 6] : List Int))).bind fun bt194 => (if bt183.1.length < 5864062014805 then (some ((bt183.1 ++ [(([1, bt194.1] : List Int))]), bt194.2.1, bt194.2.2)) else (none))) else (if bt188.1 = 1 then ((spec_CompleteGraph.f k 4).bind fun t203 => (some (t203, bt188.2.1, bt188.2.2))) else (if bt188.1 = 2 then ((spec_BipartiteGraph.f k 3 3).bind fun t206 => (some (t206, bt188.2.1, bt188.2.2))) else (some (bt183.1, bt188.2.1, bt188.2.2))))))
set_option maxHeartbeats 8000000 in
set_option maxRecDepth 100000 in
theorem spec_l7Bent.calls (k : Nat) (g : Nat) (s0_0 : List Int) (s0_1 : Int) (s0_2 : Int) (r1 : List (List Int)) (r2 : Int) (r3 : Int) (w0 w : World) (hI : IsS64 w0 w g s0_0 s0_1 s0_2) (hB : Below w0.heap.size w0 w) (h : spec_l7Bent.f k s0_0 s0_1 s0_2 = some (r1, r2, r3)) :
  Calls Tryz.prog 37 #[.pointer (some ⟨g, 0, none⟩)] w fun e w' => ∃ v0_ : Value, e = .returned (v0_) ∧ Kd.V (Kd.slice 3 (Kd.int .i64)) 26 w' w.heap.size (fun k_ => (w.heap.size ≤ k_)) v0_ r1 ∧ IsS64 w0 w' g s0_0 r2 r3 ∧ Below w0.heap.size w0 w' ∧ KeepBut w w' g none := by
 have HI0 := Aside0.mk hI
 have HK := Aside0.mk (KeepBut.refl w g none)
 have HL := Aside0.mk hB.size
 clear hI
 have HW0 := Aside0.mk hB.size
 have HB := Aside0.mk hB
 clear hB
 have H : ((spec_l7Draw.f k s0_0 s0_1 s0_2).bind fun bt183 => ((spec_l1Below.f s0_0 bt183.2.1 bt183.2.2 18).bind fun bt188 => (if bt188.1 = 0 then ((spec_l1PickInt.f s0_0 bt188.2.1 bt188.2.2 (([1, 7, (-1), 6] : List Int))).bind fun bt194 => (if bt183.1.length < 5864062014805 then (some ((bt183.1 ++ [(([1, bt194.1] : List Int))]), bt194.2.1, bt194.2.2)) else (none))) else (if bt188.1 = 1 then ((spec_CompleteGraph.f k 4).bind fun t203 => (some (t203, bt188.2.1, bt188.2.2))) else (if bt188.1 = 2 then ((spec_BipartiteGraph.f k 3 3).bind fun t206 => (some (t206, bt188.2.1, bt188.2.2))) else (some (bt183.1, bt188.2.1, bt188.2.2))))))) = some (r1, r2, r3) := h
 clear h
 obtain ⟨⟨t183, t186, t187⟩, A2, H⟩ := bs H
 try dsimp only at H
 obtain ⟨⟨t188, t189, t190⟩, A3, H⟩ := bs H
 try dsimp only at H
 by_cases c4 : t188 = 0
 ·rw [if_pos c4] at H
  have c4b0 : (t188 == 0) = true := beq_iff_eq.mpr c4
  have c4b1 : (t188 != 0) = false := bne_eq_false_iff_eq.mpr c4
  clear c4
  generalize hy191 : (([1, 7, (-1), 6] : List Int) : List Int) = y191 at H
  have Ny191 := Aside0.mk hy191.symm; clear hy191
  obtain ⟨⟨t194, t195, t196⟩, A5, H⟩ := bs H
  try dsimp only at H
  generalize hy197 : (([1, t194] : List Int) : List Int) = y197 at H
  have Ny197 := Aside0.mk hy197.symm; clear hy197
  obtain ⟨LMc6, H⟩ := gda H
  generalize hy200 : (t183 ++ [y197] : List (List Int)) = y200 at H
  have Ny200 := Aside0.mk hy200.symm; clear hy200
  simp only [Option.some.injEq, Prod.mk.injEq] at H
  obtain ⟨rfl, rfl, rfl⟩ := H
  go_enter Tryz.func37, Tryz.ntmps37
  go_wp2_with (first | ((with_reducible refine gate_callee (f := 45) rfl ?_); refine goesL_ (some 5) rfl rfl Tryz.func45 (by kernel_rfl) rfl #[.pointer (some ⟨g, 0, none⟩)] rfl mp_ ?_; (with_reducible refine (spec_l7Draw.calls k g s0_0 s0_1 s0_2 t183 t186 t187 w0 _ ?side1 ?side2 A2.out).mono ?_); (case side1 => exact tI); (case side2 => exact tB); rintro e w7 ⟨v184, rfl, ho0, hi, hb, hk⟩; refine ⟨_, rfl, ?_⟩; have HO185 := Aside0.mk (Kd.S_lower (Kd.S_newM (M := fun k_ => (w.heap.size ≤ k_)) ho0 (zK) (fun k_ h_ => h_)) (zK)); replace HK := Aside0.mk (KeepBut.trans tK hk (.inl rfl)); replace HB := Aside0.mk (hb); replace HI0 := Aside0.mk (hi)) | ((with_reducible refine gate_callee (f := 48) rfl ?_); refine goesL_ (some 7) rfl rfl Tryz.func48 (by kernel_rfl) rfl #[.pointer (some ⟨g, 0, none⟩), .int .i64 18] rfl mp_ ?_; (with_reducible refine (spec_l1Below.calls g s0_0 t186 t187 18 t188 t189 t190 w0 _ ?side1 ?side2 A3.out).mono ?_); (case side1 => exact tI); (case side2 => exact tB); rintro e w8 ⟨rfl, hi, hb, hk⟩; refine ⟨_, rfl, ?_⟩; replace HO185 := Aside0.mk (Kd.S_mono (Kd.S_keep (IsS64.apartS (show IsS64 w0 _ g s0_0 t186 t187 from tI) (S_l HO185.out) (by decide)) hk (fun _ h => h.2)) (fun _ h => h.1)); replace HK := Aside0.mk (KeepBut.trans tK hk (.inl rfl)); replace HB := Aside0.mk (hb); replace HI0 := Aside0.mk (hi)) | ((with_reducible refine gate_dst (N := 12) rfl ?_); refine Kd.R_lit (Kd.int .i64) _ 3 ?hg (N := 12) ?hd (xs := ([1, 7, (-1), 6] : List Int)) (inner := [.int .i64 1, .int .i64 7, .int .i64 (-1), .int .i64 6]) (ok := fun _ => True) (okp := fun _ => True) ?hr ?hp (fun _ hk => hk) trivial (Below.refl _ _) (Nat.le_refl _) (by simp) ?_; (case hd => rfl); (case hg => rfl); (case hr => exact gS); (case hp => exact (Reps.one (show Kd.M (Kd.int .i64) _ _ _ 1 [.int .i64 1] from rfl) (Reps.one (show Kd.M (Kd.int .i64) _ _ _ 7 [.int .i64 7] from rfl) (Reps.one (show Kd.M (Kd.int .i64) _ _ _ (-1) [.int .i64 (-1)] from rfl) (Reps.one (show Kd.M (Kd.int .i64) _ _ _ 6 [.int .i64 6] from rfl) (Reps.none _ _)))))); intro v192 w9 ho10 hb hg_ hnew_; clear hg_ hnew_; (first | rw [← Ny191.out] at ho10 | (simp only [Int.reduceToNat] at ho10; rw [← Ny191.out] at ho10)); replace HO185 := Aside0.mk (Kd.S_elder' (S_l HO185.out) (Kd.R_base ho10) hb); have HO193 := Aside0.mk (Kd.R_lower (Kd.R_newM (M := fun k_ => (w.heap.size ≤ k_)) ho10 (zK) (fun k_ h_ => h_)) (zK)); replace HK := Aside0.mk (KeepBut.trans tK (KeepBut.of_below hb g none) (.inl rfl)); replace HB := Aside0.mk (below_step tB hb); replace HI0 := Aside0.mk (IsS64.below tI hb); clear hb ho10; obtain ⟨Ao11, co11, eo11⟩ := Kd.R_slice HO193.out; subst eo11) | ((with_reducible refine gate_callee (f := 64) rfl ?_); refine goesL_ (some 13) rfl rfl Tryz.func64 (by kernel_rfl) rfl #[.pointer (some ⟨g, 0, none⟩), .slice Ao11 y191.length co11] rfl mp_ ?_; (with_reducible refine (spec_l1PickInt.calls g s0_0 t189 t190 _ _ y191 t194 t195 t196 w0 _ ?side1 ?side2 ?side3 ?side4 ?side5 A5.out).mono ?_); (case side1 => exact tI); (case side2 => exact tB); (case side3 => exact C_l ((Kd.R_reads' HO193.out).2.2)); (case side4 => exact (Kd.R_reads' HO193.out).2.1); (case side5 => exact far_slice (IsS64.own_ne HI0.out HO193.out (by decide))); rintro e w12 ⟨rfl, hi, hb, hk⟩; refine ⟨_, rfl, ?_⟩; replace HO185 := Aside0.mk (Kd.S_mono (Kd.S_keep (IsS64.apartS (show IsS64 w0 _ g s0_0 t189 t190 from tI) (S_l HO185.out) (by decide)) hk (fun _ h => h.2)) (fun _ h => h.1)); replace HO193 := Aside0.mk (Kd.R_mono (Kd.R_keep (IsS64.apart (show IsS64 w0 _ g s0_0 t189 t190 from tI) (R_l HO193.out) (by decide)) hk (fun _ h => h.2)) (fun _ h => h.1)); replace HK := Aside0.mk (KeepBut.trans tK hk (.inl rfl)); replace HB := Aside0.mk (hb); replace HI0 := Aside0.mk (hi)) | ((with_reducible refine gate_dst (N := 14) rfl ?_); refine Kd.R_lit (Kd.int .i64) _ 3 ?hg (N := 14) ?hd (xs := ([1, t194] : List Int)) (inner := [.int .i64 1, .int .i64 t194]) (ok := fun _ => True) (okp := fun _ => True) ?hr ?hp (fun _ hk => hk) trivial (Below.refl _ _) (Nat.le_refl _) (by simp) ?_; (case hd => rfl); (case hg => rfl); (case hr => exact gS); (case hp => exact (Reps.one (show Kd.M (Kd.int .i64) _ _ _ 1 [.int .i64 1] from rfl) (Reps.one (show Kd.M (Kd.int .i64) _ _ _ t194 [.int .i64 t194] from rfl) (Reps.none _ _)))); intro v198 w13 ho14 hb hg_ hnew_; clear hg_ hnew_; (first | rw [← Ny197.out] at ho14 | (simp only [Int.reduceToNat] at ho14; rw [← Ny197.out] at ho14)); replace HO185 := Aside0.mk (Kd.S_elder' (S_l HO185.out) (Kd.R_base ho14) hb); have HO199 := Aside0.mk (Kd.R_lower (Kd.R_new' (Kd.R_newM (M := fun k_ => (w.heap.size ≤ k_)) ho14 (zK) (fun k_ h_ => h_)) (Kd.R_lt (R_l HO193.out))) (zK)); replace HO193 := Aside0.mk (Kd.R_elder' (R_l HO193.out) (Kd.R_base ho14) hb); replace HK := Aside0.mk (KeepBut.trans tK (KeepBut.of_below hb g none) (.inl rfl)); replace HB := Aside0.mk (below_step tB hb); replace HI0 := Aside0.mk (IsS64.below tI hb); clear hb ho14; obtain ⟨Ao16, co16, eo16⟩ := Kd.R_slice HO199.out; subst eo16) | ((with_reducible refine gate_builtin (b := .append) (xs := #[.tmp 10, .tmp 15]) rfl ?_); at_builtin; refine Kd.S_append (Kd.slice 3 (Kd.int .i64)) w.heap.size rfl (.tmp 10) (.tmp 15) 24 26 (.slice none 0 0) 24 rfl Tryz.underlying24 info26 rfl (by decide) (by omega) v184 t183 y197 [.slice Ao16 y197.length co16] (fun k_ => (w.heap.size ≤ k_) ∧ some k_ ≠ (.slice Ao11 y191.length co11 : Value).ownBlock) (fun k_ => some k_ = (.slice Ao16 y197.length co16 : Value).ownBlock) rfl rfl ?aP (fun k_ hk_ => ((Kd.R_mono (ok' := fun k_ => ((fun k_ => (w.heap.size ≤ k_) ∧ some k_ ≠ (.slice Ao11 y191.length co11 : Value).ownBlock)) k_ ∧ some k_ ≠ (v184 : Value).ownBlock) (Kd.R_apart' (HO199.out) (Kd.S_typed HO185.out) (by decide)) (fun k_ hk => ⟨⟨hk.1.1.1, hk.1.2⟩, hk.2⟩))).1 k_ hk_.symm) ?aF ?aO (Below.refl _ _) ?aS ?aL ?_; (case aP => exact Kd.M_row (Kd.R_mono (Kd.R_tight rfl (Kd.R_mono (ok' := fun k_ => ((fun k_ => (w.heap.size ≤ k_) ∧ some k_ ≠ (.slice Ao11 y191.length co11 : Value).ownBlock)) k_ ∧ some k_ ≠ (v184 : Value).ownBlock) (Kd.R_apart' (HO199.out) (Kd.S_typed HO185.out) (by decide)) (fun k_ hk => ⟨⟨hk.1.1.1, hk.1.2⟩, hk.2⟩))) (fun _ h_ => h_))); (case aF => exact (fun k_ hk => ⟨(Nat.le_trans (zK) hk), Kd.fresh' (Kd.R_lt (R_l HO193.out)) k_ hk⟩)); (case aO => exact (S_l (Kd.S_mono HO185.out (fun k_ hk => ⟨⟨hk.1.1.1, hk.1.2⟩, fun e_ => hk.2 e_⟩)))); (case aS => exact (zK)); (case aL => have := LMc6.out; omega); intro v201 w15 ho hb hg hat; rw [← Ny200.out] at ho; replace HO193 := Aside0.mk (Kd.R_over' (R_l HO193.out) (Kd.S_typed (S_l HO185.out)) (by decide) hg); replace HB := Aside0.mk (below_weaken tB HL.out hb); replace HI0 := Aside0.mk (IsS64.grown tI hg (IsS64.own_neS HI0.out HO185.out (by decide))); replace HK := Aside0.mk (KeepBut.trans tK (KeepBut.of_grown hg g) (Kd.S_base2 HO185.out)); have HO202 := Aside0.mk (ho); clear HO185 HO199; clear ho hb hg hat))
  go_ret
  exact ⟨_, rE, Kd.S_V (S_l (Kd.S_mono HO202.out (fun _ hk => hk.1))), tI, tB, tK⟩
 ·rw [if_neg c4] at H
  have c4b0 : (t188 == 0) = false := beq_eq_false_iff_ne.mpr c4
  have c4b1 : (t188 != 0) = true := bne_iff_ne.mpr c4
  by_cases c17 : t188 = 1
  ·rw [if_pos c17] at H
   have c17b0 : (t188 == 1) = true := beq_iff_eq.mpr c17
   have c17b1 : (t188 != 1) = false := bne_eq_false_iff_eq.mpr c17
   clear c17
   obtain ⟨t203, A18, H⟩ := bs H
   simp only [Option.some.injEq, Prod.mk.injEq] at H
   obtain ⟨rfl, rfl, rfl⟩ := H
   go_enter Tryz.func37, Tryz.ntmps37
   go_wp2_with (first | ((with_reducible refine gate_callee (f := 45) rfl ?_); refine goesL_ (some 5) rfl rfl Tryz.func45 (by kernel_rfl) rfl #[.pointer (some ⟨g, 0, none⟩)] rfl mp_ ?_; (with_reducible refine (spec_l7Draw.calls k g s0_0 s0_1 s0_2 t183 t186 t187 w0 _ ?side1 ?side2 A2.out).mono ?_); (case side1 => exact tI); (case side2 => exact tB); rintro e w19 ⟨v184, rfl, ho0, hi, hb, hk⟩; refine ⟨_, rfl, ?_⟩; have HO185 := Aside0.mk (Kd.S_lower (Kd.S_newM (M := fun k_ => (w.heap.size ≤ k_)) ho0 (zK) (fun k_ h_ => h_)) (zK)); replace HK := Aside0.mk (KeepBut.trans tK hk (.inl rfl)); replace HB := Aside0.mk (hb); replace HI0 := Aside0.mk (hi)) | ((with_reducible refine gate_callee (f := 48) rfl ?_); refine goesL_ (some 7) rfl rfl Tryz.func48 (by kernel_rfl) rfl #[.pointer (some ⟨g, 0, none⟩), .int .i64 18] rfl mp_ ?_; (with_reducible refine (spec_l1Below.calls g s0_0 t186 t187 18 t188 t189 t190 w0 _ ?side1 ?side2 A3.out).mono ?_); (case side1 => exact tI); (case side2 => exact tB); rintro e w20 ⟨rfl, hi, hb, hk⟩; refine ⟨_, rfl, ?_⟩; replace HO185 := Aside0.mk (Kd.S_mono (Kd.S_keep (IsS64.apartS (show IsS64 w0 _ g s0_0 t186 t187 from tI) (S_l HO185.out) (by decide)) hk (fun _ h => h.2)) (fun _ h => h.1)); replace HK := Aside0.mk (KeepBut.trans tK hk (.inl rfl)); replace HB := Aside0.mk (hb); replace HI0 := Aside0.mk (hi)) | ((with_reducible refine gate_callee (f := 18) rfl ?_); refine goesL_ (some 19) rfl rfl Tryz.func18 (by kernel_rfl) rfl #[.int .i64 4] rfl mp_ ?_; (with_reducible refine (spec_CompleteGraph.calls k 4 t203 _ A18.out).mono ?_); rintro e w21 ⟨v204, rfl, ho0, hb⟩; refine ⟨_, rfl, ?_⟩; have HO205 := Aside0.mk (Kd.V_lower (Kd.V_mono (ok' := fun k_ => (w.heap.size ≤ k_) ∧ some k_ ≠ (v184 : Value).ownBlock ∧ k_ ≠ g) (Kd.S_V ho0) (fun k_ hk_ => ⟨(Nat.le_trans (zK) hk_), (Kd.fresh' (Kd.S_lt (S_l HO185.out)) k_ hk_), (IsS64.fresh tI k_ hk_)⟩)) (zK)); replace HO185 := Aside0.mk (sB HO185.out hb); replace HK := Aside0.mk (KeepBut.trans tK (KeepBut.of_below hb g none) (.inl rfl)); replace HB := Aside0.mk (below_step tB hb); replace HI0 := Aside0.mk (IsS64.below tI hb)))
   go_ret
   exact ⟨_, rE, by (with_reducible repeat (first | apply Kd.V_alloc | apply Kd.V_drewN | apply Kd.V_drew)); exact Kd.V_mono HO205.out (fun _ hk => hk.1), tI, tB, tK⟩
  ·rw [if_neg c17] at H
   have c17b0 : (t188 == 1) = false := beq_eq_false_iff_ne.mpr c17
   have c17b1 : (t188 != 1) = true := bne_iff_ne.mpr c17
   by_cases c22 : t188 = 2
   ·rw [if_pos c22] at H
    have c22b0 : (t188 == 2) = true := beq_iff_eq.mpr c22
    have c22b1 : (t188 != 2) = false := bne_eq_false_iff_eq.mpr c22
    clear c22
    obtain ⟨t206, A23, H⟩ := bs H
    simp only [Option.some.injEq, Prod.mk.injEq] at H
    obtain ⟨rfl, rfl, rfl⟩ := H
    go_enter Tryz.func37, Tryz.ntmps37
    go_wp2_with (first | ((with_reducible refine gate_callee (f := 45) rfl ?_); refine goesL_ (some 5) rfl rfl Tryz.func45 (by kernel_rfl) rfl #[.pointer (some ⟨g, 0, none⟩)] rfl mp_ ?_; (with_reducible refine (spec_l7Draw.calls k g s0_0 s0_1 s0_2 t183 t186 t187 w0 _ ?side1 ?side2 A2.out).mono ?_); (case side1 => exact tI); (case side2 => exact tB); rintro e w24 ⟨v184, rfl, ho0, hi, hb, hk⟩; refine ⟨_, rfl, ?_⟩; have HO185 := Aside0.mk (Kd.S_lower (Kd.S_newM (M := fun k_ => (w.heap.size ≤ k_)) ho0 (zK) (fun k_ h_ => h_)) (zK)); replace HK := Aside0.mk (KeepBut.trans tK hk (.inl rfl)); replace HB := Aside0.mk (hb); replace HI0 := Aside0.mk (hi)) | ((with_reducible refine gate_callee (f := 48) rfl ?_); refine goesL_ (some 7) rfl rfl Tryz.func48 (by kernel_rfl) rfl #[.pointer (some ⟨g, 0, none⟩), .int .i64 18] rfl mp_ ?_; (with_reducible refine (spec_l1Below.calls g s0_0 t186 t187 18 t188 t189 t190 w0 _ ?side1 ?side2 A3.out).mono ?_); (case side1 => exact tI); (case side2 => exact tB); rintro e w25 ⟨rfl, hi, hb, hk⟩; refine ⟨_, rfl, ?_⟩; replace HO185 := Aside0.mk (Kd.S_mono (Kd.S_keep (IsS64.apartS (show IsS64 w0 _ g s0_0 t186 t187 from tI) (S_l HO185.out) (by decide)) hk (fun _ h => h.2)) (fun _ h => h.1)); replace HK := Aside0.mk (KeepBut.trans tK hk (.inl rfl)); replace HB := Aside0.mk (hb); replace HI0 := Aside0.mk (hi)) | ((with_reducible refine gate_callee (f := 20) rfl ?_); refine goesL_ (some 22) rfl rfl Tryz.func20 (by kernel_rfl) rfl #[.int .i64 3, .int .i64 3] rfl mp_ ?_; (with_reducible refine (spec_BipartiteGraph.calls k 3 3 t206 _ A23.out).mono ?_); rintro e w26 ⟨v207, rfl, ho0, hb⟩; refine ⟨_, rfl, ?_⟩; have HO208 := Aside0.mk (Kd.V_lower (Kd.V_mono (ok' := fun k_ => (w.heap.size ≤ k_) ∧ some k_ ≠ (v184 : Value).ownBlock ∧ k_ ≠ g) (Kd.S_V ho0) (fun k_ hk_ => ⟨(Nat.le_trans (zK) hk_), (Kd.fresh' (Kd.S_lt (S_l HO185.out)) k_ hk_), (IsS64.fresh tI k_ hk_)⟩)) (zK)); replace HO185 := Aside0.mk (sB HO185.out hb); replace HK := Aside0.mk (KeepBut.trans tK (KeepBut.of_below hb g none) (.inl rfl)); replace HB := Aside0.mk (below_step tB hb); replace HI0 := Aside0.mk (IsS64.below tI hb)))
    go_ret
    exact ⟨_, rE, by (with_reducible repeat (first | apply Kd.V_alloc | apply Kd.V_drewN | apply Kd.V_drew)); exact Kd.V_mono HO208.out (fun _ hk => hk.1), tI, tB, tK⟩
   ·rw [if_neg c22] at H
    have c22b0 : (t188 == 2) = false := beq_eq_false_iff_ne.mpr c22
    have c22b1 : (t188 != 2) = true := bne_iff_ne.mpr c22
    simp only [Option.some.injEq, Prod.mk.injEq] at H
    obtain ⟨rfl, rfl, rfl⟩ := H
    go_enter Tryz.func37, Tryz.ntmps37
    go_wp2_with (first | ((with_reducible refine gate_callee (f := 45) rfl ?_); refine goesL_ (some 5) rfl rfl Tryz.func45 (by kernel_rfl) rfl #[.pointer (some ⟨g, 0, none⟩)] rfl mp_ ?_; (with_reducible refine (spec_l7Draw.calls k g s0_0 s0_1 s0_2 t183 t186 t187 w0 _ ?side1 ?side2 A2.out).mono ?_); (case side1 => exact tI); (case side2 => exact tB); rintro e w27 ⟨v184, rfl, ho0, hi, hb, hk⟩; refine ⟨_, rfl, ?_⟩; have HO185 := Aside0.mk (Kd.S_lower (Kd.S_newM (M := fun k_ => (w.heap.size ≤ k_)) ho0 (zK) (fun k_ h_ => h_)) (zK)); replace HK := Aside0.mk (KeepBut.trans tK hk (.inl rfl)); replace HB := Aside0.mk (hb); replace HI0 := Aside0.mk (hi)) | ((with_reducible refine gate_callee (f := 48) rfl ?_); refine goesL_ (some 7) rfl rfl Tryz.func48 (by kernel_rfl) rfl #[.pointer (some ⟨g, 0, none⟩), .int .i64 18] rfl mp_ ?_; (with_reducible refine (spec_l1Below.calls g s0_0 t186 t187 18 t188 t189 t190 w0 _ ?side1 ?side2 A3.out).mono ?_); (case side1 => exact tI); (case side2 => exact tB); rintro e w28 ⟨rfl, hi, hb, hk⟩; refine ⟨_, rfl, ?_⟩; replace HO185 := Aside0.mk (Kd.S_mono (Kd.S_keep (IsS64.apartS (show IsS64 w0 _ g s0_0 t186 t187 from tI) (S_l HO185.out) (by decide)) hk (fun _ h => h.2)) (fun _ h => h.1)); replace HK := Aside0.mk (KeepBut.trans tK hk (.inl rfl)); replace HB := Aside0.mk (hb); replace HI0 := Aside0.mk (hi)))
    go_ret
    exact ⟨_, rE, Kd.S_V (S_l (Kd.S_mono HO185.out (fun _ hk => hk.1))), tI, tB, tK⟩

/-! ### spec_l1New: function 38 -/
def spec_l1New.l0 : Nat → List Int → Int → Int → Option (List Int × Int × Int)
 | 0, _, _, _ => none
 | k + 1, x0, x3, x4 => if x4 < (x0.length : Int) then (if x4 < 4000 then (if 0 ≤ x4 then (spec_l1New.l0 k x0 (Go.bits .and .i64 (wrap64 ((wrap64 ((wrap64 (x3 * 131)) + (wrap64 (rd x0 x4)))) + 7)) 1073741823) (wrap64 (x4 + 1))) else (none)) else (some (x0, 0, x3))) else (some (x0, 0, x3))
def spec_l1New.f (k : Nat) (l0 : List Int) : Option (List Int × Int × Int) := spec_l1New.l0 k l0 (wrap64 (26583 + (l0.length : Int))) 0
set_option maxHeartbeats 8000000 in
set_option maxRecDepth 100000 in
theorem spec_l1New.calls (k : Nat) (A0 : Option Addr) (c0 : Nat) (l0 : List Int) (r1 : List Int) (r2 : Int) (r3 : Int) (w0 w : World) (hB : Below w0.heap.size w0 w) (hr0 : Kd.C (Kd.int .u8) w0 A0 l0.length l0) (hc0 : l0.length ≤ c0) (h : spec_l1New.f k l0 = some (r1, r2, r3)) :
  Calls Tryz.prog 38 #[.slice A0 l0.length c0] w fun e w' => ∃ g_ : Nat, e = .returned (.pointer (some ⟨g_, 0, none⟩)) ∧ IsS64 w0 w' g_ r1 r2 r3 ∧ Below w0.heap.size w0 w' ∧ Below w.heap.size w w' := by
 have hu64 := Tryz.underlying64
 have HR0 := Aside0.mk hr0
 have HC0 := Aside0.mk hc0
 clear hr0 hc0
 have HBW := Aside0.mk (Below.refl w.heap.size w)
 have HW0 := Aside0.mk hB.size
 have HB := Aside0.mk hB
 clear hB
 have H : (spec_l1New.l0 k l0 (wrap64 (26583 + (l0.length : Int))) 0) = some (r1, r2, r3) := h
 clear h
 have H' := Aside0.mk H
 clear H
 go_enter Tryz.func38, Tryz.ntmps38
 go_wp2
 go_loopg [3, 4] k (fun kq v3 v4 w' => ∃ (x3_1 : Int) (x4_1 : Int), v3 = .int .i64 x3_1 ∧ v4 = .int .i64 x4_1 ∧ Aside0 (spec_l1New.l0 kq l0 x3_1 x4_1 = some (r1, r2, r3)) ∧ Aside0 (kq ≤ k) ∧ Aside0 (Below w0.heap.size w0 w') ∧ Aside0 (Below w.heap.size w w'))
 case atStart => exact ⟨(wrap64 (26583 + (l0.length : Int))), (0), rS, rS, H', ⟨Nat.le_refl _⟩, ⟨tb⟩, ⟨by repeat (first | (with_reducible first | exact HBW.out | apply below_alloc | apply pw_below_drewN | apply below_drew1) | exact HBW.out)⟩⟩
 case round =>
  clear H'
  obtain ⟨x3_1, x4_1, rfl, rfl, HA, HK1, HB, HBW⟩ := hrel
  cases gk with
  | zero => exact absurd HA.out (by simp [spec_l1New.l0])
  | succ k1 =>
   have H := HA.out
   clear HA
   simp only [spec_l1New.l0] at H
   obtain ⟨c2b0, H⟩ | ⟨c2b0, H⟩ := gi H
   ·obtain ⟨c3b0, H⟩ | ⟨c3b0, H⟩ := gi H
    ·obtain ⟨c4b0, H⟩ := gdt H
     have H' := Aside0.mk H
     clear H
     have p209 : 0 ≤ (x4_1 : Int) := dT
     have q209 : x4_1 < (l0.length : Int) := dT
     obtain ⟨ad209, e209, hx209_0⟩ := Kd.at_int HR0.out x4_1 p209 q209
     cases e209
     replace hx209_0 := pw_cell_below HB.out hx209_0
     replace p209 := eq_true p209
     replace q209 := eq_true q209
     go_wp2
     go_roundg k1
     case measure => exact oK
     case rel => exact ⟨(Go.bits .and .i64 (wrap64 ((wrap64 ((wrap64 (x3_1 * 131)) + (wrap64 (rd l0 x4_1)))) + 7)) 1073741823), (wrap64 (x4_1 + 1)), rS, rS, H', ⟨oK⟩, ⟨tb⟩, ⟨by repeat (first | (with_reducible first | exact HBW.out | apply below_alloc | apply pw_below_drewN | apply below_drew1) | exact HBW.out)⟩⟩
    ·simp only [Option.some.injEq, Prod.mk.injEq] at H
     obtain ⟨rfl, rfl, rfl⟩ := H
     go_wp2_with (first | ((with_reducible refine gate_dst (N := 31) rfl ?_); refine box_event ?hg (N := 31) ?hd (cs := #[.slice A0 l0.length c0, .int .i64 0, .int .i64 x3_1]) (t := 64) ?hr ?_; (case hd => rfl); (case hg => rfl); (case hr => exact gS); intro gb210 hg w5 hbox hb; replace HB := Aside0.mk (below_step tb hb); have BK210 := Aside0.mk (hbox); have GW210 := Aside0.mk ((by rw [hg]; exact (below_size (by repeat (first | (with_reducible first | exact HBW.out | apply below_alloc | apply pw_below_drewN | apply below_drew1) | exact HBW.out))) : w.heap.size ≤ gb210)); have GE210 := Aside0.mk ((Nat.le_trans HW0.out (by rw [hg]; exact (below_size (by repeat (first | (with_reducible first | exact HBW.out | apply below_alloc | apply pw_below_drewN | apply below_drew1) | exact HBW.out))) : w.heap.size ≤ gb210) : w0.heap.size ≤ gb210)); replace HBW := Aside0.mk (below_step HBW.out hb); clear hb hbox hg))
     go_ret
     exact ⟨_, rfl, (show IsS64 w0 _ gb210 l0 0 x3_1 from ⟨_, _, by (with_reducible repeat (first | refine blk_drewN ?_ _ | refine blk_drew ?_ | refine blk_alloc ?_ _)); exact BK210.out, GE210.out, HR0.out⟩), tG1 GE210.out, by repeat (first | (with_reducible first | exact HBW.out | apply below_alloc | apply pw_below_drewN | apply below_drew1 | refine below_set ?_ GW210.out) | exact HBW.out)⟩
   ·simp only [Option.some.injEq, Prod.mk.injEq] at H
    obtain ⟨rfl, rfl, rfl⟩ := H
    go_wp2_with (first | ((with_reducible refine gate_dst (N := 31) rfl ?_); refine box_event ?hg (N := 31) ?hd (cs := #[.slice A0 l0.length c0, .int .i64 0, .int .i64 x3_1]) (t := 64) ?hr ?_; (case hd => rfl); (case hg => rfl); (case hr => exact gS); intro gb211 hg w6 hbox hb; replace HB := Aside0.mk (below_step tb hb); have BK211 := Aside0.mk (hbox); have GW211 := Aside0.mk ((by rw [hg]; exact (below_size (by repeat (first | (with_reducible first | exact HBW.out | apply below_alloc | apply pw_below_drewN | apply below_drew1) | exact HBW.out))) : w.heap.size ≤ gb211)); have GE211 := Aside0.mk ((Nat.le_trans HW0.out (by rw [hg]; exact (below_size (by repeat (first | (with_reducible first | exact HBW.out | apply below_alloc | apply pw_below_drewN | apply below_drew1) | exact HBW.out))) : w.heap.size ≤ gb211) : w0.heap.size ≤ gb211)); replace HBW := Aside0.mk (below_step HBW.out hb); clear hb hbox hg))
    go_ret
    exact ⟨_, rfl, (show IsS64 w0 _ gb211 l0 0 x3_1 from ⟨_, _, by (with_reducible repeat (first | refine blk_drewN ?_ _ | refine blk_drew ?_ | refine blk_alloc ?_ _)); exact BK211.out, GE211.out, HR0.out⟩), tG1 GE211.out, by repeat (first | (with_reducible first | exact HBW.out | apply below_alloc | apply pw_below_drewN | apply below_drew1 | refine below_set ?_ GW211.out) | exact HBW.out)⟩

/-! ### spec_DrawGenusRow: function 5 -/
def spec_DrawGenusRow.f (k : Nat) (l0 : List Int) : Option ((List (List Int))) := (spec_l1New.f k l0).bind fun bt212 => ((spec_l7Bent.f k bt212.1 bt212.2.1 bt212.2.2).bind fun bt216 => (some bt216.1))
set_option maxHeartbeats 8000000 in
set_option maxRecDepth 100000 in
theorem spec_DrawGenusRow.calls (k : Nat) (A0 : Option Addr) (c0 : Nat) (l0 : List Int) (r : List (List Int)) (w : World) (hr0 : Kd.C (Kd.int .u8) w A0 l0.length l0) (hc0 : l0.length ≤ c0) (h : spec_DrawGenusRow.f k l0 = some r) :
  Calls Tryz.prog 5 #[.slice A0 l0.length c0] w fun e w' => ∃ v0_ : Value, e = .returned (v0_) ∧ Kd.V (Kd.slice 3 (Kd.int .i64)) 26 w' w.heap.size (fun k_ => (w.heap.size ≤ k_)) v0_ r ∧ Below w.heap.size w w' := by
 have HR0 := Aside0.mk hr0
 have HC0 := Aside0.mk hc0
 clear hr0 hc0
 have HB := Aside0.mk (Below.refl w.heap.size w)
 have H : ((spec_l1New.f k l0).bind fun bt212 => ((spec_l7Bent.f k bt212.1 bt212.2.1 bt212.2.2).bind fun bt216 => (some bt216.1))) = some r := h
 clear h
 obtain ⟨⟨t212, t213, t214⟩, A2, H⟩ := bs H
 try dsimp only at H
 obtain ⟨⟨t216, t219, t220⟩, A3, H⟩ := bs H
 try dsimp only at H
 obtain rfl := Option.some.inj H
 go_enter Tryz.func5, Tryz.ntmps5
 go_wp2_with (first | ((with_reducible refine gate_callee (f := 38) rfl ?_); refine goesL_ (some 4) rfl rfl Tryz.func38 (by kernel_rfl) rfl #[.slice A0 l0.length c0] rfl mp_ ?_; (with_reducible refine (spec_l1New.calls k _ _ l0 t212 t213 t214 w _ ?side1 ?side2 ?side3 A2.out).mono ?_); (case side1 => exact tb); (case side2 => exact HR0.out); (case side3 => exact HC0.out); rintro e w4 ⟨g215, rfl, hi, hb, hb2⟩; refine ⟨_, rfl, ?_⟩; replace HB := Aside0.mk (hb); have HI215 := Aside0.mk (hi)) | ((with_reducible refine gate_callee (f := 37) rfl ?_); refine goesL_ (some 5) rfl rfl Tryz.func37 (by kernel_rfl) rfl #[.pointer (some ⟨g215, 0, none⟩)] rfl mp_ ?_; (with_reducible refine (spec_l7Bent.calls k g215 t212 t213 t214 t216 t219 t220 w _ ?side1 ?side2 A3.out).mono ?_); (case side1 => repeat (first | (with_reducible first | exact HI215.out | apply IsS64.alloc | apply IsS64.drewN | apply IsS64.drew | apply IsS64.set_1 | apply IsS64.set_2) | exact HI215.out)); (case side2 => repeat (first | (with_reducible first | exact HB.out | apply below_alloc | apply pw_below_drewN | apply below_drew1 | refine below_set ?_ (IsS64.ge HI215.out)) | exact HB.out)); rintro e w5 ⟨v217, rfl, ho0, hi, hb, hk⟩; refine ⟨_, rfl, ?_⟩; have HO218 := Aside0.mk (Kd.V_lower (Kd.V_mono (ok' := fun k_ => (w.heap.size ≤ k_) ∧ k_ ≠ g215) ho0 (fun k_ hk_ => ⟨(Nat.le_trans (below_size (by repeat (first | (with_reducible first | exact HB.out | apply below_alloc | apply pw_below_drewN | apply below_drew1 | refine below_set ?_ (IsS64.ge HI215.out)) | exact HB.out))) hk_), (IsS64.fresh (by repeat (first | (with_reducible first | exact HI215.out | apply IsS64.alloc | apply IsS64.drewN | apply IsS64.drew | apply IsS64.set_1 | apply IsS64.set_2) | exact HI215.out)) k_ hk_)⟩)) (below_size (by repeat (first | (with_reducible first | exact HB.out | apply below_alloc | apply pw_below_drewN | apply below_drew1 | refine below_set ?_ (IsS64.ge HI215.out)) | exact HB.out)))); replace HB := Aside0.mk (hb); replace HI215 := Aside0.mk (hi)))
 go_ret
 exact ⟨_, rE, by (with_reducible repeat (first | apply Kd.V_alloc | apply Kd.V_drewN | apply Kd.V_drew)); exact Kd.V_mono HO218.out (fun _ hk => hk.1), by repeat (first | (with_reducible first | exact HB.out | apply below_alloc | apply pw_below_drewN | apply below_drew1 | refine below_set ?_ (IsS64.ge HI215.out)) | exact HB.out)⟩

/-! ### impl_within: function 53 -/
def impl_within.f (a0 : Int) (a1 : Int) (a2 : Int) : Option (Bool) := if a0 ≥ a1 then (some (decide (a0 ≤ a2))) else (some false)
set_option maxHeartbeats 8000000 in
set_option maxRecDepth 100000 in
theorem impl_within.calls (a0 : Int) (a1 : Int) (a2 : Int) (r : Bool) (w : World) (h : impl_within.f a0 a1 a2 = some r) :
  Calls Tryz.prog 53 #[.int .i64 a0, .int .i64 a1, .int .i64 a2] w fun e w' => e = .returned (.bool r) ∧ Drawn0 w w' := by
 have H : (if a0 ≥ a1 then (some (decide (a0 ≤ a2))) else (some false)) = some r := h
 clear h
 by_cases c4 : a0 ≥ a1
 ·rw [if_pos c4] at H
  have c4b0 : decide (a1 ≤ a0) = true := decide_eq_true c4
  clear c4
  obtain rfl := Option.some.inj H
  go_enter Tryz.func53, Tryz.ntmps53
  go_wp2
  go_ret
  exact ⟨rS, tD⟩
 ·rw [if_neg c4] at H
  have c4b0 : decide (a1 ≤ a0) = false := decide_eq_false c4
  clear c4
  obtain rfl := Option.some.inj H
  go_enter Tryz.func53, Tryz.ntmps53
  go_wp2
  go_ret
  exact ⟨rS, tD⟩

/-! ### impl_IsGraph: function 24 -/
def impl_IsGraph.l0 : Nat → List (List Int) → List (List Int) → Int → Int → Option (Bool)
 | 0, _, _, _, _ => none
 | k + 1, x0, x5, x6, x7 => if x7 < x6 then (if 0 ≤ x7 then (if x7 < (x5.length : Int) then (if ((rd_L2 x5 x7).length : Int) = 2 then (if 0 < ((rd_L2 x5 x7).length : Int) then ((impl_within.f (rd (rd_L2 x5 x7) 0) 0 6).bind fun t224 => (if t224 = true then (if 1 < ((rd_L2 x5 x7).length : Int) then ((impl_within.f (rd (rd_L2 x5 x7) 1) 0 6).bind fun t226 => (if t226 = true then (if (rd (rd_L2 x5 x7) 0) = (rd (rd_L2 x5 x7) 1) then (some false) else (impl_IsGraph.l0 k x0 x5 x6 (wrap64 (x7 + 1)))) else (some false))) else (none)) else (some false))) else (none)) else (some false)) else (none)) else (none)) else ((impl_within.f (x0.length : Int) 1 10).bind fun t221 => (some t221))
def impl_IsGraph.f (k : Nat) (l0 : List (List Int)) : Option (Bool) := impl_IsGraph.l0 k l0 l0 (l0.length : Int) 0
theorem impl_IsGraph.mono_l : ∀ k, (∀ y0 y1 y2 y3, LeO (impl_IsGraph.l0 k y0 y1 y2 y3) (impl_IsGraph.l0 (k + 1) y0 y1 y2 y3))
 | 0 => fun _ _ _ _ r h => by simp [impl_IsGraph.l0] at h
 | k + 1 => by
  have ih0 := impl_IsGraph.mono_l k
  ·intro y0 y1 y2 y3
   unfold impl_IsGraph.l0
   exact mM1 ih0
theorem impl_IsGraph.mono : ∀ a0 k, LeO (impl_IsGraph.f k a0) (impl_IsGraph.f (k + 1) a0) := by
 intro a0 k
 have ih0 := impl_IsGraph.mono_l k
 unfold impl_IsGraph.f
 exact mM1 ih0
set_option maxHeartbeats 8000000 in
set_option maxRecDepth 100000 in
theorem impl_IsGraph.calls (k : Nat) (A0 : Option Addr) (c0 : Nat) (l0 : List (List Int)) (r : Bool) (w : World) (hr0 : Kd.C (Kd.slice 3 (Kd.int .i64)) w A0 l0.length l0) (hc0 : l0.length ≤ c0) (h : impl_IsGraph.f k l0 = some r) :
  Calls Tryz.prog 24 #[.slice A0 l0.length c0] w fun e w' => e = .returned (.bool r) ∧ Drawn0 w w' := by
 have HR0 := Aside0.mk hr0
 have HC0 := Aside0.mk hc0
 clear hr0 hc0
 have H : (impl_IsGraph.l0 k l0 l0 (l0.length : Int) 0) = some r := h
 clear h
 have H' := Aside0.mk H
 clear H
 go_enter Tryz.func24, Tryz.ntmps24
 go_wp2
 repeat (go_quiet (fail); try go_wp2)
 go_loopg [7] k (fun kq v7 w' => ∃ (x7_1 : Int), v7 = .int .i64 x7_1 ∧ Aside0 (impl_IsGraph.l0 kq l0 l0 (l0.length : Int) x7_1 = some r) ∧ Aside0 (kq ≤ k) ∧ Drawn0 w w')
 case atStart => exact ⟨(0), rS, H', ⟨Nat.le_refl _⟩, tD⟩
 case round =>
  clear H'
  obtain ⟨x7_1, rfl, HA, HK1, ⟨m1, rfl⟩⟩ := hrel
  cases gk with
  | zero => exact absurd HA.out (by simp [impl_IsGraph.l0])
  | succ k1 =>
   have H := HA.out
   clear HA
   simp only [impl_IsGraph.l0] at H
   obtain ⟨c2b0, H⟩ | ⟨c2b0, H⟩ := gi H
   ·obtain ⟨c3b0, H⟩ := gdt H
    obtain ⟨c4b0, H⟩ := gdt H
    by_cases c5 : ((rd_L2 l0 x7_1).length : Int) = 2
    ·rw [if_pos c5] at H
     have c5b0 : (((rd_L2 l0 x7_1).length : Int) == 2) = true := beq_iff_eq.mpr c5
     have c5b1 : (((rd_L2 l0 x7_1).length : Int) != 2) = false := bne_eq_false_iff_eq.mpr c5
     clear c5
     obtain ⟨c6, H⟩ := gd H
     have c6b0 : decide (0 < ((rd_L2 l0 x7_1).length : Int)) = true := decide_eq_true c6
     have c6b1 : decide (0 < (rd_L2 l0 x7_1).length) = true := decide_eq_true (by omega)
     clear c6
     obtain ⟨t224, A7, H⟩ := bs H
     by_cases c8 : t224 = true
     ·subst c8
      rw [if_pos rfl] at H
      obtain ⟨c9, H⟩ := gd H
      have c9b0 : decide (1 < ((rd_L2 l0 x7_1).length : Int)) = true := decide_eq_true c9
      have c9b1 : decide (1 < (rd_L2 l0 x7_1).length) = true := decide_eq_true (by omega)
      clear c9
      obtain ⟨t226, A10, H⟩ := bs H
      by_cases c11 : t226 = true
      ·subst c11
       rw [if_pos rfl] at H
       by_cases c12 : (rd (rd_L2 l0 x7_1) 0) = (rd (rd_L2 l0 x7_1) 1)
       ·rw [if_pos c12] at H
        have c12b0 : ((rd (rd_L2 l0 x7_1) 0) == (rd (rd_L2 l0 x7_1) 1)) = true := beq_iff_eq.mpr c12
        have c12b1 : ((rd (rd_L2 l0 x7_1) 0) != (rd (rd_L2 l0 x7_1) 1)) = false := bne_eq_false_iff_eq.mpr c12
        clear c12
        obtain rfl := Option.some.inj H
        have p222 : 0 ≤ (x7_1 : Int) := dT
        have q222 : x7_1 < (l0.length : Int) := dT
        obtain ⟨ad222, A222_0, c222_0, e222, hx222_0, hl222_0, hi222_0⟩ := at_L2 HR0.out x7_1 p222 q222
        cases e222
        have HR222_0 := Aside0.mk hi222_0
        have HC222_0 := Aside0.mk hl222_0
        clear hi222_0 hl222_0
        replace p222 := eq_true p222
        replace q222 := eq_true q222
        have p223 : 0 ≤ (0 : Int) := (by omega)
        have q223 : 0 < ((rd_L2 l0 x7_1).length : Int) := dT
        obtain ⟨ad223, e223, hx223_0⟩ := Kd.at_int HR222_0.out 0 p223 q223
        cases e223
        have qi223 : (0 < (rd_L2 l0 x7_1).length) = True := eq_true (by omega)
        (try rw [show ((0 : Int)).toNat = 0 from rfl] at hx223_0)
        (try rw [Addr.add_zero'] at hx223_0)
        replace p223 := eq_true p223
        replace q223 := eq_true q223
        go_wp2_with (first | (go_at_call 53; (with_reducible refine (impl_within.calls (rd (rd_L2 l0 x7_1) 0) 0 6 true _ A7.out).mono ?_); rintro e w' ⟨rfl, ⟨nd, rfl⟩⟩; (try first | exact ⟨rfl, _, World.drewN_drewN _ _ _⟩ | exact ⟨rfl, _, Eq.trans (World.drewN_drewN _ _ _) (congrArg (World.drewN _) (Nat.add_assoc _ _ _))⟩); have p225 : 0 ≤ (1 : Int) := (by omega); have q225 : 1 < ((rd_L2 l0 x7_1).length : Int) := dT; obtain ⟨ad225, e225, hx225_0⟩ := Kd.at_int HR222_0.out 1 p225 q225; obtain rfl : ad223 = ad225 := (by injection e225); (try simp only [show (1 : Int).toNat = 1 from rfl, Nat.reduceMul, Nat.reduceEqDiff, Go.Addr.add, ↓reduceIte] at hx225_0); have qi225 : (1 < (rd_L2 l0 x7_1).length) = True := eq_true (by omega); (try rw [show ((1 : Int)).toNat = 1 from rfl] at hx225_0); replace p225 := eq_true p225; replace q225 := eq_true q225) | (go_at_call 53; (with_reducible refine (impl_within.calls (rd (rd_L2 l0 x7_1) 1) 0 6 true _ A10.out).mono ?_); rintro e w' ⟨rfl, ⟨nd, rfl⟩⟩; (try first | exact ⟨rfl, _, World.drewN_drewN _ _ _⟩ | exact ⟨rfl, _, Eq.trans (World.drewN_drewN _ _ _) (congrArg (World.drewN _) (Nat.add_assoc _ _ _))⟩); have p227 : 0 ≤ (0 : Int) := (by omega); have q227 : 0 < ((rd_L2 l0 x7_1).length : Int) := dT; obtain ⟨ad227, e227, hx227_0⟩ := Kd.at_int HR222_0.out 0 p227 q227; obtain rfl : ad223 = ad227 := (by injection e227); have qi227 : (0 < (rd_L2 l0 x7_1).length) = True := eq_true (by omega); (try rw [show ((0 : Int)).toNat = 0 from rfl] at hx227_0); (try rw [Addr.add_zero'] at hx227_0); replace p227 := eq_true p227; replace q227 := eq_true q227; have p228 : 0 ≤ (1 : Int) := (by omega); have q228 : 1 < ((rd_L2 l0 x7_1).length : Int) := dT; obtain ⟨ad228, e228, hx228_0⟩ := Kd.at_int HR222_0.out 1 p228 q228; obtain rfl : ad223 = ad228 := (by injection e228); (try simp only [show (1 : Int).toNat = 1 from rfl, Nat.reduceMul, Nat.reduceEqDiff, Go.Addr.add, ↓reduceIte] at hx228_0); have qi228 : (1 < (rd_L2 l0 x7_1).length) = True := eq_true (by omega); (try rw [show ((1 : Int)).toNat = 1 from rfl] at hx228_0); replace p228 := eq_true p228; replace q228 := eq_true q228))
        repeat (go_quiet (first | (go_at_call 53; (with_reducible refine (impl_within.calls (rd (rd_L2 l0 x7_1) 0) 0 6 true _ A7.out).mono ?_); rintro e w' ⟨rfl, ⟨nd, rfl⟩⟩; (try first | exact ⟨rfl, _, World.drewN_drewN _ _ _⟩ | exact ⟨rfl, _, Eq.trans (World.drewN_drewN _ _ _) (congrArg (World.drewN _) (Nat.add_assoc _ _ _))⟩); have p225 : 0 ≤ (1 : Int) := (by omega); have q225 : 1 < ((rd_L2 l0 x7_1).length : Int) := dT; obtain ⟨ad225, e225, hx225_0⟩ := Kd.at_int HR222_0.out 1 p225 q225; obtain rfl : ad223 = ad225 := (by injection e225); (try simp only [show (1 : Int).toNat = 1 from rfl, Nat.reduceMul, Nat.reduceEqDiff, Go.Addr.add, ↓reduceIte] at hx225_0); have qi225 : (1 < (rd_L2 l0 x7_1).length) = True := eq_true (by omega); (try rw [show ((1 : Int)).toNat = 1 from rfl] at hx225_0); replace p225 := eq_true p225; replace q225 := eq_true q225) | (go_at_call 53; (with_reducible refine (impl_within.calls (rd (rd_L2 l0 x7_1) 1) 0 6 true _ A10.out).mono ?_); rintro e w' ⟨rfl, ⟨nd, rfl⟩⟩; (try first | exact ⟨rfl, _, World.drewN_drewN _ _ _⟩ | exact ⟨rfl, _, Eq.trans (World.drewN_drewN _ _ _) (congrArg (World.drewN _) (Nat.add_assoc _ _ _))⟩); have p227 : 0 ≤ (0 : Int) := (by omega); have q227 : 0 < ((rd_L2 l0 x7_1).length : Int) := dT; obtain ⟨ad227, e227, hx227_0⟩ := Kd.at_int HR222_0.out 0 p227 q227; obtain rfl : ad223 = ad227 := (by injection e227); have qi227 : (0 < (rd_L2 l0 x7_1).length) = True := eq_true (by omega); (try rw [show ((0 : Int)).toNat = 0 from rfl] at hx227_0); (try rw [Addr.add_zero'] at hx227_0); replace p227 := eq_true p227; replace q227 := eq_true q227; have p228 : 0 ≤ (1 : Int) := (by omega); have q228 : 1 < ((rd_L2 l0 x7_1).length : Int) := dT; obtain ⟨ad228, e228, hx228_0⟩ := Kd.at_int HR222_0.out 1 p228 q228; obtain rfl : ad223 = ad228 := (by injection e228); (try simp only [show (1 : Int).toNat = 1 from rfl, Nat.reduceMul, Nat.reduceEqDiff, Go.Addr.add, ↓reduceIte] at hx228_0); have qi228 : (1 < (rd_L2 l0 x7_1).length) = True := eq_true (by omega); (try rw [show ((1 : Int)).toNat = 1 from rfl] at hx228_0); replace p228 := eq_true p228; replace q228 := eq_true q228)); try go_wp2_with (first | (go_at_call 53; (with_reducible refine (impl_within.calls (rd (rd_L2 l0 x7_1) 0) 0 6 true _ A7.out).mono ?_); rintro e w' ⟨rfl, ⟨nd, rfl⟩⟩; (try first | exact ⟨rfl, _, World.drewN_drewN _ _ _⟩ | exact ⟨rfl, _, Eq.trans (World.drewN_drewN _ _ _) (congrArg (World.drewN _) (Nat.add_assoc _ _ _))⟩); have p225 : 0 ≤ (1 : Int) := (by omega); have q225 : 1 < ((rd_L2 l0 x7_1).length : Int) := dT; obtain ⟨ad225, e225, hx225_0⟩ := Kd.at_int HR222_0.out 1 p225 q225; obtain rfl : ad223 = ad225 := (by injection e225); (try simp only [show (1 : Int).toNat = 1 from rfl, Nat.reduceMul, Nat.reduceEqDiff, Go.Addr.add, ↓reduceIte] at hx225_0); have qi225 : (1 < (rd_L2 l0 x7_1).length) = True := eq_true (by omega); (try rw [show ((1 : Int)).toNat = 1 from rfl] at hx225_0); replace p225 := eq_true p225; replace q225 := eq_true q225) | (go_at_call 53; (with_reducible refine (impl_within.calls (rd (rd_L2 l0 x7_1) 1) 0 6 true _ A10.out).mono ?_); rintro e w' ⟨rfl, ⟨nd, rfl⟩⟩; (try first | exact ⟨rfl, _, World.drewN_drewN _ _ _⟩ | exact ⟨rfl, _, Eq.trans (World.drewN_drewN _ _ _) (congrArg (World.drewN _) (Nat.add_assoc _ _ _))⟩); have p227 : 0 ≤ (0 : Int) := (by omega); have q227 : 0 < ((rd_L2 l0 x7_1).length : Int) := dT; obtain ⟨ad227, e227, hx227_0⟩ := Kd.at_int HR222_0.out 0 p227 q227; obtain rfl : ad223 = ad227 := (by injection e227); have qi227 : (0 < (rd_L2 l0 x7_1).length) = True := eq_true (by omega); (try rw [show ((0 : Int)).toNat = 0 from rfl] at hx227_0); (try rw [Addr.add_zero'] at hx227_0); replace p227 := eq_true p227; replace q227 := eq_true q227; have p228 : 0 ≤ (1 : Int) := (by omega); have q228 : 1 < ((rd_L2 l0 x7_1).length : Int) := dT; obtain ⟨ad228, e228, hx228_0⟩ := Kd.at_int HR222_0.out 1 p228 q228; obtain rfl : ad223 = ad228 := (by injection e228); (try simp only [show (1 : Int).toNat = 1 from rfl, Nat.reduceMul, Nat.reduceEqDiff, Go.Addr.add, ↓reduceIte] at hx228_0); have qi228 : (1 < (rd_L2 l0 x7_1).length) = True := eq_true (by omega); (try rw [show ((1 : Int)).toNat = 1 from rfl] at hx228_0); replace p228 := eq_true p228; replace q228 := eq_true q228)))
        go_ret
        exact ⟨rS, tD⟩
       ·rw [if_neg c12] at H
        have c12b0 : ((rd (rd_L2 l0 x7_1) 0) == (rd (rd_L2 l0 x7_1) 1)) = false := beq_eq_false_iff_ne.mpr c12
        have c12b1 : ((rd (rd_L2 l0 x7_1) 0) != (rd (rd_L2 l0 x7_1) 1)) = true := bne_iff_ne.mpr c12
        have H' := Aside0.mk H
        clear H
        have p222 : 0 ≤ (x7_1 : Int) := dT
        have q222 : x7_1 < (l0.length : Int) := dT
        obtain ⟨ad222, A222_0, c222_0, e222, hx222_0, hl222_0, hi222_0⟩ := at_L2 HR0.out x7_1 p222 q222
        cases e222
        have HR222_0 := Aside0.mk hi222_0
        have HC222_0 := Aside0.mk hl222_0
        clear hi222_0 hl222_0
        replace p222 := eq_true p222
        replace q222 := eq_true q222
        have p223 : 0 ≤ (0 : Int) := (by omega)
        have q223 : 0 < ((rd_L2 l0 x7_1).length : Int) := dT
        obtain ⟨ad223, e223, hx223_0⟩ := Kd.at_int HR222_0.out 0 p223 q223
        cases e223
        have qi223 : (0 < (rd_L2 l0 x7_1).length) = True := eq_true (by omega)
        (try rw [show ((0 : Int)).toNat = 0 from rfl] at hx223_0)
        (try rw [Addr.add_zero'] at hx223_0)
        replace p223 := eq_true p223
        replace q223 := eq_true q223
        go_wp2_with (first | (go_at_call 53; (with_reducible refine (impl_within.calls (rd (rd_L2 l0 x7_1) 0) 0 6 true _ A7.out).mono ?_); rintro e w' ⟨rfl, ⟨nd, rfl⟩⟩; (try first | exact ⟨rfl, _, World.drewN_drewN _ _ _⟩ | exact ⟨rfl, _, Eq.trans (World.drewN_drewN _ _ _) (congrArg (World.drewN _) (Nat.add_assoc _ _ _))⟩); have p225 : 0 ≤ (1 : Int) := (by omega); have q225 : 1 < ((rd_L2 l0 x7_1).length : Int) := dT; obtain ⟨ad225, e225, hx225_0⟩ := Kd.at_int HR222_0.out 1 p225 q225; obtain rfl : ad223 = ad225 := (by injection e225); (try simp only [show (1 : Int).toNat = 1 from rfl, Nat.reduceMul, Nat.reduceEqDiff, Go.Addr.add, ↓reduceIte] at hx225_0); have qi225 : (1 < (rd_L2 l0 x7_1).length) = True := eq_true (by omega); (try rw [show ((1 : Int)).toNat = 1 from rfl] at hx225_0); replace p225 := eq_true p225; replace q225 := eq_true q225) | (go_at_call 53; (with_reducible refine (impl_within.calls (rd (rd_L2 l0 x7_1) 1) 0 6 true _ A10.out).mono ?_); rintro e w' ⟨rfl, ⟨nd, rfl⟩⟩; (try first | exact ⟨rfl, _, World.drewN_drewN _ _ _⟩ | exact ⟨rfl, _, Eq.trans (World.drewN_drewN _ _ _) (congrArg (World.drewN _) (Nat.add_assoc _ _ _))⟩); have p227 : 0 ≤ (0 : Int) := (by omega); have q227 : 0 < ((rd_L2 l0 x7_1).length : Int) := dT; obtain ⟨ad227, e227, hx227_0⟩ := Kd.at_int HR222_0.out 0 p227 q227; obtain rfl : ad223 = ad227 := (by injection e227); have qi227 : (0 < (rd_L2 l0 x7_1).length) = True := eq_true (by omega); (try rw [show ((0 : Int)).toNat = 0 from rfl] at hx227_0); (try rw [Addr.add_zero'] at hx227_0); replace p227 := eq_true p227; replace q227 := eq_true q227; have p228 : 0 ≤ (1 : Int) := (by omega); have q228 : 1 < ((rd_L2 l0 x7_1).length : Int) := dT; obtain ⟨ad228, e228, hx228_0⟩ := Kd.at_int HR222_0.out 1 p228 q228; obtain rfl : ad223 = ad228 := (by injection e228); (try simp only [show (1 : Int).toNat = 1 from rfl, Nat.reduceMul, Nat.reduceEqDiff, Go.Addr.add, ↓reduceIte] at hx228_0); have qi228 : (1 < (rd_L2 l0 x7_1).length) = True := eq_true (by omega); (try rw [show ((1 : Int)).toNat = 1 from rfl] at hx228_0); replace p228 := eq_true p228; replace q228 := eq_true q228))
        repeat (go_quiet (first | (go_at_call 53; (with_reducible refine (impl_within.calls (rd (rd_L2 l0 x7_1) 0) 0 6 true _ A7.out).mono ?_); rintro e w' ⟨rfl, ⟨nd, rfl⟩⟩; (try first | exact ⟨rfl, _, World.drewN_drewN _ _ _⟩ | exact ⟨rfl, _, Eq.trans (World.drewN_drewN _ _ _) (congrArg (World.drewN _) (Nat.add_assoc _ _ _))⟩); have p225 : 0 ≤ (1 : Int) := (by omega); have q225 : 1 < ((rd_L2 l0 x7_1).length : Int) := dT; obtain ⟨ad225, e225, hx225_0⟩ := Kd.at_int HR222_0.out 1 p225 q225; obtain rfl : ad223 = ad225 := (by injection e225); (try simp only [show (1 : Int).toNat = 1 from rfl, Nat.reduceMul, Nat.reduceEqDiff, Go.Addr.add, ↓reduceIte] at hx225_0); have qi225 : (1 < (rd_L2 l0 x7_1).length) = True := eq_true (by omega); (try rw [show ((1 : Int)).toNat = 1 from rfl] at hx225_0); replace p225 := eq_true p225; replace q225 := eq_true q225) | (go_at_call 53; (with_reducible refine (impl_within.calls (rd (rd_L2 l0 x7_1) 1) 0 6 true _ A10.out).mono ?_); rintro e w' ⟨rfl, ⟨nd, rfl⟩⟩; (try first | exact ⟨rfl, _, World.drewN_drewN _ _ _⟩ | exact ⟨rfl, _, Eq.trans (World.drewN_drewN _ _ _) (congrArg (World.drewN _) (Nat.add_assoc _ _ _))⟩); have p227 : 0 ≤ (0 : Int) := (by omega); have q227 : 0 < ((rd_L2 l0 x7_1).length : Int) := dT; obtain ⟨ad227, e227, hx227_0⟩ := Kd.at_int HR222_0.out 0 p227 q227; obtain rfl : ad223 = ad227 := (by injection e227); have qi227 : (0 < (rd_L2 l0 x7_1).length) = True := eq_true (by omega); (try rw [show ((0 : Int)).toNat = 0 from rfl] at hx227_0); (try rw [Addr.add_zero'] at hx227_0); replace p227 := eq_true p227; replace q227 := eq_true q227; have p228 : 0 ≤ (1 : Int) := (by omega); have q228 : 1 < ((rd_L2 l0 x7_1).length : Int) := dT; obtain ⟨ad228, e228, hx228_0⟩ := Kd.at_int HR222_0.out 1 p228 q228; obtain rfl : ad223 = ad228 := (by injection e228); (try simp only [show (1 : Int).toNat = 1 from rfl, Nat.reduceMul, Nat.reduceEqDiff, Go.Addr.add, ↓reduceIte] at hx228_0); have qi228 : (1 < (rd_L2 l0 x7_1).length) = True := eq_true (by omega); (try rw [show ((1 : Int)).toNat = 1 from rfl] at hx228_0); replace p228 := eq_true p228; replace q228 := eq_true q228)); try go_wp2_with (first | (go_at_call 53; (with_reducible refine (impl_within.calls (rd (rd_L2 l0 x7_1) 0) 0 6 true _ A7.out).mono ?_); rintro e w' ⟨rfl, ⟨nd, rfl⟩⟩; (try first | exact ⟨rfl, _, World.drewN_drewN _ _ _⟩ | exact ⟨rfl, _, Eq.trans (World.drewN_drewN _ _ _) (congrArg (World.drewN _) (Nat.add_assoc _ _ _))⟩); have p225 : 0 ≤ (1 : Int) := (by omega); have q225 : 1 < ((rd_L2 l0 x7_1).length : Int) := dT; obtain ⟨ad225, e225, hx225_0⟩ := Kd.at_int HR222_0.out 1 p225 q225; obtain rfl : ad223 = ad225 := (by injection e225); (try simp only [show (1 : Int).toNat = 1 from rfl, Nat.reduceMul, Nat.reduceEqDiff, Go.Addr.add, ↓reduceIte] at hx225_0); have qi225 : (1 < (rd_L2 l0 x7_1).length) = True := eq_true (by omega); (try rw [show ((1 : Int)).toNat = 1 from rfl] at hx225_0); replace p225 := eq_true p225; replace q225 := eq_true q225) | (go_at_call 53; (with_reducible refine (impl_within.calls (rd (rd_L2 l0 x7_1) 1) 0 6 true _ A10.out).mono ?_); rintro e w' ⟨rfl, ⟨nd, rfl⟩⟩; (try first | exact ⟨rfl, _, World.drewN_drewN _ _ _⟩ | exact ⟨rfl, _, Eq.trans (World.drewN_drewN _ _ _) (congrArg (World.drewN _) (Nat.add_assoc _ _ _))⟩); have p227 : 0 ≤ (0 : Int) := (by omega); have q227 : 0 < ((rd_L2 l0 x7_1).length : Int) := dT; obtain ⟨ad227, e227, hx227_0⟩ := Kd.at_int HR222_0.out 0 p227 q227; obtain rfl : ad223 = ad227 := (by injection e227); have qi227 : (0 < (rd_L2 l0 x7_1).length) = True := eq_true (by omega); (try rw [show ((0 : Int)).toNat = 0 from rfl] at hx227_0); (try rw [Addr.add_zero'] at hx227_0); replace p227 := eq_true p227; replace q227 := eq_true q227; have p228 : 0 ≤ (1 : Int) := (by omega); have q228 : 1 < ((rd_L2 l0 x7_1).length : Int) := dT; obtain ⟨ad228, e228, hx228_0⟩ := Kd.at_int HR222_0.out 1 p228 q228; obtain rfl : ad223 = ad228 := (by injection e228); (try simp only [show (1 : Int).toNat = 1 from rfl, Nat.reduceMul, Nat.reduceEqDiff, Go.Addr.add, ↓reduceIte] at hx228_0); have qi228 : (1 < (rd_L2 l0 x7_1).length) = True := eq_true (by omega); (try rw [show ((1 : Int)).toNat = 1 from rfl] at hx228_0); replace p228 := eq_true p228; replace q228 := eq_true q228)))
        go_roundg k1
        case measure => exact oK
        case rel => exact ⟨(wrap64 (x7_1 + 1)), rS, H', ⟨oK⟩, tD⟩
      ·replace c11 := Bool.eq_false_iff.mpr c11
       subst c11
       rw [if_neg (show ¬ (false = true) by decide)] at H
       obtain rfl := Option.some.inj H
       have p222 : 0 ≤ (x7_1 : Int) := dT
       have q222 : x7_1 < (l0.length : Int) := dT
       obtain ⟨ad222, A222_0, c222_0, e222, hx222_0, hl222_0, hi222_0⟩ := at_L2 HR0.out x7_1 p222 q222
       cases e222
       have HR222_0 := Aside0.mk hi222_0
       have HC222_0 := Aside0.mk hl222_0
       clear hi222_0 hl222_0
       replace p222 := eq_true p222
       replace q222 := eq_true q222
       have p223 : 0 ≤ (0 : Int) := (by omega)
       have q223 : 0 < ((rd_L2 l0 x7_1).length : Int) := dT
       obtain ⟨ad223, e223, hx223_0⟩ := Kd.at_int HR222_0.out 0 p223 q223
       cases e223
       have qi223 : (0 < (rd_L2 l0 x7_1).length) = True := eq_true (by omega)
       (try rw [show ((0 : Int)).toNat = 0 from rfl] at hx223_0)
       (try rw [Addr.add_zero'] at hx223_0)
       replace p223 := eq_true p223
       replace q223 := eq_true q223
       go_wp2_with (first | (go_at_call 53; (with_reducible refine (impl_within.calls (rd (rd_L2 l0 x7_1) 0) 0 6 true _ A7.out).mono ?_); rintro e w' ⟨rfl, ⟨nd, rfl⟩⟩; (try first | exact ⟨rfl, _, World.drewN_drewN _ _ _⟩ | exact ⟨rfl, _, Eq.trans (World.drewN_drewN _ _ _) (congrArg (World.drewN _) (Nat.add_assoc _ _ _))⟩); have p225 : 0 ≤ (1 : Int) := (by omega); have q225 : 1 < ((rd_L2 l0 x7_1).length : Int) := dT; obtain ⟨ad225, e225, hx225_0⟩ := Kd.at_int HR222_0.out 1 p225 q225; obtain rfl : ad223 = ad225 := (by injection e225); (try simp only [show (1 : Int).toNat = 1 from rfl, Nat.reduceMul, Nat.reduceEqDiff, Go.Addr.add, ↓reduceIte] at hx225_0); have qi225 : (1 < (rd_L2 l0 x7_1).length) = True := eq_true (by omega); (try rw [show ((1 : Int)).toNat = 1 from rfl] at hx225_0); replace p225 := eq_true p225; replace q225 := eq_true q225) | (go_at_call 53; (with_reducible refine (impl_within.calls (rd (rd_L2 l0 x7_1) 1) 0 6 false _ A10.out).mono ?_); rintro e w' ⟨rfl, ⟨nd, rfl⟩⟩; (try first | exact ⟨rfl, _, World.drewN_drewN _ _ _⟩ | exact ⟨rfl, _, Eq.trans (World.drewN_drewN _ _ _) (congrArg (World.drewN _) (Nat.add_assoc _ _ _))⟩)))
       repeat (go_quiet (first | (go_at_call 53; (with_reducible refine (impl_within.calls (rd (rd_L2 l0 x7_1) 0) 0 6 true _ A7.out).mono ?_); rintro e w' ⟨rfl, ⟨nd, rfl⟩⟩; (try first | exact ⟨rfl, _, World.drewN_drewN _ _ _⟩ | exact ⟨rfl, _, Eq.trans (World.drewN_drewN _ _ _) (congrArg (World.drewN _) (Nat.add_assoc _ _ _))⟩); have p225 : 0 ≤ (1 : Int) := (by omega); have q225 : 1 < ((rd_L2 l0 x7_1).length : Int) := dT; obtain ⟨ad225, e225, hx225_0⟩ := Kd.at_int HR222_0.out 1 p225 q225; obtain rfl : ad223 = ad225 := (by injection e225); (try simp only [show (1 : Int).toNat = 1 from rfl, Nat.reduceMul, Nat.reduceEqDiff, Go.Addr.add, ↓reduceIte] at hx225_0); have qi225 : (1 < (rd_L2 l0 x7_1).length) = True := eq_true (by omega); (try rw [show ((1 : Int)).toNat = 1 from rfl] at hx225_0); replace p225 := eq_true p225; replace q225 := eq_true q225) | (go_at_call 53; (with_reducible refine (impl_within.calls (rd (rd_L2 l0 x7_1) 1) 0 6 false _ A10.out).mono ?_); rintro e w' ⟨rfl, ⟨nd, rfl⟩⟩; (try first | exact ⟨rfl, _, World.drewN_drewN _ _ _⟩ | exact ⟨rfl, _, Eq.trans (World.drewN_drewN _ _ _) (congrArg (World.drewN _) (Nat.add_assoc _ _ _))⟩))); try go_wp2_with (first | (go_at_call 53; (with_reducible refine (impl_within.calls (rd (rd_L2 l0 x7_1) 0) 0 6 true _ A7.out).mono ?_); rintro e w' ⟨rfl, ⟨nd, rfl⟩⟩; (try first | exact ⟨rfl, _, World.drewN_drewN _ _ _⟩ | exact ⟨rfl, _, Eq.trans (World.drewN_drewN _ _ _) (congrArg (World.drewN _) (Nat.add_assoc _ _ _))⟩); have p225 : 0 ≤ (1 : Int) := (by omega); have q225 : 1 < ((rd_L2 l0 x7_1).length : Int) := dT; obtain ⟨ad225, e225, hx225_0⟩ := Kd.at_int HR222_0.out 1 p225 q225; obtain rfl : ad223 = ad225 := (by injection e225); (try simp only [show (1 : Int).toNat = 1 from rfl, Nat.reduceMul, Nat.reduceEqDiff, Go.Addr.add, ↓reduceIte] at hx225_0); have qi225 : (1 < (rd_L2 l0 x7_1).length) = True := eq_true (by omega); (try rw [show ((1 : Int)).toNat = 1 from rfl] at hx225_0); replace p225 := eq_true p225; replace q225 := eq_true q225) | (go_at_call 53; (with_reducible refine (impl_within.calls (rd (rd_L2 l0 x7_1) 1) 0 6 false _ A10.out).mono ?_); rintro e w' ⟨rfl, ⟨nd, rfl⟩⟩; (try first | exact ⟨rfl, _, World.drewN_drewN _ _ _⟩ | exact ⟨rfl, _, Eq.trans (World.drewN_drewN _ _ _) (congrArg (World.drewN _) (Nat.add_assoc _ _ _))⟩))))
       go_ret
       exact ⟨rS, tD⟩
     ·replace c8 := Bool.eq_false_iff.mpr c8
      subst c8
      rw [if_neg (show ¬ (false = true) by decide)] at H
      obtain rfl := Option.some.inj H
      have p222 : 0 ≤ (x7_1 : Int) := dT
      have q222 : x7_1 < (l0.length : Int) := dT
      obtain ⟨ad222, A222_0, c222_0, e222, hx222_0, hl222_0, hi222_0⟩ := at_L2 HR0.out x7_1 p222 q222
      cases e222
      have HR222_0 := Aside0.mk hi222_0
      have HC222_0 := Aside0.mk hl222_0
      clear hi222_0 hl222_0
      replace p222 := eq_true p222
      replace q222 := eq_true q222
      have p223 : 0 ≤ (0 : Int) := (by omega)
      have q223 : 0 < ((rd_L2 l0 x7_1).length : Int) := dT
      obtain ⟨ad223, e223, hx223_0⟩ := Kd.at_int HR222_0.out 0 p223 q223
      cases e223
      have qi223 : (0 < (rd_L2 l0 x7_1).length) = True := eq_true (by omega)
      (try rw [show ((0 : Int)).toNat = 0 from rfl] at hx223_0)
      (try rw [Addr.add_zero'] at hx223_0)
      replace p223 := eq_true p223
      replace q223 := eq_true q223
      go_wp2_with (first | (go_at_call 53; (with_reducible refine (impl_within.calls (rd (rd_L2 l0 x7_1) 0) 0 6 false _ A7.out).mono ?_); rintro e w' ⟨rfl, ⟨nd, rfl⟩⟩; (try first | exact ⟨rfl, _, World.drewN_drewN _ _ _⟩ | exact ⟨rfl, _, Eq.trans (World.drewN_drewN _ _ _) (congrArg (World.drewN _) (Nat.add_assoc _ _ _))⟩)))
      repeat (go_quiet (first | (go_at_call 53; (with_reducible refine (impl_within.calls (rd (rd_L2 l0 x7_1) 0) 0 6 false _ A7.out).mono ?_); rintro e w' ⟨rfl, ⟨nd, rfl⟩⟩; (try first | exact ⟨rfl, _, World.drewN_drewN _ _ _⟩ | exact ⟨rfl, _, Eq.trans (World.drewN_drewN _ _ _) (congrArg (World.drewN _) (Nat.add_assoc _ _ _))⟩))); try go_wp2_with (first | (go_at_call 53; (with_reducible refine (impl_within.calls (rd (rd_L2 l0 x7_1) 0) 0 6 false _ A7.out).mono ?_); rintro e w' ⟨rfl, ⟨nd, rfl⟩⟩; (try first | exact ⟨rfl, _, World.drewN_drewN _ _ _⟩ | exact ⟨rfl, _, Eq.trans (World.drewN_drewN _ _ _) (congrArg (World.drewN _) (Nat.add_assoc _ _ _))⟩))))
      go_ret
      exact ⟨rS, tD⟩
    ·rw [if_neg c5] at H
     have c5b0 : (((rd_L2 l0 x7_1).length : Int) == 2) = false := beq_eq_false_iff_ne.mpr c5
     have c5b1 : (((rd_L2 l0 x7_1).length : Int) != 2) = true := bne_iff_ne.mpr c5
     obtain rfl := Option.some.inj H
     have p222 : 0 ≤ (x7_1 : Int) := dT
     have q222 : x7_1 < (l0.length : Int) := dT
     obtain ⟨ad222, A222_0, c222_0, e222, hx222_0, hl222_0, hi222_0⟩ := at_L2 HR0.out x7_1 p222 q222
     cases e222
     have HR222_0 := Aside0.mk hi222_0
     have HC222_0 := Aside0.mk hl222_0
     clear hi222_0 hl222_0
     replace p222 := eq_true p222
     replace q222 := eq_true q222
     go_wp2
     repeat (go_quiet (fail); try go_wp2)
     go_ret
     exact ⟨rS, tD⟩
   ·obtain ⟨t221, A13, H⟩ := bs H
    obtain rfl := Option.some.inj H
    go_wp2_with (first | (go_at_call 53; (with_reducible refine (impl_within.calls (l0.length : Int) 1 10 t221 _ A13.out).mono ?_); rintro e w' ⟨rfl, ⟨nd, rfl⟩⟩; (try first | exact ⟨rfl, _, World.drewN_drewN _ _ _⟩ | exact ⟨rfl, _, Eq.trans (World.drewN_drewN _ _ _) (congrArg (World.drewN _) (Nat.add_assoc _ _ _))⟩)))
    repeat (go_quiet (first | (go_at_call 53; (with_reducible refine (impl_within.calls (l0.length : Int) 1 10 t221 _ A13.out).mono ?_); rintro e w' ⟨rfl, ⟨nd, rfl⟩⟩; (try first | exact ⟨rfl, _, World.drewN_drewN _ _ _⟩ | exact ⟨rfl, _, Eq.trans (World.drewN_drewN _ _ _) (congrArg (World.drewN _) (Nat.add_assoc _ _ _))⟩))); try go_wp2_with (first | (go_at_call 53; (with_reducible refine (impl_within.calls (l0.length : Int) 1 10 t221 _ A13.out).mono ?_); rintro e w' ⟨rfl, ⟨nd, rfl⟩⟩; (try first | exact ⟨rfl, _, World.drewN_drewN _ _ _⟩ | exact ⟨rfl, _, Eq.trans (World.drewN_drewN _ _ _) (congrArg (World.drewN _) (Nat.add_assoc _ _ _))⟩))))
    go_ret
    exact ⟨rS, tD⟩

end Go.Proofs.YtafpbabiahjjaaaGreatDoor.PFnGraphs
