import Derived.Test.YtbchbmfmplfoiaaWSpanB
import Derived.Test.YtbchbmfmplfoiaaPFnGroupsx0
import Derived.Test.YtbchbmfmplfoiaaPFnGroupsx1
import Derived.Test.YtbchbmfmplfoiaaPFnGroupsx2
namespace Go.Proofs.Ytbchbmfmplfoiaa.PFnGroups
open Go.RowKit Go.Proofs.YtbchbmfmplfoiaaW.PrintWords Go.Proofs.YtbchbmfmplfoiaaW.PrintLast Go.Proofs.YtbchbmfmplfoiaaW.PrintMore
attribute [local go_sem] max2_int min2_int max_two min_two max_three min_three max_four min_four   -- for this text's walks alone
set_option linter.unusedVariables false
set_option linter.unusedSimpArgs false

/-! ### spec_l8Draw: function 29 -/
mutual
def spec_l8Draw.l0 : Nat → Int → List Int → Int → List Int → Int → Int → Option (Int × List Int × Int × Int)
 | 0, _, _, _, _, _, _ => none
 | k + 1, x4, x5, x6, x1000, x1001, x1002 => if x6 > 0 then ((spec_l2Draw.f k x1000 x1001 x1002 (wrap64 (2 * x4)) 2).bind fun bt192 => ((spec_Relator.f x4).bind fun t197 => ((spec_l1Below.f x1000 bt192.2.1 bt192.2.2 8).bind fun bt200 => ((spec_l2Turn.f t197 bt200.1).bind fun t203 => ((spec_l1Once.f x1000 bt200.2.1 bt200.2.2 2).bind fun bt206 => (if bt206.1 = true then ((spec_l2Inverse.f k t203).bind fun t209 => (if x5.length + bt192.1.length < 17592186044416 then ((some (x5 ++ bt192.1 : List Int)).bind fun y212 => (if y212.length + t209.length < 17592186044416 then ((some (y212 ++ t209 : List Int)).bind fun y215 => ((spec_l2Inverse.f k bt192.1).bind fun t218 => (if y215.length + t218.length < 17592186044416 then (spec_l8Draw.l0 k x4 (y215 ++ t218) (wrap64 (x6 - 1)) x1000 bt206.2.1 bt206.2.2) else (none)))) else (none))) else (none))) else (if x5.length + bt192.1.length < 17592186044416 then ((some (x5 ++ bt192.1 : List Int)).bind fun y224 => (if y224.length + t203.length < 17592186044416 then ((some (y224 ++ t203 : List Int)).bind fun y227 => ((spec_l2Inverse.f k bt192.1).bind fun t230 => (if y227.length + t230.length < 17592186044416 then (spec_l8Draw.l0 k x4 (y227 ++ t230) (wrap64 (x6 - 1)) x1000 bt206.2.1 bt206.2.2) else (none)))) else (none))) else (none)))))))) else ((spec_l1Once.f x1000 x1001 x1002 2).bind fun bt236 => (if bt236.1 = true then ((spec_l2Draw.f k x1000 bt236.2.1 bt236.2.2 (wrap64 (2 * x4)) 4).bind fun bt239 => (if x5.length + bt239.1.length < 17592186044416 then (spec_l8Draw.j1 k x4 (x5 ++ bt239.1) x1000 bt239.2.1 bt239.2.2) else (none))) else (spec_l8Draw.j1 k x4 x5 x1000 bt236.2.1 bt236.2.2)))
def spec_l8Draw.j1 : Nat → Int → List Int → List Int → Int → Int → Option (Int × List Int × Int × Int)
 | 0, _, _, _, _, _ => none
 | k + 1, x4, x5, x1000, x1001, x1002 => if (x5.length : Int) > 24 then (if 24 ≤ (x5.length : Int) then (spec_l8Draw.j2 k x4 (x5.take (24 : Int).toNat) x1000 x1001 x1002) else (none)) else (spec_l8Draw.j2 k x4 x5 x1000 x1001 x1002)
def spec_l8Draw.j2 : Nat → Int → List Int → List Int → Int → Int → Option (Int × List Int × Int × Int)
 | 0, _, _, _, _, _ => none
 | k + 1, x4, x5, x1000, x1001, x1002 => (spec_l1Below.f x1000 x1001 x1002 20).bind fun bt250 => (if bt250.1 = 0 then ((spec_l1PickInt.f x1000 bt250.2.1 bt250.2.2 (([0, 3, 1] : List Int))).bind fun bt256 => (some (bt256.1, x5, bt256.2.1, bt256.2.2))) else (if bt250.1 = 1 then ((spec_l1PickInt.f x1000 bt250.2.1 bt250.2.2 (([3, 5, 9] : List Int))).bind fun bt262 => (if x5.length < 17592186044416 then (some (x4, (x5 ++ [bt262.1]), bt262.2.1, bt262.2.2)) else (none))) else (some (x4, x5, bt250.2.1, bt250.2.2))))
end
def spec_l8Draw.f (k : Nat) (s0_0 : List Int) (s0_1 : Int) (s0_2 : Int) : Option (Int × List Int × Int × Int) := (spec_l1Below.f s0_0 s0_1 s0_2 2).bind fun bt183 => ((spec_l1Below.f s0_0 bt183.2.1 bt183.2.2 3).bind fun bt189 => (spec_l8Draw.l0 k (wrap64 (1 + bt183.1)) (([] : List Int)) bt189.1 s0_0 bt189.2.1 bt189.2.2))
set_option maxHeartbeats 8000000 in
set_option maxRecDepth 100000 in
theorem spec_l8Draw.calls (k : Nat) (g : Nat) (s0_0 : List Int) (s0_1 : Int) (s0_2 : Int) (r1 : Int) (r2 : List Int) (r3 : Int) (r4 : Int) (w0 w : World) (hI : IsS55 w0 w g s0_0 s0_1 s0_2) (hB : Below w0.heap.size w0 w) (h : spec_l8Draw.f k s0_0 s0_1 s0_2 = some (r1, r2, r3, r4)) :
  Calls Try.prog 29 #[.pointer (some ⟨g, 0, none⟩)] w fun e w' => ∃ v1_ : Value, e = .returned (.tuple #[.int .i64 r1, v1_]) ∧ Kd.R (Kd.int .i64) 3 w' w.heap.size (fun _ => True) v1_ r2 ∧ IsS55 w0 w' g s0_0 r3 r4 ∧ Below w0.heap.size w0 w' ∧ KeepBut w w' g none := by
 have HI0 := Aside0.mk hI
 have HK := Aside0.mk (KeepBut.refl w g none)
 have HL := Aside0.mk hB.size
 clear hI
 have HW0 := Aside0.mk hB.size
 have HB := Aside0.mk hB
 clear hB
 have H : ((spec_l1Below.f s0_0 s0_1 s0_2 2).bind fun bt183 => ((spec_l1Below.f s0_0 bt183.2.1 bt183.2.2 3).bind fun bt189 => (spec_l8Draw.l0 k (wrap64 (1 + bt183.1)) (([] : List Int)) bt189.1 s0_0 bt189.2.1 bt189.2.2))) = some (r1, r2, r3, r4) := h
 clear h
 obtain ⟨⟨t183, t184, t185⟩, A2, H⟩ := bs H
 try dsimp only at H
 generalize hy186 : (([] : List Int) : List Int) = y186 at H
 have Ny186 := Aside0.mk hy186.symm; clear hy186
 obtain ⟨⟨t189, t190, t191⟩, A3, H⟩ := bs H
 try dsimp only at H
 have H' := Aside0.mk H
 clear H
 go_enter Try.func29, Try.ntmps29
 go_wp2_with (first | (refine gL 42 (some 10) Try.func42 #[.pointer (some ⟨g, 0, none⟩), .int .i64 2] ?_; (with_reducible refine (spec_l1Below.calls g s0_0 s0_1 s0_2 2 t183 t184 t185 w0 _ ?side1 ?side2 A2.out).mono ?_); (case side1 => exact tI); (case side2 => exact tB); rintro e w4 ⟨rfl, hi, hb, hk⟩; refine ⟨_, rfl, ?_⟩; replace HK := Aside0.mk (KeepBut.trans tK hk (.inl rfl)); replace HB := Aside0.mk (hb); replace HI0 := Aside0.mk (hi)) | ((with_reducible refine gate_dst (N := 12) rfl ?_); refine Kd.R_lit (Kd.int .i64) _ 3 ?hg (N := 12) ?hd (xs := ([] : List Int)) (inner := []) (ok := fun _ => True) (okp := fun _ => True) ?hr ?hp (fun _ hk => hk) trivial (Below.refl _ _) (Nat.le_refl _) (by simp) ?_; (case hd => rfl); (case hg => rfl); (case hr => exact gS); (case hp => exact (Reps.none _ _)); intro v187 w5 ho6 hb hg_ hnew_; clear hg_ hnew_; (first | rw [← Ny186.out] at ho6 | (simp only [Int.reduceToNat] at ho6; rw [← Ny186.out] at ho6)); have HO188 := Aside0.mk (Kd.R_lower ho6 (zK)); replace HK := Aside0.mk (KeepBut.trans tK (KeepBut.of_below hb g none) (.inl rfl)); replace HB := Aside0.mk (below_step tB hb); replace HI0 := Aside0.mk (IsS55.below tI hb); clear hb ho6) | (refine gL 42 (some 14) Try.func42 #[.pointer (some ⟨g, 0, none⟩), .int .i64 3] ?_; (with_reducible refine (spec_l1Below.calls g s0_0 t184 t185 3 t189 t190 t191 w0 _ ?side1 ?side2 A3.out).mono ?_); (case side1 => exact tI); (case side2 => exact tB); rintro e w7 ⟨rfl, hi, hb, hk⟩; refine ⟨_, rfl, ?_⟩; replace HO188 := Aside0.mk (Kd.R_mono (Kd.R_keep (IsS55.apart (show IsS55 w0 _ g s0_0 t184 t185 from tI) (R_l HO188.out) (by decide)) hk (fun _ h => h.2)) (fun _ h => h.1)); replace HK := Aside0.mk (KeepBut.trans tK hk (.inl rfl)); replace HB := Aside0.mk (hb); replace HI0 := Aside0.mk (hi)))
 go_loopg [5, 6] k (fun kq v5 v6 w' => ∃ (x5_1 : List Int) (x6_1 : Int) (x1001_1 : Int) (x1002_1 : Int), v6 = .int .i64 x6_1 ∧ Aside0 (spec_l8Draw.l0 kq (wrap64 (1 + t183)) x5_1 x6_1 s0_0 x1001_1 x1002_1 = some (r1, r2, r3, r4)) ∧ Aside0 (kq ≤ k) ∧ Aside0 (Kd.R (Kd.int .i64) 3 w' w.heap.size (fun _ => True) v5 x5_1) ∧ Aside0 (IsS55 w0 w' g s0_0 x1001_1 x1002_1) ∧ Aside0 (KeepBut w w' g none) ∧ Aside0 (Below w0.heap.size w0 w'))
 case atStart => exact ⟨(y186), (t189), (t190), (t191), rS, H', ⟨Nat.le_refl _⟩, ⟨R_l HO188.out⟩, ⟨tI⟩, ⟨tK⟩, ⟨tB⟩⟩
 case round =>
  clear H'
  try clear c2
  try clear p2
  try clear c4
  try clear p6
  obtain ⟨x5_1, x6_1, x1001_1, x1002_1, rfl, HA, HK1, HO_5, HI0, HK, HB⟩ := hrel
  cases gk with
  | zero => exact absurd HA.out (by simp [spec_l8Draw.l0])
  | succ k1 =>
   have H := HA.out
   clear HA
   simp only [spec_l8Draw.l0] at H
   by_cases c8 : x6_1 > 0
   ·rw [if_pos c8] at H
    have c8b0 : decide (0 < x6_1) = true := decide_eq_true c8
    clear c8
    obtain ⟨⟨t192, t195, t196⟩, A9, H⟩ := bs H
    try dsimp only at H
    obtain ⟨t197, A10, H⟩ := bs H
    obtain ⟨⟨t200, t201, t202⟩, A11, H⟩ := bs H
    try dsimp only at H
    obtain ⟨t203, A12, H⟩ := bs H
    obtain ⟨⟨t206, t207, t208⟩, A13, H⟩ := bs H
    try dsimp only at H
    by_cases c14 : t206 = true
    ·subst c14
     rw [if_pos rfl] at H
     obtain ⟨t209, A15, H⟩ := bs H
     obtain ⟨LMc16, H⟩ := gda H
     obtain ⟨y212, Ny212, H⟩ := bn H
     obtain ⟨LMc17, H⟩ := gda H
     obtain ⟨y215, Ny215, H⟩ := bn H
     obtain ⟨t218, A18, H⟩ := bs H
     obtain ⟨LMc19, H⟩ := gda H
     generalize hy221 : (y215 ++ t218 : List Int) = y221 at H
     have Ny221 := Aside0.mk hy221.symm; clear hy221
     have H' := Aside0.mk H
     clear H
     go_wp2_with (first | (refine gL 43 (some 22) Try.func43 #[.pointer (some ⟨g, 0, none⟩), .int .i64 (wrap64 (2 * (wrap64 (1 + t183)))), .int .i64 2] ?_; (with_reducible refine (spec_l2Draw.calls k1 g s0_0 x1001_1 x1002_1 (wrap64 (2 * (wrap64 (1 + t183)))) 2 t192 t195 t196 w0 _ ?side1 ?side2 A9.out).mono ?_); (case side1 => exact tI); (case side2 => exact tB); rintro e w20 ⟨v193, rfl, ho0, hi, hb, hk⟩; refine ⟨_, rfl, ?_⟩; have HO194 := Aside0.mk (Kd.R_lower (Kd.R_new' ho0 (Kd.R_lt (R_l HO_5.out))) (zK)); replace HO_5 := Aside0.mk (Kd.R_mono (Kd.R_told (Kd.R_oldK (IsS55.apart (show IsS55 w0 _ g s0_0 x1001_1 x1002_1 from tI) (R_l HO_5.out) (by decide)) hk) (Kd.R_base ho0)) (fun _ h_ => h_.1)); replace HK := Aside0.mk (KeepBut.trans tK hk (.inl rfl)); replace HB := Aside0.mk (hb); replace HI0 := Aside0.mk (hi)) | (refine gL 18 (some 24) Try.func18 #[.int .i64 (wrap64 (1 + t183))] ?_; (with_reducible refine (spec_Relator.calls (wrap64 (1 + t183)) t197 _ A10.out).mono ?_); rintro e w21 ⟨v198, rfl, ho0, hb⟩; refine ⟨_, rfl, ?_⟩; have HO199 := Aside0.mk (Kd.R_lower (Kd.R_new' (Kd.R_new' ho0 (Kd.R_lt (R_l HO_5.out))) (Kd.R_lt (R_l HO194.out))) (zK)); replace HO_5 := Aside0.mk (Kd.R_elder' (R_l HO_5.out) (Kd.R_base ho0) hb); replace HO194 := Aside0.mk (Kd.R_elder' (R_l HO194.out) (Kd.R_base ho0) hb); replace HK := Aside0.mk (KeepBut.trans tK (KeepBut.of_below hb g none) (.inl rfl)); replace HB := Aside0.mk (below_step tB hb); replace HI0 := Aside0.mk (IsS55.below tI hb)) | (refine gL 42 (some 26) Try.func42 #[.pointer (some ⟨g, 0, none⟩), .int .i64 8] ?_; (with_reducible refine (spec_l1Below.calls g s0_0 t195 t196 8 t200 t201 t202 w0 _ ?side1 ?side2 A11.out).mono ?_); (case side1 => exact tI); (case side2 => exact tB); rintro e w22 ⟨rfl, hi, hb, hk⟩; refine ⟨_, rfl, ?_⟩; replace HO_5 := Aside0.mk (Kd.R_mono (Kd.R_keep (IsS55.apart (show IsS55 w0 _ g s0_0 t195 t196 from tI) (R_l HO_5.out) (by decide)) hk (fun _ h => h.2)) (fun _ h => h.1)); replace HO194 := Aside0.mk (Kd.R_mono (Kd.R_keep (IsS55.apart (show IsS55 w0 _ g s0_0 t195 t196 from tI) (R_l HO194.out) (by decide)) hk (fun _ h => h.2)) (fun _ h => h.1)); replace HO199 := Aside0.mk (Kd.R_mono (Kd.R_keep (IsS55.apart (show IsS55 w0 _ g s0_0 t195 t196 from tI) (R_l HO199.out) (by decide)) hk (fun _ h => h.2)) (fun _ h => h.1)); replace HK := Aside0.mk (KeepBut.trans tK hk (.inl rfl)); replace HB := Aside0.mk (hb); replace HI0 := Aside0.mk (hi); obtain ⟨Ao23, co23, eo23⟩ := Kd.R_slice HO199.out; subst eo23) | (refine gL 51 (some 27) Try.func51 #[.slice Ao23 t197.length co23, .int .i64 t200] ?_; (with_reducible refine (spec_l2Turn.calls _ _ t197 t200 t203 _ ?side1 ?side2 A12.out).mono ?_); (case side1 => exact C_l ((Kd.R_reads' HO199.out).2.2)); (case side2 => exact (Kd.R_reads' HO199.out).2.1); rintro e w24 ⟨v204, rfl, ho0, hb⟩; refine ⟨_, rfl, ?_⟩; have HO205 := Aside0.mk (Kd.R_lower (Kd.R_new' (Kd.R_new' (Kd.R_new' ho0 (Kd.R_lt (R_l HO_5.out))) (Kd.R_lt (R_l HO194.out))) (Kd.R_lt (R_l HO199.out))) (zK)); replace HO_5 := Aside0.mk (Kd.R_elder' (R_l HO_5.out) (Kd.R_base ho0) hb); replace HO194 := Aside0.mk (Kd.R_elder' (R_l HO194.out) (Kd.R_base ho0) hb); replace HO199 := Aside0.mk (Kd.R_elder' (R_l HO199.out) (Kd.R_base ho0) hb); replace HK := Aside0.mk (KeepBut.trans tK (KeepBut.of_below hb g none) (.inl rfl)); replace HB := Aside0.mk (below_step tB hb); replace HI0 := Aside0.mk (IsS55.below tI hb)) | (refine gL 44 (some 29) Try.func44 #[.pointer (some ⟨g, 0, none⟩), .int .i64 2] ?_; (with_reducible refine (spec_l1Once.calls g s0_0 t201 t202 2 true t207 t208 w0 _ ?side1 ?side2 A13.out).mono ?_); (case side1 => exact tI); (case side2 => exact tB); rintro e w25 ⟨rfl, hi, hb, hk⟩; refine ⟨_, rfl, ?_⟩; replace HO_5 := Aside0.mk (Kd.R_mono (Kd.R_keep (IsS55.apart (show IsS55 w0 _ g s0_0 t201 t202 from tI) (R_l HO_5.out) (by decide)) hk (fun _ h => h.2)) (fun _ h => h.1)); replace HO194 := Aside0.mk (Kd.R_mono (Kd.R_keep (IsS55.apart (show IsS55 w0 _ g s0_0 t201 t202 from tI) (R_l HO194.out) (by decide)) hk (fun _ h => h.2)) (fun _ h => h.1)); replace HO199 := Aside0.mk (Kd.R_mono (Kd.R_keep (IsS55.apart (show IsS55 w0 _ g s0_0 t201 t202 from tI) (R_l HO199.out) (by decide)) hk (fun _ h => h.2)) (fun _ h => h.1)); replace HO205 := Aside0.mk (Kd.R_mono (Kd.R_keep (IsS55.apart (show IsS55 w0 _ g s0_0 t201 t202 from tI) (R_l HO205.out) (by decide)) hk (fun _ h => h.2)) (fun _ h => h.1)); replace HK := Aside0.mk (KeepBut.trans tK hk (.inl rfl)); replace HB := Aside0.mk (hb); replace HI0 := Aside0.mk (hi); obtain ⟨Ao26, co26, eo26⟩ := Kd.R_slice HO205.out; subst eo26) | (refine gL 46 (some 31) Try.func46 #[.slice Ao26 t203.length co26] ?_; (with_reducible refine (spec_l2Inverse.calls k1 _ _ t203 t209 _ ?side1 ?side2 A15.out).mono ?_); (case side1 => exact C_l ((Kd.R_reads' HO205.out).2.2)); (case side2 => exact (Kd.R_reads' HO205.out).2.1); rintro e w27 ⟨v210, rfl, ho0, hb⟩; refine ⟨_, rfl, ?_⟩; have HO211 := Aside0.mk (Kd.R_lower (Kd.R_new' (Kd.R_new' (Kd.R_new' (Kd.R_new' ho0 (Kd.R_lt (R_l HO_5.out))) (Kd.R_lt (R_l HO194.out))) (Kd.R_lt (R_l HO199.out))) (Kd.R_lt (R_l HO205.out))) (zK)); replace HO_5 := Aside0.mk (Kd.R_elder' (R_l HO_5.out) (Kd.R_base ho0) hb); replace HO194 := Aside0.mk (Kd.R_elder' (R_l HO194.out) (Kd.R_base ho0) hb); replace HO199 := Aside0.mk (Kd.R_elder' (R_l HO199.out) (Kd.R_base ho0) hb); replace HO205 := Aside0.mk (Kd.R_elder' (R_l HO205.out) (Kd.R_base ho0) hb); replace HK := Aside0.mk (KeepBut.trans tK (KeepBut.of_below hb g none) (.inl rfl)); replace HB := Aside0.mk (below_step tB hb); replace HI0 := Aside0.mk (IsS55.below tI hb); obtain ⟨Ao29, co29, eo29⟩ := Kd.R_slice HO194.out; subst eo29) | ((with_reducible refine gate_builtin (b := .append) (xs := #[.tmp 32, .tmp 33]) rfl ?_); at_builtin; refine Kd.R_append_rows (Kd.int .i64) w.heap.size rfl (.tmp 32) (.tmp 33) 24 3 (.int .i64 0) 8 rfl Try.underlying24 info3 rfl (by decide) (by omega) u5 x5_1 t192 _ _ _ (fun k_ => some k_ ≠ (.slice Ao29 t192.length co29 : Value).ownBlock ∧ some k_ ≠ (.slice Ao23 t197.length co23 : Value).ownBlock ∧ some k_ ≠ (.slice Ao26 t203.length co26 : Value).ownBlock ∧ some k_ ≠ (v210 : Value).ownBlock) (fun _ => False) rfl rfl ?aO ?aR (fun _ _ h => h) (fun _ h => h.elim) ?aF (Below.refl _ _) ?aS ?aL ?_; (case aR => exact C_l ((Kd.R_reads' HO194.out).2.2)); (case aF => exact (fun k_ hk => ⟨Kd.fresh' (Kd.R_lt (R_l HO194.out)) k_ hk, Kd.fresh' (Kd.R_lt (R_l HO199.out)) k_ hk, Kd.fresh' (Kd.R_lt (R_l HO205.out)) k_ hk, Kd.fresh' (Kd.R_lt (R_l HO211.out)) k_ hk⟩)); (case aO => exact (R_l (Kd.R_mono HO_5.out (fun _ hk => ⟨hk.1.1.1.2, ⟨hk.1.1.2, ⟨hk.1.2, hk.2⟩⟩⟩)))); (case aS => exact (zK)); (case aL => have := LMc16.out; omega); intro v213 w28 ho hb hg hat; rw [← Ny212.out] at ho; replace HO194 := Aside0.mk (Kd.R_after (ok := (fun k_ => some k_ ≠ (.slice Ao23 t197.length co23 : Value).ownBlock ∧ some k_ ≠ (.slice Ao26 t203.length co26 : Value).ownBlock ∧ some k_ ≠ (v210 : Value).ownBlock)) (R_l (Kd.R_mono HO194.out (fun _ hk => ⟨⟨hk.1.1.2, ⟨hk.1.2, hk.2⟩⟩, hk.1.1.1.2⟩))) hg hat); replace HO199 := Aside0.mk (Kd.R_after (ok := (fun k_ => some k_ ≠ (.slice Ao29 t192.length co29 : Value).ownBlock ∧ some k_ ≠ (.slice Ao26 t203.length co26 : Value).ownBlock ∧ some k_ ≠ (v210 : Value).ownBlock)) (R_l (Kd.R_mono HO199.out (fun _ hk => ⟨⟨hk.1.1.2, ⟨hk.1.2, hk.2⟩⟩, hk.1.1.1.2⟩))) hg hat); replace HO205 := Aside0.mk (Kd.R_after (ok := (fun k_ => some k_ ≠ (.slice Ao29 t192.length co29 : Value).ownBlock ∧ some k_ ≠ (.slice Ao23 t197.length co23 : Value).ownBlock ∧ some k_ ≠ (v210 : Value).ownBlock)) (R_l (Kd.R_mono HO205.out (fun _ hk => ⟨⟨hk.1.1.2, ⟨hk.1.2, hk.2⟩⟩, hk.1.1.1.2⟩))) hg hat); replace HO211 := Aside0.mk (Kd.R_after (ok := (fun k_ => some k_ ≠ (.slice Ao29 t192.length co29 : Value).ownBlock ∧ some k_ ≠ (.slice Ao23 t197.length co23 : Value).ownBlock ∧ some k_ ≠ (.slice Ao26 t203.length co26 : Value).ownBlock)) (R_l (Kd.R_mono HO211.out (fun _ hk => ⟨⟨hk.1.1.2, ⟨hk.1.2, hk.2⟩⟩, hk.1.1.1.2⟩))) hg hat); replace HB := Aside0.mk (below_weaken tB HL.out hb); replace HI0 := Aside0.mk (IsS55.grown tI hg (IsS55.own_ne HI0.out HO_5.out (by decide))); replace HK := Aside0.mk (KeepBut.trans tK (KeepBut.of_grown hg g) (Kd.R_base2 HO_5.out)); have HO214 := Aside0.mk (ho); clear HO_5; clear ho hb hg hat; obtain ⟨Ao31, co31, eo31⟩ := Kd.R_slice HO211.out; subst eo31) | ((with_reducible refine gate_builtin (b := .append) (xs := #[.tmp 34, .tmp 35]) rfl ?_); at_builtin; refine Kd.R_append_rows (Kd.int .i64) w.heap.size rfl (.tmp 34) (.tmp 35) 24 3 (.int .i64 0) 8 rfl Try.underlying24 info3 rfl (by decide) (by omega) v213 y212 t209 _ _ _ (fun k_ => some k_ ≠ (.slice Ao29 t192.length co29 : Value).ownBlock ∧ some k_ ≠ (.slice Ao23 t197.length co23 : Value).ownBlock ∧ some k_ ≠ (.slice Ao26 t203.length co26 : Value).ownBlock ∧ some k_ ≠ (.slice Ao31 t209.length co31 : Value).ownBlock) (fun _ => False) rfl rfl ?aO ?aR (fun _ _ h => h) (fun _ h => h.elim) ?aF (Below.refl _ _) ?aS ?aL ?_; (case aR => exact C_l ((Kd.R_reads' HO211.out).2.2)); (case aF => exact (fun k_ hk => ⟨Kd.fresh' (Kd.R_lt (R_l HO194.out)) k_ hk, Kd.fresh' (Kd.R_lt (R_l HO199.out)) k_ hk, Kd.fresh' (Kd.R_lt (R_l HO205.out)) k_ hk, Kd.fresh' (Kd.R_lt (R_l HO211.out)) k_ hk⟩)); (case aO => exact (R_l HO214.out)); (case aS => exact (zK)); (case aL => have := LMc17.out; omega); intro v216 w30 ho hb hg hat; rw [← Ny215.out] at ho; replace HO194 := Aside0.mk (Kd.R_after (ok := (fun k_ => some k_ ≠ (.slice Ao23 t197.length co23 : Value).ownBlock ∧ some k_ ≠ (.slice Ao26 t203.length co26 : Value).ownBlock ∧ some k_ ≠ (.slice Ao31 t209.length co31 : Value).ownBlock)) (R_l HO194.out) hg hat); replace HO199 := Aside0.mk (Kd.R_after (ok := (fun k_ => some k_ ≠ (.slice Ao29 t192.length co29 : Value).ownBlock ∧ some k_ ≠ (.slice Ao26 t203.length co26 : Value).ownBlock ∧ some k_ ≠ (.slice Ao31 t209.length co31 : Value).ownBlock)) (R_l HO199.out) hg hat); replace HO205 := Aside0.mk (Kd.R_after (ok := (fun k_ => some k_ ≠ (.slice Ao29 t192.length co29 : Value).ownBlock ∧ some k_ ≠ (.slice Ao23 t197.length co23 : Value).ownBlock ∧ some k_ ≠ (.slice Ao31 t209.length co31 : Value).ownBlock)) (R_l HO205.out) hg hat); replace HO211 := Aside0.mk (Kd.R_after (ok := (fun k_ => some k_ ≠ (.slice Ao29 t192.length co29 : Value).ownBlock ∧ some k_ ≠ (.slice Ao23 t197.length co23 : Value).ownBlock ∧ some k_ ≠ (.slice Ao26 t203.length co26 : Value).ownBlock)) (R_l HO211.out) hg hat); replace HB := Aside0.mk (below_weaken tB HL.out hb); replace HI0 := Aside0.mk (IsS55.grown tI hg (IsS55.own_ne HI0.out HO214.out (by decide))); replace HK := Aside0.mk (KeepBut.trans tK (KeepBut.of_grown hg g) (Kd.R_base2 HO214.out)); have HO217 := Aside0.mk (ho); clear HO214; clear ho hb hg hat) | (refine gL 46 (some 38) Try.func46 #[.slice Ao29 t192.length co29] ?_; (with_reducible refine (spec_l2Inverse.calls k1 _ _ t192 t218 _ ?side1 ?side2 A18.out).mono ?_); (case side1 => exact C_l ((Kd.R_reads' HO194.out).2.2)); (case side2 => exact (Kd.R_reads' HO194.out).2.1); rintro e w32 ⟨v219, rfl, ho0, hb⟩; refine ⟨_, rfl, ?_⟩; have HO220 := Aside0.mk (Kd.R_lower (Kd.R_new' (Kd.R_new' (Kd.R_new' (Kd.R_new' (Kd.R_new' ho0 (Kd.R_lt (R_l HO194.out))) (Kd.R_lt (R_l HO199.out))) (Kd.R_lt (R_l HO205.out))) (Kd.R_lt (R_l HO211.out))) (Kd.R_lt (R_l HO217.out))) (zK)); replace HO194 := Aside0.mk (Kd.R_elder' (R_l HO194.out) (Kd.R_base ho0) hb); replace HO199 := Aside0.mk (Kd.R_elder' (R_l HO199.out) (Kd.R_base ho0) hb); replace HO205 := Aside0.mk (Kd.R_elder' (R_l HO205.out) (Kd.R_base ho0) hb); replace HO211 := Aside0.mk (Kd.R_elder' (R_l HO211.out) (Kd.R_base ho0) hb); replace HO217 := Aside0.mk (Kd.R_elder' (R_l HO217.out) (Kd.R_base ho0) hb); replace HK := Aside0.mk (KeepBut.trans tK (KeepBut.of_below hb g none) (.inl rfl)); replace HB := Aside0.mk (below_step tB hb); replace HI0 := Aside0.mk (IsS55.below tI hb); obtain ⟨Ao34, co34, eo34⟩ := Kd.R_slice HO220.out; subst eo34) | ((with_reducible refine gate_builtin (b := .append) (xs := #[.tmp 36, .tmp 38]) rfl ?_); at_builtin; refine Kd.R_append_rows (Kd.int .i64) w.heap.size rfl (.tmp 36) (.tmp 38) 24 3 (.int .i64 0) 8 rfl Try.underlying24 info3 rfl (by decide) (by omega) v216 y215 t218 _ _ _ (fun k_ => some k_ ≠ (.slice Ao29 t192.length co29 : Value).ownBlock ∧ some k_ ≠ (.slice Ao23 t197.length co23 : Value).ownBlock ∧ some k_ ≠ (.slice Ao26 t203.length co26 : Value).ownBlock ∧ some k_ ≠ (.slice Ao31 t209.length co31 : Value).ownBlock ∧ some k_ ≠ (.slice Ao34 t218.length co34 : Value).ownBlock) (fun _ => False) rfl rfl ?aO ?aR (fun _ _ h => h) (fun _ h => h.elim) ?aF (Below.refl _ _) ?aS ?aL ?_; (case aR => exact C_l ((Kd.R_reads' HO220.out).2.2)); (case aF => exact (fun k_ hk => ⟨Kd.fresh' (Kd.R_lt (R_l HO194.out)) k_ hk, Kd.fresh' (Kd.R_lt (R_l HO199.out)) k_ hk, Kd.fresh' (Kd.R_lt (R_l HO205.out)) k_ hk, Kd.fresh' (Kd.R_lt (R_l HO211.out)) k_ hk, Kd.fresh' (Kd.R_lt (R_l HO220.out)) k_ hk⟩)); (case aO => exact (R_l (Kd.R_mono HO217.out (fun _ hk => ⟨hk.1.1, ⟨hk.1.2.1, ⟨hk.1.2.2.1, ⟨hk.1.2.2.2, hk.2⟩⟩⟩⟩)))); (case aS => exact (zK)); (case aL => have := LMc19.out; omega); intro v222 w33 ho hb hg hat; rw [← Ny221.out] at ho; replace HO194 := Aside0.mk (Kd.R_after (ok := (fun k_ => some k_ ≠ (.slice Ao23 t197.length co23 : Value).ownBlock ∧ some k_ ≠ (.slice Ao26 t203.length co26 : Value).ownBlock ∧ some k_ ≠ (.slice Ao31 t209.length co31 : Value).ownBlock ∧ some k_ ≠ (.slice Ao34 t218.length co34 : Value).ownBlock)) (R_l (Kd.R_mono HO194.out (fun _ hk => ⟨⟨hk.1.1.1, ⟨hk.1.1.2.1, ⟨hk.1.1.2.2, hk.2⟩⟩⟩, hk.1.2⟩))) hg hat); replace HO199 := Aside0.mk (Kd.R_after (ok := (fun k_ => some k_ ≠ (.slice Ao29 t192.length co29 : Value).ownBlock ∧ some k_ ≠ (.slice Ao26 t203.length co26 : Value).ownBlock ∧ some k_ ≠ (.slice Ao31 t209.length co31 : Value).ownBlock ∧ some k_ ≠ (.slice Ao34 t218.length co34 : Value).ownBlock)) (R_l (Kd.R_mono HO199.out (fun _ hk => ⟨⟨hk.1.1.1, ⟨hk.1.1.2.1, ⟨hk.1.1.2.2, hk.2⟩⟩⟩, hk.1.2⟩))) hg hat); replace HO205 := Aside0.mk (Kd.R_after (ok := (fun k_ => some k_ ≠ (.slice Ao29 t192.length co29 : Value).ownBlock ∧ some k_ ≠ (.slice Ao23 t197.length co23 : Value).ownBlock ∧ some k_ ≠ (.slice Ao31 t209.length co31 : Value).ownBlock ∧ some k_ ≠ (.slice Ao34 t218.length co34 : Value).ownBlock)) (R_l (Kd.R_mono HO205.out (fun _ hk => ⟨⟨hk.1.1.1, ⟨hk.1.1.2.1, ⟨hk.1.1.2.2, hk.2⟩⟩⟩, hk.1.2⟩))) hg hat); replace HO211 := Aside0.mk (Kd.R_after (ok := (fun k_ => some k_ ≠ (.slice Ao29 t192.length co29 : Value).ownBlock ∧ some k_ ≠ (.slice Ao23 t197.length co23 : Value).ownBlock ∧ some k_ ≠ (.slice Ao26 t203.length co26 : Value).ownBlock ∧ some k_ ≠ (.slice Ao34 t218.length co34 : Value).ownBlock)) (R_l (Kd.R_mono HO211.out (fun _ hk => ⟨⟨hk.1.1.1, ⟨hk.1.1.2.1, ⟨hk.1.1.2.2, hk.2⟩⟩⟩, hk.1.2⟩))) hg hat); replace HO220 := Aside0.mk (Kd.R_after (ok := (fun k_ => some k_ ≠ (.slice Ao29 t192.length co29 : Value).ownBlock ∧ some k_ ≠ (.slice Ao23 t197.length co23 : Value).ownBlock ∧ some k_ ≠ (.slice Ao26 t203.length co26 : Value).ownBlock ∧ some k_ ≠ (.slice Ao31 t209.length co31 : Value).ownBlock)) (R_l (Kd.R_mono HO220.out (fun _ hk => ⟨⟨hk.1.1.1.1.2, ⟨hk.1.1.1.2, ⟨hk.1.1.2, hk.1.2⟩⟩⟩, hk.2⟩))) hg hat); replace HB := Aside0.mk (below_weaken tB HL.out hb); replace HI0 := Aside0.mk (IsS55.grown tI hg (IsS55.own_ne HI0.out HO217.out (by decide))); replace HK := Aside0.mk (KeepBut.trans tK (KeepBut.of_grown hg g) (Kd.R_base2 HO217.out)); have HO223 := Aside0.mk (ho); clear HO217; clear ho hb hg hat))
     go_roundg k1
     case measure => exact oK
     case rel => exact ⟨(y221), (wrap64 (x6_1 - 1)), (t207), (t208), rS, H', ⟨oK⟩, ⟨R_l (Kd.R_mono HO223.out (fun _ hk => trivial))⟩, ⟨tI⟩, ⟨tK⟩, ⟨tB⟩⟩
    ·replace c14 := Bool.eq_false_iff.mpr c14
     subst c14
     rw [if_neg (show ¬ (false = true) by decide)] at H
     obtain ⟨LMc35, H⟩ := gda H
     obtain ⟨y224, Ny224, H⟩ := bn H
     obtain ⟨LMc36, H⟩ := gda H
     obtain ⟨y227, Ny227, H⟩ := bn H
     obtain ⟨t230, A37, H⟩ := bs H
     obtain ⟨LMc38, H⟩ := gda H
     generalize hy233 : (y227 ++ t230 : List Int) = y233 at H
     have Ny233 := Aside0.mk hy233.symm; clear hy233
     have H' := Aside0.mk H
     clear H
     go_wp2_with (first | (refine gL 43 (some 22) Try.func43 #[.pointer (some ⟨g, 0, none⟩), .int .i64 (wrap64 (2 * (wrap64 (1 + t183)))), .int .i64 2] ?_; (with_reducible refine (spec_l2Draw.calls k1 g s0_0 x1001_1 x1002_1 (wrap64 (2 * (wrap64 (1 + t183)))) 2 t192 t195 t196 w0 _ ?side1 ?side2 A9.out).mono ?_); (case side1 => exact tI); (case side2 => exact tB); rintro e w39 ⟨v193, rfl, ho0, hi, hb, hk⟩; refine ⟨_, rfl, ?_⟩; have HO194 := Aside0.mk (Kd.R_lower (Kd.R_new' ho0 (Kd.R_lt (R_l HO_5.out))) (zK)); replace HO_5 := Aside0.mk (Kd.R_mono (Kd.R_told (Kd.R_oldK (IsS55.apart (show IsS55 w0 _ g s0_0 x1001_1 x1002_1 from tI) (R_l HO_5.out) (by decide)) hk) (Kd.R_base ho0)) (fun _ h_ => h_.1)); replace HK := Aside0.mk (KeepBut.trans tK hk (.inl rfl)); replace HB := Aside0.mk (hb); replace HI0 := Aside0.mk (hi)) | (refine gL 18 (some 24) Try.func18 #[.int .i64 (wrap64 (1 + t183))] ?_; (with_reducible refine (spec_Relator.calls (wrap64 (1 + t183)) t197 _ A10.out).mono ?_); rintro e w40 ⟨v198, rfl, ho0, hb⟩; refine ⟨_, rfl, ?_⟩; have HO199 := Aside0.mk (Kd.R_lower (Kd.R_new' (Kd.R_new' ho0 (Kd.R_lt (R_l HO_5.out))) (Kd.R_lt (R_l HO194.out))) (zK)); replace HO_5 := Aside0.mk (Kd.R_elder' (R_l HO_5.out) (Kd.R_base ho0) hb); replace HO194 := Aside0.mk (Kd.R_elder' (R_l HO194.out) (Kd.R_base ho0) hb); replace HK := Aside0.mk (KeepBut.trans tK (KeepBut.of_below hb g none) (.inl rfl)); replace HB := Aside0.mk (below_step tB hb); replace HI0 := Aside0.mk (IsS55.below tI hb)) | (refine gL 42 (some 26) Try.func42 #[.pointer (some ⟨g, 0, none⟩), .int .i64 8] ?_; (with_reducible refine (spec_l1Below.calls g s0_0 t195 t196 8 t200 t201 t202 w0 _ ?side1 ?side2 A11.out).mono ?_); (case side1 => exact tI); (case side2 => exact tB); rintro e w41 ⟨rfl, hi, hb, hk⟩; refine ⟨_, rfl, ?_⟩; replace HO_5 := Aside0.mk (Kd.R_mono (Kd.R_keep (IsS55.apart (show IsS55 w0 _ g s0_0 t195 t196 from tI) (R_l HO_5.out) (by decide)) hk (fun _ h => h.2)) (fun _ h => h.1)); replace HO194 := Aside0.mk (Kd.R_mono (Kd.R_keep (IsS55.apart (show IsS55 w0 _ g s0_0 t195 t196 from tI) (R_l HO194.out) (by decide)) hk (fun _ h => h.2)) (fun _ h => h.1)); replace HO199 := Aside0.mk (Kd.R_mono (Kd.R_keep (IsS55.apart (show IsS55 w0 _ g s0_0 t195 t196 from tI) (R_l HO199.out) (by decide)) hk (fun _ h => h.2)) (fun _ h => h.1)); replace HK := Aside0.mk (KeepBut.trans tK hk (.inl rfl)); replace HB := Aside0.mk (hb); replace HI0 := Aside0.mk (hi); obtain ⟨Ao42, co42, eo42⟩ := Kd.R_slice HO199.out; subst eo42) | (refine gL 51 (some 27) Try.func51 #[.slice Ao42 t197.length co42, .int .i64 t200] ?_; (with_reducible refine (spec_l2Turn.calls _ _ t197 t200 t203 _ ?side1 ?side2 A12.out).mono ?_); (case side1 => exact C_l ((Kd.R_reads' HO199.out).2.2)); (case side2 => exact (Kd.R_reads' HO199.out).2.1); rintro e w43 ⟨v204, rfl, ho0, hb⟩; refine ⟨_, rfl, ?_⟩; have HO205 := Aside0.mk (Kd.R_lower (Kd.R_new' (Kd.R_new' (Kd.R_new' ho0 (Kd.R_lt (R_l HO_5.out))) (Kd.R_lt (R_l HO194.out))) (Kd.R_lt (R_l HO199.out))) (zK)); replace HO_5 := Aside0.mk (Kd.R_elder' (R_l HO_5.out) (Kd.R_base ho0) hb); replace HO194 := Aside0.mk (Kd.R_elder' (R_l HO194.out) (Kd.R_base ho0) hb); replace HO199 := Aside0.mk (Kd.R_elder' (R_l HO199.out) (Kd.R_base ho0) hb); replace HK := Aside0.mk (KeepBut.trans tK (KeepBut.of_below hb g none) (.inl rfl)); replace HB := Aside0.mk (below_step tB hb); replace HI0 := Aside0.mk (IsS55.below tI hb)) | (refine gL 44 (some 29) Try.func44 #[.pointer (some ⟨g, 0, none⟩), .int .i64 2] ?_; (with_reducible refine (spec_l1Once.calls g s0_0 t201 t202 2 false t207 t208 w0 _ ?side1 ?side2 A13.out).mono ?_); (case side1 => exact tI); (case side2 => exact tB); rintro e w44 ⟨rfl, hi, hb, hk⟩; refine ⟨_, rfl, ?_⟩; replace HO_5 := Aside0.mk (Kd.R_mono (Kd.R_keep (IsS55.apart (show IsS55 w0 _ g s0_0 t201 t202 from tI) (R_l HO_5.out) (by decide)) hk (fun _ h => h.2)) (fun _ h => h.1)); replace HO194 := Aside0.mk (Kd.R_mono (Kd.R_keep (IsS55.apart (show IsS55 w0 _ g s0_0 t201 t202 from tI) (R_l HO194.out) (by decide)) hk (fun _ h => h.2)) (fun _ h => h.1)); replace HO199 := Aside0.mk (Kd.R_mono (Kd.R_keep (IsS55.apart (show IsS55 w0 _ g s0_0 t201 t202 from tI) (R_l HO199.out) (by decide)) hk (fun _ h => h.2)) (fun _ h => h.1)); replace HO205 := Aside0.mk (Kd.R_mono (Kd.R_keep (IsS55.apart (show IsS55 w0 _ g s0_0 t201 t202 from tI) (R_l HO205.out) (by decide)) hk (fun _ h => h.2)) (fun _ h => h.1)); replace HK := Aside0.mk (KeepBut.trans tK hk (.inl rfl)); replace HB := Aside0.mk (hb); replace HI0 := Aside0.mk (hi); obtain ⟨Ao46, co46, eo46⟩ := Kd.R_slice HO194.out; subst eo46) | ((with_reducible refine gate_builtin (b := .append) (xs := #[.tmp 32, .tmp 33]) rfl ?_); at_builtin; refine Kd.R_append_rows (Kd.int .i64) w.heap.size rfl (.tmp 32) (.tmp 33) 24 3 (.int .i64 0) 8 rfl Try.underlying24 info3 rfl (by decide) (by omega) u5 x5_1 t192 _ _ _ (fun k_ => some k_ ≠ (.slice Ao46 t192.length co46 : Value).ownBlock ∧ some k_ ≠ (.slice Ao42 t197.length co42 : Value).ownBlock ∧ some k_ ≠ (v204 : Value).ownBlock) (fun _ => False) rfl rfl ?aO ?aR (fun _ _ h => h) (fun _ h => h.elim) ?aF (Below.refl _ _) ?aS ?aL ?_; (case aR => exact C_l ((Kd.R_reads' HO194.out).2.2)); (case aF => exact (fun k_ hk => ⟨Kd.fresh' (Kd.R_lt (R_l HO194.out)) k_ hk, Kd.fresh' (Kd.R_lt (R_l HO199.out)) k_ hk, Kd.fresh' (Kd.R_lt (R_l HO205.out)) k_ hk⟩)); (case aO => exact (R_l (Kd.R_mono HO_5.out (fun _ hk => ⟨hk.1.1.2, ⟨hk.1.2, hk.2⟩⟩)))); (case aS => exact (zK)); (case aL => have := LMc35.out; omega); intro v225 w45 ho hb hg hat; rw [← Ny224.out] at ho; replace HO194 := Aside0.mk (Kd.R_after (ok := (fun k_ => some k_ ≠ (.slice Ao42 t197.length co42 : Value).ownBlock ∧ some k_ ≠ (v204 : Value).ownBlock)) (R_l (Kd.R_mono HO194.out (fun _ hk => ⟨⟨hk.1.2, hk.2⟩, hk.1.1.2⟩))) hg hat); replace HO199 := Aside0.mk (Kd.R_after (ok := (fun k_ => some k_ ≠ (.slice Ao46 t192.length co46 : Value).ownBlock ∧ some k_ ≠ (v204 : Value).ownBlock)) (R_l (Kd.R_mono HO199.out (fun _ hk => ⟨⟨hk.1.2, hk.2⟩, hk.1.1.2⟩))) hg hat); replace HO205 := Aside0.mk (Kd.R_after (ok := (fun k_ => some k_ ≠ (.slice Ao46 t192.length co46 : Value).ownBlock ∧ some k_ ≠ (.slice Ao42 t197.length co42 : Value).ownBlock)) (R_l (Kd.R_mono HO205.out (fun _ hk => ⟨⟨hk.1.2, hk.2⟩, hk.1.1.2⟩))) hg hat); replace HB := Aside0.mk (below_weaken tB HL.out hb); replace HI0 := Aside0.mk (IsS55.grown tI hg (IsS55.own_ne HI0.out HO_5.out (by decide))); replace HK := Aside0.mk (KeepBut.trans tK (KeepBut.of_grown hg g) (Kd.R_base2 HO_5.out)); have HO226 := Aside0.mk (ho); clear HO_5; clear ho hb hg hat; obtain ⟨Ao48, co48, eo48⟩ := Kd.R_slice HO205.out; subst eo48) | ((with_reducible refine gate_builtin (b := .append) (xs := #[.tmp 34, .tmp 35]) rfl ?_); at_builtin; refine Kd.R_append_rows (Kd.int .i64) w.heap.size rfl (.tmp 34) (.tmp 35) 24 3 (.int .i64 0) 8 rfl Try.underlying24 info3 rfl (by decide) (by omega) v225 y224 t203 _ _ _ (fun k_ => some k_ ≠ (.slice Ao46 t192.length co46 : Value).ownBlock ∧ some k_ ≠ (.slice Ao42 t197.length co42 : Value).ownBlock ∧ some k_ ≠ (.slice Ao48 t203.length co48 : Value).ownBlock) (fun _ => False) rfl rfl ?aO ?aR (fun _ _ h => h) (fun _ h => h.elim) ?aF (Below.refl _ _) ?aS ?aL ?_; (case aR => exact C_l ((Kd.R_reads' HO205.out).2.2)); (case aF => exact (fun k_ hk => ⟨Kd.fresh' (Kd.R_lt (R_l HO194.out)) k_ hk, Kd.fresh' (Kd.R_lt (R_l HO199.out)) k_ hk, Kd.fresh' (Kd.R_lt (R_l HO205.out)) k_ hk⟩)); (case aO => exact (R_l HO226.out)); (case aS => exact (zK)); (case aL => have := LMc36.out; omega); intro v228 w47 ho hb hg hat; rw [← Ny227.out] at ho; replace HO194 := Aside0.mk (Kd.R_after (ok := (fun k_ => some k_ ≠ (.slice Ao42 t197.length co42 : Value).ownBlock ∧ some k_ ≠ (.slice Ao48 t203.length co48 : Value).ownBlock)) (R_l HO194.out) hg hat); replace HO199 := Aside0.mk (Kd.R_after (ok := (fun k_ => some k_ ≠ (.slice Ao46 t192.length co46 : Value).ownBlock ∧ some k_ ≠ (.slice Ao48 t203.length co48 : Value).ownBlock)) (R_l HO199.out) hg hat); replace HO205 := Aside0.mk (Kd.R_after (ok := (fun k_ => some k_ ≠ (.slice Ao46 t192.length co46 : Value).ownBlock ∧ some k_ ≠ (.slice Ao42 t197.length co42 : Value).ownBlock)) (R_l HO205.out) hg hat); replace HB := Aside0.mk (below_weaken tB HL.out hb); replace HI0 := Aside0.mk (IsS55.grown tI hg (IsS55.own_ne HI0.out HO226.out (by decide))); replace HK := Aside0.mk (KeepBut.trans tK (KeepBut.of_grown hg g) (Kd.R_base2 HO226.out)); have HO229 := Aside0.mk (ho); clear HO226; clear ho hb hg hat) | (refine gL 46 (some 38) Try.func46 #[.slice Ao46 t192.length co46] ?_; (with_reducible refine (spec_l2Inverse.calls k1 _ _ t192 t230 _ ?side1 ?side2 A37.out).mono ?_); (case side1 => exact C_l ((Kd.R_reads' HO194.out).2.2)); (case side2 => exact (Kd.R_reads' HO194.out).2.1); rintro e w49 ⟨v231, rfl, ho0, hb⟩; refine ⟨_, rfl, ?_⟩; have HO232 := Aside0.mk (Kd.R_lower (Kd.R_new' (Kd.R_new' (Kd.R_new' (Kd.R_new' ho0 (Kd.R_lt (R_l HO194.out))) (Kd.R_lt (R_l HO199.out))) (Kd.R_lt (R_l HO205.out))) (Kd.R_lt (R_l HO229.out))) (zK)); replace HO194 := Aside0.mk (Kd.R_elder' (R_l HO194.out) (Kd.R_base ho0) hb); replace HO199 := Aside0.mk (Kd.R_elder' (R_l HO199.out) (Kd.R_base ho0) hb); replace HO205 := Aside0.mk (Kd.R_elder' (R_l HO205.out) (Kd.R_base ho0) hb); replace HO229 := Aside0.mk (Kd.R_elder' (R_l HO229.out) (Kd.R_base ho0) hb); replace HK := Aside0.mk (KeepBut.trans tK (KeepBut.of_below hb g none) (.inl rfl)); replace HB := Aside0.mk (below_step tB hb); replace HI0 := Aside0.mk (IsS55.below tI hb); obtain ⟨Ao51, co51, eo51⟩ := Kd.R_slice HO232.out; subst eo51) | ((with_reducible refine gate_builtin (b := .append) (xs := #[.tmp 36, .tmp 38]) rfl ?_); at_builtin; refine Kd.R_append_rows (Kd.int .i64) w.heap.size rfl (.tmp 36) (.tmp 38) 24 3 (.int .i64 0) 8 rfl Try.underlying24 info3 rfl (by decide) (by omega) v228 y227 t230 _ _ _ (fun k_ => some k_ ≠ (.slice Ao46 t192.length co46 : Value).ownBlock ∧ some k_ ≠ (.slice Ao42 t197.length co42 : Value).ownBlock ∧ some k_ ≠ (.slice Ao48 t203.length co48 : Value).ownBlock ∧ some k_ ≠ (.slice Ao51 t230.length co51 : Value).ownBlock) (fun _ => False) rfl rfl ?aO ?aR (fun _ _ h => h) (fun _ h => h.elim) ?aF (Below.refl _ _) ?aS ?aL ?_; (case aR => exact C_l ((Kd.R_reads' HO232.out).2.2)); (case aF => exact (fun k_ hk => ⟨Kd.fresh' (Kd.R_lt (R_l HO194.out)) k_ hk, Kd.fresh' (Kd.R_lt (R_l HO199.out)) k_ hk, Kd.fresh' (Kd.R_lt (R_l HO205.out)) k_ hk, Kd.fresh' (Kd.R_lt (R_l HO232.out)) k_ hk⟩)); (case aO => exact (R_l (Kd.R_mono HO229.out (fun _ hk => ⟨hk.1.1, ⟨hk.1.2.1, ⟨hk.1.2.2, hk.2⟩⟩⟩)))); (case aS => exact (zK)); (case aL => have := LMc38.out; omega); intro v234 w50 ho hb hg hat; rw [← Ny233.out] at ho; replace HO194 := Aside0.mk (Kd.R_after (ok := (fun k_ => some k_ ≠ (.slice Ao42 t197.length co42 : Value).ownBlock ∧ some k_ ≠ (.slice Ao48 t203.length co48 : Value).ownBlock ∧ some k_ ≠ (.slice Ao51 t230.length co51 : Value).ownBlock)) (R_l (Kd.R_mono HO194.out (fun _ hk => ⟨⟨hk.1.1.1, ⟨hk.1.1.2, hk.2⟩⟩, hk.1.2⟩))) hg hat); replace HO199 := Aside0.mk (Kd.R_after (ok := (fun k_ => some k_ ≠ (.slice Ao46 t192.length co46 : Value).ownBlock ∧ some k_ ≠ (.slice Ao48 t203.length co48 : Value).ownBlock ∧ some k_ ≠ (.slice Ao51 t230.length co51 : Value).ownBlock)) (R_l (Kd.R_mono HO199.out (fun _ hk => ⟨⟨hk.1.1.1, ⟨hk.1.1.2, hk.2⟩⟩, hk.1.2⟩))) hg hat); replace HO205 := Aside0.mk (Kd.R_after (ok := (fun k_ => some k_ ≠ (.slice Ao46 t192.length co46 : Value).ownBlock ∧ some k_ ≠ (.slice Ao42 t197.length co42 : Value).ownBlock ∧ some k_ ≠ (.slice Ao51 t230.length co51 : Value).ownBlock)) (R_l (Kd.R_mono HO205.out (fun _ hk => ⟨⟨hk.1.1.1, ⟨hk.1.1.2, hk.2⟩⟩, hk.1.2⟩))) hg hat); replace HO232 := Aside0.mk (Kd.R_after (ok := (fun k_ => some k_ ≠ (.slice Ao46 t192.length co46 : Value).ownBlock ∧ some k_ ≠ (.slice Ao42 t197.length co42 : Value).ownBlock ∧ some k_ ≠ (.slice Ao48 t203.length co48 : Value).ownBlock)) (R_l (Kd.R_mono HO232.out (fun _ hk => ⟨⟨hk.1.1.1.2, ⟨hk.1.1.2, hk.1.2⟩⟩, hk.2⟩))) hg hat); replace HB := Aside0.mk (below_weaken tB HL.out hb); replace HI0 := Aside0.mk (IsS55.grown tI hg (IsS55.own_ne HI0.out HO229.out (by decide))); replace HK := Aside0.mk (KeepBut.trans tK (KeepBut.of_grown hg g) (Kd.R_base2 HO229.out)); have HO235 := Aside0.mk (ho); clear HO229; clear ho hb hg hat))
     go_roundg k1
     case measure => exact oK
     case rel => exact ⟨(y233), (wrap64 (x6_1 - 1)), (t207), (t208), rS, H', ⟨oK⟩, ⟨R_l (Kd.R_mono HO235.out (fun _ hk => trivial))⟩, ⟨tI⟩, ⟨tK⟩, ⟨tB⟩⟩
   ·rw [if_neg c8] at H
    have c8b0 : decide (0 < x6_1) = false := decide_eq_false c8
    clear c8
    obtain ⟨⟨t236, t237, t238⟩, A52, H⟩ := bs H
    try dsimp only at H
    have HC53 := Aside0.mk H
    clear H
    go_upto_if 41 with (first | (refine gL 44 (some 41) Try.func44 #[.pointer (some ⟨g, 0, none⟩), .int .i64 2] ?_; (with_reducible refine (spec_l1Once.calls g s0_0 x1001_1 x1002_1 2 t236 t237 t238 w0 _ ?side1 ?side2 A52.out).mono ?_); (case side1 => exact tI); (case side2 => exact tB); rintro e w54 ⟨rfl, hi, hb, hk⟩; refine ⟨_, rfl, ?_⟩; replace HO_5 := Aside0.mk (Kd.R_mono (Kd.R_keep (IsS55.apart (show IsS55 w0 _ g s0_0 x1001_1 x1002_1 from tI) (R_l HO_5.out) (by decide)) hk (fun _ h => h.2)) (fun _ h => h.1)); replace HK := Aside0.mk (KeepBut.trans tK hk (.inl rfl)); replace HB := Aside0.mk (hb); replace HI0 := Aside0.mk (hi)))
    (try simp only [Act.put, List.setIfInBounds_toArray, List.set_cons_zero, List.set_cons_succ])
    go_cut [5] (fun v5 wc => ∃ (kq : Nat) (x5_52 : List Int) (x1001_52 : Int) (x1002_52 : Int), Aside0 (spec_l8Draw.j1 kq (wrap64 (1 + t183)) x5_52 s0_0 x1001_52 x1002_52 = some (r1, r2, r3, r4)) ∧ Aside0 (kq ≤ k1) ∧ Aside0 (Kd.R (Kd.int .i64) 3 wc w.heap.size (fun _ => True) v5 x5_52) ∧ Aside0 (IsS55 w0 wc g s0_0 x1001_52 x1002_52) ∧ Aside0 (KeepBut w wc g none) ∧ Aside0 (Below w0.heap.size w0 wc))
    case first =>
     have H := HC53.out
     clear HC53
     by_cases c55 : t236 = true
     ·subst c55
      rw [if_pos rfl] at H
      obtain ⟨⟨t239, t242, t243⟩, A56, H⟩ := bs H
      try dsimp only at H
      obtain ⟨LMc57, H⟩ := gda H
      generalize hy244 : (x5_1 ++ t239 : List Int) = y244 at H
      have Ny244 := Aside0.mk hy244.symm; clear hy244
      have H' := Aside0.mk H
      clear H
      go_wp2_with (first | (refine gL 43 (some 46) Try.func43 #[.pointer (some ⟨g, 0, none⟩), .int .i64 (wrap64 (2 * (wrap64 (1 + t183)))), .int .i64 4] ?_; (with_reducible refine (spec_l2Draw.calls k1 g s0_0 t237 t238 (wrap64 (2 * (wrap64 (1 + t183)))) 4 t239 t242 t243 w0 _ ?side1 ?side2 A56.out).mono ?_); (case side1 => exact tI); (case side2 => exact tB); rintro e w58 ⟨v240, rfl, ho0, hi, hb, hk⟩; refine ⟨_, rfl, ?_⟩; have HO241 := Aside0.mk (Kd.R_lower (Kd.R_new' ho0 (Kd.R_lt (R_l HO_5.out))) (zK)); replace HO_5 := Aside0.mk (Kd.R_mono (Kd.R_told (Kd.R_oldK (IsS55.apart (show IsS55 w0 _ g s0_0 t237 t238 from tI) (R_l HO_5.out) (by decide)) hk) (Kd.R_base ho0)) (fun _ h_ => h_.1)); replace HK := Aside0.mk (KeepBut.trans tK hk (.inl rfl)); replace HB := Aside0.mk (hb); replace HI0 := Aside0.mk (hi); obtain ⟨Ao60, co60, eo60⟩ := Kd.R_slice HO241.out; subst eo60) | ((with_reducible refine gate_builtin (b := .append) (xs := #[.tmp 42, .tmp 46]) rfl ?_); at_builtin; refine Kd.R_append_rows (Kd.int .i64) w.heap.size rfl (.tmp 42) (.tmp 46) 24 3 (.int .i64 0) 8 rfl Try.underlying24 info3 rfl (by decide) (by omega) u5 x5_1 t239 _ _ _ (fun k_ => some k_ ≠ (.slice Ao60 t239.length co60 : Value).ownBlock) (fun _ => False) rfl rfl ?aO ?aR (fun _ _ h => h) (fun _ h => h.elim) ?aF (Below.refl _ _) ?aS ?aL ?_; (case aR => exact C_l ((Kd.R_reads' HO241.out).2.2)); (case aF => exact (fun k_ hk => Kd.fresh' (Kd.R_lt (R_l HO241.out)) k_ hk)); (case aO => exact (R_l (Kd.R_mono HO_5.out (fun _ hk => hk.2)))); (case aS => exact (zK)); (case aL => have := LMc57.out; omega); intro v245 w59 ho hb hg hat; rw [← Ny244.out] at ho; replace HO241 := Aside0.mk (Kd.R_after (ok := (fun _ => True)) (R_l HO241.out) hg hat); replace HB := Aside0.mk (below_weaken tB HL.out hb); replace HI0 := Aside0.mk (IsS55.grown tI hg (IsS55.own_ne HI0.out HO_5.out (by decide))); replace HK := Aside0.mk (KeepBut.trans tK (KeepBut.of_grown hg g) (Kd.R_base2 HO_5.out)); have HO246 := Aside0.mk (ho); clear HO_5; clear ho hb hg hat))
      go_meet
      case rel => exact ⟨_, (y244), (t242), (t243), H', ⟨by have := HK1.out; first | omega | exact Nat.le_refl _⟩, ⟨R_l (Kd.R_mono HO246.out (fun _ hk => trivial))⟩, ⟨tI⟩, ⟨tK⟩, ⟨tB⟩⟩
     ·replace c55 := Bool.eq_false_iff.mpr c55
      subst c55
      rw [if_neg (show ¬ (false = true) by decide)] at H
      have H' := Aside0.mk H
      clear H
      go_wp2
      go_meet
      case rel => exact ⟨_, (x5_1), (t237), (t238), H', ⟨by have := HK1.out; first | omega | exact Nat.le_refl _⟩, ⟨R_l HO_5.out⟩, ⟨tI⟩, ⟨tK⟩, ⟨tB⟩⟩
    case rest =>
     clear HC53
     try clear c1
     try clear c2
     try clear p2
     try clear c3
     try clear c4
     try clear c5
     try clear p6
     try clear c8
     try clear c8b0
     try clear c14
     try clear c16
     try clear c17
     try clear c18
     try clear c19
     try clear c29
     try clear c35
     try clear c36
     try clear c38
     try clear c42
     try clear c43
     try clear c44
     try clear c46
     try clear c51
     try clear c55
     try clear c57
     try clear p2
     try clear p6
     obtain ⟨kq, x5_52, x1001_52, x1002_52, HA, HJ52, HO_5, HI0, HK, HB⟩ := hcut
     cases kq with
     | zero => exact absurd HA.out (by simp [spec_l8Draw.j1])
     | succ kj52 =>
      have H := HA.out
      clear HA
      simp only [spec_l8Draw.j1] at H
      have HC61 := Aside0.mk H
      clear H
      obtain ⟨Ao62, co62, eo62⟩ := Kd.R_slice HO_5.out
      subst eo62
      go_upto_if 50 with (fail)
      go_cut [5] (fun v5 wc => ∃ (kq : Nat) (x5_60 : List Int), Aside0 (spec_l8Draw.j2 kq (wrap64 (1 + t183)) x5_60 s0_0 x1001_52 x1002_52 = some (r1, r2, r3, r4)) ∧ Aside0 (kq ≤ kj52) ∧ Aside0 (Kd.R (Kd.int .i64) 3 wc w.heap.size (fun _ => True) v5 x5_60) ∧ Aside0 (IsS55 w0 wc g s0_0 x1001_52 x1002_52) ∧ Aside0 (KeepBut w wc g none) ∧ Aside0 (Below w0.heap.size w0 wc))
      case first =>
       have H := HC61.out
       clear HC61
       by_cases c63 : (x5_52.length : Int) > 24
       ·rw [if_pos c63] at H
        have c63b0 : decide (24 < (x5_52.length : Int)) = true := decide_eq_true c63
        have c63b1 : decide (24 < x5_52.length) = true := decide_eq_true (by omega)
        clear c63
        (first | rw [c63b0] | (simp only [i64_w, i32_w]; rw [c63b0]) | skip)
        obtain ⟨c64, H⟩ := gd H
        have c64b0 := eq_true c64
        have c64b1 : decide (24 ≤ (x5_52.length : Int)) = true := decide_eq_true c64
        clear c64
        generalize hy247 : (x5_52.take (24 : Int).toNat : List Int) = y247 at H
        have Ny247 := Aside0.mk hy247.symm; clear hy247
        have H' := Aside0.mk H
        clear H
        have q65 : (24 : Int) ≤ ((x5_52.length : Int) : Int) := dT
        obtain ⟨i065, hi065, _, hsz65, _⟩ := info_parts info3
        have hcut65 := cut_to (P := Try.prog) 24 3 .i64 Try.underlying24 hi065 Ao62 x5_52.length co62 24 (by omega) q65 (Kd.R_reads' HO_5.out).2.1
        have hr65 := Kd.R_take (m := (24 : Int).toNat) HO_5.out (by omega)
        have hy65 : y247.length = (24 : Int).toNat := (by rw [Ny247.out, List.length_take]; omega)
        rw [← Ny247.out] at hr65
        rw [← hy65] at hr65 hcut65
        clear hy65 hi065 hsz65 HO_5
        have HO249 := Aside0.mk hr65
        clear hr65
        replace q65 := eq_true q65
        go_wp2
        go_meet
        case rel => exact ⟨_, (y247), H', ⟨by have := HK1.out; have := HJ52.out; first | omega | exact Nat.le_refl _⟩, ⟨R_l HO249.out⟩, ⟨tI⟩, ⟨tK⟩, ⟨tB⟩⟩
       ·rw [if_neg c63] at H
        have c63b0 : decide (24 < (x5_52.length : Int)) = false := decide_eq_false c63
        have c63b1 : decide (24 < x5_52.length) = false := decide_eq_false (by omega)
        clear c63
        (first | rw [c63b0] | (simp only [i64_w, i32_w]; rw [c63b0]) | skip)
        have H' := Aside0.mk H
        clear H
        go_wp2
        go_meet
        case rel => exact ⟨_, (x5_52), H', ⟨by have := HK1.out; have := HJ52.out; first | omega | exact Nat.le_refl _⟩, ⟨R_l HO_5.out⟩, ⟨tI⟩, ⟨tK⟩, ⟨tB⟩⟩
      case rest =>
       clear HC61
       try clear c1
       try clear c2
       try clear p2
       try clear c3
       try clear c4
       try clear c5
       try clear c6
       try clear p6
       try clear q6
       try clear c8
       try clear c8b0
       try clear c14
       try clear c16
       try clear c17
       try clear c18
       try clear c19
       try clear c29
       try clear c35
       try clear c36
       try clear c38
       try clear c42
       try clear c43
       try clear c44
       try clear c46
       try clear c51
       try clear c55
       try clear c57
       try clear c63
       try clear c63b0
       try clear c63b1
       try clear c64
       try clear c64b0
       try clear c64b1
       try clear p64
       try clear q65
       try clear p2
       try clear p6
       try clear q65
       obtain ⟨kq, x5_60, HA, HJ60, HO_5, HI0, HK, HB⟩ := hcut
       cases kq with
       | zero => exact absurd HA.out (by simp [spec_l8Draw.j2])
       | succ kj60 =>
        have H := HA.out
        clear HA
        simp only [spec_l8Draw.j2] at H
        obtain ⟨⟨t250, t251, t252⟩, A66, H⟩ := bs H
        try dsimp only at H
        by_cases c67 : t250 = 0
        ·rw [if_pos c67] at H
         have c67b0 : (t250 == 0) = true := beq_iff_eq.mpr c67
         have c67b1 : (t250 != 0) = false := bne_eq_false_iff_eq.mpr c67
         clear c67
         generalize hy253 : (([0, 3, 1] : List Int) : List Int) = y253 at H
         have Ny253 := Aside0.mk hy253.symm; clear hy253
         obtain ⟨⟨t256, t257, t258⟩, A68, H⟩ := bs H
         try dsimp only at H
         simp only [Option.some.injEq, Prod.mk.injEq] at H
         obtain ⟨rfl, rfl, rfl, rfl⟩ := H
         go_wp2_with (first | (refine gL 42 (some 54) Try.func42 #[.pointer (some ⟨g, 0, none⟩), .int .i64 20] ?_; (with_reducible refine (spec_l1Below.calls g s0_0 x1001_52 x1002_52 20 t250 t251 t252 w0 _ ?side1 ?side2 A66.out).mono ?_); (case side1 => exact tI); (case side2 => exact tB); rintro e w69 ⟨rfl, hi, hb, hk⟩; refine ⟨_, rfl, ?_⟩; replace HO_5 := Aside0.mk (Kd.R_mono (Kd.R_keep (IsS55.apart (show IsS55 w0 _ g s0_0 x1001_52 x1002_52 from tI) (R_l HO_5.out) (by decide)) hk (fun _ h => h.2)) (fun _ h => h.1)); replace HK := Aside0.mk (KeepBut.trans tK hk (.inl rfl)); replace HB := Aside0.mk (hb); replace HI0 := Aside0.mk (hi)) | ((with_reducible refine gate_dst (N := 58) rfl ?_); refine Kd.R_lit (Kd.int .i64) _ 3 ?hg (N := 58) ?hd (xs := ([0, 3, 1] : List Int)) (inner := [.int .i64 0, .int .i64 3, .int .i64 1]) (ok := fun _ => True) (okp := fun _ => True) ?hr ?hp (fun _ hk => hk) trivial (Below.refl _ _) (Nat.le_refl _) (by simp) ?_; (case hd => rfl); (case hg => rfl); (case hr => exact gS); (case hp => exact (Reps.one (show Kd.M (Kd.int .i64) _ _ _ 0 [.int .i64 0] from rfl) (Reps.one (show Kd.M (Kd.int .i64) _ _ _ 3 [.int .i64 3] from rfl) (Reps.one (show Kd.M (Kd.int .i64) _ _ _ 1 [.int .i64 1] from rfl) (Reps.none _ _))))); intro v254 w70 ho71 hb hg_ hnew_; clear hg_ hnew_; (first | rw [← Ny253.out] at ho71 | (simp only [Int.reduceToNat] at ho71; rw [← Ny253.out] at ho71)); have HO255 := Aside0.mk (Kd.R_lower (Kd.R_new' ho71 (Kd.R_lt (R_l HO_5.out))) (zK)); replace HO_5 := Aside0.mk (Kd.R_elder' (R_l HO_5.out) (Kd.R_base ho71) hb); replace HK := Aside0.mk (KeepBut.trans tK (KeepBut.of_below hb g none) (.inl rfl)); replace HB := Aside0.mk (below_step tB hb); replace HI0 := Aside0.mk (IsS55.below tI hb); clear hb ho71; obtain ⟨Ao72, co72, eo72⟩ := Kd.R_slice HO255.out; subst eo72) | (refine gL 55 (some 59) Try.func55 #[.pointer (some ⟨g, 0, none⟩), .slice Ao72 y253.length co72] ?_; (with_reducible refine (spec_l1PickInt.calls g s0_0 t251 t252 _ _ y253 t256 t257 t258 w0 _ ?side1 ?side2 ?side3 ?side4 ?side5 A68.out).mono ?_); (case side1 => exact tI); (case side2 => exact tB); (case side3 => exact C_l ((Kd.R_reads' HO255.out).2.2)); (case side4 => exact (Kd.R_reads' HO255.out).2.1); (case side5 => exact far_slice (IsS55.own_ne HI0.out HO255.out (by decide))); rintro e w73 ⟨rfl, hi, hb, hk⟩; refine ⟨_, rfl, ?_⟩; replace HO_5 := Aside0.mk (Kd.R_mono (Kd.R_keep (IsS55.apart (show IsS55 w0 _ g s0_0 t251 t252 from tI) (R_l HO_5.out) (by decide)) hk (fun _ h => h.2)) (fun _ h => h.1)); replace HO255 := Aside0.mk (Kd.R_mono (Kd.R_keep (IsS55.apart (show IsS55 w0 _ g s0_0 t251 t252 from tI) (R_l HO255.out) (by decide)) hk (fun _ h => h.2)) (fun _ h => h.1)); replace HK := Aside0.mk (KeepBut.trans tK hk (.inl rfl)); replace HB := Aside0.mk (hb); replace HI0 := Aside0.mk (hi)))
         go_ret2
         exact ⟨_, rE, R_l (Kd.R_mono HO_5.out (fun _ hk => trivial)), tI, tB, tK⟩
        ·rw [if_neg c67] at H
         have c67b0 : (t250 == 0) = false := beq_eq_false_iff_ne.mpr c67
         have c67b1 : (t250 != 0) = true := bne_iff_ne.mpr c67
         by_cases c74 : t250 = 1
         ·rw [if_pos c74] at H
          have c74b0 : (t250 == 1) = true := beq_iff_eq.mpr c74
          have c74b1 : (t250 != 1) = false := bne_eq_false_iff_eq.mpr c74
          clear c74
          generalize hy259 : (([3, 5, 9] : List Int) : List Int) = y259 at H
          have Ny259 := Aside0.mk hy259.symm; clear hy259
          obtain ⟨⟨t262, t263, t264⟩, A75, H⟩ := bs H
          try dsimp only at H
          obtain ⟨LMc76, H⟩ := gda H
          generalize hy265 : (x5_60 ++ [t262] : List Int) = y265 at H
          have Ny265 := Aside0.mk hy265.symm; clear hy265
          simp only [Option.some.injEq, Prod.mk.injEq] at H
          obtain ⟨rfl, rfl, rfl, rfl⟩ := H
          go_wp2_with (first | (refine gL 42 (some 54) Try.func42 #[.pointer (some ⟨g, 0, none⟩), .int .i64 20] ?_; (with_reducible refine (spec_l1Below.calls g s0_0 x1001_52 x1002_52 20 t250 t251 t252 w0 _ ?side1 ?side2 A66.out).mono ?_); (case side1 => exact tI); (case side2 => exact tB); rintro e w77 ⟨rfl, hi, hb, hk⟩; refine ⟨_, rfl, ?_⟩; replace HO_5 := Aside0.mk (Kd.R_mono (Kd.R_keep (IsS55.apart (show IsS55 w0 _ g s0_0 x1001_52 x1002_52 from tI) (R_l HO_5.out) (by decide)) hk (fun _ h => h.2)) (fun _ h => h.1)); replace HK := Aside0.mk (KeepBut.trans tK hk (.inl rfl)); replace HB := Aside0.mk (hb); replace HI0 := Aside0.mk (hi)) | ((with_reducible refine gate_dst (N := 64) rfl ?_); refine Kd.R_lit (Kd.int .i64) _ 3 ?hg (N := 64) ?hd (xs := ([3, 5, 9] : List Int)) (inner := [.int .i64 3, .int .i64 5, .int .i64 9]) (ok := fun _ => True) (okp := fun _ => True) ?hr ?hp (fun _ hk => hk) trivial (Below.refl _ _) (Nat.le_refl _) (by simp) ?_; (case hd => rfl); (case hg => rfl); (case hr => exact gS); (case hp => exact (Reps.one (show Kd.M (Kd.int .i64) _ _ _ 3 [.int .i64 3] from rfl) (Reps.one (show Kd.M (Kd.int .i64) _ _ _ 5 [.int .i64 5] from rfl) (Reps.one (show Kd.M (Kd.int .i64) _ _ _ 9 [.int .i64 9] from rfl) (Reps.none _ _))))); intro v260 w78 ho79 hb hg_ hnew_; clear hg_ hnew_; (first | rw [← Ny259.out] at ho79 | (simp only [Int.reduceToNat] at ho79; rw [← Ny259.out] at ho79)); have HO261 := Aside0.mk (Kd.R_lower (Kd.R_new' ho79 (Kd.R_lt (R_l HO_5.out))) (zK)); replace HO_5 := Aside0.mk (Kd.R_elder' (R_l HO_5.out) (Kd.R_base ho79) hb); replace HK := Aside0.mk (KeepBut.trans tK (KeepBut.of_below hb g none) (.inl rfl)); replace HB := Aside0.mk (below_step tB hb); replace HI0 := Aside0.mk (IsS55.below tI hb); clear hb ho79; obtain ⟨Ao80, co80, eo80⟩ := Kd.R_slice HO261.out; subst eo80) | (refine gL 55 (some 65) Try.func55 #[.pointer (some ⟨g, 0, none⟩), .slice Ao80 y259.length co80] ?_; (with_reducible refine (spec_l1PickInt.calls g s0_0 t251 t252 _ _ y259 t262 t263 t264 w0 _ ?side1 ?side2 ?side3 ?side4 ?side5 A75.out).mono ?_); (case side1 => exact tI); (case side2 => exact tB); (case side3 => exact C_l ((Kd.R_reads' HO261.out).2.2)); (case side4 => exact (Kd.R_reads' HO261.out).2.1); (case side5 => exact far_slice (IsS55.own_ne HI0.out HO261.out (by decide))); rintro e w81 ⟨rfl, hi, hb, hk⟩; refine ⟨_, rfl, ?_⟩; replace HO_5 := Aside0.mk (Kd.R_mono (Kd.R_keep (IsS55.apart (show IsS55 w0 _ g s0_0 t251 t252 from tI) (R_l HO_5.out) (by decide)) hk (fun _ h => h.2)) (fun _ h => h.1)); replace HO261 := Aside0.mk (Kd.R_mono (Kd.R_keep (IsS55.apart (show IsS55 w0 _ g s0_0 t251 t252 from tI) (R_l HO261.out) (by decide)) hk (fun _ h => h.2)) (fun _ h => h.1)); replace HK := Aside0.mk (KeepBut.trans tK hk (.inl rfl)); replace HB := Aside0.mk (hb); replace HI0 := Aside0.mk (hi)) | ((with_reducible refine gate_builtin (b := .append) (xs := #[.tmp 62, .tmp 66]) rfl ?_); at_builtin; refine Kd.R_append (Kd.int .i64) w.heap.size rfl (.tmp 62) (.tmp 66) 24 3 (.int .i64 0) 8 rfl Try.underlying24 info3 rfl (by decide) (by omega) u5 x5_60 t262 [.int .i64 t262] (fun k_ => some k_ ≠ (.slice Ao80 y259.length co80 : Value).ownBlock) (fun _ => False) rfl rfl ?aP (fun _ hk => hk.elim) ?aF ?aO (Below.refl _ _) ?aS ?aL ?_; (case aP => exact rfl); (case aF => exact (fun k_ hk => Kd.fresh' (Kd.R_lt (R_l HO261.out)) k_ hk)); (case aO => exact (R_l (Kd.R_mono HO_5.out (fun _ hk => hk.2)))); (case aS => exact (zK)); (case aL => have := LMc76.out; omega); intro v266 w82 ho hb hg hat; rw [← Ny265.out] at ho; replace HO261 := Aside0.mk (Kd.R_after (ok := (fun _ => True)) (R_l HO261.out) hg hat); replace HB := Aside0.mk (below_weaken tB HL.out hb); replace HI0 := Aside0.mk (IsS55.grown tI hg (IsS55.own_ne HI0.out HO_5.out (by decide))); replace HK := Aside0.mk (KeepBut.trans tK (KeepBut.of_grown hg g) (Kd.R_base2 HO_5.out)); have HO267 := Aside0.mk (ho); clear HO_5; clear ho hb hg hat))
          go_ret2
          exact ⟨_, rE, R_l (Kd.R_mono HO267.out (fun _ hk => trivial)), tI, tB, tK⟩
         ·rw [if_neg c74] at H
          have c74b0 : (t250 == 1) = false := beq_eq_false_iff_ne.mpr c74
          have c74b1 : (t250 != 1) = true := bne_iff_ne.mpr c74
          simp only [Option.some.injEq, Prod.mk.injEq] at H
          obtain ⟨rfl, rfl, rfl, rfl⟩ := H
          go_wp2_with (first | (refine gL 42 (some 54) Try.func42 #[.pointer (some ⟨g, 0, none⟩), .int .i64 20] ?_; (with_reducible refine (spec_l1Below.calls g s0_0 x1001_52 x1002_52 20 t250 t251 t252 w0 _ ?side1 ?side2 A66.out).mono ?_); (case side1 => exact tI); (case side2 => exact tB); rintro e w83 ⟨rfl, hi, hb, hk⟩; refine ⟨_, rfl, ?_⟩; replace HO_5 := Aside0.mk (Kd.R_mono (Kd.R_keep (IsS55.apart (show IsS55 w0 _ g s0_0 x1001_52 x1002_52 from tI) (R_l HO_5.out) (by decide)) hk (fun _ h => h.2)) (fun _ h => h.1)); replace HK := Aside0.mk (KeepBut.trans tK hk (.inl rfl)); replace HB := Aside0.mk (hb); replace HI0 := Aside0.mk (hi)))
          go_ret2
          exact ⟨_, rE, R_l HO_5.out, tI, tB, tK⟩

/-! ### spec_l1New: function 30 -/
def spec_l1New.l0 : Nat → List Int → Int → Int → Option (List Int × Int × Int)
 | 0, _, _, _ => none
 | k + 1, x0, x3, x4 => if x4 < (x0.length : Int) then (if x4 < 4000 then (if 0 ≤ x4 then (spec_l1New.l0 k x0 (Go.bits .and .i64 (wrap64 ((wrap64 ((wrap64 (x3 * 131)) + (wrap64 (rd x0 x4)))) + 7)) 1073741823) (wrap64 (x4 + 1))) else (none)) else (some (x0, 0, x3))) else (some (x0, 0, x3))
def spec_l1New.f (k : Nat) (l0 : List Int) : Option (List Int × Int × Int) := spec_l1New.l0 k l0 (wrap64 (26583 + (l0.length : Int))) 0
set_option maxHeartbeats 8000000 in
set_option maxRecDepth 100000 in
theorem spec_l1New.calls (k : Nat) (A0 : Option Addr) (c0 : Nat) (l0 : List Int) (r1 : List Int) (r2 : Int) (r3 : Int) (w0 w : World) (hB : Below w0.heap.size w0 w) (hr0 : Kd.C (Kd.int .u8) w0 A0 l0.length l0) (hc0 : l0.length ≤ c0) (h : spec_l1New.f k l0 = some (r1, r2, r3)) :
  Calls Try.prog 30 #[.slice A0 l0.length c0] w fun e w' => ∃ g_ : Nat, e = .returned (.pointer (some ⟨g_, 0, none⟩)) ∧ IsS55 w0 w' g_ r1 r2 r3 ∧ Below w0.heap.size w0 w' ∧ Below w.heap.size w w' := by
 have hu55 := Try.underlying55
 have HR0 := Aside0.mk hr0
 have HC0 := Aside0.mk hc0
 clear hr0 hc0
 have HBW := Aside0.mk (Below.refl w.heap.size w)
 have HW0 := Aside0.mk hB.size
 have HB := Aside0.mk hB
 clear hB
 have H : (spec_l1New.l0 k l0 (wrap64 (26583 + (l0.length : Int))) 0) = some (r1, r2, r3) := h
 clear h
 have H' := Aside0.mk H
 clear H
 go_enter Try.func30, Try.ntmps30
 go_wp2
 go_loopg [3, 4] k (fun kq v3 v4 w' => ∃ (x3_1 : Int) (x4_1 : Int), v3 = .int .i64 x3_1 ∧ v4 = .int .i64 x4_1 ∧ Aside0 (spec_l1New.l0 kq l0 x3_1 x4_1 = some (r1, r2, r3)) ∧ Aside0 (kq ≤ k) ∧ Aside0 (Below w0.heap.size w0 w') ∧ Aside0 (Below w.heap.size w w'))
 case atStart => exact ⟨(wrap64 (26583 + (l0.length : Int))), (0), rS, rS, H', ⟨Nat.le_refl _⟩, ⟨tb⟩, ⟨by repeat (first | (with_reducible first | exact HBW.out | apply below_alloc | apply pw_below_drewN | apply below_drew1) | exact HBW.out)⟩⟩
 case round =>
  clear H'
  obtain ⟨x3_1, x4_1, rfl, rfl, HA, HK1, HB, HBW⟩ := hrel
  cases gk with
  | zero => exact absurd HA.out (by simp [spec_l1New.l0])
  | succ k1 =>
   have H := HA.out
   clear HA
   simp only [spec_l1New.l0] at H
   obtain ⟨c2b0, H⟩ | ⟨c2b0, H⟩ := gi H
   ·obtain ⟨c3b0, H⟩ | ⟨c3b0, H⟩ := gi H
    ·obtain ⟨c4b0, H⟩ := gdt H
     have H' := Aside0.mk H
     clear H
     have p268 : 0 ≤ (x4_1 : Int) := dT
     have q268 : x4_1 < (l0.length : Int) := dT
     obtain ⟨ad268, e268, hx268_0⟩ := Kd.at_int HR0.out x4_1 p268 q268
     cases e268
     replace hx268_0 := pw_cell_below HB.out hx268_0
     replace p268 := eq_true p268
     replace q268 := eq_true q268
     go_wp2
     go_roundg k1
     case measure => exact oK
     case rel => exact ⟨(Go.bits .and .i64 (wrap64 ((wrap64 ((wrap64 (x3_1 * 131)) + (wrap64 (rd l0 x4_1)))) + 7)) 1073741823), (wrap64 (x4_1 + 1)), rS, rS, H', ⟨oK⟩, ⟨tb⟩, ⟨by repeat (first | (with_reducible first | exact HBW.out | apply below_alloc | apply pw_below_drewN | apply below_drew1) | exact HBW.out)⟩⟩
    ·simp only [Option.some.injEq, Prod.mk.injEq] at H
     obtain ⟨rfl, rfl, rfl⟩ := H
     go_wp2_with (first | ((with_reducible refine gate_dst (N := 31) rfl ?_); refine box_event ?hg (N := 31) ?hd (cs := #[.slice A0 l0.length c0, .int .i64 0, .int .i64 x3_1]) (t := 55) ?hr ?_; (case hd => rfl); (case hg => rfl); (case hr => exact gS); intro gb269 hg w5 hbox hb; replace HB := Aside0.mk (below_step tb hb); have BK269 := Aside0.mk (hbox); have GW269 := Aside0.mk ((by rw [hg]; exact (below_size (by repeat (first | (with_reducible first | exact HBW.out | apply below_alloc | apply pw_below_drewN | apply below_drew1) | exact HBW.out))) : w.heap.size ≤ gb269)); have GE269 := Aside0.mk ((Nat.le_trans HW0.out (by rw [hg]; exact (below_size (by repeat (first | (with_reducible first | exact HBW.out | apply below_alloc | apply pw_below_drewN | apply below_drew1) | exact HBW.out))) : w.heap.size ≤ gb269) : w0.heap.size ≤ gb269)); replace HBW := Aside0.mk (below_step HBW.out hb); clear hb hbox hg))
     go_ret
     exact ⟨_, rfl, (show IsS55 w0 _ gb269 l0 0 x3_1 from ⟨_, _, by (with_reducible repeat (first | refine blk_drewN ?_ _ | refine blk_drew ?_ | refine blk_alloc ?_ _)); exact BK269.out, GE269.out, HR0.out⟩), tG1 GE269.out, by repeat (first | (with_reducible first | exact HBW.out | apply below_alloc | apply pw_below_drewN | apply below_drew1 | refine below_set ?_ GW269.out) | exact HBW.out)⟩
   ·simp only [Option.some.injEq, Prod.mk.injEq] at H
    obtain ⟨rfl, rfl, rfl⟩ := H
    go_wp2_with (first | ((with_reducible refine gate_dst (N := 31) rfl ?_); refine box_event ?hg (N := 31) ?hd (cs := #[.slice A0 l0.length c0, .int .i64 0, .int .i64 x3_1]) (t := 55) ?hr ?_; (case hd => rfl); (case hg => rfl); (case hr => exact gS); intro gb270 hg w6 hbox hb; replace HB := Aside0.mk (below_step tb hb); have BK270 := Aside0.mk (hbox); have GW270 := Aside0.mk ((by rw [hg]; exact (below_size (by repeat (first | (with_reducible first | exact HBW.out | apply below_alloc | apply pw_below_drewN | apply below_drew1) | exact HBW.out))) : w.heap.size ≤ gb270)); have GE270 := Aside0.mk ((Nat.le_trans HW0.out (by rw [hg]; exact (below_size (by repeat (first | (with_reducible first | exact HBW.out | apply below_alloc | apply pw_below_drewN | apply below_drew1) | exact HBW.out))) : w.heap.size ≤ gb270) : w0.heap.size ≤ gb270)); replace HBW := Aside0.mk (below_step HBW.out hb); clear hb hbox hg))
    go_ret
    exact ⟨_, rfl, (show IsS55 w0 _ gb270 l0 0 x3_1 from ⟨_, _, by (with_reducible repeat (first | refine blk_drewN ?_ _ | refine blk_drew ?_ | refine blk_alloc ?_ _)); exact BK270.out, GE270.out, HR0.out⟩), tG1 GE270.out, by repeat (first | (with_reducible first | exact HBW.out | apply below_alloc | apply pw_below_drewN | apply below_drew1 | refine below_set ?_ GW270.out) | exact HBW.out)⟩

/-! ### spec_DrawIsTrivialWord: function 5 -/
def spec_DrawIsTrivialWord.f (k : Nat) (l0 : List Int) : Option (Int × List Int) := (spec_l1New.f k l0).bind fun bt271 => ((spec_l8Draw.f k bt271.1 bt271.2.1 bt271.2.2).bind fun bt275 => (some (bt275.1, bt275.2.1)))
set_option maxHeartbeats 8000000 in
set_option maxRecDepth 100000 in
theorem spec_DrawIsTrivialWord.calls (k : Nat) (A0 : Option Addr) (c0 : Nat) (l0 : List Int) (r1 : Int) (r2 : List Int) (w : World) (hr0 : Kd.C (Kd.int .u8) w A0 l0.length l0) (hc0 : l0.length ≤ c0) (h : spec_DrawIsTrivialWord.f k l0 = some (r1, r2)) :
  Calls Try.prog 5 #[.slice A0 l0.length c0] w fun e w' => ∃ v1_ : Value, e = .returned (.tuple #[.int .i64 r1, v1_]) ∧ Kd.R (Kd.int .i64) 3 w' w.heap.size (fun _ => True) v1_ r2 ∧ Below w.heap.size w w' := by
 have HR0 := Aside0.mk hr0
 have HC0 := Aside0.mk hc0
 clear hr0 hc0
 have HB := Aside0.mk (Below.refl w.heap.size w)
 have H : ((spec_l1New.f k l0).bind fun bt271 => ((spec_l8Draw.f k bt271.1 bt271.2.1 bt271.2.2).bind fun bt275 => (some (bt275.1, bt275.2.1)))) = some (r1, r2) := h
 clear h
 obtain ⟨⟨t271, t272, t273⟩, A2, H⟩ := bs H
 try dsimp only at H
 obtain ⟨⟨t275, t276, t279, t280⟩, A3, H⟩ := bs H
 try dsimp only at H
 simp only [Option.some.injEq, Prod.mk.injEq] at H
 obtain ⟨rfl, rfl⟩ := H
 go_enter Try.func5, Try.ntmps5
 go_wp2_with (first | (refine gL 30 (some 8) Try.func30 #[.slice A0 l0.length c0] ?_; (with_reducible refine (spec_l1New.calls k _ _ l0 t271 t272 t273 w _ ?side1 ?side2 ?side3 A2.out).mono ?_); (case side1 => exact tb); (case side2 => exact HR0.out); (case side3 => exact HC0.out); rintro e w4 ⟨g274, rfl, hi, hb, hb2⟩; refine ⟨_, rfl, ?_⟩; replace HB := Aside0.mk (hb); have HI274 := Aside0.mk (hi)) | (refine gL 29 (some 9) Try.func29 #[.pointer (some ⟨g274, 0, none⟩)] ?_; (with_reducible refine (spec_l8Draw.calls k g274 t271 t272 t273 t275 t276 t279 t280 w _ ?side1 ?side2 A3.out).mono ?_); (case side1 => repeat (first | (with_reducible first | exact HI274.out | apply IsS55.alloc | apply IsS55.drewN | apply IsS55.drew | apply IsS55.set_1 | apply IsS55.set_2) | exact HI274.out)); (case side2 => repeat (first | (with_reducible first | exact HB.out | apply below_alloc | apply pw_below_drewN | apply below_drew1 | refine below_set ?_ (IsS55.ge HI274.out)) | exact HB.out)); rintro e w5 ⟨v277, rfl, ho0, hi, hb, hk⟩; refine ⟨_, rfl, ?_⟩; have HO278 := Aside0.mk (Kd.R_lower ho0 (below_size (by repeat (first | (with_reducible first | exact HB.out | apply below_alloc | apply pw_below_drewN | apply below_drew1 | refine below_set ?_ (IsS55.ge HI274.out)) | exact HB.out)))); replace HB := Aside0.mk (hb); replace HI274 := Aside0.mk (hi)))
 go_ret2
 exact ⟨_, rE, R_l HO278.out, by repeat (first | (with_reducible first | exact HB.out | apply below_alloc | apply pw_below_drewN | apply below_drew1 | refine below_set ?_ (IsS55.ge HI274.out)) | exact HB.out)⟩

/-! ### impl_within: function 69 -/
def impl_within.f (a0 : Int) (a1 : Int) (a2 : Int) : Option (Bool) := if a0 ≥ a1 then (some (decide (a0 ≤ a2))) else (some false)
set_option maxHeartbeats 8000000 in
set_option maxRecDepth 100000 in
theorem impl_within.calls (a0 : Int) (a1 : Int) (a2 : Int) (r : Bool) (w : World) (h : impl_within.f a0 a1 a2 = some r) :
  Calls Try.prog 69 #[.int .i64 a0, .int .i64 a1, .int .i64 a2] w fun e w' => e = .returned (.bool r) ∧ Drawn0 w w' := by
 have H : (if a0 ≥ a1 then (some (decide (a0 ≤ a2))) else (some false)) = some r := h
 clear h
 by_cases c4 : a0 ≥ a1
 ·rw [if_pos c4] at H
  have c4b0 : decide (a1 ≤ a0) = true := decide_eq_true c4
  clear c4
  obtain rfl := Option.some.inj H
  go_enter Try.func69, Try.ntmps69
  go_wp2
  go_ret
  exact ⟨rS, tD⟩
 ·rw [if_neg c4] at H
  have c4b0 : decide (a1 ≤ a0) = false := decide_eq_false c4
  clear c4
  obtain rfl := Option.some.inj H
  go_enter Try.func69, Try.ntmps69
  go_wp2
  go_ret
  exact ⟨rS, tD⟩

/-! ### impl_isLetter: function 68 -/
def impl_isLetter.f (a0 : Int) : Option (Bool) := if a0 = 0 then (some false) else ((impl_within.f a0 (-8) 8).bind fun t281 => (some t281))
set_option maxHeartbeats 8000000 in
set_option maxRecDepth 100000 in
theorem impl_isLetter.calls (a0 : Int) (r : Bool) (w : World) (h : impl_isLetter.f a0 = some r) :
  Calls Try.prog 68 #[.int .i64 a0] w fun e w' => e = .returned (.bool r) ∧ Drawn0 w w' := by
 have H : (if a0 = 0 then (some false) else ((impl_within.f a0 (-8) 8).bind fun t281 => (some t281))) = some r := h
 clear h
 by_cases c2 : a0 = 0
 ·rw [if_pos c2] at H
  have c2b0 : (a0 == 0) = true := beq_iff_eq.mpr c2
  have c2b1 : (a0 != 0) = false := bne_eq_false_iff_eq.mpr c2
  clear c2
  obtain rfl := Option.some.inj H
  go_enter Try.func68, Try.ntmps68
  go_wp2
  go_ret
  exact ⟨rS, tD⟩
 ·rw [if_neg c2] at H
  have c2b0 : (a0 == 0) = false := beq_eq_false_iff_ne.mpr c2
  have c2b1 : (a0 != 0) = true := bne_iff_ne.mpr c2
  obtain ⟨t281, A3, H⟩ := bs H
  obtain rfl := Option.some.inj H
  go_enter Try.func68, Try.ntmps68
  go_wp2_with (first | (go_at_call 69; (with_reducible refine (impl_within.calls a0 (-8) 8 t281 _ A3.out).mono ?_); rintro e w' ⟨rfl, ⟨nd, rfl⟩⟩))
  go_ret
  exact ⟨rS, tD⟩

/-! ### impl_IsWord: function 62 -/
def impl_IsWord.l0 : Nat → List Int → List Int → Int → Int → Option (Bool)
 | 0, _, _, _, _ => none
 | k + 1, x0, x5, x6, x7 => if x7 < x6 then (if 0 ≤ x7 then (if x7 < (x5.length : Int) then ((impl_isLetter.f (rd x5 x7)).bind fun t283 => (if t283 = true then (impl_IsWord.l0 k x0 x5 x6 (wrap64 (x7 + 1))) else (some false))) else (none)) else (none)) else (some (decide ((x0.length : Int) ≤ 24)))
def impl_IsWord.f (k : Nat) (l0 : List Int) : Option (Bool) := impl_IsWord.l0 k l0 l0 (l0.length : Int) 0
set_option maxHeartbeats 8000000 in
set_option maxRecDepth 100000 in
theorem impl_IsWord.calls (k : Nat) (A0 : Option Addr) (c0 : Nat) (l0 : List Int) (r : Bool) (w : World) (hr0 : Kd.C (Kd.int .i64) w A0 l0.length l0) (hc0 : l0.length ≤ c0) (h : impl_IsWord.f k l0 = some r) :
  Calls Try.prog 62 #[.slice A0 l0.length c0] w fun e w' => e = .returned (.bool r) ∧ Drawn0 w w' := by
 have HR0 := Aside0.mk hr0
 have HC0 := Aside0.mk hc0
 clear hr0 hc0
 have H : (impl_IsWord.l0 k l0 l0 (l0.length : Int) 0) = some r := h
 clear h
 have H' := Aside0.mk H
 clear H
 go_enter Try.func62, Try.ntmps62
 go_wp2
 go_loopg [7] k (fun kq v7 w' => ∃ (x7_1 : Int), v7 = .int .i64 x7_1 ∧ Aside0 (impl_IsWord.l0 kq l0 l0 (l0.length : Int) x7_1 = some r) ∧ Aside0 (kq ≤ k) ∧ Drawn0 w w')
 case atStart => exact ⟨(0), rS, H', ⟨Nat.le_refl _⟩, tD⟩
 case round =>
  clear H'
  obtain ⟨x7_1, rfl, HA, HK1, ⟨m1, rfl⟩⟩ := hrel
  cases gk with
  | zero => exact absurd HA.out (by simp [impl_IsWord.l0])
  | succ k1 =>
   have H := HA.out
   clear HA
   simp only [impl_IsWord.l0] at H
   obtain ⟨c2b0, H⟩ | ⟨c2b0, H⟩ := gi H
   ·obtain ⟨c3b0, H⟩ := gdt H
    obtain ⟨c4b0, H⟩ := gdt H
    obtain ⟨t283, A5, H⟩ := bs H
    by_cases c6 : t283 = true
    ·subst c6
     rw [if_pos rfl] at H
     have H' := Aside0.mk H
     clear H
     have p282 : 0 ≤ (x7_1 : Int) := dT
     have q282 : x7_1 < (l0.length : Int) := dT
     obtain ⟨ad282, e282, hx282_0⟩ := Kd.at_int HR0.out x7_1 p282 q282
     cases e282
     replace p282 := eq_true p282
     replace q282 := eq_true q282
     go_wp2_with (first | (refine gL 68 (some 12) Try.func68 #[.int .i64 (rd l0 x7_1)] ?_; (with_reducible refine (impl_isLetter.calls (rd l0 x7_1) true _ A5.out).mono ?_); rintro e w' ⟨rfl, ⟨nd, rfl⟩⟩; refine ⟨_, rfl, ?_⟩))
     go_roundg k1
     case measure => exact oK
     case rel => exact ⟨(wrap64 (x7_1 + 1)), rS, H', ⟨oK⟩, tD⟩
    ·replace c6 := Bool.eq_false_iff.mpr c6
     subst c6
     rw [if_neg (show ¬ (false = true) by decide)] at H
     obtain rfl := Option.some.inj H
     have p282 : 0 ≤ (x7_1 : Int) := dT
     have q282 : x7_1 < (l0.length : Int) := dT
     obtain ⟨ad282, e282, hx282_0⟩ := Kd.at_int HR0.out x7_1 p282 q282
     cases e282
     replace p282 := eq_true p282
     replace q282 := eq_true q282
     go_wp2_with (first | (refine gL 68 (some 12) Try.func68 #[.int .i64 (rd l0 x7_1)] ?_; (with_reducible refine (impl_isLetter.calls (rd l0 x7_1) false _ A5.out).mono ?_); rintro e w' ⟨rfl, ⟨nd, rfl⟩⟩; refine ⟨_, rfl, ?_⟩))
     go_ret
     exact ⟨rS, tD⟩
   ·obtain rfl := Option.some.inj H
    go_wp2
    go_ret
    exact ⟨rS, tD⟩

/-! ### impl_size: function 67 -/
def impl_size.f (a0 : Int) : Option (Int) := some (mx a0 (wrap64 (-a0)))
set_option maxHeartbeats 8000000 in
set_option maxRecDepth 100000 in
theorem impl_size.calls (a0 : Int) (r : Int) (w : World) (h : impl_size.f a0 = some r) :
  Calls Try.prog 67 #[.int .i64 a0] w fun e w' => e = .returned (.int .i64 r) ∧ Below w.heap.size w w' := by
 have HB := Aside0.mk (Below.refl w.heap.size w)
 have H : (some (mx a0 (wrap64 (-a0)))) = some r := h
 clear h
 obtain ⟨ji2, hji2⟩ : ∃ j_ : Int, (mx a0 (wrap64 (-a0))) = j_ := ⟨_, rfl⟩
 replace H : (some ji2) = some r := by first | (rw [hji2] at H; exact H) | (simp only [hji2] at H ⊢; exact H)
 have hji2_ : (if a0 < (wrap64 (-a0)) then (wrap64 (-a0)) else a0) = ji2 := hji2
 obtain rfl := Option.some.inj H
 go_enter Try.func67, Try.ntmps67
 go_wp2
 go_ret
 exact ⟨by first | rfl | (simp [errW_none, errW_some] <;> rfl) | (simp only [← hji2]; first | rfl | (simp [errW_none, errW_some] <;> rfl)) | (simp [*, errW_none, errW_some] <;> rfl), tb⟩

end Go.Proofs.Ytbchbmfmplfoiaa.PFnGroups
