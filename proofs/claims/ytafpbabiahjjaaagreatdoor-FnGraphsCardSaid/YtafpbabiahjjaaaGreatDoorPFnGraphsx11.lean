import Derived.Test.YtafpbabiahjjaaaGreatDoorWSpanB
import Derived.Test.YtafpbabiahjjaaaGreatDoorPFnGraphsx0
import Derived.Test.YtafpbabiahjjaaaGreatDoorPFnGraphsx3
import Derived.Test.YtafpbabiahjjaaaGreatDoorPFnGraphsx4
import Derived.Test.YtafpbabiahjjaaaGreatDoorPFnGraphsx10
namespace Go.Proofs.YtafpbabiahjjaaaGreatDoor.PFnGraphs
open Go.RowKit Go.Proofs.YtafpbabiahjjaaaGreatDoorW.PrintWords Go.Proofs.YtafpbabiahjjaaaGreatDoorW.PrintLast Go.Proofs.YtafpbabiahjjaaaGreatDoorW.PrintMore
attribute [local go_sem] max2_int min2_int max_two min_two max_three min_three max_four min_four   -- for this text's walks alone
set_option linter.unusedVariables false
set_option linter.unusedSimpArgs false

/-! ### spec_l1Turned: function 44 -/
def spec_l1Turned.f (s0_0 : List Int) (s0_1 : Int) (s0_2 : Int) (a1 : ByteArray) (l2 : List ByteArray) : Option (ByteArray × Int × Int) := (spec_l1Below.f s0_0 s0_1 s0_2 (wrap64 ((a1.size : Int) + 1))).bind fun bt358 => ((spec_l1Below.f s0_0 bt358.2.1 bt358.2.2 6).bind fun bt361 => (if bt361.1 = 0 then (if 0 ≤ bt358.1 then (if bt358.1 ≤ (a1.size : Int) then ((spec_l1Pick.f s0_0 bt361.2.1 bt361.2.2 l2).bind fun bt364 => (if (a1.extract 0 (bt358.1 : Int).toNat).size + bt364.1.size ≤ 9223372036854775807 then (if ((a1.extract 0 (bt358.1 : Int).toNat) ++ bt364.1).size + (a1.extract (bt358.1 : Int).toNat a1.size).size ≤ 9223372036854775807 then (some (((a1.extract 0 (bt358.1 : Int).toNat) ++ bt364.1) ++ (a1.extract (bt358.1 : Int).toNat a1.size), bt364.2.1, bt364.2.2)) else (none)) else (none))) else (none)) else (none)) else (if bt361.1 = 1 then (if 0 ≤ bt358.1 then (if bt358.1 ≤ (a1.size : Int) then (some (a1.extract 0 (bt358.1 : Int).toNat, bt361.2.1, bt361.2.2)) else (none)) else (none)) else (some (a1, bt361.2.1, bt361.2.2)))))
def spec_l1Turned.T4 : Bool × List (List Nat × List Nat) := (true, [([], []), ([], []), ([0, 1], [0, 1]), ([], []), ([], []), ([3, 4], [3, 4]), ([2, 5], [2, 5]), ([], []), ([], []), ([7, 8], [7, 8]), ([6, 9], [6, 9]), ([10, 5, 0, 1, 2, 3, 4, 5, 6, 7, 8, 9, 10], [10])])
def spec_l1Turned.B4 : List Nat := [0, 0, 3, 0, 0, 24, 63, 0, 0, 384, 1023, 2047]
theorem spec_l1Turned.tab4 : rtab .any (opsOf Tryz.f44 4) = spec_l1Turned.T4 := by kernel_rfl
theorem spec_l1Turned.bits4 : waitsOk spec_l1Turned.T4.2 spec_l1Turned.B4 = true := by kernel_rfl
set_option maxHeartbeats 8000000 in
set_option maxRecDepth 100000 in
theorem spec_l1Turned.calls (g : Nat) (s0_0 : List Int) (s0_1 : Int) (s0_2 : Int) (a1 : ByteArray) (A2 : Option Addr) (c2 : Nat) (l2 : List ByteArray) (r1 : ByteArray) (r2 : Int) (r3 : Int) (w0 w : World) (hI : IsS64 w0 w g s0_0 s0_1 s0_2) (hB : Below w0.heap.size w0 w) (hr2 : Kd.C Kd.string w A2 l2.length l2) (hc2 : l2.length ≤ c2) (hf2 : ∀ ad, A2 = some ad → 0 < l2.length → ad.block ≠ g) (h : spec_l1Turned.f s0_0 s0_1 s0_2 a1 l2 = some (r1, r2, r3)) :
  Calls Tryz.prog 44 #[.pointer (some ⟨g, 0, none⟩), .string a1, .slice A2 l2.length c2] w fun e w' => e = .returned (.string r1) ∧ IsS64 w0 w' g s0_0 r2 r3 ∧ Below w0.heap.size w0 w' ∧ KeepBut w w' g none := by
 have HR2 := Aside0.mk hr2
 have HC2 := Aside0.mk hc2
 clear hr2 hc2
 have HI0 := Aside0.mk hI
 have HK := Aside0.mk (KeepBut.refl w g none)
 have HL := Aside0.mk hB.size
 clear hI
 have HW0 := Aside0.mk hB.size
 have HB := Aside0.mk hB
 clear hB
 have H : ((spec_l1Below.f s0_0 s0_1 s0_2 (wrap64 ((a1.size : Int) + 1))).bind fun bt358 => ((spec_l1Below.f s0_0 bt358.2.1 bt358.2.2 6).bind fun bt361 => (if bt361.1 = 0 then (if 0 ≤ bt358.1 then (if bt358.1 ≤ (a1.size : Int) then ((spec_l1Pick.f s0_0 bt361.2.1 bt361.2.2 l2).bind fun bt364 => (if (a1.extract 0 (bt358.1 : Int).toNat).size + bt364.1.size ≤ 9223372036854775807 then (if ((a1.extract 0 (bt358.1 : Int).toNat) ++ bt364.1).size + (a1.extract (bt358.1 : Int).toNat a1.size).size ≤ 9223372036854775807 then (some (((a1.extract 0 (bt358.1 : Int).toNat) ++ bt364.1) ++ (a1.extract (bt358.1 : Int).toNat a1.size), bt364.2.1, bt364.2.2)) else (none)) else (none))) else (none)) else (none)) else (if bt361.1 = 1 then (if 0 ≤ bt358.1 then (if bt358.1 ≤ (a1.size : Int) then (some (a1.extract 0 (bt358.1 : Int).toNat, bt361.2.1, bt361.2.2)) else (none)) else (none)) else (some (a1, bt361.2.1, bt361.2.2)))))) = some (r1, r2, r3) := h
 clear h
 obtain ⟨⟨t358, t359, t360⟩, A4, H⟩ := bs H
 try dsimp only at H
 obtain ⟨⟨t361, t362, t363⟩, A5, H⟩ := bs H
 try dsimp only at H
 by_cases c6 : t361 = 0
 ·rw [if_pos c6] at H
  have c6b0 : (t361 == 0) = true := beq_iff_eq.mpr c6
  have c6b1 : (t361 != 0) = false := bne_eq_false_iff_eq.mpr c6
  clear c6
  obtain ⟨c7, H⟩ := gd H
  have c7b0 := eq_true c7
  have c7b1 : decide (0 ≤ t358) = true := decide_eq_true c7
  clear c7
  obtain ⟨c8, H⟩ := gd H
  have c8b0 := eq_true c8
  have c8b1 : decide (t358 ≤ (a1.size : Int)) = true := decide_eq_true c8
  clear c8
  obtain ⟨⟨t364, t365, t366⟩, A9, H⟩ := bs H
  try dsimp only at H
  obtain ⟨c10, H⟩ := gd H
  have c10b0 := eq_true c10
  have c10b1 : decide ((a1.extract 0 (t358 : Int).toNat).size + t364.size ≤ 9223372036854775807) = true := decide_eq_true c10
  try have c10b2 : (9223372036854775807 < (a1.extract 0 (t358 : Int).toNat).size + t364.size) = False := eq_false (Nat.not_lt.2 c10)
  have c10b3 : (9223372036854775807 < t358.toNat + t364.size) = False := eq_false (by have h_ := c10; have h1_ := of_eq_true c8b0; rw [ByteArray.size_extract] at h_; omega)
  have c11b0 := eq_true (dT : 0 ≤ t358)
  have c12b0 := eq_true (dT : t358 ≤ (a1.size : Int))
  obtain ⟨c13, H⟩ := gd H
  have c13b0 := eq_true c13
  have c13b1 : decide (((a1.extract 0 (t358 : Int).toNat) ++ t364).size + (a1.extract (t358 : Int).toNat a1.size).size ≤ 9223372036854775807) = true := decide_eq_true c13
  try have c13b2 : (9223372036854775807 < ((a1.extract 0 (t358 : Int).toNat) ++ t364).size + (a1.extract (t358 : Int).toNat a1.size).size) = False := eq_false (Nat.not_lt.2 c13)
  have c13b3 : (9223372036854775807 < t358.toNat + t364.size + (a1.size - t358.toNat)) = False := eq_false (by have h_ := c13; have h1_ := of_eq_true c8b0; rw [ByteArray.size_append, ByteArray.size_extract, ByteArray.size_extract] at h_; omega)
  simp only [Option.some.injEq, Prod.mk.injEq] at H
  obtain ⟨rfl, rfl, rfl⟩ := H
  go_enter Tryz.func44, Tryz.ntmps44
  try go_wp2_with (first | ((with_reducible refine gate_callee (f := 48) rfl ?_); refine goesL_ (some 12) rfl rfl Tryz.func48 (by kernel_rfl) rfl #[.pointer (some ⟨g, 0, none⟩), .int .i64 (wrap64 ((a1.size : Int) + 1))] rfl mp_ ?_; (with_reducible refine (spec_l1Below.calls g s0_0 s0_1 s0_2 (wrap64 ((a1.size : Int) + 1)) t358 t359 t360 w0 _ ?side1 ?side2 A4.out).mono ?_); (case side1 => exact tI); (case side2 => exact tB); rintro e w14 ⟨rfl, hi, hb, hk⟩; refine ⟨_, rfl, ?_⟩; replace HK := Aside0.mk (KeepBut.trans tK hk (.inl rfl)); replace HB := Aside0.mk (hb); replace HI0 := Aside0.mk (hi)) | ((with_reducible refine gate_callee (f := 48) rfl ?_); refine goesL_ (some 14) rfl rfl Tryz.func48 (by kernel_rfl) rfl #[.pointer (some ⟨g, 0, none⟩), .int .i64 6] rfl mp_ ?_; (with_reducible refine (spec_l1Below.calls g s0_0 t359 t360 6 t361 t362 t363 w0 _ ?side1 ?side2 A5.out).mono ?_); (case side1 => exact tI); (case side2 => exact tB); rintro e w15 ⟨rfl, hi, hb, hk⟩; refine ⟨_, rfl, ?_⟩; replace HK := Aside0.mk (KeepBut.trans tK hk (.inl rfl)); replace HB := Aside0.mk (hb); replace HI0 := Aside0.mk (hi)))
  replace HI0 := Aside0.mk (IsS64.drew HI0.out); replace HK := Aside0.mk (keep_drew HK.out); replace HB := Aside0.mk (below_drew1 HB.out)
  refine start_ (n := 12) (S := fun w' => True) (ds := []) #[false, false, false, false, false, false, false, false, false, false, false, false] (by kernel_rfl) rfl rfl trivial (fun hHeld => ?_); refine with_tabW spec_l1Turned.tab4 spec_l1Turned.bits4 (fun HT_ HW_ => ?_)
  generalize w15.drew = w16 at HI0 HK HB hHeld ⊢
  refine pu_ 0 (some 17) ?_
  refine pu_ 1 (some 18) ?_
  refine pu_ 2 (some 19) ?_
  refine pu_ 3 (some 20) ?_
  refine pu_ 4 (some 21) ?_
  refine pu_ 7 (some 24) ?_
  refine pu_ 8 (some 25) ?_
  refine pu_ 9 (some 26) ?_
  refine one_ (i := 5) (N := some 22) #[true, true, true, true, true, true, false, true, true, true, false, false] rfl rfl (one_of HT_.out (by kernel_rfl)) (by decide) (fun K hK => ?_)
  refine goes_ Tryz.func71 (by kernel_rfl) rfl #[.pointer (some ⟨g, 0, none⟩), .slice A2 l2.length c2] (by rfl) rfl rfl mp_ ?_
  with_reducible refine (spec_l1Pick.calls g s0_0 t362 t363 _ _ l2 t364 t365 t366 w0 _ ?side1 ?side2 ?side3 ?side4 ?side5 A9.out).mono ?_
  (case side1 => exact tI)
  (case side2 => exact tB)
  (case side3 => exact Kd.C_keep (⟨#[]⟩ : ByteArray) HR2.out tK hf2)
  (case side4 => exact HC2.out)
  (case side5 => exact hf2)
  rintro e w17 ⟨rfl, hi, hb, hk⟩
  refine ⟨_, rfl, ?_⟩
  replace HK := Aside0.mk (KeepBut.trans tK hk (.inl rfl)); replace HB := Aside0.mk (hb); replace HI0 := Aside0.mk (hi)
  (try clear hb)
  (try clear hb2)
  (try clear hk)
  (try clear hi)
  refine hK.out _ _ trivial (fun hHeld => ?_)
  clear hK K
  refine norm_ (a' := ?_) ?_ ?_
  rotate_left
  ·show Act.put _ (some 22) _ = _
   simp only [Act.put, List.setIfInBounds_toArray, List.set_cons_zero, List.set_cons_succ, i64_w, i32_w]
   rfl
  refine pu_ 6 (some 23) ?_
  refine pu_ 10 (some 27) ?_
  refine pu_ 11 (some 6) ?_
  refine done_ (done_of HT_.out (by kernel_rfl)) ?_
  try go_wp2
  go_ret
  exact ⟨rE, tI, tB, tK⟩
 ·rw [if_neg c6] at H
  have c6b0 : (t361 == 0) = false := beq_eq_false_iff_ne.mpr c6
  have c6b1 : (t361 != 0) = true := bne_iff_ne.mpr c6
  by_cases c18 : t361 = 1
  ·rw [if_pos c18] at H
   have c18b0 : (t361 == 1) = true := beq_iff_eq.mpr c18
   have c18b1 : (t361 != 1) = false := bne_eq_false_iff_eq.mpr c18
   clear c18
   obtain ⟨c19, H⟩ := gd H
   have c19b0 := eq_true c19
   have c19b1 : decide (0 ≤ t358) = true := decide_eq_true c19
   clear c19
   obtain ⟨c20, H⟩ := gd H
   have c20b0 := eq_true c20
   have c20b1 : decide (t358 ≤ (a1.size : Int)) = true := decide_eq_true c20
   clear c20
   simp only [Option.some.injEq, Prod.mk.injEq] at H
   obtain ⟨rfl, rfl, rfl⟩ := H
   go_enter Tryz.func44, Tryz.ntmps44
   go_wp2_with (first | ((with_reducible refine gate_callee (f := 48) rfl ?_); refine goesL_ (some 12) rfl rfl Tryz.func48 (by kernel_rfl) rfl #[.pointer (some ⟨g, 0, none⟩), .int .i64 (wrap64 ((a1.size : Int) + 1))] rfl mp_ ?_; (with_reducible refine (spec_l1Below.calls g s0_0 s0_1 s0_2 (wrap64 ((a1.size : Int) + 1)) t358 t359 t360 w0 _ ?side1 ?side2 A4.out).mono ?_); (case side1 => exact tI); (case side2 => exact tB); rintro e w21 ⟨rfl, hi, hb, hk⟩; refine ⟨_, rfl, ?_⟩; replace HK := Aside0.mk (KeepBut.trans tK hk (.inl rfl)); replace HB := Aside0.mk (hb); replace HI0 := Aside0.mk (hi)) | ((with_reducible refine gate_callee (f := 48) rfl ?_); refine goesL_ (some 14) rfl rfl Tryz.func48 (by kernel_rfl) rfl #[.pointer (some ⟨g, 0, none⟩), .int .i64 6] rfl mp_ ?_; (with_reducible refine (spec_l1Below.calls g s0_0 t359 t360 6 t361 t362 t363 w0 _ ?side1 ?side2 A5.out).mono ?_); (case side1 => exact tI); (case side2 => exact tB); rintro e w22 ⟨rfl, hi, hb, hk⟩; refine ⟨_, rfl, ?_⟩; replace HK := Aside0.mk (KeepBut.trans tK hk (.inl rfl)); replace HB := Aside0.mk (hb); replace HI0 := Aside0.mk (hi)))
   go_ret
   exact ⟨rE, tI, tB, tK⟩
  ·rw [if_neg c18] at H
   have c18b0 : (t361 == 1) = false := beq_eq_false_iff_ne.mpr c18
   have c18b1 : (t361 != 1) = true := bne_iff_ne.mpr c18
   simp only [Option.some.injEq, Prod.mk.injEq] at H
   obtain ⟨rfl, rfl, rfl⟩ := H
   go_enter Tryz.func44, Tryz.ntmps44
   go_wp2_with (first | ((with_reducible refine gate_callee (f := 48) rfl ?_); refine goesL_ (some 12) rfl rfl Tryz.func48 (by kernel_rfl) rfl #[.pointer (some ⟨g, 0, none⟩), .int .i64 (wrap64 ((a1.size : Int) + 1))] rfl mp_ ?_; (with_reducible refine (spec_l1Below.calls g s0_0 s0_1 s0_2 (wrap64 ((a1.size : Int) + 1)) t358 t359 t360 w0 _ ?side1 ?side2 A4.out).mono ?_); (case side1 => exact tI); (case side2 => exact tB); rintro e w23 ⟨rfl, hi, hb, hk⟩; refine ⟨_, rfl, ?_⟩; replace HK := Aside0.mk (KeepBut.trans tK hk (.inl rfl)); replace HB := Aside0.mk (hb); replace HI0 := Aside0.mk (hi)) | ((with_reducible refine gate_callee (f := 48) rfl ?_); refine goesL_ (some 14) rfl rfl Tryz.func48 (by kernel_rfl) rfl #[.pointer (some ⟨g, 0, none⟩), .int .i64 6] rfl mp_ ?_; (with_reducible refine (spec_l1Below.calls g s0_0 t359 t360 6 t361 t362 t363 w0 _ ?side1 ?side2 A5.out).mono ?_); (case side1 => exact tI); (case side2 => exact tB); rintro e w24 ⟨rfl, hi, hb, hk⟩; refine ⟨_, rfl, ?_⟩; replace HK := Aside0.mk (KeepBut.trans tK hk (.inl rfl)); replace HB := Aside0.mk (hb); replace HI0 := Aside0.mk (hi)))
   go_ret
   exact ⟨rE, tI, tB, tK⟩

/-! ### spec_DrawParseGraph: function 7 -/
def spec_DrawParseGraph.f (k : Nat) (l0 : List Int) : Option (ByteArray) := (spec_l1New.f k l0).bind fun bt367 => ((spec_l7Draw.f k bt367.1 bt367.2.1 bt367.2.2).bind fun bt371 => ((spec_GraphText.f k bt371.1).bind fun t376 => ((spec_l1Turned.f bt367.1 bt371.2.1 bt371.2.2 t376 (([(⟨#[32]⟩ : ByteArray), (⟨#[48]⟩ : ByteArray), (⟨#[49]⟩ : ByteArray), (⟨#[55]⟩ : ByteArray), (⟨#[120]⟩ : ByteArray)] : List ByteArray))).bind fun bt380 => (some bt380.1))))
set_option maxHeartbeats 8000000 in
set_option maxRecDepth 100000 in
theorem spec_DrawParseGraph.calls (k : Nat) (A0 : Option Addr) (c0 : Nat) (l0 : List Int) (r : ByteArray) (w : World) (hr0 : Kd.C (Kd.int .u8) w A0 l0.length l0) (hc0 : l0.length ≤ c0) (h : spec_DrawParseGraph.f k l0 = some r) :
  Calls Tryz.prog 7 #[.slice A0 l0.length c0] w fun e w' => e = .returned (.string r) ∧ Below w.heap.size w w' := by
 have HR0 := Aside0.mk hr0
 have HC0 := Aside0.mk hc0
 clear hr0 hc0
 have HB := Aside0.mk (Below.refl w.heap.size w)
 have H : ((spec_l1New.f k l0).bind fun bt367 => ((spec_l7Draw.f k bt367.1 bt367.2.1 bt367.2.2).bind fun bt371 => ((spec_GraphText.f k bt371.1).bind fun t376 => ((spec_l1Turned.f bt367.1 bt371.2.1 bt371.2.2 t376 (([(⟨#[32]⟩ : ByteArray), (⟨#[48]⟩ : ByteArray), (⟨#[49]⟩ : ByteArray), (⟨#[55]⟩ : ByteArray), (⟨#[120]⟩ : ByteArray)] : List ByteArray))).bind fun bt380 => (some bt380.1))))) = some r := h
 clear h
 obtain ⟨⟨t367, t368, t369⟩, A2, H⟩ := bs H
 try dsimp only at H
 obtain ⟨⟨t371, t374, t375⟩, A3, H⟩ := bs H
 try dsimp only at H
 obtain ⟨t376, A4, H⟩ := bs H
 generalize hy377 : (([(⟨#[32]⟩ : ByteArray), (⟨#[48]⟩ : ByteArray), (⟨#[49]⟩ : ByteArray), (⟨#[55]⟩ : ByteArray), (⟨#[120]⟩ : ByteArray)] : List ByteArray) : List ByteArray) = y377 at H
 have Ny377 := Aside0.mk hy377.symm; clear hy377
 obtain ⟨⟨t380, t381, t382⟩, A5, H⟩ := bs H
 try dsimp only at H
 obtain rfl := Option.some.inj H
 go_enter Tryz.func7, Tryz.ntmps7
 go_wp2_with (first | ((with_reducible refine gate_callee (f := 38) rfl ?_); refine goesL_ (some 5) rfl rfl Tryz.func38 (by kernel_rfl) rfl #[.slice A0 l0.length c0] rfl mp_ ?_; (with_reducible refine (spec_l1New.calls k _ _ l0 t367 t368 t369 w _ ?side1 ?side2 ?side3 A2.out).mono ?_); (case side1 => exact tb); (case side2 => exact HR0.out); (case side3 => exact HC0.out); rintro e w6 ⟨g370, rfl, hi, hb, hb2⟩; refine ⟨_, rfl, ?_⟩; replace HB := Aside0.mk (hb); have HI370 := Aside0.mk (hi)) | ((with_reducible refine gate_callee (f := 45) rfl ?_); refine goesL_ (some 8) rfl rfl Tryz.func45 (by kernel_rfl) rfl #[.pointer (some ⟨g370, 0, none⟩)] rfl mp_ ?_; (with_reducible refine (spec_l7Draw.calls k g370 t367 t368 t369 t371 t374 t375 w _ ?side1 ?side2 A3.out).mono ?_); (case side1 => repeat (first | (with_reducible first | exact HI370.out | apply IsS64.alloc | apply IsS64.drewN | apply IsS64.drew | apply IsS64.set_1 | apply IsS64.set_2) | exact HI370.out)); (case side2 => repeat (first | (with_reducible first | exact HB.out | apply below_alloc | apply pw_below_drewN | apply below_drew1 | refine below_set ?_ (IsS64.ge HI370.out)) | exact HB.out)); rintro e w7 ⟨v372, rfl, ho0, hi, hb, hk⟩; refine ⟨_, rfl, ?_⟩; have HO373 := Aside0.mk (Kd.S_lower ho0 (below_size (by repeat (first | (with_reducible first | exact HB.out | apply below_alloc | apply pw_below_drewN | apply below_drew1 | refine below_set ?_ (IsS64.ge HI370.out)) | exact HB.out)))); replace HB := Aside0.mk (hb); replace HI370 := Aside0.mk (hi); obtain ⟨Ao8, co8, eo8⟩ := Kd.S_slice HO373.out; subst eo8) | ((with_reducible refine gate_callee (f := 33) rfl ?_); refine goesL_ (some 9) rfl rfl Tryz.func33 (by kernel_rfl) rfl #[.slice Ao8 t371.length co8] rfl mp_ ?_; (with_reducible refine (spec_GraphText.calls k _ _ t371 t376 _ ?side1 ?side2 A4.out).mono ?_); (case side1 => exact C_l ((Kd.S_reads' HO373.out).2.2)); (case side2 => exact (Kd.S_reads' HO373.out).2.1); rintro e w9 ⟨rfl, hb⟩; refine ⟨_, rfl, ?_⟩; replace HO373 := Aside0.mk (sB HO373.out hb); replace HB := Aside0.mk (below_step (by repeat (first | (with_reducible first | exact HB.out | apply below_alloc | apply pw_below_drewN | apply below_drew1 | refine below_set ?_ (IsS64.ge HI370.out)) | exact HB.out)) hb); replace HI370 := Aside0.mk (IsS64.below (by repeat (first | (with_reducible first | exact HI370.out | apply IsS64.alloc | apply IsS64.drewN | apply IsS64.drew | apply IsS64.set_1 | apply IsS64.set_2) | exact HI370.out)) hb)) | ((with_reducible refine gate_dst (N := 10) rfl ?_); refine Kd.R_lit Kd.string _ 9 ?hg (N := 10) ?hd (xs := ([(⟨#[32]⟩ : ByteArray), (⟨#[48]⟩ : ByteArray), (⟨#[49]⟩ : ByteArray), (⟨#[55]⟩ : ByteArray), (⟨#[120]⟩ : ByteArray)] : List ByteArray)) (inner := [.string (⟨#[32]⟩ : ByteArray), .string (⟨#[48]⟩ : ByteArray), .string (⟨#[49]⟩ : ByteArray), .string (⟨#[55]⟩ : ByteArray), .string (⟨#[120]⟩ : ByteArray)]) (ok := fun _ => True) (okp := fun _ => True) ?hr ?hp (fun _ hk => hk) trivial (Below.refl _ _) (Nat.le_refl _) (by simp) ?_; (case hd => rfl); (case hg => rfl); (case hr => exact gS); (case hp => exact (Reps.one (show Kd.M Kd.string _ _ _ (⟨#[32]⟩ : ByteArray) [.string (⟨#[32]⟩ : ByteArray)] from rfl) (Reps.one (show Kd.M Kd.string _ _ _ (⟨#[48]⟩ : ByteArray) [.string (⟨#[48]⟩ : ByteArray)] from rfl) (Reps.one (show Kd.M Kd.string _ _ _ (⟨#[49]⟩ : ByteArray) [.string (⟨#[49]⟩ : ByteArray)] from rfl) (Reps.one (show Kd.M Kd.string _ _ _ (⟨#[55]⟩ : ByteArray) [.string (⟨#[55]⟩ : ByteArray)] from rfl) (Reps.one (show Kd.M Kd.string _ _ _ (⟨#[120]⟩ : ByteArray) [.string (⟨#[120]⟩ : ByteArray)] from rfl) (Reps.none _ _))))))); intro v378 w10 ho11 hb hg_ hnew_; clear hg_ hnew_; (first | rw [← Ny377.out] at ho11 | (simp only [Int.reduceToNat] at ho11; rw [← Ny377.out] at ho11)); replace HO373 := Aside0.mk (sB HO373.out hb); have HO379 := Aside0.mk (Kd.R_lower ho11 (below_size (by repeat (first | (with_reducible first | exact HB.out | apply below_alloc | apply pw_below_drewN | apply below_drew1 | refine below_set ?_ (IsS64.ge HI370.out)) | exact HB.out)))); replace HB := Aside0.mk (below_step (by repeat (first | (with_reducible first | exact HB.out | apply below_alloc | apply pw_below_drewN | apply below_drew1 | refine below_set ?_ (IsS64.ge HI370.out)) | exact HB.out)) hb); replace HI370 := Aside0.mk (IsS64.below (by repeat (first | (with_reducible first | exact HI370.out | apply IsS64.alloc | apply IsS64.drewN | apply IsS64.drew | apply IsS64.set_1 | apply IsS64.set_2) | exact HI370.out)) hb); clear hb ho11; obtain ⟨Ao12, co12, eo12⟩ := Kd.R_slice HO379.out; subst eo12) | ((with_reducible refine gate_callee (f := 44) rfl ?_); refine goesL_ (some 11) rfl rfl Tryz.func44 (by kernel_rfl) rfl #[.pointer (some ⟨g370, 0, none⟩), .string t376, .slice Ao12 y377.length co12] rfl mp_ ?_; (with_reducible refine (spec_l1Turned.calls g370 t367 t374 t375 t376 _ _ y377 t380 t381 t382 w _ ?side1 ?side2 ?side3 ?side4 ?side5 A5.out).mono ?_); (case side1 => repeat (first | (with_reducible first | exact HI370.out | apply IsS64.alloc | apply IsS64.drewN | apply IsS64.drew | apply IsS64.set_1 | apply IsS64.set_2) | exact HI370.out)); (case side2 => repeat (first | (with_reducible first | exact HB.out | apply below_alloc | apply pw_below_drewN | apply below_drew1 | refine below_set ?_ (IsS64.ge HI370.out)) | exact HB.out)); (case side3 => exact C_l ((Kd.R_reads' HO379.out).2.2)); (case side4 => exact (Kd.R_reads' HO379.out).2.1); (case side5 => exact far_slice (IsS64.own_ne HI370.out HO379.out (by decide))); rintro e w13 ⟨rfl, hi, hb, hk⟩; refine ⟨_, rfl, ?_⟩; replace HO373 := Aside0.mk (Kd.S_mono (Kd.S_keep (IsS64.apartS (show IsS64 w _ g370 t367 t374 t375 from by repeat (first | (with_reducible first | exact HI370.out | apply IsS64.alloc | apply IsS64.drewN | apply IsS64.drew | apply IsS64.set_1 | apply IsS64.set_2) | exact HI370.out)) (S_l HO373.out) (by decide)) hk (fun _ h => h.2)) (fun _ h => h.1)); replace HO379 := Aside0.mk (Kd.R_mono (Kd.R_keep (IsS64.apart (show IsS64 w _ g370 t367 t374 t375 from by repeat (first | (with_reducible first | exact HI370.out | apply IsS64.alloc | apply IsS64.drewN | apply IsS64.drew | apply IsS64.set_1 | apply IsS64.set_2) | exact HI370.out)) (R_l HO379.out) (by decide)) hk (fun _ h => h.2)) (fun _ h => h.1)); replace HB := Aside0.mk (hb); replace HI370 := Aside0.mk (hi)))
 go_ret
 exact ⟨rE, by repeat (first | (with_reducible first | exact HB.out | apply below_alloc | apply pw_below_drewN | apply below_drew1 | refine below_set ?_ (IsS64.ge HI370.out)) | exact HB.out)⟩

/-! ### impl_SplitByte: function 46 -/
def impl_SplitByte.l0 : Nat → ByteArray → Int → List ByteArray → Int → Int → Int → Option (List ByteArray)
 | 0, _, _, _, _, _, _ => none
 | k + 1, x0, x1, x5, x6, x10, x11 => if x11 < x10 then (if 0 ≤ x11 then (if x11 < (x0.size : Int) then (if (bt x0 x11) = x1 then (if 0 ≤ x6 then (if x6 ≤ x11 then (if x11 ≤ (x0.size : Int) then (if x5.length < 8796093022208 then (impl_SplitByte.l0 k x0 x1 (x5 ++ [x0.extract (x6 : Int).toNat (x11 : Int).toNat]) (wrap64 (x11 + 1)) x10 (wrap64 (x11 + 1))) else (none)) else (none)) else (none)) else (none)) else (impl_SplitByte.l0 k x0 x1 x5 x6 x10 (wrap64 (x11 + 1)))) else (none)) else (none)) else (if 0 ≤ x6 then (if x6 ≤ (x0.size : Int) then (if x5.length < 8796093022208 then (some (x5 ++ [x0.extract (x6 : Int).toNat x0.size])) else (none)) else (none)) else (none))
def impl_SplitByte.f (k : Nat) (a0 : ByteArray) (a1 : Int) : Option (List ByteArray) := impl_SplitByte.l0 k a0 a1 (([] : List ByteArray)) 0 (a0.size : Int) 0
set_option maxHeartbeats 8000000 in
set_option maxRecDepth 100000 in
theorem impl_SplitByte.calls (k : Nat) (a0 : ByteArray) (a1 : Int) (r : List ByteArray) (w : World) (h : impl_SplitByte.f k a0 a1 = some r) :
  Calls Tryz.prog 46 #[.string a0, .int .u8 a1] w fun e w' => ∃ v0_ : Value, e = .returned (v0_) ∧ Kd.R Kd.string 9 w' w.heap.size (fun _ => True) v0_ r ∧ Below w.heap.size w w' := by
 have HB := Aside0.mk (Below.refl w.heap.size w)
 have H : (impl_SplitByte.l0 k a0 a1 (([] : List ByteArray)) 0 (a0.size : Int) 0) = some r := h
 clear h
 generalize hy383 : (([] : List ByteArray) : List ByteArray) = y383 at H
 have Ny383 := Aside0.mk hy383.symm; clear hy383
 have H' := Aside0.mk H
 clear H
 go_enter Tryz.func46, Tryz.ntmps46
 go_wp2_with (first | ((with_reducible refine gate_dst (N := 8) rfl ?_); refine Kd.R_lit Kd.string _ 9 ?hg (N := 8) ?hd (xs := ([] : List ByteArray)) (inner := []) (ok := fun _ => True) (okp := fun _ => True) ?hr ?hp (fun _ hk => hk) trivial (Below.refl _ _) (Nat.le_refl _) (by simp) ?_; (case hd => rfl); (case hg => rfl); (case hr => exact gS); (case hp => exact (Reps.none _ _)); intro v384 w3 ho4 hb hg_ hnew_; clear hg_ hnew_; (first | rw [← Ny383.out] at ho4 | (simp only [Int.reduceToNat] at ho4; rw [← Ny383.out] at ho4)); have HO385 := Aside0.mk (Kd.R_lower ho4 (below_size tb)); replace HB := Aside0.mk (below_step tb hb); clear hb ho4))
 go_loopg [5, 6, 11] k (fun kq v5 v6 v11 w' => ∃ (x5_1 : List ByteArray) (x6_1 : Int) (x11_1 : Int), v6 = .int .i64 x6_1 ∧ v11 = .int .i64 x11_1 ∧ Aside0 (impl_SplitByte.l0 kq a0 a1 x5_1 x6_1 (a0.size : Int) x11_1 = some r) ∧ Aside0 (kq ≤ k) ∧ Aside0 (Kd.R Kd.string 9 w' w.heap.size (fun _ => True) v5 x5_1) ∧ Aside0 (Below w.heap.size w w'))
 case atStart => exact ⟨(y383), (0), (0), rS, rS, H', ⟨Nat.le_refl _⟩, ⟨R_l HO385.out⟩, ⟨tb⟩⟩
 case round =>
  clear H'
  try clear p2
  try clear c4
  obtain ⟨x5_1, x6_1, x11_1, rfl, rfl, HA, HK1, HO_5, HB⟩ := hrel
  cases gk with
  | zero => exact absurd HA.out (by simp [impl_SplitByte.l0])
  | succ k1 =>
   have H := HA.out
   clear HA
   simp only [impl_SplitByte.l0] at H
   obtain ⟨c5b0, H⟩ | ⟨c5b0, H⟩ := gi H
   ·obtain ⟨c6b0, H⟩ := gdt H
    obtain ⟨c7b0, H⟩ := gdt H
    by_cases c9 : (bt a0 x11_1) = a1
    ·rw [if_pos c9] at H
     have c9b0 : ((bt a0 x11_1) == a1) = true := beq_iff_eq.mpr c9
     have c9b1 : ((bt a0 x11_1) != a1) = false := bne_eq_false_iff_eq.mpr c9
     clear c9
     obtain ⟨c10, H⟩ := gd H
     have c10b0 := eq_true c10
     have c10b1 : decide (0 ≤ x6_1) = true := decide_eq_true c10
     clear c10
     obtain ⟨c11, H⟩ := gd H
     have c11b0 := eq_true c11
     have c11b1 : decide (x6_1 ≤ x11_1) = true := decide_eq_true c11
     clear c11
     obtain ⟨c12, H⟩ := gd H
     have c12b0 := eq_true c12
     have c12b1 : decide (x11_1 ≤ (a0.size : Int)) = true := decide_eq_true c12
     clear c12
     obtain ⟨LMc13, H⟩ := gda H
     generalize hy386 : (x5_1 ++ [a0.extract (x6_1 : Int).toNat (x11_1 : Int).toNat] : List ByteArray) = y386 at H
     have Ny386 := Aside0.mk hy386.symm; clear hy386
     have H' := Aside0.mk H
     clear H
     have p8 : 0 ≤ (x11_1 : Int) := dT
     have q8 : x11_1 < (a0.size : Int) := dT
     have hx8 := bt_at a0 x11_1
     replace p8 := eq_true p8
     replace q8 := eq_true q8
     go_wp2_with (first | ((with_reducible refine gate_builtin (b := .append) (xs := #[.tmp 19, .tmp 24]) rfl ?_); at_builtin; refine Kd.R_append Kd.string (w0 := w) w.heap.size rfl (.tmp 19) (.tmp 24) 51 9 (.string ⟨#[]⟩) 16 rfl Tryz.underlying51 info9 rfl (by decide) (by omega) u5 x5_1 (a0.extract (x6_1 : Int).toNat (x11_1 : Int).toNat) [.string (a0.extract (x6_1 : Int).toNat (x11_1 : Int).toNat)] (fun _ => True) (fun _ => False) rfl rfl ?aP (fun _ hk => hk.elim) ?aF ?aO ?aB ?aS ?aL ?_; (case aP => exact rfl); (case aB => exact tb); (case aF => exact (fun _ _ => trivial)); (case aO => exact (R_l HO_5.out)); (case aS => exact (below_size tb)); (case aL => have := LMc13.out; omega); intro v387 w14 ho hb hg hat; rw [← Ny386.out] at ho; replace HB := Aside0.mk (hb); have HO388 := Aside0.mk (ho); clear HO_5; clear ho hb hg hat))
     go_roundg k1
     case measure => exact oK
     case rel => exact ⟨(y386), (wrap64 (x11_1 + 1)), (wrap64 (x11_1 + 1)), rS, rS, H', ⟨oK⟩, ⟨R_l HO388.out⟩, ⟨tb⟩⟩
    ·rw [if_neg c9] at H
     have c9b0 : ((bt a0 x11_1) == a1) = false := beq_eq_false_iff_ne.mpr c9
     have c9b1 : ((bt a0 x11_1) != a1) = true := bne_iff_ne.mpr c9
     have H' := Aside0.mk H
     clear H
     have p8 : 0 ≤ (x11_1 : Int) := dT
     have q8 : x11_1 < (a0.size : Int) := dT
     have hx8 := bt_at a0 x11_1
     replace p8 := eq_true p8
     replace q8 := eq_true q8
     go_wp2
     go_roundg k1
     case measure => exact oK
     case rel => exact ⟨(x5_1), (x6_1), (wrap64 (x11_1 + 1)), rS, rS, H', ⟨oK⟩, ⟨R_l HO_5.out⟩, ⟨tb⟩⟩
   ·by_cases c15 : 0 ≤ x6_1
    ·rw [if_pos c15] at H
     have c15b0 := eq_true c15
     have c15b1 : decide (0 ≤ x6_1) = true := decide_eq_true c15
     clear c15
     obtain ⟨c16, H⟩ := gd H
     have c16b0 := eq_true c16
     have c16b1 : decide (x6_1 ≤ (a0.size : Int)) = true := decide_eq_true c16
     clear c16
     obtain ⟨LMc17, H⟩ := gda H
     generalize hy389 : (x5_1 ++ [a0.extract (x6_1 : Int).toNat a0.size] : List ByteArray) = y389 at H
     have Ny389 := Aside0.mk hy389.symm; clear hy389
     obtain rfl := Option.some.inj H
     go_wp2_with (first | ((with_reducible refine gate_builtin (b := .append) (xs := #[.tmp 29, .tmp 33]) rfl ?_); at_builtin; refine Kd.R_append Kd.string (w0 := w) w.heap.size rfl (.tmp 29) (.tmp 33) 51 9 (.string ⟨#[]⟩) 16 rfl Tryz.underlying51 info9 rfl (by decide) (by omega) u5 x5_1 (a0.extract (x6_1 : Int).toNat a0.size) [.string (a0.extract (x6_1 : Int).toNat a0.size)] (fun _ => True) (fun _ => False) rfl rfl ?aP (fun _ hk => hk.elim) ?aF ?aO ?aB ?aS ?aL ?_; (case aP => exact rfl); (case aB => exact tb); (case aF => exact (fun _ _ => trivial)); (case aO => exact (R_l HO_5.out)); (case aS => exact (below_size tb)); (case aL => have := LMc17.out; omega); intro v390 w18 ho hb hg hat; rw [← Ny389.out] at ho; replace HB := Aside0.mk (hb); have HO391 := Aside0.mk (ho); clear HO_5; clear ho hb hg hat))
     go_ret
     exact ⟨_, rE, R_l HO391.out, tb⟩
    ·rw [if_neg c15] at H
     exact absurd H (by simp)

/-! ### impl_ParseGraph: function 8 -/
def impl_ParseGraph.l0 : Nat → List (List Int) → List ByteArray → Int → Int → Option ((List (List Int)) × Bool)
 | 0, _, _, _, _ => none
 | k + 1, x4, x12, x13, x14 => if x14 < x13 then (if 0 ≤ x14 then (if x14 < (x12.length : Int) then (if ((rdOf ByteArray.empty x12 x14).size : Int) = 2 then (if 0 < ((rdOf ByteArray.empty x12 x14).size : Int) then (if 1 < ((rdOf ByteArray.empty x12 x14).size : Int) then (if x4.length < 5864062014805 then (impl_ParseGraph.l0 k (x4 ++ [(([wrap64 ((wrap64 (bt (rdOf ByteArray.empty x12 x14) 0)) - 48), wrap64 ((wrap64 (bt (rdOf ByteArray.empty x12 x14) 1)) - 48)] : List Int))]) x12 x13 (wrap64 (x14 + 1))) else (none)) else (none)) else (none)) else (some (([] : List (List Int)), false))) else (none)) else (none)) else ((impl_IsGraph.f k x4).bind fun t405 => (if t405 = true then (some (x4, true)) else (some (([] : List (List Int)), false))))
def impl_ParseGraph.f (k : Nat) (a0 : ByteArray) : Option ((List (List Int)) × Bool) := if (a0.size : Int) > 30 then (some (([] : List (List Int)), false)) else ((impl_SplitByte.f k a0 32).bind fun t395 => (impl_ParseGraph.l0 k (([] : List (List Int))) t395 (t395.length : Int) 0))
def impl_ParseGraph.T9 : Bool × List (List Nat × List Nat) := (true, [([], []), ([], []), ([1], [1]), ([2], [2]), ([3], [3]), ([], []), ([5], [5]), ([6], [6]), ([7], [7]), ([4, 8], [4, 8]), ([9], [9]), ([0, 10], [0, 10]), ([11, 11, 0, 1, 2, 3, 4, 5, 6, 7, 8, 9, 10, 11], [0, 11])])
def impl_ParseGraph.B9 : List Nat := [0, 0, 2, 6, 14, 0, 32, 96, 224, 510, 1022, 2047, 4095]
theorem impl_ParseGraph.tab9 : rtab .any (opsOf Tryz.f8 9) = impl_ParseGraph.T9 := by kernel_rfl
theorem impl_ParseGraph.bits9 : waitsOk impl_ParseGraph.T9.2 impl_ParseGraph.B9 = true := by kernel_rfl
set_option maxHeartbeats 8000000 in
set_option maxRecDepth 100000 in
theorem impl_ParseGraph.calls (k : Nat) (a0 : ByteArray) (r1 : List (List Int)) (r2 : Bool) (w : World) (h : impl_ParseGraph.f k a0 = some (r1, r2)) :
  Calls Tryz.prog 8 #[.string a0] w fun e w' => ∃ v0_ : Value, e = .returned (.tuple #[v0_, .bool r2]) ∧ Kd.S (Kd.slice 3 (Kd.int .i64)) 26 w' w.heap.size (fun _ => True) v0_ r1 ∧ Below w.heap.size w w' := by
 have HB := Aside0.mk (Below.refl w.heap.size w)
 have H : (if (a0.size : Int) > 30 then (some (([] : List (List Int)), false)) else ((impl_SplitByte.f k a0 32).bind fun t395 => (impl_ParseGraph.l0 k (([] : List (List Int))) t395 (t395.length : Int) 0))) = some (r1, r2) := h
 clear h
 by_cases c2 : (a0.size : Int) > 30
 ·rw [if_pos c2] at H
  have c2b0 : decide (30 < (a0.size : Int)) = true := decide_eq_true c2
  have c2b1 : decide (30 < a0.size) = true := decide_eq_true (by omega)
  clear c2
  simp only [Option.some.injEq, Prod.mk.injEq] at H
  obtain ⟨rfl, rfl⟩ := H
  go_enter Tryz.func8, Tryz.ntmps8
  go_wp2
  go_ret2
  exact ⟨_, rE, by first | exact Kd.S_nil _ _ _ _ _ | exact Kd.N_nil _ _ _ _ _ | exact Kd.V_nil _ _ _ _ _ | exact Kd.Q_nil _ _ _ _ _ | exact Kd.R_nil _ _ _ _ _, tb⟩
 ·rw [if_neg c2] at H
  have c2b0 : decide (30 < (a0.size : Int)) = false := decide_eq_false c2
  have c2b1 : decide (30 < a0.size) = false := decide_eq_false (by omega)
  clear c2
  generalize hy392 : (([] : List (List Int)) : List (List Int)) = y392 at H
  have Ny392 := Aside0.mk hy392.symm; clear hy392
  obtain ⟨t395, A3, H⟩ := bs H
  have H' := Aside0.mk H
  clear H
  go_enter Tryz.func8, Tryz.ntmps8
  go_wp2_with (first | ((with_reducible refine gate_dst (N := 10) rfl ?_); refine Kd.S_lit (Kd.slice 3 (Kd.int .i64)) _ 26 ?hg (N := 10) ?hd (xs := ([] : List (List Int))) (inner := []) (ok := fun _ => True) (okp := fun _ => True) ?hr ?hp (fun _ hk => hk) trivial (Below.refl _ _) (Nat.le_refl _) (by simp) ?_; (case hd => rfl); (case hg => rfl); (case hr => exact gS); (case hp => exact (Reps.none _ _)); intro v393 w4 ho5 hb hg_ hnew_; clear hg_ hnew_; (first | rw [← Ny392.out] at ho5 | (simp only [Int.reduceToNat] at ho5; rw [← Ny392.out] at ho5)); have HO394 := Aside0.mk (Kd.S_lower ho5 (below_size tb)); replace HB := Aside0.mk (below_step tb hb); clear hb ho5) | ((with_reducible refine gate_callee (f := 46) rfl ?_); refine goesL_ (some 12) rfl rfl Tryz.func46 (by kernel_rfl) rfl #[.string a0, .int .u8 32] rfl mp_ ?_; (with_reducible refine (impl_SplitByte.calls k a0 32 t395 _ A3.out).mono ?_); rintro e w6 ⟨v396, rfl, ho0, hb⟩; refine ⟨_, rfl, ?_⟩; replace HO394 := Aside0.mk (sB HO394.out hb); have HO397 := Aside0.mk (Kd.R_lower ho0 (below_size tb)); replace HB := Aside0.mk (below_step tb hb); obtain ⟨Ao7, co7, eo7⟩ := Kd.R_slice HO397.out; subst eo7))
  go_loopg [4, 14] k (fun kq v4 v14 w' => ∃ (x4_1 : List (List Int)) (x14_1 : Int), v14 = .int .i64 x14_1 ∧ Aside0 (impl_ParseGraph.l0 kq x4_1 t395 (t395.length : Int) x14_1 = some (r1, r2)) ∧ Aside0 (kq ≤ k) ∧ Aside0 (Kd.S (Kd.slice 3 (Kd.int .i64)) 26 w' w.heap.size (fun _ => True) v4 x4_1) ∧ Aside0 (Kd.R Kd.string 9 w' w.heap.size (fun _ => True) (.slice Ao7 t395.length co7) t395) ∧ Aside0 (Below w.heap.size w w'))
  case atStart => exact ⟨(y392), (0), rS, H', ⟨Nat.le_refl _⟩, ⟨S_l HO394.out⟩, ⟨R_l HO397.out⟩, ⟨tb⟩⟩
  case round =>
   clear H'
   try clear c2
   try clear c2b0
   try clear c2b1
   try clear p2
   try clear c4
   obtain ⟨x4_1, x14_1, rfl, HA, HK1, HO_4, HO_12, HB⟩ := hrel
   cases gk with
   | zero => exact absurd HA.out (by simp [impl_ParseGraph.l0])
   | succ k1 =>
    have H := HA.out
    clear HA
    simp only [impl_ParseGraph.l0] at H
    obtain ⟨c8b0, H⟩ | ⟨c8b0, H⟩ := gi H
    ·obtain ⟨c9b0, H⟩ := gdt H
     obtain ⟨c10b0, H⟩ := gdt H
     by_cases c11 : ((rdOf ByteArray.empty t395 x14_1).size : Int) = 2
     ·rw [if_pos c11] at H
      have c11b0 : (((rdOf ByteArray.empty t395 x14_1).size : Int) == 2) = true := beq_iff_eq.mpr c11
      have c11b1 : (((rdOf ByteArray.empty t395 x14_1).size : Int) != 2) = false := bne_eq_false_iff_eq.mpr c11
      clear c11
      obtain ⟨c12, H⟩ := gd H
      have c12b0 : decide (0 < ((rdOf ByteArray.empty t395 x14_1).size : Int)) = true := decide_eq_true c12
      have c12b1 : decide (0 < (rdOf ByteArray.empty t395 x14_1).size) = true := decide_eq_true (by omega)
      clear c12
      obtain ⟨c14, H⟩ := gd H
      have c14b0 : decide (1 < ((rdOf ByteArray.empty t395 x14_1).size : Int)) = true := decide_eq_true c14
      have c14b1 : decide (1 < (rdOf ByteArray.empty t395 x14_1).size) = true := decide_eq_true (by omega)
      clear c14
      generalize hy399 : (([wrap64 ((wrap64 (bt (rdOf ByteArray.empty t395 x14_1) 0)) - 48), wrap64 ((wrap64 (bt (rdOf ByteArray.empty t395 x14_1) 1)) - 48)] : List Int) : List Int) = y399 at H
      have Ny399 := Aside0.mk hy399.symm; clear hy399
      obtain ⟨LMc16, H⟩ := gda H
      generalize hy402 : (x4_1 ++ [y399] : List (List Int)) = y402 at H
      have Ny402 := Aside0.mk hy402.symm; clear hy402
      have H' := Aside0.mk H
      clear H
      have p398 : 0 ≤ (x14_1 : Int) := dT
      have q398 : x14_1 < (t395.length : Int) := dT
      obtain ⟨ad398, e398, hx398_0⟩ := Kd.at_string (Kd.R_reads' HO_12.out).2.2 x14_1 p398 q398
      cases e398
      replace p398 := eq_true p398
      replace q398 := eq_true q398
      try go_wp2
      replace HO_4 := Aside0.mk (Kd.S_drew HO_4.out); replace HO_12 := Aside0.mk (Kd.R_drew HO_12.out); replace HB := Aside0.mk (below_drew1 HB.out)
      have p13 : 0 ≤ (0 : Int) := (by omega)
      have q13 : 0 < (rdOf ByteArray.empty t395 x14_1).size := (by have : (0 : Int) < ((rdOf ByteArray.empty t395 x14_1).size : Int) := dT; omega)
      have hx13 : ∀ h : 0 < (rdOf ByteArray.empty t395 x14_1).size, (((rdOf ByteArray.empty t395 x14_1)[0]'h).toNat : Int) = bt (rdOf ByteArray.empty t395 x14_1) 0 := bt_at (rdOf ByteArray.empty t395 x14_1) 0
      clear p13
      have qi13 : (0 < ((rdOf ByteArray.empty t395 x14_1).size : Int)) = True := eq_true dT
      replace q13 := eq_true q13
      have p15 : 0 ≤ (1 : Int) := (by omega)
      have q15 : 1 < (rdOf ByteArray.empty t395 x14_1).size := (by have : (1 : Int) < ((rdOf ByteArray.empty t395 x14_1).size : Int) := dT; omega)
      have hx15 : ∀ h : 1 < (rdOf ByteArray.empty t395 x14_1).size, (((rdOf ByteArray.empty t395 x14_1)[1]'h).toNat : Int) = bt (rdOf ByteArray.empty t395 x14_1) 1 := bt_at (rdOf ByteArray.empty t395 x14_1) 1
      clear p15
      have qi15 : (1 < ((rdOf ByteArray.empty t395 x14_1).size : Int)) = True := eq_true dT
      replace q15 := eq_true q15
      refine start_ (n := 13) (S := fun w' => True) (ds := []) #[false, false, false, false, false, false, false, false, false, false, false, false, false] (by kernel_rfl) rfl rfl trivial (fun hHeld => ?_); refine with_tabW impl_ParseGraph.tab9 impl_ParseGraph.bits9 (fun HT_ HW_ => ?_)
      generalize wr.drew = w17 at HO_4 HO_12 HB hHeld ⊢
      refine pu_ 0 (some 21) ?_
      refine pu_ 1 (some 22) ?_
      refine pu_ 5 (some 26) ?_
      refine take_ (i := 2) (N := some 23) (v := ?_) (a' := ?_) #[true, true, true, false, false, true, false, false, false, false, false, false, false] rfl rfl (take_ofW HT_.out HW_.out (by kernel_rfl)) (fun _ _ _ h => h) (Or.inl ⟨by rfl, ?_⟩) hHeld ?_ ?_
      rotate_left
      ·intro w' _
       go_simp
       with_reducible rfl
      rotate_left
      ·simp only [Act.put, List.setIfInBounds_toArray, List.set_cons_zero, List.set_cons_succ, i64_w, i32_w]
       rfl
      refine pu_ 3 (some 24) ?_
      refine pu_ 4 (some 25) ?_
      refine take_ (i := 6) (N := some 27) (v := ?_) (a' := ?_) #[true, true, true, true, true, true, true, false, false, false, false, false, false] rfl rfl (take_ofW HT_.out HW_.out (by kernel_rfl)) (fun _ _ _ h => h) (Or.inl ⟨by rfl, ?_⟩) hHeld ?_ ?_
      rotate_left
      ·intro w' _
       go_simp
       with_reducible rfl
      rotate_left
      ·simp only [Act.put, List.setIfInBounds_toArray, List.set_cons_zero, List.set_cons_succ, i64_w, i32_w]
       rfl
      refine pu_ 7 (some 28) ?_
      refine pu_ 8 (some 29) ?_
      refine one_ (i := 9) (N := some 30) #[true, true, true, true, true, true, true, true, true, true, false, false, false] rfl rfl (one_of HT_.out (by kernel_rfl)) (by decide) (fun K hK => ?_)
      refine Kd.R_lit_step (Kd.int .i64) _ 3 ?hg (N := 30) ?hd (xs := ([wrap64 ((wrap64 (bt (rdOf ByteArray.empty t395 x14_1) 0)) - 48), wrap64 ((wrap64 (bt (rdOf ByteArray.empty t395 x14_1) 1)) - 48)] : List Int)) (inner := [.int .i64 (wrap64 ((wrap64 (bt (rdOf ByteArray.empty t395 x14_1) 0)) - 48)), .int .i64 (wrap64 ((wrap64 (bt (rdOf ByteArray.empty t395 x14_1) 1)) - 48))]) (ok := fun _ => True) (okp := fun _ => True) ?hr ?hp (fun _ hk => hk) trivial (Below.refl _ _) (Nat.le_refl _) (by simp) ?_; (case hd => rfl); (case hg => rfl); (case hr => exact gS); (case hp => exact (Reps.one (show Kd.M (Kd.int .i64) _ _ _ (wrap64 ((wrap64 (bt (rdOf ByteArray.empty t395 x14_1) 0)) - 48)) [.int .i64 (wrap64 ((wrap64 (bt (rdOf ByteArray.empty t395 x14_1) 0)) - 48))] from rfl) (Reps.one (show Kd.M (Kd.int .i64) _ _ _ (wrap64 ((wrap64 (bt (rdOf ByteArray.empty t395 x14_1) 1)) - 48)) [.int .i64 (wrap64 ((wrap64 (bt (rdOf ByteArray.empty t395 x14_1) 1)) - 48))] from rfl) (Reps.none _ _))))
      intro v400 w18 ho19 hb hg_ hnew_
      clear hg_ hnew_
      (first | rw [← Ny399.out] at ho19 | (simp only [Int.reduceToNat] at ho19; rw [← Ny399.out] at ho19))
      replace HO_4 := Aside0.mk (Kd.S_elder' (S_l HO_4.out) (Kd.R_base ho19) hb); replace HO_12 := Aside0.mk (rB HO_12.out hb); have HO401 := Aside0.mk (Kd.R_lower ho19 (below_size tb)); replace HB := Aside0.mk (below_step tb hb)
      clear hb ho19
      obtain ⟨Ao21, co21, eo21⟩ := Kd.R_slice HO401.out
      (first | subst eo21 | (injection eo21 with f1_ f2_ f3_; have f4_ := f1_.symm; have f5_ := f3_.symm; clear f1_ f2_ f3_; subst f4_; subst f5_))
      refine hK.out _ _ trivial (fun hHeld => ?_)
      clear hK K
      refine norm_ (a' := ?_) ?_ ?_
      rotate_left
      ·show Act.put _ (some 30) _ = _
       simp only [Act.put, List.setIfInBounds_toArray, List.set_cons_zero, List.set_cons_succ, i64_w, i32_w]
       rfl
      refine one_ (i := 10) (N := some 31) #[true, true, true, true, true, true, true, true, true, true, true, false, false] rfl rfl (one_of HT_.out (by kernel_rfl)) (by decide) (fun K hK => ?_)
      refine value_ (w1 := ?_) (v := ?_) (by rfl) rfl ?_ ?_
      rotate_left 2
      ·go_simp
       constructor
       ·rfl
       ·rfl
      refine hK.out _ _ trivial (fun hHeld => ?_)
      clear hK K
      refine norm_ (a' := ?_) ?_ ?_
      rotate_left
      ·show Act.put _ (some 31) _ = _
       simp only [Act.put, List.setIfInBounds_toArray, List.set_cons_zero, List.set_cons_succ, i64_w, i32_w]
       rfl
      refine one_ (i := 11) (N := some 32) #[true, true, true, true, true, true, true, true, true, true, true, true, false] rfl rfl (one_of HT_.out (by kernel_rfl)) (by decide) (fun K hK => ?_)
      refine Kd.S_append_step (Kd.slice 3 (Kd.int .i64)) (w0 := w) w.heap.size (by rfl) (.tmp 21) (.tmp 31) 24 26 (.slice none 0 0) 24 rfl Tryz.underlying24 info26 rfl (by decide) (by omega) u4 x4_1 y399 [.slice Ao21 y399.length co21] (fun _ => True) (fun k_ => some k_ = (.slice Ao21 y399.length co21 : Value).ownBlock) rfl rfl ?aP (fun k_ hk_ => ((Kd.R_mono (ok' := fun k_ => ((fun _ => True)) k_ ∧ some k_ ≠ (u4 : Value).ownBlock) (Kd.R_apart' (HO401.out) (Kd.S_typed HO_4.out) (by decide)) (fun k_ hk => ⟨trivial, hk.2⟩))).1 k_ hk_.symm) ?aF ?aO ?aB ?aS ?aL ?_
      (case aP => exact Kd.M_row (Kd.R_mono (Kd.R_tight rfl (Kd.R_mono (ok' := fun k_ => ((fun _ => True)) k_ ∧ some k_ ≠ (u4 : Value).ownBlock) (Kd.R_apart' (HO401.out) (Kd.S_typed HO_4.out) (by decide)) (fun k_ hk => ⟨trivial, hk.2⟩))) (fun _ h_ => h_)))
      (case aB => exact tb)
      (case aF => exact (fun _ _ => trivial))
      (case aO => exact (S_l (Kd.S_mono HO_4.out (fun k_ hk => ⟨trivial, fun e_ => hk.2 e_⟩))))
      (case aS => exact (below_size tb))
      (case aL => have := LMc16.out; omega)
      intro v403 w20 ho hb hg hat
      rw [← Ny402.out] at ho
      replace HO_12 := Aside0.mk (Kd.R_over' (R_l HO_12.out) (Kd.S_typed (S_l HO_4.out)) (by decide) hg); replace HB := Aside0.mk (hb); have HO404 := Aside0.mk (ho); clear HO_4 HO401
      clear ho hb hg hat
      refine hK.out _ _ trivial (fun hHeld => ?_)
      clear hK K
      refine norm_ (a' := ?_) ?_ ?_
      rotate_left
      ·show Act.put _ (some 32) _ = _
       simp only [Act.put, List.setIfInBounds_toArray, List.set_cons_zero, List.set_cons_succ, i64_w, i32_w]
       rfl
      refine pu_ 12 (some 4) ?_
      refine done_ (done_of HT_.out (by kernel_rfl)) ?_
      try go_wp2
      go_roundg k1
      case measure => exact oK
      case rel => exact ⟨(y402), (wrap64 (x14_1 + 1)), rS, H', ⟨oK⟩, ⟨S_l HO404.out⟩, ⟨R_l HO_12.out⟩, ⟨tb⟩⟩
     ·rw [if_neg c11] at H
      have c11b0 : (((rdOf ByteArray.empty t395 x14_1).size : Int) == 2) = false := beq_eq_false_iff_ne.mpr c11
      have c11b1 : (((rdOf ByteArray.empty t395 x14_1).size : Int) != 2) = true := bne_iff_ne.mpr c11
      simp only [Option.some.injEq, Prod.mk.injEq] at H
      obtain ⟨rfl, rfl⟩ := H
      have p398 : 0 ≤ (x14_1 : Int) := dT
      have q398 : x14_1 < (t395.length : Int) := dT
      obtain ⟨ad398, e398, hx398_0⟩ := Kd.at_string (Kd.R_reads' HO_12.out).2.2 x14_1 p398 q398
      cases e398
      replace p398 := eq_true p398
      replace q398 := eq_true q398
      go_wp2
      go_ret2
      exact ⟨_, rE, by first | exact Kd.S_nil _ _ _ _ _ | exact Kd.N_nil _ _ _ _ _ | exact Kd.V_nil _ _ _ _ _ | exact Kd.Q_nil _ _ _ _ _ | exact Kd.R_nil _ _ _ _ _, tb⟩
    ·obtain ⟨t405, A22, H⟩ := bs H
     by_cases c23 : t405 = true
     ·subst c23
      rw [if_pos rfl] at H
      simp only [Option.some.injEq, Prod.mk.injEq] at H
      obtain ⟨rfl, rfl⟩ := H
      obtain ⟨Ao24, co24, eo24⟩ := Kd.S_slice HO_4.out
      subst eo24
      go_wp2_with (first | ((with_reducible refine gate_callee (f := 24) rfl ?_); refine goesL_ (some 35) rfl rfl Tryz.func24 (by kernel_rfl) rfl #[.slice Ao24 x4_1.length co24] rfl mp_ ?_; (with_reducible refine (impl_IsGraph.calls k1 _ _ x4_1 true _ ?side1 ?side2 A22.out).mono ?_); (case side1 => exact C_l ((Kd.S_reads' HO_4.out).2.2)); (case side2 => exact (Kd.S_reads' HO_4.out).2.1); rintro e w' ⟨rfl, ⟨nd, rfl⟩⟩; refine ⟨_, rfl, ?_⟩))
      go_ret2
      exact ⟨_, rE, S_l HO_4.out, tb⟩
     ·replace c23 := Bool.eq_false_iff.mpr c23
      subst c23
      rw [if_neg (show ¬ (false = true) by decide)] at H
      simp only [Option.some.injEq, Prod.mk.injEq] at H
      obtain ⟨rfl, rfl⟩ := H
      obtain ⟨Ao25, co25, eo25⟩ := Kd.S_slice HO_4.out
      subst eo25
      go_wp2_with (first | ((with_reducible refine gate_callee (f := 24) rfl ?_); refine goesL_ (some 35) rfl rfl Tryz.func24 (by kernel_rfl) rfl #[.slice Ao25 x4_1.length co25] rfl mp_ ?_; (with_reducible refine (impl_IsGraph.calls k1 _ _ x4_1 false _ ?side1 ?side2 A22.out).mono ?_); (case side1 => exact C_l ((Kd.S_reads' HO_4.out).2.2)); (case side2 => exact (Kd.S_reads' HO_4.out).2.1); rintro e w' ⟨rfl, ⟨nd, rfl⟩⟩; refine ⟨_, rfl, ?_⟩))
      go_ret2
      exact ⟨_, rE, by first | exact Kd.S_nil _ _ _ _ _ | exact Kd.N_nil _ _ _ _ _ | exact Kd.V_nil _ _ _ _ _ | exact Kd.Q_nil _ _ _ _ _ | exact Kd.R_nil _ _ _ _ _, tb⟩

end Go.Proofs.YtafpbabiahjjaaaGreatDoor.PFnGraphs
