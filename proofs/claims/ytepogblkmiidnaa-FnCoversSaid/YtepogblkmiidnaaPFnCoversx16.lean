import Derived.Test.YtepogblkmiidnaaWSpanB
import Derived.WalkSpells
import Derived.Test.YtepogblkmiidnaaPFnCoversx0
import Derived.Test.YtepogblkmiidnaaPFnCoversx2
import Derived.Test.YtepogblkmiidnaaPFnCoversx13
import Derived.Test.YtepogblkmiidnaaPFnCoversx15
namespace Go.Proofs.Ytepogblkmiidnaa.PFnCovers
open Go.RowKit Go.Proofs.YtepogblkmiidnaaW.PrintWords Go.Proofs.YtepogblkmiidnaaW.PrintLast Go.Proofs.YtepogblkmiidnaaW.PrintMore
attribute [local go_sem] max2_int min2_int max_two min_two max_three min_three max_four min_four   -- for this text's walks alone
set_option linter.unusedVariables false
set_option linter.unusedSimpArgs false

/-! ### impl_LiftLengths: function 10 -/
def impl_LiftLengths.f (k : Nat) (l0 : List (List Int)) (l1 : List Int) : Option (List Int) := (impl_ActWord.f k l0 l1).bind fun p => (if p.length = 0 then some [] else impl_lengths.f k p)
set_option maxHeartbeats 8000000 in
set_option maxRecDepth 100000 in
theorem impl_LiftLengths.calls (k : Nat) (A0 : Option Addr) (c0 : Nat) (l0 : List (List Int)) (A1 : Option Addr) (c1 : Nat) (l1 : List Int) (r : List Int) (w : World) (hr0 : Kd.C (Kd.slice 3 (Kd.int .i64)) w A0 l0.length l0) (hc0 : l0.length ≤ c0) (hr1 : Kd.C (Kd.int .i64) w A1 l1.length l1) (hc1 : l1.length ≤ c1) (h : impl_LiftLengths.f k l0 l1 = some r) :
  Calls Try.prog 10 #[.slice A0 l0.length c0, .slice A1 l1.length c1] w fun e w' => ∃ v0_ : Value, e = .returned (v0_) ∧ Kd.R (Kd.int .i64) 3 w' w.heap.size (fun _ => True) v0_ r ∧ Below w.heap.size w w' := by
 have HR0 := Aside0.mk hr0
 have HC0 := Aside0.mk hc0
 clear hr0 hc0
 have HR1 := Aside0.mk hr1
 have HC1 := Aside0.mk hc1
 clear hr1 hc1
 obtain ⟨p, A20, H⟩ := Option.bind_eq_some_iff.mp h
 clear h
 have A2 := Aside0.mk A20
 clear A20
 have H' := Aside0.mk H
 clear H
 have hnil : ∀ (w : World) (a : Option Addr) (n c : Nat), (binOp .eql 30 (.slice a n c) (.slice none 0 0)).run Try.prog w = .ok (.bool a.isNone) w := fun w a n c => Go.Lib.run_eql_slice_nil w 30 3 a n c 0 0 Try.underlying30
 go_enter Try.func10, Try.ntmps10
 go_wp2_with fail
 (go_at_call 9; (with_reducible refine (impl_ActWord.calls k _ _ l0 _ _ l1 p _ HR0.out HC0.out HR1.out HC1.out A2.out).mono ?_))
 rintro e w1 ⟨v, rfl, ho, hb⟩
 rcases (Kd.own_of_R ho).2 with ⟨hv, hp0⟩ | ⟨g, cap, cur, hv, _⟩
 ·obtain rfl : p = [] := List.eq_nil_of_length_eq_zero hp0
  obtain rfl : [] = r := Option.some.inj H'.out
  subst hv
  have HB := Aside0.mk hb
  clear ho hb hp0
  go_wp2
  go_ret
  exact ⟨_, rfl, Kd.R_nil _ _ _ _ _, HB.out⟩
 ·subst hv
  have HO := Aside0.mk ho
  have HB := Aside0.mk hb
  clear ho hb
  obtain ⟨k', HL⟩ : ∃ k', Aside0 (impl_lengths.f k' p = some r) := by
   by_cases hp : p.length = 0
   ·have h2 := H'.out
    rw [if_pos hp] at h2
    obtain rfl := Option.some.inj h2
    obtain rfl : p = [] := List.eq_nil_of_length_eq_zero hp
    exact ⟨5, ⟨by decide +kernel⟩⟩
   ·have h2 := H'.out
    rw [if_neg hp] at h2
    exact ⟨k, ⟨h2⟩⟩
  clear H'
  go_wp2_with fail
  (go_at_call 45; (with_reducible refine (impl_lengths.calls k' _ _ p r _ (Kd.R_reads' HO.out).2.2 (Kd.R_reads' HO.out).2.1 HL.out).mono ?_))
  rintro e w2 ⟨v2, rfl, ho2, hb2⟩
  have HO2 := Aside0.mk ho2
  have HB2 := Aside0.mk hb2
  clear ho2 hb2
  go_wp2
  go_ret
  exact ⟨_, rfl, Kd.R_lower HO2.out HB.out.size, below_step HB.out HB2.out⟩

/-! ### spec_DrawCountActions: function 11 -/
def spec_DrawCountActions.f (k : Nat) (l0 : List Int) : Option (Int × Int) := (spec_l1New.f k l0).bind fun bt507 => ((spec_l1Below.f bt507.1 bt507.2.1 bt507.2.2 4).bind fun bt511 => ((spec_l1Once.f bt507.1 bt511.2.1 bt511.2.2 9).bind fun bt514 => ((spec_l1Bit.f bt514.1).bind fun t517 => ((spec_l1Below.f bt507.1 bt514.2.1 bt514.2.2 4).bind fun bt518 => (some (wrap64 (bt511.1 - t517), bt518.1))))))
set_option maxHeartbeats 8000000 in
set_option maxRecDepth 100000 in
theorem spec_DrawCountActions.calls (k : Nat) (A0 : Option Addr) (c0 : Nat) (l0 : List Int) (r1 : Int) (r2 : Int) (w : World) (hr0 : Kd.C (Kd.int .u8) w A0 l0.length l0) (hc0 : l0.length ≤ c0) (h : spec_DrawCountActions.f k l0 = some (r1, r2)) :
  Calls Try.prog 11 #[.slice A0 l0.length c0] w fun e w' => e = .returned (.tuple #[.int .i64 r1, .int .i64 r2]) ∧ Below w.heap.size w w' := by
 have HR0 := Aside0.mk hr0
 have HC0 := Aside0.mk hc0
 clear hr0 hc0
 have HB := Aside0.mk (Below.refl w.heap.size w)
 have H : ((spec_l1New.f k l0).bind fun bt507 => ((spec_l1Below.f bt507.1 bt507.2.1 bt507.2.2 4).bind fun bt511 => ((spec_l1Once.f bt507.1 bt511.2.1 bt511.2.2 9).bind fun bt514 => ((spec_l1Bit.f bt514.1).bind fun t517 => ((spec_l1Below.f bt507.1 bt514.2.1 bt514.2.2 4).bind fun bt518 => (some (wrap64 (bt511.1 - t517), bt518.1))))))) = some (r1, r2) := h
 clear h
 obtain ⟨⟨t507, t508, t509⟩, A2, H⟩ := bs H
 try dsimp only at H
 obtain ⟨⟨t511, t512, t513⟩, A3, H⟩ := bs H
 try dsimp only at H
 obtain ⟨⟨t514, t515, t516⟩, A4, H⟩ := bs H
 try dsimp only at H
 obtain ⟨t517, A5, H⟩ := bs H
 obtain ⟨⟨t518, t519, t520⟩, A6, H⟩ := bs H
 try dsimp only at H
 simp only [Option.some.injEq, Prod.mk.injEq] at H
 obtain ⟨rfl, rfl⟩ := H
 go_enter Try.func11, Try.ntmps11
 go_wp2_with (first | (refine gL 30 (some 6) Try.func30 #[.slice A0 l0.length c0] ?_; (with_reducible refine (spec_l1New.calls k _ _ l0 t507 t508 t509 w _ ?side1 ?side2 ?side3 A2.out).mono ?_); (case side1 => exact tb); (case side2 => exact HR0.out); (case side3 => exact HC0.out); rintro e w7 ⟨g510, rfl, hi, hb, hb2⟩; refine ⟨_, rfl, ?_⟩; replace HB := Aside0.mk (hb); have HI510 := Aside0.mk (hi)) | (refine gL 46 (some 8) Try.func46 #[.pointer (some ⟨g510, 0, none⟩), .int .i64 4] ?_; (with_reducible refine (spec_l1Below.calls g510 t507 t508 t509 4 t511 t512 t513 w _ ?side1 ?side2 A3.out).mono ?_); (case side1 => repeat (first | (with_reducible first | exact HI510.out | apply IsS77.alloc | apply IsS77.drewN | apply IsS77.drew | apply IsS77.set_1 | apply IsS77.set_2) | exact HI510.out)); (case side2 => repeat (first | (with_reducible first | exact HB.out | apply below_alloc | apply pw_below_drewN | apply below_drew1 | refine below_set ?_ (IsS77.ge HI510.out)) | exact HB.out)); rintro e w8 ⟨rfl, hi, hb, hk⟩; refine ⟨_, rfl, ?_⟩; replace HB := Aside0.mk (hb); replace HI510 := Aside0.mk (hi)) | (refine gL 47 (some 10) Try.func47 #[.pointer (some ⟨g510, 0, none⟩), .int .i64 9] ?_; (with_reducible refine (spec_l1Once.calls g510 t507 t512 t513 9 t514 t515 t516 w _ ?side1 ?side2 A4.out).mono ?_); (case side1 => repeat (first | (with_reducible first | exact HI510.out | apply IsS77.alloc | apply IsS77.drewN | apply IsS77.drew | apply IsS77.set_1 | apply IsS77.set_2) | exact HI510.out)); (case side2 => repeat (first | (with_reducible first | exact HB.out | apply below_alloc | apply pw_below_drewN | apply below_drew1 | refine below_set ?_ (IsS77.ge HI510.out)) | exact HB.out)); rintro e w9 ⟨rfl, hi, hb, hk⟩; refine ⟨_, rfl, ?_⟩; replace HB := Aside0.mk (hb); replace HI510 := Aside0.mk (hi)) | (refine gL 40 (some 11) Try.func40 #[.bool t514] ?_; (with_reducible refine (spec_l1Bit.calls t514 t517 _ A5.out).mono ?_); rintro e w' ⟨rfl, ⟨nd, rfl⟩⟩; refine ⟨_, rfl, ?_⟩) | (refine gL 46 (some 14) Try.func46 #[.pointer (some ⟨g510, 0, none⟩), .int .i64 4] ?_; (with_reducible refine (spec_l1Below.calls g510 t507 t515 t516 4 t518 t519 t520 w _ ?side1 ?side2 A6.out).mono ?_); (case side1 => repeat (first | (with_reducible first | exact HI510.out | apply IsS77.alloc | apply IsS77.drewN | apply IsS77.drew | apply IsS77.set_1 | apply IsS77.set_2) | exact HI510.out)); (case side2 => repeat (first | (with_reducible first | exact HB.out | apply below_alloc | apply pw_below_drewN | apply below_drew1 | refine below_set ?_ (IsS77.ge HI510.out)) | exact HB.out)); rintro e w10 ⟨rfl, hi, hb, hk⟩; refine ⟨_, rfl, ?_⟩; replace HB := Aside0.mk (hb); replace HI510 := Aside0.mk (hi)))
 go_ret2
 exact ⟨rE, by repeat (first | (with_reducible first | exact HB.out | apply below_alloc | apply pw_below_drewN | apply below_drew1 | refine below_set ?_ (IsS77.ge HI510.out)) | exact HB.out)⟩

/-! ### impl_copyOf: function 83 -/
def impl_copyOf.f (l0 : List Int) : Option (List Int) := (some (([] : List Int) : List Int)).bind fun y521 => (if y521.length + l0.length < 17592186044416 then (some (y521 ++ l0)) else (none))
set_option maxHeartbeats 8000000 in
set_option maxRecDepth 100000 in
theorem impl_copyOf.calls (A0 : Option Addr) (c0 : Nat) (l0 : List Int) (r : List Int) (w : World) (hr0 : Kd.C (Kd.int .i64) w A0 l0.length l0) (hc0 : l0.length ≤ c0) (h : impl_copyOf.f l0 = some r) :
  Calls Try.prog 83 #[.slice A0 l0.length c0] w fun e w' => ∃ v0_ : Value, e = .returned (v0_) ∧ Kd.R (Kd.int .i64) 3 w' w.heap.size (fun _ => True) v0_ r ∧ Below w.heap.size w w' := by
 have HR0 := Aside0.mk hr0
 have HC0 := Aside0.mk hc0
 clear hr0 hc0
 have HB := Aside0.mk (Below.refl w.heap.size w)
 have H : ((some (([] : List Int) : List Int)).bind fun y521 => (if y521.length + l0.length < 17592186044416 then (some (y521 ++ l0)) else (none))) = some r := h
 clear h
 obtain ⟨y521, Ny521, H⟩ := bn H
 by_cases c2 : y521.length + l0.length < 17592186044416
 ·rw [if_pos c2] at H
  have LMc2 := Aside0.mk c2
  clear c2
  generalize hy524 : (y521 ++ l0 : List Int) = y524 at H
  have Ny524 := Aside0.mk hy524.symm; clear hy524
  obtain rfl := Option.some.inj H
  go_enter Try.func83, Try.ntmps83
  go_wp2_with (first | ((with_reducible refine gate_dst (N := 3) rfl ?_); refine Kd.R_lit (Kd.int .i64) _ 3 ?hg (N := 3) ?hd (xs := ([] : List Int)) (inner := []) (ok := fun _ => True) (okp := fun _ => True) ?hr ?hp (fun _ hk => hk) trivial (Below.refl _ _) (Nat.le_refl _) (by simp) ?_; (case hd => rfl); (case hg => rfl); (case hr => exact gS); (case hp => exact (Reps.none _ _)); intro v522 w3 ho4 hb hg_ hnew_; clear hg_ hnew_; (first | rw [← Ny521.out] at ho4 | (simp only [Int.reduceToNat] at ho4; rw [← Ny521.out] at ho4)); have HO523 := Aside0.mk (Kd.R_lower ho4 (below_size tb)); replace HB := Aside0.mk (below_step tb hb); clear hb ho4) | ((with_reducible refine gate_builtin (b := .append) (xs := #[.tmp 3, .tmp 4]) rfl ?_); at_builtin; refine Kd.R_append_rows (Kd.int .i64) (w0 := w) w.heap.size rfl (.tmp 3) (.tmp 4) 30 3 (.int .i64 0) 8 rfl Try.underlying30 info3 rfl (by decide) (by omega) v522 y521 l0 _ _ _ (fun _ => True) (fun _ => False) rfl rfl ?aO ?aR (fun _ _ h => h) (fun _ h => h.elim) ?aF ?aB ?aS ?aL ?_; (case aR => exact C_l (Kd.C_below HR0.out HB.out)); (case aB => exact tb); (case aF => exact (fun _ _ => trivial)); (case aO => exact (R_l HO523.out)); (case aS => exact (below_size tb)); (case aL => have := LMc2.out; omega); intro v525 w5 ho hb hg hat; rw [← Ny524.out] at ho; replace HB := Aside0.mk (hb); have HO526 := Aside0.mk (ho); clear HO523; clear ho hb hg hat))
  go_ret
  exact ⟨_, rE, R_l HO526.out, tb⟩
 ·rw [if_neg c2] at H
  exact absurd H (by simp)

-- NOT PRINTED: function 63 (impl_orders)

end Go.Proofs.Ytepogblkmiidnaa.PFnCovers
