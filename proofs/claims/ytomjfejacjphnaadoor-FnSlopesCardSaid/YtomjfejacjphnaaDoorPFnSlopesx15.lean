-- written by a copy of the print that takes contracts by hand (stubprint.py)
import Derived.Test.YtomjfejacjphnaaDoorWSpanB
import Derived.Test.YtomjfejacjphnaaDoorPFnSlopesx0
import Derived.Test.YtomjfejacjphnaaDoorPFnSlopesx13
import Derived.Test.YtomjfejacjphnaaDoorPFnSlopesx14
namespace Go.Proofs.YtomjfejacjphnaaDoor.PFnSlopes
open Go.RowKit Go.Proofs.YtomjfejacjphnaaDoorW.PrintWords Go.Proofs.YtomjfejacjphnaaDoorW.PrintLast Go.Proofs.YtomjfejacjphnaaDoorW.PrintMore
attribute [local go_sem] max2_int min2_int max_two min_two max_three min_three max_four min_four   -- for this text's walks alone
set_option linter.unusedVariables false
set_option linter.unusedSimpArgs false

/-! ### spec_l2Core: function 53 -/
def spec_l2Core.l0 : Nat → List Int → Option (List Int)
  | 0, _ => none
  | k + 1, xs => if 2 ≤ (xs.length : Int) ∧ rd xs 0 = wrap64 (-(rd xs ((xs.length : Int) - 1))) then spec_l2Core.l0 k ((xs.take (xs.length - 1)).drop 1) else some xs
def spec_l2Core.f (k : Nat) (l0 : List Int) : Option (List Int) := (spec_l2Reduce.f k l0).bind fun xs => (spec_l2Core.l0 k xs).bind fun ys => if ys.length < 1000000 ∧ xs.length < 1000000 then some ys else none
set_option maxHeartbeats 8000000 in
set_option maxRecDepth 100000 in
theorem spec_l2Core.calls (k : Nat) (A0 : Option Addr) (c0 : Nat) (l0 : List Int) (r : List Int) (w : World) (hr0 : Kd.C (Kd.int .i64) w A0 l0.length l0) (hc0 : l0.length ≤ c0) (h : spec_l2Core.f k l0 = some r) :
    Calls Tryd.prog 53 #[.slice A0 l0.length c0] w fun e w' => ∃ v0_ : Value, e = .returned (v0_) ∧ Kd.R (Kd.int .i64) 3 w' w.heap.size (fun _ => True) v0_ r ∧ Below w.heap.size w w' := by
  have HR0 := Aside0.mk hr0
  have HC0 := Aside0.mk hc0
  unfold spec_l2Core.f at h
  obtain ⟨xs, a1, h⟩ := Option.bind_eq_some_iff.mp h
  obtain ⟨ys, a2, h⟩ := Option.bind_eq_some_iff.mp h
  by_cases hc : ys.length < 1000000 ∧ xs.length < 1000000
  · rw [if_pos hc] at h
    obtain rfl := Option.some.inj h
    have A1 := Aside0.mk a1
    have A2 := Aside0.mk a2
    have LM := Aside0.mk hc
    clear hr0 hc0 h a1 a2 hc
    go_enter Tryd.func53, Tryd.ntmps53
    go_wp2_with fail
    (go_at_call 61; (with_reducible refine (spec_l2Reduce.calls k A0 c0 l0 xs _ HR0.out HC0.out A1.out).mono ?_))
    rintro e w1 ⟨v1, rfl, ho, hb⟩
    obtain ⟨Ax, cx, rfl⟩ := Kd.R_slice ho
    have HX := Aside0.mk (Kd.R_reads' ho).2.2
    have HXC := Aside0.mk (Kd.R_reads' ho).2.1
    have HB := Aside0.mk hb
    clear ho hb
    go_wp2
    go_loopg [3] k (fun kq v3 w' => ∃ (zs : List Int) (A : Option Addr) (c : Nat), v3 = .slice A zs.length c ∧ Aside0 (spec_l2Core.l0 kq zs = some ys) ∧ Aside0 (kq ≤ k) ∧ Aside0 (Kd.C (Kd.int .i64) w' A zs.length zs) ∧ Aside0 (zs.length ≤ c) ∧ Aside0 (zs.length < 1000000) ∧ Aside0 (Below w.heap.size w w'))
    case atStart => exact ⟨xs, Ax, cx, rfl, A2, ⟨Nat.le_refl _⟩, HX, HXC, ⟨LM.out.2⟩, HB⟩
    case round =>
      clear A2 HX HXC HB
      obtain ⟨zs, A, c, rfl, HA, HK1, HZ, HC, HL, HB⟩ := hrel
      cases gk with
      | zero => exact absurd HA.out (by simp [spec_l2Core.l0])
      | succ k1 =>
        have H := HA.out
        clear HA
        rw [spec_l2Core.l0] at H
        by_cases c1 : 2 ≤ (zs.length : Int)
        · have c1b0 : decide (2 ≤ (zs.length : Int)) = true := decide_eq_true c1
          have p0 : 0 ≤ (0 : Int) := by omega
          have q0 : (0 : Int) < (zs.length : Int) := by omega
          obtain ⟨ad, eA, hx0⟩ := Kd.at_int HZ.out 0 p0 q0
          subst eA
          have ew : wrap64 ((zs.length : Int) - 1) = (zs.length : Int) - 1 := by have := HL.out; unfold wrap64; omega
          have p1 : 0 ≤ wrap64 ((zs.length : Int) - 1) := by rw [ew]; omega
          have q1 : wrap64 ((zs.length : Int) - 1) < (zs.length : Int) := by rw [ew]; omega
          obtain ⟨ad', eA', hx1⟩ := Kd.at_int HZ.out (wrap64 ((zs.length : Int) - 1)) p1 q1
          obtain rfl : ad = ad' := Option.some.inj eA'
          have hw0 := hx0
          (try rw [show ((0 : Int)).toNat = 0 from rfl, Addr.add_zero'] at hw0)
          have qi0 : (0 < zs.length) = True := eq_true (by omega)
          by_cases c2 : rd zs 0 = wrap64 (-(rd zs (wrap64 ((zs.length : Int) - 1))))
          · rw [if_pos ⟨c1, by rw [ew] at c2; exact c2⟩] at H
            have c2b0 : (rd zs 0 == wrap64 (-(rd zs (wrap64 ((zs.length : Int) - 1))))) = true := beq_iff_eq.mpr c2
            have H' := Aside0.mk H
            have HN := Aside0.mk c1
            have HW := Aside0.mk ew
            replace p0 := eq_true p0
            replace q0 := eq_true q0
            replace p1 := eq_true p1
            replace q1 := eq_true q1
            have f1 : (1 ≤ wrap64 ((zs.length : Int) - 1)) = True := eq_true (by rw [ew]; omega)
            have f2 : (wrap64 ((zs.length : Int) - 1) ≤ (c : Int)) = True := eq_true (by rw [ew]; have := HC.out; omega)
            have f3 : (c = 1) = False := eq_false (by have := HC.out; omega)
            clear c1 c2 H eA' ew
            go_wp2
            go_quiet (fail)
            try go_wp2
            go_roundg k1
            case measure => exact oK
            case rel =>
              have hn := HN.out
              have hl := HL.out
              have hc := HC.out
              have e1 : (wrap64 ((zs.length : Int) - 1)).toNat = zs.length - 1 := by rw [HW.out]; omega
              have e2 : ((zs.take (zs.length - 1)).drop 1).length = (wrap64 ((zs.length : Int) - 1)).toNat - 1 := by rw [List.length_drop, List.length_take, e1]; omega
              have C1 := Kd.C_take HZ.out (show zs.length - 1 ≤ zs.length by omega)
              have C2 := Kd.C_drop (k := Kd.int .i64) (m := 1) (c := c) C1 (by rw [List.length_take]; omega) (by rw [List.length_take]; omega)
              rw [if_neg (by omega)] at C2
              refine ⟨(zs.take (zs.length - 1)).drop 1, _, c - 1, by rw [e2], H', ⟨oK⟩, ⟨?_⟩, ⟨by rw [e2, e1]; omega⟩, ⟨by rw [e2, e1]; omega⟩, ⟨tb⟩⟩
              exact Kd.C_drewN C2 _
          · rw [if_neg (fun h => c2 (by rw [ew]; exact h.2))] at H
            have c2b0 : (rd zs 0 == wrap64 (-(rd zs (wrap64 ((zs.length : Int) - 1))))) = false := beq_eq_false_iff_ne.mpr c2
            obtain rfl := Option.some.inj H
            have HN := Aside0.mk c1
            replace p0 := eq_true p0
            replace q0 := eq_true q0
            replace p1 := eq_true p1
            replace q1 := eq_true q1
            clear c1 c2 H eA' ew
            go_wp2
            go_quiet (fail)
            go_wp2_with (first | ((with_reducible refine gate_dst (N := 27) rfl ?_); refine Kd.R_lit (Kd.int .i64) _ 3 ?hg (N := 27) ?hd (xs := ([] : List Int)) (inner := []) (ok := fun _ => True) (okp := fun _ => True) ?hr ?hp (fun _ hk => hk) trivial (Below.refl _ _) (Nat.le_refl _) (by simp) ?_; (case hd => rfl); (case hg => rfl); (case hr => exact gS); (case hp => exact (Reps.none _ _)); intro v2 w2 ho4 hb hg_ hnew_; clear hg_ hnew_; have HZ2 := Aside0.mk (Kd.C_below (by repeat (first | exact HZ.out | (with_reducible refine Kd.C_drewN ?_ _) | (with_reducible refine Kd.C_drew ?_))) hb); have HO := Aside0.mk (Kd.R_lower ho4 (below_size tb)); have HB2 := Aside0.mk (below_step tb hb); clear hb ho4) | ((with_reducible refine gate_builtin (b := .append) (xs := #[.tmp 27, .tmp 28]) rfl ?_); at_builtin; refine Kd.R_append_rows (Kd.int .i64) (w0 := w) w.heap.size rfl (.tmp 27) (.tmp 28) 39 3 (.int .i64 0) 8 rfl Tryd.underlying39 info3 rfl (by decide) (by omega) v2 [] zs _ _ _ (fun _ => True) (fun _ => False) rfl rfl ?aO ?aR (fun _ _ h => h) (fun _ h => h.elim) ?aF ?aB ?aS ?aL ?_; (case aR => exact C_l HZ2.out); (case aB => exact (by repeat (first | (with_reducible first | exact HB2.out | apply below_alloc | apply pw_below_drewN | apply below_drew1) | exact HB2.out))); (case aF => exact (fun _ _ => trivial)); (case aO => exact (R_l HO.out)); (case aS => exact (below_size (by repeat (first | (with_reducible first | exact HB2.out | apply below_alloc | apply pw_below_drewN | apply below_drew1) | exact HB2.out)))); (case aL => have := HL.out; simp; omega); intro v3 w3 ho hb hg hat; rw [List.nil_append] at ho; have HB3 := Aside0.mk hb; have HO3 := Aside0.mk ho; clear ho hb hg hat))
            go_ret
            exact ⟨_, rfl, HO3.out, HB3.out⟩
        · have c1b0 : decide (2 ≤ (zs.length : Int)) = false := decide_eq_false c1
          rw [if_neg (fun h => c1 h.1)] at H
          obtain rfl := Option.some.inj H
          go_wp2
          go_quiet (fail)
          go_wp2_with (first | ((with_reducible refine gate_dst (N := 27) rfl ?_); refine Kd.R_lit (Kd.int .i64) _ 3 ?hg (N := 27) ?hd (xs := ([] : List Int)) (inner := []) (ok := fun _ => True) (okp := fun _ => True) ?hr ?hp (fun _ hk => hk) trivial (Below.refl _ _) (Nat.le_refl _) (by simp) ?_; (case hd => rfl); (case hg => rfl); (case hr => exact gS); (case hp => exact (Reps.none _ _)); intro v2 w2 ho4 hb hg_ hnew_; clear hg_ hnew_; have HZ2 := Aside0.mk (Kd.C_below (by repeat (first | exact HZ.out | (with_reducible refine Kd.C_drewN ?_ _) | (with_reducible refine Kd.C_drew ?_))) hb); have HO := Aside0.mk (Kd.R_lower ho4 (below_size tb)); have HB2 := Aside0.mk (below_step tb hb); clear hb ho4) | ((with_reducible refine gate_builtin (b := .append) (xs := #[.tmp 27, .tmp 28]) rfl ?_); at_builtin; refine Kd.R_append_rows (Kd.int .i64) (w0 := w) w.heap.size rfl (.tmp 27) (.tmp 28) 39 3 (.int .i64 0) 8 rfl Tryd.underlying39 info3 rfl (by decide) (by omega) v2 [] zs _ _ _ (fun _ => True) (fun _ => False) rfl rfl ?aO ?aR (fun _ _ h => h) (fun _ h => h.elim) ?aF ?aB ?aS ?aL ?_; (case aR => exact C_l HZ2.out); (case aB => exact (by repeat (first | (with_reducible first | exact HB2.out | apply below_alloc | apply pw_below_drewN | apply below_drew1) | exact HB2.out))); (case aF => exact (fun _ _ => trivial)); (case aO => exact (R_l HO.out)); (case aS => exact (below_size (by repeat (first | (with_reducible first | exact HB2.out | apply below_alloc | apply pw_below_drewN | apply below_drew1) | exact HB2.out)))); (case aL => have := HL.out; simp; omega); intro v3 w3 ho hb hg hat; rw [List.nil_append] at ho; have HB3 := Aside0.mk hb; have HO3 := Aside0.mk ho; clear ho hb hg hat))
          go_ret
          exact ⟨_, rfl, HO3.out, HB3.out⟩
  · rw [if_neg hc] at h; cases h

/-! ### spec_CoreWord: function 29 -/
def spec_CoreWord.f (k : Nat) (l0 : List Int) : Option (List Int) := (spec_IsWord.f k l0).bind fun t504 => (if t504 = true then ((spec_l2Core.f k l0).bind fun t505 => (some t505)) else (some (([] : List Int))))
set_option maxHeartbeats 8000000 in
set_option maxRecDepth 100000 in
theorem spec_CoreWord.calls (k : Nat) (A0 : Option Addr) (c0 : Nat) (l0 : List Int) (r : List Int) (w : World) (hr0 : Kd.C (Kd.int .i64) w A0 l0.length l0) (hc0 : l0.length ≤ c0) (h : spec_CoreWord.f k l0 = some r) :
    Calls Tryd.prog 29 #[.slice A0 l0.length c0] w fun e w' => ∃ v0_ : Value, e = .returned (v0_) ∧ Kd.R (Kd.int .i64) 3 w' w.heap.size (fun _ => True) v0_ r ∧ Below w.heap.size w w' := by
  have HR0 := Aside0.mk hr0
  have HC0 := Aside0.mk hc0
  clear hr0 hc0
  have HB := Aside0.mk (Below.refl w.heap.size w)
  have H : ((spec_IsWord.f k l0).bind fun t504 => (if t504 = true then ((spec_l2Core.f k l0).bind fun t505 => (some t505)) else (some (([] : List Int))))) = some r := h
  clear h
  obtain ⟨t504, A2, H⟩ := bs H
  by_cases c3 : t504 = true
  · subst c3
    rw [if_pos rfl] at H
    obtain ⟨t505, A4, H⟩ := bs H
    obtain rfl := Option.some.inj H
    go_enter Tryd.func29, Tryd.ntmps29
    go_wp2_with (first | ((with_reducible refine gate_callee (f := 52) rfl ?_); refine goesL_ (some 4) rfl rfl Tryd.func52 (by kernel_rfl) rfl #[.slice A0 l0.length c0] rfl mp_ ?_; (with_reducible refine (spec_IsWord.calls k _ _ l0 true _ ?side1 ?side2 A2.out).mono ?_); (case side1 => exact C_l HR0.out); (case side2 => exact HC0.out); rintro e w' ⟨rfl, ⟨nd, rfl⟩⟩; refine ⟨_, rfl, ?_⟩) | ((with_reducible refine gate_callee (f := 53) rfl ?_); refine goesL_ (some 8) rfl rfl Tryd.func53 (by kernel_rfl) rfl #[.slice A0 l0.length c0] rfl mp_ ?_; (with_reducible refine (spec_l2Core.calls k _ _ l0 t505 _ ?side1 ?side2 A4.out).mono ?_); (case side1 => exact C_l HR0.out); (case side2 => exact HC0.out); rintro e w5 ⟨v506, rfl, ho0, hb⟩; refine ⟨_, rfl, ?_⟩; have HO507 := Aside0.mk (Kd.R_lower ho0 (below_size tb)); replace HB := Aside0.mk (below_step tb hb)))
    go_ret
    exact ⟨_, rE, R_l HO507.out, tb⟩
  · replace c3 := Bool.eq_false_iff.mpr c3
    subst c3
    rw [if_neg (show ¬ (false = true) by decide)] at H
    generalize hy508 : (([] : List Int) : List Int) = y508 at H
    have Ny508 := Aside0.mk hy508.symm; clear hy508
    obtain rfl := Option.some.inj H
    go_enter Tryd.func29, Tryd.ntmps29
    go_wp2_with (first | ((with_reducible refine gate_callee (f := 52) rfl ?_); refine goesL_ (some 4) rfl rfl Tryd.func52 (by kernel_rfl) rfl #[.slice A0 l0.length c0] rfl mp_ ?_; (with_reducible refine (spec_IsWord.calls k _ _ l0 false _ ?side1 ?side2 A2.out).mono ?_); (case side1 => exact C_l HR0.out); (case side2 => exact HC0.out); rintro e w' ⟨rfl, ⟨nd, rfl⟩⟩; refine ⟨_, rfl, ?_⟩) | ((with_reducible refine gate_dst (N := 6) rfl ?_); refine Kd.R_lit (Kd.int .i64) _ 3 ?hg (N := 6) ?hd (xs := ([] : List Int)) (inner := []) (ok := fun _ => True) (okp := fun _ => True) ?hr ?hp (fun _ hk => hk) trivial (Below.refl _ _) (Nat.le_refl _) (by simp) ?_; (case hd => rfl); (case hg => rfl); (case hr => exact gS); (case hp => exact (Reps.none _ _)); intro v509 w6 ho7 hb hg_ hnew_; clear hg_ hnew_; (first | rw [← Ny508.out] at ho7 | (simp only [Int.reduceToNat] at ho7; rw [← Ny508.out] at ho7)); have HO510 := Aside0.mk (Kd.R_lower ho7 (below_size tb)); replace HB := Aside0.mk (below_step tb hb); clear hb ho7))
    go_ret
    exact ⟨_, rE, R_l HO510.out, tb⟩

end Go.Proofs.YtomjfejacjphnaaDoor.PFnSlopes
