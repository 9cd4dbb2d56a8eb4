import Derived.Test.YtafpbabiahjjaaaGreatDoorWSpanB
import Derived.Test.YtafpbabiahjjaaaGreatDoorPFnGraphsx0
import Derived.Test.YtafpbabiahjjaaaGreatDoorPFnGraphsx1
namespace Go.Proofs.YtafpbabiahjjaaaGreatDoor.PFnGraphs
open Go.RowKit Go.Proofs.YtafpbabiahjjaaaGreatDoorW.PrintWords Go.Proofs.YtafpbabiahjjaaaGreatDoorW.PrintLast Go.Proofs.YtafpbabiahjjaaaGreatDoorW.PrintMore
attribute [local go_sem] max2_int min2_int max_two min_two max_three min_three max_four min_four   -- for this text's walks alone
set_option linter.unusedVariables false
set_option linter.unusedSimpArgs false

/-! ### spec_IsGraph: function 25 -/
def spec_IsGraph.l0 : Nat → List (List Int) → Int → Option (Bool)
 | 0, _, _ => none
 | k + 1, x0, x3 => if x3 < (x0.length : Int) then (if 0 ≤ x3 then (if ((rd_L2 x0 x3).length : Int) = 2 then (if 0 < ((rd_L2 x0 x3).length : Int) then ((spec_l1In.f (rd (rd_L2 x0 x3) 0) 0 6).bind fun t105 => (if t105 = true then (if 1 < ((rd_L2 x0 x3).length : Int) then ((spec_l1In.f (rd (rd_L2 x0 x3) 1) 0 6).bind fun t108 => (if t108 = true then (if (rd (rd_L2 x0 x3) 0) = (rd (rd_L2 x0 x3) 1) then (some false) else (spec_IsGraph.l0 k x0 (wrap64 (x3 + 1)))) else (some false))) else (none)) else (some false))) else (none)) else (some false)) else (none)) else ((spec_l1In.f (x0.length : Int) 1 10).bind fun t101 => (some t101))
def spec_IsGraph.f (k : Nat) (l0 : List (List Int)) : Option (Bool) := spec_IsGraph.l0 k l0 0
theorem spec_IsGraph.mono_l : ∀ k, (∀ y0 y1, LeO (spec_IsGraph.l0 k y0 y1) (spec_IsGraph.l0 (k + 1) y0 y1))
 | 0 => fun _ _ r h => by simp [spec_IsGraph.l0] at h
 | k + 1 => by
  have ih0 := spec_IsGraph.mono_l k
  ·intro y0 y1
   unfold spec_IsGraph.l0
   exact mM1 ih0
theorem spec_IsGraph.mono : ∀ a0 k, LeO (spec_IsGraph.f k a0) (spec_IsGraph.f (k + 1) a0) := by
 intro a0 k
 have ih0 := spec_IsGraph.mono_l k
 unfold spec_IsGraph.f
 exact mM1 ih0
set_option maxHeartbeats 4000000 in
set_option maxRecDepth 100000 in
theorem spec_IsGraph.calls (k : Nat) (A0 : Option Addr) (c0 : Nat) (l0 : List (List Int)) (r : Bool) (w : World) (hr0 : Kd.C (Kd.slice 3 (Kd.int .i64)) w A0 l0.length l0) (hc0 : l0.length ≤ c0) (h : spec_IsGraph.f k l0 = some r) :
  Calls Tryz.prog 25 #[.slice A0 l0.length c0] w fun e w' => e = .returned (.bool r) ∧ Below w.heap.size w w' := by
 have HR0 := Aside0.mk hr0
 have HC0 := Aside0.mk hc0
 clear hr0 hc0
 have H' := Aside0.mk (show spec_IsGraph.l0 k l0 0 = some r from h)
 clear h
 go_enter Tryz.func25, Tryz.ntmps25
 go_wp2
 go_loopg [3] k (fun kq v3 w' => ∃ (x3_1 : Int), v3 = .int .i64 x3_1 ∧ Aside0 (spec_IsGraph.l0 kq l0 x3_1 = some r) ∧ Aside0 (kq ≤ k) ∧ Drawn0 w w')
 case atStart => exact ⟨0, rfl, H', ⟨Nat.le_refl _⟩, Drawn0.refl _⟩
 case round =>
  clear H'
  obtain ⟨x3_1, rfl, HA, HK1, HD0⟩ := hrel
  have HD := Aside0.mk HD0
  clear HD0
  cases gk with
  | zero => exact absurd HA.out (by simp [spec_IsGraph.l0])
  | succ k1 =>
   have H := HA.out
   clear HA
   simp only [spec_IsGraph.l0] at H
   by_cases c2 : x3_1 < (l0.length : Int)
   ·rw [if_pos c2] at H
    have c2b0 : decide (x3_1 < (l0.length : Int)) = true := decide_eq_true c2
    obtain ⟨c3, H⟩ := gd H
    have c3b0 : decide (0 ≤ x3_1) = true := decide_eq_true c3
    obtain ⟨ad, A, c, e0, hx, hl, hi⟩ := at_L2 HR0.out x3_1 c3 c2
    subst e0
    replace hx := (HD.out.below.cell (World.block_lt_of_cell? w _ hx)).trans hx
    have HI := Aside0.mk hi
    have HL := Aside0.mk hl
    clear hi hl
    generalize hrow : rd_L2 l0 x3_1 = row at *
    have HROW := Aside0.mk hrow
    clear hrow
    by_cases c4 : (row.length : Int) = 2
    ·rw [if_pos c4] at H
     have c4b0 : ((row.length : Int) == 2) = true := beq_iff_eq.mpr c4
     have c4b1 : ((row.length : Int) != 2) = false := bne_eq_false_iff_eq.mpr c4
     have c5 : 0 < (row.length : Int) := by omega
     have c6 : 1 < (row.length : Int) := by omega
     rw [if_pos c5] at H
     obtain ⟨t105, A6, H⟩ := Option.bind_eq_some_iff.mp H
     have A6 := Aside0.mk A6
     obtain ⟨ad1, e1, h0⟩ := Kd.at_int HI.out 0 (by omega) c5
     subst e1
     obtain ⟨ad2, e2, h1⟩ := Kd.at_int HI.out 1 (by omega) c6
     obtain rfl : ad1 = ad2 := Option.some.inj e2
     clear e2
     rw [show ((0 : Int)).toNat = 0 from rfl, Addr.add_zero'] at h0
     simp only [show (1 : Int).toNat = 1 from rfl, Nat.reduceMul, Nat.reduceEqDiff, Go.Addr.add, ↓reduceIte] at h1
     replace h0 := (HD.out.below.cell (World.block_lt_of_cell? w _ h0)).trans h0
     replace h1 := (HD.out.below.cell (World.block_lt_of_cell? w _ h1)).trans h1
     have q0 : (0 < row.length) = True := eq_true (by omega)
     have q1 : (1 < row.length) = True := eq_true (by omega)
     have d0 : decide (0 < (row.length : Int)) = true := decide_eq_true c5
     have d1 : decide (1 < (row.length : Int)) = true := decide_eq_true c6
     replace c2 := eq_true c2
     replace c3 := eq_true c3
     replace c5 := eq_true c5
     replace c6' := eq_true c6
     clear c4
     cases t105 with
     | false =>
      rw [if_neg (by decide)] at H
      obtain rfl := Option.some.inj H
      clear H c6
      go_wp2
      go_quiet ((go_at_call 49; with_reducible exact Calls.quiet_of ((spec_l1In.calls _ _ _ false _ A6.out).mono (fun _ _ h => ⟨h.1, h.2.out⟩))))
      go_wp2
      go_ret
      exact ⟨rfl, Drawn0.below (by repeat (first | exact HD.out | apply Drawn0.step))⟩
     | true =>
      rw [if_pos rfl, if_pos c6] at H
      obtain ⟨t108, A9, H⟩ := Option.bind_eq_some_iff.mp H
      have A9 := Aside0.mk A9
      clear c6
      cases t108 with
      | false =>
       rw [if_neg (by decide)] at H
       obtain rfl := Option.some.inj H
       clear H
       go_wp2
       go_quiet ((go_at_call 49; first | with_reducible exact Calls.quiet_of ((spec_l1In.calls _ _ _ true _ A6.out).mono (fun _ _ h => ⟨h.1, h.2.out⟩)) | with_reducible exact Calls.quiet_of ((spec_l1In.calls _ _ _ false _ A9.out).mono (fun _ _ h => ⟨h.1, h.2.out⟩))))
       go_wp2
       go_ret
       exact ⟨rfl, Drawn0.below (by repeat (first | exact HD.out | apply Drawn0.step))⟩
      | true =>
       rw [if_pos rfl] at H
       by_cases c11 : (rd row 0) = (rd row 1)
       ·rw [if_pos c11] at H
        have c11b0 : ((rd row 0) == (rd row 1)) = true := beq_iff_eq.mpr c11
        clear c11
        obtain rfl := Option.some.inj H
        clear H
        go_wp2
        go_quiet ((go_at_call 49; first | with_reducible exact Calls.quiet_of ((spec_l1In.calls _ _ _ true _ A6.out).mono (fun _ _ h => ⟨h.1, h.2.out⟩)) | with_reducible exact Calls.quiet_of ((spec_l1In.calls _ _ _ true _ A9.out).mono (fun _ _ h => ⟨h.1, h.2.out⟩))))
        go_wp2
        go_ret
        exact ⟨rfl, Drawn0.below (by repeat (first | exact HD.out | apply Drawn0.step))⟩
       ·rw [if_neg c11] at H
        have c11b0 : ((rd row 0) == (rd row 1)) = false := beq_eq_false_iff_ne.mpr c11
        clear c11
        have H' := Aside0.mk H
        clear H
        go_wp2
        go_quiet ((go_at_call 49; first | with_reducible exact Calls.quiet_of ((spec_l1In.calls _ _ _ true _ A6.out).mono (fun _ _ h => ⟨h.1, h.2.out⟩)) | with_reducible exact Calls.quiet_of ((spec_l1In.calls _ _ _ true _ A9.out).mono (fun _ _ h => ⟨h.1, h.2.out⟩))))
        go_wp2
        go_roundg k1
        case measure => exact oK
        case rel => exact ⟨wrap64 (x3_1 + 1), rS, H', ⟨oK⟩, by repeat (first | exact HD.out | apply Drawn0.step)⟩
    ·rw [if_neg c4] at H
     have c4b0 : ((row.length : Int) == 2) = false := beq_eq_false_iff_ne.mpr c4
     have c4b1 : ((row.length : Int) != 2) = true := bne_iff_ne.mpr c4
     obtain rfl := Option.some.inj H
     replace c2 := eq_true c2
     replace c3 := eq_true c3
     clear c4
     go_wp2
     go_quiet (fail)
     go_wp2
     go_ret
     exact ⟨rfl, Drawn0.below (by repeat (first | exact HD.out | apply Drawn0.step))⟩
   ·rw [if_neg c2] at H
    have c2b0 : decide (x3_1 < (l0.length : Int)) = false := decide_eq_false c2
    clear c2
    obtain ⟨t101, A17, H⟩ := Option.bind_eq_some_iff.mp H
    have A17 := Aside0.mk A17
    obtain rfl := Option.some.inj H
    clear H
    go_wp2_with fail
    (go_at_call 49; (with_reducible refine (spec_l1In.calls _ _ _ t101 _ A17.out).mono ?_))
    rintro e w' ⟨rfl, ⟨nd, rfl⟩⟩
    go_wp2
    go_ret
    exact ⟨rfl, Drawn0.below (by repeat (first | exact HD.out | apply Drawn0.step))⟩

end Go.Proofs.YtafpbabiahjjaaaGreatDoor.PFnGraphs
