import Derived.Test.YtepogblkmiidnaaWSpanB
import Derived.Test.YtepogblkmiidnaaPFnCoversx0
import Derived.Test.YtepogblkmiidnaaPFnCoversx8
import Derived.Test.YtepogblkmiidnaaPFnCoversx9
import Derived.Test.YtepogblkmiidnaaPFnCoversx12
import Derived.Test.YtepogblkmiidnaaPFnCoversx18
import Derived.Test.YtepogblkmiidnaaPFnCoversx19
namespace Go.Proofs.Ytepogblkmiidnaa.PFnCovers
open Go.RowKit Go.Proofs.YtepogblkmiidnaaW.PrintWords Go.Proofs.YtepogblkmiidnaaW.PrintLast Go.Proofs.YtepogblkmiidnaaW.PrintMore
attribute [local go_sem] max2_int min2_int max_two min_two max_three min_three max_four min_four   -- for this text's walks alone
set_option linter.unusedVariables false
set_option linter.unusedSimpArgs false

/-! ### spec_CountCovers: function 20 -/
def spec_CountCovers.j0 : Nat → Int → Int → Bool → Option (Int)
  | 0, _, _, _ => none
  | k + 1, x0, x1, x12 => if x12 = true then (some (-1)) else ((spec_l9All.f k x1).bind fun t653 => ((spec_l9Count.f k x0 t653 (([] : List (List Int))) true).bind fun t659 => ((spec_l7Factorial.f k (wrap64 (x1 - 1))).bind fun t660 => (if t660 = 0 then (none) else (some (wrap64 (Int.tdiv t659 t660)))))))
def spec_CountCovers.f (k : Nat) (a0 : Int) (a1 : Int) : Option (Int) := (spec_l1In.f a0 0 2).bind fun t651 => (if t651 = true then ((spec_l1In.f a1 1 3).bind fun t652 => (spec_CountCovers.j0 k a0 a1 (!t652))) else (spec_CountCovers.j0 k a0 a1 true))
set_option maxHeartbeats 8000000 in
set_option maxRecDepth 100000 in
theorem spec_CountCovers.calls (k : Nat) (a0 : Int) (a1 : Int) (r : Int) (w : World) (h : spec_CountCovers.f k a0 a1 = some r) :
    Calls Try.prog 20 #[.int .i64 a0, .int .i64 a1] w fun e w' => e = .returned (.int .i64 r) ∧ Below w.heap.size w w' := by
  have HB := Aside0.mk (Below.refl w.heap.size w)
  have H : ((spec_l1In.f a0 0 2).bind fun t651 => (if t651 = true then ((spec_l1In.f a1 1 3).bind fun t652 => (spec_CountCovers.j0 k a0 a1 (!t652))) else (spec_CountCovers.j0 k a0 a1 true))) = some r := h
  clear h
  have HC3 := Aside0.mk H
  clear H
  go_enter Try.func20, Try.ntmps20
  go_upto_region 1 with (fail)
  go_cut [12] (fun v12 wc => ∃ (kq : Nat) (x12_2 : Bool), v12 = .bool x12_2 ∧ Aside0 (spec_CountCovers.j0 kq a0 a1 x12_2 = some r) ∧ Aside0 (kq ≤ k) ∧ Aside0 (Below w.heap.size w wc))
  case first =>
    have H := HC3.out
    clear HC3
    obtain ⟨t651, A4, H⟩ := bs H
    by_cases c5 : t651 = true
    · subst c5
      rw [if_pos rfl] at H
      obtain ⟨t652, A6, H⟩ := bs H
      have H' := Aside0.mk H
      clear H
      go_wp2_with (first | (refine gL 55 (some 6) Try.func55 #[.int .i64 a0, .int .i64 0, .int .i64 2] ?_; (with_reducible refine (spec_l1In.calls a0 0 2 true _ A4.out).mono ?_); rintro e w' ⟨rfl, ⟨nd, rfl⟩⟩; refine ⟨_, rfl, ?_⟩) | (go_at_call 55; (with_reducible refine (spec_l1In.calls a1 1 3 t652 _ A6.out).mono ?_); rintro e w' ⟨rfl, ⟨nd, rfl⟩⟩))
      go_meet
      case rel => exact ⟨_, (!t652), rS, H', ⟨by first | omega | exact Nat.le_refl _⟩, ⟨tb⟩⟩
    · replace c5 := Bool.eq_false_iff.mpr c5
      subst c5
      rw [if_neg (show ¬ (false = true) by decide)] at H
      have H' := Aside0.mk H
      clear H
      go_wp2_with (first | (refine gL 55 (some 6) Try.func55 #[.int .i64 a0, .int .i64 0, .int .i64 2] ?_; (with_reducible refine (spec_l1In.calls a0 0 2 false _ A4.out).mono ?_); rintro e w' ⟨rfl, ⟨nd, rfl⟩⟩; refine ⟨_, rfl, ?_⟩))
      go_meet
      case rel => exact ⟨_, (true), rS, H', ⟨by first | omega | exact Nat.le_refl _⟩, ⟨tb⟩⟩
  case rest =>
    clear HC3
    try clear c2
    try clear p2
    try clear c5
    obtain ⟨kq, x12_2, rfl, HA, HJ2, HB⟩ := hcut
    cases kq with
    | zero => exact absurd HA.out (by simp [spec_CountCovers.j0])
    | succ kj2 =>
      have H := HA.out
      clear HA
      simp only [spec_CountCovers.j0] at H
      by_cases c7 : x12_2 = true
      · subst c7
        rw [if_pos rfl] at H
        obtain rfl := Option.some.inj H
        go_wp2
        go_ret
        exact ⟨rE, tb⟩
      · replace c7 := Bool.eq_false_iff.mpr c7
        subst c7
        rw [if_neg (show ¬ (false = true) by decide)] at H
        obtain ⟨t653, A8, H⟩ := bs H
        generalize hy656 : (([] : List (List Int)) : List (List Int)) = y656 at H
        have Ny656 := Aside0.mk hy656.symm; clear hy656
        obtain ⟨t659, A9, H⟩ := bs H
        obtain ⟨t660, A10, H⟩ := bs H
        by_cases c11 : t660 = 0
        · rw [if_pos c11] at H
          exact absurd H (by simp)
        · rw [if_neg c11] at H
          have c11b0 : (t660 == 0) = false := beq_eq_false_iff_ne.mpr c11
          have c11b1 : (t660 != 0) = true := bne_iff_ne.mpr c11
          obtain rfl := Option.some.inj H
          go_wp2_with (first | (refine gL 57 (some 15) Try.func57 #[.int .i64 a1] ?_; (with_reducible refine (spec_l9All.calls kj2 a1 t653 _ A8.out).mono ?_); rintro e w12 ⟨v654, rfl, ho0, hb⟩; refine ⟨_, rfl, ?_⟩; have HO655 := Aside0.mk (Kd.N_lower (Kd.N_mono (ok' := fun k_ => True) ho0 (fun k_ hk_ => trivial)) (below_size tb)); replace HB := Aside0.mk (below_step tb hb)) | ((with_reducible refine gate_dst (N := 16) rfl ?_); refine Kd.N_lit (Kd.slice 3 (Kd.int .i64)) _ 30 ?hg (N' := 16) ?hd (xs := ([] : List (List Int))) (inner := []) (ok := (fun k_ => some k_ ≠ (v654 : Value).ownBlock)) (okp := (fun k_ => some k_ ≠ (v654 : Value).ownBlock)) ?hr ?hp (fun _ hk => hk) ((show ∀ k_, w12.heap.size ≤ k_ → (fun k_ => some k_ ≠ (v654 : Value).ownBlock) k_ from fun k_ hk => Kd.fresh' (Kd.N_lt (N_l HO655.out)) k_ hk) _ (Nat.le_refl _)) (Below.refl _ _) (Nat.le_refl _) (by simp) ?_; (case hd => rfl); (case hg => rfl); (case hr => exact gS); (case hp => exact (Reps.none _ _)); intro v657 w13 ho14 hb hg_ hnew_; clear hg_ hnew_; (first | rw [← Ny656.out] at ho14 | (simp only [Int.reduceToNat] at ho14; rw [← Ny656.out] at ho14)); replace HO655 := Aside0.mk (Kd.N_elder' (N_l HO655.out) (Kd.N_base ho14) hb); have HO658 := Aside0.mk (Kd.N_lower ho14 (below_size tb)); replace HB := Aside0.mk (below_step tb hb); clear hb ho14; obtain ⟨Ao15, co15, eo15⟩ := Kd.N_slice HO655.out; subst eo15; obtain ⟨Ao16, co16, eo16⟩ := Kd.N_slice HO658.out; subst eo16) | (refine gL 56 (some 17) Try.func56 #[.int .i64 a0, .slice Ao15 t653.length co15, .slice Ao16 y656.length co16, .bool true] ?_; (with_reducible refine (spec_l9Count.calls kj2 a0 _ _ t653 _ _ y656 true t659 _ ?side1 ?side2 ?side3 ?side4 A9.out).mono ?_); (case side1 => exact C_l ((Kd.N_reads' HO655.out).2.2)); (case side2 => exact (Kd.N_reads' HO655.out).2.1); (case side3 => exact C_l ((Kd.N_reads' HO658.out).2.2)); (case side4 => exact (Kd.N_reads' HO658.out).2.1); rintro e w17 ⟨rfl, hb⟩; refine ⟨_, rfl, ?_⟩; replace HO655 := Aside0.mk (nB HO655.out hb); replace HO658 := Aside0.mk (nB HO658.out hb); replace HB := Aside0.mk (below_step tb hb)) | (refine gL 58 (some 20) Try.func58 #[.int .i64 (wrap64 (a1 - 1))] ?_; (with_reducible refine (spec_l7Factorial.calls kj2 (wrap64 (a1 - 1)) t660 _ A10.out).mono ?_); rintro e w' ⟨rfl, ⟨nd, rfl⟩⟩; refine ⟨_, rfl, ?_⟩))
          go_ret
          exact ⟨rE, tb⟩

/-! ### laws_sameLists: function 21 -/
def laws_sameLists.l0 : Nat → List (List Int) → List (List Int) → Int → Option (Bool)
  | 0, _, _, _ => none
  | k + 1, x0, x1, x5 => if x5 < (x0.length : Int) then (if 0 ≤ x5 then (if x5 < (x1.length : Int) then ((laws_sameInts.f k (rd_L2 x0 x5) (rd_L2 x1 x5)).bind fun t663 => (if t663 = true then (laws_sameLists.l0 k x0 x1 (wrap64 (x5 + 1))) else (some false))) else (none)) else (none)) else (some true)
def laws_sameLists.f (k : Nat) (l0 : List (List Int)) (l1 : List (List Int)) : Option (Bool) := if (l0.length : Int) = (l1.length : Int) then (laws_sameLists.l0 k l0 l1 0) else (some false)
set_option maxHeartbeats 8000000 in
set_option maxRecDepth 100000 in
theorem laws_sameLists.calls (k : Nat) (A0 : Option Addr) (c0 : Nat) (l0 : List (List Int)) (A1 : Option Addr) (c1 : Nat) (l1 : List (List Int)) (r : Bool) (w : World) (hr0 : Kd.C (Kd.slice 3 (Kd.int .i64)) w A0 l0.length l0) (hc0 : l0.length ≤ c0) (hr1 : Kd.C (Kd.slice 3 (Kd.int .i64)) w A1 l1.length l1) (hc1 : l1.length ≤ c1) (h : laws_sameLists.f k l0 l1 = some r) :
    Calls Try.prog 21 #[.slice A0 l0.length c0, .slice A1 l1.length c1] w fun e w' => e = .returned (.bool r) ∧ Drawn0 w w' := by
  have HR0 := Aside0.mk hr0
  have HC0 := Aside0.mk hc0
  clear hr0 hc0
  have HR1 := Aside0.mk hr1
  have HC1 := Aside0.mk hc1
  clear hr1 hc1
  have H : (if (l0.length : Int) = (l1.length : Int) then (laws_sameLists.l0 k l0 l1 0) else (some false)) = some r := h
  clear h
  by_cases c3 : (l0.length : Int) = (l1.length : Int)
  · rw [if_pos c3] at H
    have c3b0 : ((l0.length : Int) == (l1.length : Int)) = true := beq_iff_eq.mpr c3
    have c3b1 : ((l0.length : Int) != (l1.length : Int)) = false := bne_eq_false_iff_eq.mpr c3
    have c3b2 : (l0.length == l1.length) = true := by first | simpa using c3 | (simp at c3 ⊢; omega)
    clear c3
    have H' := Aside0.mk H
    clear H
    go_enter Try.func21, Try.ntmps21
    go_wp2
    repeat (go_quiet (fail); try go_wp2)
    go_loopg [5] k (fun kq v5 w' => ∃ (x5_1 : Int), v5 = .int .i64 x5_1 ∧ Aside0 (laws_sameLists.l0 kq l0 l1 x5_1 = some r) ∧ Aside0 (kq ≤ k) ∧ Drawn0 w w')
    case atStart => exact ⟨(0), rS, H', ⟨Nat.le_refl _⟩, tD⟩
    case round =>
      clear H'
      try clear c1
      try clear c2
      try clear p2
      try clear c3
      try clear c3b0
      try clear c3b1
      try clear c3b2
      obtain ⟨x5_1, rfl, HA, HK1, ⟨m1, rfl⟩⟩ := hrel
      cases gk with
      | zero => exact absurd HA.out (by simp [laws_sameLists.l0])
      | succ k1 =>
        have H := HA.out
        clear HA
        simp only [laws_sameLists.l0] at H
        obtain ⟨c4b0, H⟩ | ⟨c4b0, H⟩ := gi H
        · obtain ⟨c5b0, H⟩ := gdt H
          obtain ⟨c6b0, H⟩ := gdt H
          obtain ⟨t663, A7, H⟩ := bs H
          by_cases c8 : t663 = true
          · subst c8
            rw [if_pos rfl] at H
            have H' := Aside0.mk H
            clear H
            have p661 : 0 ≤ (x5_1 : Int) := dT
            have q661 : x5_1 < (l0.length : Int) := dT
            obtain ⟨ad661, A661_0, c661_0, e661, hx661_0, hl661_0, hi661_0⟩ := at_L2 HR0.out x5_1 p661 q661
            cases e661
            have HR661_0 := Aside0.mk hi661_0
            have HC661_0 := Aside0.mk hl661_0
            clear hi661_0 hl661_0
            replace p661 := eq_true p661
            replace q661 := eq_true q661
            have p662 : 0 ≤ (x5_1 : Int) := dT
            have q662 : x5_1 < (l1.length : Int) := dT
            obtain ⟨ad662, A662_0, c662_0, e662, hx662_0, hl662_0, hi662_0⟩ := at_L2 HR1.out x5_1 p662 q662
            cases e662
            have HR662_0 := Aside0.mk hi662_0
            have HC662_0 := Aside0.mk hl662_0
            clear hi662_0 hl662_0
            replace p662 := eq_true p662
            replace q662 := eq_true q662
            go_wp2_with (first | (go_at_call 15; (with_reducible refine (laws_sameInts.calls k1 _ _ (rd_L2 l0 x5_1) _ _ (rd_L2 l1 x5_1) true _ ?side1 ?side2 ?side3 ?side4 A7.out).mono ?_); (case side1 => exact C_l HR661_0.out); (case side2 => exact HC661_0.out); (case side3 => exact C_l HR662_0.out); (case side4 => exact HC662_0.out); rintro e w' ⟨rfl, ⟨nd, rfl⟩⟩; (try first | exact ⟨rfl, _, World.drewN_drewN _ _ _⟩ | exact ⟨rfl, _, Eq.trans (World.drewN_drewN _ _ _) (congrArg (World.drewN _) (Nat.add_assoc _ _ _))⟩)))
            repeat (go_quiet (first | (go_at_call 15; (with_reducible refine (laws_sameInts.calls k1 _ _ (rd_L2 l0 x5_1) _ _ (rd_L2 l1 x5_1) true _ ?side1 ?side2 ?side3 ?side4 A7.out).mono ?_); (case side1 => exact C_l HR661_0.out); (case side2 => exact HC661_0.out); (case side3 => exact C_l HR662_0.out); (case side4 => exact HC662_0.out); rintro e w' ⟨rfl, ⟨nd, rfl⟩⟩; (try first | exact ⟨rfl, _, World.drewN_drewN _ _ _⟩ | exact ⟨rfl, _, Eq.trans (World.drewN_drewN _ _ _) (congrArg (World.drewN _) (Nat.add_assoc _ _ _))⟩))); try go_wp2_with (first | (go_at_call 15; (with_reducible refine (laws_sameInts.calls k1 _ _ (rd_L2 l0 x5_1) _ _ (rd_L2 l1 x5_1) true _ ?side1 ?side2 ?side3 ?side4 A7.out).mono ?_); (case side1 => exact C_l HR661_0.out); (case side2 => exact HC661_0.out); (case side3 => exact C_l HR662_0.out); (case side4 => exact HC662_0.out); rintro e w' ⟨rfl, ⟨nd, rfl⟩⟩; (try first | exact ⟨rfl, _, World.drewN_drewN _ _ _⟩ | exact ⟨rfl, _, Eq.trans (World.drewN_drewN _ _ _) (congrArg (World.drewN _) (Nat.add_assoc _ _ _))⟩))))
            go_roundg k1
            case measure => exact oK
            case rel => exact ⟨(wrap64 (x5_1 + 1)), rS, H', ⟨oK⟩, tD⟩
          · replace c8 := Bool.eq_false_iff.mpr c8
            subst c8
            rw [if_neg (show ¬ (false = true) by decide)] at H
            obtain rfl := Option.some.inj H
            have p661 : 0 ≤ (x5_1 : Int) := dT
            have q661 : x5_1 < (l0.length : Int) := dT
            obtain ⟨ad661, A661_0, c661_0, e661, hx661_0, hl661_0, hi661_0⟩ := at_L2 HR0.out x5_1 p661 q661
            cases e661
            have HR661_0 := Aside0.mk hi661_0
            have HC661_0 := Aside0.mk hl661_0
            clear hi661_0 hl661_0
            replace p661 := eq_true p661
            replace q661 := eq_true q661
            have p662 : 0 ≤ (x5_1 : Int) := dT
            have q662 : x5_1 < (l1.length : Int) := dT
            obtain ⟨ad662, A662_0, c662_0, e662, hx662_0, hl662_0, hi662_0⟩ := at_L2 HR1.out x5_1 p662 q662
            cases e662
            have HR662_0 := Aside0.mk hi662_0
            have HC662_0 := Aside0.mk hl662_0
            clear hi662_0 hl662_0
            replace p662 := eq_true p662
            replace q662 := eq_true q662
            go_wp2_with (first | (go_at_call 15; (with_reducible refine (laws_sameInts.calls k1 _ _ (rd_L2 l0 x5_1) _ _ (rd_L2 l1 x5_1) false _ ?side1 ?side2 ?side3 ?side4 A7.out).mono ?_); (case side1 => exact C_l HR661_0.out); (case side2 => exact HC661_0.out); (case side3 => exact C_l HR662_0.out); (case side4 => exact HC662_0.out); rintro e w' ⟨rfl, ⟨nd, rfl⟩⟩; (try first | exact ⟨rfl, _, World.drewN_drewN _ _ _⟩ | exact ⟨rfl, _, Eq.trans (World.drewN_drewN _ _ _) (congrArg (World.drewN _) (Nat.add_assoc _ _ _))⟩)))
            repeat (go_quiet (first | (go_at_call 15; (with_reducible refine (laws_sameInts.calls k1 _ _ (rd_L2 l0 x5_1) _ _ (rd_L2 l1 x5_1) false _ ?side1 ?side2 ?side3 ?side4 A7.out).mono ?_); (case side1 => exact C_l HR661_0.out); (case side2 => exact HC661_0.out); (case side3 => exact C_l HR662_0.out); (case side4 => exact HC662_0.out); rintro e w' ⟨rfl, ⟨nd, rfl⟩⟩; (try first | exact ⟨rfl, _, World.drewN_drewN _ _ _⟩ | exact ⟨rfl, _, Eq.trans (World.drewN_drewN _ _ _) (congrArg (World.drewN _) (Nat.add_assoc _ _ _))⟩))); try go_wp2_with (first | (go_at_call 15; (with_reducible refine (laws_sameInts.calls k1 _ _ (rd_L2 l0 x5_1) _ _ (rd_L2 l1 x5_1) false _ ?side1 ?side2 ?side3 ?side4 A7.out).mono ?_); (case side1 => exact C_l HR661_0.out); (case side2 => exact HC661_0.out); (case side3 => exact C_l HR662_0.out); (case side4 => exact HC662_0.out); rintro e w' ⟨rfl, ⟨nd, rfl⟩⟩; (try first | exact ⟨rfl, _, World.drewN_drewN _ _ _⟩ | exact ⟨rfl, _, Eq.trans (World.drewN_drewN _ _ _) (congrArg (World.drewN _) (Nat.add_assoc _ _ _))⟩))))
            go_ret
            exact ⟨rS, tD⟩
        · obtain rfl := Option.some.inj H
          go_wp2
          repeat (go_quiet (fail); try go_wp2)
          go_ret
          exact ⟨rS, tD⟩
  · rw [if_neg c3] at H
    have c3b0 : ((l0.length : Int) == (l1.length : Int)) = false := beq_eq_false_iff_ne.mpr c3
    have c3b1 : ((l0.length : Int) != (l1.length : Int)) = true := bne_iff_ne.mpr c3
    have c3b2 : (l0.length == l1.length) = false := by first | simpa using c3 | (simp at c3 ⊢; omega)
    obtain rfl := Option.some.inj H
    go_enter Try.func21, Try.ntmps21
    go_wp2
    repeat (go_quiet (fail); try go_wp2)
    go_ret
    exact ⟨rS, tD⟩

/-! ### spec_SheetParts: function 22 -/
def spec_SheetParts.f (k : Nat) (l0 : List (List Int)) : Option ((List (List Int))) := (spec_l9Perms.f k l0).bind fun t664 => (if t664 = true then ((spec_l9Parts.f k l0).bind fun t665 => (some t665)) else (some (([] : List (List Int)))))
set_option maxHeartbeats 8000000 in
set_option maxRecDepth 100000 in
theorem spec_SheetParts.calls (k : Nat) (A0 : Option Addr) (c0 : Nat) (l0 : List (List Int)) (r : List (List Int)) (w : World) (hr0 : Kd.C (Kd.slice 3 (Kd.int .i64)) w A0 l0.length l0) (hc0 : l0.length ≤ c0) (h : spec_SheetParts.f k l0 = some r) :
    Calls Try.prog 22 #[.slice A0 l0.length c0] w fun e w' => ∃ v0_ : Value, e = .returned (v0_) ∧ Kd.S (Kd.slice 3 (Kd.int .i64)) 30 w' w.heap.size (fun _ => True) v0_ r ∧ Below w.heap.size w w' := by
  have HR0 := Aside0.mk hr0
  have HC0 := Aside0.mk hc0
  clear hr0 hc0
  have HB := Aside0.mk (Below.refl w.heap.size w)
  have H : ((spec_l9Perms.f k l0).bind fun t664 => (if t664 = true then ((spec_l9Parts.f k l0).bind fun t665 => (some t665)) else (some (([] : List (List Int)))))) = some r := h
  clear h
  obtain ⟨t664, A2, H⟩ := bs H
  by_cases c3 : t664 = true
  · subst c3
    rw [if_pos rfl] at H
    obtain ⟨t665, A4, H⟩ := bs H
    obtain rfl := Option.some.inj H
    go_enter Try.func22, Try.ntmps22
    go_wp2_with (first | (refine gL 50 (some 4) Try.func50 #[.slice A0 l0.length c0] ?_; (with_reducible refine (spec_l9Perms.calls k _ _ l0 true _ ?side1 ?side2 A2.out).mono ?_); (case side1 => exact C_l HR0.out); (case side2 => exact HC0.out); rintro e w5 ⟨rfl, hb⟩; refine ⟨_, rfl, ?_⟩; replace HB := Aside0.mk (below_step tb hb)) | (refine gL 37 (some 8) Try.func37 #[.slice A0 l0.length c0] ?_; (with_reducible refine (spec_l9Parts.calls k _ _ l0 t665 _ ?side1 ?side2 A4.out).mono ?_); (case side1 => exact C_l (Kd.C_below HR0.out HB.out)); (case side2 => exact HC0.out); rintro e w6 ⟨v666, rfl, ho0, hb⟩; refine ⟨_, rfl, ?_⟩; have HO667 := Aside0.mk (Kd.S_lower ho0 (below_size tb)); replace HB := Aside0.mk (below_step tb hb)))
    go_ret
    exact ⟨_, rE, S_l HO667.out, tb⟩
  · replace c3 := Bool.eq_false_iff.mpr c3
    subst c3
    rw [if_neg (show ¬ (false = true) by decide)] at H
    generalize hy668 : (([] : List (List Int)) : List (List Int)) = y668 at H
    have Ny668 := Aside0.mk hy668.symm; clear hy668
    obtain rfl := Option.some.inj H
    go_enter Try.func22, Try.ntmps22
    go_wp2_with (first | (refine gL 50 (some 4) Try.func50 #[.slice A0 l0.length c0] ?_; (with_reducible refine (spec_l9Perms.calls k _ _ l0 false _ ?side1 ?side2 A2.out).mono ?_); (case side1 => exact C_l HR0.out); (case side2 => exact HC0.out); rintro e w7 ⟨rfl, hb⟩; refine ⟨_, rfl, ?_⟩; replace HB := Aside0.mk (below_step tb hb)) | ((with_reducible refine gate_dst (N := 6) rfl ?_); refine Kd.S_lit (Kd.slice 3 (Kd.int .i64)) _ 30 ?hg (N := 6) ?hd (xs := ([] : List (List Int))) (inner := []) (ok := fun _ => True) (okp := fun _ => True) ?hr ?hp (fun _ hk => hk) trivial (Below.refl _ _) (Nat.le_refl _) (by simp) ?_; (case hd => rfl); (case hg => rfl); (case hr => exact gS); (case hp => exact (Reps.none _ _)); intro v669 w8 ho9 hb hg_ hnew_; clear hg_ hnew_; (first | rw [← Ny668.out] at ho9 | (simp only [Int.reduceToNat] at ho9; rw [← Ny668.out] at ho9)); have HO670 := Aside0.mk (Kd.S_lower ho9 (below_size tb)); replace HB := Aside0.mk (below_step tb hb); clear hb ho9))
    go_ret
    exact ⟨_, rE, S_l HO670.out, tb⟩

end Go.Proofs.Ytepogblkmiidnaa.PFnCovers
