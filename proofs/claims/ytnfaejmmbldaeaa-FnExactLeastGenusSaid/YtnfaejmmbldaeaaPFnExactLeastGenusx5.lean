-- written by a copy of the print that takes contracts by hand (stubprint.py)
import Derived.Test.YtnfaejmmbldaeaaPFnExactLeastGenusx0
import Derived.Test.YtnfaejmmbldaeaaPFnExactLeastGenusx3
import Derived.Test.YtnfaejmmbldaeaaPFnExactLeastGenusx4
namespace Go.Proofs.Ytnfaejmmbldaeaa.PFnExactLeastGenus
open Go.RowKit Go.Proofs.YtnfaejmmbldaeaaW.PrintWords Go.Proofs.YtnfaejmmbldaeaaW.PrintLast Go.Proofs.YtnfaejmmbldaeaaW.PrintMore
attribute [local go_sem] max2_int min2_int max_two min_two max_three min_three max_four min_four   -- for this text's walks alone
set_option linter.unusedVariables false
set_option linter.unusedSimpArgs false

/-! ### spec_l6Dual: function 45 -/
def spec_l6Dual.l0 : Nat → List Int → List Int → Int → Option (List Int)
  | 0, _, _, _ => none
  | k + 1, x0, x3, x4 => if x4 < (x0.length : Int) then ((spec_l6Mate.f x4).bind fun t197 => (if 0 ≤ t197 then (if t197 < (x0.length : Int) then (if x3.length < 17592186044416 then (spec_l6Dual.l0 k x0 (x3 ++ [rd x0 t197]) (wrap64 (x4 + 1))) else (none)) else (none)) else (none))) else (some x3)
def spec_l6Dual.f (k : Nat) (l0 : List Int) : Option (List Int) := spec_l6Dual.l0 k l0 (([] : List Int)) 0
theorem spec_l6Dual.mono_l : ∀ k, (∀ y0 y1 y2, LeO (spec_l6Dual.l0 k y0 y1 y2) (spec_l6Dual.l0 (k + 1) y0 y1 y2))
  | 0 => fun _ _ _ r h => by simp [spec_l6Dual.l0] at h
  | k + 1 => by
    have ih0 := spec_l6Dual.mono_l k
    · intro y0 y1 y2
      unfold spec_l6Dual.l0
      repeat' first
      | (with_reducible exact ih0 _ _ _)
      | (with_reducible exact LeO.refl _)
      | (with_reducible exact LeO.none _)
      | (with_reducible refine LeO.ite ?_ ?_)
      | (with_reducible refine LeO.bind ?_ (fun _ => ?_))
      | exact ih0 _ _ _
      | exact LeO.none _
      | refine LeO.ite ?_ ?_
      | refine LeO.bind ?_ (fun _ => ?_)
theorem spec_l6Dual.mono : ∀ a0 k, LeO (spec_l6Dual.f k a0) (spec_l6Dual.f (k + 1) a0) := by
  intro a0 k
  have ih0 := spec_l6Dual.mono_l k
  unfold spec_l6Dual.f
  repeat' first
      | (with_reducible exact ih0 _ _ _)
      | (with_reducible exact LeO.refl _)
      | (with_reducible exact LeO.none _)
      | (with_reducible refine LeO.ite ?_ ?_)
      | (with_reducible refine LeO.bind ?_ (fun _ => ?_))
      | exact ih0 _ _ _
      | exact LeO.none _
      | refine LeO.ite ?_ ?_
      | refine LeO.bind ?_ (fun _ => ?_)
set_option maxHeartbeats 8000000 in
set_option maxRecDepth 100000 in
theorem spec_l6Dual.calls (k : Nat) (A0 : Option Addr) (c0 : Nat) (l0 : List Int) (r : List Int) (w : World) (hr0 : Kd.C (Kd.int .i64) w A0 l0.length l0) (hc0 : l0.length ≤ c0) (h : spec_l6Dual.f k l0 = some r) :
    Calls Try.prog 45 #[.slice A0 l0.length c0] w fun e w' => ∃ v0_ : Value, e = .returned (v0_) ∧ Kd.R (Kd.int .i64) 3 w' w.heap.size (fun _ => True) v0_ r ∧ Below w.heap.size w w' := by
  have HR0 := Aside0.mk hr0
  have HC0 := Aside0.mk hc0
  clear hr0 hc0
  have HB := Aside0.mk (Below.refl w.heap.size w)
  have H : (spec_l6Dual.l0 k l0 (([] : List Int)) 0) = some r := h
  clear h
  obtain ⟨y194, hy194⟩ : ∃ y_ : List Int, y_ = (([] : List Int)) := ⟨_, rfl⟩
  replace H : (spec_l6Dual.l0 k l0 y194 0) = some r := by first | (rw [hy194]; with_reducible exact H) | (have H2_ := (Option.bind_some _ _).symm.trans H; rw [hy194]; with_reducible exact H2_) | (have H2_ := (Option.bind_some _ _).symm.trans H; with_reducible exact H2_) | with_reducible exact H | (rw [hy194]; exact H) | exact H
  have Ny194 := Aside0.mk hy194
  clear hy194
  have H' := Aside0.mk H
  clear H
  go_enter Try.func45, Try.ntmps45
  go_wp2_with (first | ((with_reducible refine gate_dst (N := 5) rfl ?_); refine Kd.R_lit (Kd.int .i64) _ 3 ?hg (N := 5) ?hd (xs := ([] : List Int)) (inner := []) (ok := fun _ => True) (okp := fun _ => True) ?hr ?hp (fun _ hk => hk) trivial (Below.refl _ _) (Nat.le_refl _) (by simp) ?_; (case hd => rfl); (case hg => rfl); (case hr => first | (go_simp; done) | (go_simp; rfl)); (case hp => exact (Reps.none _ _)); intro v195 w2 ho3 hb hg_ hnew_; clear hg_ hnew_; (first | rw [← Ny194.out] at ho3 | (simp only [Int.reduceToNat] at ho3; rw [← Ny194.out] at ho3)); have n0_ := Aside0.mk (Kd.R_lower ho3 (below_size (by repeat (first | (with_reducible first | exact HB.out | apply below_alloc | apply pw_below_drewN | apply below_drew1) | exact HB.out)))); have n1_ := Aside0.mk (below_step (by repeat (first | (with_reducible first | exact HB.out | apply below_alloc | apply pw_below_drewN | apply below_drew1) | exact HB.out)) hb); clear HB; have HO196 := n0_; have HB := n1_; clear n0_ n1_; clear hb ho3))
  go_loopg [3, 4] k (fun kq v3 v4 w' => ∃ (x3_1 : List Int) (x4_1 : Int), v4 = .int .i64 x4_1 ∧ Aside0 (spec_l6Dual.l0 kq l0 x3_1 x4_1 = some r) ∧ Aside0 (kq ≤ k) ∧ Aside0 (Kd.R (Kd.int .i64) 3 w' w.heap.size (fun _ => True) v3 x3_1) ∧ Aside0 (Below w.heap.size w w'))
  case atStart => exact ⟨(y194), (0), (by first | rfl | (simp; done) | (simp [*]; done)), H', ⟨Nat.le_refl _⟩, ⟨by (with_reducible repeat (first | apply Kd.R_alloc | apply Kd.R_drewN | apply Kd.R_drew)); exact HO196.out⟩, ⟨by repeat (first | (with_reducible first | exact HB.out | apply below_alloc | apply pw_below_drewN | apply below_drew1) | exact HB.out)⟩⟩
  case round =>
    clear H'
    try clear p2
    obtain ⟨x3_1, x4_1, rfl, HA, HK1, HO_3, HB⟩ := hrel
    cases gk with
    | zero => exact absurd HA.out (by simp [spec_l6Dual.l0])
    | succ k1 =>
      have H := HA.out
      clear HA
      simp only [spec_l6Dual.l0] at H
      by_cases c4 : x4_1 < (l0.length : Int)
      · rw [if_pos c4] at H
        have c4b0 : decide (x4_1 < (l0.length : Int)) = true := decide_eq_true c4
        clear c4
        replace H := Option.bind_eq_some_iff.mp H
        obtain ⟨t197, A50, H⟩ := H
        replace H : (if 0 ≤ t197 then (if t197 < (l0.length : Int) then (if x3_1.length < 17592186044416 then (spec_l6Dual.l0 k1 l0 (x3_1 ++ [rd l0 t197]) (wrap64 (x4_1 + 1))) else (none)) else (none)) else (none)) = some r := H
        have A5 := Aside0.mk A50
        clear A50
        by_cases c6 : 0 ≤ t197
        · rw [if_pos c6] at H
          have c6b0 : decide (0 ≤ t197) = true := decide_eq_true c6
          clear c6
          by_cases c7 : t197 < (l0.length : Int)
          · rw [if_pos c7] at H
            have c7b0 : decide (t197 < (l0.length : Int)) = true := decide_eq_true c7
            clear c7
            by_cases c8 : x3_1.length < 17592186044416
            · rw [if_pos c8] at H
              have LMc8 := Aside0.mk c8
              clear c8
              obtain ⟨y199, hy199⟩ : ∃ y_ : List Int, y_ = (x3_1 ++ [rd l0 t197]) := ⟨_, rfl⟩
              replace H : (spec_l6Dual.l0 k1 l0 y199 (wrap64 (x4_1 + 1))) = some r := by first | (rw [hy199]; with_reducible exact H) | (have H2_ := (Option.bind_some _ _).symm.trans H; rw [hy199]; with_reducible exact H2_) | (have H2_ := (Option.bind_some _ _).symm.trans H; with_reducible exact H2_) | with_reducible exact H | (rw [hy199]; exact H) | exact H
              have Ny199 := Aside0.mk hy199
              clear hy199
              have H' := Aside0.mk H
              clear H
              go_wp2_with (first | ((with_reducible refine gate_callee (f := 52) rfl ?_); refine goesL_ (some 15) rfl rfl Try.func52 (by kernel_rfl) rfl #[.int .i64 x4_1] rfl (by (try simp only [List.map_toArray, List.map_cons, List.map_nil]); first | done | rfl | (simp only [List.length_drop, List.length_take]; rfl)) ?_; (with_reducible refine (spec_l6Mate.calls x4_1 t197 _ A5.out).mono ?_); rintro e w' ⟨rfl, ⟨nd, rfl⟩⟩; refine ⟨_, rfl, ?_⟩; have p198 : 0 ≤ (t197 : Int) := of_decide_eq_true (by first | (with_reducible assumption) | assumption); have q198 : t197 < (l0.length : Int) := of_decide_eq_true (by first | (with_reducible assumption) | assumption); obtain ⟨ad198, e198, hx198_0⟩ := Kd.at_int HR0.out t197 p198 q198; cases e198; replace hx198_0 := (HB.out.cell (World.block_lt_of_cell? w _ hx198_0)).trans hx198_0; replace p198 := eq_true p198; replace q198 := eq_true q198) | ((with_reducible refine gate_builtin (b := .append) (xs := #[.tmp 12, .tmp 18]) rfl ?_); at_builtin; refine Kd.R_append (Kd.int .i64) (w0 := w) w.heap.size rfl (.tmp 12) (.tmp 18) 24 3 (.int .i64 0) 8 rfl Try.underlying24 info3 rfl (by decide) (by omega) u3 x3_1 (rd l0 t197) [.int .i64 (rd l0 t197)] (fun _ => True) (fun _ => False) rfl rfl ?aP (fun _ hk => hk.elim) ?aF ?aO ?aB ?aS ?aL ?_; (case aP => exact rfl); (case aB => exact (by repeat (first | (with_reducible first | exact HB.out | apply below_alloc | apply pw_below_drewN | apply below_drew1) | exact HB.out))); (case aF => exact (fun _ _ => trivial)); (case aO => exact (by (with_reducible repeat (first | apply Kd.R_alloc | apply Kd.R_drewN | apply Kd.R_drew)); exact HO_3.out)); (case aS => exact (below_size (by repeat (first | (with_reducible first | exact HB.out | apply below_alloc | apply pw_below_drewN | apply below_drew1) | exact HB.out)))); (case aL => have := LMc8.out; omega); intro v200 w9 ho hb hg hat; rw [← Ny199.out] at ho; have n0_ := Aside0.mk (hb); have n1_ := Aside0.mk (ho); clear HB; clear HO_3; have HB := n0_; have HO201 := n1_; clear n0_ n1_; clear ho hb hg hat))
              go_roundg k1
              case measure => have := HK1.out; omega
              case rel => exact ⟨(y199), (wrap64 (x4_1 + 1)), (by first | rfl | (simp; done) | (simp [*]; done)), H', ⟨by have := HK1.out; omega⟩, ⟨by (with_reducible repeat (first | apply Kd.R_alloc | apply Kd.R_drewN | apply Kd.R_drew)); exact HO201.out⟩, ⟨by repeat (first | (with_reducible first | exact HB.out | apply below_alloc | apply pw_below_drewN | apply below_drew1) | exact HB.out)⟩⟩
            · rw [if_neg c8] at H
              exact absurd H (by simp)
          · rw [if_neg c7] at H
            exact absurd H (by simp)
        · rw [if_neg c6] at H
          exact absurd H (by simp)
      · rw [if_neg c4] at H
        have c4b0 : decide (x4_1 < (l0.length : Int)) = false := decide_eq_false c4
        clear c4
        obtain rfl := Option.some.inj H
        go_wp2
        go_ret
        exact ⟨_, by first | rfl | (simp [errW_none, errW_some] <;> rfl) | (simp [*, errW_none, errW_some] <;> rfl), by (with_reducible repeat (first | apply Kd.R_alloc | apply Kd.R_drewN | apply Kd.R_drew)); exact HO_3.out, by repeat (first | (with_reducible first | exact HB.out | apply below_alloc | apply pw_below_drewN | apply below_drew1) | exact HB.out)⟩

/-! ### spec_l6Genus: function 31 -/
def spec_l6Genus.f (k : Nat) (l0 : List Int) : Option (Int) := (spec_l6Parts.f k l0).bind fun t202 => ((spec_l6Cycles.f k l0).bind fun t203 => ((spec_l6Dual.f k l0).bind fun t206 => ((spec_l6Cycles.f k t206).bind fun t209 => (some (wrap64 (t202 - (wrap64 (Int.tdiv (wrap64 ((wrap64 ((t203.length : Int) - (wrap64 ((l0.length : Int) / 2)))) + (t209.length : Int))) 2))))))))
theorem spec_l6Genus.mono : ∀ a0 k, LeO (spec_l6Genus.f k a0) (spec_l6Genus.f (k + 1) a0) := by
  intro a0 k
  unfold spec_l6Genus.f
  repeat' first
      | (with_reducible exact spec_l6Cycles.mono _ _)
      | (with_reducible exact spec_l6Dual.mono _ _)
      | (with_reducible exact spec_l6Parts.mono _ _)
      | (with_reducible exact LeO.refl _)
      | (with_reducible exact LeO.none _)
      | (with_reducible refine LeO.ite ?_ ?_)
      | (with_reducible refine LeO.bind ?_ (fun _ => ?_))
      | exact spec_l6Cycles.mono _ _
      | exact spec_l6Dual.mono _ _
      | exact spec_l6Parts.mono _ _
      | exact LeO.none _
      | refine LeO.ite ?_ ?_
      | refine LeO.bind ?_ (fun _ => ?_)
set_option maxHeartbeats 8000000 in
set_option maxRecDepth 100000 in
theorem spec_l6Genus.calls (k : Nat) (A0 : Option Addr) (c0 : Nat) (l0 : List Int) (r : Int) (w : World) (hr0 : Kd.C (Kd.int .i64) w A0 l0.length l0) (hc0 : l0.length ≤ c0) (h : spec_l6Genus.f k l0 = some r) :
    Calls Try.prog 31 #[.slice A0 l0.length c0] w fun e w' => e = .returned (.int .i64 r) ∧ Below w.heap.size w w' := by
  have HR0 := Aside0.mk hr0
  have HC0 := Aside0.mk hc0
  clear hr0 hc0
  have HB := Aside0.mk (Below.refl w.heap.size w)
  have H : ((spec_l6Parts.f k l0).bind fun t202 => ((spec_l6Cycles.f k l0).bind fun t203 => ((spec_l6Dual.f k l0).bind fun t206 => ((spec_l6Cycles.f k t206).bind fun t209 => (some (wrap64 (t202 - (wrap64 (Int.tdiv (wrap64 ((wrap64 ((t203.length : Int) - (wrap64 ((l0.length : Int) / 2)))) + (t209.length : Int))) 2))))))))) = some r := h
  clear h
  replace H := Option.bind_eq_some_iff.mp H
  obtain ⟨t202, A20, H⟩ := H
  replace H : ((spec_l6Cycles.f k l0).bind fun t203 => ((spec_l6Dual.f k l0).bind fun t206 => ((spec_l6Cycles.f k t206).bind fun t209 => (some (wrap64 (t202 - (wrap64 (Int.tdiv (wrap64 ((wrap64 ((t203.length : Int) - (wrap64 ((l0.length : Int) / 2)))) + (t209.length : Int))) 2)))))))) = some r := H
  have A2 := Aside0.mk A20
  clear A20
  replace H := Option.bind_eq_some_iff.mp H
  obtain ⟨t203, A30, H⟩ := H
  replace H : ((spec_l6Dual.f k l0).bind fun t206 => ((spec_l6Cycles.f k t206).bind fun t209 => (some (wrap64 (t202 - (wrap64 (Int.tdiv (wrap64 ((wrap64 ((t203.length : Int) - (wrap64 ((l0.length : Int) / 2)))) + (t209.length : Int))) 2))))))) = some r := H
  have A3 := Aside0.mk A30
  clear A30
  replace H := Option.bind_eq_some_iff.mp H
  obtain ⟨t206, A40, H⟩ := H
  replace H : ((spec_l6Cycles.f k t206).bind fun t209 => (some (wrap64 (t202 - (wrap64 (Int.tdiv (wrap64 ((wrap64 ((t203.length : Int) - (wrap64 ((l0.length : Int) / 2)))) + (t209.length : Int))) 2)))))) = some r := H
  have A4 := Aside0.mk A40
  clear A40
  replace H := Option.bind_eq_some_iff.mp H
  obtain ⟨t209, A50, H⟩ := H
  replace H : (some (wrap64 (t202 - (wrap64 (Int.tdiv (wrap64 ((wrap64 ((t203.length : Int) - (wrap64 ((l0.length : Int) / 2)))) + (t209.length : Int))) 2))))) = some r := H
  have A5 := Aside0.mk A50
  clear A50
  obtain rfl := Option.some.inj H
  go_enter Try.func31, Try.ntmps31
  go_wp2_with (first | ((with_reducible refine gate_callee (f := 43) rfl ?_); refine goesL_ (some 4) rfl rfl Try.func43 (by kernel_rfl) rfl #[.slice A0 l0.length c0] rfl (by (try simp only [List.map_toArray, List.map_cons, List.map_nil]); first | done | rfl | (simp only [List.length_drop, List.length_take]; rfl)) ?_; (with_reducible refine (spec_l6Parts.calls k _ _ l0 t202 _ ?side1 ?side2 A2.out).mono ?_); (case side1 => repeat (first | exact HR0.out | (with_reducible refine Kd.C_alloc ?_ _) | (with_reducible refine Kd.C_drewN ?_ _) | (with_reducible refine Kd.C_drew ?_))); (case side2 => exact HC0.out); rintro e w6 ⟨rfl, hb⟩; refine ⟨_, rfl, ?_⟩; have n0_ := Aside0.mk (below_step (by repeat (first | (with_reducible first | exact HB.out | apply below_alloc | apply pw_below_drewN | apply below_drew1) | exact HB.out)) hb); clear HB; have HB := n0_; clear n0_; (try clear hb); (try clear hb2); (try clear hk); (try clear hi)) | ((with_reducible refine gate_callee (f := 44) rfl ?_); refine goesL_ (some 6) rfl rfl Try.func44 (by kernel_rfl) rfl #[.slice A0 l0.length c0] rfl (by (try simp only [List.map_toArray, List.map_cons, List.map_nil]); first | done | rfl | (simp only [List.length_drop, List.length_take]; rfl)) ?_; (with_reducible refine (spec_l6Cycles.calls k _ _ l0 t203 _ ?side1 ?side2 A3.out).mono ?_); (case side1 => repeat (first | exact (Kd.C_below HR0.out HB.out) | (with_reducible refine Kd.C_alloc ?_ _) | (with_reducible refine Kd.C_drewN ?_ _) | (with_reducible refine Kd.C_drew ?_))); (case side2 => exact HC0.out); rintro e w7 ⟨v204, rfl, ho0, hb⟩; refine ⟨_, rfl, ?_⟩; have n0_ := Aside0.mk (Kd.S_lower ho0 (below_size (by repeat (first | (with_reducible first | exact HB.out | apply below_alloc | apply pw_below_drewN | apply below_drew1) | exact HB.out)))); have n1_ := Aside0.mk (below_step (by repeat (first | (with_reducible first | exact HB.out | apply below_alloc | apply pw_below_drewN | apply below_drew1) | exact HB.out)) hb); clear HB; have HO205 := n0_; have HB := n1_; clear n0_ n1_; (try clear hb); (try clear hb2); (try clear hk); (try clear hi); (try clear ho0); obtain ⟨Ao8, co8, eo8⟩ := Kd.S_slice HO205.out; subst eo8) | ((with_reducible refine gate_callee (f := 45) rfl ?_); refine goesL_ (some 13) rfl rfl Try.func45 (by kernel_rfl) rfl #[.slice A0 l0.length c0] rfl (by (try simp only [List.map_toArray, List.map_cons, List.map_nil]); first | done | rfl | (simp only [List.length_drop, List.length_take]; rfl)) ?_; (with_reducible refine (spec_l6Dual.calls k _ _ l0 t206 _ ?side1 ?side2 A4.out).mono ?_); (case side1 => repeat (first | exact (Kd.C_below HR0.out HB.out) | (with_reducible refine Kd.C_alloc ?_ _) | (with_reducible refine Kd.C_drewN ?_ _) | (with_reducible refine Kd.C_drew ?_))); (case side2 => exact HC0.out); rintro e w9 ⟨v207, rfl, ho0, hb⟩; refine ⟨_, rfl, ?_⟩; have n0_ := Aside0.mk (Kd.S_elder' (by (with_reducible repeat (first | apply Kd.S_alloc | apply Kd.S_drewN | apply Kd.S_drew)); exact HO205.out) (Kd.R_base ho0) hb); have n1_ := Aside0.mk (Kd.R_lower ho0 (below_size (by repeat (first | (with_reducible first | exact HB.out | apply below_alloc | apply pw_below_drewN | apply below_drew1) | exact HB.out)))); have n2_ := Aside0.mk (below_step (by repeat (first | (with_reducible first | exact HB.out | apply below_alloc | apply pw_below_drewN | apply below_drew1) | exact HB.out)) hb); clear HO205; clear HB; have HO205 := n0_; have HO208 := n1_; have HB := n2_; clear n0_ n1_ n2_; (try clear hb); (try clear hb2); (try clear hk); (try clear hi); (try clear ho0); obtain ⟨Ao10, co10, eo10⟩ := Kd.R_slice HO208.out; subst eo10) | ((with_reducible refine gate_callee (f := 44) rfl ?_); refine goesL_ (some 14) rfl rfl Try.func44 (by kernel_rfl) rfl #[.slice Ao10 t206.length co10] rfl (by (try simp only [List.map_toArray, List.map_cons, List.map_nil]); first | done | rfl | (simp only [List.length_drop, List.length_take]; rfl)) ?_; (with_reducible refine (spec_l6Cycles.calls k _ _ t206 t209 _ ?side1 ?side2 A5.out).mono ?_); (case side1 => repeat (first | exact (Kd.R_reads' HO208.out).2.2 | (with_reducible refine Kd.C_alloc ?_ _) | (with_reducible refine Kd.C_drewN ?_ _) | (with_reducible refine Kd.C_drew ?_))); (case side2 => exact (Kd.R_reads' HO208.out).2.1); rintro e w11 ⟨v210, rfl, ho0, hb⟩; refine ⟨_, rfl, ?_⟩; have n0_ := Aside0.mk (Kd.S_elder' (by (with_reducible repeat (first | apply Kd.S_alloc | apply Kd.S_drewN | apply Kd.S_drew)); exact HO205.out) (Kd.S_base ho0) hb); have n1_ := Aside0.mk (Kd.R_below (by (with_reducible repeat (first | apply Kd.R_alloc | apply Kd.R_drewN | apply Kd.R_drew)); exact HO208.out) hb); have n2_ := Aside0.mk (Kd.S_lower (Kd.S_new' (Kd.S_new' ho0 (Kd.S_lt (by (with_reducible repeat (first | apply Kd.S_alloc | apply Kd.S_drewN | apply Kd.S_drew)); exact HO205.out))) (Kd.R_lt (by (with_reducible repeat (first | apply Kd.R_alloc | apply Kd.R_drewN | apply Kd.R_drew)); exact HO208.out))) (below_size (by repeat (first | (with_reducible first | exact HB.out | apply below_alloc | apply pw_below_drewN | apply below_drew1) | exact HB.out)))); have n3_ := Aside0.mk (below_step (by repeat (first | (with_reducible first | exact HB.out | apply below_alloc | apply pw_below_drewN | apply below_drew1) | exact HB.out)) hb); clear HO205; clear HO208; clear HB; have HO205 := n0_; have HO208 := n1_; have HO211 := n2_; have HB := n3_; clear n0_ n1_ n2_ n3_; (try clear hb); (try clear hb2); (try clear hk); (try clear hi); (try clear ho0); obtain ⟨Ao12, co12, eo12⟩ := Kd.S_slice HO211.out; subst eo12))
  go_ret
  exact ⟨by first | rfl | (simp [errW_none, errW_some] <;> rfl) | (simp [*, errW_none, errW_some] <;> rfl), by repeat (first | (with_reducible first | exact HB.out | apply below_alloc | apply pw_below_drewN | apply below_drew1) | exact HB.out)⟩

/-! ### spec_l1Min: function 46 -/
def spec_l1Min.f (a0 : Int) (a1 : Int) : Option (Int) := if a0 < a1 then (some a0) else (some a1)
set_option maxHeartbeats 8000000 in
set_option maxRecDepth 100000 in
theorem spec_l1Min.calls (a0 : Int) (a1 : Int) (r : Int) (w : World) (h : spec_l1Min.f a0 a1 = some r) :
    Calls Try.prog 46 #[.int .i64 a0, .int .i64 a1] w fun e w' => e = .returned (.int .i64 r) ∧ Drawn0 w w' := by
  have H : (if a0 < a1 then (some a0) else (some a1)) = some r := h
  clear h
  by_cases c3 : a0 < a1
  · rw [if_pos c3] at H
    have c3b0 : decide (a0 < a1) = true := decide_eq_true c3
    clear c3
    obtain rfl := Option.some.inj H
    go_enter Try.func46, Try.ntmps46
    go_wp2
    go_ret
    exact ⟨by first | rfl | (simp; done) | (simp [*]; done), by repeat (first | exact Drawn0.refl _ | apply Drawn0.step)⟩
  · rw [if_neg c3] at H
    have c3b0 : decide (a0 < a1) = false := decide_eq_false c3
    clear c3
    obtain rfl := Option.some.inj H
    go_enter Try.func46, Try.ntmps46
    go_wp2
    go_ret
    exact ⟨by first | rfl | (simp; done) | (simp [*]; done), by repeat (first | exact Drawn0.refl _ | apply Drawn0.step)⟩

/-! ### spec_l7Orders: function 32 -/
mutual
def spec_l7Orders.l0 : Nat → List Int → List (List Int) → Int → Option (List (List Int))
  | 0, _, _, _ => none
  | k + 1, l, out, j => if j < (l.length : Int) then (if 0 ≤ j then spec_l7Orders.l1 k l out j [] 0 else none) else some out
def spec_l7Orders.l1 : Nat → List Int → List (List Int) → Int → List (List Int) → Int → Option (List (List Int))
  | 0, _, _, _, _, _ => none
  | k + 1, l, out, j, next, i => if i < (out.length : Int) then (if 0 ≤ i then spec_l7Orders.l2 k l out j next i ((rd_L1 out i).length : Int) else none) else spec_l7Orders.l0 k l next (wrap64 (j + 1))
def spec_l7Orders.l2 : Nat → List Int → List (List Int) → Int → List (List Int) → Int → Int → Option (List (List Int))
  | 0, _, _, _, _, _, _ => none
  | k + 1, l, out, j, next, i, t => (spec_l1Min.f 1 j).bind fun m => if m ≤ t then (if 0 ≤ t ∧ t ≤ ((rd_L1 out i).length : Int) then (if next.length < 1000000 ∧ (rd_L1 out i).length < 1000000 then spec_l7Orders.l2 k l out j (next ++ [(rd_L1 out i).take t.toNat ++ [rd l j] ++ (rd_L1 out i).drop t.toNat]) i (wrap64 (t - 1)) else none) else none) else spec_l7Orders.l1 k l out j next (wrap64 (i + 1))
end
def spec_l7Orders.f (k : Nat) (l0 : List Int) : Option (List (List Int)) := spec_l7Orders.l0 k l0 [[]] 0
theorem spec_l7Orders.mono_l : ∀ k, (∀ a b c, LeO (spec_l7Orders.l0 k a b c) (spec_l7Orders.l0 (k + 1) a b c)) ∧ (∀ a b c d e, LeO (spec_l7Orders.l1 k a b c d e) (spec_l7Orders.l1 (k + 1) a b c d e)) ∧ (∀ a b c d e f, LeO (spec_l7Orders.l2 k a b c d e f) (spec_l7Orders.l2 (k + 1) a b c d e f))
  | 0 => ⟨fun _ _ _ r h => by simp [spec_l7Orders.l0] at h, fun _ _ _ _ _ r h => by simp [spec_l7Orders.l1] at h, fun _ _ _ _ _ _ r h => by simp [spec_l7Orders.l2] at h⟩
  | k + 1 => by
    obtain ⟨i0, i1, i2⟩ := spec_l7Orders.mono_l k
    refine ⟨fun a b c => ?_, fun a b c d e => ?_, fun a b c d e f => ?_⟩
    · rw [spec_l7Orders.l0, spec_l7Orders.l0]
      exact LeO.ite (LeO.ite (i1 _ _ _ _ _) (LeO.refl _)) (LeO.refl _)
    · rw [spec_l7Orders.l1, spec_l7Orders.l1]
      exact LeO.ite (LeO.ite (i2 _ _ _ _ _ _) (LeO.refl _)) (i0 _ _ _)
    · rw [spec_l7Orders.l2, spec_l7Orders.l2]
      exact LeO.bind (LeO.refl _) fun _ => LeO.ite (LeO.ite (LeO.ite (i2 _ _ _ _ _ _) (LeO.refl _)) (LeO.refl _)) (i1 _ _ _ _ _)
theorem spec_l7Orders.mono : ∀ a0 k, LeO (spec_l7Orders.f k a0) (spec_l7Orders.f (k + 1) a0) := fun a0 k => (spec_l7Orders.mono_l k).1 _ _ _
theorem spec_l7Orders.lit0 {α : Type} {d : Kd α} {e : Nat} {W : World} {base b : Nat} {ok : Nat → Prop} (hb : W.heap[b]? = some (.cells #[] e (0, 0))) (hlb : base ≤ b) (hok : ok b) : d.R e W base ok (.slice (some ⟨b, 0, none⟩) 0 0) ([] : List α) :=
  ⟨fun k hk => by obtain rfl : b = k := by simpa [Value.ownBlock] using hk
                  exact hok, [], ⟨by simp, .inr ⟨b, 0, #[], rfl, hlb, hb, by simp, by simp, by simp, by simp⟩⟩, Reps.none _ _⟩
theorem spec_l7Orders.lit1 {W : World} {base b : Nat} {ok okp : Nat → Prop} {x : List Int} {Ao : Option Addr} {co : Nat} (hb : W.heap[b]? = some (.cells #[.slice Ao x.length co] 24 (0, 0))) (hx : Kd.R (Kd.int .i64) 3 W base okp (.slice Ao x.length co) x) (hlb : base ≤ b) (hok : ok b) (ho : ∀ k, okp k → ok k ∧ k ≠ b) : Kd.S (Kd.slice 3 (Kd.int .i64)) 24 W base ok (.slice (some ⟨b, 0, none⟩) 1 1) [x] := by
  refine ⟨fun _ => 0, fun k hk => by obtain rfl : b = k := by simpa [Value.ownBlock] using hk
                                     exact hok, [.slice Ao x.length co], ⟨rfl, .inr ⟨b, 1, #[.slice Ao x.length co], rfl, hlb, hb, by simp, by simp [maxLen], rfl, rfl⟩⟩, rfl, fun j p hj => ?_⟩
  rcases j with _ | j
  · obtain rfl : (x, 0) = p := by simpa using hj
    exact Kd.M_row (Kd.R_mono hx (fun k hk => ⟨⟨(ho k hk).1, fun e => (ho k hk).2 (by simpa [Value.ownBlock] using e)⟩, rfl⟩))
  · simp at hj
theorem spec_l7Orders.elder {w w1 w2 : World} {v : Value} (hb : Below w.heap.size w w1) (hg : w1.grownBy w2 v.ownBlock) (hv : ∀ k, v.ownBlock = some k → w.heap.size ≤ k) : Below w.heap.size w w2 :=
  ⟨hg.os.trans hb.os, hg.tape.trans hb.tape, hg.output.trans hb.output, Nat.le_trans hb.size hg.size, fun k hk => (hg.block k (Nat.lt_of_lt_of_le hk hb.size) (fun e => by have := hv k e.symm; omega)).trans (hb.block k hk)⟩
theorem spec_l7Orders.keep {w W : World} {p q : Addr} {u v : Value} (h : w.cell? p = some u) (h' : w.cell? q = some v) (hb : Below w.heap.size w W) : W.cell? p = some u ∧ W.cell? q = some v :=
  ⟨(hb.cell (World.block_lt_of_cell? w _ h)).trans h, (hb.cell (World.block_lt_of_cell? w _ h')).trans h'⟩
section
variable {ops : Array Oper} {o : Oper} {a : Act} {W : World} {Q : Exit → Act → World → Prop} {Kc : Act → World → Prop}
theorem spec_l7Orders.gate (y z : Operand) (t : TypeId) {p : Prop} (_ : o.op = .call { callee := .builtin .append, args := #[y, z], argTypes := #[t, t] }) (h : if Region.wanted o (yielded ops a.tmps) = true then Oper.wp Try.prog o a W Kc Q else p) : if Region.wanted o (yielded ops a.tmps) = true then Oper.wp Try.prog o a W Kc Q else p := h
/-- numbers are appended to a row of the call's own -/
theorem spec_l7Orders.appi {w : World} (hgd : o.guard = none) (s x : Operand) (ho : o.op = .call { callee := .builtin .append, args := #[s, x], argTypes := #[24, 24] }) (v : Value) (A : Option Addr) (m c : Nat) (xs ys : List Int)
    (hs : a.eval s = v) (hx : a.eval x = .slice A m c) (HO : Kd.R (Kd.int .i64) 3 W w.heap.size (fun _ => True) v xs) (HR : Kd.C (Kd.int .i64) W A m ys) (HB : Below w.heap.size w W) (hl : xs.length + m < 8000000)
    (h : ∀ v1 w1, Kd.R (Kd.int .i64) 3 w1 w.heap.size (fun _ => True) v1 (xs ++ ys) → Below w.heap.size w w1 → W.grownBy w1 v.ownBlock → Kc (a.put o.dst v1) w1) :
    if Region.wanted o (yielded ops a.tmps) = true then Oper.wp Try.prog o a W Kc Q else Kc (a.put o.dst undef) W := by
  refine Kd.R_append_rows_step (Kd.int .i64) (Rr := (Kd.int .i64).K W) (w0 := w) w.heap.size (by simp [Region.wanted, hgd]) s x 24 3 (.int .i64 0) 8 ho Try.underlying24 info3 rfl (show (0 : Nat) < 1 by omega) (by omega) v xs ys A m c (fun _ => True) (fun _ => False) hs hx HO HR (fun _ _ hk => hk) (fun _ hk => hk.elim) (fun _ _ => trivial) HB HB.size (by omega) (fun v1 w1 h1 h2 h3 _ => h v1 w1 h1 h2 h3)
/-- one number, as it was laid -/
theorem spec_l7Orders.liti {b : Nat} {x : Int} (hb : W.heap[b]? = some (.cells #[.int .i64 x] 3 (0, 0))) : Kd.C (Kd.int .i64) W (some ⟨b, 0, none⟩) 1 [x] := by
  have h : Kd.R (Kd.int .i64) 3 W 0 (fun _ => True) (.slice (some ⟨b, 0, none⟩) 1 1) [x] := by
    refine ⟨fun _ _ => trivial, [.int .i64 x], ⟨rfl, .inr ⟨b, 1, #[.int .i64 x], rfl, Nat.zero_le _, hb, by simp, by simp [maxLen], rfl, rfl⟩⟩, rfl, fun j p hj => ?_⟩
    rcases j with _ | j
    · obtain rfl : x = p := by simpa using hj
      exact rfl
    · simp at hj
  exact (Kd.R_reads' h).2.2
theorem spec_l7Orders.hp1 (W : World) (o o' : Obj) : ((W.alloc o).alloc o').heap[W.heap.size]? = some o := ((below_alloc (Below.refl _ _) o').block _ (by show _ < (W.heap.push _).size; simp)).trans (heap_alloc_new W o)
theorem spec_l7Orders.hp2 (W : World) (o o' : Obj) : ((W.alloc o).alloc o').heap[W.heap.size + 1]? = some o' := by
  have := heap_alloc_new (W.alloc o) o'
  have e : (W.alloc o).heap.size = W.heap.size + 1 := by show (W.heap.push _).size = _; simp
  rw [e] at this
  exact this
end
theorem spec_l7Orders.first (w : World) : Kd.S (Kd.slice 3 (Kd.int .i64)) 24 ((w.alloc (.cells #[] 3)).alloc (.cells #[.slice (some ⟨w.heap.size, 0, none⟩) 0 0] 24)) w.heap.size (fun _ => True) (.slice (some ⟨w.heap.size + 1, 0, none⟩) 1 1) [[]] := by
  have e0 : ((w.alloc (.cells #[] 3)).alloc (.cells #[.slice (some ⟨w.heap.size, 0, none⟩) 0 0] 24)).heap[w.heap.size]? = some (.cells #[] 3 (0, 0)) := by
    show ((w.heap.push _).push _)[w.heap.size]? = _
    rw [Array.getElem?_push, if_neg (by simp), Array.getElem?_push, if_pos rfl]
  have e1 : ((w.alloc (.cells #[] 3)).alloc (.cells #[.slice (some ⟨w.heap.size, 0, none⟩) 0 0] 24)).heap[w.heap.size + 1]? = some (.cells #[.slice (some ⟨w.heap.size, 0, none⟩) 0 0] 24 (0, 0)) := by
    show ((w.heap.push _).push _)[w.heap.size + 1]? = _
    rw [Array.getElem?_push, if_pos (by simp)]
  exact spec_l7Orders.lit1 (x := []) (okp := fun k => k = w.heap.size) e1 (spec_l7Orders.lit0 e0 (Nat.le_refl _) rfl) (by omega) trivial (fun k hk => ⟨trivial, by omega⟩)
set_option maxHeartbeats 8000000 in
set_option maxRecDepth 100000 in
theorem spec_l7Orders.calls (k : Nat) (A0 : Option Addr) (c0 : Nat) (l0 : List Int) (r : List (List Int)) (w : World) (hr0 : Kd.C (Kd.int .i64) w A0 l0.length l0) (hc0 : l0.length ≤ c0) (h : spec_l7Orders.f k l0 = some r) :
    Calls Try.prog 32 #[.slice A0 l0.length c0] w fun e w' => ∃ v0_ : Value, e = .returned (v0_) ∧ Kd.S (Kd.slice 3 (Kd.int .i64)) 24 w' w.heap.size (fun _ => True) v0_ r ∧ Below w.heap.size w w' := by
  have HR0 := Aside0.mk hr0
  have HC0 := Aside0.mk hc0
  have H := Aside0.mk (show spec_l7Orders.l0 k l0 [[]] 0 = some r from h)
  clear hr0 hc0 h
  go_enter Try.func32, Try.ntmps32
  go_wp2
  go_loopg [3, 4] k (fun kq v3 v4 w' => ∃ (out : List (List Int)) (j : Int), v4 = .int .i64 j ∧ Aside0 (spec_l7Orders.l0 kq l0 out j = some r) ∧ Aside0 (kq ≤ k) ∧ Aside0 (Kd.S (Kd.slice 3 (Kd.int .i64)) 24 w' w.heap.size (fun _ => True) v3 out) ∧ Aside0 (Below w.heap.size w w'))
  case atStart => exact ⟨[[]], 0, rfl, H, ⟨Nat.le_refl _⟩, ⟨spec_l7Orders.first w⟩, ⟨below_alloc (below_alloc (Below.refl _ _) _) _⟩⟩
  case round =>
    clear H
    obtain ⟨out, j, rfl, HA, HK1, HO, HB⟩ := hrel
    cases gk with
    | zero => exact absurd HA.out (by simp [spec_l7Orders.l0])
    | succ k1 =>
      have H := HA.out
      clear HA
      rw [spec_l7Orders.l0] at H
      obtain ⟨A3, c3, hv3⟩ := Kd.S_slice HO.out
      subst hv3
      by_cases c1 : j < (l0.length : Int)
      · rw [if_pos c1] at H
        have c1b0 : decide (j < (l0.length : Int)) = true := decide_eq_true c1
        by_cases c2 : 0 ≤ j
        · rw [if_pos c2] at H
          have H' := Aside0.mk H
          have HJ := Aside0.mk (And.intro c1 c2)
          have HC := Aside0.mk (Kd.S_reads' HO.out).2.2
          have HCC := Aside0.mk (Kd.S_reads' HO.out).2.1
          clear H c1 c2
          go_wp2
          go_loopg [5, 6] k1 (fun kq v5 v6 w' => ∃ (next : List (List Int)) (i : Int), v6 = .int .i64 i ∧ Aside0 (spec_l7Orders.l1 kq l0 out j next i = some r) ∧ Aside0 (kq ≤ k1) ∧ Aside0 (Kd.S (Kd.slice 3 (Kd.int .i64)) 24 w' wr.heap.size (fun _ => True) v5 next) ∧ Aside0 (Below wr.heap.size wr w'))
          case atStart => exact ⟨[], 0, rfl, H', ⟨Nat.le_refl _⟩, ⟨fun _ => 0, spec_l7Orders.lit0 (heap_alloc_new _ _) (Nat.le_refl _) trivial⟩, ⟨below_alloc (Below.refl _ _) _⟩⟩
          case round =>
            clear H'
            rename World => w1
            obtain ⟨next, i, rfl, HA, HK2, HN, HD⟩ := hrel
            cases gk with
            | zero => exact absurd HA.out (by simp [spec_l7Orders.l1])
            | succ k2 =>
              have H := HA.out
              clear HA
              rw [spec_l7Orders.l1] at H
              by_cases c1 : i < (out.length : Int)
              · rw [if_pos c1] at H
                have c3b0 : decide (i < (out.length : Int)) = true := decide_eq_true c1
                by_cases c2 : 0 ≤ i
                · rw [if_pos c2] at H
                  have H' := Aside0.mk H
                  obtain ⟨ad, A5, k5, e5, hx5, hl5, hi5⟩ := at_L1 HC.out i c2 c1
                  subst e5
                  have HX5 := Aside0.mk hx5
                  have HR5 := Aside0.mk hi5
                  have HC5 := Aside0.mk hl5
                  have hx := (HD.out.cell (World.block_lt_of_cell? wr _ hx5)).trans hx5
                  have HI := Aside0.mk (And.intro c1 c2)
                  replace c1 := eq_true c1
                  replace c2 := eq_true c2
                  clear H hx5 hi5 hl5
                  go_wp2
                  clear hx
                  go_loopg [5, 7] k2 (fun kq v5 v7 w' => ∃ (next : List (List Int)) (t : Int), v7 = .int .i64 t ∧ Aside0 (spec_l7Orders.l2 kq l0 out j next i t = some r) ∧ Aside0 (kq ≤ k2) ∧ Aside0 (Kd.S (Kd.slice 3 (Kd.int .i64)) 24 w' wr.heap.size (fun _ => True) v5 next) ∧ Aside0 (Below wr.heap.size wr w'))
                  case atStart => exact ⟨next, _, rfl, H', ⟨Nat.le_refl _⟩, HN, HD⟩
                  case round =>
                    clear H' HN HD
                    rename World => w2
                    obtain ⟨next, t, rfl, HA, HK3, HN, HD⟩ := hrel
                    cases gk with
                    | zero => exact absurd HA.out (by simp [spec_l7Orders.l2])
                    | succ k3 =>
                      have H := HA.out
                      clear HA
                      rw [spec_l7Orders.l2] at H
                      obtain ⟨m, hm, H⟩ := Option.bind_eq_some_iff.mp H
                      have HM := Aside0.mk hm
                      have H' := Aside0.mk H
                      clear hm H
                      go_wp2_with fail
                      (go_at_call 46; (with_reducible refine (spec_l1Min.calls 1 j m _ HM.out).mono ?_))
                      rintro e w3 ⟨rfl, hd⟩
                      obtain ⟨n3, rfl⟩ := hd.out
                      have HN3 := Aside0.mk (Kd.S_drewN HN.out n3)
                      have HD3 := Aside0.mk (pw_below_drewN HD.out n3)
                      clear hd HN HD HM
                      generalize w2.drewN n3 = w3 at HN3 HD3 ⊢
                      by_cases c4 : m ≤ t
                      · have H := H'.out
                        rw [if_pos c4] at H
                        have c4b0 : decide (m ≤ t) = true := decide_eq_true c4
                        by_cases c5 : 0 ≤ t ∧ t ≤ ((rd_L1 out i).length : Int)
                        · rw [if_pos c5] at H
                          by_cases c6 : next.length < 1000000 ∧ (rd_L1 out i).length < 1000000
                          · rw [if_pos c6] at H
                            have H1 := Aside0.mk H
                            have LM := Aside0.mk c6
                            obtain ⟨c5a, c5b⟩ := c5
                            clear H H' c4
                            obtain ⟨tn, rfl⟩ : ∃ tn : Nat, t = tn := ⟨t.toNat, by omega⟩
                            have HT := Aside0.mk (show tn ≤ (rd_L1 out i).length by omega)
                            have q1 := eq_true c5a
                            have q2 := eq_true c5b
                            have q3 : ((tn : Int) ≤ (k5 : Int)) = True := eq_true (by have := HC5.out; omega)
                            have q4 : ((rd_L1 out i).length : Int) ≤ (k5 : Int) := by have := HC5.out; omega
                            have HD4 := Aside0.mk (below_alloc HD3.out (.cells #[] 3))
                            have hx := (HD4.out.cell (World.block_lt_of_cell? wr _ HX5.out)).trans HX5.out
                            obtain ⟨p1, p2⟩ := HI.out
                            replace p1 := eq_true p1
                            replace p2 := eq_true p2
                            obtain ⟨tl, htl⟩ : ∃ y, y = (rd_L1 out i).drop tn := ⟨_, rfl⟩
                            obtain ⟨tk, htk⟩ : ∃ y, y = (rd_L1 out i).take tn := ⟨_, rfl⟩
                            obtain ⟨ii, hi_, _, hsz, _⟩ := info_parts info3
                            have hcut := cut_from (P := Try.prog) 24 3 .i64 Try.underlying24 hi_ 1 hsz A5 (rd_L1 out i).length k5 (tn : Int) c5a c5b
                            rw [Int.toNat_natCast, ← List.length_drop, ← htl] at hcut
                            obtain ⟨At, hAt⟩ : ∃ A1, A1 = (if k5 = tn then A5 else A5.map (·.add (tn * 1))) := ⟨_, rfl⟩
                            rw [← hAt] at hcut
                            have HTl := Aside0.mk (show Kd.C (Kd.int .i64) wr At tl.length tl by rw [hAt, htl]; exact Kd.C_drop (k := Kd.int .i64) (m := tn) (c := k5) HR5.out HT.out HC5.out)
                            have hcut2 := cut_to (P := Try.prog) 24 3 .i64 Try.underlying24 hi_ A5 (rd_L1 out i).length k5 (tn : Int) c5a c5b HC5.out
                            rw [Int.toNat_natCast] at hcut2
                            have et : tk.length = tn := by rw [htk, List.length_take]; have := HT.out; omega
                            have HTk := Aside0.mk (show Kd.C (Kd.int .i64) wr A5 tn tk by rw [← et, htk]; exact Kd.C_take HR5.out HT.out)
                            have ed : tl.length < 2000000 := by rw [htl, List.length_drop]; have := LM.out; omega
                            have H1 := Aside0.mk (show spec_l7Orders.l2 k3 l0 out j (next ++ [tk ++ [rd l0 j] ++ tl]) i (wrap64 ((tn : Int) - 1)) = some r by have h := H1.out; rw [Int.toNat_natCast, ← htl, ← htk] at h; exact h)
                            have HED := Aside0.mk ed
                            have HET := Aside0.mk (show tn < 2000000 by have := HT.out; have := LM.out; omega)
                            clear c5a c5b hAt hi_ hsz ed et htl htk
                            go_wp2_with (first | ((with_reducible refine gate_builtin (b := .append) (xs := #[.tmp 35, .tmp 41]) rfl ?_); at_builtin; refine Kd.R_append_row (Value.int .i64) (0 : Int) (h1 := fun _ => rfl) (w0 := wr) wr.heap.size rfl (.tmp 35) (.tmp 41) 24 3 (.int .i64 0) 8 rfl Try.underlying24 info3 rfl (by decide) (.slice (some ⟨w3.heap.size, 0, none⟩) 0 0) [] tl At tl.length (k5 - tn) (fun k => w3.heap.size ≤ k) rfl rfl (fun k hk => Nat.le_trans (below_alloc (Below.refl w3.heap.size w3) _).size hk) (spec_l7Orders.lit0 (heap_alloc_new _ _) HD3.out.size (Nat.le_refl _)) (Kd.C_below HTl.out HD4.out) HD4.out HD4.out.size (by have := HED.out; simp; omega) ?_; intro v5 w5 hR5 hB5 hG5 _; obtain ⟨A6, c6', rfl⟩ := Kd.R_slice hR5; have hE5 := spec_l7Orders.elder (below_alloc (Below.refl w3.heap.size w3) _) hG5 (fun k hk => by simp [Value.ownBlock] at hk; omega); rw [List.nil_append] at hR5; have HN5 := Aside0.mk (Kd.S_below HN3.out hE5); have HR6 := Aside0.mk hR5; have HB5 := Aside0.mk hB5; have HZ5 := Aside0.mk hE5.size; clear hR5 hB5 hG5 hE5))
                            have HX6 := ((HB5.out.cell (World.block_lt_of_cell? wr _ HX5.out)).trans HX5.out)
                            have HXo := Aside0.mk HX6
                            obtain ⟨adl, el, hxl⟩ := Kd.at_int HR0.out j HJ.out.2 HJ.out.1
                            subst el
                            have HXr := Aside0.mk ((HB.out.cell (World.block_lt_of_cell? w _ hxl)).trans hxl)
                            have HXl := Aside0.mk (((below_step HB.out HB5.out).cell (World.block_lt_of_cell? w _ hxl)).trans hxl)
                            have HTk5 := Aside0.mk (Kd.C_below HTk.out HB5.out)
                            have HTl5 := Aside0.mk (Kd.R_reads' HR6.out).2.2
                            obtain ⟨A4, c4, hv4⟩ := Kd.S_slice HN5.out
                            subst hv4
                            have p3 := eq_true HJ.out.2
                            have p4 := eq_true HJ.out.1
                            have HL1 : ([] : List Int).length + tn < 8000000 := by have := HET.out; simp; omega
                            have HLk : tk.length = tn := HTk.out.1
                            obtain ⟨y, hy⟩ : ∃ y, y = tk ++ [rd l0 j] ++ tl := ⟨_, rfl⟩
                            have H2 := Aside0.mk (show spec_l7Orders.l2 k3 l0 out j (next ++ [y]) i (wrap64 ((tn : Int) - 1)) = some r by rw [hy]; exact H1.out)
                            have HY := Aside0.mk hy
                            have HLK := Aside0.mk HLk
                            have HL2 : ([] ++ tk).length + 1 < 8000000 := by have := HET.out; simp; omega
                            have HL3 : ([] ++ tk ++ [rd l0 j]).length + tl.length < 8000000 := by have := HET.out; have := HED.out; simp; omega
                            have HL4 : (next.length + 1) * 24 ≤ 140737488355328 := by have := LM.out; omega
                            have HNb := Aside0.mk (Kd.S_bound HN5.out)
                            clear hx HX6 hxl hcut hy HLk
                            go_region_held3 (fun W' => W'.cell? (ad.add i.toNat) = some (.slice A5 (rd_L1 out i).length k5) ∧ W'.cell? (adl.add j.toNat) = some (.int .i64 (rd l0 j)))
                              (first | (refine spec_l7Orders.keep HX5.out HXr.out hB9) | (refine spec_l7Orders.keep HXo.out HXl.out ?_; repeat (first | assumption | exact Below.refl _ _ | apply below_drew1 | apply below_alloc)))
                              (first
                                | ((with_reducible refine spec_l7Orders.gate (.tmp 44) (.tmp 50) 24 rfl ?_); refine spec_l7Orders.appi (w := w5) (by rfl) (.tmp 44) (.tmp 50) (by rfl) (.slice (some ⟨w5.heap.size, 0, none⟩) 0 0) A5 tn k5 [] tk (by rfl) (by rfl) (spec_l7Orders.lit0 (heap_alloc_new w5 _) (Nat.le_refl _) trivial) (Kd.C_below HTk5.out (below_drew1 (below_alloc (Below.refl _ _) _))) (below_drew1 (below_alloc (Below.refl _ _) _)) HL1 ?_; intro v6 w6 hR6 hB6 hG6; clear hG6)
                                | ((with_reducible refine spec_l7Orders.gate (.tmp 44) (.tmp 50) 24 rfl ?_); refine spec_l7Orders.appi (w := w5) (by rfl) (.tmp 44) (.tmp 50) (by rfl) (.slice (some ⟨w5.heap.size + 1, 0, none⟩) 0 0) A5 tn k5 [] tk (by rfl) (by rfl) (spec_l7Orders.lit0 (spec_l7Orders.hp2 w5 _ _) (Nat.le_succ _) trivial) (Kd.C_below HTk5.out (below_drew1 (below_alloc (below_alloc (Below.refl _ _) _) _))) (below_drew1 (below_alloc (below_alloc (Below.refl _ _) _) _)) HL1 ?_; intro v6 w6 hR6 hB6 hG6; have hq := (hG6.block w5.heap.size (by show _ < ((w5.heap.push _).push _).size; simp only [Array.size_push]; omega) (by simp [Value.ownBlock])).trans (spec_l7Orders.hp1 w5 _ _); clear hG6)
                                | ((with_reducible refine spec_l7Orders.gate (.tmp 44) (.tmp 50) 24 rfl ?_); refine spec_l7Orders.appi (w := w5) (by rfl) (.tmp 44) (.tmp 50) (by rfl) (.slice (some ⟨w5.heap.size, 0, none⟩) 0 0) A5 tn k5 [] tk (by rfl) (by rfl) (spec_l7Orders.lit0 (spec_l7Orders.hp1 w5 _ _) (Nat.le_refl _) trivial) (Kd.C_below HTk5.out (below_drew1 (below_alloc (below_alloc (Below.refl _ _) _) _))) (below_drew1 (below_alloc (below_alloc (Below.refl _ _) _) _)) HL1 ?_; intro v6 w6 hR6 hB6 hG6; have hq := (hG6.block (w5.heap.size + 1) (by show _ < ((w5.heap.push _).push _).size; simp only [Array.size_push]; omega) (by simp [Value.ownBlock])).trans (spec_l7Orders.hp2 w5 _ _); clear hG6)
                                | ((with_reducible refine spec_l7Orders.gate (.tmp 51) (.tmp 56) 24 rfl ?_); refine spec_l7Orders.appi (w := w5) (by rfl) (.tmp 51) (.tmp 56) (by rfl) v6 _ 1 1 ([] ++ tk) [rd l0 j] (by rfl) (by rfl) (Kd.R_alloc hR6 _) (spec_l7Orders.liti (heap_alloc_new w6 _)) (below_alloc hB6 _) HL2 ?_; intro v7 w7 hR7 hB7 hG7; clear hG7)
                                | ((with_reducible refine spec_l7Orders.gate (.tmp 51) (.tmp 56) 24 rfl ?_); refine spec_l7Orders.appi (w := w5) (by rfl) (.tmp 51) (.tmp 56) (by rfl) v6 _ 1 1 ([] ++ tk) [rd l0 j] (by rfl) (by rfl) hR6 (spec_l7Orders.liti hq) hB6 HL2 ?_; intro v7 w7 hR7 hB7 hG7; clear hG7)
                                | ((with_reducible refine spec_l7Orders.gate (.tmp 57) (.tmp 58) 24 rfl ?_); refine spec_l7Orders.appi (w := w5) (by rfl) (.tmp 57) (.tmp 58) (by rfl) v7 A6 tl.length c6' ([] ++ tk ++ [rd l0 j]) tl (by rfl) (by rfl) hR7 (Kd.C_below HTl5.out hB7) hB7 HL3 ?_; intro v8 w8 hR8 hB8 hG8; rw [List.nil_append, ← HY.out] at hR8; obtain ⟨A8, c8, rfl⟩ := Kd.R_slice hR8; clear hG8)
                                | ((with_reducible refine spec_l7Orders.gate (.tmp 43) (.tmp 60) 22 rfl ?_); refine Kd.S_append_step (Kd.slice 3 (Kd.int .i64)) (w0 := wr) wr.heap.size (by simp [Region.wanted]) (.tmp 43) (.tmp 60) 22 24 (.slice none 0 0) 24 (by rfl) Try.underlying22 info24 rfl (show (0 : Nat) < 1 by omega) (by omega) (.slice A4 next.length c4) next y [.slice A8 y.length c8] (fun _ => True) (fun k => w5.heap.size ≤ k) (by rfl) (by rfl) (Kd.M_row (Kd.R_lower (Kd.R_mono (Kd.R_bound hR8) (fun k q => q.2.1)) HB5.out.size)) (fun k hk => ⟨trivial, fun e => absurd (Kd.S_lt HN5.out k e.symm) (by omega)⟩) (fun _ _ => trivial) (Kd.S_mono (Kd.S_below HNb.out hB8) (fun k hk => ⟨trivial, by have := hk.2.2.1; omega⟩)) (below_step HB5.out hB8) (Nat.le_trans HB5.out.size hB8.size) HL4 ?_; intro v9 w9 hS9 hB9 hG9 _; obtain ⟨A9, c9, rfl⟩ := Kd.S_slice hS9))
                            all_goals as_aux_lemma =>
                              go_wp2
                              go_roundg k3
                              case measure => have := HK1.out; have := HK2.out; have := HK3.out; omega
                              case rel => exact ⟨next ++ [y], (tn : Int) - 1, rfl, ⟨by have h := H2.out; rw [show wrap64 ((tn : Int) - 1) = (tn : Int) - 1 by have := HET.out; unfold wrap64; omega] at h; exact h⟩, ⟨by have := HK1.out; have := HK2.out; have := HK3.out; omega⟩, ⟨by rw [show next.length + 1 = (next ++ [y]).length by simp]; exact hS9⟩, ⟨hB9⟩⟩
                          · rw [if_neg c6] at H
                            exact absurd H (by simp)
                        · rw [if_neg c5] at H
                          exact absurd H (by simp)
                      · have H := H'.out
                        rw [if_neg c4] at H
                        have c4b0 : decide (m ≤ t) = false := decide_eq_false c4
                        have H1 := Aside0.mk H
                        clear H H' c4
                        go_wp2
                        go_roundg k3
                        case measure => have := HK1.out; have := HK2.out; have := HK3.out; omega
                        case rel => exact ⟨next, _, rfl, H1, ⟨by have := HK1.out; have := HK2.out; have := HK3.out; omega⟩, HN3, HD3⟩
                · rw [if_neg c2] at H
                  exact absurd H (by simp)
              · rw [if_neg c1] at H
                have c3b0 : decide (i < (out.length : Int)) = false := decide_eq_false c1
                have H' := Aside0.mk H
                clear H c1
                go_wp2
                go_roundg k2
                case measure => have := HK1.out; have := HK2.out; omega
                case rel => exact ⟨next, _, rfl, H', ⟨by have := HK1.out; have := HK2.out; omega⟩, ⟨Kd.S_lower HN.out HB.out.size⟩, ⟨below_step HB.out HD.out⟩⟩
        · rw [if_neg c2] at H
          exact absurd H (by simp)
      · rw [if_neg c1] at H
        have c1b0 : decide (j < (l0.length : Int)) = false := decide_eq_false c1
        obtain rfl := Option.some.inj H
        clear c1 H
        go_wp2
        go_ret
        exact ⟨_, rfl, HO.out, HB.out⟩

/-! ### spec_l7Ring: function 34 -/
def spec_l7Ring.l0 : Nat → List Int → List Int → Int → Option (List Int)
  | 0, _, _, _ => none
  | k + 1, x0, x1, x4 => if x4 < (x1.length : Int) then (if 0 ≤ x4 then (if (x1.length : Int) = 0 then (none) else (if 0 ≤ (Int.tmod (wrap64 (x4 + 1)) (x1.length : Int)) then (if (Int.tmod (wrap64 (x4 + 1)) (x1.length : Int)) < (x1.length : Int) then (if 0 ≤ (rd x1 x4) then (if (rd x1 x4) < (x0.length : Int) then (spec_l7Ring.l0 k (x0.set ((rd x1 x4) : Int).toNat (rd x1 (Int.tmod (wrap64 (x4 + 1)) (x1.length : Int)))) x1 (wrap64 (x4 + 1))) else (none)) else (none)) else (none)) else (none))) else (none)) else (some x0)
def spec_l7Ring.f (k : Nat) (l0 : List Int) (l1 : List Int) : Option (List Int) := spec_l7Ring.l0 k l0 l1 0
theorem spec_l7Ring.mono_l : ∀ k, (∀ y0 y1 y2, LeO (spec_l7Ring.l0 k y0 y1 y2) (spec_l7Ring.l0 (k + 1) y0 y1 y2))
  | 0 => fun _ _ _ r h => by simp [spec_l7Ring.l0] at h
  | k + 1 => by
    have ih0 := spec_l7Ring.mono_l k
    · intro y0 y1 y2
      unfold spec_l7Ring.l0
      repeat' first
      | (with_reducible exact ih0 _ _ _)
      | (with_reducible exact LeO.refl _)
      | (with_reducible exact LeO.none _)
      | (with_reducible refine LeO.ite ?_ ?_)
      | (with_reducible refine LeO.bind ?_ (fun _ => ?_))
      | exact ih0 _ _ _
      | exact LeO.none _
      | refine LeO.ite ?_ ?_
      | refine LeO.bind ?_ (fun _ => ?_)
theorem spec_l7Ring.mono : ∀ a0 a1 k, LeO (spec_l7Ring.f k a0 a1) (spec_l7Ring.f (k + 1) a0 a1) := by
  intro a0 a1 k
  have ih0 := spec_l7Ring.mono_l k
  unfold spec_l7Ring.f
  repeat' first
      | (with_reducible exact ih0 _ _ _)
      | (with_reducible exact LeO.refl _)
      | (with_reducible exact LeO.none _)
      | (with_reducible refine LeO.ite ?_ ?_)
      | (with_reducible refine LeO.bind ?_ (fun _ => ?_))
      | exact ih0 _ _ _
      | exact LeO.none _
      | refine LeO.ite ?_ ?_
      | refine LeO.bind ?_ (fun _ => ?_)
def spec_l7Ring.T3 : Bool × List (List Nat × List Nat) := (true, [([], []), ([], []), ([], []), ([1, 2], [1, 2]), ([3], [3]), ([], []), ([], []), ([6], [6]), ([], []), ([8], [8]), ([7, 9], [7, 9]), ([5, 10], [5, 10]), ([11], [11]), ([0, 4, 0, 1, 2, 3, 4, 5, 6, 7, 8, 9, 10, 11, 12], [0, 4]), ([13, 12, 0, 1, 2, 3, 4, 5, 6, 7, 8, 9, 10, 11, 12], [12, 13])])
def spec_l7Ring.B3 : List Nat := [0, 0, 0, 6, 14, 0, 0, 64, 0, 256, 960, 2016, 4064, 8191, 16383]
theorem spec_l7Ring.tab3 : rtab .any (opsOf Try.f34 3) = spec_l7Ring.T3 := by kernel_rfl
theorem spec_l7Ring.bits3 : waitsOk spec_l7Ring.T3.2 spec_l7Ring.B3 = true := by kernel_rfl
set_option maxHeartbeats 8000000 in
set_option maxRecDepth 100000 in
theorem spec_l7Ring.calls (k : Nat) (P0_ : Nat → Prop) (u9000_ : Value) (l0 : List Int) (A1 : Option Addr) (c1 : Nat) (l1 : List Int) (r : List Int) (w0 w : World) (hB : Below w0.heap.size w0 w) (ho0 : Kd.R (Kd.int .i64) 3 w w0.heap.size P0_ u9000_ l0) (hr1 : ∀ W_, Kept w W_ (fun k_ => P0_ k_) → Kd.C (Kd.int .i64) W_ A1 l1.length l1) (hc1 : l1.length ≤ c1) (h : spec_l7Ring.f k l0 l1 = some r) :
    Calls Try.prog 34 #[u9000_, .slice A1 l1.length c1] w fun e w' => e = .returned (.tuple #[]) ∧ Kd.R (Kd.int .i64) 3 w' w0.heap.size (fun k_ => (P0_ k_ ∨ w.heap.size ≤ k_)) u9000_ r ∧ Below w0.heap.size w0 w' ∧ Kept w w' (fun k_ => P0_ k_) := by
  have HO0 := Aside0.mk (show Kd.R (Kd.int .i64) 3 w w0.heap.size (fun k_ => (P0_ k_ ∨ w.heap.size ≤ k_)) u9000_ l0 from Kd.R_mono ho0 (fun k_ hk => (.inl hk)))
  have HR1 := Aside0.mk hr1
  have HC1 := Aside0.mk hc1
  clear hr1 hc1
  have HK := Aside0.mk (Kept.refl w (fun k_ => P0_ k_))
  have HW0 := Aside0.mk hB.size
  have HB := Aside0.mk hB
  clear hB
  have H : (spec_l7Ring.l0 k l0 l1 0) = some r := h
  clear h
  have H' := Aside0.mk H
  clear H
  go_enter Try.func34, Try.ntmps34
  go_wp2
  go_loopg [4] k (fun kq v4 w' => ∃ (x0_1 : List Int) (x4_1 : Int), v4 = .int .i64 x4_1 ∧ Aside0 (spec_l7Ring.l0 kq x0_1 l1 x4_1 = some r) ∧ Aside0 (kq ≤ k) ∧ Aside0 (Kd.R (Kd.int .i64) 3 w' w0.heap.size (fun k_ => (P0_ k_ ∨ w.heap.size ≤ k_)) u9000_ x0_1) ∧ Aside0 (Kept w w' (fun k_ => P0_ k_)) ∧ Aside0 (Below w0.heap.size w0 w'))
  case atStart => exact ⟨(l0), (0), (by first | rfl | (simp; done) | (simp [*]; done)), H', ⟨Nat.le_refl _⟩, ⟨by (with_reducible repeat (first | apply Kd.R_alloc | apply Kd.R_drewN | apply Kd.R_drew)); exact HO0.out⟩, ⟨by repeat (first | (with_reducible first | exact HK.out | apply Kept.alloc | apply Kept.drewN | apply Kept.drew) | exact HK.out)⟩, ⟨by repeat (first | (with_reducible first | exact HB.out | apply below_alloc | apply pw_below_drewN | apply below_drew1) | exact HB.out)⟩⟩
  case round =>
    clear H'
    try clear c1
    try clear p2
    obtain ⟨x0_1, x4_1, rfl, HA, HK1, HO_0, HK, HB⟩ := hrel
    cases gk with
    | zero => exact absurd HA.out (by simp [spec_l7Ring.l0])
    | succ k1 =>
      have H := HA.out
      clear HA
      simp only [spec_l7Ring.l0] at H
      by_cases c3 : x4_1 < (l1.length : Int)
      · rw [if_pos c3] at H
        have c3b0 : decide (x4_1 < (l1.length : Int)) = true := decide_eq_true c3
        clear c3
        by_cases c4 : 0 ≤ x4_1
        · rw [if_pos c4] at H
          have c4b0 : decide (0 ≤ x4_1) = true := decide_eq_true c4
          clear c4
          by_cases c5 : (l1.length : Int) = 0
          · rw [if_pos c5] at H
            exact absurd H (by simp)
          · rw [if_neg c5] at H
            have c5b0 : ((l1.length : Int) == 0) = false := beq_eq_false_iff_ne.mpr c5
            have c5b1 : ((l1.length : Int) != 0) = true := bne_iff_ne.mpr c5
            have c5b2 : ¬ (l1 = []) := fun h_ => c5 (by rw [h_]; rfl)
            obtain ⟨ji6, hji6⟩ : ∃ j_ : Int, (Int.tmod (wrap64 (x4_1 + 1)) (l1.length : Int)) = j_ := ⟨_, rfl⟩
            replace H : (if 0 ≤ (ji6) then (if (ji6) < (l1.length : Int) then (if 0 ≤ (rd l1 x4_1) then (if (rd l1 x4_1) < (x0_1.length : Int) then (spec_l7Ring.l0 k1 (x0_1.set ((rd l1 x4_1) : Int).toNat (rd l1 (ji6))) l1 (wrap64 (x4_1 + 1))) else (none)) else (none)) else (none)) else (none)) = some r := by first | (rw [hji6] at H; exact H) | (simp only [hji6] at H ⊢; exact H)
            by_cases c7 : 0 ≤ (ji6)
            · rw [if_pos c7] at H
              have c7b0 : decide (0 ≤ (ji6)) = true := decide_eq_true c7
              clear c7
              by_cases c8 : (ji6) < (l1.length : Int)
              · rw [if_pos c8] at H
                have c8b0 : decide ((ji6) < (l1.length : Int)) = true := decide_eq_true c8
                clear c8
                by_cases c9 : 0 ≤ (rd l1 x4_1)
                · rw [if_pos c9] at H
                  have c9b0 : decide (0 ≤ (rd l1 x4_1)) = true := decide_eq_true c9
                  clear c9
                  by_cases c10 : (rd l1 x4_1) < (x0_1.length : Int)
                  · rw [if_pos c10] at H
                    have c10b0 : decide ((rd l1 x4_1) < (x0_1.length : Int)) = true := decide_eq_true c10
                    clear c10
                    obtain ⟨y214, hy214⟩ : ∃ y_ : List Int, y_ = (x0_1.set ((rd l1 x4_1) : Int).toNat (rd l1 (ji6))) := ⟨_, rfl⟩
                    replace H : (spec_l7Ring.l0 k1 y214 l1 (wrap64 (x4_1 + 1))) = some r := by first | (rw [hy214]; with_reducible exact H) | (have H2_ := (Option.bind_some _ _).symm.trans H; rw [hy214]; with_reducible exact H2_) | (have H2_ := (Option.bind_some _ _).symm.trans H; with_reducible exact H2_) | with_reducible exact H | (rw [hy214]; exact H) | exact H
                    have Ny214 := Aside0.mk hy214
                    clear hy214
                    have H' := Aside0.mk H
                    clear H
                    try go_wp2
                    have n0_ := Aside0.mk (Kd.R_drew HO_0.out)
                    have n1_ := Aside0.mk (Kept.drew HK.out)
                    have n2_ := Aside0.mk (below_drew1 HB.out)
                    clear HO_0
                    clear HK
                    clear HB
                    have HO_0 := n0_
                    have HK := n1_
                    have HB := n2_
                    clear n0_ n1_ n2_
                    have p212 : 0 ≤ (x4_1 : Int) := of_decide_eq_true (by first | (with_reducible assumption) | assumption)
                    have q212 : x4_1 < (l1.length : Int) := of_decide_eq_true (by first | (with_reducible assumption) | assumption)
                    obtain ⟨ad212, e212, hx212_0⟩ := Kd.at_int (Kd.C_kept_now HR1.out HK.out) x4_1 p212 q212
                    have hw212_0 := hx212_0
                    cases e212
                    replace p212 := eq_true p212
                    replace q212 := eq_true q212
                    have p213 : 0 ≤ ((ji6) : Int) := of_decide_eq_true (by first | (with_reducible assumption) | assumption)
                    have q213 : (ji6) < (l1.length : Int) := of_decide_eq_true (by first | (with_reducible assumption) | assumption)
                    obtain ⟨ad213, e213, hx213_0⟩ := Kd.at_int (Kd.C_kept_now HR1.out HK.out) (ji6) p213 q213
                    have hw213_0 := hx213_0
                    obtain rfl : ad212 = ad213 := (by injection e213)
                    replace p213 := eq_true p213
                    replace q213 := eq_true q213
                    have p11 : 0 ≤ ((rd l1 x4_1) : Int) := of_decide_eq_true (by first | (with_reducible assumption) | assumption)
                    have q11 : ((rd l1 x4_1) : Int) < ((x0_1.length : Int) : Int) := of_decide_eq_true (by first | (with_reducible assumption) | assumption)
                    obtain ⟨go11, co11, eo11, gb11, gl11, cl11, HG11⟩ := Kd.R_form HO_0.out (by omega)
                    (first | cases eo11 | (injection eo11 with ea_ en_ ec_; (first | subst ea_ | (injection ea_ with ea_; subst ea_)); subst ec_; clear en_))
                    have GB11 := Aside0.mk gb11
                    have GG11 := Aside0.mk HG11
                    clear gb11 gl11 HG11
                    have HMgo11 := Aside0.mk (show (P0_ go11 ∨ w.heap.size ≤ go11) from (HO_0.out.1 _ rfl))
                    obtain ⟨hx11_0, hf11_0⟩ := Kd.R_celln 0 HO_0.out ((rd l1 x4_1) : Int) p11 q11
                    replace p11 := eq_true p11
                    replace q11 := eq_true q11
                    have HP13 := Kd.R_putn HO_0.out ((rd l1 x4_1) : Int) (rd l1 (ji6))
                    rw [← Ny214.out] at HP13
                    have HQ13 := Aside0.mk HP13
                    clear HP13
                    refine start_ (n := 15) (S := fun w' => w'.cell? (ad212.add (x4_1).toNat) = some (.int .i64 (rd l1 x4_1)) ∧ w'.cell? (ad212.add ((ji6)).toNat) = some (.int .i64 (rd l1 (ji6)))) (ds := [14]) #[false, false, false, false, false, false, false, false, false, false, false, false, false, false, false] (by kernel_rfl) rfl rfl ⟨(Kd.foot_int (HR1.out _ (by repeat (first | exact HK.out | apply Kept.alloc | apply Kept.drewN | apply Kept.drew | refine Kept.setCell ?_ HMgo11.out _))) x4_1 (of_eq_true p212) (of_eq_true q212)), (Kd.foot_int (HR1.out _ (by repeat (first | exact HK.out | apply Kept.alloc | apply Kept.drewN | apply Kept.drew | refine Kept.setCell ?_ HMgo11.out _))) (ji6) (of_eq_true p213) (of_eq_true q213))⟩ (fun hHeld => ?_); refine with_tabW spec_l7Ring.tab3 spec_l7Ring.bits3 (fun HT_ HW_ => ?_)
                    generalize wr.drew = w12 at HO_0 HK HB GG11 HQ13 hf11_0 hx11_0 hx212_0 hx213_0 hHeld ⊢
                    refine pure_ (i := 0) (N := some 11) (v := ?_) (a' := ?_) #[true, false, false, false, false, false, false, false, false, false, false, false, false, false, false] rfl rfl (any_of HT_.out (by kernel_rfl)) (fun _ _ _ h => h) (Or.inl ⟨by rfl, ?_⟩) ?_ ?_
                    rotate_left
                    · intro w'
                      go_simp
                      with_reducible rfl
                    rotate_left
                    · simp only [Act.put, List.setIfInBounds_toArray, List.set_cons_zero, List.set_cons_succ, i64_w, i32_w]
                      rfl
                    refine pure_ (i := 1) (N := some 12) (v := ?_) (a' := ?_) #[true, true, false, false, false, false, false, false, false, false, false, false, false, false, false] rfl rfl (any_of HT_.out (by kernel_rfl)) (fun _ _ _ h => h) (Or.inl ⟨by rfl, ?_⟩) ?_ ?_
                    rotate_left
                    · intro w'
                      go_simp
                      with_reducible rfl
                    rotate_left
                    · simp only [Act.put, List.setIfInBounds_toArray, List.set_cons_zero, List.set_cons_succ, i64_w, i32_w]
                      rfl
                    refine pure_ (i := 2) (N := some 13) (v := ?_) (a' := ?_) #[true, true, true, false, false, false, false, false, false, false, false, false, false, false, false] rfl rfl (any_of HT_.out (by kernel_rfl)) (fun _ _ _ h => h) (Or.inl ⟨by rfl, ?_⟩) ?_ ?_
                    rotate_left
                    · intro w'
                      go_simp
                      with_reducible rfl
                    rotate_left
                    · simp only [Act.put, List.setIfInBounds_toArray, List.set_cons_zero, List.set_cons_succ, i64_w, i32_w]
                      rfl
                    refine pure_ (i := 3) (N := some 14) (v := ?_) (a' := ?_) #[true, true, true, true, false, false, false, false, false, false, false, false, false, false, false] rfl rfl (any_of HT_.out (by kernel_rfl)) (fun _ _ _ h => h) (Or.inl ⟨by rfl, ?_⟩) ?_ ?_
                    rotate_left
                    · intro w'
                      go_simp
                      with_reducible rfl
                    rotate_left
                    · simp only [Act.put, List.setIfInBounds_toArray, List.set_cons_zero, List.set_cons_succ, i64_w, i32_w]
                      rfl
                    refine pure_ (i := 5) (N := some 16) (v := ?_) (a' := ?_) #[true, true, true, true, false, true, false, false, false, false, false, false, false, false, false] rfl rfl (any_of HT_.out (by kernel_rfl)) (fun _ _ _ h => h) (Or.inl ⟨by rfl, ?_⟩) ?_ ?_
                    rotate_left
                    · intro w'
                      go_simp
                      with_reducible rfl
                    rotate_left
                    · simp only [Act.put, List.setIfInBounds_toArray, List.set_cons_zero, List.set_cons_succ, i64_w, i32_w]
                      rfl
                    refine pure_ (i := 6) (N := some 17) (v := ?_) (a' := ?_) #[true, true, true, true, false, true, true, false, false, false, false, false, false, false, false] rfl rfl (any_of HT_.out (by kernel_rfl)) (fun _ _ _ h => h) (Or.inl ⟨by rfl, ?_⟩) ?_ ?_
                    rotate_left
                    · intro w'
                      go_simp
                      with_reducible rfl
                    rotate_left
                    · simp only [Act.put, List.setIfInBounds_toArray, List.set_cons_zero, List.set_cons_succ, i64_w, i32_w]
                      rfl
                    refine pure_ (i := 7) (N := some 18) (v := ?_) (a' := ?_) #[true, true, true, true, false, true, true, true, false, false, false, false, false, false, false] rfl rfl (any_of HT_.out (by kernel_rfl)) (fun _ _ _ h => h) (Or.inl ⟨by rfl, ?_⟩) ?_ ?_
                    rotate_left
                    · intro w'
                      go_simp
                      with_reducible rfl
                    rotate_left
                    · simp only [Act.put, List.setIfInBounds_toArray, List.set_cons_zero, List.set_cons_succ, i64_w, i32_w]
                      rfl
                    refine pure_ (i := 8) (N := some 19) (v := ?_) (a' := ?_) #[true, true, true, true, false, true, true, true, true, false, false, false, false, false, false] rfl rfl (any_of HT_.out (by kernel_rfl)) (fun _ _ _ h => h) (Or.inl ⟨by rfl, ?_⟩) ?_ ?_
                    rotate_left
                    · intro w'
                      go_simp
                      with_reducible rfl
                    rotate_left
                    · simp only [Act.put, List.setIfInBounds_toArray, List.set_cons_zero, List.set_cons_succ, i64_w, i32_w]
                      rfl
                    refine pure_ (i := 9) (N := some 20) (v := ?_) (a' := ?_) #[true, true, true, true, false, true, true, true, true, true, false, false, false, false, false] rfl rfl (any_of HT_.out (by kernel_rfl)) (fun _ _ _ h => h) (Or.inl ⟨by rfl, ?_⟩) ?_ ?_
                    rotate_left
                    · intro w'
                      go_simp
                      with_reducible rfl
                    rotate_left
                    · simp only [Act.put, List.setIfInBounds_toArray, List.set_cons_zero, List.set_cons_succ, i64_w, i32_w]
                      rfl
                    refine pure_ (i := 10) (N := some 21) (v := ?_) (a' := ?_) #[true, true, true, true, false, true, true, true, true, true, true, false, false, false, false] rfl rfl (any_of HT_.out (by kernel_rfl)) (fun _ _ _ h => h) (Or.inl ⟨by rfl, ?_⟩) ?_ ?_
                    rotate_left
                    · intro w'
                      go_simp
                      with_reducible rfl
                    rotate_left
                    · simp only [Act.put, List.setIfInBounds_toArray, List.set_cons_zero, List.set_cons_succ, i64_w, i32_w]
                      rfl
                    refine pure_ (i := 11) (N := some 22) (v := ?_) (a' := ?_) #[true, true, true, true, false, true, true, true, true, true, true, true, false, false, false] rfl rfl (any_of HT_.out (by kernel_rfl)) (fun _ _ _ h => h) (Or.inl ⟨by rfl, ?_⟩) ?_ ?_
                    rotate_left
                    · intro w'
                      go_simp
                      with_reducible rfl
                    rotate_left
                    · simp only [Act.put, List.setIfInBounds_toArray, List.set_cons_zero, List.set_cons_succ, i64_w, i32_w]
                      rfl
                    refine take_ (i := 4) (N := some 15) (v := ?_) (a' := ?_) #[true, true, true, true, true, true, true, true, true, true, true, true, false, false, false] rfl rfl (take_ofW HT_.out HW_.out (by kernel_rfl)) (fun _ _ _ h => h) (Or.inl ⟨by rfl, ?_⟩) hHeld ?_ ?_
                    rotate_left
                    · rintro w' ⟨s0, s1⟩
                      go_simp
                      with_reducible rfl
                    rotate_left
                    · simp only [Act.put, List.setIfInBounds_toArray, List.set_cons_zero, List.set_cons_succ, i64_w, i32_w]
                      rfl
                    refine take_ (i := 12) (N := some 23) (v := ?_) (a' := ?_) #[true, true, true, true, true, true, true, true, true, true, true, true, true, false, false] rfl rfl (take_ofW HT_.out HW_.out (by kernel_rfl)) (fun _ _ _ h => h) (Or.inl ⟨by rfl, ?_⟩) hHeld ?_ ?_
                    rotate_left
                    · rintro w' ⟨s0, s1⟩
                      go_simp
                      with_reducible rfl
                    rotate_left
                    · simp only [Act.put, List.setIfInBounds_toArray, List.set_cons_zero, List.set_cons_succ, i64_w, i32_w]
                      rfl
                    refine pure_ (i := 13) (N := some 24) (v := ?_) (a' := ?_) #[true, true, true, true, true, true, true, true, true, true, true, true, true, true, false] rfl rfl (any_of HT_.out (by kernel_rfl)) (fun _ _ _ h => h) (Or.inl ⟨by rfl, ?_⟩) ?_ ?_
                    rotate_left
                    · intro w'
                      go_simp
                      with_reducible rfl
                    rotate_left
                    · simp only [Act.put, List.setIfInBounds_toArray, List.set_cons_zero, List.set_cons_succ, i64_w, i32_w]
                      rfl
                    refine last_ (i := 14) (N := none) #[true, true, true, true, true, true, true, true, true, true, true, true, true, true, true] rfl rfl (one_of HT_.out (by kernel_rfl)) (by decide) (fun K hK => ?_)
                    refine skip_ (w1 := ?_) (by rfl) rfl ?_ ?_
                    rotate_left
                    · go_simp
                      rfl
                    refine hK.out _ _ ?_
                    clear hK K
                    refine done_ (done_of HT_.out (by kernel_rfl)) ?_
                    try go_wp2
                    go_roundg k1
                    case measure => have := HK1.out; omega
                    case rel => exact ⟨(y214), (wrap64 (x4_1 + 1)), (by first | rfl | (simp; done) | (simp [*]; done)), H', ⟨by have := HK1.out; omega⟩, ⟨by (with_reducible repeat (first | apply Kd.R_alloc | apply Kd.R_drewN | apply Kd.R_drew)); exact HQ13.out⟩, ⟨by repeat (first | (with_reducible first | exact HK.out | apply Kept.alloc | apply Kept.drewN | apply Kept.drew | refine Kept.setCell ?_ HMgo11.out _) | exact HK.out)⟩, ⟨by repeat (first | (with_reducible first | exact HB.out | apply below_alloc | apply pw_below_drewN | apply below_drew1 | refine below_set ?_ GB11.out) | exact HB.out)⟩⟩
                  · rw [if_neg c10] at H
                    exact absurd H (by simp)
                · rw [if_neg c9] at H
                  exact absurd H (by simp)
              · rw [if_neg c8] at H
                exact absurd H (by simp)
            · rw [if_neg c7] at H
              exact absurd H (by simp)
        · rw [if_neg c4] at H
          exact absurd H (by simp)
      · rw [if_neg c3] at H
        have c3b0 : decide (x4_1 < (l1.length : Int)) = false := decide_eq_false c3
        clear c3
        obtain rfl := Option.some.inj H
        go_wp2
        first | go_end0 | ((try simp only [Exit.inBlock, Exit.then]); refine bodyPost_ret (results_none rfl _ _ _) rfl ?_)
        exact ⟨by first | rfl | (simp [errW_none, errW_some] <;> rfl) | (simp [*, errW_none, errW_some] <;> rfl), by (with_reducible repeat (first | apply Kd.R_alloc | apply Kd.R_drewN | apply Kd.R_drew)); exact HO_0.out, by repeat (first | (with_reducible first | exact HB.out | apply below_alloc | apply pw_below_drewN | apply below_drew1) | exact HB.out), by repeat (first | (with_reducible first | exact HK.out | apply Kept.alloc | apply Kept.drewN | apply Kept.drew) | exact HK.out)⟩

-- NOT PRINTED: function 19 (spec_l7Count)

end Go.Proofs.Ytnfaejmmbldaeaa.PFnExactLeastGenus
