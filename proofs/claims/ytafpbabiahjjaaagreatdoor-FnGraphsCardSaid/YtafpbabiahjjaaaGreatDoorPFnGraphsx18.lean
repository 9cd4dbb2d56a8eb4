import Derived.Test.YtafpbabiahjjaaaGreatDoorWSpanB
import Derived.Test.YtafpbabiahjjaaaGreatDoorPFnGraphsx0
import Derived.Test.YtafpbabiahjjaaaGreatDoorPFnGraphsx1
import Derived.Test.YtafpbabiahjjaaaGreatDoorPFnGraphsx2
import Derived.Test.YtafpbabiahjjaaaGreatDoorPFnGraphsx3
import Derived.Test.YtafpbabiahjjaaaGreatDoorPFnGraphsx4
import Derived.Test.YtafpbabiahjjaaaGreatDoorPFnGraphsx9
import Derived.Test.YtafpbabiahjjaaaGreatDoorPFnGraphsx13
import Derived.Test.YtafpbabiahjjaaaGreatDoorPFnGraphsx14
import Derived.Test.YtafpbabiahjjaaaGreatDoorPFnGraphsx17
namespace Go.Proofs.YtafpbabiahjjaaaGreatDoor.PFnGraphs
open Go.RowKit Go.Proofs.YtafpbabiahjjaaaGreatDoorW.PrintWords Go.Proofs.YtafpbabiahjjaaaGreatDoorW.PrintLast Go.Proofs.YtafpbabiahjjaaaGreatDoorW.PrintMore
attribute [local go_sem] max2_int min2_int max_two min_two max_three min_three max_four min_four   -- for this text's walks alone
set_option linter.unusedVariables false
set_option linter.unusedSimpArgs false

/-! ### impl_BipartiteGraph: function 19 -/
mutual
def impl_BipartiteGraph.j0 : Nat → Int → Int → Bool → Option ((List (List Int)))
 | 0, _, _, _ => none
 | k + 1, x0, x1, x15 => if x15 = true then (some ([] : List (List Int))) else (impl_BipartiteGraph.l0 k x0 x1 (([] : List (List Int))) x0 0)
def impl_BipartiteGraph.l0 : Nat → Int → Int → List (List Int) → Int → Int → Option ((List (List Int)))
 | 0, _, _, _, _, _ => none
 | k + 1, x0, x1, x5, x17, x18 => if x18 < x17 then (impl_BipartiteGraph.l1 k x0 x1 x5 x18 x17 x18 x1 0) else ((impl_graphOf.f k x5).bind fun t595 => (some t595))
def impl_BipartiteGraph.l1 : Nat → Int → Int → List (List Int) → Int → Int → Int → Int → Int → Option ((List (List Int)))
 | 0, _, _, _, _, _, _, _, _ => none
 | k + 1, x0, x1, x5, x6, x17, x18, x21, x22 => if x22 < x21 then (if x5.length < 5864062014805 then (impl_BipartiteGraph.l1 k x0 x1 (x5 ++ [(([x6, wrap64 (x0 + x22)] : List Int))]) x6 x17 x18 x21 (wrap64 (x22 + 1))) else (none)) else (impl_BipartiteGraph.l0 k x0 x1 x5 x17 (wrap64 (x18 + 1)))
end
def impl_BipartiteGraph.f (k : Nat) (a0 : Int) (a1 : Int) : Option ((List (List Int))) := (impl_within.f a0 0 9).bind fun t590 => (if t590 = true then ((impl_within.f a1 0 9).bind fun t591 => (impl_BipartiteGraph.j0 k a0 a1 (!t591))) else (impl_BipartiteGraph.j0 k a0 a1 true))
set_option maxHeartbeats 8000000 in
set_option maxRecDepth 100000 in
theorem impl_BipartiteGraph.calls (k : Nat) (a0 : Int) (a1 : Int) (r : List (List Int)) (w : World) (h : impl_BipartiteGraph.f k a0 a1 = some r) :
  Calls Tryz.prog 19 #[.int .i64 a0, .int .i64 a1] w fun e w' => ∃ v0_ : Value, e = .returned (v0_) ∧ Kd.S (Kd.slice 3 (Kd.int .i64)) 26 w' w.heap.size (fun k_ => (w.heap.size ≤ k_)) v0_ r ∧ Below w.heap.size w w' := by
 have HB := Aside0.mk (Below.refl w.heap.size w)
 have H : ((impl_within.f a0 0 9).bind fun t590 => (if t590 = true then ((impl_within.f a1 0 9).bind fun t591 => (impl_BipartiteGraph.j0 k a0 a1 (!t591))) else (impl_BipartiteGraph.j0 k a0 a1 true))) = some r := h
 clear h
 have HC3 := Aside0.mk H
 clear H
 go_enter Tryz.func19, Tryz.ntmps19
 go_upto_region 1 with (fail)
 go_cut [15] (fun v15 wc => ∃ (kq : Nat) (x15_2 : Bool), v15 = .bool x15_2 ∧ Aside0 (impl_BipartiteGraph.j0 kq a0 a1 x15_2 = some r) ∧ Aside0 (kq ≤ k) ∧ Aside0 (Below w.heap.size w wc))
 case first =>
  have H := HC3.out
  clear HC3
  obtain ⟨t590, A4, H⟩ := bs H
  by_cases c5 : t590 = true
  ·subst c5
   rw [if_pos rfl] at H
   obtain ⟨t591, A6, H⟩ := bs H
   have H' := Aside0.mk H
   clear H
   go_wp2_with (first | ((with_reducible refine gate_callee (f := 53) rfl ?_); refine goesL_ (some 9) rfl rfl Tryz.func53 (by kernel_rfl) rfl #[.int .i64 a0, .int .i64 0, .int .i64 9] rfl mp_ ?_; (with_reducible refine (impl_within.calls a0 0 9 true _ A4.out).mono ?_); rintro e w' ⟨rfl, ⟨nd, rfl⟩⟩; refine ⟨_, rfl, ?_⟩) | (go_at_call 53; (with_reducible refine (impl_within.calls a1 0 9 t591 _ A6.out).mono ?_); rintro e w' ⟨rfl, ⟨nd, rfl⟩⟩))
   go_meet
   case rel => exact ⟨_, (!t591), rS, H', ⟨by first | omega | exact Nat.le_refl _⟩, ⟨tb⟩⟩
  ·replace c5 := Bool.eq_false_iff.mpr c5
   subst c5
   rw [if_neg (show ¬ (false = true) by decide)] at H
   have H' := Aside0.mk H
   clear H
   go_wp2_with (first | ((with_reducible refine gate_callee (f := 53) rfl ?_); refine goesL_ (some 9) rfl rfl Tryz.func53 (by kernel_rfl) rfl #[.int .i64 a0, .int .i64 0, .int .i64 9] rfl mp_ ?_; (with_reducible refine (impl_within.calls a0 0 9 false _ A4.out).mono ?_); rintro e w' ⟨rfl, ⟨nd, rfl⟩⟩; refine ⟨_, rfl, ?_⟩))
   go_meet
   case rel => exact ⟨_, (true), rS, H', ⟨by first | omega | exact Nat.le_refl _⟩, ⟨tb⟩⟩
 case rest =>
  clear HC3
  try clear c1
  try clear p2
  try clear c5
  obtain ⟨kq, x15_2, rfl, HA, HJ2, HB⟩ := hcut
  cases kq with
  | zero => exact absurd HA.out (by simp [impl_BipartiteGraph.j0])
  | succ kj2 =>
   have H := HA.out
   clear HA
   simp only [impl_BipartiteGraph.j0] at H
   by_cases c7 : x15_2 = true
   ·subst c7
    rw [if_pos rfl] at H
    obtain rfl := Option.some.inj H
    go_wp2
    go_ret
    exact ⟨_, rE, Kd.S_nil _ _ _ _ _, tb⟩
   ·replace c7 := Bool.eq_false_iff.mpr c7
    subst c7
    rw [if_neg (show ¬ (false = true) by decide)] at H
    generalize hy592 : (([] : List (List Int)) : List (List Int)) = y592 at H
    have Ny592 := Aside0.mk hy592.symm; clear hy592
    have H' := Aside0.mk H
    clear H
    go_wp2_with (first | ((with_reducible refine gate_dst (N := 16) rfl ?_); refine Kd.S_lit (Kd.slice 3 (Kd.int .i64)) _ 26 ?hg (N := 16) ?hd (xs := ([] : List (List Int))) (inner := []) (ok := fun _ => True) (okp := fun _ => True) ?hr ?hp (fun _ hk => hk) trivial (Below.refl _ _) (Nat.le_refl _) (by simp) ?_; (case hd => rfl); (case hg => rfl); (case hr => exact gS); (case hp => exact (Reps.none _ _)); intro v593 w8 ho9 hb hg_ hnew_; clear hg_ hnew_; (first | rw [← Ny592.out] at ho9 | (simp only [Int.reduceToNat] at ho9; rw [← Ny592.out] at ho9)); have HO594 := Aside0.mk (Kd.S_lower (Kd.S_newM (M := fun k_ => (w.heap.size ≤ k_)) ho9 (below_size tb) (fun k_ h_ => h_)) (below_size tb)); replace HB := Aside0.mk (below_step tb hb); clear hb ho9))
    go_loopg [5, 18] kj2 (fun kq v5 v18 w' => ∃ (x5_2 : List (List Int)) (x18_2 : Int), v18 = .int .i64 x18_2 ∧ Aside0 (impl_BipartiteGraph.l0 kq a0 a1 x5_2 a0 x18_2 = some r) ∧ Aside0 (kq ≤ kj2) ∧ Aside0 (Kd.S (Kd.slice 3 (Kd.int .i64)) 26 w' w.heap.size (fun k_ => (w.heap.size ≤ k_)) v5 x5_2) ∧ Aside0 (Below w.heap.size w w'))
    case atStart => exact ⟨(y592), (0), rS, H', ⟨Nat.le_refl _⟩, ⟨S_l (Kd.S_mono HO594.out (fun _ hk => hk.1))⟩, ⟨tb⟩⟩
    case round =>
     clear H'
     try clear c1
     try clear p2
     try clear c5
     try clear c7
     try clear p2
     obtain ⟨x5_2, x18_2, rfl, HA, HK2, HO_5, HB⟩ := hrel
     cases gk with
     | zero => exact absurd HA.out (by simp [impl_BipartiteGraph.l0])
     | succ k2 =>
      have H := HA.out
      clear HA
      simp only [impl_BipartiteGraph.l0] at H
      obtain ⟨c10b0, H⟩ | ⟨c10b0, H⟩ := gi H
      ·have H' := Aside0.mk H
       clear H
       go_wp2
       go_loopg [5, 22] k2 (fun kq v5 v22 w' => ∃ (x5_3 : List (List Int)) (x22_3 : Int), v22 = .int .i64 x22_3 ∧ Aside0 (impl_BipartiteGraph.l1 kq a0 a1 x5_3 x18_2 a0 x18_2 a1 x22_3 = some r) ∧ Aside0 (kq ≤ k2) ∧ Aside0 (Kd.S (Kd.slice 3 (Kd.int .i64)) 26 w' w.heap.size (fun k_ => (w.heap.size ≤ k_)) v5 x5_3) ∧ Aside0 (Below w.heap.size w w'))
       case atStart => exact ⟨(x5_2), (0), rS, H', ⟨Nat.le_refl _⟩, ⟨S_l HO_5.out⟩, ⟨tb⟩⟩
       case round =>
        clear H'
        try clear c1
        try clear p2
        try clear c5
        try clear c7
        try clear c10
        try clear c10b0
        try clear p2
        obtain ⟨x5_3, x22_3, rfl, HA, HK3, HO_5, HB⟩ := hrel
        cases gk with
        | zero => exact absurd HA.out (by simp [impl_BipartiteGraph.l1])
        | succ k3 =>
         have H := HA.out
         clear HA
         simp only [impl_BipartiteGraph.l1] at H
         obtain ⟨c11b0, H⟩ | ⟨c11b0, H⟩ := gi H
         ·obtain ⟨y598, hy598⟩ : ∃ y_ : List Int, y_ = (([x18_2, wrap64 (a0 + x22_3)] : List Int)) := ⟨_, rfl⟩
          replace H : (if x5_3.length < 5864062014805 then (impl_BipartiteGraph.l1 k3 a0 a1 (x5_3 ++ [y598]) x18_2 a0 x18_2 a1 (wrap64 (x22_3 + 1))) else (none)) = some r := by first | (rw [hy598]; with_reducible exact H) | (have H2_ := (Option.bind_some _ _).symm.trans H; rw [hy598]; with_reducible exact H2_) | (have H2_ := (Option.bind_some _ _).symm.trans H; with_reducible exact H2_) | with_reducible exact H | (rw [hy598]; exact H) | exact H
          have Ny598 := Aside0.mk hy598
          clear hy598
          obtain ⟨LMc12, H⟩ := gda H
          generalize hy601 : (x5_3 ++ [y598] : List (List Int)) = y601 at H
          have Ny601 := Aside0.mk hy601.symm; clear hy601
          have H' := Aside0.mk H
          clear H
          go_wp2_with (first | ((with_reducible refine gate_dst (N := 30) rfl ?_); refine Kd.R_lit (Kd.int .i64) _ 3 ?hg (N := 30) ?hd (xs := ([x18_2, wrap64 (a0 + x22_3)] : List Int)) (inner := [.int .i64 x18_2, .int .i64 (wrap64 (a0 + x22_3))]) (ok := fun _ => True) (okp := fun _ => True) ?hr ?hp (fun _ hk => hk) trivial (Below.refl _ _) (Nat.le_refl _) (by simp) ?_; (case hd => rfl); (case hg => rfl); (case hr => exact gS); (case hp => exact (Reps.one (show Kd.M (Kd.int .i64) _ _ _ x18_2 [.int .i64 x18_2] from rfl) (Reps.one (show Kd.M (Kd.int .i64) _ _ _ (wrap64 (a0 + x22_3)) [.int .i64 (wrap64 (a0 + x22_3))] from rfl) (Reps.none _ _)))); intro v599 w13 ho14 hb hg_ hnew_; clear hg_ hnew_; (first | rw [← Ny598.out] at ho14 | (simp only [Int.reduceToNat] at ho14; rw [← Ny598.out] at ho14)); replace HO_5 := Aside0.mk (Kd.S_elder' (S_l HO_5.out) (Kd.R_base ho14) hb); have HO600 := Aside0.mk (Kd.R_lower (Kd.R_newM (M := fun k_ => (w.heap.size ≤ k_)) ho14 (below_size tb) (fun k_ h_ => h_)) (below_size tb)); replace HB := Aside0.mk (below_step tb hb); clear hb ho14; obtain ⟨Ao16, co16, eo16⟩ := Kd.R_slice HO600.out; subst eo16) | ((with_reducible refine gate_builtin (b := .append) (xs := #[.tmp 25, .tmp 31]) rfl ?_); at_builtin; refine Kd.S_append (Kd.slice 3 (Kd.int .i64)) (w0 := w) w.heap.size rfl (.tmp 25) (.tmp 31) 24 26 (.slice none 0 0) 24 rfl Tryz.underlying24 info26 rfl (by decide) (by omega) u5 x5_3 y598 [.slice Ao16 y598.length co16] (fun k_ => (w.heap.size ≤ k_)) (fun k_ => some k_ = (.slice Ao16 y598.length co16 : Value).ownBlock) rfl rfl ?aP (fun k_ hk_ => ((Kd.R_mono (ok' := fun k_ => ((fun k_ => (w.heap.size ≤ k_))) k_ ∧ some k_ ≠ (u5 : Value).ownBlock) (Kd.R_apart' (HO600.out) (Kd.S_typed HO_5.out) (by decide)) (fun k_ hk => ⟨hk.1.1, hk.2⟩))).1 k_ hk_.symm) ?aF ?aO ?aB ?aS ?aL ?_; (case aP => exact Kd.M_row (Kd.R_mono (Kd.R_tight rfl (Kd.R_mono (ok' := fun k_ => ((fun k_ => (w.heap.size ≤ k_))) k_ ∧ some k_ ≠ (u5 : Value).ownBlock) (Kd.R_apart' (HO600.out) (Kd.S_typed HO_5.out) (by decide)) (fun k_ hk => ⟨hk.1.1, hk.2⟩))) (fun _ h_ => h_))); (case aB => exact tb); (case aF => exact (fun k_ hk => (Nat.le_trans (below_size tb) hk))); (case aO => exact (S_l (Kd.S_mono HO_5.out (fun k_ hk => ⟨hk.1, fun e_ => hk.2 e_⟩)))); (case aS => exact (below_size tb)); (case aL => have := LMc12.out; omega); intro v602 w15 ho hb hg hat; rw [← Ny601.out] at ho; replace HB := Aside0.mk (hb); have HO603 := Aside0.mk (ho); clear HO_5 HO600; clear ho hb hg hat))
          go_roundg k3
          case measure => have := HJ2.out; have := HK2.out; have := HK3.out; omega
          case rel => exact ⟨(y601), (wrap64 (x22_3 + 1)), rS, H', ⟨by have := HJ2.out; have := HK2.out; have := HK3.out; omega⟩, ⟨S_l HO603.out⟩, ⟨tb⟩⟩
         ·have H' := Aside0.mk H
          clear H
          go_wp2
          go_roundg k3
          case measure => have := HJ2.out; have := HK2.out; have := HK3.out; omega
          case rel => exact ⟨(x5_3), (wrap64 (x18_2 + 1)), rS, H', ⟨by have := HJ2.out; have := HK2.out; have := HK3.out; omega⟩, ⟨S_l HO_5.out⟩, ⟨tb⟩⟩
      ·obtain ⟨t595, A17, H⟩ := bs H
       obtain rfl := Option.some.inj H
       obtain ⟨Ao18, co18, eo18⟩ := Kd.S_slice HO_5.out
       subst eo18
       go_wp2_with (first | ((with_reducible refine gate_callee (f := 51) rfl ?_); refine goesL_ (some 36) rfl rfl Tryz.func51 (by kernel_rfl) rfl #[.slice Ao18 x5_2.length co18] rfl mp_ ?_; (with_reducible refine (impl_graphOf.calls k2 (fun k_ => (w.heap.size ≤ k_)) _ _ x5_2 t595 _ w.heap.size ?side0 ?side1 A17.out).mono ?_); (case side0 => exact (below_size tb)); (case side1 => exact HO_5.out); rintro e w19 ⟨v596, rfl, ho0, hb⟩; refine ⟨_, rfl, ?_⟩; replace HO_5 := Aside0.mk (sB HO_5.out hb); have HO597 := Aside0.mk (Kd.S_mono (ok' := fun k_ => (w.heap.size ≤ k_)) ho0 (fun k_ hk_ => Or.elim hk_ (fun hs_ => hs_) (fun hn_ => (Nat.le_trans (below_size tb) hn_)))); replace HB := Aside0.mk (below_step tb hb)))
       go_ret
       exact ⟨_, rE, S_l HO597.out, tb⟩

/-! ### impl_RingGraph: function 21 -/
def impl_RingGraph.l0 : Nat → Int → List (List Int) → Int → Int → Option ((List (List Int)))
 | 0, _, _, _, _ => none
 | k + 1, x0, x3, x9, x10 => if x10 < x9 then (if x0 = 0 then (none) else (if x3.length < 5864062014805 then (impl_RingGraph.l0 k x0 (x3 ++ [(([x10, Int.tmod (wrap64 (x10 + 1)) x0] : List Int))]) x9 (wrap64 (x10 + 1))) else (none))) else ((impl_graphOf.f k x3).bind fun t614 => (some t614))
def impl_RingGraph.f (k : Nat) (a0 : Int) : Option ((List (List Int))) := (impl_within.f a0 3 9).bind fun t604 => (if t604 = true then (impl_RingGraph.l0 k a0 (([] : List (List Int))) a0 0) else (some ([] : List (List Int))))
theorem impl_RingGraph.mono_l : ∀ k, (∀ y0 y1 y2 y3, LeO (impl_RingGraph.l0 k y0 y1 y2 y3) (impl_RingGraph.l0 (k + 1) y0 y1 y2 y3))
 | 0 => fun _ _ _ _ r h => by simp [impl_RingGraph.l0] at h
 | k + 1 => by
  have ih0 := impl_RingGraph.mono_l k
  ·intro y0 y1 y2 y3
   unfold impl_RingGraph.l0
   exact mM2 ih0 impl_graphOf.mono
theorem impl_RingGraph.mono : ∀ a0 k, LeO (impl_RingGraph.f k a0) (impl_RingGraph.f (k + 1) a0) := by
 intro a0 k
 have ih0 := impl_RingGraph.mono_l k
 unfold impl_RingGraph.f
 exact mM2 ih0 impl_graphOf.mono
set_option maxHeartbeats 8000000 in
set_option maxRecDepth 100000 in
theorem impl_RingGraph.calls (k : Nat) (a0 : Int) (r : List (List Int)) (w : World) (h : impl_RingGraph.f k a0 = some r) :
  Calls Tryz.prog 21 #[.int .i64 a0] w fun e w' => ∃ v0_ : Value, e = .returned (v0_) ∧ Kd.S (Kd.slice 3 (Kd.int .i64)) 26 w' w.heap.size (fun k_ => (w.heap.size ≤ k_)) v0_ r ∧ Below w.heap.size w w' := by
 have HB := Aside0.mk (Below.refl w.heap.size w)
 have H : ((impl_within.f a0 3 9).bind fun t604 => (if t604 = true then (impl_RingGraph.l0 k a0 (([] : List (List Int))) a0 0) else (some ([] : List (List Int))))) = some r := h
 clear h
 obtain ⟨t604, A2, H⟩ := bs H
 by_cases c3 : t604 = true
 ·subst c3
  rw [if_pos rfl] at H
  generalize hy605 : (([] : List (List Int)) : List (List Int)) = y605 at H
  have Ny605 := Aside0.mk hy605.symm; clear hy605
  have H' := Aside0.mk H
  clear H
  go_enter Tryz.func21, Tryz.ntmps21
  go_wp2_with (first | ((with_reducible refine gate_callee (f := 53) rfl ?_); refine goesL_ (some 6) rfl rfl Tryz.func53 (by kernel_rfl) rfl #[.int .i64 a0, .int .i64 3, .int .i64 9] rfl mp_ ?_; (with_reducible refine (impl_within.calls a0 3 9 true _ A2.out).mono ?_); rintro e w' ⟨rfl, ⟨nd, rfl⟩⟩; refine ⟨_, rfl, ?_⟩) | ((with_reducible refine gate_dst (N := 8) rfl ?_); refine Kd.S_lit (Kd.slice 3 (Kd.int .i64)) _ 26 ?hg (N := 8) ?hd (xs := ([] : List (List Int))) (inner := []) (ok := fun _ => True) (okp := fun _ => True) ?hr ?hp (fun _ hk => hk) trivial (Below.refl _ _) (Nat.le_refl _) (by simp) ?_; (case hd => rfl); (case hg => rfl); (case hr => exact gS); (case hp => exact (Reps.none _ _)); intro v606 w4 ho5 hb hg_ hnew_; clear hg_ hnew_; (first | rw [← Ny605.out] at ho5 | (simp only [Int.reduceToNat] at ho5; rw [← Ny605.out] at ho5)); have HO607 := Aside0.mk (Kd.S_lower (Kd.S_newM (M := fun k_ => (w.heap.size ≤ k_)) ho5 (below_size tb) (fun k_ h_ => h_)) (below_size tb)); replace HB := Aside0.mk (below_step tb hb); clear hb ho5))
  go_loopg [3, 10] k (fun kq v3 v10 w' => ∃ (x3_1 : List (List Int)) (x10_1 : Int), v10 = .int .i64 x10_1 ∧ Aside0 (impl_RingGraph.l0 kq a0 x3_1 a0 x10_1 = some r) ∧ Aside0 (kq ≤ k) ∧ Aside0 (Kd.S (Kd.slice 3 (Kd.int .i64)) 26 w' w.heap.size (fun k_ => (w.heap.size ≤ k_)) v3 x3_1) ∧ Aside0 (Below w.heap.size w w'))
  case atStart => exact ⟨(y605), (0), rS, H', ⟨Nat.le_refl _⟩, ⟨S_l (Kd.S_mono HO607.out (fun _ hk => hk.1))⟩, ⟨tb⟩⟩
  case round =>
   clear H'
   try clear c2
   try clear p2
   try clear c3
   try clear c5
   obtain ⟨x3_1, x10_1, rfl, HA, HK1, HO_3, HB⟩ := hrel
   cases gk with
   | zero => exact absurd HA.out (by simp [impl_RingGraph.l0])
   | succ k1 =>
    have H := HA.out
    clear HA
    simp only [impl_RingGraph.l0] at H
    obtain ⟨c6b0, H⟩ | ⟨c6b0, H⟩ := gi H
    ·by_cases c7 : a0 = 0
     ·rw [if_pos c7] at H
      exact absurd H (by simp)
     ·rw [if_neg c7] at H
      have c7b0 : (a0 == 0) = false := beq_eq_false_iff_ne.mpr c7
      have c7b1 : (a0 != 0) = true := bne_iff_ne.mpr c7
      generalize hy608 : (([x10_1, Int.tmod (wrap64 (x10_1 + 1)) a0] : List Int) : List Int) = y608 at H
      have Ny608 := Aside0.mk hy608.symm; clear hy608
      obtain ⟨LMc8, H⟩ := gda H
      generalize hy611 : (x3_1 ++ [y608] : List (List Int)) = y611 at H
      have Ny611 := Aside0.mk hy611.symm; clear hy611
      have H' := Aside0.mk H
      clear H
      go_wp2_with (first | ((with_reducible refine gate_dst (N := 19) rfl ?_); refine Kd.R_lit (Kd.int .i64) _ 3 ?hg (N := 19) ?hd (xs := ([x10_1, Int.tmod (wrap64 (x10_1 + 1)) a0] : List Int)) (inner := [.int .i64 x10_1, .int .i64 (Int.tmod (wrap64 (x10_1 + 1)) a0)]) (ok := fun _ => True) (okp := fun _ => True) ?hr ?hp (fun _ hk => hk) trivial (Below.refl _ _) (Nat.le_refl _) (by simp) ?_; (case hd => rfl); (case hg => rfl); (case hr => exact gS); (case hp => exact (Reps.one (show Kd.M (Kd.int .i64) _ _ _ x10_1 [.int .i64 x10_1] from rfl) (Reps.one (show Kd.M (Kd.int .i64) _ _ _ (Int.tmod (wrap64 (x10_1 + 1)) a0) [.int .i64 (Int.tmod (wrap64 (x10_1 + 1)) a0)] from rfl) (Reps.none _ _)))); intro v609 w9 ho10 hb hg_ hnew_; clear hg_ hnew_; (first | rw [← Ny608.out] at ho10 | (simp only [Int.reduceToNat] at ho10; rw [← Ny608.out] at ho10)); replace HO_3 := Aside0.mk (Kd.S_elder' (S_l HO_3.out) (Kd.R_base ho10) hb); have HO610 := Aside0.mk (Kd.R_lower (Kd.R_newM (M := fun k_ => (w.heap.size ≤ k_)) ho10 (below_size tb) (fun k_ h_ => h_)) (below_size tb)); replace HB := Aside0.mk (below_step tb hb); clear hb ho10; obtain ⟨Ao12, co12, eo12⟩ := Kd.R_slice HO610.out; subst eo12) | ((with_reducible refine gate_builtin (b := .append) (xs := #[.tmp 13, .tmp 20]) rfl ?_); at_builtin; refine Kd.S_append (Kd.slice 3 (Kd.int .i64)) (w0 := w) w.heap.size rfl (.tmp 13) (.tmp 20) 24 26 (.slice none 0 0) 24 rfl Tryz.underlying24 info26 rfl (by decide) (by omega) u3 x3_1 y608 [.slice Ao12 y608.length co12] (fun k_ => (w.heap.size ≤ k_)) (fun k_ => some k_ = (.slice Ao12 y608.length co12 : Value).ownBlock) rfl rfl ?aP (fun k_ hk_ => ((Kd.R_mono (ok' := fun k_ => ((fun k_ => (w.heap.size ≤ k_))) k_ ∧ some k_ ≠ (u3 : Value).ownBlock) (Kd.R_apart' (HO610.out) (Kd.S_typed HO_3.out) (by decide)) (fun k_ hk => ⟨hk.1.1, hk.2⟩))).1 k_ hk_.symm) ?aF ?aO ?aB ?aS ?aL ?_; (case aP => exact Kd.M_row (Kd.R_mono (Kd.R_tight rfl (Kd.R_mono (ok' := fun k_ => ((fun k_ => (w.heap.size ≤ k_))) k_ ∧ some k_ ≠ (u3 : Value).ownBlock) (Kd.R_apart' (HO610.out) (Kd.S_typed HO_3.out) (by decide)) (fun k_ hk => ⟨hk.1.1, hk.2⟩))) (fun _ h_ => h_))); (case aB => exact tb); (case aF => exact (fun k_ hk => (Nat.le_trans (below_size tb) hk))); (case aO => exact (S_l (Kd.S_mono HO_3.out (fun k_ hk => ⟨hk.1, fun e_ => hk.2 e_⟩)))); (case aS => exact (below_size tb)); (case aL => have := LMc8.out; omega); intro v612 w11 ho hb hg hat; rw [← Ny611.out] at ho; replace HB := Aside0.mk (hb); have HO613 := Aside0.mk (ho); clear HO_3 HO610; clear ho hb hg hat))
      go_roundg k1
      case measure => exact oK
      case rel => exact ⟨(y611), (wrap64 (x10_1 + 1)), rS, H', ⟨oK⟩, ⟨S_l HO613.out⟩, ⟨tb⟩⟩
    ·obtain ⟨t614, A13, H⟩ := bs H
     obtain rfl := Option.some.inj H
     obtain ⟨Ao14, co14, eo14⟩ := Kd.S_slice HO_3.out
     subst eo14
     go_wp2_with (first | ((with_reducible refine gate_callee (f := 51) rfl ?_); refine goesL_ (some 24) rfl rfl Tryz.func51 (by kernel_rfl) rfl #[.slice Ao14 x3_1.length co14] rfl mp_ ?_; (with_reducible refine (impl_graphOf.calls k1 (fun k_ => (w.heap.size ≤ k_)) _ _ x3_1 t614 _ w.heap.size ?side0 ?side1 A13.out).mono ?_); (case side0 => exact (below_size tb)); (case side1 => exact HO_3.out); rintro e w15 ⟨v615, rfl, ho0, hb⟩; refine ⟨_, rfl, ?_⟩; replace HO_3 := Aside0.mk (sB HO_3.out hb); have HO616 := Aside0.mk (Kd.S_mono (ok' := fun k_ => (w.heap.size ≤ k_)) ho0 (fun k_ hk_ => Or.elim hk_ (fun hs_ => hs_) (fun hn_ => (Nat.le_trans (below_size tb) hn_)))); replace HB := Aside0.mk (below_step tb hb)))
     go_ret
     exact ⟨_, rE, S_l HO616.out, tb⟩
 ·replace c3 := Bool.eq_false_iff.mpr c3
  subst c3
  rw [if_neg (show ¬ (false = true) by decide)] at H
  obtain rfl := Option.some.inj H
  go_enter Tryz.func21, Tryz.ntmps21
  go_wp2_with (first | ((with_reducible refine gate_callee (f := 53) rfl ?_); refine goesL_ (some 6) rfl rfl Tryz.func53 (by kernel_rfl) rfl #[.int .i64 a0, .int .i64 3, .int .i64 9] rfl mp_ ?_; (with_reducible refine (impl_within.calls a0 3 9 false _ A2.out).mono ?_); rintro e w' ⟨rfl, ⟨nd, rfl⟩⟩; refine ⟨_, rfl, ?_⟩))
  go_ret
  exact ⟨_, rE, Kd.S_nil _ _ _ _ _, tb⟩

/-! ### spec_RingGraph: function 22 -/
def spec_RingGraph.l0 : Nat → Int → List (List Int) → Int → Option ((List (List Int)))
 | 0, _, _, _ => none
 | k + 1, x0, x3, x4 => if x4 < x0 then ((spec_l1In.f x0 3 7).bind fun t620 => (if t620 = true then (if x0 = 0 then (none) else (if x3.length < 5864062014805 then (spec_RingGraph.l0 k x0 (x3 ++ [(([x4, Int.tmod (wrap64 (x4 + 1)) x0] : List Int))]) (wrap64 (x4 + 1))) else (none))) else ((spec_l7Right.f k x3).bind fun t627 => (some t627)))) else ((spec_l7Right.f k x3).bind fun t630 => (some t630))
def spec_RingGraph.f (k : Nat) (a0 : Int) : Option ((List (List Int))) := spec_RingGraph.l0 k a0 (([] : List (List Int))) 0
theorem spec_RingGraph.mono_l : ∀ k, (∀ y0 y1 y2, LeO (spec_RingGraph.l0 k y0 y1 y2) (spec_RingGraph.l0 (k + 1) y0 y1 y2))
 | 0 => fun _ _ _ r h => by simp [spec_RingGraph.l0] at h
 | k + 1 => by
  have ih0 := spec_RingGraph.mono_l k
  ·intro y0 y1 y2
   unfold spec_RingGraph.l0
   exact mM2 ih0 spec_l7Right.mono
theorem spec_RingGraph.mono : ∀ a0 k, LeO (spec_RingGraph.f k a0) (spec_RingGraph.f (k + 1) a0) := by
 intro a0 k
 have ih0 := spec_RingGraph.mono_l k
 unfold spec_RingGraph.f
 exact mM2 ih0 spec_l7Right.mono
set_option maxHeartbeats 8000000 in
set_option maxRecDepth 100000 in
theorem spec_RingGraph.calls (k : Nat) (a0 : Int) (r : List (List Int)) (w : World) (h : spec_RingGraph.f k a0 = some r) :
  Calls Tryz.prog 22 #[.int .i64 a0] w fun e w' => ∃ v0_ : Value, e = .returned (v0_) ∧ Kd.S (Kd.slice 3 (Kd.int .i64)) 26 w' w.heap.size (fun k_ => (w.heap.size ≤ k_)) v0_ r ∧ Below w.heap.size w w' := by
 have HB := Aside0.mk (Below.refl w.heap.size w)
 have H : (spec_RingGraph.l0 k a0 (([] : List (List Int))) 0) = some r := h
 clear h
 generalize hy617 : (([] : List (List Int)) : List (List Int)) = y617 at H
 have Ny617 := Aside0.mk hy617.symm; clear hy617
 have H' := Aside0.mk H
 clear H
 go_enter Tryz.func22, Tryz.ntmps22
 go_wp2_with (first | ((with_reducible refine gate_dst (N := 5) rfl ?_); refine Kd.S_lit (Kd.slice 3 (Kd.int .i64)) _ 26 ?hg (N := 5) ?hd (xs := ([] : List (List Int))) (inner := []) (ok := fun _ => True) (okp := fun _ => True) ?hr ?hp (fun _ hk => hk) trivial (Below.refl _ _) (Nat.le_refl _) (by simp) ?_; (case hd => rfl); (case hg => rfl); (case hr => exact gS); (case hp => exact (Reps.none _ _)); intro v618 w2 ho3 hb hg_ hnew_; clear hg_ hnew_; (first | rw [← Ny617.out] at ho3 | (simp only [Int.reduceToNat] at ho3; rw [← Ny617.out] at ho3)); have HO619 := Aside0.mk (Kd.S_lower (Kd.S_newM (M := fun k_ => (w.heap.size ≤ k_)) ho3 (below_size tb) (fun k_ h_ => h_)) (below_size tb)); replace HB := Aside0.mk (below_step tb hb); clear hb ho3))
 go_loopg [3, 4] k (fun kq v3 v4 w' => ∃ (x3_1 : List (List Int)) (x4_1 : Int), v4 = .int .i64 x4_1 ∧ Aside0 (spec_RingGraph.l0 kq a0 x3_1 x4_1 = some r) ∧ Aside0 (kq ≤ k) ∧ Aside0 (Kd.S (Kd.slice 3 (Kd.int .i64)) 26 w' w.heap.size (fun k_ => (w.heap.size ≤ k_)) v3 x3_1) ∧ Aside0 (Below w.heap.size w w'))
 case atStart => exact ⟨(y617), (0), rS, H', ⟨Nat.le_refl _⟩, ⟨S_l (Kd.S_mono HO619.out (fun _ hk => hk.1))⟩, ⟨tb⟩⟩
 case round =>
  clear H'
  try clear c2
  try clear p2
  obtain ⟨x3_1, x4_1, rfl, HA, HK1, HO_3, HB⟩ := hrel
  cases gk with
  | zero => exact absurd HA.out (by simp [spec_RingGraph.l0])
  | succ k1 =>
   have H := HA.out
   clear HA
   simp only [spec_RingGraph.l0] at H
   obtain ⟨c4b0, H⟩ | ⟨c4b0, H⟩ := gi H
   ·obtain ⟨t620, A5, H⟩ := bs H
    by_cases c6 : t620 = true
    ·subst c6
     rw [if_pos rfl] at H
     by_cases c7 : a0 = 0
     ·rw [if_pos c7] at H
      exact absurd H (by simp)
     ·rw [if_neg c7] at H
      have c7b0 : (a0 == 0) = false := beq_eq_false_iff_ne.mpr c7
      have c7b1 : (a0 != 0) = true := bne_iff_ne.mpr c7
      generalize hy621 : (([x4_1, Int.tmod (wrap64 (x4_1 + 1)) a0] : List Int) : List Int) = y621 at H
      have Ny621 := Aside0.mk hy621.symm; clear hy621
      obtain ⟨LMc8, H⟩ := gda H
      generalize hy624 : (x3_1 ++ [y621] : List (List Int)) = y624 at H
      have Ny624 := Aside0.mk hy624.symm; clear hy624
      have H' := Aside0.mk H
      clear H
      go_wp2_with (first | (go_at_call 49; (with_reducible refine (spec_l1In.calls a0 3 7 true _ A5.out).mono ?_); rintro e w' ⟨rfl, ⟨nd, rfl⟩⟩) | ((with_reducible refine gate_dst (N := 21) rfl ?_); refine Kd.R_lit (Kd.int .i64) _ 3 ?hg (N := 21) ?hd (xs := ([x4_1, Int.tmod (wrap64 (x4_1 + 1)) a0] : List Int)) (inner := [.int .i64 x4_1, .int .i64 (Int.tmod (wrap64 (x4_1 + 1)) a0)]) (ok := fun _ => True) (okp := fun _ => True) ?hr ?hp (fun _ hk => hk) trivial (Below.refl _ _) (Nat.le_refl _) (by simp) ?_; (case hd => rfl); (case hg => rfl); (case hr => exact gS); (case hp => exact (Reps.one (show Kd.M (Kd.int .i64) _ _ _ x4_1 [.int .i64 x4_1] from rfl) (Reps.one (show Kd.M (Kd.int .i64) _ _ _ (Int.tmod (wrap64 (x4_1 + 1)) a0) [.int .i64 (Int.tmod (wrap64 (x4_1 + 1)) a0)] from rfl) (Reps.none _ _)))); intro v622 w9 ho10 hb hg_ hnew_; clear hg_ hnew_; (first | rw [← Ny621.out] at ho10 | (simp only [Int.reduceToNat] at ho10; rw [← Ny621.out] at ho10)); replace HO_3 := Aside0.mk (Kd.S_elder' (S_l HO_3.out) (Kd.R_base ho10) hb); have HO623 := Aside0.mk (Kd.R_lower (Kd.R_newM (M := fun k_ => (w.heap.size ≤ k_)) ho10 (below_size tb) (fun k_ h_ => h_)) (below_size tb)); replace HB := Aside0.mk (below_step tb hb); clear hb ho10; obtain ⟨Ao12, co12, eo12⟩ := Kd.R_slice HO623.out; subst eo12) | ((with_reducible refine gate_builtin (b := .append) (xs := #[.tmp 15, .tmp 22]) rfl ?_); at_builtin; refine Kd.S_append (Kd.slice 3 (Kd.int .i64)) (w0 := w) w.heap.size rfl (.tmp 15) (.tmp 22) 24 26 (.slice none 0 0) 24 rfl Tryz.underlying24 info26 rfl (by decide) (by omega) u3 x3_1 y621 [.slice Ao12 y621.length co12] (fun k_ => (w.heap.size ≤ k_)) (fun k_ => some k_ = (.slice Ao12 y621.length co12 : Value).ownBlock) rfl rfl ?aP (fun k_ hk_ => ((Kd.R_mono (ok' := fun k_ => ((fun k_ => (w.heap.size ≤ k_))) k_ ∧ some k_ ≠ (u3 : Value).ownBlock) (Kd.R_apart' (HO623.out) (Kd.S_typed HO_3.out) (by decide)) (fun k_ hk => ⟨hk.1.1, hk.2⟩))).1 k_ hk_.symm) ?aF ?aO ?aB ?aS ?aL ?_; (case aP => exact Kd.M_row (Kd.R_mono (Kd.R_tight rfl (Kd.R_mono (ok' := fun k_ => ((fun k_ => (w.heap.size ≤ k_))) k_ ∧ some k_ ≠ (u3 : Value).ownBlock) (Kd.R_apart' (HO623.out) (Kd.S_typed HO_3.out) (by decide)) (fun k_ hk => ⟨hk.1.1, hk.2⟩))) (fun _ h_ => h_))); (case aB => exact tb); (case aF => exact (fun k_ hk => (Nat.le_trans (below_size tb) hk))); (case aO => exact (S_l (Kd.S_mono HO_3.out (fun k_ hk => ⟨hk.1, fun e_ => hk.2 e_⟩)))); (case aS => exact (below_size tb)); (case aL => have := LMc8.out; omega); intro v625 w11 ho hb hg hat; rw [← Ny624.out] at ho; replace HB := Aside0.mk (hb); have HO626 := Aside0.mk (ho); clear HO_3 HO623; clear ho hb hg hat))
      go_roundg k1
      case measure => exact oK
      case rel => exact ⟨(y624), (wrap64 (x4_1 + 1)), rS, H', ⟨oK⟩, ⟨S_l HO626.out⟩, ⟨tb⟩⟩
    ·replace c6 := Bool.eq_false_iff.mpr c6
     subst c6
     rw [if_neg (show ¬ (false = true) by decide)] at H
     obtain ⟨t627, A13, H⟩ := bs H
     obtain rfl := Option.some.inj H
     go_wp2_with (first | (go_at_call 49; (with_reducible refine (spec_l1In.calls a0 3 7 false _ A5.out).mono ?_); rintro e w' ⟨rfl, ⟨nd, rfl⟩⟩; obtain ⟨Ao14, co14, eo14⟩ := Kd.S_slice HO_3.out; subst eo14) | ((with_reducible refine gate_callee (f := 52) rfl ?_); refine goesL_ (some 25) rfl rfl Tryz.func52 (by kernel_rfl) rfl #[.slice Ao14 x3_1.length co14] rfl mp_ ?_; (with_reducible refine (spec_l7Right.calls k1 (fun k_ => (w.heap.size ≤ k_)) _ _ x3_1 t627 _ w.heap.size ?side0 ?side1 A13.out).mono ?_); (case side0 => exact (below_size tb)); (case side1 => exact HO_3.out); rintro e w15 ⟨v628, rfl, ho0, hb⟩; refine ⟨_, rfl, ?_⟩; replace HO_3 := Aside0.mk (sB HO_3.out hb); have HO629 := Aside0.mk (Kd.S_mono (ok' := fun k_ => (w.heap.size ≤ k_)) ho0 (fun k_ hk_ => Or.elim hk_ (fun hs_ => hs_) (fun hn_ => (Nat.le_trans (below_size tb) hn_)))); replace HB := Aside0.mk (below_step tb hb)))
     go_ret
     exact ⟨_, rE, S_l HO629.out, tb⟩
   ·obtain ⟨t630, A16, H⟩ := bs H
    obtain rfl := Option.some.inj H
    obtain ⟨Ao17, co17, eo17⟩ := Kd.S_slice HO_3.out
    subst eo17
    go_wp2_with (first | ((with_reducible refine gate_callee (f := 52) rfl ?_); refine goesL_ (some 25) rfl rfl Tryz.func52 (by kernel_rfl) rfl #[.slice Ao17 x3_1.length co17] rfl mp_ ?_; (with_reducible refine (spec_l7Right.calls k1 (fun k_ => (w.heap.size ≤ k_)) _ _ x3_1 t630 _ w.heap.size ?side0 ?side1 A16.out).mono ?_); (case side0 => exact (below_size tb)); (case side1 => exact HO_3.out); rintro e w18 ⟨v631, rfl, ho0, hb⟩; refine ⟨_, rfl, ?_⟩; replace HO_3 := Aside0.mk (sB HO_3.out hb); have HO632 := Aside0.mk (Kd.S_mono (ok' := fun k_ => (w.heap.size ≤ k_)) ho0 (fun k_ hk_ => Or.elim hk_ (fun hs_ => hs_) (fun hn_ => (Nat.le_trans (below_size tb) hn_)))); replace HB := Aside0.mk (below_step tb hb)))
    go_ret
    exact ⟨_, rE, S_l HO632.out, tb⟩

/-! ### spec_FirstRotation: function 23 -/
def spec_FirstRotation.l0 : Nat → List (List Int) → List Int → Int → Option (List Int)
 | 0, _, _, _ => none
 | k + 1, x0, x3, x4 => if x4 < 7 then ((spec_l7Darts.f k x0 x4).bind fun t640 => ((spec_l7Ring.f k x3 t640).bind fun t643 => (spec_FirstRotation.l0 k x0 t643 (wrap64 (x4 + 1))))) else (some x3)
def spec_FirstRotation.f (k : Nat) (l0 : List (List Int)) : Option (List Int) := (spec_IsGraph.f k l0).bind fun t633 => (if t633 = true then (if 0 ≤ (wrap64 (2 * (l0.length : Int))) then (if (wrap64 (2 * (l0.length : Int)) : Int).toNat ≤ 35184372088832 then (spec_FirstRotation.l0 k l0 (List.replicate (wrap64 (2 * (l0.length : Int)) : Int).toNat 0) 0) else (none)) else (none)) else (some (([] : List Int))))
set_option maxHeartbeats 8000000 in
set_option maxRecDepth 100000 in
theorem spec_FirstRotation.calls (k : Nat) (A0 : Option Addr) (c0 : Nat) (l0 : List (List Int)) (r : List Int) (w : World) (hr0 : Kd.C (Kd.slice 3 (Kd.int .i64)) w A0 l0.length l0) (hc0 : l0.length ≤ c0) (h : spec_FirstRotation.f k l0 = some r) :
  Calls Tryz.prog 23 #[.slice A0 l0.length c0] w fun e w' => ∃ v0_ : Value, e = .returned (v0_) ∧ Kd.R (Kd.int .i64) 3 w' w.heap.size (fun _ => True) v0_ r ∧ Below w.heap.size w w' := by
 have HR0 := Aside0.mk hr0
 have HC0 := Aside0.mk hc0
 clear hr0 hc0
 have HB := Aside0.mk (Below.refl w.heap.size w)
 have H : ((spec_IsGraph.f k l0).bind fun t633 => (if t633 = true then (if 0 ≤ (wrap64 (2 * (l0.length : Int))) then (if (wrap64 (2 * (l0.length : Int)) : Int).toNat ≤ 35184372088832 then (spec_FirstRotation.l0 k l0 (List.replicate (wrap64 (2 * (l0.length : Int)) : Int).toNat 0) 0) else (none)) else (none)) else (some (([] : List Int))))) = some r := h
 clear h
 obtain ⟨t633, A2, H⟩ := bs H
 by_cases c3 : t633 = true
 ·subst c3
  rw [if_pos rfl] at H
  obtain ⟨ji4, hji4⟩ : ∃ j_ : Int, (wrap64 (2 * (l0.length : Int))) = j_ := ⟨_, rfl⟩
  replace H : (if 0 ≤ (ji4) then (if (ji4 : Int).toNat ≤ 35184372088832 then (spec_FirstRotation.l0 k l0 (List.replicate (ji4 : Int).toNat 0) 0) else (none)) else (none)) = some r := by first | (rw [hji4] at H; exact H) | (simp only [hji4] at H ⊢; exact H)
  (try rw [hji4] at A2)
  have hji4w : (IntKind.i64.wrap (2 * (l0.length : Int))) = ji4 := (i64_w _).trans hji4
  obtain ⟨c5, H⟩ := gd H
  have c5b0 := eq_true c5
  have c5b1 : decide (0 ≤ (ji4)) = true := decide_eq_true c5
  clear c5
  obtain ⟨c6, H⟩ := gd H
  have c6b0 := eq_true c6
  have c6b1 : decide ((ji4 : Int).toNat ≤ 35184372088832) = true := decide_eq_true c6
  clear c6
  generalize hy637 : (List.replicate (ji4 : Int).toNat 0 : List Int) = y637 at H
  have Ny637 := Aside0.mk hy637.symm; clear hy637
  have H' := Aside0.mk H
  clear H
  go_enter Tryz.func23, Tryz.ntmps23
  go_wp2_with (first | ((with_reducible refine gate_callee (f := 25) rfl ?_); refine goesL_ (some 6) rfl rfl Tryz.func25 (by kernel_rfl) rfl #[.slice A0 l0.length c0] rfl mp_ ?_; (with_reducible refine (spec_IsGraph.calls k _ _ l0 true _ ?side1 ?side2 A2.out).mono ?_); (case side1 => exact C_l HR0.out); (case side2 => exact HC0.out); rintro e w7 ⟨rfl, hb⟩; refine ⟨_, rfl, ?_⟩; replace HB := Aside0.mk (below_step tb hb)) | ((with_reducible refine gate_dst (N := 12) rfl ?_); refine Kd.R_make (Kd.int .i64) _ 3 rfl (N := 12) rfl 26 _ _ rfl ji4 rfl rfl Tryz.underlying26 (.int .i64 0) 8 info3 rfl (by decide) (by omega) 0 (ok := fun _ => True) (okp := fun _ => True) rfl (fun _ hk => hk) trivial dT (Nat.le_trans (Nat.mul_le_mul_right _ (dT : ji4.toNat ≤ 35184372088832)) (by omega)) (Below.refl _ _) (Nat.le_refl _) ?_; intro v638 w8 ho9 hb hg_ hnew_; clear hg_ hnew_; (first | rw [← Ny637.out] at ho9 | (simp only [Int.reduceToNat] at ho9; rw [← Ny637.out] at ho9)); have HO639 := Aside0.mk (Kd.R_lower ho9 (below_size tb)); replace HB := Aside0.mk (below_step tb hb); clear hb ho9))
  go_loopg [4] k (fun kq v4 w' => ∃ (x3_1 : List Int) (x4_1 : Int), v4 = .int .i64 x4_1 ∧ Aside0 (spec_FirstRotation.l0 kq l0 x3_1 x4_1 = some r) ∧ Aside0 (kq ≤ k) ∧ Aside0 (Kd.R (Kd.int .i64) 3 w' w.heap.size (fun _ => True) v638 x3_1) ∧ Aside0 (Below w.heap.size w w'))
  case atStart => exact ⟨(y637), (0), rS, H', ⟨Nat.le_refl _⟩, ⟨R_l HO639.out⟩, ⟨tb⟩⟩
  case round =>
   clear H'
   try clear c2
   try clear p2
   try clear c3
   try clear c5
   try clear c5b0
   try clear c5b1
   try clear c6
   try clear c6b0
   try clear c6b1
   try clear p6
   obtain ⟨x3_1, x4_1, rfl, HA, HK1, HO_3, HB⟩ := hrel
   cases gk with
   | zero => exact absurd HA.out (by simp [spec_FirstRotation.l0])
   | succ k1 =>
    have H := HA.out
    clear HA
    simp only [spec_FirstRotation.l0] at H
    obtain ⟨c10b0, H⟩ | ⟨c10b0, H⟩ := gi H
    ·obtain ⟨t640, A11, H⟩ := bs H
     obtain ⟨t643, A12, H⟩ := bs H
     have H' := Aside0.mk H
     clear H
     go_wp2_with (first | ((with_reducible refine gate_callee (f := 55) rfl ?_); refine goesL_ (some 20) rfl rfl Tryz.func55 (by kernel_rfl) rfl #[.slice A0 l0.length c0, .int .i64 x4_1] rfl mp_ ?_; (with_reducible refine (spec_l7Darts.calls k1 _ _ l0 x4_1 t640 _ ?side1 ?side2 A11.out).mono ?_); (case side1 => exact C_l (Kd.C_below HR0.out HB.out)); (case side2 => exact HC0.out); rintro e w13 ⟨v641, rfl, ho0, hb⟩; refine ⟨_, rfl, ?_⟩; have HO642 := Aside0.mk (Kd.R_lower (Kd.R_new' ho0 (Kd.R_lt (R_l HO_3.out))) (below_size tb)); replace HO_3 := Aside0.mk (Kd.R_elder' (R_l HO_3.out) (Kd.R_base ho0) hb); replace HB := Aside0.mk (below_step tb hb); obtain ⟨Ao14, co14, eo14⟩ := Kd.R_slice HO_3.out; subst eo14; obtain ⟨Ao15, co15, eo15⟩ := Kd.R_slice HO642.out; subst eo15) | ((with_reducible refine gate_callee (f := 54) rfl ?_); refine goesL_ (some 21) rfl rfl Tryz.func54 (by kernel_rfl) rfl #[.slice Ao14 x3_1.length co14, .slice Ao15 t640.length co15] rfl mp_ ?_; (with_reducible refine (spec_l7Ring.calls k1 (fun k_ => some k_ = (.slice Ao14 x3_1.length co14 : Value).ownBlock) (.slice Ao14 x3_1.length co14) x3_1 _ _ t640 t643 w _ ?side1 ?side2 ?side3 ?side4 A12.out).mono ?_); (case side1 => exact tb); (case side2 => exact Kd.R_tight rfl HO_3.out); (case side3 => exact Kd.C_kept_own (HO642.out) (fun k_ hk_ hs_ => (hk_.2) hs_)); (case side4 => exact (Kd.R_reads' HO642.out).2.1); rintro e w16 ⟨rfl, hy0, hb, hkp⟩; refine ⟨_, rfl, ?_⟩; replace HO_3 := Aside0.mk (Kd.R_reok rfl hy0 (fun k_ e_ => HO_3.out.1 k_ e_)); replace HO642 := Aside0.mk (Kd.R_mono (ok' := fun k_ => some k_ ≠ (.slice Ao14 x3_1.length co14 : Value).ownBlock) (Kd.R_keptB (HO642.out) hkp (fun k_ hk_ hs_ => (hk_.2) hs_)) (fun k_ hk_ => hk_.1.2)); replace HB := Aside0.mk (hb); (try clear hkp); (try clear hy0)))
     go_roundg k1
     case measure => exact oK
     case rel => exact ⟨(t643), (wrap64 (x4_1 + 1)), rS, H', ⟨oK⟩, ⟨R_l (Kd.R_mono HO_3.out (fun _ hk => trivial))⟩, ⟨tb⟩⟩
    ·obtain rfl := Option.some.inj H
     go_wp2
     go_ret
     exact ⟨_, by first | rfl | (simp [errW_none, errW_some] <;> rfl) | (simp only [← hji4]; first | rfl | (simp [errW_none, errW_some] <;> rfl)) | (simp [*, errW_none, errW_some] <;> rfl), R_l HO_3.out, tb⟩
 ·replace c3 := Bool.eq_false_iff.mpr c3
  subst c3
  rw [if_neg (show ¬ (false = true) by decide)] at H
  generalize hy634 : (([] : List Int) : List Int) = y634 at H
  have Ny634 := Aside0.mk hy634.symm; clear hy634
  obtain rfl := Option.some.inj H
  go_enter Tryz.func23, Tryz.ntmps23
  go_wp2_with (first | ((with_reducible refine gate_callee (f := 25) rfl ?_); refine goesL_ (some 6) rfl rfl Tryz.func25 (by kernel_rfl) rfl #[.slice A0 l0.length c0] rfl mp_ ?_; (with_reducible refine (spec_IsGraph.calls k _ _ l0 false _ ?side1 ?side2 A2.out).mono ?_); (case side1 => exact C_l HR0.out); (case side2 => exact HC0.out); rintro e w17 ⟨rfl, hb⟩; refine ⟨_, rfl, ?_⟩; replace HB := Aside0.mk (below_step tb hb)) | ((with_reducible refine gate_dst (N := 8) rfl ?_); refine Kd.R_lit (Kd.int .i64) _ 3 ?hg (N := 8) ?hd (xs := ([] : List Int)) (inner := []) (ok := fun _ => True) (okp := fun _ => True) ?hr ?hp (fun _ hk => hk) trivial (Below.refl _ _) (Nat.le_refl _) (by simp) ?_; (case hd => rfl); (case hg => rfl); (case hr => exact gS); (case hp => exact (Reps.none _ _)); intro v635 w18 ho19 hb hg_ hnew_; clear hg_ hnew_; (first | rw [← Ny634.out] at ho19 | (simp only [Int.reduceToNat] at ho19; rw [← Ny634.out] at ho19)); have HO636 := Aside0.mk (Kd.R_lower ho19 (below_size tb)); replace HB := Aside0.mk (below_step tb hb); clear hb ho19))
  go_ret
  exact ⟨_, rE, R_l HO636.out, tb⟩

/-! ### impl_LeastGenus: function 30 -/
def impl_LeastGenus.l0 : Nat → List Int → Int → Int → Option (Int)
 | 0, _, _, _ => none
 | k + 1, x6, x7, x8 => if x8 < x7 then (if 0 ≤ x8 then (if x8 < (x6.length : Int) then (if (rd x6 x8) > 0 then (some x8) else (impl_LeastGenus.l0 k x6 x7 (wrap64 (x8 + 1)))) else (none)) else (none)) else (some (-1))
def impl_LeastGenus.f (k : Nat) (l0 : List (List Int)) : Option (Int) := (impl_GenusRow.f k l0).bind fun t644 => (impl_LeastGenus.l0 k t644 (t644.length : Int) 0)
set_option maxHeartbeats 8000000 in
set_option maxRecDepth 100000 in
theorem impl_LeastGenus.calls (k : Nat) (A0 : Option Addr) (c0 : Nat) (l0 : List (List Int)) (r : Int) (w : World) (hr0 : Kd.C (Kd.slice 3 (Kd.int .i64)) w A0 l0.length l0) (hc0 : l0.length ≤ c0) (h : impl_LeastGenus.f k l0 = some r) :
  Calls Tryz.prog 30 #[.slice A0 l0.length c0] w fun e w' => e = .returned (.int .i64 r) ∧ Below w.heap.size w w' := by
 have HR0 := Aside0.mk hr0
 have HC0 := Aside0.mk hc0
 clear hr0 hc0
 have HB := Aside0.mk (Below.refl w.heap.size w)
 have H : ((impl_GenusRow.f k l0).bind fun t644 => (impl_LeastGenus.l0 k t644 (t644.length : Int) 0)) = some r := h
 clear h
 obtain ⟨t644, A2, H⟩ := bs H
 have H' := Aside0.mk H
 clear H
 go_enter Tryz.func30, Tryz.ntmps30
 go_wp2_with (first | ((with_reducible refine gate_callee (f := 6) rfl ?_); refine goesL_ (some 6) rfl rfl Tryz.func6 (by kernel_rfl) rfl #[.slice A0 l0.length c0] rfl mp_ ?_; (with_reducible refine (impl_GenusRow.calls k _ _ l0 t644 _ ?side1 ?side2 A2.out).mono ?_); (case side1 => exact C_l HR0.out); (case side2 => exact HC0.out); rintro e w3 ⟨v645, rfl, ho0, hb⟩; refine ⟨_, rfl, ?_⟩; have HO646 := Aside0.mk (Kd.R_lower ho0 (below_size tb)); replace HB := Aside0.mk (below_step tb hb); obtain ⟨Ao4, co4, eo4⟩ := Kd.R_slice HO646.out; subst eo4))
 go_loopg [8] k (fun kq v8 w' => ∃ (x8_1 : Int), v8 = .int .i64 x8_1 ∧ Aside0 (impl_LeastGenus.l0 kq t644 (t644.length : Int) x8_1 = some r) ∧ Aside0 (kq ≤ k) ∧ Aside0 (Kd.R (Kd.int .i64) 3 w' w.heap.size (fun _ => True) (.slice Ao4 t644.length co4) t644) ∧ Aside0 (Below w.heap.size w w'))
 case atStart => exact ⟨(0), rS, H', ⟨Nat.le_refl _⟩, ⟨R_l HO646.out⟩, ⟨tb⟩⟩
 case round =>
  clear H'
  try clear p2
  try clear c3
  obtain ⟨x8_1, rfl, HA, HK1, HO_6, HB⟩ := hrel
  cases gk with
  | zero => exact absurd HA.out (by simp [impl_LeastGenus.l0])
  | succ k1 =>
   have H := HA.out
   clear HA
   simp only [impl_LeastGenus.l0] at H
   obtain ⟨c5b0, H⟩ | ⟨c5b0, H⟩ := gi H
   ·obtain ⟨c6b0, H⟩ := gdt H
    obtain ⟨c7b0, H⟩ := gdt H
    by_cases c8 : (rd t644 x8_1) > 0
    ·rw [if_pos c8] at H
     have c8b0 : decide (0 < (rd t644 x8_1)) = true := decide_eq_true c8
     clear c8
     obtain rfl := Option.some.inj H
     have p647 : 0 ≤ (x8_1 : Int) := dT
     have q647 : x8_1 < (t644.length : Int) := dT
     obtain ⟨ad647, e647, hx647_0⟩ := Kd.at_int (Kd.R_reads' HO_6.out).2.2 x8_1 p647 q647
     cases e647
     replace p647 := eq_true p647
     replace q647 := eq_true q647
     go_wp2
     go_ret
     exact ⟨rE, tb⟩
    ·rw [if_neg c8] at H
     have c8b0 : decide (0 < (rd t644 x8_1)) = false := decide_eq_false c8
     clear c8
     have H' := Aside0.mk H
     clear H
     have p647 : 0 ≤ (x8_1 : Int) := dT
     have q647 : x8_1 < (t644.length : Int) := dT
     obtain ⟨ad647, e647, hx647_0⟩ := Kd.at_int (Kd.R_reads' HO_6.out).2.2 x8_1 p647 q647
     cases e647
     replace p647 := eq_true p647
     replace q647 := eq_true q647
     go_wp2
     go_roundg k1
     case measure => exact oK
     case rel => exact ⟨(wrap64 (x8_1 + 1)), rS, H', ⟨oK⟩, ⟨R_l HO_6.out⟩, ⟨tb⟩⟩
   ·obtain rfl := Option.some.inj H
    go_wp2
    go_ret
    exact ⟨rE, tb⟩

end Go.Proofs.YtafpbabiahjjaaaGreatDoor.PFnGraphs
