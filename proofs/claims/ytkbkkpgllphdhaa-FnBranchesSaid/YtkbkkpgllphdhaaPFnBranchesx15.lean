import Derived.Test.YtkbkkpgllphdhaaWSpan
import Derived.Test.YtkbkkpgllphdhaaWLater
import Derived.Test.YtkbkkpgllphdhaaPFnBranchesx0
import Derived.Test.YtkbkkpgllphdhaaPFnBranchesx2
import Derived.Test.YtkbkkpgllphdhaaPFnBranchesx5
import Derived.Test.YtkbkkpgllphdhaaPFnBranchesx6
import Derived.Test.YtkbkkpgllphdhaaPFnBranchesx14
namespace Go.Proofs.Ytkbkkpgllphdhaa.PFnBranches
open Go.RowKit Go.Proofs.YtkbkkpgllphdhaaW.PrintWords Go.Proofs.YtkbkkpgllphdhaaW.PrintLast Go.Proofs.YtkbkkpgllphdhaaW.PrintMore
attribute [local go_sem] max2_int min2_int max_two min_two max_three min_three max_four min_four   -- for this text's walks alone
set_option linter.unusedVariables false
set_option linter.unusedSimpArgs false

/-! ### spec_AddEdge: function 80 -/
def spec_AddEdge.j0 : Nat → List Int → Int → Int → Bool → Option (List Int × Bool)
 | 0, _, _, _, _ => none
 | k + 1, x0, x1, x2, x34 => if x34 = true then (some ((([] : List Int)), false)) else ((some (([] : List Int) : List Int)).bind fun y532 => (if y532.length + x0.length < 17592186044416 then ((some (y532 ++ x0 : List Int)).bind fun y535 => ((some (([0, 0] : List Int) : List Int)).bind fun y538 => (if y535.length + y538.length < 17592186044416 then ((some (y535 ++ y538 : List Int)).bind fun y541 => (if 0 ≤ x1 then (if x1 < (y541.length : Int) then (if 0 ≤ (x0.length : Int) then (if (x0.length : Int) < (y541.length : Int) then ((some ((y541.set ((x0.length : Int) : Int).toNat (rd y541 x1)).set (x1 : Int).toNat (x0.length : Int) : List Int)).bind fun y546 => (if x1 = x2 then (if 0 ≤ (wrap64 ((x0.length : Int) + 1)) then (if (wrap64 ((x0.length : Int) + 1)) < (y541.length : Int) then (some (((y546.set ((wrap64 ((x0.length : Int) + 1)) : Int).toNat (rd y546 (x0.length : Int))).set ((x0.length : Int) : Int).toNat (wrap64 ((x0.length : Int) + 1))), true)) else (none)) else (none)) else (if 0 ≤ x2 then (if x2 < (y541.length : Int) then (if 0 ≤ (wrap64 ((x0.length : Int) + 1)) then (if (wrap64 ((x0.length : Int) + 1)) < (y541.length : Int) then (some (((y546.set ((wrap64 ((x0.length : Int) + 1)) : Int).toNat (rd y546 x2)).set (x2 : Int).toNat (wrap64 ((x0.length : Int) + 1))), true)) else (none)) else (none)) else (none)) else (none)))) else (none)) else (none)) else (none)) else (none))) else (none)))) else (none)))
def spec_AddEdge.f (k : Nat) (l0 : List Int) (a1 : Int) (a2 : Int) : Option (List Int × Bool) := (spec_IsMap.f k l0).bind fun t526 => (if t526 = true then ((spec_l1In.f a1 0 (wrap64 ((l0.length : Int) - 1))).bind fun t527 => (if t527 = true then ((spec_l1In.f a2 0 (wrap64 ((l0.length : Int) - 1))).bind fun t528 => (if t528 = true then (spec_AddEdge.j0 k l0 a1 a2 (decide ((wrap64 ((l0.length : Int) + 2)) > 24))) else (spec_AddEdge.j0 k l0 a1 a2 true))) else (spec_AddEdge.j0 k l0 a1 a2 true))) else (spec_AddEdge.j0 k l0 a1 a2 true))
set_option maxHeartbeats 8000000 in
set_option maxRecDepth 100000 in
theorem spec_AddEdge.calls (k : Nat) (A0 : Option Addr) (c0 : Nat) (l0 : List Int) (a1 : Int) (a2 : Int) (r1 : List Int) (r2 : Bool) (w : World) (hr0 : Kd.C (Kd.int .i64) w A0 l0.length l0) (hc0 : l0.length ≤ c0) (h : spec_AddEdge.f k l0 a1 a2 = some (r1, r2)) :
  Calls Try.prog 80 #[.slice A0 l0.length c0, .int .i64 a1, .int .i64 a2] w fun e w' => ∃ v0_ : Value, e = .returned (.tuple #[v0_, .bool r2]) ∧ Kd.R (Kd.int .i64) 3 w' w.heap.size (fun _ => True) v0_ r1 ∧ Below w.heap.size w w' := by
 have HR0 := Aside0.mk hr0
 have HC0 := Aside0.mk hc0
 clear hr0 hc0
 have HB := Aside0.mk (Below.refl w.heap.size w)
 have H : ((spec_IsMap.f k l0).bind fun t526 => (if t526 = true then ((spec_l1In.f a1 0 (wrap64 ((l0.length : Int) - 1))).bind fun t527 => (if t527 = true then ((spec_l1In.f a2 0 (wrap64 ((l0.length : Int) - 1))).bind fun t528 => (if t528 = true then (spec_AddEdge.j0 k l0 a1 a2 (decide ((wrap64 ((l0.length : Int) + 2)) > 24))) else (spec_AddEdge.j0 k l0 a1 a2 true))) else (spec_AddEdge.j0 k l0 a1 a2 true))) else (spec_AddEdge.j0 k l0 a1 a2 true))) = some (r1, r2) := h
 clear h
 have HC4 := Aside0.mk H
 clear H
 go_enter Try.func80, Try.ntmps80
 go_upto_region 1 with (fail)
 go_cut [34] (fun v34 wc => ∃ (kq : Nat) (x34_3 : Bool), v34 = .bool x34_3 ∧ Aside0 (spec_AddEdge.j0 kq l0 a1 a2 x34_3 = some (r1, r2)) ∧ Aside0 (kq ≤ k) ∧ Aside0 (Below w.heap.size w wc))
 case first =>
  have H := HC4.out
  clear HC4
  obtain ⟨t526, A5, H⟩ := bs H
  by_cases c6 : t526 = true
  ·subst c6
   rw [if_pos rfl] at H
   obtain ⟨t527, A7, H⟩ := bs H
   by_cases c8 : t527 = true
   ·subst c8
    rw [if_pos rfl] at H
    obtain ⟨t528, A9, H⟩ := bs H
    by_cases c10 : t528 = true
    ·subst c10
     rw [if_pos rfl] at H
     have H' := Aside0.mk H
     clear H
     go_wp2_with (first | (refine gL 51 (some 11) Try.func51 #[.slice A0 l0.length c0] ?_; (with_reducible refine (spec_IsMap.calls k _ _ l0 true _ ?side1 ?side2 A5.out).mono ?_); (case side1 => exact C_l (Kd.C_below HR0.out HB.out)); (case side2 => exact HC0.out); rintro e w11 ⟨rfl, hb⟩; refine ⟨_, rfl, ?_⟩; replace HB := Aside0.mk (zS HB hb)) | (go_at_call 38; (with_reducible refine (spec_l1In.calls a1 0 (wrap64 ((l0.length : Int) - 1)) true _ A7.out).mono ?_); rintro e w' ⟨rfl, ⟨nd, rfl⟩⟩) | (go_at_call 38; (with_reducible refine (spec_l1In.calls a2 0 (wrap64 ((l0.length : Int) - 1)) true _ A9.out).mono ?_); rintro e w' ⟨rfl, ⟨nd, rfl⟩⟩))
     go_meet
     case rel => exact ⟨_, (decide ((wrap64 ((l0.length : Int) + 2)) > 24)), rS, H', ⟨by first | omega | exact Nat.le_refl _⟩, ⟨B_l HB.out⟩⟩
    ·replace c10 := Bool.eq_false_iff.mpr c10
     subst c10
     rw [if_neg (show ¬ (false = true) by decide)] at H
     have H' := Aside0.mk H
     clear H
     go_wp2_with (first | (refine gL 51 (some 11) Try.func51 #[.slice A0 l0.length c0] ?_; (with_reducible refine (spec_IsMap.calls k _ _ l0 true _ ?side1 ?side2 A5.out).mono ?_); (case side1 => exact C_l (Kd.C_below HR0.out HB.out)); (case side2 => exact HC0.out); rintro e w12 ⟨rfl, hb⟩; refine ⟨_, rfl, ?_⟩; replace HB := Aside0.mk (zS HB hb)) | (go_at_call 38; (with_reducible refine (spec_l1In.calls a1 0 (wrap64 ((l0.length : Int) - 1)) true _ A7.out).mono ?_); rintro e w' ⟨rfl, ⟨nd, rfl⟩⟩) | (go_at_call 38; (with_reducible refine (spec_l1In.calls a2 0 (wrap64 ((l0.length : Int) - 1)) false _ A9.out).mono ?_); rintro e w' ⟨rfl, ⟨nd, rfl⟩⟩))
     go_meet
     case rel => exact ⟨_, (true), rS, H', ⟨by first | omega | exact Nat.le_refl _⟩, ⟨B_l HB.out⟩⟩
   ·replace c8 := Bool.eq_false_iff.mpr c8
    subst c8
    rw [if_neg (show ¬ (false = true) by decide)] at H
    have H' := Aside0.mk H
    clear H
    go_wp2_with (first | (refine gL 51 (some 11) Try.func51 #[.slice A0 l0.length c0] ?_; (with_reducible refine (spec_IsMap.calls k _ _ l0 true _ ?side1 ?side2 A5.out).mono ?_); (case side1 => exact C_l (Kd.C_below HR0.out HB.out)); (case side2 => exact HC0.out); rintro e w13 ⟨rfl, hb⟩; refine ⟨_, rfl, ?_⟩; replace HB := Aside0.mk (zS HB hb)) | (go_at_call 38; (with_reducible refine (spec_l1In.calls a1 0 (wrap64 ((l0.length : Int) - 1)) false _ A7.out).mono ?_); rintro e w' ⟨rfl, ⟨nd, rfl⟩⟩))
    go_meet
    case rel => exact ⟨_, (true), rS, H', ⟨by first | omega | exact Nat.le_refl _⟩, ⟨B_l HB.out⟩⟩
  ·replace c6 := Bool.eq_false_iff.mpr c6
   subst c6
   rw [if_neg (show ¬ (false = true) by decide)] at H
   have H' := Aside0.mk H
   clear H
   go_wp2_with (first | (refine gL 51 (some 11) Try.func51 #[.slice A0 l0.length c0] ?_; (with_reducible refine (spec_IsMap.calls k _ _ l0 false _ ?side1 ?side2 A5.out).mono ?_); (case side1 => exact C_l (Kd.C_below HR0.out HB.out)); (case side2 => exact HC0.out); rintro e w14 ⟨rfl, hb⟩; refine ⟨_, rfl, ?_⟩; replace HB := Aside0.mk (zS HB hb)))
   go_meet
   case rel => exact ⟨_, (true), rS, H', ⟨by first | omega | exact Nat.le_refl _⟩, ⟨B_l HB.out⟩⟩
 case rest =>
  clear HC4
  try clear c1
  try clear p2
  try clear c5
  try clear c6
  try clear p6
  try clear c8
  try clear c10
  obtain ⟨kq, x34_3, rfl, HA, HJ3, HB⟩ := hcut
  cases kq with
  | zero => exact absurd HA.out (by simp [spec_AddEdge.j0])
  | succ kj3 =>
   have H := HA.out
   clear HA
   simp only [spec_AddEdge.j0] at H
   by_cases c15 : x34_3 = true
   ·subst c15
    rw [if_pos rfl] at H
    generalize hy529 : (([] : List Int) : List Int) = y529 at H
    have Ny529 := Aside0.mk hy529.symm; clear hy529
    simp only [Option.some.injEq, Prod.mk.injEq] at H
    obtain ⟨rfl, rfl⟩ := H
    go_wp2_with (first | ((with_reducible refine gate_dst (N := 35) rfl ?_); (try (refine gate_guard (by rfl) ?_; dsimp only)); refine Kd.R_lit (Kd.int .i64) _ 3 ?hg (N := 35) ?hd (xs := ([] : List Int)) (inner := []) (ok := fun _ => True) (okp := fun _ => True) ?hr ?hp (fun _ hk => hk) trivial (Below.refl _ _) (Nat.le_refl _) (by simp) ?_; (case hd => rfl); (case hg => rfl); (case hr => exact gS); (case hp => exact (Reps.none _ _)); intro v530 w16 ho17 hb hg_ hnew_; clear hg_ hnew_; (first | rw [← Ny529.out] at ho17 | (simp only [Int.reduceToNat] at ho17; rw [← Ny529.out] at ho17)); have HO531 := Aside0.mk (Kd.R_lower ho17 (zB HB)); replace HB := Aside0.mk (zS HB hb); clear hb ho17))
    go_ret2
    exact ⟨_, rE, R_l HO531.out, B_l HB.out⟩
   ·replace c15 := Bool.eq_false_iff.mpr c15
    subst c15
    rw [if_neg (show ¬ (false = true) by decide)] at H
    obtain ⟨y532, Ny532, H⟩ := bn H
    by_cases c18 : y532.length + l0.length < 17592186044416
    ·rw [if_pos c18] at H
     have LMc18 := Aside0.mk c18
     clear c18
     generalize hy535 : (y532 ++ l0 : List Int) = y535 at H
     have Ny535 := Aside0.mk hy535.symm; clear hy535
     generalize hy538 : (([0, 0] : List Int) : List Int) = y538 at H
     have Ny538 := Aside0.mk hy538.symm; clear hy538
     obtain ⟨LMc19, H⟩ := gda H
     generalize hy541 : (y535 ++ y538 : List Int) = y541 at H
     have Ny541 := Aside0.mk hy541.symm; clear hy541
     obtain ⟨c20b0, H⟩ := gdt H
     obtain ⟨c21b0, H⟩ := gdt H
     obtain ⟨c22, H⟩ := gd H
     have c22b0 : decide (0 ≤ (l0.length : Int)) = true := decide_eq_true c22
     have c22b1 : decide (0 ≤ l0.length) = true := decide_eq_true (by omega)
     clear c22
     obtain ⟨c23, H⟩ := gd H
     have c23b0 : decide ((l0.length : Int) < (y541.length : Int)) = true := decide_eq_true c23
     have c23b1 : decide (l0.length < y541.length) = true := decide_eq_true (Int.ofNat_lt.mp c23)
     clear c23
     generalize hy545 : (y541.set ((l0.length : Int) : Int).toNat (rd y541 a1) : List Int) = y545 at H
     have Ny545 := Aside0.mk hy545.symm; clear hy545
     obtain ⟨y546, Ny546, H⟩ := bn H
     by_cases c26 : a1 = a2
     ·rw [if_pos c26] at H
      have c26b0 : (a1 == a2) = true := beq_iff_eq.mpr c26
      have c26b1 : (a1 != a2) = false := bne_eq_false_iff_eq.mpr c26
      clear c26
      obtain ⟨ji27, hji27⟩ : ∃ j_ : Int, (wrap64 ((l0.length : Int) + 1)) = j_ := ⟨_, rfl⟩
      replace H : (if 0 ≤ (ji27) then (if (ji27) < (y541.length : Int) then (some (((y546.set ((ji27) : Int).toNat (rd y546 (l0.length : Int))).set ((l0.length : Int) : Int).toNat (ji27)), true)) else (none)) else (none)) = some (r1, r2) := by first | (rw [hji27] at H; exact H) | (simp only [hji27] at H ⊢; exact H)
      have hji27w : (IntKind.i64.wrap ((l0.length : Int) + 1)) = ji27 := (i64_w _).trans hji27
      obtain ⟨c28b0, H⟩ := gdt H
      obtain ⟨c29b0, H⟩ := gdt H
      generalize hy548 : (y546.set ((ji27) : Int).toNat (rd y546 (l0.length : Int)) : List Int) = y548 at H
      have Ny548 := Aside0.mk hy548.symm; clear hy548
      generalize hy549 : (y548.set ((l0.length : Int) : Int).toNat (ji27) : List Int) = y549 at H
      have Ny549 := Aside0.mk hy549.symm; clear hy549
      simp only [Option.some.injEq, Prod.mk.injEq] at H
      obtain ⟨rfl, rfl⟩ := H
      go_wp2_with (first | ((with_reducible refine gate_dst (N := 38) rfl ?_); (try (refine gate_guard (by rfl) ?_; dsimp only)); refine Kd.R_lit (Kd.int .i64) _ 3 ?hg (N := 38) ?hd (xs := ([] : List Int)) (inner := []) (ok := fun _ => True) (okp := fun _ => True) ?hr ?hp (fun _ hk => hk) trivial (Below.refl _ _) (Nat.le_refl _) (by simp) ?_; (case hd => rfl); (case hg => rfl); (case hr => exact gS); (case hp => exact (Reps.none _ _)); intro v533 w32 ho33 hb hg_ hnew_; clear hg_ hnew_; (first | rw [← Ny532.out] at ho33 | (simp only [Int.reduceToNat] at ho33; rw [← Ny532.out] at ho33)); have HO534 := Aside0.mk (Kd.R_lower ho33 (zB HB)); replace HB := Aside0.mk (zS HB hb); clear hb ho33) | ((with_reducible refine gate_builtin (b := .append) (xs := #[.tmp 38, .tmp 39]) rfl ?_); (try (refine gate_guard (by rfl) ?_; dsimp only)); at_builtin; refine Kd.R_append_rows (Kd.int .i64) (w0 := w) w.heap.size rfl (.tmp 38) (.tmp 39) 35 3 (.int .i64 0) 8 rfl Try.underlying35 info3 rfl (by decide) (by omega) v533 y532 l0 _ _ _ (fun _ => True) (fun _ => False) rfl rfl ?aO ?aR (fun _ _ h => h) (fun _ h => h.elim) ?aF ?aB ?aS ?aL ?_; (case aR => exact C_l (Kd.C_below HR0.out HB.out)); (case aB => exact (B_l HB.out)); (case aF => exact (fun _ _ => trivial)); (case aO => exact (R_l HO534.out)); (case aS => exact (zB HB)); (case aL => have := LMc18.out; omega); intro v536 w34 ho hb hg hat; rw [← Ny535.out] at ho; replace HB := Aside0.mk (hb); have HO537 := Aside0.mk (ho); clear HO534; clear ho hb hg hat) | ((with_reducible refine gate_dst (N := 41) rfl ?_); (try (refine gate_guard (by rfl) ?_; dsimp only)); refine Kd.R_lit (Kd.int .i64) _ 3 ?hg (N := 41) ?hd (xs := ([0, 0] : List Int)) (inner := [.int .i64 0, .int .i64 0]) (ok := fun _ => True) (okp := fun _ => True) ?hr ?hp (fun _ hk => hk) trivial (Below.refl _ _) (Nat.le_refl _) (by simp) ?_; (case hd => rfl); (case hg => rfl); (case hr => exact gS); (case hp => exact (Reps.one (show Kd.M (Kd.int .i64) _ _ _ 0 [.int .i64 0] from rfl) (Reps.one (show Kd.M (Kd.int .i64) _ _ _ 0 [.int .i64 0] from rfl) (Reps.none _ _)))); intro v539 w35 ho36 hb hg_ hnew_; clear hg_ hnew_; (first | rw [← Ny538.out] at ho36 | (simp only [Int.reduceToNat] at ho36; rw [← Ny538.out] at ho36)); have HO540 := Aside0.mk (Kd.R_lower (Kd.R_new' ho36 (Kd.R_lt (R_l HO537.out))) (zB HB)); replace HO537 := Aside0.mk (Kd.R_elder' (R_l HO537.out) (Kd.R_base ho36) hb); replace HB := Aside0.mk (zS HB hb); clear hb ho36; obtain ⟨Ao38, co38, eo38⟩ := Kd.R_slice HO540.out; subst eo38) | ((with_reducible refine gate_builtin (b := .append) (xs := #[.tmp 40, .tmp 41]) rfl ?_); (try (refine gate_guard (by rfl) ?_; dsimp only)); at_builtin; refine Kd.R_append_rows (Kd.int .i64) (w0 := w) w.heap.size rfl (.tmp 40) (.tmp 41) 35 3 (.int .i64 0) 8 rfl Try.underlying35 info3 rfl (by decide) (by omega) v536 y535 y538 _ _ _ (fun k_ => some k_ ≠ (.slice Ao38 y538.length co38 : Value).ownBlock) (fun _ => False) rfl rfl ?aO ?aR (fun _ _ h => h) (fun _ h => h.elim) ?aF ?aB ?aS ?aL ?_; (case aR => exact C_l ((Kd.R_reads' HO540.out).2.2)); (case aB => exact (B_l HB.out)); (case aF => exact (fun k_ hk => Kd.fresh' (Kd.R_lt (R_l HO540.out)) k_ hk)); (case aO => exact (R_l (Kd.R_mono HO537.out (fun _ hk => hk.2)))); (case aS => exact (zB HB)); (case aL => have := LMc19.out; omega); intro v542 w37 ho hb hg hat; rw [← Ny541.out] at ho; replace HO540 := Aside0.mk (Kd.R_after (ok := (fun _ => True)) (R_l HO540.out) hg hat); replace HB := Aside0.mk (hb); have HO543 := Aside0.mk (ho); clear HO537; clear ho hb hg hat; obtain ⟨Ao39, co39, eo39⟩ := Kd.R_slice HO543.out; subst eo39; have p544 : 0 ≤ (a1 : Int) := dT; have q544 : a1 < (y541.length : Int) := dT; obtain ⟨ad544, e544, hx544_0⟩ := Kd.at_int (Kd.R_reads' HO543.out).2.2 a1 p544 q544; cases e544; replace p544 := eq_true p544; replace q544 := eq_true q544; have p24 : 0 ≤ ((l0.length : Int) : Int) := dT; have q24 : ((l0.length : Int) : Int) < ((y541.length : Int) : Int) := dT; obtain ⟨go24, co24, eo24, gb24, gl24, cl24, HG24⟩ := Kd.R_form HO543.out (by omega); (first | cases eo24 | (injection eo24 with ea_ en_ ec_; (first | subst ea_ | (injection ea_ with ea_; subst ea_)); subst ec_; clear en_)); have GB24 := Aside0.mk gb24; have GG24 := Aside0.mk HG24; clear gb24 gl24 HG24; (first | simp only [add_plain] at hx544_0 | skip); obtain ⟨hx24_0, hf24_0⟩ := Kd.R_celln 0 HO543.out ((l0.length : Int) : Int) p24 q24; replace p24 := eq_true p24; replace q24 := eq_true q24; obtain ⟨hy40_, hz40_⟩ := Kd.R_celln 0 HO543.out ((l0.length : Int) : Int) dT dT; (try simp only [Go.IntWalk.toNatUp] at hy40_ hz40_); have HP40 := Kd.R_putg HO543.out ((l0.length : Int) : Int) (rd y541 a1)) | ((with_reducible refine gate_store (t := 3) (p := 49) rfl ?_); refine store_event (t := 3) (p := 49) (v := ?vo_w41) (w1 := (w37.setCell ⟨go24, ((l0.length : Int) : Int).toNat, none⟩ (.int .i64 (rd y541 a1)))) ?hg ?ho ?hn ?hr ?_; (case ho => rfl); (case hg => rfl); (case hn => rfl); (case hr => exact gS); intro w41 hw; have hg : w37.grownBy w41 (some go24) := (by rw [hw]; exact HP40.2); have hp_ : Kd.R (Kd.int .i64) 3 w41 w.heap.size (fun k_ => some k_ ≠ (.slice Ao38 y538.length co38 : Value).ownBlock) (.slice (some ⟨go24, 0, none⟩) y541.length co39) y545 := (by rw [hw, Ny545.out]; exact HP40.1); clear HP40; replace HO540 := Aside0.mk (Kd.R_after (v := (.slice (some ⟨go24, 0, none⟩) y541.length co39)) (v1 := (.slice (some ⟨go24, 0, none⟩) y541.length co39)) (ok := (fun _ => True)) (R_l HO540.out) hg (.inl rfl)); replace HO543 := Aside0.mk (hp_); replace HB := Aside0.mk ((by rw [hw]; exact below_set (HB.out) GB24.out : Below w.heap.size w w41)); clear hg hw hp_; have p25 : 0 ≤ (a1 : Int) := dT; have q25 : (a1 : Int) < ((y541.length : Int) : Int) := dT; obtain ⟨hx25_0, hf25_0⟩ := Kd.R_celln 0 HO543.out (a1 : Int) p25 q25; replace p25 := eq_true p25; replace q25 := eq_true q25; obtain ⟨hy42_, hz42_⟩ := Kd.R_celln 0 HO543.out (a1 : Int) dT dT; have HP42 := Kd.R_putg HO543.out (a1 : Int) (l0.length : Int)) | ((with_reducible refine gate_store (t := 3) (p := 53) rfl ?_); refine store_event (t := 3) (p := 53) (v := ?vo_w43) (w1 := (w41.setCell ⟨go24, (a1 : Int).toNat, none⟩ (.int .i64 (l0.length : Int)))) ?hg ?ho ?hn ?hr ?_; (case ho => rfl); (case hg => rfl); (case hn => rfl); (case hr => exact gS); intro w43 hw; have hg : w41.grownBy w43 (some go24) := (by rw [hw]; exact HP42.2); have hp_ : Kd.R (Kd.int .i64) 3 w43 w.heap.size (fun k_ => some k_ ≠ (.slice Ao38 y538.length co38 : Value).ownBlock) (.slice (some ⟨go24, 0, none⟩) y541.length co39) y546 := (by rw [hw, Ny546.out]; exact HP42.1); clear HP42; replace HO540 := Aside0.mk (Kd.R_after (v := (.slice (some ⟨go24, 0, none⟩) y541.length co39)) (v1 := (.slice (some ⟨go24, 0, none⟩) y541.length co39)) (ok := (fun _ => True)) (R_l HO540.out) hg (.inl rfl)); replace HO543 := Aside0.mk (hp_); replace HB := Aside0.mk ((by rw [hw]; exact below_set (HB.out) GB24.out : Below w.heap.size w w43)); clear hg hw hp_; have p547 : 0 ≤ ((l0.length : Int) : Int) := dT; have q547 : (l0.length : Int) < (y546.length : Int) := (by have h_ : ((l0.length : Int) : Int) < ((y541.length : Int) : Int) := dT; first | (have e_ := (Kd.R_reads' HO543.out).1; omega) | simpa only [Ny545.out, Ny546.out, List.length_set] using h_); have ql547 : (((l0.length : Int) : Int) < ((y541.length : Int) : Int)) = True := eq_true dT; obtain ⟨ad547, e547, hx547_0⟩ := Kd.at_int (Kd.R_reads' HO543.out).2.2 (l0.length : Int) p547 q547; obtain rfl : (⟨go24, 0, none⟩ : Addr) = ad547 := (by injection e547); (first | simp only [add_plain] at hx547_0 | simp only [add_at] at hx547_0 | simp only [Addr.add, Nat.zero_add] at hx547_0 | skip); (try simp only [Go.IntWalk.toNatUp] at hx547_0); replace p547 := eq_true p547; replace q547 := eq_true q547; have p30 : 0 ≤ ((ji27) : Int) := dT; have q30 : ((ji27) : Int) < ((y541.length : Int) : Int) := dT; obtain ⟨hx30_0, hf30_0⟩ := Kd.R_celln 0 HO543.out ((ji27) : Int) p30 q30; replace p30 := eq_true p30; replace q30 := eq_true q30; obtain ⟨hy44_, hz44_⟩ := Kd.R_celln 0 HO543.out ((ji27) : Int) dT dT; have HP44 := Kd.R_putg HO543.out ((ji27) : Int) (rd y546 (l0.length : Int))) | ((with_reducible refine gate_store (t := 3) (p := 65) rfl ?_); refine store_event (t := 3) (p := 65) (v := ?vo_w45) (w1 := (w43.setCell ⟨go24, ((ji27) : Int).toNat, none⟩ (.int .i64 (rd y546 (l0.length : Int))))) ?hg ?ho ?hn ?hr ?_; (case ho => rfl); (case hg => rfl); (case hn => rfl); (case hr => exact gS); intro w45 hw; have hg : w43.grownBy w45 (some go24) := (by rw [hw]; exact HP44.2); have hp_ : Kd.R (Kd.int .i64) 3 w45 w.heap.size (fun k_ => some k_ ≠ (.slice Ao38 y538.length co38 : Value).ownBlock) (.slice (some ⟨go24, 0, none⟩) y541.length co39) y548 := (by rw [hw, Ny548.out]; exact HP44.1); clear HP44; replace HO540 := Aside0.mk (Kd.R_after (v := (.slice (some ⟨go24, 0, none⟩) y541.length co39)) (v1 := (.slice (some ⟨go24, 0, none⟩) y541.length co39)) (ok := (fun _ => True)) (R_l HO540.out) hg (.inl rfl)); replace HO543 := Aside0.mk (hp_); replace HB := Aside0.mk ((by rw [hw]; exact below_set (HB.out) GB24.out : Below w.heap.size w w45)); clear hg hw hp_; have p31 : 0 ≤ ((l0.length : Int) : Int) := dT; have q31 : ((l0.length : Int) : Int) < ((y541.length : Int) : Int) := dT; obtain ⟨hx31_0, hf31_0⟩ := Kd.R_celln 0 HO543.out ((l0.length : Int) : Int) p31 q31; replace p31 := eq_true p31; replace q31 := eq_true q31; obtain ⟨hy46_, hz46_⟩ := Kd.R_celln 0 HO543.out ((l0.length : Int) : Int) dT dT; (try simp only [Go.IntWalk.toNatUp] at hy46_ hz46_); have HP46 := Kd.R_putg HO543.out ((l0.length : Int) : Int) ji27) | ((with_reducible refine gate_store (t := 3) (p := 70) rfl ?_); refine store_event (t := 3) (p := 70) (v := ?vo_w47) (w1 := (w45.setCell ⟨go24, ((l0.length : Int) : Int).toNat, none⟩ (.int .i64 ji27))) ?hg ?ho ?hn ?hr ?_; (case ho => rfl); (case hg => rfl); (case hn => rfl); (case hr => exact gS); intro w47 hw; have hg : w45.grownBy w47 (some go24) := (by rw [hw]; exact HP46.2); have hp_ : Kd.R (Kd.int .i64) 3 w47 w.heap.size (fun k_ => some k_ ≠ (.slice Ao38 y538.length co38 : Value).ownBlock) (.slice (some ⟨go24, 0, none⟩) y541.length co39) y549 := (by rw [hw, Ny549.out]; exact HP46.1); clear HP46; replace HO540 := Aside0.mk (Kd.R_after (v := (.slice (some ⟨go24, 0, none⟩) y541.length co39)) (v1 := (.slice (some ⟨go24, 0, none⟩) y541.length co39)) (ok := (fun _ => True)) (R_l HO540.out) hg (.inl rfl)); replace HO543 := Aside0.mk (hp_); replace HB := Aside0.mk ((by rw [hw]; exact below_set (HB.out) GB24.out : Below w.heap.size w w47)); clear hg hw hp_))
      go_ret2
      exact ⟨_, by first | rfl | (simp [errW_none, errW_some] <;> rfl) | (simp only [← hji27]; first | rfl | (simp [errW_none, errW_some] <;> rfl)) | (simp [*, errW_none, errW_some] <;> rfl), R_l (Kd.R_mono HO543.out (fun _ hk => trivial)), B_l HB.out⟩
     ·rw [if_neg c26] at H
      have c26b0 : (a1 == a2) = false := beq_eq_false_iff_ne.mpr c26
      have c26b1 : (a1 != a2) = true := bne_iff_ne.mpr c26
      obtain ⟨c48b0, H⟩ := gdt H
      obtain ⟨c49b0, H⟩ := gdt H
      obtain ⟨ji50, hji50⟩ : ∃ j_ : Int, (wrap64 ((l0.length : Int) + 1)) = j_ := ⟨_, rfl⟩
      replace H : (if 0 ≤ (ji50) then (if (ji50) < (y541.length : Int) then (some (((y546.set ((ji50) : Int).toNat (rd y546 a2)).set (a2 : Int).toNat (ji50)), true)) else (none)) else (none)) = some (r1, r2) := by first | (rw [hji50] at H; exact H) | (simp only [hji50] at H ⊢; exact H)
      have hji50w : (IntKind.i64.wrap ((l0.length : Int) + 1)) = ji50 := (i64_w _).trans hji50
      obtain ⟨c51b0, H⟩ := gdt H
      obtain ⟨c52b0, H⟩ := gdt H
      generalize hy551 : (y546.set ((ji50) : Int).toNat (rd y546 a2) : List Int) = y551 at H
      have Ny551 := Aside0.mk hy551.symm; clear hy551
      generalize hy552 : (y551.set (a2 : Int).toNat (ji50) : List Int) = y552 at H
      have Ny552 := Aside0.mk hy552.symm; clear hy552
      simp only [Option.some.injEq, Prod.mk.injEq] at H
      obtain ⟨rfl, rfl⟩ := H
      go_wp2_with (first | ((with_reducible refine gate_dst (N := 38) rfl ?_); (try (refine gate_guard (by rfl) ?_; dsimp only)); refine Kd.R_lit (Kd.int .i64) _ 3 ?hg (N := 38) ?hd (xs := ([] : List Int)) (inner := []) (ok := fun _ => True) (okp := fun _ => True) ?hr ?hp (fun _ hk => hk) trivial (Below.refl _ _) (Nat.le_refl _) (by simp) ?_; (case hd => rfl); (case hg => rfl); (case hr => exact gS); (case hp => exact (Reps.none _ _)); intro v533 w55 ho56 hb hg_ hnew_; clear hg_ hnew_; (first | rw [← Ny532.out] at ho56 | (simp only [Int.reduceToNat] at ho56; rw [← Ny532.out] at ho56)); have HO534 := Aside0.mk (Kd.R_lower ho56 (zB HB)); replace HB := Aside0.mk (zS HB hb); clear hb ho56) | ((with_reducible refine gate_builtin (b := .append) (xs := #[.tmp 38, .tmp 39]) rfl ?_); (try (refine gate_guard (by rfl) ?_; dsimp only)); at_builtin; refine Kd.R_append_rows (Kd.int .i64) (w0 := w) w.heap.size rfl (.tmp 38) (.tmp 39) 35 3 (.int .i64 0) 8 rfl Try.underlying35 info3 rfl (by decide) (by omega) v533 y532 l0 _ _ _ (fun _ => True) (fun _ => False) rfl rfl ?aO ?aR (fun _ _ h => h) (fun _ h => h.elim) ?aF ?aB ?aS ?aL ?_; (case aR => exact C_l (Kd.C_below HR0.out HB.out)); (case aB => exact (B_l HB.out)); (case aF => exact (fun _ _ => trivial)); (case aO => exact (R_l HO534.out)); (case aS => exact (zB HB)); (case aL => have := LMc18.out; omega); intro v536 w57 ho hb hg hat; rw [← Ny535.out] at ho; replace HB := Aside0.mk (hb); have HO537 := Aside0.mk (ho); clear HO534; clear ho hb hg hat) | ((with_reducible refine gate_dst (N := 41) rfl ?_); (try (refine gate_guard (by rfl) ?_; dsimp only)); refine Kd.R_lit (Kd.int .i64) _ 3 ?hg (N := 41) ?hd (xs := ([0, 0] : List Int)) (inner := [.int .i64 0, .int .i64 0]) (ok := fun _ => True) (okp := fun _ => True) ?hr ?hp (fun _ hk => hk) trivial (Below.refl _ _) (Nat.le_refl _) (by simp) ?_; (case hd => rfl); (case hg => rfl); (case hr => exact gS); (case hp => exact (Reps.one (show Kd.M (Kd.int .i64) _ _ _ 0 [.int .i64 0] from rfl) (Reps.one (show Kd.M (Kd.int .i64) _ _ _ 0 [.int .i64 0] from rfl) (Reps.none _ _)))); intro v539 w58 ho59 hb hg_ hnew_; clear hg_ hnew_; (first | rw [← Ny538.out] at ho59 | (simp only [Int.reduceToNat] at ho59; rw [← Ny538.out] at ho59)); have HO540 := Aside0.mk (Kd.R_lower (Kd.R_new' ho59 (Kd.R_lt (R_l HO537.out))) (zB HB)); replace HO537 := Aside0.mk (Kd.R_elder' (R_l HO537.out) (Kd.R_base ho59) hb); replace HB := Aside0.mk (zS HB hb); clear hb ho59; obtain ⟨Ao61, co61, eo61⟩ := Kd.R_slice HO540.out; subst eo61) | ((with_reducible refine gate_builtin (b := .append) (xs := #[.tmp 40, .tmp 41]) rfl ?_); (try (refine gate_guard (by rfl) ?_; dsimp only)); at_builtin; refine Kd.R_append_rows (Kd.int .i64) (w0 := w) w.heap.size rfl (.tmp 40) (.tmp 41) 35 3 (.int .i64 0) 8 rfl Try.underlying35 info3 rfl (by decide) (by omega) v536 y535 y538 _ _ _ (fun k_ => some k_ ≠ (.slice Ao61 y538.length co61 : Value).ownBlock) (fun _ => False) rfl rfl ?aO ?aR (fun _ _ h => h) (fun _ h => h.elim) ?aF ?aB ?aS ?aL ?_; (case aR => exact C_l ((Kd.R_reads' HO540.out).2.2)); (case aB => exact (B_l HB.out)); (case aF => exact (fun k_ hk => Kd.fresh' (Kd.R_lt (R_l HO540.out)) k_ hk)); (case aO => exact (R_l (Kd.R_mono HO537.out (fun _ hk => hk.2)))); (case aS => exact (zB HB)); (case aL => have := LMc19.out; omega); intro v542 w60 ho hb hg hat; rw [← Ny541.out] at ho; replace HO540 := Aside0.mk (Kd.R_after (ok := (fun _ => True)) (R_l HO540.out) hg hat); replace HB := Aside0.mk (hb); have HO543 := Aside0.mk (ho); clear HO537; clear ho hb hg hat; obtain ⟨Ao62, co62, eo62⟩ := Kd.R_slice HO543.out; subst eo62; have p544 : 0 ≤ (a1 : Int) := dT; have q544 : a1 < (y541.length : Int) := dT; obtain ⟨ad544, e544, hx544_0⟩ := Kd.at_int (Kd.R_reads' HO543.out).2.2 a1 p544 q544; cases e544; replace p544 := eq_true p544; replace q544 := eq_true q544; have p24 : 0 ≤ ((l0.length : Int) : Int) := dT; have q24 : ((l0.length : Int) : Int) < ((y541.length : Int) : Int) := dT; obtain ⟨go24, co24, eo24, gb24, gl24, cl24, HG24⟩ := Kd.R_form HO543.out (by omega); (first | cases eo24 | (injection eo24 with ea_ en_ ec_; (first | subst ea_ | (injection ea_ with ea_; subst ea_)); subst ec_; clear en_)); have GB24 := Aside0.mk gb24; have GG24 := Aside0.mk HG24; clear gb24 gl24 HG24; (first | simp only [add_plain] at hx544_0 | skip); obtain ⟨hx24_0, hf24_0⟩ := Kd.R_celln 0 HO543.out ((l0.length : Int) : Int) p24 q24; replace p24 := eq_true p24; replace q24 := eq_true q24; obtain ⟨hy63_, hz63_⟩ := Kd.R_celln 0 HO543.out ((l0.length : Int) : Int) dT dT; (try simp only [Go.IntWalk.toNatUp] at hy63_ hz63_); have HP63 := Kd.R_putg HO543.out ((l0.length : Int) : Int) (rd y541 a1)) | ((with_reducible refine gate_store (t := 3) (p := 49) rfl ?_); refine store_event (t := 3) (p := 49) (v := ?vo_w64) (w1 := (w60.setCell ⟨go24, ((l0.length : Int) : Int).toNat, none⟩ (.int .i64 (rd y541 a1)))) ?hg ?ho ?hn ?hr ?_; (case ho => rfl); (case hg => rfl); (case hn => rfl); (case hr => exact gS); intro w64 hw; have hg : w60.grownBy w64 (some go24) := (by rw [hw]; exact HP63.2); have hp_ : Kd.R (Kd.int .i64) 3 w64 w.heap.size (fun k_ => some k_ ≠ (.slice Ao61 y538.length co61 : Value).ownBlock) (.slice (some ⟨go24, 0, none⟩) y541.length co62) y545 := (by rw [hw, Ny545.out]; exact HP63.1); clear HP63; replace HO540 := Aside0.mk (Kd.R_after (v := (.slice (some ⟨go24, 0, none⟩) y541.length co62)) (v1 := (.slice (some ⟨go24, 0, none⟩) y541.length co62)) (ok := (fun _ => True)) (R_l HO540.out) hg (.inl rfl)); replace HO543 := Aside0.mk (hp_); replace HB := Aside0.mk ((by rw [hw]; exact below_set (HB.out) GB24.out : Below w.heap.size w w64)); clear hg hw hp_; have p25 : 0 ≤ (a1 : Int) := dT; have q25 : (a1 : Int) < ((y541.length : Int) : Int) := dT; obtain ⟨hx25_0, hf25_0⟩ := Kd.R_celln 0 HO543.out (a1 : Int) p25 q25; replace p25 := eq_true p25; replace q25 := eq_true q25; obtain ⟨hy65_, hz65_⟩ := Kd.R_celln 0 HO543.out (a1 : Int) dT dT; have HP65 := Kd.R_putg HO543.out (a1 : Int) (l0.length : Int)) | ((with_reducible refine gate_store (t := 3) (p := 53) rfl ?_); refine store_event (t := 3) (p := 53) (v := ?vo_w66) (w1 := (w64.setCell ⟨go24, (a1 : Int).toNat, none⟩ (.int .i64 (l0.length : Int)))) ?hg ?ho ?hn ?hr ?_; (case ho => rfl); (case hg => rfl); (case hn => rfl); (case hr => exact gS); intro w66 hw; have hg : w64.grownBy w66 (some go24) := (by rw [hw]; exact HP65.2); have hp_ : Kd.R (Kd.int .i64) 3 w66 w.heap.size (fun k_ => some k_ ≠ (.slice Ao61 y538.length co61 : Value).ownBlock) (.slice (some ⟨go24, 0, none⟩) y541.length co62) y546 := (by rw [hw, Ny546.out]; exact HP65.1); clear HP65; replace HO540 := Aside0.mk (Kd.R_after (v := (.slice (some ⟨go24, 0, none⟩) y541.length co62)) (v1 := (.slice (some ⟨go24, 0, none⟩) y541.length co62)) (ok := (fun _ => True)) (R_l HO540.out) hg (.inl rfl)); replace HO543 := Aside0.mk (hp_); replace HB := Aside0.mk ((by rw [hw]; exact below_set (HB.out) GB24.out : Below w.heap.size w w66)); clear hg hw hp_; have p550 : 0 ≤ (a2 : Int) := dT; have q550 : a2 < (y546.length : Int) := (by have h_ : (a2 : Int) < ((y541.length : Int) : Int) := dT; first | (have e_ := (Kd.R_reads' HO543.out).1; omega) | simpa only [Ny545.out, Ny546.out, List.length_set] using h_); have ql550 : ((a2 : Int) < ((y541.length : Int) : Int)) = True := eq_true dT; obtain ⟨ad550, e550, hx550_0⟩ := Kd.at_int (Kd.R_reads' HO543.out).2.2 a2 p550 q550; obtain rfl : (⟨go24, 0, none⟩ : Addr) = ad550 := (by injection e550); (first | simp only [add_plain] at hx550_0 | simp only [add_at] at hx550_0 | simp only [Addr.add, Nat.zero_add] at hx550_0 | skip); replace p550 := eq_true p550; replace q550 := eq_true q550; have p53 : 0 ≤ ((ji50) : Int) := dT; have q53 : ((ji50) : Int) < ((y541.length : Int) : Int) := dT; obtain ⟨hx53_0, hf53_0⟩ := Kd.R_celln 0 HO543.out ((ji50) : Int) p53 q53; replace p53 := eq_true p53; replace q53 := eq_true q53; obtain ⟨hy67_, hz67_⟩ := Kd.R_celln 0 HO543.out ((ji50) : Int) dT dT; have HP67 := Kd.R_putg HO543.out ((ji50) : Int) (rd y546 a2)) | ((with_reducible refine gate_store (t := 3) (p := 65) rfl ?_); refine store_event (t := 3) (p := 65) (v := ?vo_w68) (w1 := (w66.setCell ⟨go24, ((ji50) : Int).toNat, none⟩ (.int .i64 (rd y546 a2)))) ?hg ?ho ?hn ?hr ?_; (case ho => rfl); (case hg => rfl); (case hn => rfl); (case hr => exact gS); intro w68 hw; have hg : w66.grownBy w68 (some go24) := (by rw [hw]; exact HP67.2); have hp_ : Kd.R (Kd.int .i64) 3 w68 w.heap.size (fun k_ => some k_ ≠ (.slice Ao61 y538.length co61 : Value).ownBlock) (.slice (some ⟨go24, 0, none⟩) y541.length co62) y551 := (by rw [hw, Ny551.out]; exact HP67.1); clear HP67; replace HO540 := Aside0.mk (Kd.R_after (v := (.slice (some ⟨go24, 0, none⟩) y541.length co62)) (v1 := (.slice (some ⟨go24, 0, none⟩) y541.length co62)) (ok := (fun _ => True)) (R_l HO540.out) hg (.inl rfl)); replace HO543 := Aside0.mk (hp_); replace HB := Aside0.mk ((by rw [hw]; exact below_set (HB.out) GB24.out : Below w.heap.size w w68)); clear hg hw hp_; have p54 : 0 ≤ (a2 : Int) := dT; have q54 : (a2 : Int) < ((y541.length : Int) : Int) := dT; obtain ⟨hx54_0, hf54_0⟩ := Kd.R_celln 0 HO543.out (a2 : Int) p54 q54; replace p54 := eq_true p54; replace q54 := eq_true q54; obtain ⟨hy69_, hz69_⟩ := Kd.R_celln 0 HO543.out (a2 : Int) dT dT; have HP69 := Kd.R_putg HO543.out (a2 : Int) ji50) | ((with_reducible refine gate_store (t := 3) (p := 70) rfl ?_); refine store_event (t := 3) (p := 70) (v := ?vo_w70) (w1 := (w68.setCell ⟨go24, (a2 : Int).toNat, none⟩ (.int .i64 ji50))) ?hg ?ho ?hn ?hr ?_; (case ho => rfl); (case hg => rfl); (case hn => rfl); (case hr => exact gS); intro w70 hw; have hg : w68.grownBy w70 (some go24) := (by rw [hw]; exact HP69.2); have hp_ : Kd.R (Kd.int .i64) 3 w70 w.heap.size (fun k_ => some k_ ≠ (.slice Ao61 y538.length co61 : Value).ownBlock) (.slice (some ⟨go24, 0, none⟩) y541.length co62) y552 := (by rw [hw, Ny552.out]; exact HP69.1); clear HP69; replace HO540 := Aside0.mk (Kd.R_after (v := (.slice (some ⟨go24, 0, none⟩) y541.length co62)) (v1 := (.slice (some ⟨go24, 0, none⟩) y541.length co62)) (ok := (fun _ => True)) (R_l HO540.out) hg (.inl rfl)); replace HO543 := Aside0.mk (hp_); replace HB := Aside0.mk ((by rw [hw]; exact below_set (HB.out) GB24.out : Below w.heap.size w w70)); clear hg hw hp_))
      go_ret2
      exact ⟨_, by first | rfl | (simp [errW_none, errW_some] <;> rfl) | (simp only [← hji50]; first | rfl | (simp [errW_none, errW_some] <;> rfl)) | (simp [*, errW_none, errW_some] <;> rfl), R_l (Kd.R_mono HO543.out (fun _ hk => trivial)), B_l HB.out⟩
    ·rw [if_neg c18] at H
     exact absurd H (by simp)

/-! ### spec_l6Draw: function 48 -/
mutual
def spec_l6Draw.l0 : Nat → List Int → Int → List Int → Int → Int → Option (List Int × Int × Int)
 | 0, _, _, _, _, _ => none
 | k + 1, x5, x6, x1000, x1001, x1002 => if x6 > 0 then ((spec_l1Below.f x1000 x1001 x1002 (x5.length : Int)).bind fun bt559 => ((spec_l1Below.f x1000 bt559.2.1 bt559.2.2 (x5.length : Int)).bind fun bt562 => ((spec_AddEdge.f k x5 bt559.1 bt562.1).bind fun bt565 => (spec_l6Draw.l0 k bt565.1 (wrap64 (x6 - 1)) x1000 bt562.2.1 bt562.2.2)))) else ((spec_l1Once.f x1000 x1001 x1002 4).bind fun bt569 => (if bt569.1 = true then (spec_l6Draw.l1 k x5 0 x1000 bt569.2.1 bt569.2.2) else (some (x5, bt569.2.1, bt569.2.2))))
def spec_l6Draw.l1 : Nat → List Int → Int → List Int → Int → Int → Option (List Int × Int × Int)
 | 0, _, _, _, _, _ => none
 | k + 1, x5, x9, x1000, x1001, x1002 => if x9 < 3 then ((spec_l1Below.f x1000 x1001 x1002 (x5.length : Int)).bind fun bt572 => ((spec_l1Below.f x1000 bt572.2.1 bt572.2.2 (x5.length : Int)).bind fun bt575 => (if 0 ≤ bt572.1 then (if bt572.1 < (x5.length : Int) then (if 0 ≤ bt575.1 then (if bt575.1 < (x5.length : Int) then (spec_l6Draw.l1 k ((x5.set (bt572.1 : Int).toNat (rd x5 bt575.1)).set (bt575.1 : Int).toNat (rd x5 bt572.1)) (wrap64 (x9 + 1)) x1000 bt575.2.1 bt575.2.2) else (none)) else (none)) else (none)) else (none)))) else (some (x5, x1001, x1002))
end
def spec_l6Draw.f (k : Nat) (s0_0 : List Int) (s0_1 : Int) (s0_2 : Int) (a1 : Int) : Option (List Int × Int × Int) := (spec_l1Below.f s0_0 s0_1 s0_2 a1).bind fun bt556 => (spec_l6Draw.l0 k (([0, 1] : List Int)) bt556.1 s0_0 bt556.2.1 bt556.2.2)
set_option maxHeartbeats 8000000 in
set_option maxRecDepth 100000 in
theorem spec_l6Draw.calls (k : Nat) (g : Nat) (s0_0 : List Int) (s0_1 : Int) (s0_2 : Int) (a1 : Int) (r1 : List Int) (r2 : Int) (r3 : Int) (w0 w : World) (hI : IsS66 w0 w g s0_0 s0_1 s0_2) (hB : Below w0.heap.size w0 w) (h : spec_l6Draw.f k s0_0 s0_1 s0_2 a1 = some (r1, r2, r3)) :
  Calls Try.prog 48 #[.pointer (some ⟨g, 0, none⟩), .int .i64 a1] w fun e w' => ∃ v0_ : Value, e = .returned (v0_) ∧ Kd.R (Kd.int .i64) 3 w' w.heap.size (fun _ => True) v0_ r1 ∧ IsS66 w0 w' g s0_0 r2 r3 ∧ Below w0.heap.size w0 w' ∧ KeepBut w w' g none := by
 have HI0 := Aside0.mk hI
 have HK := Aside0.mk (KeepBut.refl w g none)
 have HL := Aside0.mk hB.size
 clear hI
 have HW0 := Aside0.mk hB.size
 have HB := Aside0.mk hB
 clear hB
 have H : ((spec_l1Below.f s0_0 s0_1 s0_2 a1).bind fun bt556 => (spec_l6Draw.l0 k (([0, 1] : List Int)) bt556.1 s0_0 bt556.2.1 bt556.2.2)) = some (r1, r2, r3) := h
 clear h
 generalize hy553 : (([0, 1] : List Int) : List Int) = y553 at H
 have Ny553 := Aside0.mk hy553.symm; clear hy553
 obtain ⟨⟨t556, t557, t558⟩, A3, H⟩ := bs H
 try dsimp only at H
 have H' := Aside0.mk H
 clear H
 go_enter Try.func48, Try.ntmps48
 go_wp2_with (first | ((with_reducible refine gate_dst (N := 13) rfl ?_); refine Kd.R_lit (Kd.int .i64) _ 3 ?hg (N := 13) ?hd (xs := ([0, 1] : List Int)) (inner := [.int .i64 0, .int .i64 1]) (ok := fun _ => True) (okp := fun _ => True) ?hr ?hp (fun _ hk => hk) trivial (Below.refl _ _) (Nat.le_refl _) (by simp) ?_; (case hd => rfl); (case hg => rfl); (case hr => exact gS); (case hp => exact (Reps.one (show Kd.M (Kd.int .i64) _ _ _ 0 [.int .i64 0] from rfl) (Reps.one (show Kd.M (Kd.int .i64) _ _ _ 1 [.int .i64 1] from rfl) (Reps.none _ _)))); intro v554 w4 ho5 hb hg_ hnew_; clear hg_ hnew_; (first | rw [← Ny553.out] at ho5 | (simp only [Int.reduceToNat] at ho5; rw [← Ny553.out] at ho5)); have HO555 := Aside0.mk (Kd.R_lower ho5 (zK)); replace HK := Aside0.mk (KeepBut.trans tK (KeepBut.of_below hb g none) (.inl rfl)); replace HB := Aside0.mk (below_step tB hb); replace HI0 := Aside0.mk (IsS66.below tI hb); clear hb ho5) | (refine gL 44 (some 16) Try.func44 #[.pointer (some ⟨g, 0, none⟩), .int .i64 a1] ?_; (with_reducible refine (spec_l1Below.calls g s0_0 s0_1 s0_2 a1 t556 t557 t558 w0 _ ?side1 ?side2 A3.out).mono ?_); (case side1 => exact tI); (case side2 => exact tB); rintro e w6 ⟨rfl, hi, hb, hk⟩; refine ⟨_, rfl, ?_⟩; replace HO555 := Aside0.mk (Kd.R_mono (Kd.R_keep (IsS66.apart (show IsS66 w0 _ g s0_0 s0_1 s0_2 from tI) (R_l HO555.out) (by decide)) hk (fun _ h => h.2)) (fun _ h => h.1)); replace HK := Aside0.mk (KeepBut.trans tK hk (.inl rfl)); replace HB := Aside0.mk (hb); replace HI0 := Aside0.mk (hi)))
 go_loopg [5, 6] k (fun kq v5 v6 w' => ∃ (x5_1 : List Int) (x6_1 : Int) (x1001_1 : Int) (x1002_1 : Int), v6 = .int .i64 x6_1 ∧ Aside0 (spec_l6Draw.l0 kq x5_1 x6_1 s0_0 x1001_1 x1002_1 = some (r1, r2, r3)) ∧ Aside0 (kq ≤ k) ∧ Aside0 (Kd.R (Kd.int .i64) 3 w' w.heap.size (fun _ => True) v5 x5_1) ∧ Aside0 (IsS66 w0 w' g s0_0 x1001_1 x1002_1) ∧ Aside0 (KeepBut w w' g none) ∧ Aside0 (Below w0.heap.size w0 w'))
 case atStart => exact ⟨(y553), (t556), (t557), (t558), rS, H', ⟨Nat.le_refl _⟩, ⟨R_l HO555.out⟩, ⟨tI⟩, ⟨tK⟩, ⟨tB⟩⟩
 case round =>
  clear H'
  try clear p2
  try clear c4
  obtain ⟨x5_1, x6_1, x1001_1, x1002_1, rfl, HA, HK1, HO_5, HI0, HK, HB⟩ := hrel
  cases gk with
  | zero => exact absurd HA.out (by simp [spec_l6Draw.l0])
  | succ k1 =>
   have H := HA.out
   clear HA
   simp only [spec_l6Draw.l0] at H
   by_cases c7 : x6_1 > 0
   ·rw [if_pos c7] at H
    have c7b0 : decide (0 < x6_1) = true := decide_eq_true c7
    clear c7
    obtain ⟨⟨t559, t560, t561⟩, A8, H⟩ := bs H
    try dsimp only at H
    obtain ⟨⟨t562, t563, t564⟩, A9, H⟩ := bs H
    try dsimp only at H
    obtain ⟨⟨t565, t566⟩, A10, H⟩ := bs H
    try dsimp only at H
    have H' := Aside0.mk H
    clear H
    obtain ⟨Ao11, co11, eo11⟩ := Kd.R_slice HO_5.out
    subst eo11
    go_wp2_with (first | (refine gL 44 (some 26) Try.func44 #[.pointer (some ⟨g, 0, none⟩), .int .i64 (x5_1.length : Int)] ?_; (with_reducible refine (spec_l1Below.calls g s0_0 x1001_1 x1002_1 (x5_1.length : Int) t559 t560 t561 w0 _ ?side1 ?side2 A8.out).mono ?_); (case side1 => exact tI); (case side2 => exact tB); rintro e w12 ⟨rfl, hi, hb, hk⟩; refine ⟨_, rfl, ?_⟩; replace HO_5 := Aside0.mk (Kd.R_mono (Kd.R_keep (IsS66.apart (show IsS66 w0 _ g s0_0 x1001_1 x1002_1 from tI) (R_l HO_5.out) (by decide)) hk (fun _ h => h.2)) (fun _ h => h.1)); replace HK := Aside0.mk (KeepBut.trans tK hk (.inl rfl)); replace HB := Aside0.mk (hb); replace HI0 := Aside0.mk (hi)) | (refine gL 44 (some 30) Try.func44 #[.pointer (some ⟨g, 0, none⟩), .int .i64 (x5_1.length : Int)] ?_; (with_reducible refine (spec_l1Below.calls g s0_0 t560 t561 (x5_1.length : Int) t562 t563 t564 w0 _ ?side1 ?side2 A9.out).mono ?_); (case side1 => exact tI); (case side2 => exact tB); rintro e w13 ⟨rfl, hi, hb, hk⟩; refine ⟨_, rfl, ?_⟩; replace HO_5 := Aside0.mk (Kd.R_mono (Kd.R_keep (IsS66.apart (show IsS66 w0 _ g s0_0 t560 t561 from tI) (R_l HO_5.out) (by decide)) hk (fun _ h => h.2)) (fun _ h => h.1)); replace HK := Aside0.mk (KeepBut.trans tK hk (.inl rfl)); replace HB := Aside0.mk (hb); replace HI0 := Aside0.mk (hi)) | (refine gL 80 (some 31) Try.func80 #[.slice Ao11 x5_1.length co11, .int .i64 t559, .int .i64 t562] ?_; (with_reducible refine (spec_AddEdge.calls k1 _ _ x5_1 t559 t562 t565 t566 _ ?side1 ?side2 A10.out).mono ?_); (case side1 => exact C_l ((Kd.R_reads' HO_5.out).2.2)); (case side2 => exact (Kd.R_reads' HO_5.out).2.1); rintro e w14 ⟨v567, rfl, ho0, hb⟩; refine ⟨_, rfl, ?_⟩; have HO568 := Aside0.mk (Kd.R_lower (Kd.R_new' ho0 (Kd.R_lt (R_l HO_5.out))) (zK)); replace HO_5 := Aside0.mk (Kd.R_elder' (R_l HO_5.out) (Kd.R_base ho0) hb); replace HK := Aside0.mk (KeepBut.trans tK (KeepBut.of_below hb g none) (.inl rfl)); replace HB := Aside0.mk (below_step tB hb); replace HI0 := Aside0.mk (IsS66.below tI hb)))
    go_roundg k1
    case measure => exact oK
    case rel => exact ⟨(t565), (wrap64 (x6_1 - 1)), (t563), (t564), rS, H', ⟨oK⟩, ⟨R_l (Kd.R_mono HO568.out (fun _ hk => trivial))⟩, ⟨tI⟩, ⟨tK⟩, ⟨tB⟩⟩
   ·rw [if_neg c7] at H
    have c7b0 : decide (0 < x6_1) = false := decide_eq_false c7
    clear c7
    obtain ⟨⟨t569, t570, t571⟩, A15, H⟩ := bs H
    try dsimp only at H
    by_cases c16 : t569 = true
    ·subst c16
     rw [if_pos rfl] at H
     have H' := Aside0.mk H
     clear H
     go_wp2_with (first | (refine gL 32 (some 36) Try.func32 #[.pointer (some ⟨g, 0, none⟩), .int .i64 4] ?_; (with_reducible refine (spec_l1Once.calls g s0_0 x1001_1 x1002_1 4 true t570 t571 w0 _ ?side1 ?side2 A15.out).mono ?_); (case side1 => exact tI); (case side2 => exact tB); rintro e w17 ⟨rfl, hi, hb, hk⟩; refine ⟨_, rfl, ?_⟩; replace HO_5 := Aside0.mk (Kd.R_mono (Kd.R_keep (IsS66.apart (show IsS66 w0 _ g s0_0 x1001_1 x1002_1 from tI) (R_l HO_5.out) (by decide)) hk (fun _ h => h.2)) (fun _ h => h.1)); replace HK := Aside0.mk (KeepBut.trans tK hk (.inl rfl)); replace HB := Aside0.mk (hb); replace HI0 := Aside0.mk (hi)))
     go_loopg [9] k1 (fun kq v9 w' => ∃ (x5_2 : List Int) (x9_2 : Int) (x1001_2 : Int) (x1002_2 : Int), v9 = .int .i64 x9_2 ∧ Aside0 (spec_l6Draw.l1 kq x5_2 x9_2 s0_0 x1001_2 x1002_2 = some (r1, r2, r3)) ∧ Aside0 (kq ≤ k1) ∧ Aside0 (Kd.R (Kd.int .i64) 3 w' w.heap.size (fun _ => True) u5 x5_2) ∧ Aside0 (IsS66 w0 w' g s0_0 x1001_2 x1002_2) ∧ Aside0 (KeepBut w w' g none) ∧ Aside0 (Below w0.heap.size w0 w'))
     case atStart => exact ⟨(x5_1), (0), (t570), (t571), rS, H', ⟨Nat.le_refl _⟩, ⟨R_l HO_5.out⟩, ⟨tI⟩, ⟨tK⟩, ⟨tB⟩⟩
     case round =>
      clear H'
      try clear c1
      try clear p2
      try clear c3
      try clear c4
      try clear p6
      try clear c7
      try clear c7b0
      try clear c8
      try clear c16
      try clear p2
      obtain ⟨x5_2, x9_2, x1001_2, x1002_2, rfl, HA, HK2, HO_5, HI0, HK, HB⟩ := hrel
      cases gk with
      | zero => exact absurd HA.out (by simp [spec_l6Draw.l1])
      | succ k2 =>
       have H := HA.out
       clear HA
       simp only [spec_l6Draw.l1] at H
       obtain ⟨c18b0, H⟩ | ⟨c18b0, H⟩ := gi H
       ·obtain ⟨⟨t572, t573, t574⟩, A19, H⟩ := bs H
        try dsimp only at H
        obtain ⟨⟨t575, t576, t577⟩, A20, H⟩ := bs H
        try dsimp only at H
        obtain ⟨c21b0, H⟩ := gdt H
        obtain ⟨c22b0, H⟩ := gdt H
        obtain ⟨c23b0, H⟩ := gdt H
        obtain ⟨c24b0, H⟩ := gdt H
        generalize hy580 : (x5_2.set (t572 : Int).toNat (rd x5_2 t575) : List Int) = y580 at H
        have Ny580 := Aside0.mk hy580.symm; clear hy580
        generalize hy581 : (y580.set (t575 : Int).toNat (rd x5_2 t572) : List Int) = y581 at H
        have Ny581 := Aside0.mk hy581.symm; clear hy581
        have H' := Aside0.mk H
        clear H
        obtain ⟨Ao27, co27, eo27⟩ := Kd.R_slice HO_5.out
        subst eo27
        go_wp2_with (first | (refine gL 44 (some 44) Try.func44 #[.pointer (some ⟨g, 0, none⟩), .int .i64 (x5_2.length : Int)] ?_; (with_reducible refine (spec_l1Below.calls g s0_0 x1001_2 x1002_2 (x5_2.length : Int) t572 t573 t574 w0 _ ?side1 ?side2 A19.out).mono ?_); (case side1 => exact tI); (case side2 => exact tB); rintro e w28 ⟨rfl, hi, hb, hk⟩; refine ⟨_, rfl, ?_⟩; replace HO_5 := Aside0.mk (Kd.R_mono (Kd.R_keep (IsS66.apart (show IsS66 w0 _ g s0_0 x1001_2 x1002_2 from tI) (R_l HO_5.out) (by decide)) hk (fun _ h => h.2)) (fun _ h => h.1)); replace HK := Aside0.mk (KeepBut.trans tK hk (.inl rfl)); replace HB := Aside0.mk (hb); replace HI0 := Aside0.mk (hi)) | (refine gL 44 (some 48) Try.func44 #[.pointer (some ⟨g, 0, none⟩), .int .i64 (x5_2.length : Int)] ?_; (with_reducible refine (spec_l1Below.calls g s0_0 t573 t574 (x5_2.length : Int) t575 t576 t577 w0 _ ?side1 ?side2 A20.out).mono ?_); (case side1 => exact tI); (case side2 => exact tB); rintro e w29 ⟨rfl, hi, hb, hk⟩; refine ⟨_, rfl, ?_⟩; replace HO_5 := Aside0.mk (Kd.R_mono (Kd.R_keep (IsS66.apart (show IsS66 w0 _ g s0_0 t573 t574 from tI) (R_l HO_5.out) (by decide)) hk (fun _ h => h.2)) (fun _ h => h.1)); replace HK := Aside0.mk (KeepBut.trans tK hk (.inl rfl)); replace HB := Aside0.mk (hb); replace HI0 := Aside0.mk (hi); have p578 : 0 ≤ (t572 : Int) := dT; have q578 : t572 < (x5_2.length : Int) := dT; obtain ⟨ad578, e578, hx578_0⟩ := Kd.at_int (Kd.R_reads' HO_5.out).2.2 t572 p578 q578; cases e578; replace p578 := eq_true p578; replace q578 := eq_true q578; have p579 : 0 ≤ (t575 : Int) := dT; have q579 : t575 < (x5_2.length : Int) := dT; obtain ⟨ad579, e579, hx579_0⟩ := Kd.at_int (Kd.R_reads' HO_5.out).2.2 t575 p579 q579; obtain rfl : ad578 = ad579 := (by injection e579); replace p579 := eq_true p579; replace q579 := eq_true q579; have p25 : 0 ≤ (t572 : Int) := dT; have q25 : (t572 : Int) < ((x5_2.length : Int) : Int) := dT; obtain ⟨go25, co25, eo25, gb25, gl25, cl25, HG25⟩ := Kd.R_form HO_5.out (by omega); (first | cases eo25 | (injection eo25 with ea_ en_ ec_; (first | subst ea_ | (injection ea_ with ea_; subst ea_)); subst ec_; clear en_)); have GB25 := Aside0.mk gb25; have GG25 := Aside0.mk HG25; clear gb25 gl25 HG25; (first | simp only [add_plain] at hx578_0 | skip); (first | simp only [add_plain] at hx579_0 | skip); obtain ⟨hx25_0, hf25_0⟩ := Kd.R_celln 0 HO_5.out (t572 : Int) p25 q25; replace p25 := eq_true p25; replace q25 := eq_true q25; obtain ⟨hy30_, hz30_⟩ := Kd.R_celln 0 HO_5.out (t572 : Int) dT dT; have HP30 := Kd.R_putg HO_5.out (t572 : Int) (rd x5_2 t575)) | ((with_reducible refine gate_store (t := 3) (p := 59) rfl ?_); refine store_event (t := 3) (p := 59) (v := ?vo_w31) (w1 := (w29.setCell ⟨go25, (t572 : Int).toNat, none⟩ (.int .i64 (rd x5_2 t575)))) ?hg ?ho ?hn ?hr ?_; (case ho => rfl); (case hg => rfl); (case hn => rfl); (case hr => exact gS); intro w31 hw; have hg : w29.grownBy w31 (some go25) := (by rw [hw]; exact HP30.2); have hp_ : Kd.R (Kd.int .i64) 3 w31 w.heap.size (fun _ => True) (.slice (some ⟨go25, 0, none⟩) x5_2.length co27) y580 := (by rw [hw, Ny580.out]; exact HP30.1); clear HP30; replace HI0 := Aside0.mk (IsS66.grown tI hg (IsS66.own_ne HI0.out HO_5.out (by decide))); replace HB := Aside0.mk ((by rw [hw]; exact below_set (HB.out) (Nat.le_trans HL.out GB25.out) : Below w0.heap.size w0 w31)); replace HK := Aside0.mk (KeepBut.trans tK (KeepBut.of_grown hg g) (Kd.R_base2 HO_5.out)); replace HO_5 := Aside0.mk (hp_); clear hg hw hp_; have p26 : 0 ≤ (t575 : Int) := dT; have q26 : (t575 : Int) < ((x5_2.length : Int) : Int) := dT; obtain ⟨hx26_0, hf26_0⟩ := Kd.R_celln 0 HO_5.out (t575 : Int) p26 q26; replace p26 := eq_true p26; replace q26 := eq_true q26; obtain ⟨hy32_, hz32_⟩ := Kd.R_celln 0 HO_5.out (t575 : Int) dT dT; have HP32 := Kd.R_putg HO_5.out (t575 : Int) (rd x5_2 t572)) | ((with_reducible refine gate_store (t := 3) (p := 63) rfl ?_); refine store_event (t := 3) (p := 63) (v := ?vo_w33) (w1 := (w31.setCell ⟨go25, (t575 : Int).toNat, none⟩ (.int .i64 (rd x5_2 t572)))) ?hg ?ho ?hn ?hr ?_; (case ho => rfl); (case hg => rfl); (case hn => rfl); (case hr => exact gS); intro w33 hw; have hg : w31.grownBy w33 (some go25) := (by rw [hw]; exact HP32.2); have hp_ : Kd.R (Kd.int .i64) 3 w33 w.heap.size (fun _ => True) (.slice (some ⟨go25, 0, none⟩) x5_2.length co27) y581 := (by rw [hw, Ny581.out]; exact HP32.1); clear HP32; replace HI0 := Aside0.mk (IsS66.grown tI hg (IsS66.own_ne HI0.out HO_5.out (by decide))); replace HB := Aside0.mk ((by rw [hw]; exact below_set (HB.out) (Nat.le_trans HL.out GB25.out) : Below w0.heap.size w0 w33)); replace HK := Aside0.mk (KeepBut.trans tK (KeepBut.of_grown hg g) (Kd.R_base2 HO_5.out)); replace HO_5 := Aside0.mk (hp_); clear hg hw hp_))
        go_roundg k2
        case measure => exact oK
        case rel => exact ⟨(y581), (wrap64 (x9_2 + 1)), (t576), (t577), rS, H', ⟨oK⟩, ⟨R_l HO_5.out⟩, ⟨tI⟩, ⟨tK⟩, ⟨tB⟩⟩
       ·simp only [Option.some.injEq, Prod.mk.injEq] at H
        obtain ⟨rfl, rfl, rfl⟩ := H
        go_wp2
        go_ret
        exact ⟨_, rE, R_l HO_5.out, tI, tB, tK⟩
    ·replace c16 := Bool.eq_false_iff.mpr c16
     subst c16
     rw [if_neg (show ¬ (false = true) by decide)] at H
     simp only [Option.some.injEq, Prod.mk.injEq] at H
     obtain ⟨rfl, rfl, rfl⟩ := H
     go_wp2_with (first | (refine gL 32 (some 36) Try.func32 #[.pointer (some ⟨g, 0, none⟩), .int .i64 4] ?_; (with_reducible refine (spec_l1Once.calls g s0_0 x1001_1 x1002_1 4 false t570 t571 w0 _ ?side1 ?side2 A15.out).mono ?_); (case side1 => exact tI); (case side2 => exact tB); rintro e w34 ⟨rfl, hi, hb, hk⟩; refine ⟨_, rfl, ?_⟩; replace HO_5 := Aside0.mk (Kd.R_mono (Kd.R_keep (IsS66.apart (show IsS66 w0 _ g s0_0 x1001_1 x1002_1 from tI) (R_l HO_5.out) (by decide)) hk (fun _ h => h.2)) (fun _ h => h.1)); replace HK := Aside0.mk (KeepBut.trans tK hk (.inl rfl)); replace HB := Aside0.mk (hb); replace HI0 := Aside0.mk (hi)))
     go_ret
     exact ⟨_, rE, R_l HO_5.out, tI, tB, tK⟩

/-! ### spec_l1PickInt: function 79 -/
def spec_l1PickInt.f (s0_0 : List Int) (s0_1 : Int) (s0_2 : Int) (l1 : List Int) : Option (Int × Int × Int) := (spec_l1Below.f s0_0 s0_1 s0_2 (l1.length : Int)).bind fun bt582 => (if 0 ≤ bt582.1 then (if bt582.1 < (l1.length : Int) then (some (rd l1 bt582.1, bt582.2.1, bt582.2.2)) else (none)) else (none))
set_option maxHeartbeats 8000000 in
set_option maxRecDepth 100000 in
theorem spec_l1PickInt.calls (g : Nat) (s0_0 : List Int) (s0_1 : Int) (s0_2 : Int) (A1 : Option Addr) (c1 : Nat) (l1 : List Int) (r1 : Int) (r2 : Int) (r3 : Int) (w0 w : World) (hI : IsS66 w0 w g s0_0 s0_1 s0_2) (hB : Below w0.heap.size w0 w) (hr1 : Kd.C (Kd.int .i64) w A1 l1.length l1) (hc1 : l1.length ≤ c1) (hf1 : ∀ ad, A1 = some ad → 0 < l1.length → ad.block ≠ g) (h : spec_l1PickInt.f s0_0 s0_1 s0_2 l1 = some (r1, r2, r3)) :
  Calls Try.prog 79 #[.pointer (some ⟨g, 0, none⟩), .slice A1 l1.length c1] w fun e w' => e = .returned (.int .i64 r1) ∧ IsS66 w0 w' g s0_0 r2 r3 ∧ Below w0.heap.size w0 w' ∧ KeepBut w w' g none := by
 have HR1 := Aside0.mk hr1
 have HC1 := Aside0.mk hc1
 clear hr1 hc1
 have HI0 := Aside0.mk hI
 have HK := Aside0.mk (KeepBut.refl w g none)
 have HL := Aside0.mk hB.size
 clear hI
 have HW0 := Aside0.mk hB.size
 have HB := Aside0.mk hB
 clear hB
 have H : ((spec_l1Below.f s0_0 s0_1 s0_2 (l1.length : Int)).bind fun bt582 => (if 0 ≤ bt582.1 then (if bt582.1 < (l1.length : Int) then (some (rd l1 bt582.1, bt582.2.1, bt582.2.2)) else (none)) else (none))) = some (r1, r2, r3) := h
 clear h
 obtain ⟨⟨t582, t583, t584⟩, A3, H⟩ := bs H
 try dsimp only at H
 by_cases c4 : 0 ≤ t582
 ·rw [if_pos c4] at H
  have c4b0 : decide (0 ≤ t582) = true := decide_eq_true c4
  clear c4
  obtain ⟨c5b0, H⟩ := gdt H
  simp only [Option.some.injEq, Prod.mk.injEq] at H
  obtain ⟨rfl, rfl, rfl⟩ := H
  go_enter Try.func79, Try.ntmps79
  go_wp2_with (first | (refine gL 44 (some 9) Try.func44 #[.pointer (some ⟨g, 0, none⟩), .int .i64 (l1.length : Int)] ?_; (with_reducible refine (spec_l1Below.calls g s0_0 s0_1 s0_2 (l1.length : Int) t582 t583 t584 w0 _ ?side1 ?side2 A3.out).mono ?_); (case side1 => exact tI); (case side2 => exact tB); rintro e w6 ⟨rfl, hi, hb, hk⟩; refine ⟨_, rfl, ?_⟩; replace HK := Aside0.mk (KeepBut.trans tK hk (.inl rfl)); replace HB := Aside0.mk (hb); replace HI0 := Aside0.mk (hi); have p585 : 0 ≤ (t582 : Int) := dT; have q585 : t582 < (l1.length : Int) := dT; obtain ⟨ad585, e585, hx585_0⟩ := Kd.at_int HR1.out t582 p585 q585; cases e585; replace hx585_0 := keep_cell HK.out hx585_0 (by first | (rw [add_block]; exact hf1 _ rfl (by omega)) | exact hf1 _ rfl (by omega) | exact hf1 ad585 rfl (by omega)); replace p585 := eq_true p585; replace q585 := eq_true q585))
  go_ret
  exact ⟨rE, tI, tB, tK⟩
 ·rw [if_neg c4] at H
  exact absurd H (by simp)

/-! ### spec_l6Bent: function 47 -/
def spec_l6Bent.f (k : Nat) (s0_0 : List Int) (s0_1 : Int) (s0_2 : Int) : Option (List Int × Int × Int) := (spec_l6Draw.f k s0_0 s0_1 s0_2 6).bind fun bt586 => ((spec_l1Below.f s0_0 bt586.2.1 bt586.2.2 18).bind fun bt591 => (if bt591.1 = 0 then ((spec_l1PickInt.f s0_0 bt591.2.1 bt591.2.2 (([(-1), 99, 0, 1] : List Int))).bind fun bt597 => (if 0 < (bt586.1.length : Int) then (some ((bt586.1.set (0 : Int).toNat bt597.1), bt597.2.1, bt597.2.2)) else (none))) else (if bt591.1 = 1 then (if bt586.1.length < 17592186044416 then (some ((bt586.1 ++ [(bt586.1.length : Int)]), bt591.2.1, bt591.2.2)) else (none)) else (some (bt586.1, bt591.2.1, bt591.2.2)))))
set_option maxHeartbeats 8000000 in
set_option maxRecDepth 100000 in
theorem spec_l6Bent.calls (k : Nat) (g : Nat) (s0_0 : List Int) (s0_1 : Int) (s0_2 : Int) (r1 : List Int) (r2 : Int) (r3 : Int) (w0 w : World) (hI : IsS66 w0 w g s0_0 s0_1 s0_2) (hB : Below w0.heap.size w0 w) (h : spec_l6Bent.f k s0_0 s0_1 s0_2 = some (r1, r2, r3)) :
  Calls Try.prog 47 #[.pointer (some ⟨g, 0, none⟩)] w fun e w' => ∃ v0_ : Value, e = .returned (v0_) ∧ Kd.R (Kd.int .i64) 3 w' w.heap.size (fun _ => True) v0_ r1 ∧ IsS66 w0 w' g s0_0 r2 r3 ∧ Below w0.heap.size w0 w' ∧ KeepBut w w' g none := by
 have HI0 := Aside0.mk hI
 have HK := Aside0.mk (KeepBut.refl w g none)
 have HL := Aside0.mk hB.size
 clear hI
 have HW0 := Aside0.mk hB.size
 have HB := Aside0.mk hB
 clear hB
 have H : ((spec_l6Draw.f k s0_0 s0_1 s0_2 6).bind fun bt586 => ((spec_l1Below.f s0_0 bt586.2.1 bt586.2.2 18).bind fun bt591 => (if bt591.1 = 0 then ((spec_l1PickInt.f s0_0 bt591.2.1 bt591.2.2 (([(-1), 99, 0, 1] : List Int))).bind fun bt597 => (if 0 < (bt586.1.length : Int) then (some ((bt586.1.set (0 : Int).toNat bt597.1), bt597.2.1, bt597.2.2)) else (none))) else (if bt591.1 = 1 then (if bt586.1.length < 17592186044416 then (some ((bt586.1 ++ [(bt586.1.length : Int)]), bt591.2.1, bt591.2.2)) else (none)) else (some (bt586.1, bt591.2.1, bt591.2.2)))))) = some (r1, r2, r3) := h
 clear h
 obtain ⟨⟨t586, t589, t590⟩, A2, H⟩ := bs H
 try dsimp only at H
 obtain ⟨⟨t591, t592, t593⟩, A3, H⟩ := bs H
 try dsimp only at H
 by_cases c4 : t591 = 0
 ·rw [if_pos c4] at H
  have c4b0 : (t591 == 0) = true := beq_iff_eq.mpr c4
  have c4b1 : (t591 != 0) = false := bne_eq_false_iff_eq.mpr c4
  clear c4
  generalize hy594 : (([(-1), 99, 0, 1] : List Int) : List Int) = y594 at H
  have Ny594 := Aside0.mk hy594.symm; clear hy594
  obtain ⟨⟨t597, t598, t599⟩, A5, H⟩ := bs H
  try dsimp only at H
  obtain ⟨c6, H⟩ := gd H
  have c6b0 : decide (0 < (t586.length : Int)) = true := decide_eq_true c6
  have c6b1 : decide (0 < t586.length) = true := decide_eq_true (by omega)
  clear c6
  generalize hy600 : (t586.set (0 : Int).toNat t597 : List Int) = y600 at H
  have Ny600 := Aside0.mk hy600.symm; clear hy600
  simp only [Option.some.injEq, Prod.mk.injEq] at H
  obtain ⟨rfl, rfl, rfl⟩ := H
  go_enter Try.func47, Try.ntmps47
  go_wp2_with (first | (refine gL 48 (some 5) Try.func48 #[.pointer (some ⟨g, 0, none⟩), .int .i64 6] ?_; (with_reducible refine (spec_l6Draw.calls k g s0_0 s0_1 s0_2 6 t586 t589 t590 w0 _ ?side1 ?side2 A2.out).mono ?_); (case side1 => exact tI); (case side2 => exact tB); rintro e w8 ⟨v587, rfl, ho0, hi, hb, hk⟩; refine ⟨_, rfl, ?_⟩; have HO588 := Aside0.mk (Kd.R_lower ho0 (zK)); replace HK := Aside0.mk (KeepBut.trans tK hk (.inl rfl)); replace HB := Aside0.mk (hb); replace HI0 := Aside0.mk (hi)) | (refine gL 44 (some 7) Try.func44 #[.pointer (some ⟨g, 0, none⟩), .int .i64 18] ?_; (with_reducible refine (spec_l1Below.calls g s0_0 t589 t590 18 t591 t592 t593 w0 _ ?side1 ?side2 A3.out).mono ?_); (case side1 => exact tI); (case side2 => exact tB); rintro e w9 ⟨rfl, hi, hb, hk⟩; refine ⟨_, rfl, ?_⟩; replace HO588 := Aside0.mk (Kd.R_mono (Kd.R_keep (IsS66.apart (show IsS66 w0 _ g s0_0 t589 t590 from tI) (R_l HO588.out) (by decide)) hk (fun _ h => h.2)) (fun _ h => h.1)); replace HK := Aside0.mk (KeepBut.trans tK hk (.inl rfl)); replace HB := Aside0.mk (hb); replace HI0 := Aside0.mk (hi)) | ((with_reducible refine gate_dst (N := 12) rfl ?_); refine Kd.R_lit (Kd.int .i64) _ 3 ?hg (N := 12) ?hd (xs := ([(-1), 99, 0, 1] : List Int)) (inner := [.int .i64 (-1), .int .i64 99, .int .i64 0, .int .i64 1]) (ok := fun _ => True) (okp := fun _ => True) ?hr ?hp (fun _ hk => hk) trivial (Below.refl _ _) (Nat.le_refl _) (by simp) ?_; (case hd => rfl); (case hg => rfl); (case hr => exact gS); (case hp => exact (Reps.one (show Kd.M (Kd.int .i64) _ _ _ (-1) [.int .i64 (-1)] from rfl) (Reps.one (show Kd.M (Kd.int .i64) _ _ _ 99 [.int .i64 99] from rfl) (Reps.one (show Kd.M (Kd.int .i64) _ _ _ 0 [.int .i64 0] from rfl) (Reps.one (show Kd.M (Kd.int .i64) _ _ _ 1 [.int .i64 1] from rfl) (Reps.none _ _)))))); intro v595 w10 ho11 hb hg_ hnew_; clear hg_ hnew_; (first | rw [← Ny594.out] at ho11 | (simp only [Int.reduceToNat] at ho11; rw [← Ny594.out] at ho11)); have HO596 := Aside0.mk (Kd.R_lower (Kd.R_new' ho11 (Kd.R_lt (R_l HO588.out))) (zK)); replace HO588 := Aside0.mk (Kd.R_elder' (R_l HO588.out) (Kd.R_base ho11) hb); replace HK := Aside0.mk (KeepBut.trans tK (KeepBut.of_below hb g none) (.inl rfl)); replace HB := Aside0.mk (below_step tB hb); replace HI0 := Aside0.mk (IsS66.below tI hb); clear hb ho11; obtain ⟨Ao12, co12, eo12⟩ := Kd.R_slice HO596.out; subst eo12) | (refine gL 79 (some 13) Try.func79 #[.pointer (some ⟨g, 0, none⟩), .slice Ao12 y594.length co12] ?_; (with_reducible refine (spec_l1PickInt.calls g s0_0 t592 t593 _ _ y594 t597 t598 t599 w0 _ ?side1 ?side2 ?side3 ?side4 ?side5 A5.out).mono ?_); (case side1 => exact tI); (case side2 => exact tB); (case side3 => exact C_l ((Kd.R_reads' HO596.out).2.2)); (case side4 => exact (Kd.R_reads' HO596.out).2.1); (case side5 => exact far_slice (IsS66.own_ne HI0.out HO596.out (by decide))); rintro e w13 ⟨rfl, hi, hb, hk⟩; refine ⟨_, rfl, ?_⟩; replace HO588 := Aside0.mk (Kd.R_mono (Kd.R_keep (IsS66.apart (show IsS66 w0 _ g s0_0 t592 t593 from tI) (R_l HO588.out) (by decide)) hk (fun _ h => h.2)) (fun _ h => h.1)); replace HO596 := Aside0.mk (Kd.R_mono (Kd.R_keep (IsS66.apart (show IsS66 w0 _ g s0_0 t592 t593 from tI) (R_l HO596.out) (by decide)) hk (fun _ h => h.2)) (fun _ h => h.1)); replace HK := Aside0.mk (KeepBut.trans tK hk (.inl rfl)); replace HB := Aside0.mk (hb); replace HI0 := Aside0.mk (hi); have p7 : 0 ≤ (0 : Int) := (by omega); have q7 : (0 : Int) < ((t586.length : Int) : Int) := dT; have qi7 : (0 < t586.length) = True := eq_true (by omega); obtain ⟨go7, co7, eo7, gb7, gl7, cl7, HG7⟩ := Kd.R_form HO588.out (by omega); (first | cases eo7 | (injection eo7 with ea_ en_ ec_; (first | subst ea_ | (injection ea_ with ea_; subst ea_)); subst ec_; clear en_)); have GB7 := Aside0.mk gb7; have GG7 := Aside0.mk HG7; clear gb7 gl7 HG7; obtain ⟨hx7_0, hf7_0⟩ := Kd.R_celln 0 HO588.out (0 : Int) p7 q7; (try rw [show ((0 : Int)).toNat = 0 from rfl] at hx7_0); (try simp only [Nat.reduceMul, Nat.zero_mul, Nat.zero_add, Nat.reduceAdd] at hx7_0); (try rw [show ((0 : Int)).toNat = 0 from rfl] at hf7_0); (try simp only [Nat.reduceMul, Nat.zero_mul, Nat.zero_add, Nat.reduceAdd] at hf7_0); replace p7 := eq_true p7; replace q7 := eq_true q7; have n_ := Aside0.mk (Kd.R_mono (ok' := (fun k_ => some k_ ≠ (.slice Ao12 y594.length co12 : Value).ownBlock)) HO588.out (fun k_ hk => hk.2)); clear HO588; have HO588 := n_; clear n_; obtain ⟨hy14_, hz14_⟩ := Kd.R_celln 0 HO588.out (0 : Int) (by omega) dT; (try simp only [Int.reduceToNat, Int.toNat_zero, Int.toNat_ofNat, Nat.reduceMul, Nat.zero_mul, Nat.zero_add] at hy14_ hz14_); (try rw [show ((0 : Int)).toNat = 0 from rfl] at hy14_); (try rw [show ((0 : Int)).toNat = 0 from rfl] at hz14_); have HP14 := Kd.R_putg HO588.out (0 : Int) t597) | ((with_reducible refine gate_store (t := 3) (p := 14) rfl ?_); refine store_event (t := 3) (p := 14) (v := ?vo_w15) (w1 := (w13.setCell ⟨go7, (0 : Int).toNat, none⟩ (.int .i64 t597))) ?hg ?ho ?hn ?hr ?_; (case ho => rfl); (case hg => rfl); (case hn => rfl); (case hr => exact gS); intro w15 hw; have hg : w13.grownBy w15 (some go7) := (by rw [hw]; exact HP14.2); have hp_ : Kd.R (Kd.int .i64) 3 w15 w.heap.size (fun k_ => some k_ ≠ (.slice Ao12 y594.length co12 : Value).ownBlock) (.slice (some ⟨go7, 0, none⟩) t586.length co7) y600 := (by rw [hw, Ny600.out]; exact HP14.1); clear HP14; replace HI0 := Aside0.mk (IsS66.grown tI hg (IsS66.own_ne HI0.out HO588.out (by decide))); replace HO596 := Aside0.mk (Kd.R_after (v := (.slice (some ⟨go7, 0, none⟩) t586.length co7)) (v1 := (.slice (some ⟨go7, 0, none⟩) t586.length co7)) (ok := (fun _ => True)) (R_l HO596.out) hg (.inl rfl)); replace HB := Aside0.mk ((by rw [hw]; exact below_set (HB.out) (Nat.le_trans HL.out GB7.out) : Below w0.heap.size w0 w15)); replace HK := Aside0.mk (KeepBut.trans tK (KeepBut.of_grown hg g) (Kd.R_base2 HO588.out)); replace HO588 := Aside0.mk (hp_); clear hg hw hp_))
  go_ret
  exact ⟨_, rE, R_l (Kd.R_mono HO588.out (fun _ hk => trivial)), tI, tB, tK⟩
 ·rw [if_neg c4] at H
  have c4b0 : (t591 == 0) = false := beq_eq_false_iff_ne.mpr c4
  have c4b1 : (t591 != 0) = true := bne_iff_ne.mpr c4
  by_cases c16 : t591 = 1
  ·rw [if_pos c16] at H
   have c16b0 : (t591 == 1) = true := beq_iff_eq.mpr c16
   have c16b1 : (t591 != 1) = false := bne_eq_false_iff_eq.mpr c16
   clear c16
   obtain ⟨LMc17, H⟩ := gda H
   generalize hy601 : (t586 ++ [(t586.length : Int)] : List Int) = y601 at H
   have Ny601 := Aside0.mk hy601.symm; clear hy601
   simp only [Option.some.injEq, Prod.mk.injEq] at H
   obtain ⟨rfl, rfl, rfl⟩ := H
   go_enter Try.func47, Try.ntmps47
   go_wp2_with (first | (refine gL 48 (some 5) Try.func48 #[.pointer (some ⟨g, 0, none⟩), .int .i64 6] ?_; (with_reducible refine (spec_l6Draw.calls k g s0_0 s0_1 s0_2 6 t586 t589 t590 w0 _ ?side1 ?side2 A2.out).mono ?_); (case side1 => exact tI); (case side2 => exact tB); rintro e w18 ⟨v587, rfl, ho0, hi, hb, hk⟩; refine ⟨_, rfl, ?_⟩; have HO588 := Aside0.mk (Kd.R_lower ho0 (zK)); replace HK := Aside0.mk (KeepBut.trans tK hk (.inl rfl)); replace HB := Aside0.mk (hb); replace HI0 := Aside0.mk (hi)) | (refine gL 44 (some 7) Try.func44 #[.pointer (some ⟨g, 0, none⟩), .int .i64 18] ?_; (with_reducible refine (spec_l1Below.calls g s0_0 t589 t590 18 t591 t592 t593 w0 _ ?side1 ?side2 A3.out).mono ?_); (case side1 => exact tI); (case side2 => exact tB); rintro e w19 ⟨rfl, hi, hb, hk⟩; refine ⟨_, rfl, ?_⟩; replace HO588 := Aside0.mk (Kd.R_mono (Kd.R_keep (IsS66.apart (show IsS66 w0 _ g s0_0 t589 t590 from tI) (R_l HO588.out) (by decide)) hk (fun _ h => h.2)) (fun _ h => h.1)); replace HK := Aside0.mk (KeepBut.trans tK hk (.inl rfl)); replace HB := Aside0.mk (hb); replace HI0 := Aside0.mk (hi); obtain ⟨Ao20, co20, eo20⟩ := Kd.R_slice HO588.out; subst eo20) | ((with_reducible refine gate_builtin (b := .append) (xs := #[.tmp 17, .tmp 20]) rfl ?_); at_builtin; refine Kd.R_append (Kd.int .i64) w.heap.size rfl (.tmp 17) (.tmp 20) 35 3 (.int .i64 0) 8 rfl Try.underlying35 info3 rfl (by decide) (by omega) (.slice Ao20 t586.length co20) t586 (t586.length : Int) [.int .i64 (t586.length : Int)] (fun _ => True) (fun _ => False) rfl rfl ?aP (fun _ hk => hk.elim) ?aF ?aO (Below.refl _ _) ?aS ?aL ?_; (case aP => exact rfl); (case aF => exact (fun _ _ => trivial)); (case aO => exact (R_l HO588.out)); (case aS => exact (zK)); (case aL => have := LMc17.out; omega); intro v602 w21 ho hb hg hat; rw [← Ny601.out] at ho; replace HB := Aside0.mk (below_weaken tB HL.out hb); replace HI0 := Aside0.mk (IsS66.grown tI hg (IsS66.own_ne HI0.out HO588.out (by decide))); replace HK := Aside0.mk (KeepBut.trans tK (KeepBut.of_grown hg g) (Kd.R_base2 HO588.out)); have HO603 := Aside0.mk (ho); clear HO588; clear ho hb hg hat))
   go_ret
   exact ⟨_, rE, R_l HO603.out, tI, tB, tK⟩
  ·rw [if_neg c16] at H
   have c16b0 : (t591 == 1) = false := beq_eq_false_iff_ne.mpr c16
   have c16b1 : (t591 != 1) = true := bne_iff_ne.mpr c16
   simp only [Option.some.injEq, Prod.mk.injEq] at H
   obtain ⟨rfl, rfl, rfl⟩ := H
   go_enter Try.func47, Try.ntmps47
   go_wp2_with (first | (refine gL 48 (some 5) Try.func48 #[.pointer (some ⟨g, 0, none⟩), .int .i64 6] ?_; (with_reducible refine (spec_l6Draw.calls k g s0_0 s0_1 s0_2 6 t586 t589 t590 w0 _ ?side1 ?side2 A2.out).mono ?_); (case side1 => exact tI); (case side2 => exact tB); rintro e w22 ⟨v587, rfl, ho0, hi, hb, hk⟩; refine ⟨_, rfl, ?_⟩; have HO588 := Aside0.mk (Kd.R_lower ho0 (zK)); replace HK := Aside0.mk (KeepBut.trans tK hk (.inl rfl)); replace HB := Aside0.mk (hb); replace HI0 := Aside0.mk (hi)) | (refine gL 44 (some 7) Try.func44 #[.pointer (some ⟨g, 0, none⟩), .int .i64 18] ?_; (with_reducible refine (spec_l1Below.calls g s0_0 t589 t590 18 t591 t592 t593 w0 _ ?side1 ?side2 A3.out).mono ?_); (case side1 => exact tI); (case side2 => exact tB); rintro e w23 ⟨rfl, hi, hb, hk⟩; refine ⟨_, rfl, ?_⟩; replace HO588 := Aside0.mk (Kd.R_mono (Kd.R_keep (IsS66.apart (show IsS66 w0 _ g s0_0 t589 t590 from tI) (R_l HO588.out) (by decide)) hk (fun _ h => h.2)) (fun _ h => h.1)); replace HK := Aside0.mk (KeepBut.trans tK hk (.inl rfl)); replace HB := Aside0.mk (hb); replace HI0 := Aside0.mk (hi)))
   go_ret
   exact ⟨_, rE, R_l HO588.out, tI, tB, tK⟩

/-! ### spec_DrawMapPassport: function 14 -/
def spec_DrawMapPassport.f (k : Nat) (l0 : List Int) : Option (List Int) := (spec_l1New.f k l0).bind fun bt604 => ((spec_l1Once.f bt604.1 bt604.2.1 bt604.2.2 3).bind fun bt608 => (if bt608.1 = true then ((spec_l6Bent.f k bt604.1 bt608.2.1 bt608.2.2).bind fun bt611 => (some bt611.1)) else ((spec_l6Draw.f k bt604.1 bt608.2.1 bt608.2.2 2).bind fun bt616 => (some bt616.1))))
set_option maxHeartbeats 8000000 in
set_option maxRecDepth 100000 in
theorem spec_DrawMapPassport.calls (k : Nat) (A0 : Option Addr) (c0 : Nat) (l0 : List Int) (r : List Int) (w : World) (hr0 : Kd.C (Kd.int .u8) w A0 l0.length l0) (hc0 : l0.length ≤ c0) (h : spec_DrawMapPassport.f k l0 = some r) :
  Calls Try.prog 14 #[.slice A0 l0.length c0] w fun e w' => ∃ v0_ : Value, e = .returned (v0_) ∧ Kd.R (Kd.int .i64) 3 w' w.heap.size (fun _ => True) v0_ r ∧ Below w.heap.size w w' := by
 have HR0 := Aside0.mk hr0
 have HC0 := Aside0.mk hc0
 clear hr0 hc0
 have HB := Aside0.mk (Below.refl w.heap.size w)
 have H : ((spec_l1New.f k l0).bind fun bt604 => ((spec_l1Once.f bt604.1 bt604.2.1 bt604.2.2 3).bind fun bt608 => (if bt608.1 = true then ((spec_l6Bent.f k bt604.1 bt608.2.1 bt608.2.2).bind fun bt611 => (some bt611.1)) else ((spec_l6Draw.f k bt604.1 bt608.2.1 bt608.2.2 2).bind fun bt616 => (some bt616.1))))) = some r := h
 clear h
 obtain ⟨⟨t604, t605, t606⟩, A2, H⟩ := bs H
 try dsimp only at H
 obtain ⟨⟨t608, t609, t610⟩, A3, H⟩ := bs H
 try dsimp only at H
 by_cases c4 : t608 = true
 ·subst c4
  rw [if_pos rfl] at H
  obtain ⟨⟨t611, t614, t615⟩, A5, H⟩ := bs H
  try dsimp only at H
  obtain rfl := Option.some.inj H
  go_enter Try.func14, Try.ntmps14
  go_wp2_with (first | (refine gL 28 (some 5) Try.func28 #[.slice A0 l0.length c0] ?_; (with_reducible refine (spec_l1New.calls k _ _ l0 t604 t605 t606 w _ ?side1 ?side2 ?side3 A2.out).mono ?_); (case side1 => exact tb); (case side2 => exact HR0.out); (case side3 => exact HC0.out); rintro e w6 ⟨g607, rfl, hi, hb, hb2⟩; refine ⟨_, rfl, ?_⟩; replace HB := Aside0.mk (hb); have HI607 := Aside0.mk (hi)) | (refine gL 32 (some 7) Try.func32 #[.pointer (some ⟨g607, 0, none⟩), .int .i64 3] ?_; (with_reducible refine (spec_l1Once.calls g607 t604 t605 t606 3 true t609 t610 w _ ?side1 ?side2 A3.out).mono ?_); (case side1 => repeat (first | (with_reducible first | exact HI607.out | apply IsS66.alloc | apply IsS66.drewN | apply IsS66.drew | apply IsS66.set_1 | apply IsS66.set_2) | exact HI607.out)); (case side2 => repeat (first | (with_reducible first | exact HB.out | apply below_alloc | apply pw_below_drewN | apply below_drew1 | refine below_set ?_ (IsS66.ge HI607.out)) | exact HB.out)); rintro e w7 ⟨rfl, hi, hb, hk⟩; refine ⟨_, rfl, ?_⟩; replace HB := Aside0.mk (hb); replace HI607 := Aside0.mk (hi)) | (refine gL 47 (some 9) Try.func47 #[.pointer (some ⟨g607, 0, none⟩)] ?_; (with_reducible refine (spec_l6Bent.calls k g607 t604 t609 t610 t611 t614 t615 w _ ?side1 ?side2 A5.out).mono ?_); (case side1 => repeat (first | (with_reducible first | exact HI607.out | apply IsS66.alloc | apply IsS66.drewN | apply IsS66.drew | apply IsS66.set_1 | apply IsS66.set_2) | exact HI607.out)); (case side2 => repeat (first | (with_reducible first | exact HB.out | apply below_alloc | apply pw_below_drewN | apply below_drew1 | refine below_set ?_ (IsS66.ge HI607.out)) | exact HB.out)); rintro e w8 ⟨v612, rfl, ho0, hi, hb, hk⟩; refine ⟨_, rfl, ?_⟩; have HO613 := Aside0.mk (Kd.R_lower ho0 (below_size (by repeat (first | (with_reducible first | exact HB.out | apply below_alloc | apply pw_below_drewN | apply below_drew1 | refine below_set ?_ (IsS66.ge HI607.out)) | exact HB.out)))); replace HB := Aside0.mk (hb); replace HI607 := Aside0.mk (hi)))
  go_ret
  exact ⟨_, rE, R_l HO613.out, by repeat (first | (with_reducible first | exact HB.out | apply below_alloc | apply pw_below_drewN | apply below_drew1 | refine below_set ?_ (IsS66.ge HI607.out)) | exact HB.out)⟩
 ·replace c4 := Bool.eq_false_iff.mpr c4
  subst c4
  rw [if_neg (show ¬ (false = true) by decide)] at H
  obtain ⟨⟨t616, t619, t620⟩, A9, H⟩ := bs H
  try dsimp only at H
  obtain rfl := Option.some.inj H
  go_enter Try.func14, Try.ntmps14
  go_wp2_with (first | (refine gL 28 (some 5) Try.func28 #[.slice A0 l0.length c0] ?_; (with_reducible refine (spec_l1New.calls k _ _ l0 t604 t605 t606 w _ ?side1 ?side2 ?side3 A2.out).mono ?_); (case side1 => exact tb); (case side2 => exact HR0.out); (case side3 => exact HC0.out); rintro e w10 ⟨g607, rfl, hi, hb, hb2⟩; refine ⟨_, rfl, ?_⟩; replace HB := Aside0.mk (hb); have HI607 := Aside0.mk (hi)) | (refine gL 32 (some 7) Try.func32 #[.pointer (some ⟨g607, 0, none⟩), .int .i64 3] ?_; (with_reducible refine (spec_l1Once.calls g607 t604 t605 t606 3 false t609 t610 w _ ?side1 ?side2 A3.out).mono ?_); (case side1 => repeat (first | (with_reducible first | exact HI607.out | apply IsS66.alloc | apply IsS66.drewN | apply IsS66.drew | apply IsS66.set_1 | apply IsS66.set_2) | exact HI607.out)); (case side2 => repeat (first | (with_reducible first | exact HB.out | apply below_alloc | apply pw_below_drewN | apply below_drew1 | refine below_set ?_ (IsS66.ge HI607.out)) | exact HB.out)); rintro e w11 ⟨rfl, hi, hb, hk⟩; refine ⟨_, rfl, ?_⟩; replace HB := Aside0.mk (hb); replace HI607 := Aside0.mk (hi)) | (refine gL 48 (some 11) Try.func48 #[.pointer (some ⟨g607, 0, none⟩), .int .i64 2] ?_; (with_reducible refine (spec_l6Draw.calls k g607 t604 t609 t610 2 t616 t619 t620 w _ ?side1 ?side2 A9.out).mono ?_); (case side1 => repeat (first | (with_reducible first | exact HI607.out | apply IsS66.alloc | apply IsS66.drewN | apply IsS66.drew | apply IsS66.set_1 | apply IsS66.set_2) | exact HI607.out)); (case side2 => repeat (first | (with_reducible first | exact HB.out | apply below_alloc | apply pw_below_drewN | apply below_drew1 | refine below_set ?_ (IsS66.ge HI607.out)) | exact HB.out)); rintro e w12 ⟨v617, rfl, ho0, hi, hb, hk⟩; refine ⟨_, rfl, ?_⟩; have HO618 := Aside0.mk (Kd.R_lower ho0 (below_size (by repeat (first | (with_reducible first | exact HB.out | apply below_alloc | apply pw_below_drewN | apply below_drew1 | refine below_set ?_ (IsS66.ge HI607.out)) | exact HB.out)))); replace HB := Aside0.mk (hb); replace HI607 := Aside0.mk (hi)))
  go_ret
  exact ⟨_, rE, R_l HO618.out, by repeat (first | (with_reducible first | exact HB.out | apply below_alloc | apply pw_below_drewN | apply below_drew1 | refine below_set ?_ (IsS66.ge HI607.out)) | exact HB.out)⟩

/-! ### impl_IsMap: function 49 -/
def impl_IsMap.f (k : Nat) (l0 : List Int) : Option (Bool) := (impl_within.f (l0.length : Int) 2 24).bind fun t621 => (if t621 = true then (if ((l0.length : Int) % 2) = 0 then ((impl_isPermutation.f k l0).bind fun t622 => (some t622)) else (some false)) else (some false))
set_option maxHeartbeats 8000000 in
set_option maxRecDepth 100000 in
theorem impl_IsMap.calls (k : Nat) (A0 : Option Addr) (c0 : Nat) (l0 : List Int) (r : Bool) (w : World) (hr0 : Kd.C (Kd.int .i64) w A0 l0.length l0) (hc0 : l0.length ≤ c0) (h : impl_IsMap.f k l0 = some r) :
  Calls Try.prog 49 #[.slice A0 l0.length c0] w fun e w' => e = .returned (.bool r) ∧ Below w.heap.size w w' := by
 have HR0 := Aside0.mk hr0
 have HC0 := Aside0.mk hc0
 clear hr0 hc0
 have HB := Aside0.mk (Below.refl w.heap.size w)
 have H : ((impl_within.f (l0.length : Int) 2 24).bind fun t621 => (if t621 = true then (if ((l0.length : Int) % 2) = 0 then ((impl_isPermutation.f k l0).bind fun t622 => (some t622)) else (some false)) else (some false))) = some r := h
 clear h
 obtain ⟨t621, A2, H⟩ := bs H
 by_cases c3 : t621 = true
 ·subst c3
  rw [if_pos rfl] at H
  by_cases c4 : ((l0.length : Int) % 2) = 0
  ·rw [if_pos c4] at H
   have c4b0 : (((l0.length : Int) % 2) == 0) = true := beq_iff_eq.mpr c4
   have c4b1 : (((l0.length : Int) % 2) != 0) = false := bne_eq_false_iff_eq.mpr c4
   clear c4
   obtain ⟨t622, A5, H⟩ := bs H
   obtain rfl := Option.some.inj H
   go_enter Try.func49, Try.ntmps49
   go_wp2_with (first | (refine gL 33 (some 5) Try.func33 #[.int .i64 (l0.length : Int), .int .i64 2, .int .i64 24] ?_; (with_reducible refine (impl_within.calls (l0.length : Int) 2 24 true _ A2.out).mono ?_); rintro e w' ⟨rfl, ⟨nd, rfl⟩⟩; refine ⟨_, rfl, ?_⟩) | (go_at_call 73; (with_reducible refine (impl_isPermutation.calls k _ _ l0 t622 _ ?side1 ?side2 A5.out).mono ?_); (case side1 => exact C_l HR0.out); (case side2 => exact HC0.out); rintro e w6 ⟨rfl, hb⟩; replace HB := Aside0.mk (zS HB hb)))
   go_ret
   exact ⟨rE, B_l HB.out⟩
  ·rw [if_neg c4] at H
   have c4b0 : (((l0.length : Int) % 2) == 0) = false := beq_eq_false_iff_ne.mpr c4
   have c4b1 : (((l0.length : Int) % 2) != 0) = true := bne_iff_ne.mpr c4
   obtain rfl := Option.some.inj H
   go_enter Try.func49, Try.ntmps49
   go_wp2_with (first | (refine gL 33 (some 5) Try.func33 #[.int .i64 (l0.length : Int), .int .i64 2, .int .i64 24] ?_; (with_reducible refine (impl_within.calls (l0.length : Int) 2 24 true _ A2.out).mono ?_); rintro e w' ⟨rfl, ⟨nd, rfl⟩⟩; refine ⟨_, rfl, ?_⟩))
   go_ret
   exact ⟨rE, B_l HB.out⟩
 ·replace c3 := Bool.eq_false_iff.mpr c3
  subst c3
  rw [if_neg (show ¬ (false = true) by decide)] at H
  obtain rfl := Option.some.inj H
  go_enter Try.func49, Try.ntmps49
  go_wp2_with (first | (refine gL 33 (some 5) Try.func33 #[.int .i64 (l0.length : Int), .int .i64 2, .int .i64 24] ?_; (with_reducible refine (impl_within.calls (l0.length : Int) 2 24 false _ A2.out).mono ?_); rintro e w' ⟨rfl, ⟨nd, rfl⟩⟩; refine ⟨_, rfl, ?_⟩))
  go_ret
  exact ⟨rE, B_l HB.out⟩

end Go.Proofs.Ytkbkkpgllphdhaa.PFnBranches
