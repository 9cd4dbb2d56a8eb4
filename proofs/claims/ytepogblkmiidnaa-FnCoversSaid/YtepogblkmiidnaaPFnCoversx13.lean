import Derived.Test.YtepogblkmiidnaaWSpanB
import Derived.Test.YtepogblkmiidnaaPFnCoversx0
namespace Go.Proofs.Ytepogblkmiidnaa.PFnCovers
open Go.RowKit Go.Proofs.YtepogblkmiidnaaW.PrintWords Go.Proofs.YtepogblkmiidnaaW.PrintLast Go.Proofs.YtepogblkmiidnaaW.PrintMore
attribute [local go_sem] max2_int min2_int max_two min_two max_three min_three max_four min_four   -- for this text's walks alone
set_option linter.unusedVariables false
set_option linter.unusedSimpArgs false

/-! ### spec_l6Cycles: function 38 -/
mutual
def spec_l6Cycles.l0 : Nat → List Int → List (List Int) → List Bool → Int → Option ((List (List Int)))
 | 0, _, _, _, _ => none
 | k + 1, x0, x3, x4, x5 => if x5 < (x0.length : Int) then (if 0 ≤ x5 then (if x5 < (x4.length : Int) then (if rdOf false x4 x5 = true then (spec_l6Cycles.l0 k x0 x3 x4 (wrap64 (x5 + 1))) else (spec_l6Cycles.l1 k x0 x3 x4 x5 (([] : List Int)) x5)) else (none)) else (none)) else (some x3)
def spec_l6Cycles.l1 : Nat → List Int → List (List Int) → List Bool → Int → List Int → Int → Option ((List (List Int)))
 | 0, _, _, _, _, _, _ => none
 | k + 1, x0, x3, x4, x5, x6, x7 => if 0 ≤ x7 then (if x7 < (x4.length : Int) then (if rdOf false x4 x7 = true then (if x3.length < 5864062014805 then (spec_l6Cycles.l0 k x0 (x3 ++ [x6]) x4 (wrap64 (x5 + 1))) else (none)) else (if x6.length < 17592186044416 then (if x7 < (x0.length : Int) then (spec_l6Cycles.l1 k x0 x3 (x4.set (x7 : Int).toNat true) x5 (x6 ++ [x7]) (rd x0 x7)) else (none)) else (none))) else (none)) else (none)
end
def spec_l6Cycles.f (k : Nat) (l0 : List Int) : Option ((List (List Int))) := if 0 ≤ (l0.length : Int) then (if ((l0.length : Int) : Int).toNat ≤ 281474976710656 then (spec_l6Cycles.l0 k l0 (([] : List (List Int))) (List.replicate ((l0.length : Int) : Int).toNat false) 0) else (none)) else (none)
theorem spec_l6Cycles.mono_l : ∀ k, (∀ y0 y1 y2 y3, LeO (spec_l6Cycles.l0 k y0 y1 y2 y3) (spec_l6Cycles.l0 (k + 1) y0 y1 y2 y3)) ∧ (∀ y0 y1 y2 y3 y4 y5, LeO (spec_l6Cycles.l1 k y0 y1 y2 y3 y4 y5) (spec_l6Cycles.l1 (k + 1) y0 y1 y2 y3 y4 y5))
 | 0 => ⟨fun _ _ _ _ r h => by simp [spec_l6Cycles.l0] at h, fun _ _ _ _ _ _ r h => by simp [spec_l6Cycles.l1] at h⟩
 | k + 1 => by
  obtain ⟨ih0, ih1⟩ := spec_l6Cycles.mono_l k
  refine ⟨?_, ?_⟩
  ·intro y0 y1 y2 y3
   unfold spec_l6Cycles.l0
   exact mM2 ih0 ih1
  ·intro y0 y1 y2 y3 y4 y5
   unfold spec_l6Cycles.l1
   exact mM2 ih0 ih1
theorem spec_l6Cycles.mono : ∀ a0 k, LeO (spec_l6Cycles.f k a0) (spec_l6Cycles.f (k + 1) a0) := by
 intro a0 k
 obtain ⟨ih0, ih1⟩ := spec_l6Cycles.mono_l k
 unfold spec_l6Cycles.f
 exact mM2 ih0 ih1
set_option maxHeartbeats 8000000 in
set_option maxRecDepth 100000 in
theorem spec_l6Cycles.calls (k : Nat) (A0 : Option Addr) (c0 : Nat) (l0 : List Int) (r : List (List Int)) (w : World) (hr0 : Kd.C (Kd.int .i64) w A0 l0.length l0) (hc0 : l0.length ≤ c0) (h : spec_l6Cycles.f k l0 = some r) :
  Calls Try.prog 38 #[.slice A0 l0.length c0] w fun e w' => ∃ v0_ : Value, e = .returned (v0_) ∧ Kd.S (Kd.slice 3 (Kd.int .i64)) 30 w' w.heap.size (fun _ => True) v0_ r ∧ Below w.heap.size w w' := by
 have HR0 := Aside0.mk hr0
 have HC0 := Aside0.mk hc0
 clear hr0 hc0
 have HB := Aside0.mk (Below.refl w.heap.size w)
 have H : (if 0 ≤ (l0.length : Int) then (if ((l0.length : Int) : Int).toNat ≤ 281474976710656 then (spec_l6Cycles.l0 k l0 (([] : List (List Int))) (List.replicate ((l0.length : Int) : Int).toNat false) 0) else (none)) else (none)) = some r := h
 clear h
 generalize hy398 : (([] : List (List Int)) : List (List Int)) = y398 at H
 have Ny398 := Aside0.mk hy398.symm; clear hy398
 by_cases c2 : 0 ≤ (l0.length : Int)
 ·rw [if_pos c2] at H
  have c2b0 := eq_true c2
  have c2b1 : decide (0 ≤ (l0.length : Int)) = true := decide_eq_true c2
  clear c2
  obtain ⟨c3, H⟩ := gd H
  have c3b0 := eq_true c3
  have c3b1 : decide (((l0.length : Int) : Int).toNat ≤ 281474976710656) = true := decide_eq_true c3
  clear c3
  generalize hy401 : (List.replicate ((l0.length : Int) : Int).toNat false : List Bool) = y401 at H
  have Ny401 := Aside0.mk hy401.symm; clear hy401
  have H' := Aside0.mk H
  clear H
  go_enter Try.func38, Try.ntmps38
  go_wp2_with (first | ((with_reducible refine gate_dst (N := 8) rfl ?_); refine Kd.S_lit (Kd.slice 3 (Kd.int .i64)) _ 30 ?hg (N := 8) ?hd (xs := ([] : List (List Int))) (inner := []) (ok := fun _ => True) (okp := fun _ => True) ?hr ?hp (fun _ hk => hk) trivial (Below.refl _ _) (Nat.le_refl _) (by simp) ?_; (case hd => rfl); (case hg => rfl); (case hr => exact gS); (case hp => exact (Reps.none _ _)); intro v399 w4 ho5 hb hg_ hnew_; clear hg_ hnew_; (first | rw [← Ny398.out] at ho5 | (simp only [Int.reduceToNat] at ho5; rw [← Ny398.out] at ho5)); have HO400 := Aside0.mk (Kd.S_lower ho5 (below_size tb)); replace HB := Aside0.mk (below_step tb hb); clear hb ho5) | ((with_reducible refine gate_dst (N := 11) rfl ?_); refine Kd.R_make Kd.bool _ 4 rfl (N := 11) rfl 81 _ _ rfl (l0.length : Int) rfl rfl Try.underlying81 (.bool false) 1 info4 rfl (by decide) (by omega) false (ok := fun _ => True) (okp := fun _ => True) rfl (fun _ hk => hk) trivial dT (Nat.le_trans (Nat.mul_le_mul_right _ (dT : (l0.length : Int).toNat ≤ 281474976710656)) (by omega)) (Below.refl _ _) (Nat.le_refl _) ?_; intro v402 w6 ho7 hb hg_ hnew_; clear hg_ hnew_; (first | rw [← Ny401.out] at ho7 | (simp only [Int.reduceToNat] at ho7; rw [← Ny401.out] at ho7)); replace HO400 := Aside0.mk (sB HO400.out hb); have HO403 := Aside0.mk (Kd.R_lower ho7 (below_size tb)); replace HB := Aside0.mk (below_step tb hb); clear hb ho7))
  go_loopg [3, 5] k (fun kq v3 v5 w' => ∃ (x3_1 : List (List Int)) (x4_1 : List Bool) (x5_1 : Int), v5 = .int .i64 x5_1 ∧ Aside0 (spec_l6Cycles.l0 kq l0 x3_1 x4_1 x5_1 = some r) ∧ Aside0 (kq ≤ k) ∧ Aside0 (Kd.S (Kd.slice 3 (Kd.int .i64)) 30 w' w.heap.size (fun _ => True) v3 x3_1) ∧ Aside0 (Kd.R Kd.bool 4 w' w.heap.size (fun _ => True) v402 x4_1) ∧ Aside0 (Below w.heap.size w w'))
  case atStart => exact ⟨(y398), (y401), (0), rS, H', ⟨Nat.le_refl _⟩, ⟨S_l HO400.out⟩, ⟨R_l HO403.out⟩, ⟨tb⟩⟩
  case round =>
   clear H'
   try clear c2
   try clear c2b0
   try clear c2b1
   try clear p2
   try clear c3
   try clear c3b0
   try clear c3b1
   obtain ⟨x3_1, x4_1, x5_1, rfl, HA, HK1, HO_3, HO_4, HB⟩ := hrel
   cases gk with
   | zero => exact absurd HA.out (by simp [spec_l6Cycles.l0])
   | succ k1 =>
    have H := HA.out
    clear HA
    simp only [spec_l6Cycles.l0] at H
    obtain ⟨c8b0, H⟩ | ⟨c8b0, H⟩ := gi H
    ·obtain ⟨c9b0, H⟩ := gdt H
     obtain ⟨c10b0, H⟩ := gdt H
     obtain ⟨bq11, hbq11⟩ : ∃ b_ : Bool, b_ = (rdOf false x4_1 x5_1) := ⟨_, rfl⟩
     replace H : (if bq11 = true then (spec_l6Cycles.l0 k1 l0 x3_1 x4_1 (wrap64 (x5_1 + 1))) else (spec_l6Cycles.l1 k1 l0 x3_1 x4_1 x5_1 (([] : List Int)) x5_1)) = some r := by rw [← hbq11] at H; exact H
     have Nbq11 := Aside0.mk hbq11
     clear hbq11
     by_cases c12 : bq11 = true
     ·subst c12
      rw [if_pos rfl] at H
      have H' := Aside0.mk H
      clear H
      obtain ⟨Ao13, co13, eo13⟩ := Kd.R_slice HO_4.out
      subst eo13
      have p404 : 0 ≤ (x5_1 : Int) := dT
      have q404 : x5_1 < (x4_1.length : Int) := dT
      obtain ⟨ad404, e404, hx404_0⟩ := Kd.at_bool (Kd.R_reads' HO_4.out).2.2 x5_1 p404 q404
      (try rw [← Nbq11.out] at hx404_0)
      cases e404
      replace p404 := eq_true p404
      replace q404 := eq_true q404
      go_wp2
      go_roundg k1
      case measure => exact oK
      case rel => exact ⟨(x3_1), (x4_1), (wrap64 (x5_1 + 1)), rS, H', ⟨oK⟩, ⟨S_l HO_3.out⟩, ⟨R_l HO_4.out⟩, ⟨tb⟩⟩
     ·replace c12 := Bool.eq_false_iff.mpr c12
      subst c12
      rw [if_neg (show ¬ (false = true) by decide)] at H
      generalize hy405 : (([] : List Int) : List Int) = y405 at H
      have Ny405 := Aside0.mk hy405.symm; clear hy405
      have H' := Aside0.mk H
      clear H
      obtain ⟨Ao14, co14, eo14⟩ := Kd.R_slice HO_4.out
      subst eo14
      have p404 : 0 ≤ (x5_1 : Int) := dT
      have q404 : x5_1 < (x4_1.length : Int) := dT
      obtain ⟨ad404, e404, hx404_0⟩ := Kd.at_bool (Kd.R_reads' HO_4.out).2.2 x5_1 p404 q404
      (try rw [← Nbq11.out] at hx404_0)
      cases e404
      replace p404 := eq_true p404
      replace q404 := eq_true q404
      go_wp2_with (first | ((with_reducible refine gate_dst (N := 22) rfl ?_); refine Kd.R_lit (Kd.int .i64) _ 3 ?hg (N := 22) ?hd (xs := ([] : List Int)) (inner := []) (ok := fun _ => True) (okp := fun _ => True) ?hr ?hp (fun _ hk => hk) trivial (Below.refl _ _) (Nat.le_refl _) (by simp) ?_; (case hd => rfl); (case hg => rfl); (case hr => exact gS); (case hp => exact (Reps.none _ _)); intro v406 w15 ho16 hb hg_ hnew_; clear hg_ hnew_; (first | rw [← Ny405.out] at ho16 | (simp only [Int.reduceToNat] at ho16; rw [← Ny405.out] at ho16)); replace HO_3 := Aside0.mk (Kd.S_elder' (S_l HO_3.out) (Kd.R_base ho16) hb); replace HO_4 := Aside0.mk (rB HO_4.out hb); have HO407 := Aside0.mk (Kd.R_lower ho16 (below_size tb)); replace HB := Aside0.mk (below_step tb hb); clear hb ho16))
      go_loopg [6, 7] k1 (fun kq v6 v7 w' => ∃ (x4_2 : List Bool) (x6_2 : List Int) (x7_2 : Int), v7 = .int .i64 x7_2 ∧ Aside0 (spec_l6Cycles.l1 kq l0 x3_1 x4_2 x5_1 x6_2 x7_2 = some r) ∧ Aside0 (kq ≤ k1) ∧ Aside0 (Kd.S (Kd.slice 3 (Kd.int .i64)) 30 w' w.heap.size (fun k_ => some k_ ≠ (v6 : Value).ownBlock) u3 x3_1) ∧ Aside0 (Kd.R Kd.bool 4 w' w.heap.size (fun _ => True) (.slice (some ad404) x4_1.length co14) x4_2) ∧ Aside0 (Kd.R (Kd.int .i64) 3 w' w.heap.size (fun _ => True) v6 x6_2) ∧ Aside0 (Below w.heap.size w w'))
      case atStart => exact ⟨(x4_1), (y405), (x5_1), rS, H', ⟨Nat.le_refl _⟩, ⟨S_l (Kd.S_mono HO_3.out (fun _ hk => hk.2))⟩, ⟨R_l HO_4.out⟩, ⟨R_l HO407.out⟩, ⟨tb⟩⟩
      case round =>
       clear H'
       try clear c1
       try clear q1
       try clear c2
       try clear c2b0
       try clear c2b1
       try clear p2
       try clear c3
       try clear c3b0
       try clear c3b1
       try clear p4
       try clear q4
       try clear hx4
       try clear p6
       try clear c8
       try clear c8b0
       try clear c9
       try clear c9b0
       try clear c10
       try clear c10b0
       try clear q11
       try clear c12
       try clear hx404_0
       try clear p2
       try clear p404
       try clear q404
       obtain ⟨x4_2, x6_2, x7_2, rfl, HA, HK2, HO_3, HO_4, HO_6, HB⟩ := hrel
       have hl4_2 := (Kd.R_reads' HO_4.out).1
       rw [hl4_2] at HO_4
       (try simp only [hl4_2])
       (try simp only [hl4_2] at HO_3)
       (try simp only [hl4_2] at HO_6)
       cases gk with
       | zero => exact absurd HA.out (by simp [spec_l6Cycles.l1])
       | succ k2 =>
        have H := HA.out
        clear HA
        simp only [spec_l6Cycles.l1] at H
        obtain ⟨c17b0, H⟩ := gdt H
        obtain ⟨c18b0, H⟩ := gdt H
        obtain ⟨bq19, hbq19⟩ : ∃ b_ : Bool, b_ = (rdOf false x4_2 x7_2) := ⟨_, rfl⟩
        replace H : (if bq19 = true then (if x3_1.length < 5864062014805 then (spec_l6Cycles.l0 k2 l0 (x3_1 ++ [x6_2]) x4_2 (wrap64 (x5_1 + 1))) else (none)) else (if x6_2.length < 17592186044416 then (if x7_2 < (l0.length : Int) then (spec_l6Cycles.l1 k2 l0 x3_1 (x4_2.set (x7_2 : Int).toNat true) x5_1 (x6_2 ++ [x7_2]) (rd l0 x7_2)) else (none)) else (none))) = some r := by rw [← hbq19] at H; exact H
        have Nbq19 := Aside0.mk hbq19
        clear hbq19
        by_cases c20 : bq19 = true
        ·subst c20
         rw [if_pos rfl] at H
         obtain ⟨LMc21, H⟩ := gda H
         generalize hy409 : (x3_1 ++ [x6_2] : List (List Int)) = y409 at H
         have Ny409 := Aside0.mk hy409.symm; clear hy409
         have H' := Aside0.mk H
         clear H
         have p408 : 0 ≤ (x7_2 : Int) := dT
         have q408 : x7_2 < (x4_2.length : Int) := dT
         obtain ⟨ad408, e408, hx408_0⟩ := Kd.at_bool (Kd.R_reads' HO_4.out).2.2 x7_2 p408 q408
         (try rw [← Nbq11.out] at hx408_0)
         (try rw [← Nbq19.out] at hx408_0)
         obtain rfl : ad404 = ad408 := (by injection e408)
         replace p408 := eq_true p408
         replace q408 := eq_true q408
         obtain ⟨Ao23, co23, eo23⟩ := Kd.R_slice HO_6.out
         subst eo23
         go_wp2_with (first | ((with_reducible refine gate_builtin (b := .append) (xs := #[.tmp 40, .tmp 42]) rfl ?_); at_builtin; refine Kd.S_append (Kd.slice 3 (Kd.int .i64)) (w0 := w) w.heap.size rfl (.tmp 40) (.tmp 42) 24 30 (.slice none 0 0) 24 rfl Try.underlying24 info30 rfl (by decide) (by omega) u3 x3_1 x6_2 [.slice Ao23 x6_2.length co23] (fun _ => True) (fun k_ => some k_ = (.slice Ao23 x6_2.length co23 : Value).ownBlock) rfl rfl ?aP (fun k_ hk_ => ((Kd.R_mono (ok' := fun k_ => ((fun _ => True)) k_ ∧ some k_ ≠ (u3 : Value).ownBlock) (Kd.R_apart' (HO_6.out) (Kd.S_typed HO_3.out) (by decide)) (fun k_ hk => ⟨trivial, hk.2⟩))).1 k_ hk_.symm) ?aF ?aO ?aB ?aS ?aL ?_; (case aP => exact Kd.M_row (Kd.R_mono (Kd.R_tight rfl (Kd.R_mono (ok' := fun k_ => ((fun _ => True)) k_ ∧ some k_ ≠ (u3 : Value).ownBlock) (Kd.R_apart' (HO_6.out) (Kd.S_typed HO_3.out) (by decide)) (fun k_ hk => ⟨trivial, hk.2⟩))) (fun _ h_ => h_))); (case aB => exact tb); (case aF => exact (fun _ _ => trivial)); (case aO => exact (S_l (Kd.S_mono HO_3.out (fun k_ hk => ⟨trivial, fun e_ => hk e_⟩)))); (case aS => exact (below_size tb)); (case aL => have := LMc21.out; omega); intro v410 w22 ho hb hg hat; rw [← Ny409.out] at ho; replace HO_4 := Aside0.mk (Kd.R_over' (R_l HO_4.out) (Kd.S_typed (S_l HO_3.out)) (by decide) hg); replace HB := Aside0.mk (hb); have HO411 := Aside0.mk (ho); clear HO_3 HO_6; clear ho hb hg hat))
         (try simp only [← hl4_2])
         go_roundg k2
         case measure => exact oK
         case rel => exact ⟨(y409), (x4_2), (wrap64 (x5_1 + 1)), rS, H', ⟨oK⟩, ⟨by (try simp only [hl4_2]); (with_reducible repeat (first | apply Kd.S_alloc | apply Kd.S_drewN | apply Kd.S_drew)); exact HO411.out⟩, ⟨by (try simp only [hl4_2]); (with_reducible repeat (first | apply Kd.R_alloc | apply Kd.R_drewN | apply Kd.R_drew)); exact HO_4.out⟩, ⟨tb⟩⟩
        ·replace c20 := Bool.eq_false_iff.mpr c20
         subst c20
         rw [if_neg (show ¬ (false = true) by decide)] at H
         generalize hy412 : (x4_2.set (x7_2 : Int).toNat true : List Bool) = y412 at H
         have Ny412 := Aside0.mk hy412.symm; clear hy412
         obtain ⟨LMc25, H⟩ := gda H
         generalize hy413 : (x6_2 ++ [x7_2] : List Int) = y413 at H
         have Ny413 := Aside0.mk hy413.symm; clear hy413
         obtain ⟨c26b0, H⟩ := gdt H
         have H' := Aside0.mk H
         clear H
         have p408 : 0 ≤ (x7_2 : Int) := dT
         have q408 : x7_2 < (x4_2.length : Int) := dT
         obtain ⟨ad408, e408, hx408_0⟩ := Kd.at_bool (Kd.R_reads' HO_4.out).2.2 x7_2 p408 q408
         (try rw [← Nbq11.out] at hx408_0)
         (try rw [← Nbq19.out] at hx408_0)
         obtain rfl : ad404 = ad408 := (by injection e408)
         replace p408 := eq_true p408
         replace q408 := eq_true q408
         have p24 : 0 ≤ (x7_2 : Int) := dT
         have q24 : (x7_2 : Int) < ((x4_2.length : Int) : Int) := dT
         obtain ⟨go24, co24, eo24, gb24, gl24, cl24, HG24⟩ := Kd.R_form HO_4.out (by omega)
         (first | cases eo24 | (injection eo24 with ea_ en_ ec_; (first | subst ea_ | (injection ea_ with ea_; subst ea_)); subst ec_; clear en_))
         (try simp only [add_plain] at *)
         have GB24 := Aside0.mk gb24
         have GG24 := Aside0.mk HG24
         clear gb24 gl24 HG24
         (first | simp only [add_plain] at hx404_0 | skip)
         (first | simp only [add_plain] at hx408_0 | skip)
         obtain ⟨hx24_0, hf24_0⟩ := Kd.R_celln false HO_4.out (x7_2 : Int) p24 q24
         replace p24 := eq_true p24
         replace q24 := eq_true q24
         have HP27 := Kd.R_putg HO_4.out (x7_2 : Int) true
         go_wp2_with (first | ((with_reducible refine gate_store (t := 4) (p := 35) rfl ?_); refine store_event (t := 4) (p := 35) (v := ?vo_w28) (w1 := (wr.setCell ⟨go24, (x7_2 : Int).toNat, none⟩ (.bool true))) ?hg ?ho ?hn ?hr ?_; (case ho => rfl); (case hg => rfl); (case hn => rfl); (case hr => exact gS); intro w28 hw; have hg : wr.grownBy w28 (some go24) := (by rw [hw]; exact HP27.2); have hp_ : Kd.R Kd.bool 4 w28 w.heap.size (fun _ => True) (.slice (some ⟨go24, 0, none⟩) x4_2.length co14) y412 := (by rw [hw, Ny412.out]; exact HP27.1); clear HP27; replace HO_3 := Aside0.mk (Kd.S_over' (v := (.slice (some ⟨go24, 0, none⟩) x4_2.length co14)) (S_l HO_3.out) (Kd.R_typed HO_4.out) (by decide) hg); replace HO_6 := Aside0.mk (Kd.R_over' (v := (.slice (some ⟨go24, 0, none⟩) x4_2.length co14)) (R_l HO_6.out) (Kd.R_typed HO_4.out) (by decide) hg); replace HO_4 := Aside0.mk (hp_); replace HB := Aside0.mk ((by rw [hw]; exact below_set (HB.out) GB24.out : Below w.heap.size w w28)); clear hg hw hp_) | ((with_reducible refine gate_builtin (b := .append) (xs := #[.tmp 36, .tmp 38]) rfl ?_); at_builtin; refine Kd.R_append (Kd.int .i64) (w0 := w) w.heap.size rfl (.tmp 36) (.tmp 38) 30 3 (.int .i64 0) 8 rfl Try.underlying30 info3 rfl (by decide) (by omega) u6 x6_2 x7_2 [.int .i64 x7_2] (fun _ => True) (fun _ => False) rfl rfl ?aP (fun _ hk => hk.elim) ?aF ?aO ?aB ?aS ?aL ?_; (case aP => exact rfl); (case aB => exact tb); (case aF => exact (fun _ _ => trivial)); (case aO => exact (R_l HO_6.out)); (case aS => exact (below_size tb)); (case aL => have := LMc25.out; omega); intro v414 w29 ho hb hg hat; rw [← Ny413.out] at ho; replace HO_3 := Aside0.mk (Kd.S_after (ok := (fun _ => True)) (S_l (Kd.S_mono HO_3.out (fun _ hk => ⟨trivial, hk⟩))) hg hat); replace HO_4 := Aside0.mk (Kd.R_over' (R_l HO_4.out) (Kd.R_typed (R_l HO_6.out)) (by decide) hg); replace HB := Aside0.mk (hb); have HO415 := Aside0.mk (ho); clear HO_6; clear ho hb hg hat; have p416 : 0 ≤ (x7_2 : Int) := dT; have q416 : x7_2 < (l0.length : Int) := dT; obtain ⟨ad416, e416, hx416_0⟩ := Kd.at_int HR0.out x7_2 p416 q416; cases e416; replace hx416_0 := cB HB hx416_0; replace p416 := eq_true p416; replace q416 := eq_true q416))
         (try simp only [← hl4_2])
         go_roundg k2
         case measure => exact oK
         case rel => exact ⟨(y412), (y413), (rd l0 x7_2), rS, H', ⟨oK⟩, ⟨by (try simp only [hl4_2]); (with_reducible repeat (first | apply Kd.S_alloc | apply Kd.S_drewN | apply Kd.S_drew)); exact Kd.S_mono HO_3.out (fun _ hk => hk.2)⟩, ⟨by (try simp only [hl4_2]); (with_reducible repeat (first | apply Kd.R_alloc | apply Kd.R_drewN | apply Kd.R_drew)); exact HO_4.out⟩, ⟨by (try simp only [hl4_2]); (with_reducible repeat (first | apply Kd.R_alloc | apply Kd.R_drewN | apply Kd.R_drew)); exact HO415.out⟩, ⟨tb⟩⟩
    ·obtain rfl := Option.some.inj H
     go_wp2
     go_ret
     exact ⟨_, rE, S_l HO_3.out, tb⟩
 ·rw [if_neg c2] at H
  exact absurd H (by simp)

/-! ### spec_l1Bit: function 40 -/
def spec_l1Bit.f (a0 : Bool) : Option (Int) := if a0 = true then (some 1) else (some 0)
set_option maxHeartbeats 8000000 in
set_option maxRecDepth 100000 in
theorem spec_l1Bit.calls (a0 : Bool) (r : Int) (w : World) (h : spec_l1Bit.f a0 = some r) :
  Calls Try.prog 40 #[.bool a0] w fun e w' => e = .returned (.int .i64 r) ∧ Drawn0 w w' := by
 have H : (if a0 = true then (some 1) else (some 0)) = some r := h
 clear h
 by_cases c2 : a0 = true
 ·subst c2
  rw [if_pos rfl] at H
  obtain rfl := Option.some.inj H
  go_enter Try.func40, Try.ntmps40
  go_wp2
  go_ret
  exact ⟨rS, tD⟩
 ·replace c2 := Bool.eq_false_iff.mpr c2
  subst c2
  rw [if_neg (show ¬ (false = true) by decide)] at H
  obtain rfl := Option.some.inj H
  go_enter Try.func40, Try.ntmps40
  go_wp2
  go_ret
  exact ⟨rS, tD⟩

/-! ### spec_l3Find2: function 41 -/
def spec_l3Find2.l0 : Nat → List Int → Int → Int → Option (Bool)
 | 0, _, _, _ => none
 | k + 1, x0, x1, x5 => if x5 < (x0.length : Int) then (if 0 ≤ x5 then (if (rd x0 x5) = x1 then (some true) else (spec_l3Find2.l0 k x0 x1 (wrap64 (x5 + 1)))) else (none)) else (some false)
def spec_l3Find2.f (k : Nat) (l0 : List Int) (a1 : Int) : Option (Bool) := spec_l3Find2.l0 k l0 a1 0
set_option maxHeartbeats 8000000 in
set_option maxRecDepth 100000 in
theorem spec_l3Find2.calls (k : Nat) (A0 : Option Addr) (c0 : Nat) (l0 : List Int) (a1 : Int) (r : Bool) (w : World) (hr0 : Kd.C (Kd.int .i64) w A0 l0.length l0) (hc0 : l0.length ≤ c0) (h : spec_l3Find2.f k l0 a1 = some r) :
  Calls Try.prog 41 #[.slice A0 l0.length c0, .int .i64 a1] w fun e w' => e = .returned (.bool r) ∧ Drawn0 w w' := by
 have HR0 := Aside0.mk hr0
 have HC0 := Aside0.mk hc0
 clear hr0 hc0
 have H : (spec_l3Find2.l0 k l0 a1 0) = some r := h
 clear h
 have H' := Aside0.mk H
 clear H
 go_enter Try.func41, Try.ntmps41
 go_wp2
 go_loopg [5] k (fun kq v5 w' => ∃ (x5_1 : Int), v5 = .int .i64 x5_1 ∧ Aside0 (spec_l3Find2.l0 kq l0 a1 x5_1 = some r) ∧ Aside0 (kq ≤ k) ∧ Drawn0 w w')
 case atStart => exact ⟨(0), rS, H', ⟨Nat.le_refl _⟩, tD⟩
 case round =>
  clear H'
  try clear p2
  obtain ⟨x5_1, rfl, HA, HK1, ⟨m1, rfl⟩⟩ := hrel
  cases gk with
  | zero => exact absurd HA.out (by simp [spec_l3Find2.l0])
  | succ k1 =>
   have H := HA.out
   clear HA
   simp only [spec_l3Find2.l0] at H
   obtain ⟨c3b0, H⟩ | ⟨c3b0, H⟩ := gi H
   ·obtain ⟨c4b0, H⟩ := gdt H
    by_cases c5 : (rd l0 x5_1) = a1
    ·rw [if_pos c5] at H
     have c5b0 : ((rd l0 x5_1) == a1) = true := beq_iff_eq.mpr c5
     have c5b1 : ((rd l0 x5_1) != a1) = false := bne_eq_false_iff_eq.mpr c5
     clear c5
     obtain rfl := Option.some.inj H
     have p417 : 0 ≤ (x5_1 : Int) := dT
     have q417 : x5_1 < (l0.length : Int) := dT
     obtain ⟨ad417, e417, hx417_0⟩ := Kd.at_int HR0.out x5_1 p417 q417
     cases e417
     replace p417 := eq_true p417
     replace q417 := eq_true q417
     go_wp2
     go_ret
     exact ⟨rS, tD⟩
    ·rw [if_neg c5] at H
     have c5b0 : ((rd l0 x5_1) == a1) = false := beq_eq_false_iff_ne.mpr c5
     have c5b1 : ((rd l0 x5_1) != a1) = true := bne_iff_ne.mpr c5
     have H' := Aside0.mk H
     clear H
     have p417 : 0 ≤ (x5_1 : Int) := dT
     have q417 : x5_1 < (l0.length : Int) := dT
     obtain ⟨ad417, e417, hx417_0⟩ := Kd.at_int HR0.out x5_1 p417 q417
     cases e417
     replace p417 := eq_true p417
     replace q417 := eq_true q417
     go_wp2
     go_roundg k1
     case measure => exact oK
     case rel => exact ⟨(wrap64 (x5_1 + 1)), rS, H', ⟨oK⟩, tD⟩
   ·obtain rfl := Option.some.inj H
    go_wp2
    go_ret
    exact ⟨rS, tD⟩

end Go.Proofs.Ytepogblkmiidnaa.PFnCovers
