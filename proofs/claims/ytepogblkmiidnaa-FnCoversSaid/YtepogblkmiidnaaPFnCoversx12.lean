import Derived.Test.YtepogblkmiidnaaWSpanB
import Derived.Test.YtepogblkmiidnaaPFnCoversx0
import Derived.Test.YtepogblkmiidnaaPFnCoversx10
import Derived.Test.YtepogblkmiidnaaPFnCoversx11
namespace Go.Proofs.Ytepogblkmiidnaa.PFnCovers
open Go.RowKit Go.Proofs.YtepogblkmiidnaaW.PrintWords Go.Proofs.YtepogblkmiidnaaW.PrintLast Go.Proofs.YtepogblkmiidnaaW.PrintMore
attribute [local go_sem] max2_int min2_int max_two min_two max_three min_three max_four min_four   -- for this text's walks alone
set_option linter.unusedVariables false
set_option linter.unusedSimpArgs false

/-! ### spec_l9Parts: function 37 -/
mutual
def spec_l9Parts.l0 : Nat → List (List Int) → List Int → Int → Option ((List (List Int)))
 | 0, _, _, _ => none
 | k + 1, x0, x3, x4 => if 0 < (x0.length : Int) then (if x4 < ((rd_L2 x0 0).length : Int) then (if x3.length < 17592186044416 then (spec_l9Parts.l0 k x0 (x3 ++ [x4]) (wrap64 (x4 + 1))) else (none)) else (spec_l9Parts.l1 k x0 x3 0)) else (none)
def spec_l9Parts.l1 : Nat → List (List Int) → List Int → Int → Option ((List (List Int)))
 | 0, _, _, _ => none
 | k + 1, x0, x3, x5 => if x5 < (x0.length : Int) then (spec_l9Parts.l2 k x0 x3 x5 0) else (spec_l9Parts.l3 k x3 (([] : List (List Int))) 0)
def spec_l9Parts.l2 : Nat → List (List Int) → List Int → Int → Int → Option ((List (List Int)))
 | 0, _, _, _, _ => none
 | k + 1, x0, x3, x5, x6 => if x6 < (x3.length : Int) then ((spec_l3Find.f k x3 x6).bind fun t377 => (if 0 ≤ x5 then (if x5 < (x0.length : Int) then (if 0 ≤ x6 then (if x6 < ((rd_L2 x0 x5).length : Int) then ((spec_l3Find.f k x3 (rd (rd_L2 x0 x5) x6)).bind fun t380 => ((spec_l1Max.f t377 t380).bind fun t381 => ((spec_l1Min.f t377 t380).bind fun t382 => (if 0 ≤ t381 then (if t381 < (x3.length : Int) then (spec_l9Parts.l2 k x0 (x3.set (t381 : Int).toNat t382) x5 (wrap64 (x6 + 1))) else (none)) else (none))))) else (none)) else (none)) else (none)) else (none))) else (spec_l9Parts.l1 k x0 x3 (wrap64 (x5 + 1)))
def spec_l9Parts.l3 : Nat → List Int → List (List Int) → Int → Option ((List (List Int)))
 | 0, _, _, _ => none
 | k + 1, x3, x9, x10 => if x10 < (x3.length : Int) then (if 0 ≤ x10 then (if (rd x3 x10) = x10 then (spec_l9Parts.l4 k x3 x9 x10 (([] : List Int)) 0) else (spec_l9Parts.l3 k x3 x9 (wrap64 (x10 + 1)))) else (none)) else (some x9)
def spec_l9Parts.l4 : Nat → List Int → List (List Int) → Int → List Int → Int → Option ((List (List Int)))
 | 0, _, _, _, _, _ => none
 | k + 1, x3, x9, x10, x11, x12 => if x12 < (x3.length : Int) then ((spec_l3Find.f k x3 x12).bind fun t391 => (if t391 = x10 then (if x11.length < 17592186044416 then (spec_l9Parts.l4 k x3 x9 x10 (x11 ++ [x12]) (wrap64 (x12 + 1))) else (none)) else (spec_l9Parts.l4 k x3 x9 x10 x11 (wrap64 (x12 + 1))))) else (if x9.length < 5864062014805 then (spec_l9Parts.l3 k x3 (x9 ++ [x11]) (wrap64 (x10 + 1))) else (none))
end
def spec_l9Parts.f (k : Nat) (l0 : List (List Int)) : Option ((List (List Int))) := spec_l9Parts.l0 k l0 (([] : List Int)) 0
set_option maxHeartbeats 8000000 in
set_option maxRecDepth 100000 in
theorem spec_l9Parts.calls (k : Nat) (A0 : Option Addr) (c0 : Nat) (l0 : List (List Int)) (r : List (List Int)) (w : World) (hr0 : Kd.C (Kd.slice 3 (Kd.int .i64)) w A0 l0.length l0) (hc0 : l0.length ≤ c0) (h : spec_l9Parts.f k l0 = some r) :
  Calls Try.prog 37 #[.slice A0 l0.length c0] w fun e w' => ∃ v0_ : Value, e = .returned (v0_) ∧ Kd.S (Kd.slice 3 (Kd.int .i64)) 30 w' w.heap.size (fun _ => True) v0_ r ∧ Below w.heap.size w w' := by
 have HR0 := Aside0.mk hr0
 have HC0 := Aside0.mk hc0
 clear hr0 hc0
 have HB := Aside0.mk (Below.refl w.heap.size w)
 have H : (spec_l9Parts.l0 k l0 (([] : List Int)) 0) = some r := h
 clear h
 generalize hy370 : (([] : List Int) : List Int) = y370 at H
 have Ny370 := Aside0.mk hy370.symm; clear hy370
 have H' := Aside0.mk H
 clear H
 go_enter Try.func37, Try.ntmps37
 go_wp2_with (first | ((with_reducible refine gate_dst (N := 13) rfl ?_); refine Kd.R_lit (Kd.int .i64) _ 3 ?hg (N := 13) ?hd (xs := ([] : List Int)) (inner := []) (ok := fun _ => True) (okp := fun _ => True) ?hr ?hp (fun _ hk => hk) trivial (Below.refl _ _) (Nat.le_refl _) (by simp) ?_; (case hd => rfl); (case hg => rfl); (case hr => exact gS); (case hp => exact (Reps.none _ _)); intro v371 w2 ho3 hb hg_ hnew_; clear hg_ hnew_; (first | rw [← Ny370.out] at ho3 | (simp only [Int.reduceToNat] at ho3; rw [← Ny370.out] at ho3)); have HO372 := Aside0.mk (Kd.R_lower ho3 (below_size tb)); replace HB := Aside0.mk (below_step tb hb); clear hb ho3))
 go_loopg [3, 4] k (fun kq v3 v4 w' => ∃ (x3_1 : List Int) (x4_1 : Int), v4 = .int .i64 x4_1 ∧ Aside0 (spec_l9Parts.l0 kq l0 x3_1 x4_1 = some r) ∧ Aside0 (kq ≤ k) ∧ Aside0 (Kd.R (Kd.int .i64) 3 w' w.heap.size (fun _ => True) v3 x3_1) ∧ Aside0 (Below w.heap.size w w'))
 case atStart => exact ⟨(y370), (0), rS, H', ⟨Nat.le_refl _⟩, ⟨R_l HO372.out⟩, ⟨tb⟩⟩
 case round =>
  clear H'
  try clear p2
  try clear c3
  obtain ⟨x3_1, x4_1, rfl, HA, HK1, HO_3, HB⟩ := hrel
  cases gk with
  | zero => exact absurd HA.out (by simp [spec_l9Parts.l0])
  | succ k1 =>
   have H := HA.out
   clear HA
   simp only [spec_l9Parts.l0] at H
   by_cases c4 : 0 < (l0.length : Int)
   ·rw [if_pos c4] at H
    have c4b0 : decide (0 < (l0.length : Int)) = true := decide_eq_true c4
    have c4b1 : decide (0 < l0.length) = true := decide_eq_true (by omega)
    clear c4
    obtain ⟨c5b0, H⟩ | ⟨c5b0, H⟩ := gi H
    ·obtain ⟨LMc6, H⟩ := gda H
     generalize hy374 : (x3_1 ++ [x4_1] : List Int) = y374 at H
     have Ny374 := Aside0.mk hy374.symm; clear hy374
     have H' := Aside0.mk H
     clear H
     have p373 : 0 ≤ (0 : Int) := (by omega)
     have q373 : 0 < (l0.length : Int) := dT
     obtain ⟨ad373, A373_0, c373_0, e373, hx373_0, hl373_0, hi373_0⟩ := at_L2 HR0.out 0 p373 q373
     cases e373
     have qi373 : (0 < l0.length) = True := eq_true (by omega)
     (try rw [show ((0 : Int)).toNat = 0 from rfl] at hx373_0)
     (try rw [Addr.add_zero'] at hx373_0)
     replace hx373_0 := cB HB hx373_0
     have HR373_0 := Aside0.mk hi373_0
     have HC373_0 := Aside0.mk hl373_0
     clear hi373_0 hl373_0
     replace p373 := eq_true p373
     replace q373 := eq_true q373
     go_wp2_with (first | ((with_reducible refine gate_builtin (b := .append) (xs := #[.tmp 22, .tmp 24]) rfl ?_); at_builtin; refine Kd.R_append (Kd.int .i64) (w0 := w) w.heap.size rfl (.tmp 22) (.tmp 24) 30 3 (.int .i64 0) 8 rfl Try.underlying30 info3 rfl (by decide) (by omega) u3 x3_1 x4_1 [.int .i64 x4_1] (fun _ => True) (fun _ => False) rfl rfl ?aP (fun _ hk => hk.elim) ?aF ?aO ?aB ?aS ?aL ?_; (case aP => exact rfl); (case aB => exact tb); (case aF => exact (fun _ _ => trivial)); (case aO => exact (R_l HO_3.out)); (case aS => exact (below_size tb)); (case aL => have := LMc6.out; omega); intro v375 w7 ho hb hg hat; rw [← Ny374.out] at ho; replace HB := Aside0.mk (hb); have HO376 := Aside0.mk (ho); clear HO_3; clear ho hb hg hat))
     go_roundg k1
     case measure => exact oK
     case rel => exact ⟨(y374), (wrap64 (x4_1 + 1)), rS, H', ⟨oK⟩, ⟨R_l HO376.out⟩, ⟨tb⟩⟩
    ·have H' := Aside0.mk H
     clear H
     have p373 : 0 ≤ (0 : Int) := (by omega)
     have q373 : 0 < (l0.length : Int) := dT
     obtain ⟨ad373, A373_0, c373_0, e373, hx373_0, hl373_0, hi373_0⟩ := at_L2 HR0.out 0 p373 q373
     cases e373
     have qi373 : (0 < l0.length) = True := eq_true (by omega)
     (try rw [show ((0 : Int)).toNat = 0 from rfl] at hx373_0)
     (try rw [Addr.add_zero'] at hx373_0)
     replace hx373_0 := cB HB hx373_0
     have HR373_0 := Aside0.mk hi373_0
     have HC373_0 := Aside0.mk hl373_0
     clear hi373_0 hl373_0
     replace p373 := eq_true p373
     replace q373 := eq_true q373
     go_wp2
     go_loopg [5] k1 (fun kq v5 w' => ∃ (x3_2 : List Int) (x5_2 : Int), v5 = .int .i64 x5_2 ∧ Aside0 (spec_l9Parts.l1 kq l0 x3_2 x5_2 = some r) ∧ Aside0 (kq ≤ k1) ∧ Aside0 (Kd.R (Kd.int .i64) 3 w' w.heap.size (fun _ => True) u3 x3_2) ∧ Aside0 (Below w.heap.size w w'))
     case atStart => exact ⟨(x3_1), (0), rS, H', ⟨Nat.le_refl _⟩, ⟨R_l HO_3.out⟩, ⟨tb⟩⟩
     case round =>
      clear H'
      try clear p2
      try clear c3
      try clear p3
      try clear q3
      try clear hx3
      try clear qi3
      try clear c4
      try clear c4b0
      try clear c4b1
      try clear c5
      try clear c5b0
      try clear c6
      try clear p6
      try clear hx373_0
      try clear p2
      try clear p373
      try clear q373
      obtain ⟨x3_2, x5_2, rfl, HA, HK2, HO_3, HB⟩ := hrel
      cases gk with
      | zero => exact absurd HA.out (by simp [spec_l9Parts.l1])
      | succ k2 =>
       have H := HA.out
       clear HA
       simp only [spec_l9Parts.l1] at H
       obtain ⟨c8b0, H⟩ | ⟨c8b0, H⟩ := gi H
       ·have H' := Aside0.mk H
        clear H
        go_wp2
        go_loopg [6] k2 (fun kq v6 w' => ∃ (x3_3 : List Int) (x6_3 : Int), v6 = .int .i64 x6_3 ∧ Aside0 (spec_l9Parts.l2 kq l0 x3_3 x5_2 x6_3 = some r) ∧ Aside0 (kq ≤ k2) ∧ Aside0 (Kd.R (Kd.int .i64) 3 w' w.heap.size (fun _ => True) u3 x3_3) ∧ Aside0 (Below w.heap.size w w'))
        case atStart => exact ⟨(x3_2), (0), rS, H', ⟨Nat.le_refl _⟩, ⟨R_l HO_3.out⟩, ⟨tb⟩⟩
        case round =>
         clear H'
         try clear p2
         try clear c3
         try clear p3
         try clear q3
         try clear hx3
         try clear qi3
         try clear c4
         try clear c4b0
         try clear c4b1
         try clear c5
         try clear c5b0
         try clear c6
         try clear p6
         try clear c8
         try clear c8b0
         try clear hx373_0
         try clear p2
         try clear p3
         try clear p373
         try clear p6
         try clear q3
         try clear q373
         obtain ⟨x3_3, x6_3, rfl, HA, HK3, HO_3, HB⟩ := hrel
         cases gk with
         | zero => exact absurd HA.out (by simp [spec_l9Parts.l2])
         | succ k3 =>
          have H := HA.out
          clear HA
          simp only [spec_l9Parts.l2] at H
          obtain ⟨c9b0, H⟩ | ⟨c9b0, H⟩ := gi H
          ·obtain ⟨t377, A10, H⟩ := bs H
           obtain ⟨c11b0, H⟩ := gdt H
           obtain ⟨c12b0, H⟩ := gdt H
           obtain ⟨c13b0, H⟩ := gdt H
           obtain ⟨c14b0, H⟩ := gdt H
           obtain ⟨t380, A15, H⟩ := bs H
           obtain ⟨t381, A16, H⟩ := bs H
           obtain ⟨t382, A17, H⟩ := bs H
           obtain ⟨c18b0, H⟩ := gdt H
           obtain ⟨c19b0, H⟩ := gdt H
           generalize hy383 : (x3_3.set (t381 : Int).toNat t382 : List Int) = y383 at H
           have Ny383 := Aside0.mk hy383.symm; clear hy383
           have H' := Aside0.mk H
           clear H
           obtain ⟨Ao21, co21, eo21⟩ := Kd.R_slice HO_3.out
           subst eo21
           go_wp2_with (first | (refine gL 76 (some 40) Try.func76 #[.slice Ao21 x3_3.length co21, .int .i64 x6_3] ?_; (with_reducible refine (spec_l3Find.calls k3 _ _ x3_3 x6_3 t377 _ ?side1 ?side2 A10.out).mono ?_); (case side1 => exact C_l ((Kd.R_reads' HO_3.out).2.2)); (case side2 => exact (Kd.R_reads' HO_3.out).2.1); rintro e w' ⟨rfl, ⟨nd, rfl⟩⟩; refine ⟨_, rfl, ?_⟩; (try (rw [drewN_self wr]; generalize hq_ : World.drewN wr _ = wr; have n0_ : Aside0 (Kd.R (Kd.int .i64) 3 wr w.heap.size (fun _ => True) (.slice Ao21 x3_3.length co21) x3_3) := ⟨by rw [← hq_]; exact (R_l HO_3.out)⟩; have n1_ : Aside0 (Below w.heap.size w wr) := ⟨by rw [← hq_]; exact tb⟩; clear HO_3 HB hq_; have HO_3 := n0_; have HB := n1_; clear n0_ n1_)); have p378 : 0 ≤ (x5_2 : Int) := dT; have q378 : x5_2 < (l0.length : Int) := dT; obtain ⟨ad378, A378_0, c378_0, e378, hx378_0, hl378_0, hi378_0⟩ := at_L2 HR0.out x5_2 p378 q378; obtain rfl : ad373 = ad378 := (by injection e378); replace hx378_0 := cB HB hx378_0; have HR378_0 := Aside0.mk hi378_0; have HC378_0 := Aside0.mk hl378_0; clear hi378_0 hl378_0; replace p378 := eq_true p378; replace q378 := eq_true q378; have p379 : 0 ≤ (x6_3 : Int) := dT; have q379 : x6_3 < ((rd_L2 l0 x5_2).length : Int) := dT; obtain ⟨ad379, e379, hx379_0⟩ := Kd.at_int HR378_0.out x6_3 p379 q379; cases e379; replace hx379_0 := cB HB hx379_0; replace p379 := eq_true p379; replace q379 := eq_true q379) | (refine gL 76 (some 49) Try.func76 #[.slice Ao21 x3_3.length co21, .int .i64 (rd (rd_L2 l0 x5_2) x6_3)] ?_; (with_reducible refine (spec_l3Find.calls k3 _ _ x3_3 (rd (rd_L2 l0 x5_2) x6_3) t380 _ ?side1 ?side2 A15.out).mono ?_); (case side1 => exact C_l ((Kd.R_reads' HO_3.out).2.2)); (case side2 => exact (Kd.R_reads' HO_3.out).2.1); rintro e w' ⟨rfl, ⟨nd, rfl⟩⟩; refine ⟨_, rfl, ?_⟩; (try (rw [drewN_self wr]; generalize hq_ : World.drewN wr _ = wr; have n0_ : Aside0 (Kd.R (Kd.int .i64) 3 wr w.heap.size (fun _ => True) (.slice Ao21 x3_3.length co21) x3_3) := ⟨by rw [← hq_]; exact (R_l HO_3.out)⟩; have n1_ : Aside0 (Below w.heap.size w wr) := ⟨by rw [← hq_]; exact tb⟩; clear HO_3 HB hq_; have HO_3 := n0_; have HB := n1_; clear n0_ n1_))) | (refine gL 61 (some 53) Try.func61 #[.int .i64 t377, .int .i64 t380] ?_; (with_reducible refine (spec_l1Max.calls t377 t380 t381 _ A16.out).mono ?_); rintro e w' ⟨rfl, ⟨nd, rfl⟩⟩; refine ⟨_, rfl, ?_⟩; (try (rw [drewN_self wr]; generalize hq_ : World.drewN wr _ = wr; have n0_ : Aside0 (Kd.R (Kd.int .i64) 3 wr w.heap.size (fun _ => True) (.slice Ao21 x3_3.length co21) x3_3) := ⟨by rw [← hq_]; exact (R_l HO_3.out)⟩; have n1_ : Aside0 (Below w.heap.size w wr) := ⟨by rw [← hq_]; exact tb⟩; clear HO_3 HB hq_; have HO_3 := n0_; have HB := n1_; clear n0_ n1_))) | (refine gL 77 (some 56) Try.func77 #[.int .i64 t377, .int .i64 t380] ?_; (with_reducible refine (spec_l1Min.calls t377 t380 t382 _ A17.out).mono ?_); rintro e w' ⟨rfl, ⟨nd, rfl⟩⟩; refine ⟨_, rfl, ?_⟩; (try (rw [drewN_self wr]; generalize hq_ : World.drewN wr _ = wr; have n0_ : Aside0 (Kd.R (Kd.int .i64) 3 wr w.heap.size (fun _ => True) (.slice Ao21 x3_3.length co21) x3_3) := ⟨by rw [← hq_]; exact (R_l HO_3.out)⟩; have n1_ : Aside0 (Below w.heap.size w wr) := ⟨by rw [← hq_]; exact tb⟩; clear HO_3 HB hq_; have HO_3 := n0_; have HB := n1_; clear n0_ n1_)); have p20 : 0 ≤ (t381 : Int) := dT; have q20 : (t381 : Int) < ((x3_3.length : Int) : Int) := dT; obtain ⟨go20, co20, eo20, gb20, gl20, cl20, HG20⟩ := Kd.R_form HO_3.out (by omega); (first | cases eo20 | (injection eo20 with ea_ en_ ec_; (first | subst ea_ | (injection ea_ with ea_; subst ea_)); subst ec_; clear en_)); have GB20 := Aside0.mk gb20; have GG20 := Aside0.mk HG20; clear gb20 gl20 HG20; obtain ⟨hx20_0, hf20_0⟩ := Kd.R_celln 0 HO_3.out (t381 : Int) p20 q20; replace p20 := eq_true p20; replace q20 := eq_true q20; obtain ⟨hy22_, hz22_⟩ := Kd.R_celln 0 HO_3.out (t381 : Int) dT dT; have HP22 := Kd.R_putg HO_3.out (t381 : Int) t382) | ((with_reducible refine gate_store (t := 3) (p := 57) rfl ?_); refine store_event (t := 3) (p := 57) (v := ?vo_w23) (w1 := (wr.setCell ⟨go20, (t381 : Int).toNat, none⟩ (.int .i64 t382))) ?hg ?ho ?hn ?hr ?_; (case ho => rfl); (case hg => rfl); (case hn => rfl); (case hr => exact gS); intro w23 hw; have hg : wr.grownBy w23 (some go20) := (by rw [hw]; exact HP22.2); have hp_ : Kd.R (Kd.int .i64) 3 w23 w.heap.size (fun _ => True) (.slice (some ⟨go20, 0, none⟩) x3_3.length co21) y383 := (by rw [hw, Ny383.out]; exact HP22.1); clear HP22; replace HO_3 := Aside0.mk (hp_); replace HB := Aside0.mk ((by rw [hw]; exact below_set (HB.out) GB20.out : Below w.heap.size w w23)); clear hg hw hp_))
           go_roundg k3
           case measure => exact oK
           case rel => exact ⟨(y383), (wrap64 (x6_3 + 1)), rS, H', ⟨oK⟩, ⟨R_l HO_3.out⟩, ⟨tb⟩⟩
          ·have H' := Aside0.mk H
           clear H
           obtain ⟨Ao24, co24, eo24⟩ := Kd.R_slice HO_3.out
           subst eo24
           go_wp2
           go_roundg k3
           case measure => exact oK
           case rel => exact ⟨(x3_3), (wrap64 (x5_2 + 1)), rS, H', ⟨oK⟩, ⟨R_l HO_3.out⟩, ⟨tb⟩⟩
       ·obtain ⟨y384, hy384⟩ : ∃ y_ : List (List Int), y_ = (([] : List (List Int))) := ⟨_, rfl⟩
        replace H : (spec_l9Parts.l3 k2 x3_2 y384 0) = some r := by first | (rw [hy384]; with_reducible exact H) | (have H2_ := (Option.bind_some _ _).symm.trans H; rw [hy384]; with_reducible exact H2_) | (have H2_ := (Option.bind_some _ _).symm.trans H; with_reducible exact H2_) | with_reducible exact H | (rw [hy384]; exact H) | exact H
        have Ny384 := Aside0.mk hy384
        clear hy384
        have H' := Aside0.mk H
        clear H
        go_wp2_with (first | ((with_reducible refine gate_dst (N := 58) rfl ?_); refine Kd.S_lit (Kd.slice 3 (Kd.int .i64)) _ 30 ?hg (N := 58) ?hd (xs := ([] : List (List Int))) (inner := []) (ok := fun _ => True) (okp := fun _ => True) ?hr ?hp (fun _ hk => hk) trivial (Below.refl _ _) (Nat.le_refl _) (by simp) ?_; (case hd => rfl); (case hg => rfl); (case hr => exact gS); (case hp => exact (Reps.none _ _)); intro v385 w25 ho26 hb hg_ hnew_; clear hg_ hnew_; (first | rw [← Ny384.out] at ho26 | (simp only [Int.reduceToNat] at ho26; rw [← Ny384.out] at ho26)); have HO386 := Aside0.mk (Kd.S_lower (Kd.S_new' ho26 (Kd.R_lt (R_l HO_3.out))) (below_size tb)); replace HO_3 := Aside0.mk (rB HO_3.out hb); replace HB := Aside0.mk (below_step tb hb); clear hb ho26))
        go_loopg [9, 10] k2 (fun kq v9 v10 w' => ∃ (x9_3 : List (List Int)) (x10_3 : Int), v10 = .int .i64 x10_3 ∧ Aside0 (spec_l9Parts.l3 kq x3_2 x9_3 x10_3 = some r) ∧ Aside0 (kq ≤ k2) ∧ Aside0 (Kd.R (Kd.int .i64) 3 w' w.heap.size (fun _ => True) u3 x3_2) ∧ Aside0 (Kd.S (Kd.slice 3 (Kd.int .i64)) 30 w' w.heap.size (fun k_ => some k_ ≠ (u3 : Value).ownBlock) v9 x9_3) ∧ Aside0 (Below w.heap.size w w'))
        case atStart => exact ⟨(y384), (0), rS, H', ⟨Nat.le_refl _⟩, ⟨R_l HO_3.out⟩, ⟨S_l (Kd.S_mono HO386.out (fun _ hk => hk.2))⟩, ⟨tb⟩⟩
        case round =>
         clear H'
         try clear c1
         try clear p2
         try clear q2
         try clear hx2
         try clear hf2
         try clear c3
         try clear p3
         try clear q3
         try clear hx3
         try clear qi3
         try clear c4
         try clear c4b0
         try clear c4b1
         try clear c5
         try clear c5b0
         try clear c6
         try clear p6
         try clear c7
         try clear c8
         try clear c8b0
         try clear c9
         try clear c9b0
         try clear c11
         try clear c11b0
         try clear c12
         try clear c12b0
         try clear c13
         try clear c13b0
         try clear c14
         try clear c14b0
         try clear c18
         try clear c18b0
         try clear c19
         try clear c19b0
         try clear p20
         try clear q20
         try clear hx20
         try clear hf20
         try clear hx20_0
         try clear hx373_0
         try clear hx378_0
         try clear hx379_0
         try clear p2
         try clear p20
         try clear p3
         try clear p373
         try clear p378
         try clear p379
         try clear p6
         try clear q20
         try clear q3
         try clear q373
         try clear q378
         try clear q379
         obtain ⟨x9_3, x10_3, rfl, HA, HK3, HO_3, HO_9, HB⟩ := hrel
         cases gk with
         | zero => exact absurd HA.out (by simp [spec_l9Parts.l3])
         | succ k3 =>
          have H := HA.out
          clear HA
          simp only [spec_l9Parts.l3] at H
          obtain ⟨c27b0, H⟩ | ⟨c27b0, H⟩ := gi H
          ·obtain ⟨c28b0, H⟩ := gdt H
           by_cases c29 : (rd x3_2 x10_3) = x10_3
           ·rw [if_pos c29] at H
            have c29b0 : ((rd x3_2 x10_3) == x10_3) = true := beq_iff_eq.mpr c29
            have c29b1 : ((rd x3_2 x10_3) != x10_3) = false := bne_eq_false_iff_eq.mpr c29
            clear c29
            generalize hy388 : (([] : List Int) : List Int) = y388 at H
            have Ny388 := Aside0.mk hy388.symm; clear hy388
            have H' := Aside0.mk H
            clear H
            obtain ⟨Ao30, co30, eo30⟩ := Kd.R_slice HO_3.out
            subst eo30
            have p387 : 0 ≤ (x10_3 : Int) := dT
            have q387 : x10_3 < (x3_2.length : Int) := dT
            obtain ⟨ad387, e387, hx387_0⟩ := Kd.at_int (Kd.R_reads' HO_3.out).2.2 x10_3 p387 q387
            cases e387
            replace p387 := eq_true p387
            replace q387 := eq_true q387
            go_wp2_with (first | ((with_reducible refine gate_dst (N := 71) rfl ?_); refine Kd.R_lit (Kd.int .i64) _ 3 ?hg (N := 71) ?hd (xs := ([] : List Int)) (inner := []) (ok := fun _ => True) (okp := fun _ => True) ?hr ?hp (fun _ hk => hk) trivial (Below.refl _ _) (Nat.le_refl _) (by simp) ?_; (case hd => rfl); (case hg => rfl); (case hr => exact gS); (case hp => exact (Reps.none _ _)); intro v389 w31 ho32 hb hg_ hnew_; clear hg_ hnew_; (first | rw [← Ny388.out] at ho32 | (simp only [Int.reduceToNat] at ho32; rw [← Ny388.out] at ho32)); replace HO_9 := Aside0.mk (Kd.S_elder' (S_l HO_9.out) (Kd.R_base ho32) hb); have HO390 := Aside0.mk (Kd.R_lower (Kd.R_new' ho32 (Kd.R_lt (R_l HO_3.out))) (below_size tb)); replace HO_3 := Aside0.mk (Kd.R_elder' (R_l HO_3.out) (Kd.R_base ho32) hb); replace HB := Aside0.mk (below_step tb hb); clear hb ho32))
            go_loopg [11, 12] k3 (fun kq v11 v12 w' => ∃ (x11_4 : List Int) (x12_4 : Int), v12 = .int .i64 x12_4 ∧ Aside0 (spec_l9Parts.l4 kq x3_2 x9_3 x10_3 x11_4 x12_4 = some r) ∧ Aside0 (kq ≤ k3) ∧ Aside0 (Kd.R (Kd.int .i64) 3 w' w.heap.size (fun k_ => some k_ ≠ (v11 : Value).ownBlock) (.slice (some ad387) x3_2.length co30) x3_2) ∧ Aside0 (Kd.S (Kd.slice 3 (Kd.int .i64)) 30 w' w.heap.size (fun k_ => some k_ ≠ ((.slice (some ad387) x3_2.length co30) : Value).ownBlock ∧ some k_ ≠ (v11 : Value).ownBlock) u9 x9_3) ∧ Aside0 (Kd.R (Kd.int .i64) 3 w' w.heap.size (fun k_ => some k_ ≠ ((.slice (some ad387) x3_2.length co30) : Value).ownBlock) v11 x11_4) ∧ Aside0 (Below w.heap.size w w'))
            case atStart => exact ⟨(y388), (0), rS, H', ⟨Nat.le_refl _⟩, ⟨R_l (Kd.R_mono HO_3.out (fun _ hk => hk.2))⟩, ⟨S_l HO_9.out⟩, ⟨R_l (Kd.R_mono HO390.out (fun _ hk => hk.2))⟩, ⟨tb⟩⟩
            case round =>
             clear H'
             try clear c1
             try clear c2
             try clear p2
             try clear q2
             try clear hx2
             try clear hf2
             try clear c3
             try clear p3
             try clear q3
             try clear hx3
             try clear qi3
             try clear c4
             try clear c4b0
             try clear c4b1
             try clear c5
             try clear c5b0
             try clear c6
             try clear p6
             try clear c7
             try clear c8
             try clear c8b0
             try clear c9
             try clear c9b0
             try clear c11
             try clear c11b0
             try clear c12
             try clear c12b0
             try clear c13
             try clear c13b0
             try clear c14
             try clear c14b0
             try clear c18
             try clear c18b0
             try clear c19
             try clear c19b0
             try clear p20
             try clear q20
             try clear hx20
             try clear hf20
             try clear c27
             try clear c27b0
             try clear c28
             try clear c28b0
             try clear c29
             try clear c29b0
             try clear c29b1
             try clear hx20_0
             try clear hx373_0
             try clear hx378_0
             try clear hx379_0
             try clear hx387_0
             try clear p2
             try clear p20
             try clear p3
             try clear p373
             try clear p378
             try clear p379
             try clear p387
             try clear p6
             try clear q2
             try clear q20
             try clear q3
             try clear q373
             try clear q378
             try clear q379
             try clear q387
             obtain ⟨x11_4, x12_4, rfl, HA, HK4, HO_3, HO_9, HO_11, HB⟩ := hrel
             cases gk with
             | zero => exact absurd HA.out (by simp [spec_l9Parts.l4])
             | succ k4 =>
              have H := HA.out
              clear HA
              simp only [spec_l9Parts.l4] at H
              obtain ⟨c33b0, H⟩ | ⟨c33b0, H⟩ := gi H
              ·obtain ⟨t391, A34, H⟩ := bs H
               by_cases c35 : t391 = x10_3
               ·rw [if_pos c35] at H
                have c35b0 : (t391 == x10_3) = true := beq_iff_eq.mpr c35
                have c35b1 : (t391 != x10_3) = false := bne_eq_false_iff_eq.mpr c35
                clear c35
                obtain ⟨LMc36, H⟩ := gda H
                generalize hy392 : (x11_4 ++ [x12_4] : List Int) = y392 at H
                have Ny392 := Aside0.mk hy392.symm; clear hy392
                have H' := Aside0.mk H
                clear H
                go_wp2_with (first | (refine gL 76 (some 80) Try.func76 #[.slice (some ad387) x3_2.length co30, .int .i64 x12_4] ?_; (with_reducible refine (spec_l3Find.calls k4 _ _ x3_2 x12_4 t391 _ ?side1 ?side2 A34.out).mono ?_); (case side1 => exact C_l ((Kd.R_reads' HO_3.out).2.2)); (case side2 => exact (Kd.R_reads' HO_3.out).2.1); rintro e w' ⟨rfl, ⟨nd, rfl⟩⟩; refine ⟨_, rfl, ?_⟩) | ((with_reducible refine gate_builtin (b := .append) (xs := #[.tmp 83, .tmp 85]) rfl ?_); at_builtin; refine Kd.R_append (Kd.int .i64) (w0 := w) w.heap.size rfl (.tmp 83) (.tmp 85) 30 3 (.int .i64 0) 8 rfl Try.underlying30 info3 rfl (by decide) (by omega) u11 x11_4 x12_4 [.int .i64 x12_4] (fun k_ => some k_ ≠ (.slice (some ad387) x3_2.length co30 : Value).ownBlock) (fun _ => False) rfl rfl ?aP (fun _ hk => hk.elim) ?aF ?aO ?aB ?aS ?aL ?_; (case aP => exact rfl); (case aB => exact tb); (case aF => exact (fun k_ hk => Kd.fresh' (Kd.R_lt (R_l HO_3.out)) k_ hk)); (case aO => exact (R_l HO_11.out)); (case aS => exact (below_size tb)); (case aL => have := LMc36.out; omega); intro v393 w37 ho hb hg hat; rw [← Ny392.out] at ho; replace HO_3 := Aside0.mk (Kd.R_after (ok := (fun _ => True)) (R_l (Kd.R_mono HO_3.out (fun _ hk => ⟨trivial, hk⟩))) hg hat); replace HO_9 := Aside0.mk (Kd.S_after (ok := (fun k_ => some k_ ≠ (.slice (some ad387) x3_2.length co30 : Value).ownBlock)) (S_l HO_9.out) hg hat); replace HB := Aside0.mk (hb); have HO394 := Aside0.mk (ho); clear HO_11; clear ho hb hg hat))
                go_roundg k4
                case measure => exact oK
                case rel => exact ⟨(y392), (wrap64 (x12_4 + 1)), rS, H', ⟨oK⟩, ⟨R_l (Kd.R_mono HO_3.out (fun _ hk => hk.2))⟩, ⟨S_l HO_9.out⟩, ⟨R_l HO394.out⟩, ⟨tb⟩⟩
               ·rw [if_neg c35] at H
                have c35b0 : (t391 == x10_3) = false := beq_eq_false_iff_ne.mpr c35
                have c35b1 : (t391 != x10_3) = true := bne_iff_ne.mpr c35
                have H' := Aside0.mk H
                clear H
                go_wp2_with (first | (refine gL 76 (some 80) Try.func76 #[.slice (some ad387) x3_2.length co30, .int .i64 x12_4] ?_; (with_reducible refine (spec_l3Find.calls k4 _ _ x3_2 x12_4 t391 _ ?side1 ?side2 A34.out).mono ?_); (case side1 => exact C_l ((Kd.R_reads' HO_3.out).2.2)); (case side2 => exact (Kd.R_reads' HO_3.out).2.1); rintro e w' ⟨rfl, ⟨nd, rfl⟩⟩; refine ⟨_, rfl, ?_⟩))
                go_roundg k4
                case measure => exact oK
                case rel => exact ⟨(x11_4), (wrap64 (x12_4 + 1)), rS, H', ⟨oK⟩, ⟨R_l HO_3.out⟩, ⟨S_l HO_9.out⟩, ⟨R_l HO_11.out⟩, ⟨tb⟩⟩
              ·obtain ⟨LMc38, H⟩ := gda H
               generalize hy395 : (x9_3 ++ [x11_4] : List (List Int)) = y395 at H
               have Ny395 := Aside0.mk hy395.symm; clear hy395
               have H' := Aside0.mk H
               clear H
               obtain ⟨Ao40, co40, eo40⟩ := Kd.R_slice HO_11.out
               subst eo40
               go_wp2_with (first | ((with_reducible refine gate_builtin (b := .append) (xs := #[.tmp 87, .tmp 89]) rfl ?_); at_builtin; refine Kd.S_append (Kd.slice 3 (Kd.int .i64)) (w0 := w) w.heap.size rfl (.tmp 87) (.tmp 89) 24 30 (.slice none 0 0) 24 rfl Try.underlying24 info30 rfl (by decide) (by omega) u9 x9_3 x11_4 [.slice Ao40 x11_4.length co40] (fun k_ => some k_ ≠ (.slice (some ad387) x3_2.length co30 : Value).ownBlock) (fun k_ => some k_ = (.slice Ao40 x11_4.length co40 : Value).ownBlock) rfl rfl ?aP (fun k_ hk_ => ((Kd.R_mono (ok' := fun k_ => ((fun k_ => some k_ ≠ (.slice (some ad387) x3_2.length co30 : Value).ownBlock)) k_ ∧ some k_ ≠ (u9 : Value).ownBlock) (Kd.R_apart' (HO_11.out) (Kd.S_typed HO_9.out) (by decide)) (fun k_ hk => ⟨hk.1, hk.2⟩))).1 k_ hk_.symm) ?aF ?aO ?aB ?aS ?aL ?_; (case aP => exact Kd.M_row (Kd.R_mono (Kd.R_tight rfl (Kd.R_mono (ok' := fun k_ => ((fun k_ => some k_ ≠ (.slice (some ad387) x3_2.length co30 : Value).ownBlock)) k_ ∧ some k_ ≠ (u9 : Value).ownBlock) (Kd.R_apart' (HO_11.out) (Kd.S_typed HO_9.out) (by decide)) (fun k_ hk => ⟨hk.1, hk.2⟩))) (fun _ h_ => h_))); (case aB => exact tb); (case aF => exact (fun k_ hk => Kd.fresh' (Kd.R_lt (R_l HO_3.out)) k_ hk)); (case aO => exact (S_l (Kd.S_mono HO_9.out (fun k_ hk => ⟨hk.1, fun e_ => hk.2 e_⟩)))); (case aS => exact (below_size tb)); (case aL => have := LMc38.out; omega); intro v396 w39 ho hb hg hat; rw [← Ny395.out] at ho; replace HO_3 := Aside0.mk (Kd.R_over' (R_l HO_3.out) (Kd.S_typed (S_l HO_9.out)) (by decide) hg); replace HB := Aside0.mk (hb); have HO397 := Aside0.mk (ho); clear HO_9 HO_11; clear ho hb hg hat))
               go_roundg k4
               case measure => exact oK
               case rel => exact ⟨(y395), (wrap64 (x10_3 + 1)), rS, H', ⟨oK⟩, ⟨R_l (Kd.R_mono HO_3.out (fun _ hk => trivial))⟩, ⟨S_l HO397.out⟩, ⟨tb⟩⟩
           ·rw [if_neg c29] at H
            have c29b0 : ((rd x3_2 x10_3) == x10_3) = false := beq_eq_false_iff_ne.mpr c29
            have c29b1 : ((rd x3_2 x10_3) != x10_3) = true := bne_iff_ne.mpr c29
            have H' := Aside0.mk H
            clear H
            obtain ⟨Ao41, co41, eo41⟩ := Kd.R_slice HO_3.out
            subst eo41
            have p387 : 0 ≤ (x10_3 : Int) := dT
            have q387 : x10_3 < (x3_2.length : Int) := dT
            obtain ⟨ad387, e387, hx387_0⟩ := Kd.at_int (Kd.R_reads' HO_3.out).2.2 x10_3 p387 q387
            cases e387
            replace p387 := eq_true p387
            replace q387 := eq_true q387
            go_wp2
            go_roundg k3
            case measure => exact oK
            case rel => exact ⟨(x9_3), (wrap64 (x10_3 + 1)), rS, H', ⟨oK⟩, ⟨R_l HO_3.out⟩, ⟨S_l HO_9.out⟩, ⟨tb⟩⟩
          ·obtain rfl := Option.some.inj H
           obtain ⟨Ao42, co42, eo42⟩ := Kd.R_slice HO_3.out
           subst eo42
           go_wp2
           go_ret
           exact ⟨_, rE, S_l (Kd.S_mono HO_9.out (fun _ hk => trivial)), tb⟩
   ·rw [if_neg c4] at H
    exact absurd H (by simp)

end Go.Proofs.Ytepogblkmiidnaa.PFnCovers
