import Derived.Test.YtkbkkpgllphdhaaWSpan
import Derived.Test.YtkbkkpgllphdhaaWLater
import Derived.Test.YtkbkkpgllphdhaaPFnBranchesx0
import Derived.Test.YtkbkkpgllphdhaaPFnBranchesx2
import Derived.Test.YtkbkkpgllphdhaaPFnBranchesx4
import Derived.Test.YtkbkkpgllphdhaaPFnBranchesx5
import Derived.Test.YtkbkkpgllphdhaaPFnBranchesx6
import Derived.Test.YtkbkkpgllphdhaaPFnBranchesx7
import Derived.Test.YtkbkkpgllphdhaaPFnBranchesx10
import Derived.Test.YtkbkkpgllphdhaaPFnBranchesx13
namespace Go.Proofs.Ytkbkkpgllphdhaa.PFnBranches
open Go.RowKit Go.Proofs.YtkbkkpgllphdhaaW.PrintWords Go.Proofs.YtkbkkpgllphdhaaW.PrintLast Go.Proofs.YtkbkkpgllphdhaaW.PrintMore
attribute [local go_sem] max2_int min2_int max_two min_two max_three min_three max_four min_four   -- for this text's walks alone
set_option linter.unusedVariables false
set_option linter.unusedSimpArgs false

/-! ### impl_BraidPassport: function 12 -/
/-- in a table of rows apart, row k is moved to k + 1 (what stood there is dropped), and a row of one's own, none of the table's, is put in its place -/
theorem S_moved {w0 : World} {base g n cap k te ti : Nat} {xs : List (List Int)} {y : List Int} {vn uk : Value} (hte : te ≠ ti)
  (HO : Kd.S (Kd.slice ti (Kd.int .i64)) te w0 base (fun b => some b ≠ (vn : Value).ownBlock) (.slice (some ⟨g, 0, none⟩) n cap) xs)
  (HN : Kd.R (Kd.int .i64) ti w0 base (fun _ => True) vn y) (hk : k + 1 < xs.length)
  (hu : w0.cell? ⟨g, k, none⟩ = some uk) :
  Kd.S (Kd.slice ti (Kd.int .i64)) te ((w0.setCell ⟨g, k, none⟩ vn).setCell ⟨g, k + 1, none⟩ uk) base (fun _ => True) (.slice (some ⟨g, 0, none⟩) n cap) ((xs.set k y).set (k + 1) (xs.getD k [])) := by
 obtain ⟨f, h0, inner, ho, hr⟩ := HO
 have hlen : xs.zipIdx.length = xs.length := List.length_zipIdx
 have hin : inner.length = xs.length := by have := hr.1; rw [hlen] at this; rw [this]; exact Nat.mul_one _
 rcases ho.2 with ⟨hv, _⟩ | ⟨g', cap', cur', hv, hb, hh, hnc, hcm, hcs, htake⟩
 ·cases hv
 injection hv with e1 e2 e3
 injection e1 with e1
 injection e1 with e1 _ _
 subst e1
 subst e3
 rw [hlen] at e2
 subst e2
 have hcl : cur'.size = cap := by simpa [Kd.tag, Kd.slice] using hcs
 have htk : cur'.toList.take xs.length = inner := by rw [← htake, hlen]; simp [Kd.tag, Kd.slice]
 have M : ∀ j x, xs[j]? = some x → ∃ u, inner[j]? = some u ∧ Kd.R (Kd.int .i64) ti w0 base (fun b => ((some b ≠ vn.ownBlock) ∧ some b ≠ (Value.slice (some ⟨g, 0, none⟩) xs.length cap).ownBlock) ∧ f b = j) u x := by
  intro j x hj
  obtain ⟨u, hu1, hu2⟩ := hr.2 j (x, j) (by rw [List.getElem?_zipIdx, hj, Nat.zero_add]; rfl)
  refine ⟨u, ?_, hu2⟩
  have hs : (Kd.tag f (Kd.slice ti (Kd.int .i64))).sz = 1 := rfl
  rw [hs, Nat.mul_one] at hu1
  have := congrArg (fun l : List Value => l[0]?) hu1
  simpa [List.getElem?_take, List.getElem?_drop] using this
 -- what stood at k
 have hkl : k < xs.length := by omega
 obtain ⟨u0, hu0, hR0⟩ := M k _ (List.getElem?_eq_getElem hkl)
 have huk : uk = u0 := by
  rw [cell_of_row w0 g k cur' te (0, 0) hh] at hu
  have : cur'[k]? = inner[k]? := by rw [← htk, List.getElem?_take, if_pos hkl]; simp
  rw [this, hu0] at hu
  exact (Option.some.inj hu).symm
 subst huk
 let f' : Nat → Nat := fun b => if some b = vn.ownBlock then k else if f b = k then k + 1 else if f b = k + 1 then xs.length + 1 else f b
 have typ : ∀ q, q ∈ ti :: (Kd.int .i64).E → q ≠ te := fun q hq => by
  have : q = ti := by simpa [Kd.int, Kd.scalar] using hq
  omega
 have b1 := blk_set hh k vn
 have b2 := blk_set b1 (k + 1) uk
 have keep : ∀ {u : Value} {x : List Int} {ok : Nat → Prop}, Kd.R (Kd.int .i64) ti w0 base ok u x → Kd.R (Kd.int .i64) ti ((w0.setCell ⟨g, k, none⟩ vn).setCell ⟨g, k + 1, none⟩ uk) base ok u x := fun h => Kd.R_set (Kd.R_set h hh typ k vn) b1 typ (k + 1) uk
 refine ⟨f', fun b hb' => trivial, (inner.set k vn).set (k + 1) uk, ?_, ?_⟩
 ·refine ⟨by simp [List.length_zipIdx, hin, Kd.tag, Kd.slice], .inr ⟨g, cap, _, by rw [List.length_zipIdx]; simp, hb, b2, by rw [List.length_zipIdx]; simpa [hlen] using hnc, hcm, by simp [hcl, Kd.tag, Kd.slice], ?_⟩⟩
  rw [List.length_zipIdx]
  simp only [List.length_set, Array.toList_setIfInBounds, Kd.tag, Kd.slice, Nat.mul_one]
  rw [List.take_set, List.take_set, htk]
 ·refine ⟨by simp [List.length_zipIdx, hin, Kd.tag, Kd.slice], fun j p hj => ?_⟩
  rw [List.getElem?_zipIdx, Nat.zero_add] at hj
  obtain ⟨x, hx, rfl⟩ := Option.map_eq_some_iff.1 hj
  have hs : (Kd.tag f' (Kd.slice ti (Kd.int .i64))).sz = 1 := rfl
  rw [hs, Nat.mul_one]
  have one : ∀ (u : Value), ((inner.set k vn).set (k + 1) uk)[j]? = some u → (((inner.set k vn).set (k + 1) uk).drop j).take 1 = [u] := by
   intro u h
   obtain ⟨hl, he⟩ := List.getElem?_eq_some_iff.1 h
   rw [List.drop_eq_getElem_cons hl, he]; rfl
  by_cases j1 : j = k + 1
  ·subst j1
   have hx' : x = xs.getD k [] := by
    rw [List.getElem?_set_self (by simp; omega)] at hx
    exact (Option.some.inj hx).symm
   have hg : xs.getD k [] = xs[k] := by rw [List.getD_eq_getElem?_getD, List.getElem?_eq_getElem hkl]; rfl
   refine ⟨uk, one uk (by rw [List.getElem?_set_self (by simp; omega)]), ?_⟩
   rw [hx', hg]
   exact Kd.R_mono (keep hR0) (fun b hb' => ⟨⟨trivial, hb'.1.2⟩, by show (if some b = vn.ownBlock then k else if f b = k then k + 1 else if f b = k + 1 then xs.length + 1 else f b) = k + 1; rw [if_neg hb'.1.1, if_pos hb'.2]⟩)
  ·by_cases j2 : j = k
   ·subst j2
    have hx' : x = y := by
     rw [List.getElem?_set_ne (by omega), List.getElem?_set_self (by omega)] at hx
     exact (Option.some.inj hx).symm
    refine ⟨vn, one vn (by rw [List.getElem?_set_ne (by omega), List.getElem?_set_self (by omega)]), ?_⟩
    rw [hx']
    have hne : ∀ b, some b = vn.ownBlock → some b ≠ (Value.slice (some ⟨g, 0, none⟩) xs.length cap).ownBlock := fun b hb' he => by
     have hbg : b = g := by simpa [Value.ownBlock] using he
     subst hbg
     obtain ⟨cells, hc⟩ := Kd.R_typed HN b hb'.symm
     rw [hh] at hc
     injection hc with hc
     injection hc with _ ht
     exact hte ht
    exact Kd.R_mono (keep (Kd.R_tight rfl HN)) (fun b hb' => ⟨⟨trivial, hne b hb'⟩, by show (if some b = vn.ownBlock then j else if f b = j then j + 1 else if f b = j + 1 then xs.length + 1 else f b) = j; rw [if_pos hb']⟩)
   ·rw [List.getElem?_set_ne (by omega), List.getElem?_set_ne (by omega)] at hx
    obtain ⟨u, hu1, hu2⟩ := M j x hx
    refine ⟨u, one u (by rw [List.getElem?_set_ne (by omega), List.getElem?_set_ne (by omega)]; exact hu1), ?_⟩
    exact Kd.R_mono (keep hu2) (fun b hb' => ⟨⟨trivial, hb'.1.2⟩, by show (if some b = vn.ownBlock then k else if f b = k then k + 1 else if f b = k + 1 then xs.length + 1 else f b) = j; rw [if_neg hb'.1.1, if_neg (by rw [hb'.2]; exact j2), if_neg (by rw [hb'.2]; exact j1), hb'.2]⟩)
def impl_BraidPassport.j0 : Nat → List (List Int) → Int → Bool → Option ((List (List Int)) × Bool)
 | 0, _, _, _ => none
 | k + 1, x0, x1, x19 => if x19 = true then (some (([] : List (List Int)), false)) else ((impl_copyRows.f k x0).bind fun t289 => (if 0 ≤ x1 then (if x1 < (t289.length : Int) then (if 0 ≤ (wrap64 (x1 + 1)) then (if (wrap64 (x1 + 1)) < (t289.length : Int) then ((impl_then.f k (rd_L3 t289 x1) (rd_L3 t289 (wrap64 (x1 + 1)))).bind fun t294 => ((impl_inversePermutation.f k (rd_L3 t289 x1)).bind fun t297 => ((impl_then.f k t294 t297).bind fun t300 => (some (((t289.set (x1 : Int).toNat t300).set ((wrap64 (x1 + 1)) : Int).toNat (rd_L3 t289 x1)), true))))) else (none)) else (none)) else (none)) else (none)))
def impl_BraidPassport.f (k : Nat) (l0 : List (List Int)) (a1 : Int) : Option ((List (List Int)) × Bool) := (impl_IsPassport.f k l0).bind fun t287 => (if t287 = true then ((impl_within.f a1 0 (wrap64 ((l0.length : Int) - 2))).bind fun t288 => (impl_BraidPassport.j0 k l0 a1 (!t288))) else (impl_BraidPassport.j0 k l0 a1 true))
set_option maxHeartbeats 8000000 in
set_option maxRecDepth 100000 in
theorem impl_BraidPassport.calls (k : Nat) (A0 : Option Addr) (c0 : Nat) (l0 : List (List Int)) (a1 : Int) (r1 : List (List Int)) (r2 : Bool) (w : World) (hr0 : Kd.C (Kd.slice 3 (Kd.int .i64)) w A0 l0.length l0) (hc0 : l0.length ≤ c0) (h : impl_BraidPassport.f k l0 a1 = some (r1, r2)) :
  Calls Try.prog 12 #[.slice A0 l0.length c0, .int .i64 a1] w fun e w' => ∃ v0_ : Value, e = .returned (.tuple #[v0_, .bool r2]) ∧ Kd.S (Kd.slice 3 (Kd.int .i64)) 35 w' w.heap.size (fun _ => True) v0_ r1 ∧ Below w.heap.size w w' := by
 have HR0 := Aside0.mk hr0
 have HC0 := Aside0.mk hc0
 clear hr0 hc0
 have HB := Aside0.mk (Below.refl w.heap.size w)
 have H : ((impl_IsPassport.f k l0).bind fun t287 => (if t287 = true then ((impl_within.f a1 0 (wrap64 ((l0.length : Int) - 2))).bind fun t288 => (impl_BraidPassport.j0 k l0 a1 (!t288))) else (impl_BraidPassport.j0 k l0 a1 true))) = some (r1, r2) := h
 clear h
 have HC3 := Aside0.mk H
 clear H
 go_enter Try.func12, Try.ntmps12
 go_upto_region 1 with (fail)
 repeat (go_quiet (fail); go_upto_region 1 with (fail))
 go_cut [19] (fun v19 wc => ∃ (kq : Nat) (x19_2 : Bool), v19 = .bool x19_2 ∧ Aside0 (impl_BraidPassport.j0 kq l0 a1 x19_2 = some (r1, r2)) ∧ Aside0 (kq ≤ k) ∧ Aside0 (Below w.heap.size w wc))
 case first =>
  have H := HC3.out
  clear HC3
  obtain ⟨t287, A4, H⟩ := bs H
  by_cases c5 : t287 = true
  ·subst c5
   rw [if_pos rfl] at H
   obtain ⟨t288, A6, H⟩ := bs H
   have H' := Aside0.mk H
   clear H
   go_wp2_with (first | (go_at_call 18; (with_reducible refine (impl_IsPassport.calls k _ _ l0 true _ ?side1 ?side2 A4.out).mono ?_); (case side1 => exact C_l (Kd.C_below HR0.out HB.out)); (case side2 => exact HC0.out); rintro e w7 ⟨rfl, hb⟩; replace HB := Aside0.mk (zS HB hb)) | (go_at_call 33; (with_reducible refine (impl_within.calls a1 0 (wrap64 ((l0.length : Int) - 2)) t288 _ A6.out).mono ?_); rintro e w' ⟨rfl, ⟨nd, rfl⟩⟩; (try first | exact ⟨rfl, _, World.drewN_drewN _ _ _⟩ | exact ⟨rfl, _, Eq.trans (World.drewN_drewN _ _ _) (congrArg (World.drewN _) (Nat.add_assoc _ _ _))⟩)))
   repeat (go_quiet (fail); try go_wp2_with fail)
   go_meet
   case rel => exact ⟨_, (!t288), rS, H', ⟨by first | omega | exact Nat.le_refl _⟩, ⟨B_l HB.out⟩⟩
  ·replace c5 := Bool.eq_false_iff.mpr c5
   subst c5
   rw [if_neg (show ¬ (false = true) by decide)] at H
   have H' := Aside0.mk H
   clear H
   go_wp2_with (first | (go_at_call 18; (with_reducible refine (impl_IsPassport.calls k _ _ l0 false _ ?side1 ?side2 A4.out).mono ?_); (case side1 => exact C_l (Kd.C_below HR0.out HB.out)); (case side2 => exact HC0.out); rintro e w8 ⟨rfl, hb⟩; replace HB := Aside0.mk (zS HB hb)))
   repeat (go_quiet (fail); try go_wp2_with fail)
   go_meet
   case rel => exact ⟨_, (true), rS, H', ⟨by first | omega | exact Nat.le_refl _⟩, ⟨B_l HB.out⟩⟩
 case rest =>
  clear HC3
  try clear p2
  try clear c5
  try clear p6
  try clear c7
  obtain ⟨kq, x19_2, rfl, HA, HJ2, HB⟩ := hcut
  cases kq with
  | zero => exact absurd HA.out (by simp [impl_BraidPassport.j0])
  | succ kj2 =>
   have H := HA.out
   clear HA
   simp only [impl_BraidPassport.j0] at H
   by_cases c9 : x19_2 = true
   ·subst c9
    rw [if_pos rfl] at H
    simp only [Option.some.injEq, Prod.mk.injEq] at H
    obtain ⟨rfl, rfl⟩ := H
    go_wp2
    repeat (go_quiet (fail); try go_wp2)
    go_ret2
    exact ⟨_, rE, by first | exact Kd.S_nil _ _ _ _ _ | exact Kd.N_nil _ _ _ _ _ | exact Kd.V_nil _ _ _ _ _ | exact Kd.Q_nil _ _ _ _ _ | exact Kd.R_nil _ _ _ _ _, B_l HB.out⟩
   ·replace c9 := Bool.eq_false_iff.mpr c9
    subst c9
    rw [if_neg (show ¬ (false = true) by decide)] at H
    obtain ⟨t289, A100, H⟩ := Option.bind_eq_some_iff.mp H
    have A10 := Aside0.mk A100
    clear A100
    by_cases c11 : 0 ≤ a1
    ·rw [if_pos c11] at H
     obtain ⟨c12, H⟩ := gd H
     obtain ⟨c14, H⟩ := gd H
     obtain ⟨c15, H⟩ := gd H
     obtain ⟨kN, rfl⟩ : ∃ m : Nat, a1 = (m : Int) := ⟨a1.toNat, by omega⟩
     obtain ⟨t294, A160, H⟩ := Option.bind_eq_some_iff.mp H
     obtain ⟨t297, A170, H⟩ := Option.bind_eq_some_iff.mp H
     obtain ⟨t300, A180, H⟩ := Option.bind_eq_some_iff.mp H
     have hk0 : kN < t289.length := by omega
     have K0 := Aside0.mk hk0
     have K15 := Aside0.mk c15
     have K14 := Aside0.mk c14
     have A16 := Aside0.mk A160
     have A17 := Aside0.mk A170
     have A18 := Aside0.mk A180
     have HH := Aside0.mk H
     clear hk0 c11 c12 c14 c15 A160 A170 A180 H
     go_wp2_with fail
     (go_at_call 35; (with_reducible refine (impl_copyRows.calls kj2 _ _ l0 t289 _ (Kd.C_below HR0.out HB.out) HC0.out A10.out).mono ?_))
     rintro e w2 ⟨v, rfl, ho, hb⟩
     have HB2 := Aside0.mk (below_step HB.out hb)
     have HO := Aside0.mk (Kd.S_lower ho HB.out.size)
     clear ho hb HB
     obtain ⟨g, cap, hv, hgb, hgl, cells, hgc⟩ := Kd.S_form HO.out (by have := K0.out; omega)
     subst hv
     have hmx : t289.length ≤ 9223372036854775807 := (Kd.S_reads' HO.out).2.2.2.1
     have hw : wrap64 ((kN : Int) + 1) = ((kN + 1 : Nat) : Int) := by have := K0.out; unfold wrap64; omega
     have hk1 : kN + 1 < t289.length := by have := K15.out; rw [hw] at this; omega
     have K1 := Aside0.mk hk1
     have hA16 := A16.out
     have hHH := HH.out
     rw [hw] at hA16 hHH
     replace A16 := Aside0.mk hA16
     simp only [Int.toNat_natCast] at hHH
     simp only [Option.some.injEq, Prod.mk.injEq] at hHH
     obtain ⟨rfl, rfl⟩ := hHH
     clear HH hA16
     obtain ⟨adk, Ak, ck, ek, hxk, hlk, hik⟩ := at_L3 (Kd.S_reads' HO.out).2.2 (kN : Int) (by omega) (by have := K0.out; omega)
     cases ek
     rw [Int.toNat_natCast, add_plain] at hxk
     obtain ⟨adm, Am, cm, em, hxm, hlm, him⟩ := at_L3 (Kd.S_reads' HO.out).2.2 ((kN + 1 : Nat) : Int) (by omega) (by omega)
     cases em
     rw [Int.toNat_natCast, add_plain] at hxm
     have IK := Aside0.mk hik
     have IM := Aside0.mk him
     have LK := Aside0.mk hlk
     have LMm := Aside0.mk hlm
     have XK := Aside0.mk hxk
     have GB := Aside0.mk hgb
     have GC := Aside0.mk hgc
     have hwr : IntKind.i64.wrap ((kN : Int) + 1) = ((kN + 1 : Nat) : Int) := (i64_w _).trans hw
     have q1 : (kN < t289.length) = True := eq_true K0.out
     have q2 : (kN + 1 < t289.length) = True := eq_true hk1
     have q3 : (((kN + 1 : Nat) : Int) < (t289.length : Int)) = True := eq_true (by omega)
     have q4 : ((kN : Int) + 1 < (t289.length : Int)) = True := eq_true (by omega)
     have q5 : (0 ≤ (kN : Int) + 1) = True := eq_true (by omega)
     clear hik him hlk hlm hgb hgl hgc hk1 hmx hw
     go_wp2_with fail
     go_quiet (fail)
     go_wp2_with fail
     clear H
     have ec : ((kN + 1 : Nat) : Int) = (kN : Int) + 1 := by omega
     rw [ec] at A16 IM LMm
     (with_reducible refine (impl_then.calls kj2 _ _ _ _ _ _ _ _ (Kd.C_drewN IK.out _) LK.out (Kd.C_drewN IM.out _) LMm.out A16.out).mono ?_)
     rintro e w3 ⟨v3, rfl, ho3, hb3⟩
     obtain ⟨B3, d3, rfl⟩ := Kd.R_slice ho3
     have IK3 := Aside0.mk (Kd.C_below (Kd.C_drewN IK.out nq) hb3)
     have HB3 := Aside0.mk (below_step (pw_below_drewN HB2.out nq) hb3)
     have HO3 := Aside0.mk (Kd.S_old (Kd.S_drewN HO.out nq) hb3)
     have I3 := Aside0.mk (Kd.R_reads' ho3)
     have GC3 := Aside0.mk (blk_below (w := w2.drewN nq) GC.out hb3)
     clear ho3 hb3
     go_wp2_with fail
     (with_reducible refine (impl_inversePermutation.calls kj2 _ _ _ _ _ IK3.out LK.out A17.out).mono ?_)
     rintro e w4 ⟨v4, rfl, ho4, hb4⟩
     obtain ⟨B4, d4, rfl⟩ := Kd.R_slice ho4
     have I4 := Aside0.mk (Kd.R_reads' ho4)
     have I34 := Aside0.mk (Kd.C_below I3.out.2.2 hb4)
     have HB4 := Aside0.mk (below_step HB3.out hb4)
     have HO4 := Aside0.mk (Kd.S_below HO3.out hb4)
     have GC4 := Aside0.mk (blk_below GC3.out hb4)
     clear ho4 hb4
     go_wp2_with fail
     (with_reducible refine (impl_then.calls kj2 _ _ _ _ _ _ _ _ I34.out I3.out.2.1 I4.out.2.2 I4.out.2.1 A18.out).mono ?_)
     rintro e w5 ⟨v5, rfl, ho5, hb5⟩
     obtain ⟨B5, d5, rfl⟩ := Kd.R_slice ho5
     have HB5 := Aside0.mk (below_step HB4.out hb5)
     have HN5 := Aside0.mk (Kd.R_lower ho5 HB4.out.size)
     have HO5 := Aside0.mk (Kd.S_elder' HO4.out (Kd.R_base ho5) hb5)
     have GC5 := Aside0.mk (blk_below GC4.out hb5)
     clear ho5 hb5
     have fz5 := blk_frozen GC5.out kN
     have hk5 : w5.cell? ⟨g, kN, none⟩ = some (.slice Ak (rd_L3 t289 (kN : Int)).length ck) := by
      rw [cell_of_row w5 g kN cells 35 (0, 0) GC5.out, ← cell_of_row w2 g kN cells 35 (0, 0) GC.out]; exact XK.out
     have HK5 := Aside0.mk hk5
     have hm5 : w5.cell? ⟨g, kN + 1, none⟩ = some (.slice Am (rd_L3 t289 ((kN : Int) + 1)).length cm) := by
      rw [cell_of_row w5 g (kN + 1) cells 35 (0, 0) GC5.out, ← cell_of_row w2 g (kN + 1) cells 35 (0, 0) GC.out]; exact hxm
     have G6 := Aside0.mk (blk_set GC5.out kN (Value.slice B5 t300.length d5))
     have fz6 := blk_frozen G6.out (kN + 1)
     go_wp2_with fail
     go_ret2
     refine ⟨_, rfl, ?_, below_set (below_set HB5.out GB.out) GB.out⟩
     have hsm := S_moved (te := 35) (ti := 3) (by decide) (Kd.S_mono HO5.out (fun b hb' => (hb'.2 : some b ≠ (Value.slice B5 t300.length d5).ownBlock))) HN5.out K1.out HK5.out
     have hgd : t289.getD kN [] = rd_L3 t289 (kN : Int) := by
      unfold rd_L3
      rw [Int.toNat_natCast]
     rw [← hgd]
     exact hsm
    ·rw [if_neg c11] at H
     exact absurd H (by simp)

/-! ### spec_BraidPassport: function 13 -/
def spec_BraidPassport.j0 : Nat → List (List Int) → Int → Bool → Option ((List (List Int)) × Bool)
 | 0, _, _, _ => none
 | k + 1, x0, x1, x17 => if x17 = true then (some ((([] : List (List Int))), false)) else ((spec_l5Copy.f k x0).bind fun t506 => ((spec_ActWord.f k x0 (([wrap64 (x1 + 1), wrap64 (x1 + 2), wrap64 ((wrap64 (-x1)) - 1)] : List Int))).bind fun t512 => (if 0 ≤ x1 then (if x1 < (t506.length : Int) then ((some (([] : List Int) : List Int)).bind fun y516 => (if x1 < (x0.length : Int) then (if y516.length + (rd_L3 x0 x1).length < 17592186044416 then (if 0 ≤ (wrap64 (x1 + 1)) then (if (wrap64 (x1 + 1)) < (t506.length : Int) then (some (((t506.set (x1 : Int).toNat t512).set ((wrap64 (x1 + 1)) : Int).toNat (y516 ++ (rd_L3 x0 x1))), true)) else (none)) else (none)) else (none)) else (none))) else (none)) else (none))))
def spec_BraidPassport.f (k : Nat) (l0 : List (List Int)) (a1 : Int) : Option ((List (List Int)) × Bool) := (spec_IsPassport.f k l0).bind fun t501 => (if t501 = true then ((spec_l1In.f a1 0 (wrap64 ((l0.length : Int) - 2))).bind fun t502 => (spec_BraidPassport.j0 k l0 a1 (!t502))) else (spec_BraidPassport.j0 k l0 a1 true))
set_option maxHeartbeats 8000000 in
set_option maxRecDepth 100000 in
theorem spec_BraidPassport.calls (k : Nat) (A0 : Option Addr) (c0 : Nat) (l0 : List (List Int)) (a1 : Int) (r1 : List (List Int)) (r2 : Bool) (w : World) (hr0 : Kd.C (Kd.slice 3 (Kd.int .i64)) w A0 l0.length l0) (hc0 : l0.length ≤ c0) (h : spec_BraidPassport.f k l0 a1 = some (r1, r2)) :
  Calls Try.prog 13 #[.slice A0 l0.length c0, .int .i64 a1] w fun e w' => ∃ v0_ : Value, e = .returned (.tuple #[v0_, .bool r2]) ∧ Kd.S (Kd.slice 3 (Kd.int .i64)) 35 w' w.heap.size (fun _ => True) v0_ r1 ∧ Below w.heap.size w w' := by
 have HR0 := Aside0.mk hr0
 have HC0 := Aside0.mk hc0
 clear hr0 hc0
 have HB := Aside0.mk (Below.refl w.heap.size w)
 have H : ((spec_IsPassport.f k l0).bind fun t501 => (if t501 = true then ((spec_l1In.f a1 0 (wrap64 ((l0.length : Int) - 2))).bind fun t502 => (spec_BraidPassport.j0 k l0 a1 (!t502))) else (spec_BraidPassport.j0 k l0 a1 true))) = some (r1, r2) := h
 clear h
 have HC3 := Aside0.mk H
 clear H
 go_enter Try.func13, Try.ntmps13
 go_upto_region 1 with (fail)
 go_cut [17] (fun v17 wc => ∃ (kq : Nat) (x17_2 : Bool), v17 = .bool x17_2 ∧ Aside0 (spec_BraidPassport.j0 kq l0 a1 x17_2 = some (r1, r2)) ∧ Aside0 (kq ≤ k) ∧ Aside0 (Below w.heap.size w wc))
 case first =>
  have H := HC3.out
  clear HC3
  obtain ⟨t501, A4, H⟩ := bs H
  by_cases c5 : t501 = true
  ·subst c5
   rw [if_pos rfl] at H
   obtain ⟨t502, A6, H⟩ := bs H
   have H' := Aside0.mk H
   clear H
   go_wp2_with (first | (refine gL 19 (some 8) Try.func19 #[.slice A0 l0.length c0] ?_; (with_reducible refine (spec_IsPassport.calls k _ _ l0 true _ ?side1 ?side2 A4.out).mono ?_); (case side1 => exact C_l (Kd.C_below HR0.out HB.out)); (case side2 => exact HC0.out); rintro e w7 ⟨rfl, hb⟩; refine ⟨_, rfl, ?_⟩; replace HB := Aside0.mk (zS HB hb)) | (go_at_call 38; (with_reducible refine (spec_l1In.calls a1 0 (wrap64 ((l0.length : Int) - 2)) t502 _ A6.out).mono ?_); rintro e w' ⟨rfl, ⟨nd, rfl⟩⟩))
   go_meet
   case rel => exact ⟨_, (!t502), rS, H', ⟨by first | omega | exact Nat.le_refl _⟩, ⟨B_l HB.out⟩⟩
  ·replace c5 := Bool.eq_false_iff.mpr c5
   subst c5
   rw [if_neg (show ¬ (false = true) by decide)] at H
   have H' := Aside0.mk H
   clear H
   go_wp2_with (first | (refine gL 19 (some 8) Try.func19 #[.slice A0 l0.length c0] ?_; (with_reducible refine (spec_IsPassport.calls k _ _ l0 false _ ?side1 ?side2 A4.out).mono ?_); (case side1 => exact C_l (Kd.C_below HR0.out HB.out)); (case side2 => exact HC0.out); rintro e w8 ⟨rfl, hb⟩; refine ⟨_, rfl, ?_⟩; replace HB := Aside0.mk (zS HB hb)))
   go_meet
   case rel => exact ⟨_, (true), rS, H', ⟨by first | omega | exact Nat.le_refl _⟩, ⟨B_l HB.out⟩⟩
 case rest =>
  clear HC3
  try clear c1
  try clear p2
  try clear c5
  try clear p6
  obtain ⟨kq, x17_2, rfl, HA, HJ2, HB⟩ := hcut
  cases kq with
  | zero => exact absurd HA.out (by simp [spec_BraidPassport.j0])
  | succ kj2 =>
   have H := HA.out
   clear HA
   simp only [spec_BraidPassport.j0] at H
   by_cases c9 : x17_2 = true
   ·subst c9
    rw [if_pos rfl] at H
    generalize hy503 : (([] : List (List Int)) : List (List Int)) = y503 at H
    have Ny503 := Aside0.mk hy503.symm; clear hy503
    simp only [Option.some.injEq, Prod.mk.injEq] at H
    obtain ⟨rfl, rfl⟩ := H
    go_wp2_with (first | ((with_reducible refine gate_dst (N := 18) rfl ?_); (try (refine gate_guard (by rfl) ?_; dsimp only)); refine Kd.S_lit (Kd.slice 3 (Kd.int .i64)) _ 35 ?hg (N := 18) ?hd (xs := ([] : List (List Int))) (inner := []) (ok := fun _ => True) (okp := fun _ => True) ?hr ?hp (fun _ hk => hk) trivial (Below.refl _ _) (Nat.le_refl _) (by simp) ?_; (case hd => rfl); (case hg => rfl); (case hr => exact gS); (case hp => exact (Reps.none _ _)); intro v504 w10 ho11 hb hg_ hnew_; clear hg_ hnew_; (first | rw [← Ny503.out] at ho11 | (simp only [Int.reduceToNat] at ho11; rw [← Ny503.out] at ho11)); have HO505 := Aside0.mk (Kd.S_lower ho11 (zB HB)); replace HB := Aside0.mk (zS HB hb); clear hb ho11))
    go_ret2
    exact ⟨_, rE, S_l HO505.out, B_l HB.out⟩
   ·replace c9 := Bool.eq_false_iff.mpr c9
    subst c9
    rw [if_neg (show ¬ (false = true) by decide)] at H
    obtain ⟨t506, A12, H⟩ := bs H
    generalize hy509 : (([wrap64 (a1 + 1), wrap64 (a1 + 2), wrap64 ((wrap64 (-a1)) - 1)] : List Int) : List Int) = y509 at H
    have Ny509 := Aside0.mk hy509.symm; clear hy509
    obtain ⟨t512, A13, H⟩ := bs H
    by_cases c14 : 0 ≤ a1
    ·rw [if_pos c14] at H
     have c14b0 : decide (0 ≤ a1) = true := decide_eq_true c14
     clear c14
     obtain ⟨c15b0, H⟩ := gdt H
     generalize hy515 : (t506.set (a1 : Int).toNat t512 : List (List Int)) = y515 at H
     have Ny515 := Aside0.mk hy515.symm; clear hy515
     generalize hy516 : (([] : List Int) : List Int) = y516 at H
     have Ny516 := Aside0.mk hy516.symm; clear hy516
     obtain ⟨c17b0, H⟩ := gdt H
     obtain ⟨LMc18, H⟩ := gda H
     generalize hy520 : (y516 ++ (rd_L3 l0 a1) : List Int) = y520 at H
     have Ny520 := Aside0.mk hy520.symm; clear hy520
     obtain ⟨ji19, hji19⟩ : ∃ j_ : Int, (wrap64 (a1 + 1)) = j_ := ⟨_, rfl⟩
     replace H : (if 0 ≤ (ji19) then (if (ji19) < (t506.length : Int) then (some ((y515.set ((ji19) : Int).toNat y520), true)) else (none)) else (none)) = some (r1, r2) := by first | (rw [hji19] at H; exact H) | (simp only [hji19] at H ⊢; exact H)
     (try rw [hji19] at A12)
     (try rw [hji19] at Ny509)
     (try rw [hji19] at A13)
     have hji19w : (IntKind.i64.wrap (a1 + 1)) = ji19 := (i64_w _).trans hji19
     obtain ⟨c20b0, H⟩ := gdt H
     obtain ⟨c21b0, H⟩ := gdt H
     generalize hy523 : (y515.set ((ji19) : Int).toNat y520 : List (List Int)) = y523 at H
     have Ny523 := Aside0.mk hy523.symm; clear hy523
     simp only [Option.some.injEq, Prod.mk.injEq] at H
     obtain ⟨rfl, rfl⟩ := H
     go_wp2_with (first | (refine gL 43 (some 20) Try.func43 #[.slice A0 l0.length c0] ?_; (with_reducible refine (spec_l5Copy.calls kj2 _ _ l0 t506 _ ?side1 ?side2 A12.out).mono ?_); (case side1 => exact C_l (Kd.C_below HR0.out HB.out)); (case side2 => exact HC0.out); rintro e w23 ⟨v507, rfl, ho0, hb⟩; refine ⟨_, rfl, ?_⟩; have HO508 := Aside0.mk (Kd.S_lower ho0 (zB HB)); replace HB := Aside0.mk (zS HB hb)) | ((with_reducible refine gate_dst (N := 31) rfl ?_); (try (refine gate_guard (by rfl) ?_; dsimp only)); refine Kd.R_lit (Kd.int .i64) _ 3 ?hg (N := 31) ?hd (xs := ([ji19, wrap64 (a1 + 2), wrap64 ((wrap64 (-a1)) - 1)] : List Int)) (inner := [.int .i64 ji19, .int .i64 (wrap64 (a1 + 2)), .int .i64 (wrap64 ((wrap64 (-a1)) - 1))]) (ok := fun _ => True) (okp := fun _ => True) ?hr ?hp (fun _ hk => hk) trivial (Below.refl _ _) (Nat.le_refl _) (by simp) ?_; (case hd => rfl); (case hg => rfl); (case hr => exact gS); (case hp => exact (Reps.one (show Kd.M (Kd.int .i64) _ _ _ ji19 [.int .i64 ji19] from rfl) (Reps.one (show Kd.M (Kd.int .i64) _ _ _ (wrap64 (a1 + 2)) [.int .i64 (wrap64 (a1 + 2))] from rfl) (Reps.one (show Kd.M (Kd.int .i64) _ _ _ (wrap64 ((wrap64 (-a1)) - 1)) [.int .i64 (wrap64 ((wrap64 (-a1)) - 1))] from rfl) (Reps.none _ _))))); intro v510 w24 ho25 hb hg_ hnew_; clear hg_ hnew_; (first | rw [← Ny509.out] at ho25 | (simp only [Int.reduceToNat] at ho25; rw [← Ny509.out] at ho25)); replace HO508 := Aside0.mk (Kd.S_elder' (S_l HO508.out) (Kd.R_base ho25) hb); have HO511 := Aside0.mk (Kd.R_lower ho25 (zB HB)); replace HB := Aside0.mk (zS HB hb); clear hb ho25; obtain ⟨Ao26, co26, eo26⟩ := Kd.R_slice HO511.out; subst eo26) | (refine gL 41 (some 32) Try.func41 #[.slice A0 l0.length c0, .slice Ao26 y509.length co26] ?_; (with_reducible refine (spec_ActWord.calls kj2 _ _ l0 _ _ y509 t512 _ ?side1 ?side2 ?side3 ?side4 A13.out).mono ?_); (case side1 => exact C_l (Kd.C_below HR0.out HB.out)); (case side2 => exact HC0.out); (case side3 => exact C_l ((Kd.R_reads' HO511.out).2.2)); (case side4 => exact (Kd.R_reads' HO511.out).2.1); rintro e w27 ⟨v513, rfl, ho0, hb⟩; obtain ⟨Aq_, cq_, eq_⟩ := Kd.R_slice ho0; subst eq_; refine ⟨_, rfl, ?_⟩; replace HO508 := Aside0.mk (Kd.S_elder' (S_l HO508.out) (Kd.R_base ho0) hb); have HO514 := Aside0.mk (Kd.R_lower (Kd.R_new' ho0 (Kd.R_lt (R_l HO511.out))) (zB HB)); replace HO511 := Aside0.mk (Kd.R_elder' (R_l HO511.out) (Kd.R_base ho0) hb); replace HB := Aside0.mk (zS HB hb); have p16 : 0 ≤ (a1 : Int) := dT; have q16 : (a1 : Int) < ((t506.length : Int) : Int) := dT; obtain ⟨go16, co16, eo16, gb16, gl16, cl16, HG16⟩ := Kd.S_form HO508.out (by omega); (first | cases eo16 | (injection eo16 with ea_ en_ ec_; (first | subst ea_ | (injection ea_ with ea_; subst ea_)); subst ec_; clear en_)); have GB16 := Aside0.mk gb16; have GG16 := Aside0.mk HG16; clear gb16 gl16 HG16; obtain ⟨_, ce16, hcl16, hM16, hcc16, hfr16, _, _⟩ := Kd.S_elem HO508.out [] (a1 : Int) p16 q16; obtain ⟨ve16_0, rfl, ge16_0⟩ := hM16; have hx16_0 := hcc16 0 _ rfl; have hf16_0 := hfr16 0; (try simp only [show ((Kd.slice 3 (Kd.int .i64))).sz = 1 from rfl, Nat.mul_one, Nat.add_zero] at hx16_0); (try simp only [show ((Kd.slice 3 (Kd.int .i64))).sz = 1 from rfl, Nat.mul_one, Nat.add_zero] at hf16_0); clear hcl16 hcc16 hfr16; (try clear hM16); replace p16 := eq_true p16; replace q16 := eq_true q16; have n_ := Aside0.mk (Kd.S_mono (ok' := (fun k_ => some k_ ≠ (.slice Ao26 y509.length co26 : Value).ownBlock ∧ some k_ ≠ ((.slice Aq_ t512.length cq_ : Value) : Value).ownBlock)) HO508.out (fun k_ hk => ⟨hk.1.2, hk.2⟩)); clear HO508; have HO508 := n_; clear n_; have HX28 := Aside0.mk (show Kd.S (Kd.slice 3 (Kd.int .i64)) 35 w27 w.heap.size (fun k_ => ((fun k_ => some k_ ≠ (.slice Ao26 y509.length co26 : Value).ownBlock)) k_ ∧ ¬ ((fun k_ => some k_ = ((.slice Aq_ t512.length cq_ : Value) : Value).ownBlock)) k_) (.slice (some ⟨go16, 0, none⟩) t506.length co16) t506 from (S_l (Kd.S_mono HO508.out (fun k_ hk => ⟨hk.1, fun e_ => hk.2 e_⟩)))); obtain ⟨oki28, ce28, hcl28, hM28, hcc28, hfr28, hoki28, hH28⟩ := Kd.S_elem HX28.out [] (a1 : Int) dT (by have h_ : (a1 : Int) < ((t506.length : Int) : Int) := dT; first | exact h_ | (have e_ := (Kd.S_reads' HO508.out).1; omega) | simpa using h_); obtain ⟨ve28_0, rfl, ge28_0⟩ := hM28; have HP28 := Kd.S_seg hH28 dT (by have h_ : (a1 : Int) < ((t506.length : Int) : Int) := dT; first | exact h_ | (have e_ := (Kd.S_reads' HO508.out).1; omega) | simpa using h_) (seg := [(.slice Aq_ t512.length cq_ : Value)]) (j := 0) (show 1 ≤ 1 from by decide) (x' := t512) (Kd.M_row (Kd.R_mono (Kd.R_tight rfl (Kd.R_mono (ok' := fun k_ => ((fun k_ => some k_ ≠ (.slice Ao26 y509.length co26 : Value).ownBlock)) k_ ∧ k_ ≠ go16) (Kd.R_apart' (HO514.out) (Kd.S_typed HO508.out) (by decide)) (fun k_ hk => ⟨hk.1.2, fun e_ => (hk.2) (by rw [e_]; rfl)⟩))) (fun _ h_ => Or.inr (h_)))) (fun _ hk => hk) (fun k_ hk_ => ((Kd.R_mono (ok' := fun k_ => ((fun k_ => some k_ ≠ (.slice Ao26 y509.length co26 : Value).ownBlock)) k_ ∧ k_ ≠ go16) (Kd.R_apart' (HO514.out) (Kd.S_typed HO508.out) (by decide)) (fun k_ hk => ⟨hk.1.2, fun e_ => (hk.2) (by rw [e_]; rfl)⟩))).1 k_ hk_.symm); have hx28_0 := hcc28 0 _ rfl; (try simp only [show ((Kd.slice 3 (Kd.int .i64))).sz = 1 from rfl, Nat.mul_one, Nat.add_zero] at hx28_0); have hf28_0 := hfr28 0; (try simp only [show ((Kd.slice 3 (Kd.int .i64))).sz = 1 from rfl, Nat.mul_one, Nat.add_zero] at hf28_0); clear hcl28 hcc28 hfr28 hoki28 hH28; (try clear hM28); (try simp only [show ((Kd.slice 3 (Kd.int .i64))).sz = 1 from rfl, Nat.mul_one, Nat.add_zero] at HP28)) | ((with_reducible refine gate_store (t := 35) (p := 33) rfl ?_); refine store_event (t := 35) (p := 33) (v := ?vo_w29) (w1 := (w27.setCell ⟨go16, (a1 : Int).toNat, none⟩ ((.slice Aq_ t512.length cq_ : Value)))) ?hg ?ho ?hn ?hr ?_; (case ho => rfl); (case hg => rfl); (case hn => rfl); (case hr => exact gS); intro w29 hw; have hg : w27.grownBy w29 (some go16) := (by rw [hw]; exact HP28.2); have hp_ : Kd.S (Kd.slice 3 (Kd.int .i64)) 35 w29 w.heap.size (fun k_ => some k_ ≠ (.slice Ao26 y509.length co26 : Value).ownBlock) (.slice (some ⟨go16, 0, none⟩) t506.length co16) y515 := (by rw [hw, Ny515.out]; exact HP28.1); clear HP28; replace HO511 := Aside0.mk (Kd.R_over' (v := (.slice (some ⟨go16, 0, none⟩) t506.length co16)) (R_l HO511.out) (Kd.S_typed HO508.out) (by decide) hg); replace HO508 := Aside0.mk (hp_); replace HB := Aside0.mk ((by rw [hw]; exact below_set (HB.out) GB16.out : Below w.heap.size w w29)); clear HO514; clear hg hw hp_) | ((with_reducible refine gate_dst (N := 37) rfl ?_); (try (refine gate_guard (by rfl) ?_; dsimp only)); refine Kd.R_lit (Kd.int .i64) _ 3 ?hg (N := 37) ?hd (xs := ([] : List Int)) (inner := []) (ok := fun _ => True) (okp := fun _ => True) ?hr ?hp (fun _ hk => hk) trivial (Below.refl _ _) (Nat.le_refl _) (by simp) ?_; (case hd => rfl); (case hg => rfl); (case hr => exact gS); (case hp => exact (Reps.none _ _)); intro v517 w30 ho31 hb hg_ hnew_; clear hg_ hnew_; (first | rw [← Ny516.out] at ho31 | (simp only [Int.reduceToNat] at ho31; rw [← Ny516.out] at ho31)); replace HO508 := Aside0.mk (Kd.S_elder' (S_l HO508.out) (Kd.R_base ho31) hb); have HO518 := Aside0.mk (Kd.R_lower (Kd.R_new' ho31 (Kd.R_lt (R_l HO511.out))) (zB HB)); replace HO511 := Aside0.mk (Kd.R_elder' (R_l HO511.out) (Kd.R_base ho31) hb); replace HB := Aside0.mk (zS HB hb); clear hb ho31; have p519 : 0 ≤ (a1 : Int) := dT; have q519 : a1 < (l0.length : Int) := dT; obtain ⟨ad519, A519_0, c519_0, e519, hx519_0, hl519_0, hi519_0⟩ := at_L3 HR0.out a1 p519 q519; cases e519; replace hx519_0 := cB HB hx519_0; have HR519_0 := Aside0.mk hi519_0; have HC519_0 := Aside0.mk hl519_0; clear hi519_0 hl519_0; replace p519 := eq_true p519; replace q519 := eq_true q519) | ((with_reducible refine gate_builtin (b := .append) (xs := #[.tmp 37, .tmp 41]) rfl ?_); (try (refine gate_guard (by rfl) ?_; dsimp only)); at_builtin; refine Kd.R_append_rows (Kd.int .i64) (w0 := w) w.heap.size rfl (.tmp 37) (.tmp 41) 35 3 (.int .i64 0) 8 rfl Try.underlying35 info3 rfl (by decide) (by omega) v517 y516 (rd_L3 l0 a1) _ _ _ (fun k_ => some k_ ≠ (.slice Ao26 y509.length co26 : Value).ownBlock) (fun _ => False) rfl rfl ?aO ?aR (fun _ _ h => h) (fun _ h => h.elim) ?aF ?aB ?aS ?aL ?_; (case aR => exact C_l (Kd.C_below HR519_0.out HB.out)); (case aB => exact (B_l HB.out)); (case aF => exact (fun k_ hk => Kd.fresh' (Kd.R_lt (R_l HO511.out)) k_ hk)); (case aO => exact (R_l (Kd.R_mono HO518.out (fun _ hk => hk.2)))); (case aS => exact (zB HB)); (case aL => have := LMc18.out; omega); intro v521 w32 ho hb hg hat; rw [← Ny520.out] at ho; obtain ⟨Ar_, cr_, er_⟩ := Kd.R_slice ho; subst er_; replace HO508 := Aside0.mk (Kd.S_after (ok := (fun k_ => some k_ ≠ (.slice Ao26 y509.length co26 : Value).ownBlock)) (S_l HO508.out) hg hat); replace HO511 := Aside0.mk (Kd.R_after (ok := (fun _ => True)) (R_l (Kd.R_mono HO511.out (fun _ hk => ⟨trivial, hk.2⟩))) hg hat); replace HB := Aside0.mk (hb); have HO522 := Aside0.mk (ho); clear HO518; clear ho hb hg hat; have p22 : 0 ≤ ((ji19) : Int) := dT; have q22 : ((ji19) : Int) < ((t506.length : Int) : Int) := dT; obtain ⟨_, ce22, hcl22, hM22, hcc22, hfr22, _, _⟩ := Kd.S_elem HO508.out [] ((ji19) : Int) p22 q22; obtain ⟨ve22_0, rfl, ge22_0⟩ := hM22; have hx22_0 := hcc22 0 _ rfl; have hf22_0 := hfr22 0; (try simp only [show ((Kd.slice 3 (Kd.int .i64))).sz = 1 from rfl, Nat.mul_one, Nat.add_zero] at hx22_0); (try simp only [show ((Kd.slice 3 (Kd.int .i64))).sz = 1 from rfl, Nat.mul_one, Nat.add_zero] at hf22_0); clear hcl22 hcc22 hfr22; (try clear hM22); replace p22 := eq_true p22; replace q22 := eq_true q22; have HX33 := Aside0.mk (show Kd.S (Kd.slice 3 (Kd.int .i64)) 35 w32 w.heap.size (fun k_ => ((fun k_ => some k_ ≠ (.slice Ao26 y509.length co26 : Value).ownBlock)) k_ ∧ ¬ ((fun k_ => some k_ = ((.slice Ar_ y520.length cr_ : Value) : Value).ownBlock)) k_) (.slice (some ⟨go16, 0, none⟩) t506.length co16) y515 from (S_l (Kd.S_mono HO508.out (fun k_ hk => ⟨hk.1, fun e_ => hk.2 e_⟩)))); obtain ⟨oki33, ce33, hcl33, hM33, hcc33, hfr33, hoki33, hH33⟩ := Kd.S_elem HX33.out [] ((ji19) : Int) dT (by have h_ : ((ji19) : Int) < ((t506.length : Int) : Int) := dT; first | exact h_ | (have e_ := (Kd.S_reads' HO508.out).1; omega) | simpa using h_); obtain ⟨ve33_0, rfl, ge33_0⟩ := hM33; have HP33 := Kd.S_seg hH33 dT (by have h_ : ((ji19) : Int) < ((t506.length : Int) : Int) := dT; first | exact h_ | (have e_ := (Kd.S_reads' HO508.out).1; omega) | simpa using h_) (seg := [(.slice Ar_ y520.length cr_ : Value)]) (j := 0) (show 1 ≤ 1 from by decide) (x' := y520) (Kd.M_row (Kd.R_mono (Kd.R_tight rfl (Kd.R_mono (ok' := fun k_ => ((fun k_ => some k_ ≠ (.slice Ao26 y509.length co26 : Value).ownBlock)) k_ ∧ k_ ≠ go16) (Kd.R_apart' (HO522.out) (Kd.S_typed HO508.out) (by decide)) (fun k_ hk => ⟨hk.1, fun e_ => (hk.2) (by rw [e_]; rfl)⟩))) (fun _ h_ => Or.inr (h_)))) (fun _ hk => hk) (fun k_ hk_ => ((Kd.R_mono (ok' := fun k_ => ((fun k_ => some k_ ≠ (.slice Ao26 y509.length co26 : Value).ownBlock)) k_ ∧ k_ ≠ go16) (Kd.R_apart' (HO522.out) (Kd.S_typed HO508.out) (by decide)) (fun k_ hk => ⟨hk.1, fun e_ => (hk.2) (by rw [e_]; rfl)⟩))).1 k_ hk_.symm); have hx33_0 := hcc33 0 _ rfl; (try simp only [show ((Kd.slice 3 (Kd.int .i64))).sz = 1 from rfl, Nat.mul_one, Nat.add_zero] at hx33_0); have hf33_0 := hfr33 0; (try simp only [show ((Kd.slice 3 (Kd.int .i64))).sz = 1 from rfl, Nat.mul_one, Nat.add_zero] at hf33_0); clear hcl33 hcc33 hfr33 hoki33 hH33; (try clear hM33); (try simp only [show ((Kd.slice 3 (Kd.int .i64))).sz = 1 from rfl, Nat.mul_one, Nat.add_zero] at HP33)) | ((with_reducible refine gate_store (t := 35) (p := 43) rfl ?_); refine store_event (t := 35) (p := 43) (v := ?vo_w34) (w1 := (w32.setCell ⟨go16, ((ji19) : Int).toNat, none⟩ ((.slice Ar_ y520.length cr_ : Value)))) ?hg ?ho ?hn ?hr ?_; (case ho => rfl); (case hg => rfl); (case hn => rfl); (case hr => exact gS); intro w34 hw; have hg : w32.grownBy w34 (some go16) := (by rw [hw]; exact HP33.2); have hp_ : Kd.S (Kd.slice 3 (Kd.int .i64)) 35 w34 w.heap.size (fun k_ => some k_ ≠ (.slice Ao26 y509.length co26 : Value).ownBlock) (.slice (some ⟨go16, 0, none⟩) t506.length co16) y523 := (by rw [hw, Ny523.out]; exact HP33.1); clear HP33; replace HO511 := Aside0.mk (Kd.R_over' (v := (.slice (some ⟨go16, 0, none⟩) t506.length co16)) (R_l HO511.out) (Kd.S_typed HO508.out) (by decide) hg); replace HO508 := Aside0.mk (hp_); replace HB := Aside0.mk ((by rw [hw]; exact below_set (HB.out) GB16.out : Below w.heap.size w w34)); clear HO522; clear hg hw hp_))
     go_ret2
     exact ⟨_, by first | rfl | (simp [errW_none, errW_some] <;> rfl) | (simp only [← hji19]; first | rfl | (simp [errW_none, errW_some] <;> rfl)) | (simp [*, errW_none, errW_some] <;> rfl), S_l (Kd.S_mono HO508.out (fun _ hk => trivial)), B_l HB.out⟩
    ·rw [if_neg c14] at H
     exact absurd H (by simp)

/-! ### spec_IsMap: function 51 -/
def spec_IsMap.f (k : Nat) (l0 : List Int) : Option (Bool) := (spec_l1In.f (l0.length : Int) 2 24).bind fun t524 => (if t524 = true then (if ((l0.length : Int) % 2) = 0 then ((spec_l6Perm.f k l0).bind fun t525 => (some t525)) else (some false)) else (some false))
theorem spec_IsMap.mono : ∀ a0 k, LeO (spec_IsMap.f k a0) (spec_IsMap.f (k + 1) a0) := by
 intro a0 k
 unfold spec_IsMap.f
 exact mM1 spec_l6Perm.mono
set_option maxHeartbeats 8000000 in
set_option maxRecDepth 100000 in
theorem spec_IsMap.calls (k : Nat) (A0 : Option Addr) (c0 : Nat) (l0 : List Int) (r : Bool) (w : World) (hr0 : Kd.C (Kd.int .i64) w A0 l0.length l0) (hc0 : l0.length ≤ c0) (h : spec_IsMap.f k l0 = some r) :
  Calls Try.prog 51 #[.slice A0 l0.length c0] w fun e w' => e = .returned (.bool r) ∧ Below w.heap.size w w' := by
 have HR0 := Aside0.mk hr0
 have HC0 := Aside0.mk hc0
 clear hr0 hc0
 have HB := Aside0.mk (Below.refl w.heap.size w)
 have H : ((spec_l1In.f (l0.length : Int) 2 24).bind fun t524 => (if t524 = true then (if ((l0.length : Int) % 2) = 0 then ((spec_l6Perm.f k l0).bind fun t525 => (some t525)) else (some false)) else (some false))) = some r := h
 clear h
 obtain ⟨t524, A2, H⟩ := bs H
 by_cases c3 : t524 = true
 ·subst c3
  rw [if_pos rfl] at H
  by_cases c4 : ((l0.length : Int) % 2) = 0
  ·rw [if_pos c4] at H
   have c4b0 : (((l0.length : Int) % 2) == 0) = true := beq_iff_eq.mpr c4
   have c4b1 : (((l0.length : Int) % 2) != 0) = false := bne_eq_false_iff_eq.mpr c4
   clear c4
   obtain ⟨t525, A5, H⟩ := bs H
   obtain rfl := Option.some.inj H
   go_enter Try.func51, Try.ntmps51
   go_wp2_with (first | (refine gL 38 (some 5) Try.func38 #[.int .i64 (l0.length : Int), .int .i64 2, .int .i64 24] ?_; (with_reducible refine (spec_l1In.calls (l0.length : Int) 2 24 true _ A2.out).mono ?_); rintro e w' ⟨rfl, ⟨nd, rfl⟩⟩; refine ⟨_, rfl, ?_⟩) | (go_at_call 74; (with_reducible refine (spec_l6Perm.calls k _ _ l0 t525 _ ?side1 ?side2 A5.out).mono ?_); (case side1 => exact C_l HR0.out); (case side2 => exact HC0.out); rintro e w6 ⟨rfl, hb⟩; replace HB := Aside0.mk (zS HB hb)))
   go_ret
   exact ⟨rE, B_l HB.out⟩
  ·rw [if_neg c4] at H
   have c4b0 : (((l0.length : Int) % 2) == 0) = false := beq_eq_false_iff_ne.mpr c4
   have c4b1 : (((l0.length : Int) % 2) != 0) = true := bne_iff_ne.mpr c4
   obtain rfl := Option.some.inj H
   go_enter Try.func51, Try.ntmps51
   go_wp2_with (first | (refine gL 38 (some 5) Try.func38 #[.int .i64 (l0.length : Int), .int .i64 2, .int .i64 24] ?_; (with_reducible refine (spec_l1In.calls (l0.length : Int) 2 24 true _ A2.out).mono ?_); rintro e w' ⟨rfl, ⟨nd, rfl⟩⟩; refine ⟨_, rfl, ?_⟩))
   go_ret
   exact ⟨rE, B_l HB.out⟩
 ·replace c3 := Bool.eq_false_iff.mpr c3
  subst c3
  rw [if_neg (show ¬ (false = true) by decide)] at H
  obtain rfl := Option.some.inj H
  go_enter Try.func51, Try.ntmps51
  go_wp2_with (first | (refine gL 38 (some 5) Try.func38 #[.int .i64 (l0.length : Int), .int .i64 2, .int .i64 24] ?_; (with_reducible refine (spec_l1In.calls (l0.length : Int) 2 24 false _ A2.out).mono ?_); rintro e w' ⟨rfl, ⟨nd, rfl⟩⟩; refine ⟨_, rfl, ?_⟩))
  go_ret
  exact ⟨rE, B_l HB.out⟩

end Go.Proofs.Ytkbkkpgllphdhaa.PFnBranches
