import Derived.Test.YtepogblkmiidnaaWSpanB
import Derived.Test.YtepogblkmiidnaaPFnCoversx0
namespace Go.Proofs.Ytepogblkmiidnaa.PFnCovers
open Go.RowKit Go.Proofs.YtepogblkmiidnaaW.PrintWords Go.Proofs.YtepogblkmiidnaaW.PrintLast Go.Proofs.YtepogblkmiidnaaW.PrintMore
attribute [local go_sem] max2_int min2_int max_two min_two max_three min_three max_four min_four   -- for this text's walks alone
set_option linter.unusedVariables false
set_option linter.unusedSimpArgs false

/-! ### impl_parts: function 31 -/
/-- a joiner at block g: its one field is the row v, which reads up -/
structure JB (w : World) (base g : Nat) (v : Value) (up : List Int) : Prop where
 cell : w.heap[g]? = some (.cells #[v] 86 (0, 0))
 ge : base ≤ g
 row : Kd.R (Kd.int .i64) 3 w base (fun k => k ≠ g) v up
theorem JB.at_ {w : World} {base g : Nat} {v : Value} {up : List Int} (h : JB w base g v up) : w.cell? ⟨g, 0, none⟩ = some v := by
 rw [cell_of_row w g 0 _ _ _ h.cell]; rfl
theorem JB.below {w w1 : World} {base g : Nat} {v : Value} {up : List Int} (h : JB w base g v up) (hb : Below w.heap.size w w1) : JB w1 base g v up :=
 ⟨(hb.block g (blk_lt h.cell)).trans h.cell, h.ge, Kd.R_below h.row hb⟩
theorem JB.form {w : World} {base g : Nat} {v : Value} {up : List Int} (h : JB w base g v up) (hp : 0 < up.length) : ∃ b cap, v = .slice (some ⟨b, 0, none⟩) up.length cap ∧ base ≤ b ∧ b ≠ g := by
 obtain ⟨b, cap, hv, hb, hl, cs, hc⟩ := Kd.R_form h.row hp
 exact ⟨b, cap, hv, hb, h.row.1 b (by rw [hv]; rfl)⟩
mutual
def impl_parts.top : Nat → List Int → Int → Option Int
 | 0, _, _ => none
 | k + 1, up, i => if 0 ≤ i then (if i < (up.length : Int) then (if (rd up i) = i then (some i) else (impl_parts.top k up (rd up i))) else (none)) else (none)
def impl_parts.new : Nat → List Int → Int → Int → Option (List Int)
 | 0, _, _, _ => none
 | k + 1, up, n, i => if i < n then (if up.length < 17592186044416 then (impl_parts.new k (up ++ [i]) n (wrap64 (i + 1))) else (none)) else (some up)
end
def impl_parts.join (k : Nat) (up : List Int) (a b : Int) : Option (List Int) := (impl_parts.top k up a).bind fun x => ((impl_parts.top k up b).bind fun y => (if x > y then (if 0 ≤ x then (if x < (up.length : Int) then (some (up.set x.toNat y)) else (none)) else (none)) else (if 0 ≤ y then (if y < (up.length : Int) then (some (up.set y.toNat x)) else (none)) else (none))))
set_option maxHeartbeats 8000000 in
set_option maxRecDepth 100000 in
theorem J_top (k : Nat) (g : Nat) (v : Value) (up : List Int) (i r : Int) (base : Nat) (w : World) (hj : JB w base g v up) (h : impl_parts.top k up i = some r) :
  Calls Try.prog 71 #[.pointer (some ⟨g, 0, none⟩), .int .i64 i] w fun e w' => e = .returned (.int .i64 r) ∧ w = w' := by
 have HJ := Aside0.mk hj
 clear hj
 have H' := Aside0.mk h
 clear h
 go_enter Try.func71, Try.ntmps71
 go_wp2
 go_loopg [1] k (fun kq v1 w' => ∃ (x1_1 : Int), v1 = .int .i64 x1_1 ∧ Aside0 (impl_parts.top kq up x1_1 = some r) ∧ Aside0 (kq ≤ k) ∧ w = w')
 case atStart => exact ⟨i, rfl, H', ⟨Nat.le_refl _⟩, rfl⟩
 case round =>
  clear H'
  obtain ⟨x1_1, rfl, HA, HK1, rfl⟩ := hrel
  cases gk with
  | zero => exact absurd HA.out (by simp [impl_parts.top])
  | succ k1 =>
   have H := HA.out
   clear HA
   simp only [impl_parts.top] at H
   obtain ⟨c3, H⟩ := gd H
   obtain ⟨c4, H⟩ := gd H
   obtain ⟨b, cap, hv, _, _⟩ := HJ.out.form (by omega)
   have hcell := HJ.out.at_
   have HR := Aside0.mk (show Kd.R (Kd.int .i64) 3 w base (fun k => k ≠ g) (.slice (some ⟨b, 0, none⟩) up.length cap) up from hv ▸ HJ.out.row)
   subst hv
   obtain ⟨hx1, hf1⟩ := Kd.R_celln 0 HR.out x1_1 c3 c4
   replace hx1 : w.cell? ⟨b, x1_1.toNat, none⟩ = some (.int .i64 (rd up x1_1)) := hx1
   have c3b0 : decide (0 ≤ x1_1) = true := decide_eq_true c3
   have c4b0 : decide (x1_1 < (up.length : Int)) = true := decide_eq_true c4
   replace c3 := eq_true c3
   replace c4 := eq_true c4
   by_cases c5 : (rd up x1_1) = x1_1
   ·rw [if_pos c5] at H
    have c5b0 : ((rd up x1_1) == x1_1) = true := beq_iff_eq.mpr c5
    have c5b1 : ((rd up x1_1) != x1_1) = false := bne_eq_false_iff_eq.mpr c5
    clear c5
    obtain rfl := Option.some.inj H
    clear H
    go_wp2
    go_ret
    exact ⟨rfl, rfl⟩
   ·rw [if_neg c5] at H
    have c5b0 : ((rd up x1_1) == x1_1) = false := beq_eq_false_iff_ne.mpr c5
    have c5b1 : ((rd up x1_1) != x1_1) = true := bne_iff_ne.mpr c5
    clear c5
    have H' := Aside0.mk H
    clear H
    go_wp2
    go_roundg k1
    case measure => exact oK
    case rel => exact ⟨(rd up x1_1), rfl, H', ⟨oK⟩, rfl⟩
set_option maxHeartbeats 8000000 in
set_option maxRecDepth 100000 in
theorem J_join (k : Nat) (g : Nat) (v : Value) (up : List Int) (a b : Int) (up' : List Int) (base : Nat) (w0 w : World) (hj : JB w base g v up) (hB : Below w0.heap.size w0 w) (hb : w0.heap.size ≤ base) (h : impl_parts.join k up a b = some up') :
  Calls Try.prog 70 #[.pointer (some ⟨g, 0, none⟩), .int .i64 a, .int .i64 b] w fun e w' => e = .returned (.tuple #[]) ∧ JB w' base g v up' ∧ Below w0.heap.size w0 w' := by
 have HJ := Aside0.mk hj
 have HB := Aside0.mk hB
 have HL := Aside0.mk hb
 clear hj hB hb
 obtain ⟨x, hx, h⟩ := Option.bind_eq_some_iff.mp h
 obtain ⟨y, hy, h⟩ := Option.bind_eq_some_iff.mp h
 have HX := Aside0.mk hx
 have HY := Aside0.mk hy
 clear hx hy
 go_enter Try.func70, Try.ntmps70
 by_cases c : x > y
 ·rw [if_pos c] at h
  have cb : decide (y < x) = true := decide_eq_true c
  by_cases c1 : 0 ≤ x
  ·rw [if_pos c1] at h
   by_cases c2 : x < (up.length : Int)
   ·rw [if_pos c2] at h
    obtain rfl := Option.some.inj h
    obtain ⟨bl, cap, hv, hge, hne⟩ := HJ.out.form (by omega)
    have hcell := HJ.out.at_
    have HR := Aside0.mk (show Kd.R (Kd.int .i64) 3 w base (fun k => k ≠ g) (.slice (some ⟨bl, 0, none⟩) up.length cap) up from hv ▸ HJ.out.row)
    subst hv
    obtain ⟨hx1, hf1⟩ := Kd.R_celln 0 HR.out x c1 c2
    have HP := Kd.R_putg HR.out x y
    have HG := Aside0.mk (Nat.le_trans HL.out hge)
    have HN := Aside0.mk hne
    clear hne hge
    replace c1 := eq_true c1
    replace c2 := eq_true c2
    clear h c
    go_wp2_with (first | (go_at_call 71; (with_reducible refine (J_top k g _ up a x base _ HJ.out HX.out).mono ?_); rintro e w' ⟨rfl, rfl⟩) | (go_at_call 71; (with_reducible refine (J_top k g _ up b y base _ HJ.out HY.out).mono ?_); rintro e w' ⟨rfl, rfl⟩))
    first | go_end0 | ((try simp only [Exit.inBlock, Exit.then]); refine bodyPost_ret (results_none rfl _ _ _) rfl ?_)
    exact ⟨rfl, ⟨(Below.heap_setCell w ⟨bl, x.toNat, none⟩ _ g (fun e => HN.out e.symm)).trans HJ.out.cell, HJ.out.ge, HP.1⟩, below_set HB.out HG.out⟩
   ·rw [if_neg c2] at h; cases h
  ·rw [if_neg c1] at h; cases h
 ·rw [if_neg c] at h
  have cb : decide (y < x) = false := decide_eq_false c
  by_cases c1 : 0 ≤ y
  ·rw [if_pos c1] at h
   by_cases c2 : y < (up.length : Int)
   ·rw [if_pos c2] at h
    obtain rfl := Option.some.inj h
    obtain ⟨bl, cap, hv, hge, hne⟩ := HJ.out.form (by omega)
    have hcell := HJ.out.at_
    have HR := Aside0.mk (show Kd.R (Kd.int .i64) 3 w base (fun k => k ≠ g) (.slice (some ⟨bl, 0, none⟩) up.length cap) up from hv ▸ HJ.out.row)
    subst hv
    obtain ⟨hx1, hf1⟩ := Kd.R_celln 0 HR.out y c1 c2
    have HP := Kd.R_putg HR.out y x
    have HG := Aside0.mk (Nat.le_trans HL.out hge)
    have HN := Aside0.mk hne
    clear hne hge
    replace c1 := eq_true c1
    replace c2 := eq_true c2
    clear h c
    go_wp2_with (first | (go_at_call 71; (with_reducible refine (J_top k g _ up a x base _ HJ.out HX.out).mono ?_); rintro e w' ⟨rfl, rfl⟩) | (go_at_call 71; (with_reducible refine (J_top k g _ up b y base _ HJ.out HY.out).mono ?_); rintro e w' ⟨rfl, rfl⟩))
    first | go_end0 | ((try simp only [Exit.inBlock, Exit.then]); refine bodyPost_ret (results_none rfl _ _ _) rfl ?_)
    exact ⟨rfl, ⟨(Below.heap_setCell w ⟨bl, y.toNat, none⟩ _ g (fun e => HN.out e.symm)).trans HJ.out.cell, HJ.out.ge, HP.1⟩, below_set HB.out HG.out⟩
   ·rw [if_neg c2] at h; cases h
  ·rw [if_neg c1] at h; cases h
def JNew (w : World) (r : List Int) (e : Ending) (w' : World) : Prop := ∃ g v, e = .returned (.pointer (some ⟨g, 0, none⟩)) ∧ JB w' w.heap.size g v r ∧ Below w.heap.size w w'
set_option maxHeartbeats 8000000 in
set_option maxRecDepth 100000 in
theorem J_new (k : Nat) (n : Int) (r : List Int) (w : World) (h : impl_parts.new k [] n 0 = some r) :
  Calls Try.prog 69 #[.int .i64 n] w (JNew w r) := by
 have H' := Aside0.mk h
 clear h
 have hu82 := Try.underlying86
 go_enter Try.func69, Try.ntmps69
 go_wp2_with ((with_reducible refine gate_dst (N := 6) rfl ?_); refine box_event ?hg (N := 6) ?hd (cs := #[.slice none 0 0]) (t := 86) ?hr ?_; (case hd => rfl); (case hg => rfl); (case hr => exact gS); intro gb hg w5 hbox hb; have HJ0 := Aside0.mk (show JB w5 w.heap.size gb (.slice none 0 0) [] from ⟨hbox, by rw [hg]; exact Nat.le_refl _, Kd.R_nil _ _ _ _ _⟩); have HB0 := Aside0.mk hb; have HG := Aside0.mk (show w.heap.size ≤ gb by rw [hg]; exact Nat.le_refl _); clear hbox hb hg)
 go_loopg [8] k (fun kq v8 w' => ∃ (x8 : Int) (v : Value) (up : List Int), v8 = .int .i64 x8 ∧ Aside0 (impl_parts.new kq up n x8 = some r) ∧ Aside0 (kq ≤ k) ∧ Aside0 (JB w' w.heap.size gb v up) ∧ Aside0 (Below w.heap.size w w'))
 case atStart => exact ⟨0, _, _, rfl, H', ⟨Nat.le_refl _⟩, HJ0, HB0⟩
 case round =>
  clear H' HJ0 HB0
  obtain ⟨x8, v, up, rfl, HA, HK1, HJ, HB⟩ := hrel
  cases gk with
  | zero => exact absurd HA.out (by simp [impl_parts.new])
  | succ k1 =>
   have H := HA.out
   clear HA
   simp only [impl_parts.new] at H
   obtain ⟨c3b0, H⟩ | ⟨c3b0, H⟩ := gi H
   ·obtain ⟨c4, H⟩ := gd H
    have LM := Aside0.mk c4
    clear c4
    obtain ⟨y, hy⟩ : ∃ y_ : List Int, y_ = up ++ [x8] := ⟨_, rfl⟩
    replace H : impl_parts.new k1 y n (wrap64 (x8 + 1)) = some r := by rw [hy]; exact H
    have Ny := Aside0.mk hy
    clear hy
    have H' := Aside0.mk H
    clear H
    obtain ⟨A, c, hv⟩ := Kd.R_slice HJ.out.row
    subst hv
    have hcell := HJ.out.at_
    have HLT := Aside0.mk (blk_lt HJ.out.cell)
    have HAW := Aside0.mk (Kd.R_away (g := gb) HJ.out.row (fun k hk => hk))
    go_wp2_with (first | ((with_reducible refine gate_builtin (b := .append) (xs := #[.tmp 15, .tmp 17]) rfl ?_); at_builtin; refine Kd.R_append (Kd.int .i64) (w0 := w) w.heap.size rfl (.tmp 15) (.tmp 17) 30 3 (.int .i64 0) 8 rfl Try.underlying30 info3 rfl (by decide) (by omega) (.slice A up.length c) up x8 [.int .i64 x8] (fun k_ => k_ ≠ gb) (fun _ => False) rfl rfl ?aP (fun _ hk => hk.elim) ?aF ?aO ?aB ?aS ?aL ?_; (case aP => exact rfl); (case aB => exact tb); (case aF => exact (fun k_ h_ e_ => by subst e_; exact absurd (Nat.lt_of_lt_of_le HLT.out h_) (Nat.lt_irrefl _))); (case aO => exact (R_l HJ.out.row)); (case aS => exact (below_size tb)); (case aL => have := LM.out; omega); intro v1 w1 ho hb hg hat; rw [← Ny.out] at ho; obtain ⟨A1, c1, hv1⟩ := Kd.R_slice ho; subst hv1; have hc1 := blk_grown (by (with_reducible repeat (first | refine blk_drewN ?_ _ | refine blk_drew ?_ | refine blk_alloc ?_ _)); exact HJ.out.cell) hg HAW.out; have HC1 := Aside0.mk hc1; have hcell1 : w1.cell? ⟨gb, 0, none⟩ = some (.slice A up.length c) := (by rw [cell_of_row w1 gb 0 _ _ _ hc1]; rfl); have hfz1 : w1.frozen? ⟨gb, 0, none⟩ = false := blk_frozen hc1 0; have HO1 := Aside0.mk ho; have HB1 := Aside0.mk hb; clear ho hb hg hat hc1))
    go_roundg k1
    case measure => exact oK
    case rel => exact ⟨(wrap64 (x8 + 1)), _, y, rS, H', ⟨oK⟩, ⟨⟨blk_set HC1.out 0 _, HJ.out.ge, Kd.R_far (p := ⟨gb, 0, none⟩) HO1.out (fun _ hk => hk) _⟩⟩, ⟨below_set HB1.out HG.out⟩⟩
   ·obtain rfl := Option.some.inj H
    go_wp2
    go_ret
    exact ⟨gb, v, rfl, HJ.out, HB.out⟩
mutual
def impl_parts.l1 : Nat → List (List Int) → List Int → Int → Option ((List (List Int)))
 | 0, _, _, _ => none
 | k + 1, l, up, i => if i < (l.length : Int) then (if 0 ≤ i then (impl_parts.l2 k l up i 0) else (none)) else (impl_parts.l3 k l up (([] : List (List Int))) 0)
def impl_parts.l2 : Nat → List (List Int) → List Int → Int → Int → Option ((List (List Int)))
 | 0, _, _, _, _ => none
 | k + 1, l, up, i, s => if s < ((rd_L2 l i).length : Int) then (if 0 ≤ s then ((impl_parts.join k up s (rd (rd_L2 l i) s)).bind fun up2 => (impl_parts.l2 k l up2 i (wrap64 (s + 1)))) else (none)) else (impl_parts.l1 k l up (wrap64 (i + 1)))
def impl_parts.l3 : Nat → List (List Int) → List Int → List (List Int) → Int → Option ((List (List Int)))
 | 0, _, _, _, _ => none
 | k + 1, l, up, out, s => if s < ((rd_L2 l 0).length : Int) then ((impl_parts.top k up s).bind fun x => (if x = s then (impl_parts.l4 k l up out s (([] : List Int)) 0) else (impl_parts.l3 k l up out (wrap64 (s + 1))))) else (some out)
def impl_parts.l4 : Nat → List (List Int) → List Int → List (List Int) → Int → List Int → Int → Option ((List (List Int)))
 | 0, _, _, _, _, _, _ => none
 | k + 1, l, up, out, s, own, t => if t < ((rd_L2 l 0).length : Int) then ((impl_parts.top k up t).bind fun x => (if x = s then (if own.length < 17592186044416 then (impl_parts.l4 k l up out s (own ++ [t]) (wrap64 (t + 1))) else (none)) else (impl_parts.l4 k l up out s own (wrap64 (t + 1))))) else (if out.length < 5864062014805 then (impl_parts.l3 k l up (out ++ [own]) (wrap64 (s + 1))) else (none))
end
def impl_parts.f (k : Nat) (l0 : List (List Int)) : Option ((List (List Int))) := if 0 < (l0.length : Int) then ((impl_parts.new k (([] : List Int)) ((rd_L2 l0 0).length : Int) 0).bind fun up => (impl_parts.l1 k l0 up 0)) else (none)
theorem impl_parts.mono_t : ∀ k, (∀ y0 y1, LeO (impl_parts.top k y0 y1) (impl_parts.top (k + 1) y0 y1)) ∧ (∀ y0 y1 y2, LeO (impl_parts.new k y0 y1 y2) (impl_parts.new (k + 1) y0 y1 y2))
 | 0 => ⟨fun _ _ r h => by simp [impl_parts.top] at h, fun _ _ _ r h => by simp [impl_parts.new] at h⟩
 | k + 1 => by
  obtain ⟨ih0, ih1⟩ := impl_parts.mono_t k
  refine ⟨?_, ?_⟩
  ·intro y0 y1
   unfold impl_parts.top
   exact mM1 ih0
  ·intro y0 y1 y2
   unfold impl_parts.new
   exact mM1 ih1
theorem impl_parts.mono_j (k : Nat) (a : List Int) (b c : Int) : LeO (impl_parts.join k a b c) (impl_parts.join (k + 1) a b c) := by
 unfold impl_parts.join
 exact LeO.bind ((impl_parts.mono_t k).1 _ _) (fun _ => LeO.bind ((impl_parts.mono_t k).1 _ _) (fun _ => LeO.refl _))
set_option maxHeartbeats 8000000 in
set_option maxRecDepth 100000 in
theorem impl_parts.calls (k : Nat) (A0 : Option Addr) (c0 : Nat) (l0 : List (List Int)) (r : List (List Int)) (w : World) (hr0 : Kd.C (Kd.slice 3 (Kd.int .i64)) w A0 l0.length l0) (hc0 : l0.length ≤ c0) (h : impl_parts.f k l0 = some r) :
  Calls Try.prog 31 #[.slice A0 l0.length c0] w fun e w' => ∃ v0_ : Value, e = .returned (v0_) ∧ Kd.S (Kd.slice 3 (Kd.int .i64)) 30 w' w.heap.size (fun _ => True) v0_ r ∧ Below w.heap.size w w' := by
 have HR0 := Aside0.mk hr0
 have HC0 := Aside0.mk hc0
 clear hr0 hc0
 unfold impl_parts.f at h
 by_cases c0_ : 0 < (l0.length : Int)
 ·rw [if_pos c0_] at h
  obtain ⟨up0, AN0, H⟩ := Option.bind_eq_some_iff.mp h
  have AN := Aside0.mk AN0
  have H' := Aside0.mk H
  clear h H AN0
  have c0b0 : decide (0 < (l0.length : Int)) = true := decide_eq_true c0_
  have c0b1 : decide (0 < l0.length) = true := decide_eq_true (by omega)
  obtain ⟨ad0, A00, c00, e0, hx0, hl0, hi0⟩ := at_L2 HR0.out 0 (by omega) c0_
  cases e0
  have qi0 : (0 < l0.length) = True := eq_true (by omega)
  (try rw [show ((0 : Int)).toNat = 0 from rfl] at hx0)
  (try rw [Addr.add_zero'] at hx0)
  have HX0 := Aside0.mk hx0
  clear hi0 hl0
  replace c0_ := eq_true c0_
  go_enter Try.func31, Try.ntmps31
  go_wp2_with (first | (go_at_call 69; (with_reducible refine (J_new k _ up0 w AN.out).mono ?_); rintro e w2 ⟨g, v, rfl, hj, hb⟩; have HJ := Aside0.mk hj; have HB := Aside0.mk hb; clear hj hb))
  clear hx0
  go_loopg [19] k (fun kq v19 w' => ∃ (x19 : Int) (v : Value) (up : List Int), v19 = .int .i64 x19 ∧ Aside0 (impl_parts.l1 kq l0 up x19 = some r) ∧ Aside0 (kq ≤ k) ∧ Aside0 (JB w' w.heap.size g v up) ∧ Aside0 (Below w.heap.size w w'))
  case atStart => exact ⟨0, _, _, rfl, H', ⟨Nat.le_refl _⟩, HJ, HB⟩
  case round =>
   clear H' HJ HB
   obtain ⟨x19, v, up, rfl, HA, HK1, HJ, HB⟩ := hrel
   cases gk with
   | zero => exact absurd HA.out (by simp [impl_parts.l1])
   | succ k1 =>
    have H := HA.out
    clear HA
    simp only [impl_parts.l1] at H
    by_cases c1 : x19 < (l0.length : Int)
    ·rw [if_pos c1] at H
     obtain ⟨c2, H⟩ := gd H
     have H' := Aside0.mk H
     clear H
     have c1b0 : decide (x19 < (l0.length : Int)) = true := decide_eq_true c1
     obtain ⟨ad1, A1, cc1, e1, hx1, hl1, hi1⟩ := at_L2 HR0.out x19 c2 c1
     obtain rfl : ad0 = ad1 := (by injection e1)
     clear e1
     replace hx1 := (HB.out.cell (World.block_lt_of_cell? w _ hx1)).trans hx1
     have HR1 := Aside0.mk hi1
     clear hi1 hl1
     replace c1 := eq_true c1
     replace c2 := eq_true c2
     go_wp2
     go_loopg [25] k1 (fun kq v25 w' => ∃ (x25 : Int) (v : Value) (up : List Int), v25 = .int .i64 x25 ∧ Aside0 (impl_parts.l2 kq l0 up x19 x25 = some r) ∧ Aside0 (kq ≤ k1) ∧ Aside0 (JB w' w.heap.size g v up) ∧ Aside0 (Below w.heap.size w w'))
     case atStart => exact ⟨0, _, _, rfl, H', ⟨Nat.le_refl _⟩, HJ, HB⟩
     case round =>
      clear H' HJ HB hx1
      obtain ⟨x25, v, up, rfl, HA, HK2, HJ, HB⟩ := hrel
      cases gk with
      | zero => exact absurd HA.out (by simp [impl_parts.l2])
      | succ k2 =>
       have H := HA.out
       clear HA
       simp only [impl_parts.l2] at H
       by_cases c3 : x25 < ((rd_L2 l0 x19).length : Int)
       ·rw [if_pos c3] at H
        obtain ⟨c4, H⟩ := gd H
        obtain ⟨up2, AJ0, H⟩ := Option.bind_eq_some_iff.mp H
        have AJ := Aside0.mk AJ0
        have H' := Aside0.mk H
        clear H AJ0
        have c3b0 : decide (x25 < ((rd_L2 l0 x19).length : Int)) = true := decide_eq_true c3
        obtain ⟨ad2, e2, hx2⟩ := Kd.at_int HR1.out x25 c4 c3
        cases e2
        replace hx2 := (HB.out.cell (World.block_lt_of_cell? w _ hx2)).trans hx2
        replace c3 := eq_true c3
        replace c4 := eq_true c4
        go_wp2_with (first | (go_at_call 70; (with_reducible refine (J_join k2 g v up x25 (rd (rd_L2 l0 x19) x25) up2 w.heap.size w _ HJ.out HB.out (Nat.le_refl _) AJ.out).mono ?_); rintro e w3 ⟨rfl, hj, hb⟩; clear hx2; have HJ3 := Aside0.mk hj; have HB3 := Aside0.mk hb; clear hj hb))
        go_roundg k2
        case measure => exact oK
        case rel => exact ⟨(wrap64 (x25 + 1)), _, up2, rS, H', ⟨oK⟩, HJ3, HB3⟩
       ·rw [if_neg c3] at H
        have H' := Aside0.mk H
        clear H
        have c3b0 : decide (x25 < ((rd_L2 l0 x19).length : Int)) = false := decide_eq_false c3
        clear c3
        go_wp2
        go_roundg k2
        case measure => exact oK
        case rel => exact ⟨(wrap64 (x19 + 1)), _, up, rS, H', ⟨oK⟩, HJ, HB⟩
    ·rw [if_neg c1] at H
     have c1b0 : decide (x19 < (l0.length : Int)) = false := decide_eq_false c1
     clear c1
     rename World => w1
     have HJ1 := HJ
     have HB1 := HB
     clear HJ HB
     have hx0 := (HB1.out.cell (World.block_lt_of_cell? w _ HX0.out)).trans HX0.out
     have HX1 := Aside0.mk hx0
     clear hx0
     generalize hy1 : (([] : List (List Int)) : List (List Int)) = y1 at H
     have Ny1 := Aside0.mk hy1.symm; clear hy1
     have H' := Aside0.mk H
     clear H
     have hx0 := HX1.out
     go_wp2_with (first | ((with_reducible refine gate_dst (N := 36) rfl ?_); refine Kd.S_lit (Kd.slice 3 (Kd.int .i64)) _ 30 ?hg (N := 36) ?hd (xs := ([] : List (List Int))) (inner := []) (ok := fun _ => True) (okp := fun _ => True) ?hr ?hp (fun _ hk => hk) trivial (Below.refl _ _) (Nat.le_refl _) (by simp) ?_; (case hd => rfl); (case hg => rfl); (case hr => exact gS); (case hp => exact (Reps.none _ _)); intro v5 w5 ho hb hg_ hnew_; clear hg_ hnew_; (first | rw [← Ny1.out] at ho | (simp only [Int.reduceToNat] at ho; rw [← Ny1.out] at ho)); clear hx0; have hx0 := (hb.cell (World.block_lt_of_cell? w1 _ HX1.out)).trans HX1.out; have HO8 := Aside0.mk ho; have HW := Aside0.mk hb; clear ho hb))
     clear hx0
     go_loopg [8, 41] k1 (fun kq v8 v41 w' => ∃ (out : List (List Int)) (x41 : Int), v41 = .int .i64 x41 ∧ Aside0 (impl_parts.l3 kq l0 up out x41 = some r) ∧ Aside0 (kq ≤ k1) ∧ Aside0 (Kd.S (Kd.slice 3 (Kd.int .i64)) 30 w' w1.heap.size (fun _ => True) v8 out) ∧ Aside0 (Below w1.heap.size w1 w'))
     case atStart => exact ⟨y1, 0, rfl, H', ⟨Nat.le_refl _⟩, HO8, HW⟩
     case round =>
      clear H' HO8 HW
      obtain ⟨out, x41, rfl, HA, HK2, HO8, HW⟩ := hrel
      cases gk with
      | zero => exact absurd HA.out (by simp [impl_parts.l3])
      | succ k2 =>
       have H := HA.out
       clear HA
       simp only [impl_parts.l3] at H
       obtain ⟨c3b0, H⟩ | ⟨c3b0, H⟩ := gi H
       ·obtain ⟨x, AT0, H⟩ := Option.bind_eq_some_iff.mp H
        have AT := Aside0.mk AT0
        clear AT0
        by_cases c4 : x = x41
        ·rw [if_pos c4] at H
         have c4b0 : (x == x41) = true := beq_iff_eq.mpr c4
         have c4b1 : (x != x41) = false := bne_eq_false_iff_eq.mpr c4
         clear c4
         generalize hy2 : (([] : List Int) : List Int) = y2 at H
         have Ny2 := Aside0.mk hy2.symm; clear hy2
         have H' := Aside0.mk H
         clear H
         have hx0 := (HW.out.cell (World.block_lt_of_cell? w1 _ HX1.out)).trans HX1.out
         go_wp2_with (first | (go_at_call 71; (with_reducible refine (J_top k2 g v up x41 x w.heap.size _ (HJ1.out.below HW.out) AT.out).mono ?_); rintro e w' ⟨rfl, rfl⟩) | ((with_reducible refine gate_dst (N := 49) rfl ?_); refine Kd.R_lit (Kd.int .i64) _ 3 ?hg (N := 49) ?hd (xs := ([] : List Int)) (inner := []) (ok := fun _ => True) (okp := fun _ => True) ?hr ?hp (fun _ hk => hk) trivial (Below.refl _ _) (Nat.le_refl _) (by simp) ?_; (case hd => rfl); (case hg => rfl); (case hr => exact gS); (case hp => exact (Reps.none _ _)); intro v6 w6 ho hb hg_ hnew_; clear hg_ hnew_; (first | rw [← Ny2.out] at ho | (simp only [Int.reduceToNat] at ho; rw [← Ny2.out] at ho)); have n1_ := Aside0.mk (Kd.S_elder' (S_l HO8.out) (Kd.R_base ho) hb); have n2_ := Aside0.mk (Kd.R_lower ho (below_size (by repeat (first | (with_reducible first | exact HW.out | apply below_alloc | apply pw_below_drewN | apply below_drew1) | exact HW.out)))); have n3_ := Aside0.mk (below_step (by repeat (first | (with_reducible first | exact HW.out | apply below_alloc | apply pw_below_drewN | apply below_drew1) | exact HW.out)) hb); clear HO8 HW; have HO8 := n1_; have HO10 := n2_; have HW := n3_; clear n1_ n2_ n3_; clear hb ho; clear hx0; have hx0 := (HW.out.cell (World.block_lt_of_cell? w1 _ HX1.out)).trans HX1.out))
         clear hx0
         go_loopg [10, 54] k2 (fun kq v10 v54 w' => ∃ (own : List Int) (x54 : Int), v54 = .int .i64 x54 ∧ Aside0 (impl_parts.l4 kq l0 up out x41 own x54 = some r) ∧ Aside0 (kq ≤ k2) ∧ Aside0 (Kd.S (Kd.slice 3 (Kd.int .i64)) 30 w' w1.heap.size (fun k_ => True ∧ some k_ ≠ (v10 : Value).ownBlock) u8 out) ∧ Aside0 (Kd.R (Kd.int .i64) 3 w' w1.heap.size (fun _ => True) v10 own) ∧ Aside0 (Below w1.heap.size w1 w'))
         case atStart => exact ⟨y2, 0, rfl, H', ⟨Nat.le_refl _⟩, HO8, HO10, HW⟩
         case round =>
          clear H' HO8 HO10 HW
          obtain ⟨own, x54, rfl, HA, HK3, HO8, HO10, HW⟩ := hrel
          cases gk with
          | zero => exact absurd HA.out (by simp [impl_parts.l4])
          | succ k3 =>
           have H := HA.out
           clear HA
           simp only [impl_parts.l4] at H
           obtain ⟨c5b0, H⟩ | ⟨c5b0, H⟩ := gi H
           ·obtain ⟨x_, AT1, H⟩ := Option.bind_eq_some_iff.mp H
            have AT2 := Aside0.mk AT1
            clear AT1
            by_cases c6 : x_ = x41
            ·rw [if_pos c6] at H
             have c6b0 : (x_ == x41) = true := beq_iff_eq.mpr c6
             have c6b1 : (x_ != x41) = false := bne_eq_false_iff_eq.mpr c6
             clear c6
             obtain ⟨c7, H⟩ := gd H
             have LM := Aside0.mk c7
             clear c7
             generalize hy3 : (own ++ [x54] : List Int) = y3 at H
             have Ny3 := Aside0.mk hy3.symm; clear hy3
             have H' := Aside0.mk H
             clear H
             go_wp2_with (first | (go_at_call 71; (with_reducible refine (J_top k3 g v up x54 x_ w.heap.size _ (HJ1.out.below HW.out) AT2.out).mono ?_); rintro e w' ⟨rfl, rfl⟩) | ((with_reducible refine gate_builtin (b := .append) (xs := #[.tmp 62, .tmp 64]) rfl ?_); at_builtin; refine Kd.R_append (Kd.int .i64) (w0 := w1) w1.heap.size rfl (.tmp 62) (.tmp 64) 30 3 (.int .i64 0) 8 rfl Try.underlying30 info3 rfl (by decide) (by omega) u10 own x54 [.int .i64 x54] (fun _ => True) (fun _ => False) rfl rfl ?aP (fun _ hk => hk.elim) ?aF ?aO ?aB ?aS ?aL ?_; (case aP => exact rfl); (case aB => exact (by repeat (first | (with_reducible first | exact HW.out | apply below_alloc | apply pw_below_drewN | apply below_drew1) | exact HW.out))); (case aF => exact (fun _ _ => trivial)); (case aO => exact (R_l HO10.out)); (case aS => exact (below_size (by repeat (first | (with_reducible first | exact HW.out | apply below_alloc | apply pw_below_drewN | apply below_drew1) | exact HW.out)))); (case aL => have := LM.out; omega); intro v7 w7 ho hb hg hat; rw [← Ny3.out] at ho; have n1_ := Aside0.mk (Kd.S_after (ok := (fun _ => True)) (S_l HO8.out) hg hat); have n2_ := Aside0.mk hb; have n3_ := Aside0.mk ho; clear HO8 HW HO10; have HO8 := n1_; have HW := n2_; have HO10 := n3_; clear n1_ n2_ n3_; clear ho hb hg hat))
             go_roundg k3
             case measure => exact oK
             case rel => exact ⟨y3, (wrap64 (x54 + 1)), rS, H', ⟨oK⟩, HO8, HO10, HW⟩
            ·rw [if_neg c6] at H
             have c6b0 : (x_ == x41) = false := beq_eq_false_iff_ne.mpr c6
             have c6b1 : (x_ != x41) = true := bne_iff_ne.mpr c6
             clear c6
             have H' := Aside0.mk H
             clear H
             go_wp2_with (first | (go_at_call 71; (with_reducible refine (J_top k3 g v up x54 x_ w.heap.size _ (HJ1.out.below HW.out) AT2.out).mono ?_); rintro e w' ⟨rfl, rfl⟩))
             go_roundg k3
             case measure => exact oK
             case rel => exact ⟨own, (wrap64 (x54 + 1)), rS, H', ⟨oK⟩, HO8, HO10, HW⟩
           ·obtain ⟨c8, H⟩ := gd H
            have LM := Aside0.mk c8
            clear c8
            generalize hy4 : (out ++ [own] : List (List Int)) = y4 at H
            have Ny4 := Aside0.mk hy4.symm; clear hy4
            have H' := Aside0.mk H
            clear H
            obtain ⟨Ao, co, eo⟩ := Kd.R_slice HO10.out
            subst eo
            go_wp2_with (first | ((with_reducible refine gate_builtin (b := .append) (xs := #[.tmp 67, .tmp 69]) rfl ?_); at_builtin; refine Kd.S_append (Kd.slice 3 (Kd.int .i64)) (w0 := w1) w1.heap.size rfl (.tmp 67) (.tmp 69) 24 30 (.slice none 0 0) 24 rfl Try.underlying24 info30 rfl (by decide) (by omega) u8 out own [.slice Ao own.length co] (fun _ => True) (fun k_ => some k_ = (.slice Ao own.length co : Value).ownBlock) rfl rfl ?aP (fun k_ hk_ => ((Kd.R_apart' (HO10.out) (Kd.S_typed HO8.out) (by decide))).1 k_ hk_.symm) ?aF ?aO ?aB ?aS ?aL ?_; (case aP => exact Kd.M_row (Kd.R_mono (Kd.R_tight rfl (Kd.R_apart' (HO10.out) (Kd.S_typed HO8.out) (by decide))) (fun _ h_ => h_))); (case aB => exact (by repeat (first | (with_reducible first | exact HW.out | apply below_alloc | apply pw_below_drewN | apply below_drew1) | exact HW.out))); (case aF => exact (fun _ _ => trivial)); (case aO => exact (S_l (Kd.S_mono HO8.out (fun k_ hk => ⟨hk.1, fun e_ => hk.2 e_⟩)))); (case aS => exact (below_size (by repeat (first | (with_reducible first | exact HW.out | apply below_alloc | apply pw_below_drewN | apply below_drew1) | exact HW.out)))); (case aL => have := LM.out; omega); intro v9 w9 ho hb hg hat; rw [← Ny4.out] at ho; have n1_ := Aside0.mk hb; have n2_ := Aside0.mk ho; clear HW HO8 HO10; have HW := n1_; have HO8 := n2_; clear n1_ n2_; clear ho hb hg hat))
            go_roundg k3
            case measure => exact oK
            case rel => exact ⟨y4, (wrap64 (x41 + 1)), rS, H', ⟨oK⟩, HO8, HW⟩
        ·rw [if_neg c4] at H
         have c4b0 : (x == x41) = false := beq_eq_false_iff_ne.mpr c4
         have c4b1 : (x != x41) = true := bne_iff_ne.mpr c4
         clear c4
         have H' := Aside0.mk H
         clear H
         go_wp2_with (first | (go_at_call 71; (with_reducible refine (J_top k2 g v up x41 x w.heap.size _ (HJ1.out.below HW.out) AT.out).mono ?_); rintro e w' ⟨rfl, rfl⟩))
         go_roundg k2
         case measure => exact oK
         case rel => exact ⟨out, (wrap64 (x41 + 1)), rS, H', ⟨oK⟩, HO8, HW⟩
       ·obtain rfl := Option.some.inj H
        go_wp2
        go_ret
        exact ⟨_, rfl, Kd.S_lower HO8.out HB1.out.size, below_step HB1.out HW.out⟩
 ·rw [if_neg c0_] at h
  exact absurd h (by simp)

end Go.Proofs.Ytepogblkmiidnaa.PFnCovers
