import Derived.Test.YtepogblkmiidnaaWSpanB
import Derived.OneCell
import Derived.Laws.EntriesVeiled
import Derived.BigRegion
import Derived.RegionTactic
import Derived.Deep.RegionLaw
import Derived.Test.YtepogblkmiidnaaPFnCoversx0
import Derived.Test.YtepogblkmiidnaaPFnCoversx3
import Derived.Test.YtepogblkmiidnaaPFnCoversx4
import Derived.Test.YtepogblkmiidnaaPFnCoversx16
namespace Go.Proofs.Ytepogblkmiidnaa.PFnCovers
open Go.RowKit Go.Proofs.YtepogblkmiidnaaW.PrintWords Go.Proofs.YtepogblkmiidnaaW.PrintLast Go.Proofs.YtepogblkmiidnaaW.PrintMore
attribute [local go_sem] max2_int min2_int max_two min_two max_three min_three max_four min_four   -- for this text's walks alone
set_option linter.unusedVariables false
set_option linter.unusedSimpArgs false

/-! ### impl_SheetSymmetries: function 25 -/
def impl_SheetSymmetries.swp (xs : List Int) (k i : Nat) : List Int := (xs.set k (xs.getD i 0)).set i (xs.getD k 0)
/-- whether an order commutes with all -/
def impl_SheetSymmetries.l0 : Nat → List Int → List (List Int) → Int → Option Bool
  | 0, _, _, _ => none
  | k + 1, own, l, i => if i < (l.length : Int) then (if 0 ≤ i then ((impl_then.f k own (rd_L2 l i)).bind fun a => ((impl_then.f k (rd_L2 l i) own).bind fun b => ((impl_sameInts.f k a b).bind fun t => (if t = true then impl_SheetSymmetries.l0 k own l (wrap64 (i + 1)) else some false)))) else none) else some true
/-- what the function that is called with each order does to the count -/
def impl_SheetSymmetries.g0 (k : Nat) (l : List (List Int)) (own : List Int) (s : Int) : Option Int := (impl_SheetSymmetries.l0 k own l 0).bind fun t => if t = true then some (wrap64 (s + 1)) else some s
/-- the orders of xs from place k on: the loop, then its rounds -/
def impl_SheetSymmetries.oL (run : List Int → Int → Option Int) (k : Nat) (xs : List Int) : Nat → Nat → Int → Option Int
  | 0, _, s => some s
  | c + 1, i, s => (run (impl_SheetSymmetries.swp xs k i) s).bind fun s' => impl_SheetSymmetries.oL run k xs c (i + 1) s'
def impl_SheetSymmetries.oR (f : List Int → Int → Option Int) : Nat → Nat → List Int → Int → Option Int
  | 0, _, xs, s => f xs s
  | m + 1, k, xs, s => impl_SheetSymmetries.oL (impl_SheetSymmetries.oR f m (k + 1)) k xs (m + 1) k s
def impl_SheetSymmetries.f (k : Nat) (l0 : List (List Int)) : Option Int :=
  if (l0.length : Int) > 8 then some (-1) else ((impl_areSheets.f k l0).bind fun t => (if t = true then (if 0 < (l0.length : Int) then (if 1 ≤ (rd_L2 l0 0).length ∧ (rd_L2 l0 0).length ≤ 100 then ((impl_identity.f k ((rd_L2 l0 0).length : Int)).bind fun xs => (if xs.length = (rd_L2 l0 0).length then impl_SheetSymmetries.oR (impl_SheetSymmetries.g0 k l0) xs.length 0 xs 0 else none)) else none) else none) else some (-1)))
/-- the memory while the orders are gone through: s is the count, xs the running order -/
structure impl_SheetSymmetries.OS (w0 : World) (LB UB CB RB OB g n cap : Nat) (A0 : Option Addr) (len c0 : Nat) (xs : List Int) (s : Int) (W : World) : Prop where
  bel : Below w0.heap.size w0 W
  hL : W.heap[LB]? = some (.cells #[.slice A0 len c0] 24 (0, 0))
  hU : W.heap[UB]? = some (.cells #[.int .i64 s] 3 (0, 0))
  hC : W.heap[CB]? = some (.cells #[.func (.func 64) #[] #[.pointer (some ⟨LB, 0, none⟩), .pointer (some ⟨UB, 0, none⟩)]] 72 (0, 0))
  hR : W.heap[RB]? = some (.cells #[.func (.func 88) #[] #[.pointer (some ⟨OB, 0, none⟩), .pointer (some ⟨CB, 0, none⟩), .pointer (some ⟨RB, 0, none⟩)]] 83 (0, 0))
  hO : W.heap[OB]? = some (.cells #[.slice (some ⟨g, 0, none⟩) n cap] 30 (0, 0))
  hG : Kd.R (Kd.int .i64) 3 W w0.heap.size (fun b => b ≠ UB) (.slice (some ⟨g, 0, none⟩) n cap) xs
  ng : g ≠ LB ∧ g ≠ UB ∧ g ≠ CB ∧ g ≠ RB ∧ g ≠ OB
  nu : UB ≠ LB ∧ UB ≠ CB ∧ UB ≠ RB ∧ UB ≠ OB
  lo : w0.heap.size ≤ g ∧ w0.heap.size ≤ UB
section
open impl_SheetSymmetries
variable {w0 W W' : World} {LB UB CB RB OB g n cap : Nat} {A0 : Option Addr} {len c0 : Nat} {xs : List Int} {s : Int}
theorem impl_SheetSymmetries.OS.step (h : OS w0 LB UB CB RB OB g n cap A0 len c0 xs s W) (hb : Below W.heap.size W W') : OS w0 LB UB CB RB OB g n cap A0 len c0 xs s W' :=
  { bel := below_step h.bel hb
    hL := (hb.block _ (lt_of_block h.hL)).trans h.hL
    hU := (hb.block _ (lt_of_block h.hU)).trans h.hU
    hC := (hb.block _ (lt_of_block h.hC)).trans h.hC
    hR := (hb.block _ (lt_of_block h.hR)).trans h.hR
    hO := (hb.block _ (lt_of_block h.hO)).trans h.hO
    hG := Kd.R_below h.hG hb
    ng := h.ng
    nu := h.nu
    lo := h.lo }
theorem impl_SheetSymmetries.OS.put (h : OS w0 LB UB CB RB OB g n cap A0 len c0 xs s W) (hn : n = xs.length) (i : Nat) (v : Int) : OS w0 LB UB CB RB OB g n cap A0 len c0 (xs.set i v) s (W.setCell ⟨g, i, none⟩ (.int .i64 v)) := by
  subst hn
  have o : ∀ b, b ≠ g → (W.setCell ⟨g, i, none⟩ (.int .i64 v)).heap[b]? = W.heap[b]? := fun b hb => Below.heap_setCell W ⟨g, i, none⟩ _ b hb
  obtain ⟨n1, n2, n3, n4, n5⟩ := h.ng
  have p := (Kd.R_put (enc := Value.int .i64) (h1 := fun _ => rfl) h.hG (i : Int) v).1
  rw [Int.toNat_natCast] at p
  exact { bel := below_set h.bel h.lo.1
          hL := (o _ n1.symm).trans h.hL
          hU := (o _ n2.symm).trans h.hU
          hC := (o _ n3.symm).trans h.hC
          hR := (o _ n4.symm).trans h.hR
          hO := (o _ n5.symm).trans h.hO
          hG := p
          ng := h.ng
          nu := h.nu
          lo := h.lo }
theorem impl_SheetSymmetries.OS.count (h : OS w0 LB UB CB RB OB g n cap A0 len c0 xs s W) (v : Int) : OS w0 LB UB CB RB OB g n cap A0 len c0 xs v (W.setCell ⟨UB, 0, none⟩ (.int .i64 v)) := by
  have o : ∀ b, b ≠ UB → (W.setCell ⟨UB, 0, none⟩ (.int .i64 v)).heap[b]? = W.heap[b]? := fun b hb => Below.heap_setCell W ⟨UB, 0, none⟩ _ b hb
  obtain ⟨n1, n2, n3, n4⟩ := h.nu
  exact { bel := below_set h.bel h.lo.2
          hL := (o _ n1.symm).trans h.hL
          hU := one_setCell h.hU
          hC := (o _ n2.symm).trans h.hC
          hR := (o _ n3.symm).trans h.hR
          hO := (o _ n4.symm).trans h.hO
          hG := Kd.R_far h.hG (fun _ hk => hk) _
          ng := h.ng
          nu := h.nu
          lo := h.lo }
end
set_option maxHeartbeats 8000000 in
set_option maxRecDepth 100000 in
/-- what is called with each order: it counts those that commute with all -/
theorem impl_SheetSymmetries.inner (w0 : World) (LB UB CB RB OB g n cap : Nat) (A0 : Option Addr) (c0 : Nat) (l0 : List (List Int)) (k : Nat) (xs : List Int) (s s' : Int) (W : World)
    (hr0 : Kd.C (Kd.slice 3 (Kd.int .i64)) w0 A0 l0.length l0) (hc0 : l0.length ≤ c0) (hn : n = xs.length) (h : impl_SheetSymmetries.g0 k l0 xs s = some s')
    (H : impl_SheetSymmetries.OS w0 LB UB CB RB OB g n cap A0 l0.length c0 xs s W) :
    Calls Try.prog 64 #[.slice (some ⟨g, 0, none⟩) n cap, .pointer (some ⟨LB, 0, none⟩), .pointer (some ⟨UB, 0, none⟩)] W fun e W' => e = .returned (.tuple #[]) ∧ impl_SheetSymmetries.OS w0 LB UB CB RB OB g n cap A0 l0.length c0 xs s' W' := by
  subst hn
  unfold impl_SheetSymmetries.g0 at h
  obtain ⟨t, ht, h⟩ := Option.bind_eq_some_iff.mp h
  have HT := Aside0.mk ht
  have HR0 := Aside0.mk hr0
  have HE := Aside0.mk h
  clear ht h hr0 hc0
  have hLc := cell_of_one H.hL
  have HS := Aside0.mk H
  clear H
  go_enter Try.func64, Try.ntmps64
  go_wp2
  clear hLc
  go_loopg [8] k (fun kq v8 w' => ∃ i : Int, v8 = .int .i64 i ∧ Aside0 (impl_SheetSymmetries.l0 kq xs l0 i = some t) ∧ Aside0 (kq ≤ k) ∧ Aside0 (impl_SheetSymmetries.OS w0 LB UB CB RB OB g xs.length cap A0 l0.length c0 xs s w'))
  case atStart => exact ⟨0, rfl, HT, ⟨Nat.le_refl _⟩, HS⟩
  case round =>
    clear HT HS
    obtain ⟨i, rfl, HA, HK, HS⟩ := hrel
    cases gk with
    | zero => exact absurd HA.out (by simp [impl_SheetSymmetries.l0])
    | succ k1 =>
      have H := HA.out
      clear HA
      simp only [impl_SheetSymmetries.l0] at H
      by_cases c1 : i < (l0.length : Int)
      · rw [if_pos c1] at H
        have c1b0 : decide (i < (l0.length : Int)) = true := decide_eq_true c1
        obtain ⟨c2, H⟩ := gd H
        obtain ⟨a, A10, H⟩ := Option.bind_eq_some_iff.mp H
        obtain ⟨b, A20, H⟩ := Option.bind_eq_some_iff.mp H
        obtain ⟨q, A30, H⟩ := Option.bind_eq_some_iff.mp H
        have A1 := Aside0.mk A10
        have A2 := Aside0.mk A20
        have A3 := Aside0.mk A30
        have H' := Aside0.mk H
        clear A10 A20 A30 H
        obtain ⟨ad, A5, c5, e5, hx5, hl5, hi5⟩ := at_L2 HR0.out i c2 c1
        subst e5
        have hx := (HS.out.bel.cell (World.block_lt_of_cell? w0 _ hx5)).trans hx5
        have HR5 := Aside0.mk (Kd.C_below hi5 HS.out.bel)
        have HC5 := Aside0.mk hl5
        clear hx5 hi5 hl5
        have p5 := eq_true c2
        have q5 := eq_true c1
        clear c1 c2
        go_wp2_with fail
        (go_at_call 65; (with_reducible refine (impl_then.calls k1 _ _ xs _ _ (rd_L2 l0 i) a _ (Kd.R_reads' HS.out.hG).2.2 (Kd.R_reads' HS.out.hG).2.1 HR5.out HC5.out A1.out).mono ?_))
        rintro e w1 ⟨va, rfl, ha, hb⟩
        have HS1 := Aside0.mk (HS.out.step hb)
        have HR6 := Aside0.mk (Kd.C_below HR5.out hb)
        obtain ⟨Aa, ca, rfl⟩ := Kd.R_slice ha
        have Ha := Aside0.mk ha
        clear ha hb HS HR5 hx
        go_wp2_with fail
        (go_at_call 65; (with_reducible refine (impl_then.calls k1 _ _ (rd_L2 l0 i) _ _ xs b _ HR6.out HC5.out (Kd.R_reads' HS1.out.hG).2.2 (Kd.R_reads' HS1.out.hG).2.1 A2.out).mono ?_))
        rintro e w2 ⟨vb, rfl, hbr, hb⟩
        have HS2 := Aside0.mk (HS1.out.step hb)
        have Ha2 := Aside0.mk (Kd.R_below Ha.out hb)
        obtain ⟨Ab, cb, rfl⟩ := Kd.R_slice hbr
        have Hb2 := Aside0.mk hbr
        clear hbr hb HS1 HR6 Ha
        go_wp2_with fail
        (go_at_call 59; (with_reducible refine (impl_sameInts.calls k1 _ _ a _ _ b q _ (Kd.R_reads' Ha2.out).2.2 (Kd.R_reads' Ha2.out).2.1 (Kd.R_reads' Hb2.out).2.2 (Kd.R_reads' Hb2.out).2.1 A3.out).mono ?_))
        rintro e w3 ⟨rfl, hd⟩
        obtain ⟨m3, rfl⟩ := hd.out
        have HS3 := Aside0.mk (HS2.out.step (pw_below_drewN (Below.refl _ _) m3))
        clear hd HS2 Ha2 Hb2
        generalize w2.drewN m3 = w4 at HS3 ⊢
        cases q with
        | true =>
          have H2 : impl_SheetSymmetries.l0 k1 xs l0 (wrap64 (i + 1)) = some t := by have h := H'.out; rw [if_pos rfl] at h; exact h
          have HA := Aside0.mk H2
          clear H2 H'
          go_wp2
          go_roundg k1
          case measure => have := HK.out; omega
          case rel => exact ⟨_, rfl, HA, ⟨by have := HK.out; omega⟩, HS3⟩
        | false =>
          have H2 : t = false := by have h := H'.out; rw [if_neg (by decide)] at h; exact (Option.some.inj h).symm
          subst H2
          have h := HE.out
          rw [if_neg (by decide)] at h
          obtain rfl := Option.some.inj h
          clear h HE H'
          go_wp2
          refine bodyPost_ret (results_none rfl _ _ _) rfl ?_
          exact ⟨rfl, HS3.out⟩
      · rw [if_neg c1] at H
        have c1b0 : decide (i < (l0.length : Int)) = false := decide_eq_false c1
        obtain rfl := Option.some.inj H
        have h := HE.out
        rw [if_pos rfl] at h
        obtain rfl := Option.some.inj h
        clear h HE H c1
        have hu := cell_of_one HS.out.hU
        have hf := free_of_one HS.out.hU
        go_wp2
        go_end0
        exact ⟨rfl, HS.out.count _⟩

theorem impl_SheetSymmetries.OS.swap {w0 W : World} {LB UB CB RB OB g n cap : Nat} {A0 : Option Addr} {len c0 : Nat} {xs : List Int} {s : Int} (h : impl_SheetSymmetries.OS w0 LB UB CB RB OB g n cap A0 len c0 xs s W) (hn : n = xs.length) (k i : Nat) (hk : k < n) (hi : i < n) :
    ∃ xk xi : Int, W.cell? ⟨OB, 0, none⟩ = some (.slice (some ⟨g, 0, none⟩) n cap) ∧ W.cell? ⟨g, k, none⟩ = some (.int .i64 xk) ∧ W.frozen? ⟨g, k, none⟩ = false ∧ W.cell? ⟨g, i, none⟩ = some (.int .i64 xi) ∧ W.frozen? ⟨g, i, none⟩ = false ∧
      (W.setCell ⟨g, k, none⟩ (.int .i64 xi)).cell? ⟨OB, 0, none⟩ = some (.slice (some ⟨g, 0, none⟩) n cap) ∧ (W.setCell ⟨g, k, none⟩ (.int .i64 xi)).cell? ⟨g, i, none⟩ = some (.int .i64 xi) ∧ (W.setCell ⟨g, k, none⟩ (.int .i64 xi)).frozen? ⟨g, i, none⟩ = false ∧
      impl_SheetSymmetries.OS w0 LB UB CB RB OB g n cap A0 len c0 (impl_SheetSymmetries.swp xs k i) s ((W.setCell ⟨g, k, none⟩ (.int .i64 xi)).setCell ⟨g, i, none⟩ (.int .i64 xk)) := by
  subst hn
  obtain ⟨ck, fk⟩ := Kd.R_cell (enc := Value.int .i64) (h1 := fun _ => rfl) (0 : Int) h.hG (k : Int) (by omega) (by omega)
  obtain ⟨ci, fi⟩ := Kd.R_cell (enc := Value.int .i64) (h1 := fun _ => rfl) (0 : Int) h.hG (i : Int) (by omega) (by omega)
  rw [Int.toNat_natCast] at ck fk ci fi
  have gk : rdOf (0 : Int) xs (k : Int) = xs.getD k 0 := by simp [rdOf, hk]
  have gi : rdOf (0 : Int) xs (i : Int) = xs.getD i 0 := by simp [rdOf, hi]
  rw [gk] at ck
  rw [gi] at ci
  have hp := h.put rfl k (xs.getD i 0)
  have e2 : rdOf (0 : Int) (xs.set k (xs.getD i 0)) (i : Int) = xs.getD i 0 := by
    by_cases hik : i = k
    · subst hik; simp [rdOf, hi]
    · simp [rdOf, List.getElem?_set, Ne.symm hik, hi]
  obtain ⟨ci2, fi2⟩ := Kd.R_cell (enc := Value.int .i64) (h1 := fun _ => rfl) (0 : Int) (xs := xs.set k (xs.getD i 0)) (cap := cap) (g := g) (by have q := hp.hG; rw [show xs.length = (xs.set k (xs.getD i 0)).length by simp] at q; exact q) (i : Int) (by omega) (by simp; omega)
  rw [Int.toNat_natCast, e2] at ci2
  rw [Int.toNat_natCast] at fi2
  exact ⟨_, _, cell_of_one h.hO, ck, fk, ci, fi, cell_of_one hp.hO, ci2, fi2, hp.put (by simp) i (xs.getD k 0)⟩
theorem impl_SheetSymmetries.swp_len (xs : List Int) (k i : Nat) : (impl_SheetSymmetries.swp xs k i).length = xs.length := by simp [impl_SheetSymmetries.swp]
theorem impl_SheetSymmetries.swp_swp (xs : List Int) (k i : Nat) (hk : k < xs.length) (hi : i < xs.length) : impl_SheetSymmetries.swp (impl_SheetSymmetries.swp xs k i) k i = xs := by
  apply List.ext_getElem?
  intro j
  by_cases h1 : j = i
  · subst h1
    by_cases h2 : k = j
    · subst h2; simp [impl_SheetSymmetries.swp, hk]
    · simp [impl_SheetSymmetries.swp, hk, hi, List.getElem?_set, h2, Ne.symm h2]
  · by_cases h2 : j = k
    · subst h2; simp [impl_SheetSymmetries.swp, hk, hi, List.getElem?_set, h1, Ne.symm h1]
    · simp [impl_SheetSymmetries.swp, List.getElem?_set, Ne.symm h1, Ne.symm h2]
set_option maxHeartbeats 16000000 in
set_option maxRecDepth 100000 in
/-- the orders from place k on -/
theorem impl_SheetSymmetries.rest (w0 : World) (LB UB CB RB OB g n cap : Nat) (A0 : Option Addr) (c0 : Nat) (l0 : List (List Int)) (kk : Nat)
    (hr0 : Kd.C (Kd.slice 3 (Kd.int .i64)) w0 A0 l0.length l0) (hc0 : l0.length ≤ c0) (hn9 : n ≤ 100) : ∀ (m k : Nat) (xs : List Int) (s s' : Int) (W : World), k + m = n → n = xs.length →
    impl_SheetSymmetries.oR (impl_SheetSymmetries.g0 kk l0) m k xs s = some s' →
    impl_SheetSymmetries.OS w0 LB UB CB RB OB g n cap A0 l0.length c0 xs s W →
    Calls Try.prog 88 #[.int .i64 k, .pointer (some ⟨OB, 0, none⟩), .pointer (some ⟨CB, 0, none⟩), .pointer (some ⟨RB, 0, none⟩)] W fun e W' => e = .returned (.tuple #[]) ∧ impl_SheetSymmetries.OS w0 LB UB CB RB OB g n cap A0 l0.length c0 xs s' W' := by
  intro m
  induction m with
  | zero =>
    intro k xs s s' W hk hn h H
    simp only [impl_SheetSymmetries.oR] at h
    obtain rfl : k = n := by omega
    subst hn
    have HS := Aside0.mk H
    have hOc := cell_of_one H.hO
    have hCc := cell_of_one H.hC
    have HK := Aside0.mk (impl_SheetSymmetries.inner w0 LB UB CB RB OB g xs.length cap A0 c0 l0 kk xs s s' W hr0 hc0 rfl h H)
    clear H h hr0 hc0
    go_enter Try.func88, Try.ntmps88
    go_wp2_with fail
    (go_at_call 64; (with_reducible refine HK.out.mono ?_))
    rintro e W1 ⟨rfl, HS1⟩
    have HS2 := Aside0.mk HS1
    clear HS HS1 HK hOc hCc
    go_wp2
    refine bodyPost_ret (results_none rfl _ _ _) rfl ?_
    exact ⟨rfl, HS2.out⟩
  | succ m ih =>
    intro k xs s s' W hk hn h H
    simp only [impl_SheetSymmetries.oR] at h
    subst hn
    have HS := Aside0.mk H
    have HH := Aside0.mk h
    have IH := Aside0.mk ih
    have hOc := cell_of_one H.hO
    have hne : ((k : Int) == (xs.length : Int)) = false := beq_eq_false_iff_ne.mpr (by omega)
    clear H h hr0 hc0 ih
    go_enter Try.func88, Try.ntmps88
    go_wp2
    clear hOc
    go_loopg [5] (xs.length + 1) (fun kq v5 w' => ∃ (i : Nat) (s1 : Int), v5 = .int .i64 (i : Int) ∧ Aside0 (impl_SheetSymmetries.oL (impl_SheetSymmetries.oR (impl_SheetSymmetries.g0 kk l0) m (k + 1)) k xs (xs.length - i) i s1 = some s') ∧ Aside0 (k ≤ i ∧ i ≤ xs.length ∧ xs.length - i < kq) ∧ Aside0 (impl_SheetSymmetries.OS w0 LB UB CB RB OB g xs.length cap A0 l0.length c0 xs s1 w'))
    case atStart => exact ⟨k, s, rfl, ⟨by rw [show xs.length - k = m + 1 by omega]; exact HH.out⟩, ⟨by omega⟩, HS⟩
    case round =>
      clear HS HH hne
      obtain ⟨i, s1, rfl, HA, HB, HS⟩ := hrel
      have hOc := cell_of_one HS.out.hO
      by_cases c1 : i < xs.length
      · have c1b0 : decide ((i : Int) < (xs.length : Int)) = true := decide_eq_true (by omega)
        obtain ⟨s2, A10, A20⟩ : ∃ s2, impl_SheetSymmetries.oR (impl_SheetSymmetries.g0 kk l0) m (k + 1) (impl_SheetSymmetries.swp xs k i) s1 = some s2 ∧ impl_SheetSymmetries.oL (impl_SheetSymmetries.oR (impl_SheetSymmetries.g0 kk l0) m (k + 1)) k xs (xs.length - (i + 1)) (i + 1) s2 = some s' := by
          have h := HA.out
          rw [show xs.length - i = (xs.length - (i + 1)) + 1 by omega] at h
          exact Option.bind_eq_some_iff.mp h
        have A1 := Aside0.mk A10
        have A2 := Aside0.mk A20
        clear A10 A20 HA
        have hkl : k < xs.length := by omega
        have pk : (0 : Int) ≤ (k : Int) := by omega
        have pi : (0 : Int) ≤ (i : Int) := by omega
        have qk : (k : Int) < (xs.length : Int) := by omega
        have qi : (i : Int) < (xs.length : Int) := by omega
        have ek : ((k : Int)).toNat = k := Int.toNat_natCast k
        have ei : ((i : Int)).toNat = i := Int.toNat_natCast i
        have wk : wrap64 ((k : Int) + 1) = ((k + 1 : Nat) : Int) := by unfold wrap64; omega
        have wi : wrap64 ((i : Int) + 1) = ((i + 1 : Nat) : Int) := by unfold wrap64; omega
        clear hOc
        obtain ⟨xk, xi, hOc, ck, fk, ci, fi, hOc2, ci2, fi2, hsw⟩ := HS.out.swap rfl k i hkl c1
        have HS5 := Aside0.mk (hsw.step (below_drew1 (Below.refl _ _)))
        clear hsw
        go_wp2_with fail
        go_region
        clear HS hOc ck fk ci fi hOc2 ci2 fi2
        generalize ((wr.setCell ⟨g, k, none⟩ (.int .i64 xi)).setCell ⟨g, i, none⟩ (.int .i64 xk)).drew = W5 at HS5 ⊢
        as_aux_lemma =>
        have hRc := cell_of_one HS5.out.hR
        go_wp2_with fail
        have hcall := IH.out (k + 1) (impl_SheetSymmetries.swp xs k i) s1 s2 W5 (by omega) (impl_SheetSymmetries.swp_len xs k i).symm A1.out HS5.out
        rw [show ((k + 1 : Nat) : Int) = (k : Int) + 1 by omega] at hcall
        (go_at_call 88; (with_reducible refine hcall.mono ?_))
        clear hcall
        rintro e W6 ⟨rfl, hs6⟩
        have HS6 := Aside0.mk hs6
        clear hs6 HS5 hRc
        obtain ⟨yk, yi, hOc, ck, fk, ci, fi, hOc2, ci2, fi2, hsw⟩ := HS6.out.swap (impl_SheetSymmetries.swp_len xs k i).symm k i hkl c1
        rw [impl_SheetSymmetries.swp_swp xs k i hkl c1] at hsw
        have HS7 := Aside0.mk (hsw.step (below_drew1 (Below.refl _ _)))
        clear hsw
        go_wp2_with fail
        go_region
        clear HS6 hOc ck fk ci fi hOc2 ci2 fi2
        generalize ((W6.setCell ⟨g, k, none⟩ (.int .i64 yi)).setCell ⟨g, i, none⟩ (.int .i64 yk)).drew = W7 at HS7 ⊢
        as_aux_lemma =>
        go_wp2
        go_roundg (xs.length - i)
        case measure => have := HB.out; omega
        case rel => exact ⟨i + 1, s2, by first | rfl | (rw [wi]), A2, ⟨by have := HB.out; omega⟩, HS7⟩
      · have c1b0 : decide ((i : Int) < (xs.length : Int)) = false := decide_eq_false (by omega)
        have hs' : s1 = s' := by
          have h := HA.out
          rw [show xs.length - i = 0 by omega] at h
          exact Option.some.inj h
        subst hs'
        clear HA
        go_wp2
        go_end0
        exact ⟨rfl, HS.out⟩
set_option maxHeartbeats 8000000 in
set_option maxRecDepth 100000 in
theorem impl_SheetSymmetries.orders (w0 : World) (LB UB : Nat) (A0 : Option Addr) (c0 : Nat) (l0 : List (List Int)) (kk : Nat) (Al : Option Addr) (cl : Nat) (xs : List Int) (s s' : Int) (W : World)
    (hr0 : Kd.C (Kd.slice 3 (Kd.int .i64)) w0 A0 l0.length l0) (hc0 : l0.length ≤ c0) (hx1 : 1 ≤ xs.length) (hx2 : xs.length ≤ 100) (hC : Kd.C (Kd.int .i64) W Al xs.length xs) (hcl : xs.length ≤ cl)
    (h : impl_SheetSymmetries.oR (impl_SheetSymmetries.g0 kk l0) xs.length 0 xs s = some s') (bel : Below w0.heap.size w0 W)
    (hL : W.heap[LB]? = some (.cells #[.slice A0 l0.length c0] 24 (0, 0))) (hU : W.heap[UB]? = some (.cells #[.int .i64 s] 3 (0, 0))) (lo : w0.heap.size ≤ UB) (ne : UB ≠ LB) :
    Calls Try.prog 63 #[.slice Al xs.length cl, .func (.func 64) #[] #[.pointer (some ⟨LB, 0, none⟩), .pointer (some ⟨UB, 0, none⟩)]] W fun e W' => e = .returned (.tuple #[]) ∧ Below w0.heap.size w0 W' ∧ W'.heap[UB]? = some (.cells #[.int .i64 s'] 3 (0, 0)) := by
  have HX := Aside0.mk hC
  have HH := Aside0.mk h
  have HB := Aside0.mk bel
  have HL := Aside0.mk hL
  have HU := Aside0.mk hU
  have HR := Aside0.mk hr0
  clear hC h bel hL hU hr0
  have hcp : impl_copyOf.f xs = some xs := by
    show (if ([] : List Int).length + xs.length < 17592186044416 then some ([] ++ xs) else none) = some xs
    rw [if_pos (by simp; omega)]
    rfl
  go_enter Try.func63, Try.ntmps63
  go_wp2_with fail
  have b1 : Below W.heap.size W ((W.alloc (.cells #[.func (.func 64) #[] #[.pointer (some ⟨LB, 0, none⟩), .pointer (some ⟨UB, 0, none⟩)]] 72)).alloc (.cells #[.nilFunc] 83)) := below_alloc (below_alloc (Below.refl _ _) _) _
  have sz : ((W.alloc (.cells #[.func (.func 64) #[] #[.pointer (some ⟨LB, 0, none⟩), .pointer (some ⟨UB, 0, none⟩)]] 72)).alloc (.cells #[.nilFunc] 83)).heap.size = W.heap.size + 2 := by
    show ((W.heap.push _).push _).size = _
    simp
  have hC1 : ((W.alloc (.cells #[.func (.func 64) #[] #[.pointer (some ⟨LB, 0, none⟩), .pointer (some ⟨UB, 0, none⟩)]] 72)).alloc (.cells #[.nilFunc] 83)).heap[W.heap.size]? = some (.cells #[.func (.func 64) #[] #[.pointer (some ⟨LB, 0, none⟩), .pointer (some ⟨UB, 0, none⟩)]] 72 (0, 0)) := by
    show ((W.heap.push _).push _)[W.heap.size]? = _
    rw [Array.getElem?_push, if_neg (by simp), Array.getElem?_push, if_pos rfl]
  have hR1 : ((W.alloc (.cells #[.func (.func 64) #[] #[.pointer (some ⟨LB, 0, none⟩), .pointer (some ⟨UB, 0, none⟩)]] 72)).alloc (.cells #[.nilFunc] 83)).heap[W.heap.size + 1]? = some (.cells #[.nilFunc] 83 (0, 0)) := by
    show ((W.heap.push _).push _)[W.heap.size + 1]? = _
    rw [Array.getElem?_push, if_pos (by simp)]
  generalize ((W.alloc (.cells #[.func (.func 64) #[] #[.pointer (some ⟨LB, 0, none⟩), .pointer (some ⟨UB, 0, none⟩)]] 72)).alloc (.cells #[.nilFunc] 83)) = W1 at b1 sz hC1 hR1 ⊢
  (go_at_call 83; (with_reducible refine (impl_copyOf.calls Al cl xs xs W1 (Kd.C_below HX.out b1) hcl hcp).mono ?_))
  rintro e W2 ⟨v, rfl, ho, hb⟩
  obtain ⟨g, cap, rfl, hg1, hg2, cells, hcell⟩ := Kd.R_form ho (by omega)
  have hC2 := (hb.block _ (lt_of_block hC1)).trans hC1
  have hR2 := (hb.block _ (lt_of_block hR1)).trans hR1
  have b2 := Aside0.mk (below_step b1 hb)
  have HO := Aside0.mk ho
  have HC2 := Aside0.mk hC2
  have sz2 : W.heap.size + 2 ≤ W2.heap.size := by have := hb.size; omega
  clear hC1 hR1 ho hb b1 hC2
  have hR3 : (W2.alloc (.cells #[.slice (some ⟨g, 0, none⟩) xs.length cap] 30)).heap[W.heap.size + 1]? = some (.cells #[.nilFunc] 83 (0, 0)) := ((below_alloc (Below.refl _ _) _).block _ (lt_of_block hR2)).trans hR2
  have hr3c := cell_of_one hR3
  have hr3f := free_of_one hR3
  have hR4 := one_setCell (u := .func (.func 88) #[] #[.pointer (some ⟨W2.heap.size, 0, none⟩), .pointer (some ⟨W.heap.size, 0, none⟩), .pointer (some ⟨W.heap.size + 1, 0, none⟩)]) hR3
  have hr4c := cell_of_one hR4
  have hr2c := cell_of_one hR2
  have hr2f := free_of_one hR2
  have lt2 : W.heap.size + 1 < W2.heap.size := by omega
  have ne2 : W.heap.size + 1 ≠ W2.heap.size := by omega
  have ne3 : W2.heap.size ≠ W.heap.size + 1 := by omega
  have hO4 : impl_SheetSymmetries.OS w0 LB UB W.heap.size (W.heap.size + 1) W2.heap.size g xs.length cap A0 l0.length c0 xs s ((W2.setCell ⟨W.heap.size + 1, 0, none⟩ (.func (.func 88) #[] #[.pointer (some ⟨W2.heap.size, 0, none⟩), .pointer (some ⟨W.heap.size, 0, none⟩), .pointer (some ⟨W.heap.size + 1, 0, none⟩)])).alloc (.cells #[.slice (some ⟨g, 0, none⟩) xs.length cap] 30)) := by
    have szs : (W2.setCell ⟨W.heap.size + 1, 0, none⟩ (.func (.func 88) #[] #[.pointer (some ⟨W2.heap.size, 0, none⟩), .pointer (some ⟨W.heap.size, 0, none⟩), .pointer (some ⟨W.heap.size + 1, 0, none⟩)])).heap.size = W2.heap.size := by
      show (W2.heap.modify _ _).size = _
      simp
    have o : ∀ b, b < W2.heap.size → b ≠ W.heap.size + 1 → ((W2.setCell ⟨W.heap.size + 1, 0, none⟩ (.func (.func 88) #[] #[.pointer (some ⟨W2.heap.size, 0, none⟩), .pointer (some ⟨W.heap.size, 0, none⟩), .pointer (some ⟨W.heap.size + 1, 0, none⟩)])).alloc (.cells #[.slice (some ⟨g, 0, none⟩) xs.length cap] 30)).heap[b]? = W2.heap[b]? := fun b hb hne =>
      ((below_alloc (Below.refl _ _) _).block b (by rw [szs]; exact hb)).trans (Below.heap_setCell W2 ⟨W.heap.size + 1, 0, none⟩ _ b hne)
    have lL := lt_of_block HL.out
    have lU := lt_of_block HU.out
    have s0 := HB.out.size
    have sb := b2.out.size
    exact {
      bel := below_alloc (below_set (below_step HB.out b2.out) (by omega)) _
      hL := (o _ (by omega) (by omega)).trans ((b2.out.block _ lL).trans HL.out)
      hU := (o _ (by omega) (by omega)).trans ((b2.out.block _ lU).trans HU.out)
      hC := (o _ (by omega) (by omega)).trans HC2.out
      hR := ((below_alloc (Below.refl _ _) _).block _ (by rw [szs]; omega)).trans (one_setCell hR2)
      hO := by
        have q := heap_alloc_new (W2.setCell ⟨W.heap.size + 1, 0, none⟩ (.func (.func 88) #[] #[.pointer (some ⟨W2.heap.size, 0, none⟩), .pointer (some ⟨W.heap.size, 0, none⟩), .pointer (some ⟨W.heap.size + 1, 0, none⟩)])) (.cells #[.slice (some ⟨g, 0, none⟩) xs.length cap] 30)
        rw [szs] at q
        exact q
      hG := Kd.R_below (Kd.R_far (Kd.R_lower (Kd.R_mono (ok' := fun b => b ≠ UB ∧ b ≠ W.heap.size + 1) (Kd.R_bound HO.out) (fun q hq => by have := hq.2.1; exact ⟨by omega, by omega⟩)) (by omega)) (fun q hq => hq.2) _ |> fun r => Kd.R_mono r (fun q hq => hq.1)) (below_alloc (Below.refl _ _) _)
      ng := ⟨by omega, by omega, by omega, by omega, by omega⟩
      nu := ⟨ne, by omega, by omega, by omega⟩
      lo := ⟨by omega, lo⟩ }
  have HS := Aside0.mk hO4
  clear hO4 hR2
  go_wp2_with fail
  have hcall := impl_SheetSymmetries.rest w0 LB UB W.heap.size (W.heap.size + 1) W2.heap.size g xs.length cap A0 c0 l0 kk HR.out hc0 hx2 xs.length 0 xs s s' _ (by omega) rfl HH.out HS.out
  rw [show ((0 : Nat) : Int) = 0 from rfl] at hcall
  (go_at_call 88; (with_reducible refine hcall.mono ?_))
  rintro e W5 ⟨rfl, hs5⟩
  have HS5 := Aside0.mk hs5
  clear hs5 hcall HS
  go_wp2
  go_end0
  exact ⟨rfl, HS5.out.bel, HS5.out.hU⟩
set_option maxHeartbeats 8000000 in
set_option maxRecDepth 100000 in
theorem impl_SheetSymmetries.calls (k : Nat) (A0 : Option Addr) (c0 : Nat) (l0 : List (List Int)) (r : Int) (w : World) (hr0 : Kd.C (Kd.slice 3 (Kd.int .i64)) w A0 l0.length l0) (hc0 : l0.length ≤ c0) (h : impl_SheetSymmetries.f k l0 = some r) :
    Calls Try.prog 25 #[.slice A0 l0.length c0] w fun e w' => e = .returned (.int .i64 r) ∧ Below w.heap.size w w' := by
  have HR0 := Aside0.mk hr0
  have HC0 := Aside0.mk hc0
  clear hr0 hc0
  have HB := Aside0.mk (Below.refl w.heap.size w)
  have H : (if (l0.length : Int) > 8 then some (-1) else ((impl_areSheets.f k l0).bind fun t => (if t = true then (if 0 < (l0.length : Int) then (if 1 ≤ (rd_L2 l0 0).length ∧ (rd_L2 l0 0).length ≤ 100 then ((impl_identity.f k ((rd_L2 l0 0).length : Int)).bind fun xs => (if xs.length = (rd_L2 l0 0).length then impl_SheetSymmetries.oR (impl_SheetSymmetries.g0 k l0) xs.length 0 xs 0 else none)) else none) else none) else some (-1)))) = some r := h
  clear h
  by_cases c1 : (l0.length : Int) > 8
  · rw [if_pos c1] at H
    obtain rfl := Option.some.inj H
    have c1b0 : decide (8 < (l0.length : Int)) = true := decide_eq_true c1
    clear H c1
    go_enter Try.func25, Try.ntmps25
    go_wp2
    go_ret
    exact ⟨rfl, below_alloc HB.out _⟩
  · rw [if_neg c1] at H
    have c1b0 : decide (8 < (l0.length : Int)) = false := decide_eq_false c1
    clear c1
    obtain ⟨t, A10, H⟩ := Option.bind_eq_some_iff.mp H
    have A1 := Aside0.mk A10
    have HH := Aside0.mk H
    clear A10 H
    go_enter Try.func25, Try.ntmps25
    go_wp2_with fail
    have b1 : Below w.heap.size w (w.alloc (.cells #[.slice A0 l0.length c0] 24)) := below_alloc (Below.refl _ _) _
    have hL1 : (w.alloc (.cells #[.slice A0 l0.length c0] 24)).heap[w.heap.size]? = some (.cells #[.slice A0 l0.length c0] 24 (0, 0)) := heap_alloc_new _ _
    generalize (w.alloc (.cells #[.slice A0 l0.length c0] 24)) = w1 at b1 hL1 ⊢
    (go_at_call 43; (with_reducible refine (impl_areSheets.calls k _ _ l0 t _ (Kd.C_below HR0.out b1) HC0.out A1.out).mono ?_))
    rintro e w2 ⟨rfl, hb⟩
    have hL2 := (hb.block _ (lt_of_block hL1)).trans hL1
    have b2 := Aside0.mk (below_step b1 hb)
    clear hL1 b1 hb A1
    cases t with
    | false =>
      have h := HH.out
      rw [if_neg (by decide)] at h
      obtain rfl := Option.some.inj h
      clear h HH
      go_wp2
      go_ret
      exact ⟨rfl, b2.out⟩
    | true =>
      have h := HH.out
      rw [if_pos rfl] at h
      by_cases c2 : 0 < (l0.length : Int)
      · rw [if_pos c2] at h
        by_cases c3 : 1 ≤ (rd_L2 l0 0).length ∧ (rd_L2 l0 0).length ≤ 100
        · rw [if_pos c3] at h
          obtain ⟨xs, A20, h⟩ := Option.bind_eq_some_iff.mp h
          by_cases c4 : xs.length = (rd_L2 l0 0).length
          · rw [if_pos c4] at h
            have A2 := Aside0.mk A20
            have HF := Aside0.mk h
            clear A20 h HH
            obtain ⟨ad, A5, c5, e5, hx5, hl5, hi5⟩ := at_L2 HR0.out 0 (by omega) c2
            subst e5
            rw [show ((0 : Int)).toNat = 0 from rfl, Addr.add_zero'] at hx5
            have hx := (b2.out.cell (World.block_lt_of_cell? w _ hx5)).trans hx5
            have hadl : ad.block < w2.heap.size := by have := World.block_lt_of_cell? w _ hx5; have := b2.out.size; omega
            clear hx5
            have hLc := cell_of_one hL2
            have ltL := lt_of_block hL2
            have q5 := eq_true c2
            have p5 : ((0 : Int) ≤ 0) = True := by simp
            go_wp2_with fail
            have b3 : Below w2.heap.size w2 (w2.alloc (.cells #[.int .i64 0] 3)) := below_alloc (Below.refl _ _) _
            have hU3 : (w2.alloc (.cells #[.int .i64 0] 3)).heap[w2.heap.size]? = some (.cells #[.int .i64 0] 3 (0, 0)) := heap_alloc_new _ _
            generalize (w2.alloc (.cells #[.int .i64 0] 3)) = w3 at b3 hU3 ⊢
            have hL3 := (b3.block _ ltL).trans hL2
            (go_at_call 60; (with_reducible refine (impl_identity.calls k _ xs _ A2.out).mono ?_))
            rintro e w4 ⟨v, rfl, ho, hb⟩
            obtain ⟨Ax, cx, rfl⟩ := Kd.R_slice ho
            have hL4 := Aside0.mk ((hb.block _ (lt_of_block hL3)).trans hL3)
            have hU4 := Aside0.mk ((hb.block _ (lt_of_block hU3)).trans hU3)
            have b4 := Aside0.mk (below_step (below_step b2.out b3) hb)
            have HO := Aside0.mk ho
            have lo := b2.out.size
            have ne : w2.heap.size ≠ w.heap.size := by omega
            clear hL3 hU3 b3 ho hb hL2 hLc hx
            go_wp2_with fail
            have hcall := impl_SheetSymmetries.orders w w.heap.size w2.heap.size (some ad) c0 l0 k Ax cx xs 0 r w4 HR0.out HC0.out (by omega) (by omega) (Kd.R_reads' HO.out).2.2 (Kd.R_reads' HO.out).2.1 HF.out b4.out hL4.out hU4.out lo ne
            rw [c4] at hcall
            (go_at_call 63; (with_reducible refine hcall.mono ?_))
            rintro e w5 ⟨rfl, hb5, hU5⟩
            have b5 := Aside0.mk hb5
            have hu5 := cell_of_one hU5
            clear hb5 hcall hU5
            go_wp2
            go_ret
            exact ⟨rfl, b5.out⟩
          · rw [if_neg c4] at h
            exact absurd h (by simp)
        · rw [if_neg c3] at h
          exact absurd h (by simp)
      · rw [if_neg c2] at h
        exact absurd h (by simp)

end Go.Proofs.Ytepogblkmiidnaa.PFnCovers
