import Derived.Test.YtepogblkmiidnaaWSpanB
import Derived.OneCell
import Derived.Laws.EntriesVeiled
import Derived.BigRegion
import Derived.RegionTactic
import Derived.Deep.RegionLaw
import Derived.Test.YtepogblkmiidnaaPFnCoversx0
import Derived.Test.YtepogblkmiidnaaPFnCoversx3
import Derived.Test.YtepogblkmiidnaaPFnCoversx5
import Derived.Test.YtepogblkmiidnaaPFnCoversx6
import Derived.Test.YtepogblkmiidnaaPFnCoversx16
namespace Go.Proofs.Ytepogblkmiidnaa.PFnCovers
open Go.RowKit Go.Proofs.YtepogblkmiidnaaW.PrintWords Go.Proofs.YtepogblkmiidnaaW.PrintLast Go.Proofs.YtepogblkmiidnaaW.PrintMore
attribute [local go_sem] max2_int min2_int max_two min_two max_three min_three max_four min_four   -- for this text's walks alone
set_option linter.unusedVariables false
set_option linter.unusedSimpArgs false

/-! ### impl_countActions: function 49 -/
def impl_countActions.swp (xs : List Int) (k i : Nat) : List Int := (xs.set k (xs.getD i 0)).set i (xs.getD k 0)
/-- the orders of xs from place k on: the loop, then its rounds -/
def impl_countActions.oL {σ : Type} (run : List Int → σ → Option σ) (k : Nat) (xs : List Int) : Nat → Nat → σ → Option σ
  | 0, _, s => some s
  | c + 1, i, s => (run (impl_countActions.swp xs k i) s).bind fun s' => impl_countActions.oL run k xs c (i + 1) s'
def impl_countActions.oR {σ : Type} (f : List Int → σ → Option σ) : Nat → Nat → List Int → σ → Option σ
  | 0, _, xs, s => f xs s
  | m + 1, k, xs, s => impl_countActions.oL (impl_countActions.oR f m (k + 1)) k xs (m + 1) k s
/-- all blocks but those of D stay -/
structure impl_countActions.Mv (D : Nat → Prop) (W W' : World) : Prop where
  os : W'.os = W.os
  tape : W'.tape = W.tape
  output : W'.output = W.output
  size : W.heap.size ≤ W'.heap.size
  block : ∀ b, b < W.heap.size → ¬ D b → W'.heap[b]? = W.heap[b]?
theorem impl_countActions.Mv.of_below {D : Nat → Prop} {W W' : World} (h : Below W.heap.size W W') : impl_countActions.Mv D W W' := ⟨h.os, h.tape, h.output, h.size, fun b hb _ => h.block b hb⟩
theorem impl_countActions.Mv.set {D : Nat → Prop} (W : World) {b : Nat} (hb : D b) (i : Nat) (u : Value) : impl_countActions.Mv D W (W.setCell ⟨b, i, none⟩ u) :=
  ⟨rfl, rfl, rfl, Nat.le_of_eq (by show _ = (W.heap.modify _ _).size; simp), fun k _ hk => Below.heap_setCell W ⟨b, i, none⟩ u k (fun e => hk (e ▸ hb))⟩
theorem impl_countActions.Mv.trans {D : Nat → Prop} {a b c : World} (h : impl_countActions.Mv D a b) (k : impl_countActions.Mv D b c) : impl_countActions.Mv D a c :=
  ⟨k.os.trans h.os, k.tape.trans h.tape, k.output.trans h.output, Nat.le_trans h.size k.size, fun i hi hd => (k.block i (Nat.lt_of_lt_of_le hi h.size) hd).trans (h.block i hi hd)⟩
/-- the client's memory: I D s W says that it stands so, and that none of its blocks is one of D -/
structure impl_countActions.Cl {σ : Type} (I : (Nat → Prop) → σ → World → Prop) : Prop where
  mv : ∀ D s W W', I D s W → impl_countActions.Mv D W W' → I D s W'
  gr : ∀ D D' s W W', I D s W → Below W.heap.size W W' → (∀ b, D' b → D b ∨ (W.heap.size ≤ b ∧ b < W'.heap.size)) → I D' s W'
/-- the memory of orders -/
structure impl_countActions.OG (D : Nat → Prop) (N : Nat) (PB : Nat) (CB RB OB : Nat) (v : Value) (xs : List Int) (W : World) : Prop where
  hC : W.heap[CB]? = some (.cells #[.func (.func 82) #[] #[.pointer (some ⟨PB, 0, none⟩)]] 72 (0, 0))
  hR : W.heap[RB]? = some (.cells #[.func (.func 88) #[] #[.pointer (some ⟨OB, 0, none⟩), .pointer (some ⟨CB, 0, none⟩), .pointer (some ⟨RB, 0, none⟩)]] 83 (0, 0))
  hO : W.heap[OB]? = some (.cells #[v] 30 (0, 0))
  hG : Kd.R (Kd.int .i64) 3 W 0 (fun b => D b ∧ N ≤ b ∧ b ≠ CB ∧ b ≠ RB ∧ b ≠ OB) v xs
  hD : D CB ∧ D RB ∧ D OB
section
open impl_countActions
variable {D : Nat → Prop} {N : Nat} {PB : Nat} {CB RB OB : Nat} {v : Value} {xs : List Int} {W W' : World}
theorem impl_countActions.OG.keep (h : OG D N PB CB RB OB v xs W) (hk : ∀ b, D b → b < W.heap.size → W'.heap[b]? = W.heap[b]?) : OG D N PB CB RB OB v xs W' :=
  { hC := (hk _ h.hD.1 (lt_of_block h.hC)).trans h.hC
    hR := (hk _ h.hD.2.1 (lt_of_block h.hR)).trans h.hR
    hO := (hk _ h.hD.2.2 (lt_of_block h.hO)).trans h.hO
    hG := Kd.R_step h.hG (fun k hk' hlt => hk k hk'.1 hlt)
    hD := h.hD }
theorem impl_countActions.OG.put {g n cap : Nat} (h : OG D N PB CB RB OB (.slice (some ⟨g, 0, none⟩) n cap) xs W) (hn : n = xs.length) (i : Nat) (u : Int) : OG D N PB CB RB OB (.slice (some ⟨g, 0, none⟩) n cap) (xs.set i u) (W.setCell ⟨g, i, none⟩ (.int .i64 u)) := by
  subst hn
  have o : ∀ b, b ≠ g → (W.setCell ⟨g, i, none⟩ (.int .i64 u)).heap[b]? = W.heap[b]? := fun b hb => Below.heap_setCell W ⟨g, i, none⟩ _ b hb
  obtain ⟨_, _, n1, n2, n3⟩ := h.hG.1 g (by simp [Value.ownBlock])
  have p := (Kd.R_put (enc := Value.int .i64) (h1 := fun _ => rfl) h.hG (i : Int) u).1
  rw [Int.toNat_natCast] at p
  exact { hC := (o _ n1.symm).trans h.hC
          hR := (o _ n2.symm).trans h.hR
          hO := (o _ n3.symm).trans h.hO
          hG := p
          hD := h.hD }
theorem impl_countActions.OG.swap {g n cap : Nat} (h : OG D N PB CB RB OB (.slice (some ⟨g, 0, none⟩) n cap) xs W) (hn : n = xs.length) (k i : Nat) (hk : k < n) (hi : i < n) :
    ∃ xk xi : Int, W.cell? ⟨OB, 0, none⟩ = some (.slice (some ⟨g, 0, none⟩) n cap) ∧ W.cell? ⟨g, k, none⟩ = some (.int .i64 xk) ∧ W.frozen? ⟨g, k, none⟩ = false ∧ W.cell? ⟨g, i, none⟩ = some (.int .i64 xi) ∧ W.frozen? ⟨g, i, none⟩ = false ∧
      (W.setCell ⟨g, k, none⟩ (.int .i64 xi)).cell? ⟨OB, 0, none⟩ = some (.slice (some ⟨g, 0, none⟩) n cap) ∧ (W.setCell ⟨g, k, none⟩ (.int .i64 xi)).cell? ⟨g, i, none⟩ = some (.int .i64 xi) ∧ (W.setCell ⟨g, k, none⟩ (.int .i64 xi)).frozen? ⟨g, i, none⟩ = false ∧
      OG D N PB CB RB OB (.slice (some ⟨g, 0, none⟩) n cap) (swp xs k i) ((W.setCell ⟨g, k, none⟩ (.int .i64 xi)).setCell ⟨g, i, none⟩ (.int .i64 xk)) ∧ Mv D W ((W.setCell ⟨g, k, none⟩ (.int .i64 xi)).setCell ⟨g, i, none⟩ (.int .i64 xk)) ∧
      (∀ b, b < N → ((W.setCell ⟨g, k, none⟩ (.int .i64 xi)).setCell ⟨g, i, none⟩ (.int .i64 xk)).heap[b]? = W.heap[b]?) := by
  subst hn
  obtain ⟨d1, d2, _⟩ := h.hG.1 g (by simp [Value.ownBlock])
  obtain ⟨ck, fk⟩ := Kd.R_cell (enc := Value.int .i64) (h1 := fun _ => rfl) (0 : Int) h.hG (k : Int) (by omega) (by omega)
  obtain ⟨ci, fi⟩ := Kd.R_cell (enc := Value.int .i64) (h1 := fun _ => rfl) (0 : Int) h.hG (i : Int) (by omega) (by omega)
  rw [Int.toNat_natCast] at ck fk ci fi
  have gk : rdOf (0 : Int) xs (k : Int) = xs.getD k 0 := by simp [rdOf, hk]
  have gi : rdOf (0 : Int) xs (i : Int) = xs.getD i 0 := by simp [rdOf, hi]
  rw [gk] at ck
  rw [gi] at ci
  have hp := h.put rfl k (xs.getD i 0)
  have e2 : rdOf (0 : Int) (xs.set k (xs.getD i 0)) (i : Int) = xs.getD i 0 := by
    by_cases hik : i = k
    · subst hik; simp [rdOf, hi]
    · simp [rdOf, List.getElem?_set, Ne.symm hik, hi]
  obtain ⟨ci2, fi2⟩ := Kd.R_cell (enc := Value.int .i64) (h1 := fun _ => rfl) (0 : Int) (xs := xs.set k (xs.getD i 0)) (cap := cap) (g := g) (by have q := hp.hG; rw [show xs.length = (xs.set k (xs.getD i 0)).length by simp] at q; exact q) (i : Int) (by omega) (by simp; omega)
  rw [Int.toNat_natCast, e2] at ci2
  rw [Int.toNat_natCast] at fi2
  refine ⟨_, _, cell_of_one h.hO, ck, fk, ci, fi, cell_of_one hp.hO, ci2, fi2, hp.put (by simp) i (xs.getD k 0), (Mv.set W d1 _ _).trans (Mv.set _ d1 _ _), fun b hb => ?_⟩
  rw [Below.heap_setCell _ ⟨g, i, none⟩ _ b (by show b ≠ g; omega), Below.heap_setCell _ ⟨g, k, none⟩ _ b (by show b ≠ g; omega)]
end
theorem impl_countActions.swp_len (xs : List Int) (k i : Nat) : (impl_countActions.swp xs k i).length = xs.length := by simp [impl_countActions.swp]
theorem impl_countActions.swp_swp (xs : List Int) (k i : Nat) (hk : k < xs.length) (hi : i < xs.length) : impl_countActions.swp (impl_countActions.swp xs k i) k i = xs := by
  apply List.ext_getElem?
  intro j
  by_cases h1 : j = i
  · subst h1
    by_cases h2 : k = j
    · subst h2; simp [impl_countActions.swp, hk]
    · simp [impl_countActions.swp, hk, hi, List.getElem?_set, h2, Ne.symm h2]
  · by_cases h2 : j = k
    · subst h2; simp [impl_countActions.swp, hk, hi, List.getElem?_set, h1, Ne.symm h1]
    · simp [impl_countActions.swp, List.getElem?_set, Ne.symm h1, Ne.symm h2]
/-- what the client's function owes -/
def impl_countActions.Fn {σ : Type} (I : (Nat → Prop) → σ → World → Prop) (run : List Int → σ → Option σ) (PB : Nat) (D : Nat → Prop) : Prop :=
  ∀ (A : Option Addr) (n c : Nat) (xs : List Int) (s s' : σ) (W : World), n = xs.length → run xs s = some s' → I D s W → Kd.R (Kd.int .i64) 3 W 0 D (.slice A n c) xs →
    Calls Try.prog 82 #[.slice A n c, .pointer (some ⟨PB, 0, none⟩)] W fun e W' => e = .returned (.tuple #[]) ∧ I D s' W' ∧ W.heap.size ≤ W'.heap.size ∧ ∀ b, D b → b < W.heap.size → W'.heap[b]? = W.heap[b]?
/-- what orders itself owes -/
def impl_countActions.Po {σ : Type} (I : (Nat → Prop) → σ → World → Prop) (D : Nat → Prop) (N : Nat) (PB : Nat) (CB RB OB : Nat) (v : Value) (xs : List Int) (s' : σ) (W W' : World) : Prop :=
  impl_countActions.OG D N PB CB RB OB v xs W' ∧ I D s' W' ∧ W.heap.size ≤ W'.heap.size ∧ ∀ b, b < N → D b → W'.heap[b]? = W.heap[b]?
set_option maxHeartbeats 16000000 in
set_option maxRecDepth 100000 in
/-- the orders from place k on -/
theorem impl_countActions.rest {σ : Type} {I : (Nat → Prop) → σ → World → Prop} (hI : impl_countActions.Cl I) {run : List Int → σ → Option σ} (D : Nat → Prop) (N : Nat) (PB : Nat) (CB RB OB : Nat) (hF : impl_countActions.Fn I run PB D) (n : Nat) (hn9 : n ≤ 100) : ∀ (m k : Nat) (A : Option Addr) (cap : Nat) (xs : List Int) (s s' : σ) (W : World), k + m = n → n = xs.length →
    impl_countActions.oR run m k xs s = some s' → impl_countActions.OG D N PB CB RB OB (.slice A n cap) xs W → N ≤ W.heap.size → I D s W →
    Calls Try.prog 88 #[.int .i64 k, .pointer (some ⟨OB, 0, none⟩), .pointer (some ⟨CB, 0, none⟩), .pointer (some ⟨RB, 0, none⟩)] W fun e W' => e = .returned (.tuple #[]) ∧ impl_countActions.Po I D N PB CB RB OB (.slice A n cap) xs s' W W' := by
  intro m
  induction m with
  | zero =>
    intro k A cap xs s s' W hk hn h H hN hi
    simp only [impl_countActions.oR] at h
    obtain rfl : k = n := by omega
    subst hn
    have HS := Aside0.mk H
    have HN := Aside0.mk hN
    have hOc := cell_of_one H.hO
    have hCc := cell_of_one H.hC
    have HK := Aside0.mk (hF A xs.length cap xs s s' W rfl h hi (Kd.R_mono H.hG (fun _ hk => hk.1)))
    clear H h hi hF hI hN
    go_enter Try.func88, Try.ntmps88
    go_wp2_with fail
    (go_at_call 82; (with_reducible refine HK.out.mono ?_))
    rintro e W1 ⟨rfl, hi1, hs1, hk1⟩
    have HP : Aside0 (impl_countActions.Po I D N PB CB RB OB (.slice A xs.length cap) xs s' W W1) := ⟨⟨HS.out.keep hk1, hi1, hs1, fun b hb hd => hk1 b hd (by have := HN.out; omega)⟩⟩
    clear HK hOc hCc hi1 hk1 hs1 HS HN
    go_wp2
    refine bodyPost_ret (results_none rfl _ _ _) rfl ?_
    exact ⟨rfl, HP.out⟩
  | succ m ih =>
    intro k A cap xs s s' W hk hn h H hN hi
    simp only [impl_countActions.oR] at h
    subst hn
    obtain ⟨g, cap0, e0, -, -, -⟩ := Kd.R_form H.hG (by omega)
    injection e0 with e1 _ e3
    subst e1 e3
    have HS : Aside0 (impl_countActions.Po I D N PB CB RB OB (.slice (some ⟨g, 0, none⟩) xs.length cap) xs s W W) := ⟨⟨H, hi, Nat.le_refl _, fun _ _ _ => rfl⟩⟩
    have HN := Aside0.mk hN
    have HH := Aside0.mk h
    have IH := Aside0.mk ih
    have HI := Aside0.mk hI
    have hOc := cell_of_one H.hO
    have hne : ((k : Int) == (xs.length : Int)) = false := beq_eq_false_iff_ne.mpr (by omega)
    clear H h ih hF hN hi hI
    go_enter Try.func88, Try.ntmps88
    go_wp2
    clear hOc
    go_loopg [5] (xs.length + 1) (fun kq v5 w' => ∃ (i : Nat) (s1 : σ), v5 = .int .i64 (i : Int) ∧ Aside0 (impl_countActions.oL (impl_countActions.oR run m (k + 1)) k xs (xs.length - i) i s1 = some s') ∧ Aside0 (k ≤ i ∧ i ≤ xs.length ∧ xs.length - i < kq) ∧ Aside0 (impl_countActions.Po I D N PB CB RB OB (.slice (some ⟨g, 0, none⟩) xs.length cap) xs s1 W w'))
    case atStart => exact ⟨k, s, rfl, ⟨by rw [show xs.length - k = m + 1 by omega]; exact HH.out⟩, ⟨by omega⟩, HS⟩
    case round =>
      clear HS HH hne
      obtain ⟨i, s1, rfl, HA, HB, HS⟩ := hrel
      have hOc := cell_of_one HS.out.1.hO
      by_cases c1 : i < xs.length
      · have c1b0 : decide ((i : Int) < (xs.length : Int)) = true := decide_eq_true (by omega)
        obtain ⟨s2, A10, A20⟩ : ∃ s2, impl_countActions.oR run m (k + 1) (impl_countActions.swp xs k i) s1 = some s2 ∧ impl_countActions.oL (impl_countActions.oR run m (k + 1)) k xs (xs.length - (i + 1)) (i + 1) s2 = some s' := by
          have h := HA.out
          rw [show xs.length - i = (xs.length - (i + 1)) + 1 by omega] at h
          exact Option.bind_eq_some_iff.mp h
        have A1 := Aside0.mk A10
        have A2 := Aside0.mk A20
        clear A10 A20 HA
        have hkl : k < xs.length := by omega
        have pk : (0 : Int) ≤ (k : Int) := by omega
        have pi : (0 : Int) ≤ (i : Int) := by omega
        have qk : (k : Int) < (xs.length : Int) := by omega
        have qi : (i : Int) < (xs.length : Int) := by omega
        have ek : ((k : Int)).toNat = k := Int.toNat_natCast k
        have ei : ((i : Int)).toNat = i := Int.toNat_natCast i
        have wk : wrap64 ((k : Int) + 1) = ((k + 1 : Nat) : Int) := by unfold wrap64; omega
        have wi : wrap64 ((i : Int) + 1) = ((i + 1 : Nat) : Int) := by unfold wrap64; omega
        clear hOc
        obtain ⟨xk, xi, hOc, ck, fk, ci, fi, hOc2, ci2, fi2, hsw, hmv, hkp⟩ := HS.out.1.swap rfl k i hkl c1
        have HS5 : Aside0 (impl_countActions.Po I D N PB CB RB OB (.slice (some ⟨g, 0, none⟩) xs.length cap) (impl_countActions.swp xs k i) s1 W ((wr.setCell ⟨g, k, none⟩ (.int .i64 xi)).setCell ⟨g, i, none⟩ (.int .i64 xk)).drew) := by
          have hb := below_drew1 (Below.refl ((wr.setCell ⟨g, k, none⟩ (.int .i64 xi)).setCell ⟨g, i, none⟩ (.int .i64 xk)).heap.size ((wr.setCell ⟨g, k, none⟩ (.int .i64 xi)).setCell ⟨g, i, none⟩ (.int .i64 xk)))
          have hm2 := hmv.trans (impl_countActions.Mv.of_below hb)
          exact ⟨⟨hsw.keep (fun b _ hlt => hb.block b hlt), HI.out.mv _ _ _ _ HS.out.2.1 hm2, Nat.le_trans HS.out.2.2.1 hm2.size, fun b hb' hd => ((hb.block b (Nat.lt_of_lt_of_le hb' (Nat.le_trans (Nat.le_trans HN.out HS.out.2.2.1) hmv.size))).trans (hkp b hb')).trans (HS.out.2.2.2 b hb' hd)⟩⟩
        clear hsw hmv hkp
        go_wp2_with fail
        go_region
        clear HS hOc ck fk ci fi hOc2 ci2 fi2
        generalize ((wr.setCell ⟨g, k, none⟩ (.int .i64 xi)).setCell ⟨g, i, none⟩ (.int .i64 xk)).drew = W5 at HS5 ⊢
        as_aux_lemma =>
        have hRc := cell_of_one HS5.out.1.hR
        go_wp2_with fail
        have hcall := IH.out (k + 1) (some ⟨g, 0, none⟩) cap (impl_countActions.swp xs k i) s1 s2 W5 (by omega) (impl_countActions.swp_len xs k i).symm A1.out HS5.out.1 (Nat.le_trans HN.out HS5.out.2.2.1) HS5.out.2.1
        rw [show ((k + 1 : Nat) : Int) = (k : Int) + 1 by omega] at hcall
        (go_at_call 88; (with_reducible refine hcall.mono ?_))
        clear hcall
        rintro e W6 ⟨rfl, hs6, hi6, hz6, hk6⟩
        have HS6 : Aside0 (impl_countActions.Po I D N PB CB RB OB (.slice (some ⟨g, 0, none⟩) xs.length cap) (impl_countActions.swp xs k i) s2 W W6) := ⟨⟨hs6, hi6, Nat.le_trans HS5.out.2.2.1 hz6, fun b hb hd => (hk6 b hb hd).trans (HS5.out.2.2.2 b hb hd)⟩⟩
        clear hs6 hi6 hz6 hk6 HS5 hRc
        obtain ⟨yk, yi, hOc, ck, fk, ci, fi, hOc2, ci2, fi2, hsw, hmv, hkp⟩ := HS6.out.1.swap (impl_countActions.swp_len xs k i).symm k i hkl c1
        rw [impl_countActions.swp_swp xs k i hkl c1] at hsw
        have HS7 : Aside0 (impl_countActions.Po I D N PB CB RB OB (.slice (some ⟨g, 0, none⟩) xs.length cap) xs s2 W ((W6.setCell ⟨g, k, none⟩ (.int .i64 yi)).setCell ⟨g, i, none⟩ (.int .i64 yk)).drew) := by
          have hb := below_drew1 (Below.refl ((W6.setCell ⟨g, k, none⟩ (.int .i64 yi)).setCell ⟨g, i, none⟩ (.int .i64 yk)).heap.size ((W6.setCell ⟨g, k, none⟩ (.int .i64 yi)).setCell ⟨g, i, none⟩ (.int .i64 yk)))
          have hm2 := hmv.trans (impl_countActions.Mv.of_below hb)
          exact ⟨⟨hsw.keep (fun b _ hlt => hb.block b hlt), HI.out.mv _ _ _ _ HS6.out.2.1 hm2, Nat.le_trans HS6.out.2.2.1 hm2.size, fun b hb' hd => ((hb.block b (Nat.lt_of_lt_of_le hb' (Nat.le_trans (Nat.le_trans HN.out HS6.out.2.2.1) hmv.size))).trans (hkp b hb')).trans (HS6.out.2.2.2 b hb' hd)⟩⟩
        clear hsw hmv hkp
        go_wp2_with fail
        go_region
        clear HS6 hOc ck fk ci fi hOc2 ci2 fi2
        generalize ((W6.setCell ⟨g, k, none⟩ (.int .i64 yi)).setCell ⟨g, i, none⟩ (.int .i64 yk)).drew = W7 at HS7 ⊢
        as_aux_lemma =>
        go_wp2
        go_roundg (xs.length - i)
        case measure => have := HB.out; omega
        case rel => exact ⟨i + 1, s2, by first | rfl | (rw [wi]), A2, ⟨by have := HB.out; omega⟩, HS7⟩
      · have c1b0 : decide ((i : Int) < (xs.length : Int)) = false := decide_eq_false (by omega)
        have hs' : s1 = s' := by
          have h := HA.out
          rw [show xs.length - i = 0 by omega] at h
          exact Option.some.inj h
        subst hs'
        clear HA
        go_wp2
        go_end0
        exact ⟨rfl, HS.out⟩
set_option maxHeartbeats 8000000 in
set_option maxRecDepth 100000 in
theorem impl_countActions.orders {σ : Type} {I : (Nat → Prop) → σ → World → Prop} (hI : impl_countActions.Cl I) {run : List Int → σ → Option σ} (D0 : Nat → Prop) (PB : Nat) (hF : ∀ D, impl_countActions.Fn I run PB D) (Al : Option Addr) (cl : Nat) (xs : List Int) (s s' : σ) (W : World)
    (hx2 : xs.length ≤ 100) (hC : Kd.C (Kd.int .i64) W Al xs.length xs) (hcl : xs.length ≤ cl) (h : impl_countActions.oR run xs.length 0 xs s = some s') (hi : I D0 s W) :
    Calls Try.prog 63 #[.slice Al xs.length cl, .func (.func 82) #[] #[.pointer (some ⟨PB, 0, none⟩)]] W fun e W' => e = .returned (.tuple #[]) ∧ I D0 s' W' ∧ W.heap.size ≤ W'.heap.size ∧ ∀ b, D0 b → b < W.heap.size → W'.heap[b]? = W.heap[b]? := by
  have HX := Aside0.mk hC
  have HH := Aside0.mk h
  have HI0 := Aside0.mk hi
  have HF := Aside0.mk hF
  have HI := Aside0.mk hI
  clear hC h hi hF hI
  have hcp : impl_copyOf.f xs = some xs := by
    show (if ([] : List Int).length + xs.length < 17592186044416 then some ([] ++ xs) else none) = some xs
    rw [if_pos (by simp; omega)]
    rfl
  go_enter Try.func63, Try.ntmps63
  go_wp2_with fail
  have b1 : Below W.heap.size W ((W.alloc (.cells #[.func (.func 82) #[] #[.pointer (some ⟨PB, 0, none⟩)]] 72)).alloc (.cells #[.nilFunc] 83)) := below_alloc (below_alloc (Below.refl _ _) _) _
  have sz : ((W.alloc (.cells #[.func (.func 82) #[] #[.pointer (some ⟨PB, 0, none⟩)]] 72)).alloc (.cells #[.nilFunc] 83)).heap.size = W.heap.size + 2 := by
    show ((W.heap.push _).push _).size = _
    simp
  have hC1 : ((W.alloc (.cells #[.func (.func 82) #[] #[.pointer (some ⟨PB, 0, none⟩)]] 72)).alloc (.cells #[.nilFunc] 83)).heap[W.heap.size]? = some (.cells #[.func (.func 82) #[] #[.pointer (some ⟨PB, 0, none⟩)]] 72 (0, 0)) := by
    show ((W.heap.push _).push _)[W.heap.size]? = _
    rw [Array.getElem?_push, if_neg (by simp), Array.getElem?_push, if_pos rfl]
  have hR1 : ((W.alloc (.cells #[.func (.func 82) #[] #[.pointer (some ⟨PB, 0, none⟩)]] 72)).alloc (.cells #[.nilFunc] 83)).heap[W.heap.size + 1]? = some (.cells #[.nilFunc] 83 (0, 0)) := by
    show ((W.heap.push _).push _)[W.heap.size + 1]? = _
    rw [Array.getElem?_push, if_pos (by simp)]
  generalize ((W.alloc (.cells #[.func (.func 82) #[] #[.pointer (some ⟨PB, 0, none⟩)]] 72)).alloc (.cells #[.nilFunc] 83)) = W1 at b1 sz hC1 hR1 ⊢
  (go_at_call 83; (with_reducible refine (impl_copyOf.calls Al cl xs xs W1 (Kd.C_below HX.out b1) hcl hcp).mono ?_))
  rintro e W2 ⟨v, rfl, ho, hb⟩
  obtain ⟨Ax, cx, rfl⟩ := Kd.R_slice ho
  have hC2 := (hb.block _ (lt_of_block hC1)).trans hC1
  have hR2 := (hb.block _ (lt_of_block hR1)).trans hR1
  have b2 := Aside0.mk (below_step b1 hb)
  have HO := Aside0.mk ho
  have HC2 := Aside0.mk hC2
  have sz2 : W.heap.size + 2 ≤ W2.heap.size := by have := hb.size; omega
  clear hC1 hR1 ho hb b1 hC2
  have hR3 : (W2.alloc (.cells #[.slice Ax xs.length cx] 30)).heap[W.heap.size + 1]? = some (.cells #[.nilFunc] 83 (0, 0)) := ((below_alloc (Below.refl _ _) _).block _ (lt_of_block hR2)).trans hR2
  have hr3c := cell_of_one hR3
  have hr3f := free_of_one hR3
  have hR4 := one_setCell (u := .func (.func 88) #[] #[.pointer (some ⟨W2.heap.size, 0, none⟩), .pointer (some ⟨W.heap.size, 0, none⟩), .pointer (some ⟨W.heap.size + 1, 0, none⟩)]) hR3
  have hr4c := cell_of_one hR4
  have hr2c := cell_of_one hR2
  have hr2f := free_of_one hR2
  have lt2 : W.heap.size + 1 < W2.heap.size := by omega
  have ne2 : W.heap.size + 1 ≠ W2.heap.size := by omega
  have ne3 : W2.heap.size ≠ W.heap.size + 1 := by omega
  have hO4 : impl_countActions.Po I (fun b => D0 b ∨ (W.heap.size ≤ b ∧ b ≤ W2.heap.size)) W.heap.size PB W.heap.size (W.heap.size + 1) W2.heap.size (.slice Ax xs.length cx) xs s W ((W2.setCell ⟨W.heap.size + 1, 0, none⟩ (.func (.func 88) #[] #[.pointer (some ⟨W2.heap.size, 0, none⟩), .pointer (some ⟨W.heap.size, 0, none⟩), .pointer (some ⟨W.heap.size + 1, 0, none⟩)])).alloc (.cells #[.slice Ax xs.length cx] 30)) := by
    have szs : (W2.setCell ⟨W.heap.size + 1, 0, none⟩ (.func (.func 88) #[] #[.pointer (some ⟨W2.heap.size, 0, none⟩), .pointer (some ⟨W.heap.size, 0, none⟩), .pointer (some ⟨W.heap.size + 1, 0, none⟩)])).heap.size = W2.heap.size := by
      show (W2.heap.modify _ _).size = _
      simp
    have o : ∀ b, b < W2.heap.size → b ≠ W.heap.size + 1 → ((W2.setCell ⟨W.heap.size + 1, 0, none⟩ (.func (.func 88) #[] #[.pointer (some ⟨W2.heap.size, 0, none⟩), .pointer (some ⟨W.heap.size, 0, none⟩), .pointer (some ⟨W.heap.size + 1, 0, none⟩)])).alloc (.cells #[.slice Ax xs.length cx] 30)).heap[b]? = W2.heap[b]? := fun b hb hne =>
      ((below_alloc (Below.refl _ _) _).block b (by rw [szs]; exact hb)).trans (Below.heap_setCell W2 ⟨W.heap.size + 1, 0, none⟩ _ b hne)
    have bb : Below W.heap.size W ((W2.setCell ⟨W.heap.size + 1, 0, none⟩ (.func (.func 88) #[] #[.pointer (some ⟨W2.heap.size, 0, none⟩), .pointer (some ⟨W.heap.size, 0, none⟩), .pointer (some ⟨W.heap.size + 1, 0, none⟩)])).alloc (.cells #[.slice Ax xs.length cx] 30)) := below_alloc (below_set b2.out (by omega)) _
    have szf : ((W2.setCell ⟨W.heap.size + 1, 0, none⟩ (.func (.func 88) #[] #[.pointer (some ⟨W2.heap.size, 0, none⟩), .pointer (some ⟨W.heap.size, 0, none⟩), .pointer (some ⟨W.heap.size + 1, 0, none⟩)])).alloc (.cells #[.slice Ax xs.length cx] 30)).heap.size = W2.heap.size + 1 := by
      rw [← szs]
      show (Array.push _ _).size = _
      simp
    refine ⟨{
      hC := (o _ (by omega) (by omega)).trans HC2.out
      hR := ((below_alloc (Below.refl _ _) _).block _ (by rw [szs]; omega)).trans (one_setCell hR2)
      hO := by
        have q := heap_alloc_new (W2.setCell ⟨W.heap.size + 1, 0, none⟩ (.func (.func 88) #[] #[.pointer (some ⟨W2.heap.size, 0, none⟩), .pointer (some ⟨W.heap.size, 0, none⟩), .pointer (some ⟨W.heap.size + 1, 0, none⟩)])) (.cells #[.slice Ax xs.length cx] 30)
        rw [szs] at q
        exact q
      hG := Kd.R_mono (Kd.R_lower (Kd.R_step (Kd.R_bound HO.out) (fun q hq hlt => o q hlt (by have := hq.2.1; omega))) (Nat.zero_le _)) (fun q hq => by have h1 := hq.2.1; have h2 := hq.2.2.1; exact ⟨.inr ⟨by omega, by omega⟩, by omega, by omega, by omega, by omega⟩)
      hD := ⟨.inr ⟨by omega, by omega⟩, .inr ⟨by omega, by omega⟩, .inr ⟨by omega, by omega⟩⟩ }, HI.out.gr _ _ _ _ _ HI0.out bb (fun b hb => hb.imp id (fun q => ⟨q.1, by rw [szf]; omega⟩)), bb.size, fun b hb _ => bb.block b hb⟩
  have HS := Aside0.mk hO4
  clear hO4 hR2
  go_wp2_with fail
  have hcall := impl_countActions.rest HI.out (fun b => D0 b ∨ (W.heap.size ≤ b ∧ b ≤ W2.heap.size)) W.heap.size PB W.heap.size (W.heap.size + 1) W2.heap.size (HF.out _) xs.length hx2 xs.length 0 Ax cx xs s s' _ (by omega) rfl HH.out HS.out.1 HS.out.2.2.1 HS.out.2.1
  rw [show ((0 : Nat) : Int) = 0 from rfl] at hcall
  (go_at_call 88; (with_reducible refine hcall.mono ?_))
  rintro e W5 ⟨rfl, hs5⟩
  have HS5 : Aside0 (I D0 s' W5 ∧ W.heap.size ≤ W5.heap.size ∧ ∀ b, D0 b → b < W.heap.size → W5.heap[b]? = W.heap[b]?) := ⟨⟨HI.out.gr _ _ _ _ _ hs5.2.1 (Below.refl _ _) (fun b hb => .inl (.inl hb)), Nat.le_trans HS.out.2.2.1 hs5.2.2.1, fun b hd hb => (hs5.2.2.2 b hb (.inl hd)).trans (HS.out.2.2.2 b hb (.inl hd))⟩⟩
  clear hs5 hcall HS
  go_wp2
  go_end0
  exact ⟨rfl, HS5.out⟩
/-- the memory of the first phase: the row of orders behind PB -/
def impl_countActions.P1 (w0 : World) (PB GB : Nat) (a0 : Int) (D : Nat → Prop) (ps : List (List Int)) (W : World) : Prop :=
  Below w0.heap.size w0 W ∧ (∀ b, D b → b < W.heap.size ∧ w0.heap.size ≤ b) ∧ ¬ D PB ∧ ¬ D GB ∧ w0.heap.size ≤ PB ∧ PB ≠ GB ∧ W.heap[GB]? = some (.cells #[.int .i64 a0] 3 (0, 0)) ∧
  ∃ v, W.heap[PB]? = some (.cells #[v] 24 (0, 0)) ∧ Kd.R (Kd.slice 3 (Kd.int .i64)) 30 W w0.heap.size (fun b => ¬ D b ∧ b ≠ PB) v ps
theorem impl_countActions.P1_cl (w0 : World) (PB GB : Nat) (a0 : Int) : impl_countActions.Cl (impl_countActions.P1 w0 PB GB a0) where
  mv := by
    rintro D ps W W' ⟨h1, h2, h3, h4, h5, h6, h7, v, h8, h9⟩ m
    refine ⟨⟨m.os.trans h1.os, m.tape.trans h1.tape, m.output.trans h1.output, Nat.le_trans h1.size m.size, fun b hb => (m.block b (Nat.lt_of_lt_of_le hb h1.size) (fun hd => by have := (h2 b hd).2; omega)).trans (h1.block b hb)⟩, fun b hb => ⟨Nat.lt_of_lt_of_le (h2 b hb).1 m.size, (h2 b hb).2⟩, h3, h4, h5, h6, (m.block _ (lt_of_block h7) h4).trans h7, v, (m.block _ (lt_of_block h8) h3).trans h8, Kd.R_step h9 (fun k hk hlt => m.block k hlt hk.1)⟩
  gr := by
    rintro D D' ps W W' ⟨h1, h2, h3, h4, h5, h6, h7, v, h8, h9⟩ hb hd
    refine ⟨below_step h1 hb, fun b q => ?_, fun q => ?_, fun q => ?_, h5, h6, (hb.block _ (lt_of_block h7)).trans h7, v, (hb.block _ (lt_of_block h8)).trans h8, Kd.R_below (Kd.R_mono (Kd.R_bound h9) (fun k hk => ⟨fun q => ?_, hk.1.2⟩)) hb⟩
    · rcases hd b q with q | ⟨q1, q2⟩
      · exact ⟨Nat.lt_of_lt_of_le (h2 b q).1 hb.size, (h2 b q).2⟩
      · exact ⟨q2, Nat.le_trans h1.size q1⟩
    · rcases hd _ q with q | ⟨q1, _⟩
      · exact h3 q
      · have := lt_of_block h8; omega
    · rcases hd _ q with q | ⟨q1, _⟩
      · exact h4 q
      · have := lt_of_block h7; omega
    · rcases hd _ q with q | ⟨q1, _⟩
      · exact hk.1.1 q
      · have := hk.2.2.1; omega
def impl_countActions.run1 (xs : List Int) (ps : List (List Int)) : Option (List (List Int)) := if ps.length < 100000 ∧ xs.length ≤ 100 then some (ps ++ [xs]) else none
section
variable {ops : Array Oper} {o : Oper} {a : Act} {W : World} {Q : Exit → Act → World → Prop} {Kc : Act → World → Prop}
/-- a row of one row of the call's own, as it was laid -/
theorem impl_countActions.lit {base b : Nat} {okp : Nat → Prop} {x : List Int} {Ao : Option Addr} {co : Nat} (hb : W.heap[b]? = some (.cells #[.slice Ao x.length co] 30 (0, 0))) (hx : Kd.R (Kd.int .i64) 3 W base okp (.slice Ao x.length co) x) (hlb : base ≤ b) : ReadsRow (fun x cs => (Kd.slice 3 (Kd.int .i64)).M W base okp x cs) 1 W (some ⟨b, 0, none⟩) 1 [x] := by
  have h : OwnRow (fun x cs => (Kd.slice 3 (Kd.int .i64)).M W base okp x cs) 30 1 W base (.slice (some ⟨b, 0, none⟩) 1 1) [x] := by
    refine ⟨[.slice Ao x.length co], ⟨rfl, .inr ⟨b, 1, #[.slice Ao x.length co], rfl, hlb, hb, by simp, by simp [maxLen], rfl, rfl⟩⟩, rfl, fun j p hj => ?_⟩
    rcases j with _ | j
    · obtain rfl : x = p := by simpa using hj
      exact Kd.M_row hx
    · simp at hj
  obtain ⟨A, c, e, _, hr⟩ := OwnRow.reads h
  injection e with e1 e2 e3
  subst e1
  exact hr
theorem impl_countActions.gate (y z : Operand) {p : Prop} (_ : o.op = .call { callee := .builtin .append, args := #[y, z], argTypes := #[24, 24] }) (h : if Region.wanted o (yielded ops a.tmps) = true then Oper.wp Try.prog o a W Kc Q else p) : if Region.wanted o (yielded ops a.tmps) = true then Oper.wp Try.prog o a W Kc Q else p := h
theorem impl_countActions.app {w0 : World} (hgd : o.guard = none) (s y : Operand) (ho : o.op = .call { callee := .builtin .append, args := #[s, y], argTypes := #[24, 24] }) (v : Value) (b : Nat) (ok okp : Nat → Prop) (ps : List (List Int)) (x : List Int) (Ao : Option Addr) (co : Nat)
    (hs : a.eval s = v) (hy : a.eval y = .slice (some ⟨b, 0, none⟩) 1 1) (HO : Kd.R (Kd.slice 3 (Kd.int .i64)) 30 W w0.heap.size ok v ps) (hb : W.heap[b]? = some (.cells #[.slice Ao x.length co] 30 (0, 0))) (hx : Kd.R (Kd.int .i64) 3 W w0.heap.size okp (.slice Ao x.length co) x) (hlb : w0.heap.size ≤ b)
    (hokp : ∀ k, okp k → ok k ∧ some k ≠ v.ownBlock) (hfresh : ∀ k, W.heap.size ≤ k → ok k) (HB : Below w0.heap.size w0 W) (hl : ps.length < 2000000)
    (h : ∀ v1 w1, Kd.R (Kd.slice 3 (Kd.int .i64)) 30 w1 w0.heap.size ok v1 (ps ++ [x]) → Below w0.heap.size w0 w1 → W.grownBy w1 v.ownBlock → Kc (a.put o.dst v1) w1) :
    if Region.wanted o (yielded ops a.tmps) = true then Oper.wp Try.prog o a W Kc Q else Kc (a.put o.dst undef) W := by
  refine Kd.R_append_rows_step (Kd.slice 3 (Kd.int .i64)) (w0 := w0) w0.heap.size (by simp [Region.wanted, hgd]) s y 24 30 (.slice none 0 0) 24 ho Try.underlying24 info30 rfl (show (0 : Nat) < 1 by omega) (by omega) v ps [x] (some ⟨b, 0, none⟩) 1 1 ok okp hs hy HO (impl_countActions.lit hb hx hlb) (fun _ _ hp => hp) hokp hfresh HB HB.size (by omega) (fun v1 w1 h1 h2 h3 _ => h v1 w1 h1 h2 h3)
theorem impl_countActions.keep {w : World} {PB : Nat} {v : Value} (h : w.heap[PB]? = some (.cells #[v] 24 (0, 0))) (hb : Below w.heap.size w W) : W.cell? ⟨PB, 0, none⟩ = some v ∧ W.frozen? ⟨PB, 0, none⟩ = false := by
  have q := (hb.block _ (lt_of_block h)).trans h
  exact ⟨cell_of_one q, free_of_one q⟩
end
set_option maxHeartbeats 8000000 in
set_option maxRecDepth 100000 in
theorem impl_countActions.fn1 (w0 : World) (PB GB : Nat) (a0 : Int) (D : Nat → Prop) : impl_countActions.Fn (impl_countActions.P1 w0 PB GB a0) impl_countActions.run1 PB D := by
  intro A n c xs ps ps' W hn h hi hx
  subst hn
  unfold impl_countActions.run1 at h
  by_cases hl : ps.length < 100000 ∧ xs.length ≤ 100
  · rw [if_pos hl] at h
    obtain rfl := Option.some.inj h
    have hl1 : ps.length < 2000000 := by omega
    have HI := Aside0.mk hi
    have HX := Aside0.mk hx
    have HL := Aside0.mk hl1
    obtain ⟨h1, hd, hd1, hd2, hd3, hd4, _, v, h8, h9⟩ := hi
    have HW := Aside0.mk h1
    clear h1
    obtain ⟨Ap, cp, rfl⟩ := Kd.R_slice h9
    have hcp : impl_copyOf.f xs = some xs := by
      show (if ([] : List Int).length + xs.length < 17592186044416 then some ([] ++ xs) else none) = some xs
      rw [if_pos (by simp; omega)]
      rfl
    have HC := Aside0.mk hcp
    have HP := Aside0.mk h8
    have HR := Aside0.mk h9
    have HD := Aside0.mk hd
    have lP := lt_of_block h8
    have bW := Aside0.mk (Below.refl W.heap.size W)
    have hpc := cell_of_one h8
    have HK1 : Aside0 (∀ k, W.heap.size ≤ k → (¬ D k ∧ k ≠ PB) ∧ some k ≠ (Value.slice Ap ps.length cp).ownBlock) := ⟨fun k hk => ⟨⟨fun q => absurd (hd k q).1 (by omega), by omega⟩, fun q => absurd (Kd.R_lt h9 k q.symm) (by omega)⟩⟩
    have HK2 : Aside0 (∀ (w2 : World) (o : Obj), W.heap.size ≤ w2.heap.size → ∀ k, (w2.alloc o).heap.size ≤ k → ¬ D k ∧ k ≠ PB) := ⟨fun w2 o hz k hk => by
      have h2 : (w2.alloc o).heap.size = w2.heap.size + 1 := by
        show (Array.push _ _).size = _
        simp
      exact ⟨fun q => absurd (hd k q).1 (by omega), by omega⟩⟩
    clear h hx hl h8 h9 hcp hd
    go_enter Try.func82, Try.ntmps82
    go_wp2_with fail
    go_region_law
      (first
        | ((with_reducible refine impl_countActions.gate (.tmp 3) (.tmp 6) rfl ?_); refine impl_countActions.app (w0 := w0) rfl (.tmp 3) (.tmp 6) rfl (.slice Ap ps.length cp) w2.heap.size (fun b => ¬ D b ∧ b ≠ PB) (fun b => W.heap.size ≤ b) ps xs Ao co rfl rfl (Kd.R_alloc (Kd.R_below HR.out HB2.out) _) (heap_alloc_new _ _) (Kd.R_alloc (Kd.R_lower (Kd.R_mono (Kd.R_bound HO2.out) (fun _ q => q.2.1)) HW.out.size) _) HA2.out.size ?_ ?_ (below_alloc HA2.out _) HL.out ?_; (exact HK1.out); (exact HK2.out w2 _ HB2.out.size); intro v3 w3 hR3 hB3 hG3; obtain ⟨A3, c3, rfl⟩ := Kd.R_slice hR3; have hP3 := (hG3.block PB (Nat.lt_of_lt_of_le (lt_of_block hP2) (below_alloc (Below.refl w2.heap.size w2) (.cells #[.slice Ao xs.length co] 30)).size) (fun q => (HR.out.1 PB q.symm).2 rfl)).trans (((below_alloc (Below.refl w2.heap.size w2) (.cells #[.slice Ao xs.length co] 30)).block _ (lt_of_block hP2)).trans hP2); have hp3c := cell_of_one hP3; have hp3f := free_of_one hP3; have HR3 := Aside0.mk hR3; have HB3 := Aside0.mk hB3; have HG3 := Aside0.mk hG3; clear hR3 hB3 hG3)
        | (go_simp; go_at_call 83; (with_reducible refine (impl_copyOf.calls A c xs xs _ (Kd.C_below (Kd.R_reads' HX.out).2.2 ?_) (Kd.R_reads' HX.out).2.1 HC.out).mono ?_); (repeat (first | exact Below.refl _ _ | apply below_drew1 | apply below_alloc)); rintro e w2 ⟨vo, rfl, ho, hb⟩; obtain ⟨Ao, co, rfl⟩ := Kd.R_slice ho; have hP2 := (hb.block _ lP).trans HP.out; have hp2c := cell_of_one hP2; have hp2f := free_of_one hP2; have hp2d := cell_of_one (((below_alloc (Below.refl w2.heap.size w2) (.cells #[.slice Ao xs.length co] 30)).block _ (lt_of_block hP2)).trans hP2); have hb2 : Below W.heap.size W w2 := below_step (below_drew1 (Below.refl _ _)) hb; have HO2 := Aside0.mk ho; have HB2 := Aside0.mk hb2; have HA2 := Aside0.mk (below_step HW.out hb2); clear ho hb hb2))
    all_goals
      go_end0
      have sz : (w3.setCell ⟨PB, 0, none⟩ (.slice A3 (ps.length + 1) c3)).heap.size = w3.heap.size := by
        show (w3.heap.modify _ _).size = _
        simp
      have q1 := HB2.out.size
      have q2 : (w2.alloc (.cells #[.slice Ao xs.length co] 30)).heap.size = w2.heap.size + 1 := by
        show (Array.push _ _).size = _
        simp
      have q3 := HG3.out.size
      have st : ∀ b, b < W.heap.size → b ≠ PB → some b ≠ (Value.slice Ap ps.length cp).ownBlock → (w3.setCell ⟨PB, 0, none⟩ (.slice A3 (ps.length + 1) c3)).heap[b]? = W.heap[b]? := fun b hb h1 h2 =>
        (Below.heap_setCell w3 ⟨PB, 0, none⟩ _ b h1).trans ((HG3.out.block b (by omega) h2).trans (((below_alloc (Below.refl w2.heap.size w2) _).block b (by omega)).trans (HB2.out.block b hb)))
      have hGB := HI.out.2.2.2.2.2.2.1
      have le : (ps ++ [xs]).length = ps.length + 1 := by simp
      exact ⟨rfl, ⟨below_set HB3.out hd3, fun b hb => ⟨by have := (HD.out b hb).1; omega, (HD.out b hb).2⟩, hd1, hd2, hd3, hd4, (st GB (lt_of_block hGB) (Ne.symm hd4) (Kd.R_ne HR.out hGB (by decide))).trans hGB, _, one_setCell hP3, Kd.R_far (by rw [← le]; exact HR3.out) (fun k hk => hk.2) _⟩, by omega, fun b hb hlt => st b hlt (fun e => hd1 (e ▸ hb)) (fun e => (HR.out.1 b e.symm).1 hb)⟩
  · rw [if_neg hl] at h
    exact absurd h (by simp)
/-- the memory of the second phase -/
structure impl_countActions.S2 (wp : World) (PB LB RB GB AB WB : Nat) (vl : Value) (list : List (List Int)) (st : Int × Int) (W : World) : Prop where
  bel : Below wp.heap.size wp W
  hA : W.heap[AB]? = some (.cells #[.int .i64 st.1] 3 (0, 0))
  hW : W.heap[WB]? = some (.cells #[.int .i64 st.2] 3 (0, 0))
  hL : W.heap[LB]? = some (.cells #[vl] 24 (0, 0))
  hR : W.heap[RB]? = some (.cells #[.func (.func 84) #[] #[.pointer (some ⟨PB, 0, none⟩), .pointer (some ⟨LB, 0, none⟩), .pointer (some ⟨RB, 0, none⟩), .pointer (some ⟨GB, 0, none⟩), .pointer (some ⟨AB, 0, none⟩), .pointer (some ⟨WB, 0, none⟩)]] 83 (0, 0))
  hl : Kd.R (Kd.fixed (Kd.slice 3 (Kd.int .i64)) wp) 30 W wp.heap.size (fun b => b ≠ AB ∧ b ≠ WB ∧ b ≠ LB ∧ b ≠ RB) vl list
  ne : AB ≠ WB ∧ AB ≠ LB ∧ AB ≠ RB ∧ WB ≠ LB ∧ WB ≠ RB ∧ LB ≠ RB
  lo : wp.heap.size ≤ AB ∧ wp.heap.size ≤ WB ∧ wp.heap.size ≤ LB ∧ wp.heap.size ≤ RB
/-- what was there before -/
structure impl_countActions.W2 (wp : World) (PB GB : Nat) (a0 : Int) (Ap : Option Addr) (cp : Nat) (ps : List (List Int)) : Prop where
  hP : wp.heap[PB]? = some (.cells #[.slice Ap ps.length cp] 24 (0, 0))
  hps : Kd.C (Kd.slice 3 (Kd.int .i64)) wp Ap ps.length ps
  hcp : ps.length ≤ cp
  hG : wp.heap[GB]? = some (.cells #[.int .i64 a0] 3 (0, 0))
section
open impl_countActions
variable {wp : World} {PB LB RB GB AB WB : Nat} {vl : Value} {list : List (List Int)} {st : Int × Int} {W W' : World}
theorem impl_countActions.S2.step (h : S2 wp PB LB RB GB AB WB vl list st W) (hb : Below W.heap.size W W') : S2 wp PB LB RB GB AB WB vl list st W' :=
  { bel := below_step h.bel hb
    hA := (hb.block _ (lt_of_block h.hA)).trans h.hA
    hW := (hb.block _ (lt_of_block h.hW)).trans h.hW
    hL := (hb.block _ (lt_of_block h.hL)).trans h.hL
    hR := (hb.block _ (lt_of_block h.hR)).trans h.hR
    hl := Kd.R_below h.hl hb
    ne := h.ne
    lo := h.lo }
theorem impl_countActions.S2.read (h : S2 wp PB LB RB GB AB WB vl list st W) : ∃ A c, vl = .slice A list.length c ∧ list.length ≤ c ∧ Kd.C (Kd.slice 3 (Kd.int .i64)) W A list.length list := by
  obtain ⟨A, c, rfl⟩ := Kd.R_slice h.hl
  have q := Kd.R_reads' h.hl
  exact ⟨A, c, rfl, q.2.1, Kd.C_read (d := Kd.slice 3 (Kd.int .i64)) (dm := Kd.fixed (Kd.slice 3 (Kd.int .i64)) wp) (w := W) rfl (fun x cs hk => (Kd.slice 3 (Kd.int .i64)).K_below (w := wp) (w1 := W) h.bel hk) q.2.2⟩
theorem impl_countActions.S2.readC {A : Option Addr} {c : Nat} (h : S2 wp PB LB RB GB AB WB (.slice A list.length c) list st W) : Kd.C (Kd.slice 3 (Kd.int .i64)) W A list.length list := by
  obtain ⟨A', c', e, _, q⟩ := h.read
  injection e with e1 _ _
  subst e1
  exact q
theorem impl_countActions.S2.setA (h : S2 wp PB LB RB GB AB WB vl list st W) (v : Int) : S2 wp PB LB RB GB AB WB vl list (v, st.2) (W.setCell ⟨AB, 0, none⟩ (.int .i64 v)) := by
  have o : ∀ b, b ≠ AB → (W.setCell ⟨AB, 0, none⟩ (.int .i64 v)).heap[b]? = W.heap[b]? := fun b hb => Below.heap_setCell W ⟨AB, 0, none⟩ _ b hb
  obtain ⟨n1, n2, n3, n4, n5, n6⟩ := h.ne
  exact { bel := below_set h.bel h.lo.1
          hA := one_setCell h.hA
          hW := (o _ n1.symm).trans h.hW
          hL := (o _ n2.symm).trans h.hL
          hR := (o _ n3.symm).trans h.hR
          hl := Kd.R_far h.hl (fun _ hk => hk.1) _
          ne := h.ne
          lo := h.lo }
theorem impl_countActions.S2.setW (h : S2 wp PB LB RB GB AB WB vl list st W) (v : Int) : S2 wp PB LB RB GB AB WB vl list (st.1, v) (W.setCell ⟨WB, 0, none⟩ (.int .i64 v)) := by
  have o : ∀ b, b ≠ WB → (W.setCell ⟨WB, 0, none⟩ (.int .i64 v)).heap[b]? = W.heap[b]? := fun b hb => Below.heap_setCell W ⟨WB, 0, none⟩ _ b hb
  obtain ⟨n1, n2, n3, n4, n5, n6⟩ := h.ne
  exact { bel := below_set h.bel h.lo.2.1
          hA := (o _ n1).trans h.hA
          hW := one_setCell h.hW
          hL := (o _ n4.symm).trans h.hL
          hR := (o _ n5.symm).trans h.hR
          hl := Kd.R_far h.hl (fun _ hk => hk.2.1) _
          ne := h.ne
          lo := h.lo }
theorem impl_countActions.S2.setL (h : S2 wp PB LB RB GB AB WB vl list st W) {v' : Value} {list' : List (List Int)} (hl : Kd.R (Kd.fixed (Kd.slice 3 (Kd.int .i64)) wp) 30 W wp.heap.size (fun b => b ≠ AB ∧ b ≠ WB ∧ b ≠ LB ∧ b ≠ RB) v' list') : S2 wp PB LB RB GB AB WB v' list' st (W.setCell ⟨LB, 0, none⟩ v') := by
  have o : ∀ b, b ≠ LB → (W.setCell ⟨LB, 0, none⟩ v').heap[b]? = W.heap[b]? := fun b hb => Below.heap_setCell W ⟨LB, 0, none⟩ _ b hb
  obtain ⟨n1, n2, n3, n4, n5, n6⟩ := h.ne
  exact { bel := below_set h.bel h.lo.2.2.1
          hA := (o _ n2).trans h.hA
          hW := (o _ n4).trans h.hW
          hL := one_setCell h.hL
          hR := (o _ n6.symm).trans h.hR
          hl := Kd.R_far hl (fun _ hk => hk.2.2.1) _
          ne := h.ne
          lo := h.lo }
/-- another row has been written -/
theorem impl_countActions.S2.grown (h : S2 wp PB LB RB GB AB WB vl list st W) {v' : Value} {list' : List (List Int)} (hg : W.grownBy W' vl.ownBlock) (hb : Below wp.heap.size wp W') (hl : Kd.R (Kd.fixed (Kd.slice 3 (Kd.int .i64)) wp) 30 W' wp.heap.size (fun b => b ≠ AB ∧ b ≠ WB ∧ b ≠ LB ∧ b ≠ RB) v' list') : S2 wp PB LB RB GB AB WB v' list' st (W'.setCell ⟨LB, 0, none⟩ v') := by
  have o : ∀ b, b < W.heap.size → (b = AB ∨ b = WB ∨ b = LB ∨ b = RB) → W'.heap[b]? = W.heap[b]? := fun b hb h1 => hg.block b hb (fun e => by have := h.hl.1 b e.symm; omega)
  have q : ∀ b, b ≠ LB → (W'.setCell ⟨LB, 0, none⟩ v').heap[b]? = W'.heap[b]? := fun b hb => Below.heap_setCell W' ⟨LB, 0, none⟩ _ b hb
  obtain ⟨n1, n2, n3, n4, n5, n6⟩ := h.ne
  exact { bel := below_set hb h.lo.2.2.1
          hA := (q _ n2).trans ((o _ (lt_of_block h.hA) (.inl rfl)).trans h.hA)
          hW := (q _ n4).trans ((o _ (lt_of_block h.hW) (.inr (.inl rfl))).trans h.hW)
          hL := one_setCell ((o _ (lt_of_block h.hL) (.inr (.inr (.inl rfl)))).trans h.hL)
          hR := (q _ n6.symm).trans ((o _ (lt_of_block h.hR) (.inr (.inr (.inr rfl)))).trans h.hR)
          hl := Kd.R_far hl (fun _ hk => hk.2.2.1) _
          ne := h.ne
          lo := h.lo }
end
/-- the lists that continue a list -/
def impl_countActions.rL (run : List Int → Int × Int → Option (Int × Int)) (ps : List (List Int)) : Nat → Nat → Int × Int → Option (Int × Int)
  | 0, _, st => some st
  | c + 1, i, st => (run (rd_L2 ps (i : Int)) st).bind fun st' => impl_countActions.rL run ps c (i + 1) st'
def impl_countActions.rF (k : Nat) (g : Int) (ps : List (List Int)) : Nat → List (List Int) → Int × Int → Option (Int × Int)
  | 0, list, st => (impl_IsAction.f k g list).bind fun t => if t = true then (impl_parts.f k list).bind fun q => (if (q.length : Int) = 1 then some (wrap64 (st.1 + 1), wrap64 (st.2 + 1)) else some (wrap64 (st.1 + 1), st.2)) else some st
  | m + 1, list, st => if list.length < 1000 ∧ ps.length < 100000 then impl_countActions.rL (fun p st => impl_countActions.rF k g ps m (list ++ [p]) st) ps ps.length 0 st else none
set_option maxHeartbeats 8000000 in
set_option maxRecDepth 100000 in
theorem impl_countActions.rest2 (wp : World) (PB LB RB GB AB WB : Nat) (a0 : Int) (Ap : Option Addr) (cp : Nat) (ps : List (List Int)) (hw : impl_countActions.W2 wp PB GB a0 Ap cp ps) (k : Nat) : ∀ (m : Nat) (list : List (List Int)) (st st' : Int × Int) (vl : Value) (W : World), m ≤ 100 →
    impl_countActions.rF k a0 ps m list st = some st' → impl_countActions.S2 wp PB LB RB GB AB WB vl list st W →
    Calls Try.prog 84 #[.int .i64 m, .pointer (some ⟨PB, 0, none⟩), .pointer (some ⟨LB, 0, none⟩), .pointer (some ⟨RB, 0, none⟩), .pointer (some ⟨GB, 0, none⟩), .pointer (some ⟨AB, 0, none⟩), .pointer (some ⟨WB, 0, none⟩)] W fun e W' => e = .returned (.tuple #[]) ∧ ∃ vl', impl_countActions.S2 wp PB LB RB GB AB WB vl' list st' W' := by
  intro m
  induction m with
  | zero =>
    intro list st st' vl W hm h H
    rw [impl_countActions.rF] at h
    obtain ⟨t, ht, h⟩ := Option.bind_eq_some_iff.mp h
    have HT := Aside0.mk ht
    have HH := Aside0.mk h
    have HS := Aside0.mk H
    obtain ⟨A, c, rfl, hc, hC⟩ := H.read
    have HC := Aside0.mk hC
    have HCC := Aside0.mk hc
    have hgc := cell_of_one ((H.bel.block _ (lt_of_block hw.hG)).trans hw.hG)
    have hlc := cell_of_one H.hL
    clear ht h H hC hc
    go_enter Try.func84, Try.ntmps84
    go_wp2_with fail
    (go_at_call 23; (with_reducible refine (impl_IsAction.calls k a0 A c list t _ HC.out HCC.out HT.out).mono ?_))
    rintro e w1 ⟨rfl, hb⟩
    have HS1 := Aside0.mk (HS.out.step hb)
    clear hb HS HC HT hgc hlc
    cases t with
    | false =>
      have h := HH.out
      rw [if_neg (by decide)] at h
      obtain rfl := Option.some.inj h
      clear h HH
      go_wp2
      go_end0
      exact ⟨rfl, _, HS1.out⟩
    | true =>
      have h := HH.out
      rw [if_pos rfl] at h
      obtain ⟨q, hq, h⟩ := Option.bind_eq_some_iff.mp h
      have HQ := Aside0.mk hq
      have HF := Aside0.mk h
      clear hq h HH
      have hac := cell_of_one HS1.out.hA
      have haf := free_of_one HS1.out.hA
      have hs2 := HS1.out.setA (wrap64 (st.1 + 1))
      have hlc := cell_of_one hs2.hL
      have HS2 := Aside0.mk hs2
      clear hs2
      go_wp2_with fail
      (go_at_call 31; (with_reducible refine (impl_parts.calls k A c list q _ HS2.out.readC HCC.out HQ.out).mono ?_))
      rintro e w3 ⟨v3, rfl, ho, hb⟩
      obtain ⟨A3, c3, rfl⟩ := Kd.S_slice ho
      have HS3 := Aside0.mk (HS2.out.step hb)
      clear ho hb HS1 HS2 hac haf hlc
      by_cases c1 : (q.length : Int) = 1
      · have b1 : ((q.length : Int) == 1) = true := beq_iff_eq.2 c1
        have h := HF.out
        rw [if_pos c1] at h
        obtain rfl := Option.some.inj h
        clear h HF c1
        have hwc := cell_of_one HS3.out.hW
        have hwf := free_of_one HS3.out.hW
        have HS4 := Aside0.mk (HS3.out.setW (wrap64 (st.2 + 1)))
        clear HS3
        go_wp2
        go_end0
        exact ⟨rfl, _, HS4.out⟩
      · have b1 : ((q.length : Int) == 1) = false := beq_eq_false_iff_ne.2 c1
        have h := HF.out
        rw [if_neg c1] at h
        obtain rfl := Option.some.inj h
        clear h HF c1
        go_wp2
        go_end0
        exact ⟨rfl, _, HS3.out⟩
  | succ m ih =>
    intro list st st' vl W hm h H
    rw [impl_countActions.rF] at h
    by_cases hl : list.length < 1000 ∧ ps.length < 100000
    · rw [if_pos hl] at h
      have IH := Aside0.mk ih
      have HL := Aside0.mk hl
      have HH := Aside0.mk h
      have HS := Aside0.mk H
      have hPc := cell_of_one ((H.bel.block _ (lt_of_block hw.hP)).trans hw.hP)
      have hm1 : decide ((0 : Int) < ((m + 1 : Nat) : Int)) = true := decide_eq_true (by omega)
      clear ih hl h H
      go_enter Try.func84, Try.ntmps84
      go_wp2
      clear hPc hm1
      go_loopg [14] (ps.length + 1) (fun kq v14 w' => ∃ (i : Nat) (st1 : Int × Int) (vl1 : Value), v14 = .int .i64 (i : Int) ∧ Aside0 (impl_countActions.rL (fun p st => impl_countActions.rF k a0 ps m (list ++ [p]) st) ps (ps.length - i) i st1 = some st') ∧ Aside0 (i ≤ ps.length ∧ ps.length - i < kq) ∧ Aside0 (impl_countActions.S2 wp PB LB RB GB AB WB vl1 list st1 w'))
      case atStart => exact ⟨0, st, vl, rfl, HH, ⟨by omega⟩, HS⟩
      case round =>
        clear HS HH
        obtain ⟨i, st1, vl1, rfl, HA, HB, HS⟩ := hrel
        by_cases c1 : i < ps.length
        · have c1b0 : decide ((i : Int) < (ps.length : Int)) = true := decide_eq_true (by omega)
          obtain ⟨st2, A10, A20⟩ : ∃ st2, impl_countActions.rF k a0 ps m (list ++ [rd_L2 ps (i : Int)]) st1 = some st2 ∧ impl_countActions.rL (fun p st => impl_countActions.rF k a0 ps m (list ++ [p]) st) ps (ps.length - (i + 1)) (i + 1) st2 = some st' := by
            have h := HA.out
            rw [show ps.length - i = (ps.length - (i + 1)) + 1 by omega] at h
            exact Option.bind_eq_some_iff.mp h
          have A1 := Aside0.mk A10
          have A2 := Aside0.mk A20
          clear A10 A20 HA
          have pi : (0 : Int) ≤ (i : Int) := by omega
          have qi : (i : Int) < (ps.length : Int) := by omega
          have wi : wrap64 ((i : Int) + 1) = ((i + 1 : Nat) : Int) := by have := HL.out; unfold wrap64; omega
          have ei : ((i : Int)).toNat = i := Int.toNat_natCast i
          obtain ⟨ad, A5, c5, e5, hx5, hl5, hi5⟩ := at_L2 hw.hps (i : Int) pi qi
          subst e5
          have hx := (HS.out.bel.cell (World.block_lt_of_cell? wp _ hx5)).trans hx5
          rw [ei] at hx
          have HR5 := Aside0.mk hi5
          have HC5 := Aside0.mk hl5
          obtain ⟨Al, cl, rfl⟩ := Kd.R_slice HS.out.hl
          have hlc := cell_of_one HS.out.hL
          clear hx5 hi5 hl5
          have HF : Aside0 (∀ k, wr.heap.size ≤ k → k ≠ AB ∧ k ≠ WB ∧ k ≠ LB ∧ k ≠ RB) := ⟨fun k hk => ⟨by have := lt_of_block HS.out.hA; omega, by have := lt_of_block HS.out.hW; omega, by have := lt_of_block HS.out.hL; omega, by have := lt_of_block HS.out.hR; omega⟩⟩
          have HM : Aside0 ((Kd.fixed (Kd.slice 3 (Kd.int .i64)) wp).M wr wp.heap.size (fun _ => False) (rd_L2 ps (i : Int)) [.slice A5 (rd_L2 ps (i : Int)).length c5]) := ⟨⟨A5, c5, rfl, HC5.out, HR5.out⟩⟩
          go_wp2_with (first | ((with_reducible refine gate_builtin (b := .append) (xs := #[.tmp 18, .tmp 20]) rfl ?_); at_builtin; refine Kd.R_append (Kd.fixed (Kd.slice 3 (Kd.int .i64)) wp) (w0 := wp) wp.heap.size rfl (.tmp 18) (.tmp 20) 24 30 (.slice none 0 0) 24 rfl Try.underlying24 info30 rfl (show (0 : Nat) < 1 by omega) (by omega) (.slice Al list.length cl) list (rd_L2 ps (i : Int)) [.slice A5 (rd_L2 ps (i : Int)).length c5] (fun b => b ≠ AB ∧ b ≠ WB ∧ b ≠ LB ∧ b ≠ RB) (fun _ => False) rfl rfl HM.out (fun _ hk => hk.elim) HF.out HS.out.hl HS.out.bel HS.out.bel.size (by have := HL.out; omega) ?_; intro v1 w1 hR1 hB1 hG1 _; obtain ⟨A1', c1', rfl⟩ := Kd.R_slice hR1; have hL1 := (hG1.block LB (lt_of_block HS.out.hL) (fun e => (HS.out.hl.1 LB e.symm).2.2.1 rfl)).trans HS.out.hL; have hl1c := cell_of_one hL1; have hl1f := free_of_one hL1; have le : (list ++ [rd_L2 ps (i : Int)]).length = list.length + 1 := (by simp); have hs2 := HS.out.grown hG1 hB1 hR1; rw [le] at hs2 hR1; have hR2c := cell_of_one hs2.hR; have HS2 := Aside0.mk hs2; clear hs2 hR1 hB1 hG1 hL1))
          (go_at_call 84; (with_reducible refine (IH.out (list ++ [rd_L2 ps (i : Int)]) st1 st2 _ _ (by omega) A1.out HS2.out).mono ?_))
          rintro e w6 ⟨rfl, vl6, hs6⟩
          obtain ⟨A6, c6, rfl⟩ := Kd.R_slice hs6.hl
          rw [show (list ++ [rd_L2 ps (i : Int)]).length = list.length + 1 by simp] at hs6
          have ht := Kd.R_take (m := list.length) hs6.hl (by simp)
          rw [List.take_left' rfl] at ht
          have hc6 := (Kd.R_reads' hs6.hl).2.1
          have HS7 := Aside0.mk (hs6.setL ht)
          have hl6c := cell_of_one hs6.hL
          have hl6f := free_of_one hs6.hL
          have wl : wrap64 (list.length : Int) = (list.length : Int) := by have := HL.out; unfold wrap64; omega
          have pl : (0 : Int) ≤ (list.length : Int) := by omega
          have ql : (list.length : Int) ≤ (c6 : Int) := by omega
          have el : ((list.length : Int)).toNat = list.length := Int.toNat_natCast _
          clear hs6 HS2 ht hl1c hl1f hR2c IH HM HF A1 hlc hx HS
          go_wp2
          go_roundg (ps.length - i)
          case measure => have := HB.out; omega
          case rel => exact ⟨i + 1, st2, _, by first | rfl | (rw [wi]), A2, ⟨by have := HB.out; omega⟩, HS7⟩
        · have c1b0 : decide ((i : Int) < (ps.length : Int)) = false := decide_eq_false (by omega)
          have hs' : st1 = st' := by
            have h := HA.out
            rw [show ps.length - i = 0 by omega] at h
            exact Option.some.inj h
          subst hs'
          clear HA
          go_wp2
          refine bodyPost_ret (results_none rfl _ _ _) rfl ?_
          exact ⟨rfl, _, HS.out⟩
    · rw [if_neg hl] at h
      exact absurd h (by simp)
theorem impl_countActions.lit0 {α : Type} {d : Kd α} {e : Nat} {W : World} {base b : Nat} {ok : Nat → Prop} (hb : W.heap[b]? = some (.cells #[] e (0, 0))) (hlb : base ≤ b) (hok : ok b) : d.R e W base ok (.slice (some ⟨b, 0, none⟩) 0 0) ([] : List α) :=
  ⟨fun k hk => by obtain rfl : b = k := by simpa [Value.ownBlock] using hk
                  exact hok, [], ⟨by simp, .inr ⟨b, 0, #[], rfl, hlb, hb, by simp, by simp, by simp, by simp⟩⟩, Reps.none _ _⟩
theorem impl_countActions.S2.start (w5 : World) (PB GB : Nat) : impl_countActions.S2 w5 PB (w5.heap.size + 1 + 1 + 1) (w5.heap.size + 1 + 1 + 1 + 1) GB (w5.heap.size + 1) (w5.heap.size + 1 + 1) (.slice (some ⟨w5.heap.size, 0, none⟩) 0 0) [] (0, 0) (((((w5.alloc (.cells #[] 30)).alloc (.cells #[.int .i64 0] 3)).alloc (.cells #[.int .i64 0] 3)).alloc (.cells #[.slice (some ⟨w5.heap.size, 0, none⟩) 0 0] 24)).alloc (.cells #[.func (.func 84) #[] #[.pointer (some ⟨PB, 0, none⟩), .pointer (some ⟨w5.heap.size + 1 + 1 + 1, 0, none⟩), .pointer (some ⟨w5.heap.size + 1 + 1 + 1 + 1, 0, none⟩), .pointer (some ⟨GB, 0, none⟩), .pointer (some ⟨w5.heap.size + 1, 0, none⟩), .pointer (some ⟨w5.heap.size + 1 + 1, 0, none⟩)]] 83)) where
  bel := below_alloc (below_alloc (below_alloc (below_alloc (below_alloc (Below.refl _ _) _) _) _) _) _
  hA := by
    show (((((w5.heap.push _).push _).push _).push _).push _)[w5.heap.size + 1]? = _
    simp only [Array.getElem?_push, Array.size_push]
    repeat (first | rfl | rw [if_pos rfl] | rw [if_neg (by omega)])
  hW := by
    show (((((w5.heap.push _).push _).push _).push _).push _)[w5.heap.size + 1 + 1]? = _
    simp only [Array.getElem?_push, Array.size_push]
    repeat (first | rfl | rw [if_pos rfl] | rw [if_neg (by omega)])
  hL := by
    show (((((w5.heap.push _).push _).push _).push _).push _)[w5.heap.size + 1 + 1 + 1]? = _
    simp only [Array.getElem?_push, Array.size_push]
    repeat (first | rfl | rw [if_pos rfl] | rw [if_neg (by omega)])
  hR := by
    show (((((w5.heap.push _).push _).push _).push _).push _)[w5.heap.size + 1 + 1 + 1 + 1]? = _
    simp only [Array.getElem?_push, Array.size_push]
    repeat (first | rfl | rw [if_pos rfl] | rw [if_neg (by omega)])
  hl := impl_countActions.lit0 (by
    show (((((w5.heap.push _).push _).push _).push _).push _)[w5.heap.size]? = _
    simp only [Array.getElem?_push, Array.size_push]
    repeat (first | rfl | rw [if_pos rfl] | rw [if_neg (by omega)])) (Nat.le_refl _) ⟨by omega, by omega, by omega, by omega⟩
  ne := ⟨by omega, by omega, by omega, by omega, by omega, by omega⟩
  lo := ⟨by omega, by omega, by omega, by omega⟩
def impl_countActions.f (k : Nat) (a0 a1 : Int) : Option (Int × Int) :=
  if 0 ≤ a0 ∧ a0 ≤ 40 then (impl_identity.f k a1).bind fun xs => if xs.length ≤ 100 then (impl_countActions.oR impl_countActions.run1 xs.length 0 xs []).bind fun ps => impl_countActions.rF k a0 ps (max (2 * a0.toNat) 2) [] (0, 0) else none else none
set_option maxHeartbeats 8000000 in
set_option maxRecDepth 100000 in
theorem impl_countActions.calls (k : Nat) (a0 : Int) (a1 : Int) (r1 : Int) (r2 : Int) (w : World) (h : impl_countActions.f k a0 a1 = some (r1, r2)) :
    Calls Try.prog 49 #[.int .i64 a0, .int .i64 a1] w fun e w' => e = .returned (.tuple #[.int .i64 r1, .int .i64 r2]) ∧ Below w.heap.size w w' := by
  unfold impl_countActions.f at h
  by_cases hg : 0 ≤ a0 ∧ a0 ≤ 40
  · rw [if_pos hg] at h
    obtain ⟨xs, h1, h⟩ := Option.bind_eq_some_iff.mp h
    by_cases hl : xs.length ≤ 100
    · rw [if_pos hl] at h
      obtain ⟨ps, h2, h3⟩ := Option.bind_eq_some_iff.mp h
      have H1 := Aside0.mk h1
      have H2 := Aside0.mk h2
      have H3 := Aside0.mk h3
      have HG := Aside0.mk hg
      have HL := Aside0.mk hl
      clear h h1 h2 h3 hg hl
      go_enter Try.func49, Try.ntmps49
      go_wp2_with fail
      have s1 : (w.alloc (.cells #[.int .i64 a0] 3)).heap.size = w.heap.size + 1 := by show (w.heap.push _).size = _; simp
      have s2 : ((w.alloc (.cells #[.int .i64 a0] 3)).alloc (.cells #[] 30)).heap.size = w.heap.size + 1 + 1 := by show ((w.heap.push _).push _).size = _; simp
      have b3 : Below w.heap.size w (((w.alloc (.cells #[.int .i64 a0] 3)).alloc (.cells #[] 30)).alloc (.cells #[.slice (some ⟨w.heap.size + 1, 0, none⟩) 0 0] 24)) := below_alloc (below_alloc (below_alloc (Below.refl _ _) _) _) _
      have g1 : (w.alloc (.cells #[.int .i64 a0] 3)).heap[w.heap.size]? = some (.cells #[.int .i64 a0] 3 (0, 0)) := heap_alloc_new _ _
      have g2 := ((below_alloc (Below.refl (w.alloc (.cells #[.int .i64 a0] 3)).heap.size _) (.cells #[] 30)).block _ (lt_of_block g1)).trans g1
      have e2 : ((w.alloc (.cells #[.int .i64 a0] 3)).alloc (.cells #[] 30)).heap[w.heap.size + 1]? = some (.cells #[] 30 (0, 0)) := by
        have q := heap_alloc_new (w.alloc (.cells #[.int .i64 a0] 3)) (.cells #[] 30)
        rw [s1] at q
        exact q
      have g3 := ((below_alloc (Below.refl ((w.alloc (.cells #[.int .i64 a0] 3)).alloc (.cells #[] 30)).heap.size _) (.cells #[.slice (some ⟨w.heap.size + 1, 0, none⟩) 0 0] 24)).block _ (lt_of_block g2)).trans g2
      have e3 := ((below_alloc (Below.refl ((w.alloc (.cells #[.int .i64 a0] 3)).alloc (.cells #[] 30)).heap.size _) (.cells #[.slice (some ⟨w.heap.size + 1, 0, none⟩) 0 0] 24)).block _ (lt_of_block e2)).trans e2
      have p3 : (((w.alloc (.cells #[.int .i64 a0] 3)).alloc (.cells #[] 30)).alloc (.cells #[.slice (some ⟨w.heap.size + 1, 0, none⟩) 0 0] 24)).heap[w.heap.size + 1 + 1]? = some (.cells #[.slice (some ⟨w.heap.size + 1, 0, none⟩) 0 0] 24 (0, 0)) := by
        have q := heap_alloc_new ((w.alloc (.cells #[.int .i64 a0] 3)).alloc (.cells #[] 30)) (.cells #[.slice (some ⟨w.heap.size + 1, 0, none⟩) 0 0] 24)
        rw [s2] at q
        exact q
      generalize (((w.alloc (.cells #[.int .i64 a0] 3)).alloc (.cells #[] 30)).alloc (.cells #[.slice (some ⟨w.heap.size + 1, 0, none⟩) 0 0] 24)) = w3 at b3 g3 e3 p3 ⊢
      clear g1 g2 e2 s1 s2
      (go_at_call 60; (with_reducible refine (impl_identity.calls k a1 xs _ H1.out).mono ?_))
      rintro e w4 ⟨v, rfl, ho, hb⟩
      obtain ⟨Ax, cx, rfl⟩ := Kd.R_slice ho
      have hP1 : impl_countActions.P1 w (w.heap.size + 1 + 1) w.heap.size a0 (fun _ => False) [] w4 :=
        ⟨below_step b3 hb, fun _ q => q.elim, fun q => q, fun q => q, by omega, by omega, (hb.block _ (lt_of_block g3)).trans g3, _, (hb.block _ (lt_of_block p3)).trans p3, impl_countActions.lit0 ((hb.block _ (lt_of_block e3)).trans e3) (by omega) ⟨fun q => q, by omega⟩⟩
      have HP1 := Aside0.mk hP1
      have HO := Aside0.mk ho
      clear b3 g3 e3 p3 hb ho hP1
      go_wp2_with fail
      have hcall := impl_countActions.orders (impl_countActions.P1_cl w (w.heap.size + 1 + 1) w.heap.size a0) (fun _ => False) (w.heap.size + 1 + 1) (fun D => impl_countActions.fn1 w (w.heap.size + 1 + 1) w.heap.size a0 D) Ax cx xs [] ps w4 HL.out (Kd.R_reads' HO.out).2.2 (Kd.R_reads' HO.out).2.1 H2.out HP1.out
      (go_at_call 63; (with_reducible refine hcall.mono ?_))
      clear hcall
      rintro e w5 ⟨rfl, hP5, -, -⟩
      have HP5 := Aside0.mk hP5
      obtain ⟨hb5, -, -, -, -, -, hg5, v5, hp5, hr5⟩ := hP5
      obtain ⟨Ap, cp, rfl⟩ := Kd.R_slice hr5
      have hw2 := Aside0.mk (show impl_countActions.W2 w5 (w.heap.size + 1 + 1) w.heap.size a0 Ap cp ps from ⟨hp5, (Kd.R_reads' hr5).2.2, (Kd.R_reads' hr5).2.1, hg5⟩)
      have hs := impl_countActions.S2.start w5 (w.heap.size + 1 + 1) w.heap.size
      have hgc := cell_of_one ((hs.bel.block _ (lt_of_block hg5)).trans hg5)
      have hrc := cell_of_one hs.hR
      have HS := Aside0.mk hs
      have HB5 := Aside0.mk hb5
      have wm : wrap64 (2 * a0) = 2 * a0 := by have := HG.out; unfold wrap64; omega
      have hcall := Aside0.mk (impl_countActions.rest2 w5 _ _ _ _ _ _ a0 Ap cp ps hw2.out k (max (2 * a0.toNat) 2) [] (0, 0) (r1, r2) _ _ (by have := HG.out; omega) H3.out HS.out)
      clear HP1 HO hs hr5 hp5 hg5 hb5
      go_wp2_with fail
      all_goals
        have hc := hcall.out
        first
          | (rw [show ((max (2 * a0.toNat) 2 : Nat) : Int) = 2 * a0 by have := HG.out; omega] at hc; (go_at_call 84; (with_reducible refine hc.mono ?_)))
          | (rw [show ((max (2 * a0.toNat) 2 : Nat) : Int) = 2 by have := HG.out; omega] at hc; (go_at_call 84; (with_reducible refine hc.mono ?_)))
        clear hc
        rintro e w6 ⟨rfl, vl6, hs6⟩
        have hac := cell_of_one hs6.hA
        have hwc := cell_of_one hs6.hW
        have HB6 := Aside0.mk (below_step HB5.out hs6.bel)
        clear hs6 hcall
        go_wp2_with fail
        go_quiet (fail)
        go_wp2
        go_ret2
        exact ⟨rfl, pw_below_drewN HB6.out _⟩
    · rw [if_neg hl] at h
      exact absurd h (by simp)
  · rw [if_neg hg] at h
    exact absurd h (by simp)

/-! ### impl_CountActions: function 12 -/
def impl_CountActions.f (k : Nat) (a0 : Int) (a1 : Int) : Option (Int) := (impl_within.f a0 0 2).bind fun t527 => (if t527 = true then ((impl_within.f a1 1 3).bind fun t528 => (if t528 = true then ((impl_countActions.f k a0 a1).bind fun bt529 => (some bt529.1)) else (some (-1)))) else (some (-1)))
set_option maxHeartbeats 8000000 in
set_option maxRecDepth 100000 in
theorem impl_CountActions.calls (k : Nat) (a0 : Int) (a1 : Int) (r : Int) (w : World) (h : impl_CountActions.f k a0 a1 = some r) :
    Calls Try.prog 12 #[.int .i64 a0, .int .i64 a1] w fun e w' => e = .returned (.int .i64 r) ∧ Below w.heap.size w w' := by
  have HB := Aside0.mk (Below.refl w.heap.size w)
  have H : ((impl_within.f a0 0 2).bind fun t527 => (if t527 = true then ((impl_within.f a1 1 3).bind fun t528 => (if t528 = true then ((impl_countActions.f k a0 a1).bind fun bt529 => (some bt529.1)) else (some (-1)))) else (some (-1)))) = some r := h
  clear h
  obtain ⟨t527, A3, H⟩ := bs H
  by_cases c4 : t527 = true
  · subst c4
    rw [if_pos rfl] at H
    obtain ⟨t528, A5, H⟩ := bs H
    by_cases c6 : t528 = true
    · subst c6
      rw [if_pos rfl] at H
      obtain ⟨⟨t529, t530⟩, A7, H⟩ := bs H
      try dsimp only at H
      obtain rfl := Option.some.inj H
      go_enter Try.func12, Try.ntmps12
      go_wp2_with (first | (refine gL 48 (some 8) Try.func48 #[.int .i64 a0, .int .i64 0, .int .i64 2] ?_; (with_reducible refine (impl_within.calls a0 0 2 true _ A3.out).mono ?_); rintro e w' ⟨rfl, ⟨nd, rfl⟩⟩; refine ⟨_, rfl, ?_⟩) | (go_at_call 48; (with_reducible refine (impl_within.calls a1 1 3 true _ A5.out).mono ?_); rintro e w' ⟨rfl, ⟨nd, rfl⟩⟩) | (refine gL 49 (some 18) Try.func49 #[.int .i64 a0, .int .i64 a1] ?_; (with_reducible refine (impl_countActions.calls k a0 a1 t529 t530 _ A7.out).mono ?_); rintro e w8 ⟨rfl, hb⟩; refine ⟨_, rfl, ?_⟩; replace HB := Aside0.mk (below_step tb hb)))
      go_ret
      exact ⟨rE, tb⟩
    · replace c6 := Bool.eq_false_iff.mpr c6
      subst c6
      rw [if_neg (show ¬ (false = true) by decide)] at H
      obtain rfl := Option.some.inj H
      go_enter Try.func12, Try.ntmps12
      go_wp2_with (first | (refine gL 48 (some 8) Try.func48 #[.int .i64 a0, .int .i64 0, .int .i64 2] ?_; (with_reducible refine (impl_within.calls a0 0 2 true _ A3.out).mono ?_); rintro e w' ⟨rfl, ⟨nd, rfl⟩⟩; refine ⟨_, rfl, ?_⟩) | (go_at_call 48; (with_reducible refine (impl_within.calls a1 1 3 false _ A5.out).mono ?_); rintro e w' ⟨rfl, ⟨nd, rfl⟩⟩))
      go_ret
      exact ⟨rE, tb⟩
  · replace c4 := Bool.eq_false_iff.mpr c4
    subst c4
    rw [if_neg (show ¬ (false = true) by decide)] at H
    obtain rfl := Option.some.inj H
    go_enter Try.func12, Try.ntmps12
    go_wp2_with (first | (refine gL 48 (some 8) Try.func48 #[.int .i64 a0, .int .i64 0, .int .i64 2] ?_; (with_reducible refine (impl_within.calls a0 0 2 false _ A3.out).mono ?_); rintro e w' ⟨rfl, ⟨nd, rfl⟩⟩; refine ⟨_, rfl, ?_⟩))
    go_ret
    exact ⟨rE, tb⟩

end Go.Proofs.Ytepogblkmiidnaa.PFnCovers
