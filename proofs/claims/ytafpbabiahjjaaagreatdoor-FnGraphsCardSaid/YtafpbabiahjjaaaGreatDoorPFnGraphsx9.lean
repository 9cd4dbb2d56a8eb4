-- written by a copy of the print that takes contracts by hand (stubprint.py)
import Derived.Test.YtafpbabiahjjaaaGreatDoorWSpanB
import Derived.OneCell
import Derived.Laws.EntriesVeiled
import Derived.BigRegion
import Derived.RegionTactic
import Derived.Deep.RegionLaw
import Derived.Test.YtafpbabiahjjaaaGreatDoorPFnGraphsx0
import Derived.Test.YtafpbabiahjjaaaGreatDoorPFnGraphsx4
import Derived.Test.YtafpbabiahjjaaaGreatDoorPFnGraphsx5
import Derived.Test.YtafpbabiahjjaaaGreatDoorPFnGraphsx6
import Derived.Test.YtafpbabiahjjaaaGreatDoorPFnGraphsx8
import Derived.Test.YtafpbabiahjjaaaGreatDoorPFnGraphsx16
import Derived.Test.YtafpbabiahjjaaaGreatDoorPFnGraphsx17
namespace Go.Proofs.YtafpbabiahjjaaaGreatDoor.PFnGraphs
open Go.RowKit Go.Proofs.YtafpbabiahjjaaaGreatDoorW.PrintWords Go.Proofs.YtafpbabiahjjaaaGreatDoorW.PrintLast Go.Proofs.YtafpbabiahjjaaaGreatDoorW.PrintMore
attribute [local go_sem] max2_int min2_int max_two min_two max_three min_three max_four min_four   -- for this text's walks alone
set_option linter.unusedVariables false
set_option linter.unusedSimpArgs false

/-! ### impl_GenusRow: function 6 -/
def impl_GenusRow.swp (xs : List Int) (k i : Nat) : List Int := (xs.set k (xs.getD i 0)).set i (xs.getD k 0)
/-- the orders of xs from place k on: the loop, then its rounds -/
def impl_GenusRow.oL {σ : Type} (run : List Int → σ → Option σ) (k : Nat) (xs : List Int) : Nat → Nat → σ → Option σ
  | 0, _, s => some s
  | c + 1, i, s => (run (impl_GenusRow.swp xs k i) s).bind fun s' => impl_GenusRow.oL run k xs c (i + 1) s'
def impl_GenusRow.oR {σ : Type} (f : List Int → σ → Option σ) : Nat → Nat → List Int → σ → Option σ
  | 0, _, xs, s => f xs s
  | m + 1, k, xs, s => impl_GenusRow.oL (impl_GenusRow.oR f m (k + 1)) k xs (m + 1) k s
/-- all blocks but those of D stay -/
structure impl_GenusRow.Mv (D : Nat → Prop) (W W' : World) : Prop where
  os : W'.os = W.os
  tape : W'.tape = W.tape
  output : W'.output = W.output
  size : W.heap.size ≤ W'.heap.size
  block : ∀ b, b < W.heap.size → ¬ D b → W'.heap[b]? = W.heap[b]?
theorem impl_GenusRow.Mv.of_below {D : Nat → Prop} {W W' : World} (h : Below W.heap.size W W') : impl_GenusRow.Mv D W W' := ⟨h.os, h.tape, h.output, h.size, fun b hb _ => h.block b hb⟩
theorem impl_GenusRow.Mv.set {D : Nat → Prop} (W : World) {b : Nat} (hb : D b) (i : Nat) (u : Value) : impl_GenusRow.Mv D W (W.setCell ⟨b, i, none⟩ u) :=
  ⟨rfl, rfl, rfl, Nat.le_of_eq (by show _ = (W.heap.modify _ _).size; simp), fun k _ hk => Below.heap_setCell W ⟨b, i, none⟩ u k (fun e => hk (e ▸ hb))⟩
theorem impl_GenusRow.Mv.trans {D : Nat → Prop} {a b c : World} (h : impl_GenusRow.Mv D a b) (k : impl_GenusRow.Mv D b c) : impl_GenusRow.Mv D a c :=
  ⟨k.os.trans h.os, k.tape.trans h.tape, k.output.trans h.output, Nat.le_trans h.size k.size, fun i hi hd => (k.block i (Nat.lt_of_lt_of_le hi h.size) hd).trans (h.block i hi hd)⟩
/-- the client's memory: I D s W says that it stands so, and that none of its blocks is one of D -/
structure impl_GenusRow.Cl {σ : Type} (I : (Nat → Prop) → σ → World → Prop) : Prop where
  mv : ∀ D s W W', I D s W → impl_GenusRow.Mv D W W' → I D s W'
  gr : ∀ D D' s W W', I D s W → Below W.heap.size W W' → (∀ b, D' b → D b ∨ (W.heap.size ≤ b ∧ b < W'.heap.size)) → I D' s W'
/-- the memory of orders -/
structure impl_GenusRow.OG (D : Nat → Prop) (N : Nat) (LC MC RC VC : Nat) (CB RB OB : Nat) (v : Value) (xs : List Int) (W : World) : Prop where
  hC : W.heap[CB]? = some (.cells #[.func (.func 43) #[] #[.pointer (some ⟨LC, 0, none⟩), .pointer (some ⟨MC, 0, none⟩), .pointer (some ⟨RC, 0, none⟩), .pointer (some ⟨VC, 0, none⟩)]] 49 (0, 0))
  hR : W.heap[RB]? = some (.cells #[.func (.func 70) #[] #[.pointer (some ⟨OB, 0, none⟩), .pointer (some ⟨CB, 0, none⟩), .pointer (some ⟨RB, 0, none⟩)]] 47 (0, 0))
  hO : W.heap[OB]? = some (.cells #[v] 26 (0, 0))
  hG : Kd.R (Kd.int .i64) 3 W 0 (fun b => D b ∧ N ≤ b ∧ b ≠ CB ∧ b ≠ RB ∧ b ≠ OB) v xs
  hD : D CB ∧ D RB ∧ D OB
section
open impl_GenusRow
variable {D : Nat → Prop} {N : Nat} {LC MC RC VC : Nat} {CB RB OB : Nat} {v : Value} {xs : List Int} {W W' : World}
theorem impl_GenusRow.OG.keep (h : OG D N LC MC RC VC CB RB OB v xs W) (hk : ∀ b, D b → b < W.heap.size → W'.heap[b]? = W.heap[b]?) : OG D N LC MC RC VC CB RB OB v xs W' :=
  { hC := (hk _ h.hD.1 (lt_of_block h.hC)).trans h.hC
    hR := (hk _ h.hD.2.1 (lt_of_block h.hR)).trans h.hR
    hO := (hk _ h.hD.2.2 (lt_of_block h.hO)).trans h.hO
    hG := Kd.R_step h.hG (fun k hk' hlt => hk k hk'.1 hlt)
    hD := h.hD }
theorem impl_GenusRow.OG.put {g n cap : Nat} (h : OG D N LC MC RC VC CB RB OB (.slice (some ⟨g, 0, none⟩) n cap) xs W) (hn : n = xs.length) (i : Nat) (u : Int) : OG D N LC MC RC VC CB RB OB (.slice (some ⟨g, 0, none⟩) n cap) (xs.set i u) (W.setCell ⟨g, i, none⟩ (.int .i64 u)) := by
  subst hn
  have o : ∀ b, b ≠ g → (W.setCell ⟨g, i, none⟩ (.int .i64 u)).heap[b]? = W.heap[b]? := fun b hb => Below.heap_setCell W ⟨g, i, none⟩ _ b hb
  obtain ⟨_, _, n1, n2, n3⟩ := h.hG.1 g (by simp [Value.ownBlock])
  have p := (Kd.R_put (enc := Value.int .i64) (h1 := fun _ => rfl) h.hG (i : Int) u).1
  rw [Int.toNat_natCast] at p
  exact { hC := (o _ n1.symm).trans h.hC
          hR := (o _ n2.symm).trans h.hR
          hO := (o _ n3.symm).trans h.hO
          hG := p
          hD := h.hD }
theorem impl_GenusRow.OG.swap {g n cap : Nat} (h : OG D N LC MC RC VC CB RB OB (.slice (some ⟨g, 0, none⟩) n cap) xs W) (hn : n = xs.length) (k i : Nat) (hk : k < n) (hi : i < n) :
    ∃ xk xi : Int, W.cell? ⟨OB, 0, none⟩ = some (.slice (some ⟨g, 0, none⟩) n cap) ∧ W.cell? ⟨g, k, none⟩ = some (.int .i64 xk) ∧ W.frozen? ⟨g, k, none⟩ = false ∧ W.cell? ⟨g, i, none⟩ = some (.int .i64 xi) ∧ W.frozen? ⟨g, i, none⟩ = false ∧
      (W.setCell ⟨g, k, none⟩ (.int .i64 xi)).cell? ⟨OB, 0, none⟩ = some (.slice (some ⟨g, 0, none⟩) n cap) ∧ (W.setCell ⟨g, k, none⟩ (.int .i64 xi)).cell? ⟨g, i, none⟩ = some (.int .i64 xi) ∧ (W.setCell ⟨g, k, none⟩ (.int .i64 xi)).frozen? ⟨g, i, none⟩ = false ∧
      OG D N LC MC RC VC CB RB OB (.slice (some ⟨g, 0, none⟩) n cap) (swp xs k i) ((W.setCell ⟨g, k, none⟩ (.int .i64 xi)).setCell ⟨g, i, none⟩ (.int .i64 xk)) ∧ Mv D W ((W.setCell ⟨g, k, none⟩ (.int .i64 xi)).setCell ⟨g, i, none⟩ (.int .i64 xk)) ∧
      (∀ b, b < N → ((W.setCell ⟨g, k, none⟩ (.int .i64 xi)).setCell ⟨g, i, none⟩ (.int .i64 xk)).heap[b]? = W.heap[b]?) := by
  subst hn
  obtain ⟨d1, d2, _⟩ := h.hG.1 g (by simp [Value.ownBlock])
  obtain ⟨ck, fk⟩ := Kd.R_cell (enc := Value.int .i64) (h1 := fun _ => rfl) (0 : Int) h.hG (k : Int) (by omega) (by omega)
  obtain ⟨ci, fi⟩ := Kd.R_cell (enc := Value.int .i64) (h1 := fun _ => rfl) (0 : Int) h.hG (i : Int) (by omega) (by omega)
  rw [Int.toNat_natCast] at ck fk ci fi
  have gk : rdOf (0 : Int) xs (k : Int) = xs.getD k 0 := by simp [rdOf, hk]
  have gi : rdOf (0 : Int) xs (i : Int) = xs.getD i 0 := by simp [rdOf, hi]
  rw [gk] at ck
  rw [gi] at ci
  have hp := h.put rfl k (xs.getD i 0)
  have e2 : rdOf (0 : Int) (xs.set k (xs.getD i 0)) (i : Int) = xs.getD i 0 := by
    by_cases hik : i = k
    · subst hik; simp [rdOf, hi]
    · simp [rdOf, List.getElem?_set, Ne.symm hik, hi]
  obtain ⟨ci2, fi2⟩ := Kd.R_cell (enc := Value.int .i64) (h1 := fun _ => rfl) (0 : Int) (xs := xs.set k (xs.getD i 0)) (cap := cap) (g := g) (by have q := hp.hG; rw [show xs.length = (xs.set k (xs.getD i 0)).length by simp] at q; exact q) (i : Int) (by omega) (by simp; omega)
  rw [Int.toNat_natCast, e2] at ci2
  rw [Int.toNat_natCast] at fi2
  refine ⟨_, _, cell_of_one h.hO, ck, fk, ci, fi, cell_of_one hp.hO, ci2, fi2, hp.put (by simp) i (xs.getD k 0), (Mv.set W d1 _ _).trans (Mv.set _ d1 _ _), fun b hb => ?_⟩
  rw [Below.heap_setCell _ ⟨g, i, none⟩ _ b (by show b ≠ g; omega), Below.heap_setCell _ ⟨g, k, none⟩ _ b (by show b ≠ g; omega)]
end
theorem impl_GenusRow.swp_len (xs : List Int) (k i : Nat) : (impl_GenusRow.swp xs k i).length = xs.length := by simp [impl_GenusRow.swp]
theorem impl_GenusRow.swp_swp (xs : List Int) (k i : Nat) (hk : k < xs.length) (hi : i < xs.length) : impl_GenusRow.swp (impl_GenusRow.swp xs k i) k i = xs := by
  apply List.ext_getElem?
  intro j
  by_cases h1 : j = i
  · subst h1
    by_cases h2 : k = j
    · subst h2; simp [impl_GenusRow.swp, hk]
    · simp [impl_GenusRow.swp, hk, hi, List.getElem?_set, h2, Ne.symm h2]
  · by_cases h2 : j = k
    · subst h2; simp [impl_GenusRow.swp, hk, hi, List.getElem?_set, h1, Ne.symm h1]
    · simp [impl_GenusRow.swp, List.getElem?_set, Ne.symm h1, Ne.symm h2]
/-- what the client's function owes -/
def impl_GenusRow.Fn {σ : Type} (I : (Nat → Prop) → σ → World → Prop) (run : List Int → σ → Option σ) (LC MC RC VC : Nat) (D : Nat → Prop) : Prop :=
  ∀ (A : Option Addr) (n c : Nat) (xs : List Int) (s s' : σ) (W : World), n = xs.length → run xs s = some s' → I D s W → Kd.R (Kd.int .i64) 3 W 0 D (.slice A n c) xs →
    Calls Tryz.prog 43 #[.slice A n c, .pointer (some ⟨LC, 0, none⟩), .pointer (some ⟨MC, 0, none⟩), .pointer (some ⟨RC, 0, none⟩), .pointer (some ⟨VC, 0, none⟩)] W fun e W' => e = .returned (.tuple #[]) ∧ I D s' W' ∧ W.heap.size ≤ W'.heap.size ∧ ∀ b, D b → b < W.heap.size → W'.heap[b]? = W.heap[b]?
/-- what orders itself owes -/
def impl_GenusRow.Po {σ : Type} (I : (Nat → Prop) → σ → World → Prop) (D : Nat → Prop) (N : Nat) (LC MC RC VC : Nat) (CB RB OB : Nat) (v : Value) (xs : List Int) (s' : σ) (W W' : World) : Prop :=
  impl_GenusRow.OG D N LC MC RC VC CB RB OB v xs W' ∧ I D s' W' ∧ W.heap.size ≤ W'.heap.size ∧ ∀ b, b < N → D b → W'.heap[b]? = W.heap[b]?
set_option maxHeartbeats 16000000 in
set_option maxRecDepth 100000 in
/-- the orders from place k on -/
theorem impl_GenusRow.rest {σ : Type} {I : (Nat → Prop) → σ → World → Prop} (hI : impl_GenusRow.Cl I) {run : List Int → σ → Option σ} (D : Nat → Prop) (N : Nat) (LC MC RC VC : Nat) (CB RB OB : Nat) (hF : impl_GenusRow.Fn I run LC MC RC VC D) (n : Nat) (hn9 : n ≤ 100) : ∀ (m k : Nat) (A : Option Addr) (cap : Nat) (xs : List Int) (s s' : σ) (W : World), k + m = n → n = xs.length →
    impl_GenusRow.oR run m k xs s = some s' → impl_GenusRow.OG D N LC MC RC VC CB RB OB (.slice A n cap) xs W → N ≤ W.heap.size → I D s W →
    Calls Tryz.prog 70 #[.int .i64 k, .pointer (some ⟨OB, 0, none⟩), .pointer (some ⟨CB, 0, none⟩), .pointer (some ⟨RB, 0, none⟩)] W fun e W' => e = .returned (.tuple #[]) ∧ impl_GenusRow.Po I D N LC MC RC VC CB RB OB (.slice A n cap) xs s' W W' := by
  intro m
  induction m with
  | zero =>
    intro k A cap xs s s' W hk hn h H hN hi
    simp only [impl_GenusRow.oR] at h
    obtain rfl : k = n := by omega
    subst hn
    have HS := Aside0.mk H
    have HN := Aside0.mk hN
    have hOc := cell_of_one H.hO
    have hCc := cell_of_one H.hC
    have HK := Aside0.mk (hF A xs.length cap xs s s' W rfl h hi (Kd.R_mono H.hG (fun _ hk => hk.1)))
    clear H h hi hF hI hN
    go_enter Tryz.func70, Tryz.ntmps70
    go_wp2_with fail
    (go_at_call 43; (with_reducible refine HK.out.mono ?_))
    rintro e W1 ⟨rfl, hi1, hs1, hk1⟩
    have HP : Aside0 (impl_GenusRow.Po I D N LC MC RC VC CB RB OB (.slice A xs.length cap) xs s' W W1) := ⟨⟨HS.out.keep hk1, hi1, hs1, fun b hb hd => hk1 b hd (by have := HN.out; omega)⟩⟩
    clear HK hOc hCc hi1 hk1 hs1 HS HN
    go_wp2
    refine bodyPost_ret (results_none rfl _ _ _) rfl ?_
    exact ⟨rfl, HP.out⟩
  | succ m ih =>
    intro k A cap xs s s' W hk hn h H hN hi
    simp only [impl_GenusRow.oR] at h
    subst hn
    obtain ⟨g, cap0, e0, -, -, -⟩ := Kd.R_form H.hG (by omega)
    injection e0 with e1 _ e3
    subst e1 e3
    have HS : Aside0 (impl_GenusRow.Po I D N LC MC RC VC CB RB OB (.slice (some ⟨g, 0, none⟩) xs.length cap) xs s W W) := ⟨⟨H, hi, Nat.le_refl _, fun _ _ _ => rfl⟩⟩
    have HN := Aside0.mk hN
    have HH := Aside0.mk h
    have IH := Aside0.mk ih
    have HI := Aside0.mk hI
    have hOc := cell_of_one H.hO
    have hne : ((k : Int) == (xs.length : Int)) = false := beq_eq_false_iff_ne.mpr (by omega)
    clear H h ih hF hN hi hI
    go_enter Tryz.func70, Tryz.ntmps70
    go_wp2
    clear hOc
    go_loopg [5] (xs.length + 1) (fun kq v5 w' => ∃ (i : Nat) (s1 : σ), v5 = .int .i64 (i : Int) ∧ Aside0 (impl_GenusRow.oL (impl_GenusRow.oR run m (k + 1)) k xs (xs.length - i) i s1 = some s') ∧ Aside0 (k ≤ i ∧ i ≤ xs.length ∧ xs.length - i < kq) ∧ Aside0 (impl_GenusRow.Po I D N LC MC RC VC CB RB OB (.slice (some ⟨g, 0, none⟩) xs.length cap) xs s1 W w'))
    case atStart => exact ⟨k, s, rfl, ⟨by rw [show xs.length - k = m + 1 by omega]; exact HH.out⟩, ⟨by omega⟩, HS⟩
    case round =>
      clear HS HH hne
      obtain ⟨i, s1, rfl, HA, HB, HS⟩ := hrel
      have hOc := cell_of_one HS.out.1.hO
      by_cases c1 : i < xs.length
      · have c1b0 : decide ((i : Int) < (xs.length : Int)) = true := decide_eq_true (by omega)
        obtain ⟨s2, A10, A20⟩ : ∃ s2, impl_GenusRow.oR run m (k + 1) (impl_GenusRow.swp xs k i) s1 = some s2 ∧ impl_GenusRow.oL (impl_GenusRow.oR run m (k + 1)) k xs (xs.length - (i + 1)) (i + 1) s2 = some s' := by
          have h := HA.out
          rw [show xs.length - i = (xs.length - (i + 1)) + 1 by omega] at h
          exact Option.bind_eq_some_iff.mp h
        have A1 := Aside0.mk A10
        have A2 := Aside0.mk A20
        clear A10 A20 HA
        have hkl : k < xs.length := by omega
        have pk : (0 : Int) ≤ (k : Int) := by omega
        have pi : (0 : Int) ≤ (i : Int) := by omega
        have qk : (k : Int) < (xs.length : Int) := by omega
        have qi : (i : Int) < (xs.length : Int) := by omega
        have ek : ((k : Int)).toNat = k := Int.toNat_natCast k
        have ei : ((i : Int)).toNat = i := Int.toNat_natCast i
        have wk : wrap64 ((k : Int) + 1) = ((k + 1 : Nat) : Int) := by unfold wrap64; omega
        have wi : wrap64 ((i : Int) + 1) = ((i + 1 : Nat) : Int) := by unfold wrap64; omega
        clear hOc
        obtain ⟨xk, xi, hOc, ck, fk, ci, fi, hOc2, ci2, fi2, hsw, hmv, hkp⟩ := HS.out.1.swap rfl k i hkl c1
        have HS5 : Aside0 (impl_GenusRow.Po I D N LC MC RC VC CB RB OB (.slice (some ⟨g, 0, none⟩) xs.length cap) (impl_GenusRow.swp xs k i) s1 W ((wr.setCell ⟨g, k, none⟩ (.int .i64 xi)).setCell ⟨g, i, none⟩ (.int .i64 xk)).drew) := by
          have hb := below_drew1 (Below.refl ((wr.setCell ⟨g, k, none⟩ (.int .i64 xi)).setCell ⟨g, i, none⟩ (.int .i64 xk)).heap.size ((wr.setCell ⟨g, k, none⟩ (.int .i64 xi)).setCell ⟨g, i, none⟩ (.int .i64 xk)))
          have hm2 := hmv.trans (impl_GenusRow.Mv.of_below hb)
          exact ⟨⟨hsw.keep (fun b _ hlt => hb.block b hlt), HI.out.mv _ _ _ _ HS.out.2.1 hm2, Nat.le_trans HS.out.2.2.1 hm2.size, fun b hb' hd => ((hb.block b (Nat.lt_of_lt_of_le hb' (Nat.le_trans (Nat.le_trans HN.out HS.out.2.2.1) hmv.size))).trans (hkp b hb')).trans (HS.out.2.2.2 b hb' hd)⟩⟩
        clear hsw hmv hkp
        go_wp2_with fail
        go_region
        clear HS hOc ck fk ci fi hOc2 ci2 fi2
        generalize ((wr.setCell ⟨g, k, none⟩ (.int .i64 xi)).setCell ⟨g, i, none⟩ (.int .i64 xk)).drew = W5 at HS5 ⊢
        as_aux_lemma =>
        have hRc := cell_of_one HS5.out.1.hR
        go_wp2_with fail
        have hcall := IH.out (k + 1) (some ⟨g, 0, none⟩) cap (impl_GenusRow.swp xs k i) s1 s2 W5 (by omega) (impl_GenusRow.swp_len xs k i).symm A1.out HS5.out.1 (Nat.le_trans HN.out HS5.out.2.2.1) HS5.out.2.1
        rw [show ((k + 1 : Nat) : Int) = (k : Int) + 1 by omega] at hcall
        (go_at_call 70; (with_reducible refine hcall.mono ?_))
        clear hcall
        rintro e W6 ⟨rfl, hs6, hi6, hz6, hk6⟩
        have HS6 : Aside0 (impl_GenusRow.Po I D N LC MC RC VC CB RB OB (.slice (some ⟨g, 0, none⟩) xs.length cap) (impl_GenusRow.swp xs k i) s2 W W6) := ⟨⟨hs6, hi6, Nat.le_trans HS5.out.2.2.1 hz6, fun b hb hd => (hk6 b hb hd).trans (HS5.out.2.2.2 b hb hd)⟩⟩
        clear hs6 hi6 hz6 hk6 HS5 hRc
        obtain ⟨yk, yi, hOc, ck, fk, ci, fi, hOc2, ci2, fi2, hsw, hmv, hkp⟩ := HS6.out.1.swap (impl_GenusRow.swp_len xs k i).symm k i hkl c1
        rw [impl_GenusRow.swp_swp xs k i hkl c1] at hsw
        have HS7 : Aside0 (impl_GenusRow.Po I D N LC MC RC VC CB RB OB (.slice (some ⟨g, 0, none⟩) xs.length cap) xs s2 W ((W6.setCell ⟨g, k, none⟩ (.int .i64 yi)).setCell ⟨g, i, none⟩ (.int .i64 yk)).drew) := by
          have hb := below_drew1 (Below.refl ((W6.setCell ⟨g, k, none⟩ (.int .i64 yi)).setCell ⟨g, i, none⟩ (.int .i64 yk)).heap.size ((W6.setCell ⟨g, k, none⟩ (.int .i64 yi)).setCell ⟨g, i, none⟩ (.int .i64 yk)))
          have hm2 := hmv.trans (impl_GenusRow.Mv.of_below hb)
          exact ⟨⟨hsw.keep (fun b _ hlt => hb.block b hlt), HI.out.mv _ _ _ _ HS6.out.2.1 hm2, Nat.le_trans HS6.out.2.2.1 hm2.size, fun b hb' hd => ((hb.block b (Nat.lt_of_lt_of_le hb' (Nat.le_trans (Nat.le_trans HN.out HS6.out.2.2.1) hmv.size))).trans (hkp b hb')).trans (HS6.out.2.2.2 b hb' hd)⟩⟩
        clear hsw hmv hkp
        go_wp2_with fail
        go_region
        clear HS6 hOc ck fk ci fi hOc2 ci2 fi2
        generalize ((W6.setCell ⟨g, k, none⟩ (.int .i64 yi)).setCell ⟨g, i, none⟩ (.int .i64 yk)).drew = W7 at HS7 ⊢
        as_aux_lemma =>
        go_wp2
        go_roundg (xs.length - i)
        case measure => have := HB.out; omega
        case rel => exact ⟨i + 1, s2, by first | rfl | (rw [wi]), A2, ⟨by have := HB.out; omega⟩, HS7⟩
      · have c1b0 : decide ((i : Int) < (xs.length : Int)) = false := decide_eq_false (by omega)
        have hs' : s1 = s' := by
          have h := HA.out
          rw [show xs.length - i = 0 by omega] at h
          exact Option.some.inj h
        subst hs'
        clear HA
        go_wp2
        go_end0
        exact ⟨rfl, HS.out⟩
set_option maxHeartbeats 8000000 in
set_option maxRecDepth 100000 in
theorem impl_GenusRow.orders {σ : Type} {I : (Nat → Prop) → σ → World → Prop} (hI : impl_GenusRow.Cl I) {run : List Int → σ → Option σ} (D0 : Nat → Prop) (LC MC RC VC : Nat) (hF : ∀ D, impl_GenusRow.Fn I run LC MC RC VC D) (Al : Option Addr) (cl : Nat) (xs : List Int) (s s' : σ) (W : World)
    (hx2 : xs.length ≤ 100) (hC : Kd.C (Kd.int .i64) W Al xs.length xs) (hcl : xs.length ≤ cl) (h : impl_GenusRow.oR run xs.length 0 xs s = some s') (hi : I D0 s W) :
    Calls Tryz.prog 42 #[.slice Al xs.length cl, .func (.func 43) #[] #[.pointer (some ⟨LC, 0, none⟩), .pointer (some ⟨MC, 0, none⟩), .pointer (some ⟨RC, 0, none⟩), .pointer (some ⟨VC, 0, none⟩)]] W fun e W' => e = .returned (.tuple #[]) ∧ I D0 s' W' ∧ W.heap.size ≤ W'.heap.size ∧ ∀ b, D0 b → b < W.heap.size → W'.heap[b]? = W.heap[b]? := by
  have HX := Aside0.mk hC
  have HH := Aside0.mk h
  have HI0 := Aside0.mk hi
  have HF := Aside0.mk hF
  have HI := Aside0.mk hI
  clear hC h hi hF hI
  have hcp : impl_copyOf.f xs = some xs := by
    show (if ([] : List Int).length + xs.length < 17592186044416 then some ([] ++ xs) else none) = some xs
    rw [if_pos (by simp; omega)]
    rfl
  go_enter Tryz.func42, Tryz.ntmps42
  go_wp2_with fail
  have b1 : Below W.heap.size W ((W.alloc (.cells #[.func (.func 43) #[] #[.pointer (some ⟨LC, 0, none⟩), .pointer (some ⟨MC, 0, none⟩), .pointer (some ⟨RC, 0, none⟩), .pointer (some ⟨VC, 0, none⟩)]] 49)).alloc (.cells #[.nilFunc] 47)) := below_alloc (below_alloc (Below.refl _ _) _) _
  have sz : ((W.alloc (.cells #[.func (.func 43) #[] #[.pointer (some ⟨LC, 0, none⟩), .pointer (some ⟨MC, 0, none⟩), .pointer (some ⟨RC, 0, none⟩), .pointer (some ⟨VC, 0, none⟩)]] 49)).alloc (.cells #[.nilFunc] 47)).heap.size = W.heap.size + 2 := by
    show ((W.heap.push _).push _).size = _
    simp
  have hC1 : ((W.alloc (.cells #[.func (.func 43) #[] #[.pointer (some ⟨LC, 0, none⟩), .pointer (some ⟨MC, 0, none⟩), .pointer (some ⟨RC, 0, none⟩), .pointer (some ⟨VC, 0, none⟩)]] 49)).alloc (.cells #[.nilFunc] 47)).heap[W.heap.size]? = some (.cells #[.func (.func 43) #[] #[.pointer (some ⟨LC, 0, none⟩), .pointer (some ⟨MC, 0, none⟩), .pointer (some ⟨RC, 0, none⟩), .pointer (some ⟨VC, 0, none⟩)]] 49 (0, 0)) := by
    show ((W.heap.push _).push _)[W.heap.size]? = _
    rw [Array.getElem?_push, if_neg (by simp), Array.getElem?_push, if_pos rfl]
  have hR1 : ((W.alloc (.cells #[.func (.func 43) #[] #[.pointer (some ⟨LC, 0, none⟩), .pointer (some ⟨MC, 0, none⟩), .pointer (some ⟨RC, 0, none⟩), .pointer (some ⟨VC, 0, none⟩)]] 49)).alloc (.cells #[.nilFunc] 47)).heap[W.heap.size + 1]? = some (.cells #[.nilFunc] 47 (0, 0)) := by
    show ((W.heap.push _).push _)[W.heap.size + 1]? = _
    rw [Array.getElem?_push, if_pos (by simp)]
  generalize ((W.alloc (.cells #[.func (.func 43) #[] #[.pointer (some ⟨LC, 0, none⟩), .pointer (some ⟨MC, 0, none⟩), .pointer (some ⟨RC, 0, none⟩), .pointer (some ⟨VC, 0, none⟩)]] 49)).alloc (.cells #[.nilFunc] 47)) = W1 at b1 sz hC1 hR1 ⊢
  (go_at_call 69; (with_reducible refine (impl_copyOf.calls Al cl xs xs W1 (Kd.C_below HX.out b1) hcl hcp).mono ?_))
  rintro e W2 ⟨v, rfl, ho, hb⟩
  obtain ⟨Ax, cx, rfl⟩ := Kd.R_slice ho
  have hC2 := (hb.block _ (lt_of_block hC1)).trans hC1
  have hR2 := (hb.block _ (lt_of_block hR1)).trans hR1
  have b2 := Aside0.mk (below_step b1 hb)
  have HO := Aside0.mk ho
  have HC2 := Aside0.mk hC2
  have sz2 : W.heap.size + 2 ≤ W2.heap.size := by have := hb.size; omega
  clear hC1 hR1 ho hb b1 hC2
  have hR3 : (W2.alloc (.cells #[.slice Ax xs.length cx] 26)).heap[W.heap.size + 1]? = some (.cells #[.nilFunc] 47 (0, 0)) := ((below_alloc (Below.refl _ _) _).block _ (lt_of_block hR2)).trans hR2
  have hr3c := cell_of_one hR3
  have hr3f := free_of_one hR3
  have hR4 := one_setCell (u := .func (.func 70) #[] #[.pointer (some ⟨W2.heap.size, 0, none⟩), .pointer (some ⟨W.heap.size, 0, none⟩), .pointer (some ⟨W.heap.size + 1, 0, none⟩)]) hR3
  have hr4c := cell_of_one hR4
  have hr2c := cell_of_one hR2
  have hr2f := free_of_one hR2
  have lt2 : W.heap.size + 1 < W2.heap.size := by omega
  have ne2 : W.heap.size + 1 ≠ W2.heap.size := by omega
  have ne3 : W2.heap.size ≠ W.heap.size + 1 := by omega
  have hO4 : impl_GenusRow.Po I (fun b => D0 b ∨ (W.heap.size ≤ b ∧ b ≤ W2.heap.size)) W.heap.size LC MC RC VC W.heap.size (W.heap.size + 1) W2.heap.size (.slice Ax xs.length cx) xs s W ((W2.setCell ⟨W.heap.size + 1, 0, none⟩ (.func (.func 70) #[] #[.pointer (some ⟨W2.heap.size, 0, none⟩), .pointer (some ⟨W.heap.size, 0, none⟩), .pointer (some ⟨W.heap.size + 1, 0, none⟩)])).alloc (.cells #[.slice Ax xs.length cx] 26)) := by
    have szs : (W2.setCell ⟨W.heap.size + 1, 0, none⟩ (.func (.func 70) #[] #[.pointer (some ⟨W2.heap.size, 0, none⟩), .pointer (some ⟨W.heap.size, 0, none⟩), .pointer (some ⟨W.heap.size + 1, 0, none⟩)])).heap.size = W2.heap.size := by
      show (W2.heap.modify _ _).size = _
      simp
    have o : ∀ b, b < W2.heap.size → b ≠ W.heap.size + 1 → ((W2.setCell ⟨W.heap.size + 1, 0, none⟩ (.func (.func 70) #[] #[.pointer (some ⟨W2.heap.size, 0, none⟩), .pointer (some ⟨W.heap.size, 0, none⟩), .pointer (some ⟨W.heap.size + 1, 0, none⟩)])).alloc (.cells #[.slice Ax xs.length cx] 26)).heap[b]? = W2.heap[b]? := fun b hb hne =>
      ((below_alloc (Below.refl _ _) _).block b (by rw [szs]; exact hb)).trans (Below.heap_setCell W2 ⟨W.heap.size + 1, 0, none⟩ _ b hne)
    have bb : Below W.heap.size W ((W2.setCell ⟨W.heap.size + 1, 0, none⟩ (.func (.func 70) #[] #[.pointer (some ⟨W2.heap.size, 0, none⟩), .pointer (some ⟨W.heap.size, 0, none⟩), .pointer (some ⟨W.heap.size + 1, 0, none⟩)])).alloc (.cells #[.slice Ax xs.length cx] 26)) := below_alloc (below_set b2.out (by omega)) _
    have szf : ((W2.setCell ⟨W.heap.size + 1, 0, none⟩ (.func (.func 70) #[] #[.pointer (some ⟨W2.heap.size, 0, none⟩), .pointer (some ⟨W.heap.size, 0, none⟩), .pointer (some ⟨W.heap.size + 1, 0, none⟩)])).alloc (.cells #[.slice Ax xs.length cx] 26)).heap.size = W2.heap.size + 1 := by
      rw [← szs]
      show (Array.push _ _).size = _
      simp
    refine ⟨{
      hC := (o _ (by omega) (by omega)).trans HC2.out
      hR := ((below_alloc (Below.refl _ _) _).block _ (by rw [szs]; omega)).trans (one_setCell hR2)
      hO := by
        have q := heap_alloc_new (W2.setCell ⟨W.heap.size + 1, 0, none⟩ (.func (.func 70) #[] #[.pointer (some ⟨W2.heap.size, 0, none⟩), .pointer (some ⟨W.heap.size, 0, none⟩), .pointer (some ⟨W.heap.size + 1, 0, none⟩)])) (.cells #[.slice Ax xs.length cx] 26)
        rw [szs] at q
        exact q
      hG := Kd.R_mono (Kd.R_lower (Kd.R_step (Kd.R_bound HO.out) (fun q hq hlt => o q hlt (by have := hq.2.1; omega))) (Nat.zero_le _)) (fun q hq => by have h1 := hq.2.1; have h2 := hq.2.2.1; exact ⟨.inr ⟨by omega, by omega⟩, by omega, by omega, by omega, by omega⟩)
      hD := ⟨.inr ⟨by omega, by omega⟩, .inr ⟨by omega, by omega⟩, .inr ⟨by omega, by omega⟩⟩ }, HI.out.gr _ _ _ _ _ HI0.out bb (fun b hb => hb.imp id (fun q => ⟨q.1, by rw [szf]; omega⟩)), bb.size, fun b hb _ => bb.block b hb⟩
  have HS := Aside0.mk hO4
  clear hO4 hR2
  go_wp2_with fail
  have hcall := impl_GenusRow.rest HI.out (fun b => D0 b ∨ (W.heap.size ≤ b ∧ b ≤ W2.heap.size)) W.heap.size LC MC RC VC W.heap.size (W.heap.size + 1) W2.heap.size (HF.out _) xs.length hx2 xs.length 0 Ax cx xs s s' _ (by omega) rfl HH.out HS.out.1 HS.out.2.2.1 HS.out.2.1
  rw [show ((0 : Nat) : Int) = 0 from rfl] at hcall
  (go_at_call 70; (with_reducible refine hcall.mono ?_))
  rintro e W5 ⟨rfl, hs5⟩
  have HS5 : Aside0 (I D0 s' W5 ∧ W.heap.size ≤ W5.heap.size ∧ ∀ b, D0 b → b < W.heap.size → W5.heap[b]? = W.heap[b]?) := ⟨⟨HI.out.gr _ _ _ _ _ hs5.2.1 (Below.refl _ _) (fun b hb => .inl (.inl hb)), Nat.le_trans HS.out.2.2.1 hs5.2.2.1, fun b hd hb => (hs5.2.2.2 b hb (.inl hd)).trans (HS.out.2.2.2 b hb (.inl hd))⟩⟩
  clear hs5 hcall HS
  go_wp2
  go_end0
  exact ⟨rfl, HS5.out⟩
/-- what one order of the darts of a vertex writes into the rotation -/
def impl_GenusRow.rg : List Int → Int → Int → List Int → Option (List Int)
  | [], d, d0, m => if 0 ≤ d ∧ d < (m.length : Int) then some (m.set d.toNat d0) else none
  | e :: r, d, d0, m => if 0 ≤ d ∧ d < (m.length : Int) then impl_GenusRow.rg r e d0 (m.set d.toNat e) else none
def impl_GenusRow.gF (k : Nat) (at_ : List (List Int)) : Nat → Int → List Int × List Int → Option (List Int × List Int)
  | 0, _, st => (impl_GenusOf.f k st.1).bind fun n => (spec_GenusRow.bump st.2 n).bind fun row' => some (st.1, row')
  | c + 1, v, st => if v < (at_.length : Int) then (if (rd_L2 at_ v).length = 0 then impl_GenusRow.gF k at_ c (v + 1) st else (if (rd_L2 at_ v).length ≤ 100 then impl_GenusRow.oR (fun others st => (impl_GenusRow.rg others (rd (rd_L2 at_ v) 0) (rd (rd_L2 at_ v) 0) st.1).bind fun m' => impl_GenusRow.gF k at_ c (v + 1) (m', st.2)) ((rd_L2 at_ v).length - 1) 0 ((rd_L2 at_ v).drop 1) st else none)) else none
def impl_GenusRow.f (k : Nat) (l0 : List (List Int)) : Option (List Int) := (impl_IsGraph.f k l0).bind fun t => if t = true then ((impl_CountRotations.f k l0).bind fun n => if 2000 < n then some [] else ((impl_dartsAt.f k l0).bind fun at_ => if l0.length < 1000000 then ((impl_GenusRow.gF k at_ 7 0 (List.replicate (2 * l0.length) 0, [])).bind fun st => some st.2) else none)) else some []
/-- the memory while rotations are counted -/
structure impl_GenusRow.GI (w1 : World) (MC OC AC RC mb : Nat) (vm va : Value) (D : Nat → Prop) (st : List Int × List Int) (W : World) : Prop where
  bel : Below w1.heap.size w1 W
  dom : ∀ b, D b → b < W.heap.size ∧ w1.heap.size ≤ b
  hMc : W.heap[MC]? = some (.cells #[vm] 26 (0, 0))
  hA : W.heap[AC]? = some (.cells #[va] 24 (0, 0))
  hF : W.heap[RC]? = some (.cells #[.func (.func 40) #[] #[.pointer (some ⟨MC, 0, none⟩), .pointer (some ⟨OC, 0, none⟩), .pointer (some ⟨AC, 0, none⟩), .pointer (some ⟨RC, 0, none⟩)]] 47 (0, 0))
  hm : Kd.R (Kd.int .i64) 3 W w1.heap.size (fun b => b = mb) vm st.1
  hO : ∃ vr, W.heap[OC]? = some (.cells #[vr] 26 (0, 0)) ∧ Kd.R (Kd.int .i64) 3 W w1.heap.size (fun b => ¬ D b ∧ b ≠ mb ∧ b ≠ MC ∧ b ≠ OC ∧ b ≠ AC ∧ b ≠ RC) vr st.2
  nd : ¬ D mb ∧ ¬ D MC ∧ ¬ D OC ∧ ¬ D AC ∧ ¬ D RC
  ne : mb ≠ MC ∧ mb ≠ OC ∧ mb ≠ AC ∧ mb ≠ RC ∧ OC ≠ MC ∧ OC ≠ AC ∧ OC ≠ RC
  lo : w1.heap.size ≤ mb ∧ w1.heap.size ≤ OC
  hi : mb < W.heap.size
section
open impl_GenusRow
variable {w1 : World} {MC OC AC RC mb : Nat} {vm va : Value} {D D' : Nat → Prop} {st : List Int × List Int} {W W' : World}
theorem impl_GenusRow.GI.mv (h : GI w1 MC OC AC RC mb vm va D st W) (m : Mv D W W') : GI w1 MC OC AC RC mb vm va D st W' := by
  obtain ⟨n1, n2, n3, n4, n5⟩ := h.nd
  exact { bel := ⟨m.os.trans h.bel.os, m.tape.trans h.bel.tape, m.output.trans h.bel.output, Nat.le_trans h.bel.size m.size, fun b hb => (m.block b (Nat.lt_of_lt_of_le hb h.bel.size) (fun hd => by have := (h.dom b hd).2; omega)).trans (h.bel.block b hb)⟩
          dom := fun b q => ⟨Nat.lt_of_lt_of_le (h.dom b q).1 m.size, (h.dom b q).2⟩
          hMc := (m.block _ (lt_of_block h.hMc) n2).trans h.hMc
          hA := (m.block _ (lt_of_block h.hA) n4).trans h.hA
          hF := (m.block _ (lt_of_block h.hF) n5).trans h.hF
          hm := Kd.R_step h.hm (fun k hk hlt => m.block k hlt (fun q => n1 (hk ▸ q)))
          hO := by
            obtain ⟨vr, h1, h2⟩ := h.hO
            exact ⟨vr, (m.block _ (lt_of_block h1) n3).trans h1, Kd.R_step h2 (fun k hk hlt => m.block k hlt hk.1)⟩
          nd := h.nd
          ne := h.ne
          lo := h.lo
          hi := Nat.lt_of_lt_of_le h.hi m.size }
theorem impl_GenusRow.GI.step (h : GI w1 MC OC AC RC mb vm va D st W) (hb : Below W.heap.size W W') : GI w1 MC OC AC RC mb vm va D st W' := h.mv (Mv.of_below hb)
theorem impl_GenusRow.GI.gr (h : GI w1 MC OC AC RC mb vm va D st W) (hb : Below W.heap.size W W') (hd : ∀ b, D' b → D b ∨ (W.heap.size ≤ b ∧ b < W'.heap.size)) : GI w1 MC OC AC RC mb vm va D' st W' := by
  have hs := h.step hb
  have no : ∀ b, ¬ D b → b < W.heap.size → ¬ D' b := fun b h1 h2 q => by
    rcases hd b q with q | ⟨q1, _⟩
    · exact h1 q
    · omega
  obtain ⟨n1, n2, n3, n4, n5⟩ := h.nd
  exact { bel := hs.bel
          dom := fun b q => by
            rcases hd b q with q | ⟨q1, q2⟩
            · exact ⟨Nat.lt_of_lt_of_le (h.dom b q).1 hb.size, (h.dom b q).2⟩
            · exact ⟨q2, Nat.le_trans h.bel.size q1⟩
          hMc := hs.hMc
          hA := hs.hA
          hF := hs.hF
          hm := hs.hm
          hO := by
            obtain ⟨vr, h1, h2⟩ := h.hO
            exact ⟨vr, (hb.block _ (lt_of_block h1)).trans h1, Kd.R_below (Kd.R_mono (Kd.R_bound h2) (fun k hk => ⟨no k hk.1.1 hk.2.2.1, hk.1.2⟩)) hb⟩
          nd := ⟨no _ n1 h.hi, no _ n2 (lt_of_block h.hMc), no _ n3 (by obtain ⟨vr, h1, _⟩ := h.hO; exact lt_of_block h1), no _ n4 (lt_of_block h.hA), no _ n5 (lt_of_block h.hF)⟩
          ne := h.ne
          lo := h.lo
          hi := hs.hi }
/-- the rotation is written -/
theorem impl_GenusRow.GI.put {g n cap : Nat} {va : Value} {m row : List Int} (h : GI w1 MC OC AC RC mb (.slice (some ⟨g, 0, none⟩) n cap) va D (m, row) W) (hn : n = m.length) (i : Nat) (x : Int) : GI w1 MC OC AC RC mb (.slice (some ⟨g, 0, none⟩) n cap) va D (m.set i x, row) (W.setCell ⟨g, i, none⟩ (.int .i64 x)) ∧ W.heap.size ≤ (W.setCell ⟨g, i, none⟩ (.int .i64 x)).heap.size ∧ ∀ b, D b → b < W.heap.size → (W.setCell ⟨g, i, none⟩ (.int .i64 x)).heap[b]? = W.heap[b]? := by
  subst hn
  obtain rfl : g = mb := h.hm.1 g rfl
  have o : ∀ b, b ≠ g → (W.setCell ⟨g, i, none⟩ (.int .i64 x)).heap[b]? = W.heap[b]? := fun b hb => Below.heap_setCell W ⟨g, i, none⟩ _ b hb
  obtain ⟨n1, n2, n3, n4, n5⟩ := h.nd
  obtain ⟨e1, e2, e3, e4, e5, e6, e7⟩ := h.ne
  have p := (Kd.R_put (enc := Value.int .i64) (h1 := fun _ => rfl) h.hm (i : Int) x).1
  rw [Int.toNat_natCast] at p
  have sz : (W.setCell ⟨g, i, none⟩ (.int .i64 x)).heap.size = W.heap.size := by
    show (W.heap.modify _ _).size = _
    simp
  exact ⟨{ bel := below_set h.bel h.lo.1
           dom := fun b q => ⟨by rw [sz]; exact (h.dom b q).1, (h.dom b q).2⟩
           hMc := (o _ e1.symm).trans h.hMc
           hA := (o _ e3.symm).trans h.hA
           hF := (o _ e4.symm).trans h.hF
           hm := p
           hO := by
             obtain ⟨vr, h1, h2⟩ := h.hO
             exact ⟨vr, (o _ e2.symm).trans h1, Kd.R_far h2 (fun k hk => hk.2.1) _⟩
           nd := h.nd
           ne := h.ne
           lo := h.lo
           hi := by rw [sz]; exact h.hi }, by rw [sz]; exact Nat.le_refl _, fun b hd _ => o b (fun e => n1 (e ▸ hd))⟩
/-- the row grows, or is written -/
theorem impl_GenusRow.GI.grown {vr vr' : Value} {m row row' : List Int} (h : GI w1 MC OC AC RC mb vm va D (m, row) W) (hv : Kd.R (Kd.int .i64) 3 W w1.heap.size (fun b => ¬ D b ∧ b ≠ mb ∧ b ≠ MC ∧ b ≠ OC ∧ b ≠ AC ∧ b ≠ RC) vr row) (hg : W.grownBy W' vr.ownBlock) (hb : Below w1.heap.size w1 W') (hc : W.heap[OC]? = some (.cells #[vr] 26 (0, 0))) (hR : Kd.R (Kd.int .i64) 3 W' w1.heap.size (fun b => ¬ D b ∧ b ≠ mb ∧ b ≠ MC ∧ b ≠ OC ∧ b ≠ AC ∧ b ≠ RC) vr' row') : GI w1 MC OC AC RC mb vm va D (m, row') (W'.setCell ⟨OC, 0, none⟩ vr') ∧ W.heap.size ≤ (W'.setCell ⟨OC, 0, none⟩ vr').heap.size ∧ ∀ b, D b → b < W.heap.size → (W'.setCell ⟨OC, 0, none⟩ vr').heap[b]? = W.heap[b]? := by
  have o : ∀ b, b ≠ OC → (W'.setCell ⟨OC, 0, none⟩ vr').heap[b]? = W'.heap[b]? := fun b hb => Below.heap_setCell W' ⟨OC, 0, none⟩ _ b hb
  obtain ⟨n1, n2, n3, n4, n5⟩ := h.nd
  obtain ⟨e1, e2, e3, e4, e5, e6, e7⟩ := h.ne
  have q : ∀ b, b < W.heap.size → (D b ∨ b = mb ∨ b = MC ∨ b = OC ∨ b = AC ∨ b = RC) → W'.heap[b]? = W.heap[b]? := fun b hb h1 => hg.block b hb (fun e => by
    obtain ⟨a1, a2, a3, a4, a5, a6⟩ := hv.1 b e.symm
    rcases h1 with h1 | h1 | h1 | h1 | h1 | h1
    · exact a1 h1
    · exact a2 h1
    · exact a3 h1
    · exact a4 h1
    · exact a5 h1
    · exact a6 h1)
  have sz : (W'.setCell ⟨OC, 0, none⟩ vr').heap.size = W'.heap.size := by
    show (W'.heap.modify _ _).size = _
    simp
  exact ⟨{ bel := below_set hb h.lo.2
           dom := fun b q => ⟨by rw [sz]; exact Nat.lt_of_lt_of_le (h.dom b q).1 hg.size, (h.dom b q).2⟩
           hMc := (o _ e5.symm).trans ((q _ (lt_of_block h.hMc) (by simp)).trans h.hMc)
           hA := (o _ e6.symm).trans ((q _ (lt_of_block h.hA) (by simp)).trans h.hA)
           hF := (o _ e7.symm).trans ((q _ (lt_of_block h.hF) (by simp)).trans h.hF)
           hm := Kd.R_far (Kd.R_step h.hm (fun k hk hlt => q k hlt (.inr (.inl hk)))) (fun k hk => by rw [hk]; exact e2) _
           hO := ⟨vr', one_setCell ((q _ (lt_of_block hc) (by simp)).trans hc), Kd.R_far hR (fun k hk => hk.2.2.2.1) _⟩
           nd := h.nd
           ne := h.ne
           lo := h.lo
           hi := by rw [sz]; exact Nat.lt_of_lt_of_le h.hi hg.size }, by rw [sz]; exact hg.size, fun b hd hlt => (o b (fun e => n3 (e ▸ hd))).trans (q b hlt (.inl hd))⟩
theorem impl_GenusRow.GI.putRow {g cap L : Nat} {m row : List Int} (h : GI w1 MC OC AC RC mb vm va D (m, row) W) (hL : L = row.length) (hc : W.heap[OC]? = some (.cells #[.slice (some ⟨g, 0, none⟩) L cap] 26 (0, 0))) (hv : Kd.R (Kd.int .i64) 3 W w1.heap.size (fun b => ¬ D b ∧ b ≠ mb ∧ b ≠ MC ∧ b ≠ OC ∧ b ≠ AC ∧ b ≠ RC) (.slice (some ⟨g, 0, none⟩) L cap) row) (i : Nat) (x : Int) : GI w1 MC OC AC RC mb vm va D (m, row.set i x) (W.setCell ⟨g, i, none⟩ (.int .i64 x)) ∧ W.heap.size ≤ (W.setCell ⟨g, i, none⟩ (.int .i64 x)).heap.size ∧ ∀ b, D b → b < W.heap.size → (W.setCell ⟨g, i, none⟩ (.int .i64 x)).heap[b]? = W.heap[b]? := by
  subst hL
  have o : ∀ b, b ≠ g → (W.setCell ⟨g, i, none⟩ (.int .i64 x)).heap[b]? = W.heap[b]? := fun b hb => Below.heap_setCell W ⟨g, i, none⟩ _ b hb
  obtain ⟨a1, a2, a3, a4, a5, a6⟩ := hv.1 g rfl
  have p := (Kd.R_put (enc := Value.int .i64) (h1 := fun _ => rfl) hv (i : Int) x).1
  rw [Int.toNat_natCast] at p
  have sz : (W.setCell ⟨g, i, none⟩ (.int .i64 x)).heap.size = W.heap.size := by
    show (W.heap.modify _ _).size = _
    simp
  exact ⟨{ bel := below_set h.bel (Kd.R_base hv g rfl)
           dom := fun b q => ⟨by rw [sz]; exact (h.dom b q).1, (h.dom b q).2⟩
           hMc := (o _ a3.symm).trans h.hMc
           hA := (o _ a5.symm).trans h.hA
           hF := (o _ a6.symm).trans h.hF
           hm := Kd.R_far h.hm (fun k hk => by rw [hk]; exact a2.symm) _
           hO := ⟨_, (o _ a4.symm).trans hc, p⟩
           nd := h.nd
           ne := h.ne
           lo := h.lo
           hi := by rw [sz]; exact h.hi }, by rw [sz]; exact Nat.le_refl _, fun b hd _ => o b (fun e => a1 (e ▸ hd))⟩
/-- the memory of a call of orders in a vertex' frame -/
structure impl_GenusRow.I1 (w1 : World) (MC OC AC RC mb : Nat) (vm va : Value) (LC VC : Nat) (vl : Value) (v : Int) (D : Nat → Prop) (st : List Int × List Int) (W : World) : Prop where
  gi : GI w1 MC OC AC RC mb vm va (fun b => D b ∨ b = LC ∨ b = VC) st W
  hL : W.heap[LC]? = some (.cells #[vl] 26 (0, 0))
  hV : W.heap[VC]? = some (.cells #[.int .i64 v] 3 (0, 0))
  nL : ¬ D LC
  nV : ¬ D VC
theorem impl_GenusRow.I1_cl (w1 : World) (MC OC AC RC mb : Nat) (vm va : Value) (LC VC : Nat) (vl : Value) (v : Int) : Cl (I1 w1 MC OC AC RC mb vm va LC VC vl v) where
  mv := fun D s W W' h m =>
    { gi := h.gi.mv ⟨m.os, m.tape, m.output, m.size, fun b hb q => m.block b hb (fun q' => q (.inl q'))⟩
      hL := (m.block _ (lt_of_block h.hL) h.nL).trans h.hL
      hV := (m.block _ (lt_of_block h.hV) h.nV).trans h.hV
      nL := h.nL
      nV := h.nV }
  gr := fun D D' s W W' h hb hd =>
    { gi := h.gi.gr hb (fun b q => by
        rcases q with q | q
        · exact (hd b q).imp .inl id
        · exact .inl (.inr q))
      hL := (hb.block _ (lt_of_block h.hL)).trans h.hL
      hV := (hb.block _ (lt_of_block h.hV)).trans h.hV
      nL := fun q => by
        rcases hd _ q with q | ⟨q, _⟩
        · exact h.nL q
        · have := lt_of_block h.hL; omega
      nV := fun q => by
        rcases hd _ q with q | ⟨q, _⟩
        · exact h.nV q
        · have := lt_of_block h.hV; omega }
end
theorem impl_GenusRow.I1.put {w1 : World} {MC OC AC RC mb : Nat} {va : Value} {LC VC : Nat} {vl : Value} {v : Int} {D : Nat → Prop} {W : World} {g n cap : Nat} {m row : List Int} (h : impl_GenusRow.I1 w1 MC OC AC RC mb (.slice (some ⟨g, 0, none⟩) n cap) va LC VC vl v D (m, row) W) (hn : n = m.length) (i : Nat) (x : Int) : impl_GenusRow.I1 w1 MC OC AC RC mb (.slice (some ⟨g, 0, none⟩) n cap) va LC VC vl v D (m.set i x, row) (W.setCell ⟨g, i, none⟩ (.int .i64 x)) ∧ W.heap.size ≤ (W.setCell ⟨g, i, none⟩ (.int .i64 x)).heap.size ∧ ∀ b, D b → b < W.heap.size → (W.setCell ⟨g, i, none⟩ (.int .i64 x)).heap[b]? = W.heap[b]? := by
  obtain ⟨h1, h2, h3⟩ := h.gi.put hn i x
  exact ⟨{ gi := h1
           hL := (h3 _ (.inr (.inl rfl)) (lt_of_block h.hL)).trans h.hL
           hV := (h3 _ (.inr (.inr rfl)) (lt_of_block h.hV)).trans h.hV
           nL := h.nL
           nV := h.nV }, h2, fun b hd hb => h3 b (.inl hd) hb⟩
/-- what the walk over the vertices owes -/
def impl_GenusRow.RS (k : Nat) (at_ : List (List Int)) (c : Nat) (v : Int) (w1 : World) (MC OC AC RC mb : Nat) (vm va : Value) : Prop :=
  ∀ (D : Nat → Prop) (st st' : List Int × List Int) (W : World), impl_GenusRow.gF k at_ c v st = some st' → impl_GenusRow.GI w1 MC OC AC RC mb vm va D st W →
    Calls Tryz.prog 40 #[.int .i64 v, .pointer (some ⟨MC, 0, none⟩), .pointer (some ⟨OC, 0, none⟩), .pointer (some ⟨AC, 0, none⟩), .pointer (some ⟨RC, 0, none⟩)] W fun e W' => e = .returned (.tuple #[]) ∧ impl_GenusRow.GI w1 MC OC AC RC mb vm va D st' W' ∧ W.heap.size ≤ W'.heap.size ∧ ∀ b, D b → b < W.heap.size → W'.heap[b]? = W.heap[b]?
set_option maxHeartbeats 16000000 in
set_option maxRecDepth 100000 in
theorem impl_GenusRow.inner (k : Nat) (at_ : List (List Int)) (c : Nat) (v : Int) (w1 : World) (MC OC AC RC mb : Nat) (vm va : Value) (hv : 0 ≤ v ∧ v < 7) (hrest : impl_GenusRow.RS k at_ c (v + 1) w1 MC OC AC RC mb vm va) (LC VC : Nat) (list : List Int) (Al : Option Addr) (kl : Nat) (hl : Kd.C (Kd.int .i64) w1 Al list.length list) (h0 : 0 < list.length) (D : Nat → Prop) :
    impl_GenusRow.Fn (impl_GenusRow.I1 w1 MC OC AC RC mb vm va LC VC (.slice Al list.length kl) v) (fun others st => (impl_GenusRow.rg others (rd list 0) (rd list 0) st.1).bind fun m' => impl_GenusRow.gF k at_ c (v + 1) (m', st.2)) LC MC RC VC D := by
  intro A n cx xs s s' W hn h hi hx
  subst hn
  obtain ⟨m, row⟩ := s
  obtain ⟨m', hm', h⟩ := Option.bind_eq_some_iff.mp h
  obtain ⟨Am, cm, rfl⟩ := Kd.R_slice hi.gi.hm
  have HRG := Aside0.mk (show impl_GenusRow.rg xs (rd list 0) (rd list 0) m = some m' from hm')
  have HF := Aside0.mk (show impl_GenusRow.gF k at_ c (v + 1) (m', row) = some s' from h)
  have HI := Aside0.mk hi
  have HX := Aside0.mk hx
  have HR := Aside0.mk hrest
  have HL := Aside0.mk hl
  obtain ⟨adl, el, hxl⟩ := Kd.at_int hl 0 (by omega) (by omega)
  subst el
  (try rw [show ((0 : Int)).toNat = 0 from rfl] at hxl)
  (try rw [Addr.add_zero'] at hxl)
  have HXL := Aside0.mk hxl
  have hxl := (hi.gi.bel.cell (World.block_lt_of_cell? w1 _ hxl)).trans hxl
  (try rw [show ((0 : Int)).toNat = 0 from rfl] at hxl)
  (try rw [Addr.add_zero'] at hxl)
  have hLc := cell_of_one hi.hL
  have p0 : ((0 : Int) < (list.length : Int)) = True := eq_true (by omega)
  have p1 : (0 < list.length) = True := eq_true h0
  clear hm' h hi hx hrest hl
  go_enter Tryz.func43, Tryz.ntmps43
  go_wp2
  go_loopg [6, 14] (xs.length + 1) (fun kq v6 v14 w' => ∃ (i : Nat) (d : Int) (m1 : List Int), v6 = .int .i64 d ∧ v14 = .int .i64 (i : Int) ∧ Aside0 (impl_GenusRow.rg (xs.drop i) d (rd list 0) m1 = some m') ∧ Aside0 (i ≤ xs.length ∧ xs.length - i < kq) ∧ Aside0 (impl_GenusRow.I1 w1 MC OC AC RC mb (.slice Am m.length cm) va LC VC (.slice (some adl) list.length kl) v D (m1, row) w') ∧ Aside0 (Kd.R (Kd.int .i64) 3 w' 0 D (.slice A xs.length cx) xs) ∧ Aside0 (W.heap.size ≤ w'.heap.size ∧ ∀ b, D b → b < W.heap.size → w'.heap[b]? = W.heap[b]?))
  case atStart => exact ⟨0, rd list 0, m, rfl, rfl, HRG, ⟨by omega⟩, HI, HX, ⟨Nat.le_refl _, fun _ _ _ => rfl⟩⟩
  case round =>
    clear HRG HI HX hxl hLc
    obtain ⟨i, d, m1, rfl, rfl, HA, HB, HI, HX, HK⟩ := hrel
    have hml : m1.length = m.length := (Kd.R_reads' HI.out.gi.hm).1.symm
    by_cases c1 : i < xs.length
    · have c1b0 : decide ((i : Int) < (xs.length : Int)) = true := decide_eq_true (by omega)
      have h := HA.out
      rw [List.drop_eq_getElem_cons c1, impl_GenusRow.rg] at h
      by_cases c2 : 0 ≤ d ∧ d < (m1.length : Int)
      · rw [if_pos c2] at h
        have hxi : rd xs (i : Int) = xs[i] := by simp [rd, c1]
        have HA1 := Aside0.mk (show impl_GenusRow.rg (xs.drop (i + 1)) (rd xs (i : Int)) (rd list 0) (m1.set d.toNat (rd xs (i : Int))) = some m' by rw [hxi]; exact h)
        obtain ⟨ax, ex, hx⟩ := Kd.at_int (Kd.R_reads' HX.out).2.2 (i : Int) (by omega) (by omega)
        rw [Int.toNat_natCast] at hx
        obtain ⟨g, cg, e0, -, -, -⟩ := Kd.R_form HI.out.gi.hm (show 0 < m1.length by omega)
        injection e0 with e1 e2 e3
        subst e1 e3
        have hMc := cell_of_one HI.out.gi.hMc
        obtain ⟨hx1, hf1⟩ := Kd.R_celln 0 HI.out.gi.hm d c2.1 (by omega)
        have HP := HI.out.put hml.symm d.toNat (rd xs (i : Int))
        have HI2 := Aside0.mk HP.1
        have HX2 := Aside0.mk (Kd.R_step HX.out (fun q hq hlt => HP.2.2 q hq hlt))
        have HK2 := Aside0.mk (show W.heap.size ≤ (wr.setCell ⟨g, d.toNat, none⟩ (.int .i64 (rd xs (i : Int)))).heap.size ∧ ∀ b, D b → b < W.heap.size → (wr.setCell ⟨g, d.toNat, none⟩ (.int .i64 (rd xs (i : Int)))).heap[b]? = W.heap[b]? from ⟨Nat.le_trans HK.out.1 HP.2.1, fun b hd hb => (HP.2.2 b hd (Nat.lt_of_lt_of_le hb HK.out.1)).trans (HK.out.2 b hd hb)⟩)
        have pd : (0 ≤ d) = True := eq_true c2.1
        have qd : (d < (m.length : Int)) = True := eq_true (by omega)
        have pi : (0 : Int) ≤ (i : Int) := by omega
        have qi : (i : Int) < (xs.length : Int) := by omega
        have wi : wrap64 ((i : Int) + 1) = ((i + 1 : Nat) : Int) := by have hb := (Kd.R_reads' HX.out).2.2.2.1; unfold maxLen at hb; unfold wrap64; omega
        subst ex
        clear h HA HI HX HK c2 HP hxi e2
        go_wp2
        go_roundg (xs.length - i)
        case measure => have := HB.out; omega
        case rel => exact ⟨i + 1, rd xs (i : Int), _, rfl, by first | rfl | (rw [wi]), HA1, ⟨by omega⟩, HI2, HX2, HK2⟩
      · rw [if_neg c2] at h
        exact absurd h (by simp)
    · have c1b0 : decide ((i : Int) < (xs.length : Int)) = false := decide_eq_false (by omega)
      have h := HA.out
      rw [List.drop_of_length_le (by omega), impl_GenusRow.rg] at h
      by_cases c2 : 0 ≤ d ∧ d < (m1.length : Int)
      · rw [if_pos c2] at h
        have hm2 := Option.some.inj h
        obtain ⟨g, cg, e0, -, -, -⟩ := Kd.R_form HI.out.gi.hm (show 0 < m1.length by omega)
        injection e0 with e1 e2 e3
        subst e1 e3
        have hMc := cell_of_one HI.out.gi.hMc
        have hLc := cell_of_one HI.out.hL
        have hxl2 := (HI.out.gi.bel.cell (World.block_lt_of_cell? w1 _ HXL.out)).trans HXL.out
        obtain ⟨hx1, hf1⟩ := Kd.R_celln 0 HI.out.gi.hm d c2.1 (by omega)
        have HP := HI.out.put hml.symm d.toNat (rd list 0)
        have hb := below_drew1 (Below.refl (wr.setCell ⟨g, d.toNat, none⟩ (.int .i64 (rd list 0))).heap.size (wr.setCell ⟨g, d.toNat, none⟩ (.int .i64 (rd list 0))))
        have HI2 := Aside0.mk (show impl_GenusRow.I1 w1 MC OC AC RC mb (.slice (some ⟨g, 0, none⟩) m.length cm) va LC VC (.slice (some adl) list.length kl) v D (m', row) (wr.setCell ⟨g, d.toNat, none⟩ (.int .i64 (rd list 0))).drew by rw [← hm2]; exact (impl_GenusRow.I1_cl w1 MC OC AC RC mb _ va LC VC _ v).mv _ _ _ _ HP.1 (impl_GenusRow.Mv.of_below hb))
        have HK2 := Aside0.mk (show W.heap.size ≤ (wr.setCell ⟨g, d.toNat, none⟩ (.int .i64 (rd list 0))).drew.heap.size ∧ ∀ b, D b → b < W.heap.size → (wr.setCell ⟨g, d.toNat, none⟩ (.int .i64 (rd list 0))).drew.heap[b]? = W.heap[b]? from ⟨Nat.le_trans HK.out.1 HP.2.1, fun b hd hb => (HP.2.2 b hd (Nat.lt_of_lt_of_le hb HK.out.1)).trans (HK.out.2 b hd hb)⟩)
        have pd : (0 ≤ d) = True := eq_true c2.1
        have qd : (d < (m.length : Int)) = True := eq_true (by omega)
        have wv : wrap64 (v + 1) = v + 1 := by unfold wrap64; omega
        clear h HA HI HX HK c2 HP e2 hb hm2
        go_wp2_with fail
        go_region
        clear hMc hLc hxl2 hx1 hf1
        generalize (wr.setCell ⟨g, d.toNat, none⟩ (.int .i64 (rd list 0))).drew = W5 at HI2 HK2 ⊢
        have hRc := cell_of_one HI2.out.gi.hF
        have hVc := cell_of_one HI2.out.hV
        go_wp2_with fail
        have hcall := HR.out (fun b => D b ∨ b = LC ∨ b = VC) (m', row) s' W5 HF.out HI2.out.gi
        (go_at_call 40; (with_reducible refine hcall.mono ?_))
        clear hcall
        rintro e w6 ⟨rfl, hg6, hz6, hk6⟩
        have HI6 := Aside0.mk (show impl_GenusRow.I1 w1 MC OC AC RC mb (.slice (some ⟨g, 0, none⟩) m.length cm) va LC VC (.slice (some adl) list.length kl) v D s' w6 from
          { gi := hg6
            hL := (hk6 _ (.inr (.inl rfl)) (lt_of_block HI2.out.hL)).trans HI2.out.hL
            hV := (hk6 _ (.inr (.inr rfl)) (lt_of_block HI2.out.hV)).trans HI2.out.hV
            nL := HI2.out.nL
            nV := HI2.out.nV })
        have HK6 := Aside0.mk (show W.heap.size ≤ w6.heap.size ∧ ∀ b, D b → b < W.heap.size → w6.heap[b]? = W.heap[b]? from ⟨Nat.le_trans HK2.out.1 hz6, fun b hd hb => (hk6 b (.inl hd) (Nat.lt_of_lt_of_le hb HK2.out.1)).trans (HK2.out.2 b hd hb)⟩)
        clear hg6 hz6 hk6 HI2 HK2 hRc hVc
        go_wp2
        go_end0
        exact ⟨rfl, HI6.out, HK6.out⟩
      · rw [if_neg c2] at h
        exact absurd h (by simp)
set_option maxHeartbeats 16000000 in
set_option maxRecDepth 100000 in
theorem impl_GenusRow.leaf (k : Nat) (at_ : List (List Int)) (w1 : World) (MC OC AC RC mb : Nat) (vm va : Value) : impl_GenusRow.RS k at_ 0 7 w1 MC OC AC RC mb vm va := by
  intro D st st' W h H
  obtain ⟨m, row⟩ := st
  rw [impl_GenusRow.gF] at h
  obtain ⟨n, hn, h⟩ := Option.bind_eq_some_iff.mp h
  obtain ⟨row2, hb, h⟩ := Option.bind_eq_some_iff.mp h
  obtain rfl := Option.some.inj h
  obtain ⟨Am, cm, rfl⟩ := Kd.R_slice H.hm
  have HN := Aside0.mk (show impl_GenusOf.f k m = some n from hn)
  have HBM := Aside0.mk (show spec_GenusRow.bump row n = some row2 from hb)
  have bA := below_alloc (Below.refl W.heap.size W) (.cells #[.int .i64 7] 3)
  have HS := Aside0.mk (H.step bA)
  have HBA := Aside0.mk bA
  have hMc := cell_of_one HS.out.hMc
  clear hn hb h H bA
  go_enter Tryz.func40, Tryz.ntmps40
  go_wp2_with fail
  (go_at_call 41; (with_reducible refine (impl_GenusOf.calls k Am cm m n _ (Kd.R_reads' HS.out.hm).2.2 (Kd.R_reads' HS.out.hm).2.1 HN.out).mono ?_))
  rintro e w2 ⟨rfl, hb⟩
  have HB1 := Aside0.mk (below_step HBA.out hb)
  have HS1 := Aside0.mk (HS.out.step hb)
  clear hb HN HS HBA hMc
  have hbm := HBM.out
  unfold spec_GenusRow.bump at hbm
  by_cases hc : 0 ≤ n ∧ n < 1000000 ∧ row.length < 1000000
  · rw [if_pos hc] at hbm
    have hbm := Option.some.inj hbm
    have HC := Aside0.mk hc
    have HBN := Aside0.mk hbm
    clear hbm hc HBM
    go_wp2
    go_loopg [] (n.toNat + 2) (fun kq w' => ∃ (i : Nat), Aside0 (i ≤ n.toNat + 1 - row.length ∧ n.toNat + 1 - row.length - i < kq) ∧ Aside0 (impl_GenusRow.GI w1 MC OC AC RC mb (.slice Am m.length cm) va D (m, row ++ List.replicate i 0) w') ∧ Aside0 (W.heap.size ≤ w'.heap.size ∧ ∀ b, D b → b < W.heap.size → w'.heap[b]? = W.heap[b]?))
    case atStart => exact ⟨0, ⟨by omega⟩, by rw [List.replicate_zero, List.append_nil]; exact HS1, ⟨HB1.out.size, fun b _ hb => HB1.out.block b hb⟩⟩
    case round =>
      clear HS1
      obtain ⟨i, HI, HS1, HK⟩ := hrel
      obtain ⟨y, hy⟩ : ∃ y, y = row ++ List.replicate i 0 := ⟨_, rfl⟩
      have hyl : y.length = row.length + i := by rw [hy]; simp
      have HY := Aside0.mk hy
      have HYL := Aside0.mk hyl
      have HS2 := Aside0.mk (show impl_GenusRow.GI w1 MC OC AC RC mb (.slice Am m.length cm) va D (m, y) wr by rw [hy]; exact HS1.out)
      clear HS1 hy
      obtain ⟨vr, hoc, hor⟩ := HS2.out.hO
      obtain ⟨Av, cv, rfl⟩ := Kd.R_slice hor
      have HOC := Aside0.mk hoc
      have HOR := Aside0.mk (show Kd.R (Kd.int .i64) 3 wr w1.heap.size (fun b => ¬ D b ∧ b ≠ mb ∧ b ≠ MC ∧ b ≠ OC ∧ b ≠ AC ∧ b ≠ RC) (.slice Av y.length cv) y from hor)
      have hOc : wr.cell? ⟨OC, 0, none⟩ = some (.slice Av y.length cv) := cell_of_one hoc
      have hOf := free_of_one hoc
      clear hoc hor
      by_cases c1 : i < n.toNat + 1 - row.length
      · have c1b0 : decide ((y.length : Int) ≤ n) = true := decide_eq_true (by have := HC.out; omega)
        clear hyl
        have hl8 : (y.length + 1) * 8 ≤ 140737488355328 := by have := HYL.out; have := HC.out; omega
        have HFR : Aside0 (∀ k, wr.heap.size ≤ k → ¬ D k ∧ k ≠ mb ∧ k ≠ MC ∧ k ≠ OC ∧ k ≠ AC ∧ k ≠ RC) := ⟨fun k hk => ⟨fun q => by have := (HS2.out.dom k q).1; omega, by have := HS2.out.hi; omega, by have := lt_of_block HS2.out.hMc; omega, by have := lt_of_block HOC.out; omega, by have := lt_of_block HS2.out.hA; omega, by have := lt_of_block HS2.out.hF; omega⟩⟩
        go_wp2_with (first | ((with_reducible refine gate_builtin (b := .append) (xs := #[.tmp 16, .tmp 17]) rfl ?_); at_builtin; refine Kd.R_append (Kd.int .i64) (w0 := w1) w1.heap.size rfl (.tmp 16) (.tmp 17) 26 3 (.int .i64 0) 8 rfl Tryz.underlying26 info3 rfl (by decide) (by omega) (.slice Av y.length cv) y 0 [.int .i64 0] (fun b => ¬ D b ∧ b ≠ mb ∧ b ≠ MC ∧ b ≠ OC ∧ b ≠ AC ∧ b ≠ RC) (fun _ => False) rfl rfl rfl (fun _ hk => hk.elim) HFR.out HOR.out HS2.out.bel HS2.out.bel.size hl8 ?_; intro v4 w4 hR4 hB4 hG4 _; have hoc4 := (hG4.block OC (lt_of_block HOC.out) (fun e => (HOR.out.1 OC e.symm).2.2.2.1 rfl)).trans HOC.out; have hOc4 := cell_of_one hoc4; have hOf4 := free_of_one hoc4; obtain ⟨A4, c4, rfl⟩ := Kd.R_slice hR4; have HS4 := Aside0.mk (HS2.out.grown HOR.out hG4 hB4 HOC.out hR4); rw [show (y ++ [(0 : Int)]).length = y.length + 1 from (by simp)] at HS4; clear hR4 hB4 hG4 hoc4))
        go_roundg (n.toNat + 1 - row.length - i)
        case measure => have := HI.out; omega
        case rel => exact ⟨i + 1, ⟨by omega⟩, ⟨by rw [List.replicate_succ', ← List.append_assoc, ← HY.out]; exact HS4.out.1⟩, ⟨Nat.le_trans HK.out.1 HS4.out.2.1, fun b hd hb => (HS4.out.2.2 b hd (Nat.lt_of_lt_of_le hb HK.out.1)).trans (HK.out.2 b hd hb)⟩⟩
      · have c1b0 : decide ((y.length : Int) ≤ n) = false := decide_eq_false (by have := HC.out; omega)
        obtain rfl : i = n.toNat + 1 - row.length := by have := HI.out; omega
        have hny : n.toNat < y.length := by omega
        obtain ⟨g, capg, e0, -, -, -⟩ := Kd.R_form HOR.out (by omega)
        injection e0 with e1 _ e3
        subst e1 e3
        have HR2 := Aside0.mk (show row2 = y.set n.toNat (wrap64 (rd y n + 1)) by rw [← HBN.out, ← HY.out])
        obtain ⟨hx, hf⟩ := Kd.R_celln 0 HOR.out n HC.out.1 (by have := HC.out; omega)
        replace hx : wr.cell? ⟨g, n.toNat, none⟩ = some (.int .i64 (rd y n)) := hx
        have HS3 := Aside0.mk (HS2.out.putRow rfl HOC.out HOR.out n.toNat (wrap64 (rd y n + 1)))
        have p1 : (0 ≤ n) = True := eq_true HC.out.1
        have q1 : (n < (y.length : Int)) = True := eq_true (by have := HC.out; omega)
        clear hyl c1 hny
        go_wp2
        refine bodyPost_ret (results_none rfl _ _ _) rfl ?_
        exact ⟨rfl, by rw [HR2.out]; exact HS3.out.1, Nat.le_trans HK.out.1 HS3.out.2.1, fun b hd hb => (HS3.out.2.2 b hd (Nat.lt_of_lt_of_le hb HK.out.1)).trans (HK.out.2 b hd hb)⟩
  · rw [if_neg hc] at hbm
    exact absurd hbm (by simp)
set_option maxHeartbeats 16000000 in
set_option maxRecDepth 100000 in
theorem impl_GenusRow.walk (k : Nat) (at_ : List (List Int)) (w1 : World) (MC OC AC RC mb : Nat) (vm : Value) (Aa : Option Addr) (ca : Nat) (hat : Kd.C (Kd.slice 3 (Kd.int .i64)) w1 Aa at_.length at_) : ∀ (c : Nat) (v : Int), v + (c : Int) = 7 → 0 ≤ v → impl_GenusRow.RS k at_ c v w1 MC OC AC RC mb vm (.slice Aa at_.length ca) := by
  intro c
  induction c with
  | zero =>
    intro v hv h0
    obtain rfl : v = 7 := by omega
    exact impl_GenusRow.leaf k at_ w1 MC OC AC RC mb vm _
  | succ c ih =>
    intro v hv h0 D st st' W h H
    rw [impl_GenusRow.gF] at h
    by_cases hl : v < (at_.length : Int)
    · rw [if_pos hl] at h
      have IH := Aside0.mk (ih (v + 1) (by omega) (by omega))
      have HH := Aside0.mk h
      obtain ⟨ad, A5, k5, e5, hx5, hl5, hi5⟩ := at_L2 hat v h0 hl
      subst e5
      have bA := below_alloc (Below.refl W.heap.size W) (.cells #[.int .i64 v] 3)
      have bB := below_alloc bA (.cells #[.slice A5 (rd_L2 at_ v).length k5] 26)
      have HG := Aside0.mk H
      have HBB := Aside0.mk bB
      have hv7 : (v == 7) = false := beq_eq_false_iff_ne.2 (by omega)
      have hAc := cell_of_one (H.step bA).hA
      have hVb : (W.alloc (.cells #[.int .i64 v] 3)).heap[W.heap.size]? = some (.cells #[.int .i64 v] 3 (0, 0)) := heap_alloc_new _ _
      have hVc := cell_of_one hVb
      have HVb2 := Aside0.mk (spec_l7Orders.hp1 W (.cells #[.int .i64 v] 3) (.cells #[.slice A5 (rd_L2 at_ v).length k5] 26))
      have HLb2 := Aside0.mk (spec_l7Orders.hp2 W (.cells #[.int .i64 v] 3) (.cells #[.slice A5 (rd_L2 at_ v).length k5] 26))
      have hVc2 : ((W.alloc (.cells #[.int .i64 v] 3)).alloc (.cells #[.slice A5 (rd_L2 at_ v).length k5] 26)).cell? ⟨W.heap.size, 0, none⟩ = some (.int .i64 v) := cell_of_one HVb2.out
      have hLc2 : ((W.alloc (.cells #[.int .i64 v] 3)).alloc (.cells #[.slice A5 (rd_L2 at_ v).length k5] 26)).cell? ⟨W.heap.size + 1, 0, none⟩ = some (.slice A5 (rd_L2 at_ v).length k5) := cell_of_one HLb2.out
      have hRc2 := cell_of_one (H.step bB).hF
      have hx := ((H.step bA).bel.cell (World.block_lt_of_cell? w1 _ hx5)).trans hx5
      have HA5 := Aside0.mk hi5
      have HC5 := Aside0.mk hl5
      have p1 : (0 ≤ v) = True := eq_true h0
      have q1 : (v < (at_.length : Int)) = True := eq_true hl
      have wv : wrap64 (v + 1) = v + 1 := by unfold wrap64; omega
      clear h H bA bB ih hx5 hi5 hl hl5 hVb
      by_cases c0 : (rd_L2 at_ v).length = 0
      · have h := HH.out
        rw [if_pos c0] at h
        have H1 := Aside0.mk h
        have cb : (((rd_L2 at_ v).length : Int) == 0) = true := beq_iff_eq.2 (by omega)
        clear h HH c0
        go_enter Tryz.func40, Tryz.ntmps40
        go_wp2_with fail
        have hcall := IH.out D st st' _ H1.out (HG.out.step HBB.out)
        (go_at_call 40; (with_reducible refine hcall.mono ?_))
        clear hcall
        rintro e w6 ⟨rfl, hg6, hz6, hk6⟩
        have HP := Aside0.mk (show impl_GenusRow.GI w1 MC OC AC RC mb vm (.slice (some ad) at_.length ca) D st' w6 ∧ W.heap.size ≤ w6.heap.size ∧ ∀ b, D b → b < W.heap.size → w6.heap[b]? = W.heap[b]? from ⟨hg6, Nat.le_trans HBB.out.size hz6, fun b hd hb => (hk6 b hd (Nat.lt_of_lt_of_le hb HBB.out.size)).trans (HBB.out.block b hb)⟩)
        clear hg6 hz6 hk6 HG IH
        go_wp2
        refine bodyPost_ret (results_none rfl _ _ _) rfl ?_
        exact ⟨rfl, HP.out⟩
      · have h := HH.out
        rw [if_neg c0] at h
        by_cases c9 : (rd_L2 at_ v).length ≤ 100
        · rw [if_pos c9] at h
          have cb : (((rd_L2 at_ v).length : Int) == 0) = false := beq_eq_false_iff_ne.2 (by omega)
          obtain ⟨tl, htl⟩ : ∃ y, y = (rd_L2 at_ v).drop 1 := ⟨_, rfl⟩
          have hll : tl.length = (rd_L2 at_ v).length - 1 := by rw [htl, List.length_drop]
          have H1 := Aside0.mk (show impl_GenusRow.oR (fun others st => (impl_GenusRow.rg others (rd (rd_L2 at_ v) 0) (rd (rd_L2 at_ v) 0) st.1).bind fun m' => impl_GenusRow.gF k at_ c (v + 1) (m', st.2)) tl.length 0 tl st = some st' by rw [hll, htl]; exact h)
          obtain ⟨ii, hi_, _, hsz, _⟩ := info_parts info3
          have hcut := cut_from (P := Tryz.prog) 26 3 .i64 Tryz.underlying26 hi_ 1 hsz A5 (rd_L2 at_ v).length k5 1 (by omega) (by omega)
          rw [show ((1 : Int)).toNat = 1 from rfl, ← hll] at hcut
          obtain ⟨At, hAt⟩ : ∃ A1, A1 = (if k5 = 1 then A5 else A5.map (·.add (1 * 1))) := ⟨_, rfl⟩
          rw [← hAt] at hcut
          have HTl := Aside0.mk (show Kd.C (Kd.int .i64) w1 At tl.length tl by rw [hAt, htl]; exact Kd.C_drop (k := Kd.int .i64) (m := 1) (c := k5) HA5.out (by omega) HC5.out)
          have hI : impl_GenusRow.I1 w1 MC OC AC RC mb vm (.slice (some ad) at_.length ca) (W.heap.size + 1) W.heap.size (.slice A5 (rd_L2 at_ v).length k5) v D st ((W.alloc (.cells #[.int .i64 v] 3)).alloc (.cells #[.slice A5 (rd_L2 at_ v).length k5] 26)) :=
            { gi := HG.out.gr HBB.out (fun b q => by
                have z : ((W.alloc (.cells #[.int .i64 v] 3)).alloc (.cells #[.slice A5 (rd_L2 at_ v).length k5] 26)).heap.size = W.heap.size + 2 := by
                  show ((W.heap.push _).push _).size = _
                  simp
                rcases q with q | q | q
                · exact .inl q
                · exact .inr ⟨by omega, by omega⟩
                · exact .inr ⟨by omega, by omega⟩)
              hL := HLb2.out
              hV := HVb2.out
              nL := fun q => by have := (HG.out.dom _ q).1; omega
              nV := fun q => by have := (HG.out.dom _ q).1; omega }
          have HI := Aside0.mk hI
          have HK := Aside0.mk (show k5 - 1 ≥ tl.length by have := HC5.out; omega)
          have HLN := Aside0.mk (show tl.length ≤ 100 by omega)
          have HL0 := Aside0.mk (show 0 < (rd_L2 at_ v).length by omega)
          have hcall := Aside0.mk (impl_GenusRow.orders (impl_GenusRow.I1_cl w1 MC OC AC RC mb vm (.slice (some ad) at_.length ca) (W.heap.size + 1) W.heap.size (.slice A5 (rd_L2 at_ v).length k5) v) D (W.heap.size + 1) MC RC W.heap.size (fun D' => impl_GenusRow.inner k at_ c v w1 MC OC AC RC mb vm (.slice (some ad) at_.length ca) ⟨h0, by omega⟩ IH.out (W.heap.size + 1) W.heap.size (rd_L2 at_ v) A5 k5 HA5.out HL0.out D') At (k5 - 1) tl st st' _ HLN.out (Kd.C_below (Kd.C_below HTl.out HG.out.bel) HBB.out) HK.out H1.out HI.out)
          have q2 : ((1 : Int) ≤ ((rd_L2 at_ v).length : Int)) = True := eq_true (by omega)
          clear h HH hAt hi_ hsz htl hI hll
          go_enter Tryz.func40, Tryz.ntmps40
          go_wp2_with fail
          (go_at_call 42; (with_reducible refine hcall.out.mono ?_))
          rintro e w6 ⟨rfl, hg6, hz6, hk6⟩
          have HP := Aside0.mk (show impl_GenusRow.GI w1 MC OC AC RC mb vm (.slice (some ad) at_.length ca) D st' w6 ∧ W.heap.size ≤ w6.heap.size ∧ ∀ b, D b → b < W.heap.size → w6.heap[b]? = W.heap[b]? from ⟨hg6.gi.gr (Below.refl _ _) (fun b q => .inl (.inl q)), Nat.le_trans HBB.out.size hz6, fun b hd hb => (hk6 b hd (Nat.lt_of_lt_of_le hb HBB.out.size)).trans (HBB.out.block b hb)⟩)
          clear hg6 hz6 hk6 HG IH hcall HI
          go_wp2
          go_end0
          exact ⟨rfl, HP.out⟩
        · rw [if_neg c9] at h
          exact absurd h (by simp)
    · rw [if_neg hl] at h
      exact absurd h (by simp)
set_option maxHeartbeats 8000000 in
set_option maxRecDepth 100000 in
theorem impl_GenusRow.calls (k : Nat) (A0 : Option Addr) (c0 : Nat) (l0 : List (List Int)) (r : List Int) (w : World) (hr0 : Kd.C (Kd.slice 3 (Kd.int .i64)) w A0 l0.length l0) (hc0 : l0.length ≤ c0) (h : impl_GenusRow.f k l0 = some r) :
    Calls Tryz.prog 6 #[.slice A0 l0.length c0] w fun e w' => ∃ v0_ : Value, e = .returned (v0_) ∧ Kd.R (Kd.int .i64) 3 w' w.heap.size (fun _ => True) v0_ r ∧ Below w.heap.size w w' := by
  have HR0 := Aside0.mk hr0
  have HC0 := Aside0.mk hc0
  clear hr0 hc0
  unfold impl_GenusRow.f at h
  obtain ⟨t, ht, h⟩ := Option.bind_eq_some_iff.mp h
  have HT := Aside0.mk ht
  have HH := Aside0.mk h
  clear ht h
  go_enter Tryz.func6, Tryz.ntmps6
  cases t with
  | false =>
    have h := HH.out
    rw [if_neg (by decide)] at h
    obtain rfl := Option.some.inj h
    clear h HH
    go_wp2_with fail
    (go_at_call 24; (with_reducible refine (impl_IsGraph.calls k A0 c0 l0 false _ HR0.out HC0.out HT.out).mono ?_))
    rintro e w1 ⟨rfl, hd⟩
    obtain ⟨n1, rfl⟩ := hd.out
    have HB1 := Aside0.mk (pw_below_drewN (Below.refl w.heap.size w) n1)
    clear hd
    go_wp2
    go_ret
    exact ⟨_, rfl, Kd.R_nil _ _ _ _ _, HB1.out⟩
  | true =>
    have h := HH.out
    rw [if_pos rfl] at h
    obtain ⟨n, hn, h⟩ := Option.bind_eq_some_iff.mp h
    have HN := Aside0.mk hn
    have H2 := Aside0.mk h
    clear hn h HH
    go_wp2_with fail
    (go_at_call 24; (with_reducible refine (impl_IsGraph.calls k A0 c0 l0 true _ HR0.out HC0.out HT.out).mono ?_))
    rintro e w1 ⟨rfl, hd⟩
    obtain ⟨n1, rfl⟩ := hd.out
    have HB1 := Aside0.mk (pw_below_drewN (Below.refl w.heap.size w) n1)
    clear hd HT
    generalize w.drewN n1 = w1 at HB1 ⊢
    go_wp2_with fail
    (go_at_call 28; (with_reducible refine (impl_CountRotations.calls k A0 c0 l0 n _ (Kd.C_below HR0.out HB1.out) HC0.out HN.out).mono ?_))
    rintro e w2 ⟨rfl, hb⟩
    have HB2 := Aside0.mk (below_step HB1.out hb)
    clear hb HN HB1
    by_cases c2 : 2000 < n
    · have h := H2.out
      rw [if_pos c2] at h
      obtain rfl := Option.some.inj h
      have cb : decide (2000 < n) = true := decide_eq_true c2
      clear h H2 c2
      go_wp2
      go_ret
      exact ⟨_, rfl, Kd.R_nil _ _ _ _ _, HB2.out⟩
    · have h := H2.out
      rw [if_neg c2] at h
      have cb : decide (2000 < n) = false := decide_eq_false c2
      obtain ⟨at_, ha, h⟩ := Option.bind_eq_some_iff.mp h
      by_cases hl : l0.length < 1000000
      · rw [if_pos hl] at h
        obtain ⟨⟨m', row'⟩, h1, h2⟩ := Option.bind_eq_some_iff.mp h
        obtain rfl := Option.some.inj h2
        have HA := Aside0.mk ha
        have HL := Aside0.mk hl
        have H1 := Aside0.mk h1
        clear h h1 h2 H2 c2 ha hl
        go_wp2_with fail
        (go_at_call 39; (with_reducible refine (impl_dartsAt.calls k A0 c0 l0 at_ _ (Kd.C_below HR0.out HB2.out) HC0.out HA.out).mono ?_))
        rintro e w3 ⟨va, rfl, hs, hb⟩
        obtain ⟨Aa, ca, rfl⟩ := Kd.S_slice hs
        have HB3 := Aside0.mk (below_step HB2.out hb)
        have HAT := Aside0.mk (Kd.S_reads' hs).2.2
        clear hs hb HA HB2
        have z1 : (w3.alloc (.cells #[] 3)).heap.size = w3.heap.size + 1 := by show (w3.heap.push _).size = _; simp
        have z2 : ((w3.alloc (.cells #[] 3)).alloc (.cells #[.slice Aa at_.length ca] 24)).heap.size = w3.heap.size + 1 + 1 := by show ((w3.heap.push _).push _).size = _; simp
        have z3 : (((w3.alloc (.cells #[] 3)).alloc (.cells #[.slice Aa at_.length ca] 24)).alloc (.cells #[.slice (some ⟨w3.heap.size, 0, none⟩) 0 0] 26)).heap.size = w3.heap.size + 3 := by show (((w3.heap.push _).push _).push _).size = _; simp
        have b4 : Below w3.heap.size w3 (((w3.alloc (.cells #[] 3)).alloc (.cells #[.slice Aa at_.length ca] 24)).alloc (.cells #[.slice (some ⟨w3.heap.size, 0, none⟩) 0 0] 26)) := below_alloc (below_alloc (below_alloc (Below.refl _ _) _) _) _
        have e0 : (((w3.alloc (.cells #[] 3)).alloc (.cells #[.slice Aa at_.length ca] 24)).alloc (.cells #[.slice (some ⟨w3.heap.size, 0, none⟩) 0 0] 26)).heap[w3.heap.size]? = some (.cells #[] 3 (0, 0)) := by
          show (((w3.heap.push _).push _).push _)[w3.heap.size]? = _
          simp only [Array.getElem?_push, Array.size_push]
          repeat (first | rfl | rw [if_pos rfl] | rw [if_neg (by omega)])
        have e1 : (((w3.alloc (.cells #[] 3)).alloc (.cells #[.slice Aa at_.length ca] 24)).alloc (.cells #[.slice (some ⟨w3.heap.size, 0, none⟩) 0 0] 26)).heap[w3.heap.size + 1]? = some (.cells #[.slice Aa at_.length ca] 24 (0, 0)) := by
          show (((w3.heap.push _).push _).push _)[w3.heap.size + 1]? = _
          simp only [Array.getElem?_push, Array.size_push]
          repeat (first | rfl | rw [if_pos rfl] | rw [if_neg (by omega)])
        have e2 : (((w3.alloc (.cells #[] 3)).alloc (.cells #[.slice Aa at_.length ca] 24)).alloc (.cells #[.slice (some ⟨w3.heap.size, 0, none⟩) 0 0] 26)).heap[w3.heap.size + 1 + 1]? = some (.cells #[.slice (some ⟨w3.heap.size, 0, none⟩) 0 0] 26 (0, 0)) := by
          show (((w3.heap.push _).push _).push _)[w3.heap.size + 1 + 1]? = _
          simp only [Array.getElem?_push, Array.size_push]
          repeat (first | rfl | rw [if_pos rfl] | rw [if_neg (by omega)])
        have B4 := Aside0.mk b4
        have Z4 := Aside0.mk z3
        have E0 := Aside0.mk e0
        have E1 := Aside0.mk e1
        have E2 := Aside0.mk e2
        clear z1 z2 z3 b4 e0 e1 e2
        obtain ⟨m0, hm0⟩ : ∃ y, y = List.replicate (2 * l0.length) (0 : Int) := ⟨_, rfl⟩
        have H3 := Aside0.mk (show impl_GenusRow.gF k at_ 7 0 (m0, []) = some (m', row') by rw [hm0]; exact H1.out)
        have HM0 := Aside0.mk hm0
        have HW := Aside0.mk (show wrap64 (2 * (l0.length : Int)) = 2 * (l0.length : Int) by have := HL.out; unfold wrap64; omega)
        have HE := Aside0.mk (show (2 * (l0.length : Int)).toNat = 2 * l0.length by omega)
        clear hm0 H1
        go_wp2_with (first | ((with_reducible refine gate_dst (N := 21) rfl ?_); refine Kd.R_make (Kd.int .i64) (w0 := w3) w3.heap.size 3 rfl (N := 21) rfl 26 _ _ rfl (wrap64 (2 * (l0.length : Int))) rfl rfl Tryz.underlying26 (.int .i64 0) 8 info3 rfl (by decide) (by omega) 0 (ok := fun b => b = w3.heap.size + 3) (okp := fun b => b = w3.heap.size + 3) rfl (fun _ hk => hk) Z4.out (by rw [HW.out]; omega) (by rw [HW.out]; have := HL.out; omega) B4.out B4.out.size ?_; intro v5 w5 hM5 hB5 hG5 hv5; rw [HW.out, HE.out, ← HM0.out] at hM5; obtain ⟨A5, c5, rfl⟩ := Kd.R_slice hM5; have HM5 := Aside0.mk hM5; have HB5 := Aside0.mk hB5; have HV5 := Aside0.mk hv5; have HG5 := Aside0.mk hG5; clear hM5 hB5 hG5 hv5))
        obtain ⟨b5, hb5, -⟩ := HV5.out
        have hb3 := HM5.out.1 b5 hb5
        subst hb3
        have hlt := Kd.R_lt HM5.out _ hb5
        have k5 : ∀ b, b < w3.heap.size + 3 → w5.heap[b]? = (((w3.alloc (.cells #[] 3)).alloc (.cells #[.slice Aa at_.length ca] 24)).alloc (.cells #[.slice (some ⟨w3.heap.size, 0, none⟩) 0 0] 26)).heap[b]? := fun b hb => HG5.out.block b (by rw [Z4.out]; exact hb) (by simp)
        have d5 := (k5 w3.heap.size (by omega)).trans E0.out
        have d6 := (k5 (w3.heap.size + 1) (by omega)).trans E1.out
        have d7 := (k5 (w3.heap.size + 1 + 1) (by omega)).trans E2.out
        have b6 : Below w5.heap.size w5 ((w5.alloc (.cells #[.slice A5 m0.length c5] 26)).alloc (.cells #[.func (.func 40) #[] #[.pointer (some ⟨w5.heap.size, 0, none⟩), .pointer (some ⟨w3.heap.size + 1 + 1, 0, none⟩), .pointer (some ⟨w3.heap.size + 1, 0, none⟩), .pointer (some ⟨w5.heap.size + 1, 0, none⟩)]] 47)) := below_alloc (below_alloc (Below.refl _ _) _) _
        have HGI := Aside0.mk (show impl_GenusRow.GI w3 w5.heap.size (w3.heap.size + 1 + 1) (w3.heap.size + 1) (w5.heap.size + 1) (w3.heap.size + 3) (.slice A5 m0.length c5) (.slice Aa at_.length ca) (fun _ => False) (m0, []) ((w5.alloc (.cells #[.slice A5 m0.length c5] 26)).alloc (.cells #[.func (.func 40) #[] #[.pointer (some ⟨w5.heap.size, 0, none⟩), .pointer (some ⟨w3.heap.size + 1 + 1, 0, none⟩), .pointer (some ⟨w3.heap.size + 1, 0, none⟩), .pointer (some ⟨w5.heap.size + 1, 0, none⟩)]] 47)) from
          { bel := below_step HB5.out b6
            dom := fun _ q => q.elim
            hMc := spec_l7Orders.hp1 w5 _ _
            hA := (b6.block _ (by omega)).trans d6
            hF := spec_l7Orders.hp2 w5 _ _
            hm := Kd.R_below HM5.out b6
            hO := ⟨_, (b6.block _ (by omega)).trans d7, spec_l7Orders.lit0 ((b6.block _ (by omega)).trans d5) (Nat.le_refl _) ⟨fun q => q, by omega, by omega, by omega, by omega, by omega⟩⟩
            nd := ⟨fun q => q, fun q => q, fun q => q, fun q => q, fun q => q⟩
            ne := ⟨by omega, by omega, by omega, by omega, by omega, by omega, by omega⟩
            lo := ⟨by omega, by omega⟩
            hi := Nat.lt_of_lt_of_le hlt b6.size })
        have hcall := impl_GenusRow.walk k at_ w3 w5.heap.size (w3.heap.size + 1 + 1) (w3.heap.size + 1) (w5.heap.size + 1) (w3.heap.size + 3) (.slice A5 m0.length c5) Aa ca HAT.out 7 0 (by omega) (by omega) (fun _ => False) (m0, []) (m', row') _ H3.out HGI.out
        clear HGI HM5 HB5 HG5 HV5 k5 d5 d6 d7 b6 hb5 hlt
        (go_at_call 40; (with_reducible refine hcall.mono ?_))
        clear hcall
        rintro e w7 ⟨rfl, hg7, -, -⟩
        obtain ⟨vr, ho7, hr7⟩ := hg7.hO
        obtain ⟨A7, c7, rfl⟩ := Kd.R_slice hr7
        have HB7 := Aside0.mk (below_step HB3.out hg7.bel)
        have HR7 := Aside0.mk (Kd.R_lower (Kd.R_mono hr7 (fun _ _ => trivial)) HB3.out.size : Kd.R (Kd.int .i64) 3 w7 w.heap.size (fun _ => True) (.slice A7 row'.length c7) row')
        have hoc := cell_of_one ho7
        clear hg7 ho7 hr7
        go_wp2
        go_ret
        exact ⟨_, rfl, HR7.out, HB7.out⟩
      · rw [if_neg hl] at h
        exact absurd h (by simp)

end Go.Proofs.YtafpbabiahjjaaaGreatDoor.PFnGraphs
