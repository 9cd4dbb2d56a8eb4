/- Pure side of FnGroups: relators are trivial, trivial words have no homology, and equal words stay equal: the printed law answers true at every code; no condition beyond the printed statement's bounds. -/
import Derived.Test.YtbchbmfmplfoiaaVFnGroups
import Derived.Test.YtbchbmfmplfoiaaWSized
set_option linter.unusedVariables false
set_option linter.unusedSimpArgs false
set_option linter.unnecessarySimpa false
set_option maxRecDepth 10000
/-- the printed row calls the print's word by this name -/
abbrev Go.Proofs.Ytbchbmfmplfoiaa.PrintWords.sized_ints := @Go.Proofs.YtbchbmfmplfoiaaW.PrintWords.sized_ints
namespace Go.Proofs.Ytbchbmfmplfoiaa.Pure
open Go.RowKit Go.Proofs.Ytbchbmfmplfoiaa.PFnGroups Go.Proofs.YtbchbmfmplfoiaaW.PrintWords Go.Proofs.YtbchbmfmplfoiaaW.PrintLast Go.Proofs.YtbchbmfmplfoiaaW.PrintMore

/-! ### Base: words of our own, of no program -/
section
theorem w64 {x : Int} (h1 : -9223372036854775808 ≤ x) (h2 : x ≤ 9223372036854775807) : wrap64 x = x := by
  unfold wrap64; omega
theorem wf64 {x : Int} (h : (Lit.int .i64 x).wf = true) : -9223372036854775808 ≤ x ∧ x ≤ 9223372036854775807 := by
  simp only [Lit.wf, IntKind.min, IntKind.max, IntKind.signed, IntKind.bits, Bool.and_eq_true, decide_eq_true_eq, if_true] at h
  omega
/-- from some number of rounds on it answers r -/
structure EV {α : Type} (g : Nat → Option α) (r : α) : Prop where mk :: (out : ∃ K, ∀ k, K ≤ k → g k = some r)
theorem EV.now {α : Type} (r : α) : EV (fun _ => some r) r := ⟨0, fun _ _ => rfl⟩
theorem EV.rounds {α : Type} {g : Nat → Option α} {r : α} (h : EV g r) : ∃ k, g k = some r := by
  obtain ⟨K, h⟩ := h
  exact ⟨K, h K (Nat.le_refl _)⟩
theorem EV.bind {α β : Type} {g : Nat → Option α} {f : Nat → α → Option β} {a : α} {r : β} (h : EV g a) (k : EV (fun n => f n a) r) : EV (fun n => (g n).bind (f n)) r := by
  obtain ⟨K, h⟩ := h
  obtain ⟨K', k⟩ := k
  refine ⟨max K K', fun n hn => ?_⟩
  have h1 := h n (by omega)
  have h2 := k n (by omega)
  simp only [h1, Option.bind_some]
  exact h2
theorem EV.step {α : Type} {g f : Nat → Option α} {r : α} (h : ∀ k, g (k + 1) = f k) (k : EV f r) : EV g r := by
  obtain ⟨K, k⟩ := k
  refine ⟨K + 1, fun n hn => ?_⟩
  obtain ⟨m, rfl⟩ : ∃ m, n = m + 1 := ⟨n - 1, by omega⟩
  rw [h]
  exact k m (by omega)
theorem EV.congr {α : Type} {g f : Nat → Option α} {r : α} (h : ∀ k, g k = f k) (k : EV f r) : EV g r := by
  obtain ⟨K, k⟩ := k
  exact ⟨K, fun n hn => (h n).trans (k n hn)⟩
theorem EV.pos {α : Type} {c : Prop} [Decidable c] {a b : Nat → Option α} {r : α} (h : c) (k : EV a r) : EV (fun n => if c then a n else b n) r :=
  EV.congr (fun n => if_pos h) k
theorem EV.neg {α : Type} {c : Prop} [Decidable c] {a b : Nat → Option α} {r : α} (h : ¬ c) (k : EV b r) : EV (fun n => if c then a n else b n) r :=
  EV.congr (fun n => if_neg h) k
theorem EV.cases {α : Type} {c : Prop} [Decidable c] {a b : Nat → Option α} {r : α} (h : c → EV a r) (h' : ¬ c → EV b r) : EV (fun n => if c then a n else b n) r := by
  by_cases hc : c
  · exact EV.pos hc (h hc)
  · exact EV.neg hc (h' hc)
/-- a callee without rounds -/
theorem EV.by {α β : Type} {g : Option α} {f : Nat → α → Option β} {a : α} {r : β} (h : g = some a) (k : EV (fun n => f n a) r) : EV (fun n => g.bind (f n)) r := by
  subst h; exact k
theorem EV.is {α : Type} {g : Option α} {r : α} (h : g = some r) : EV (fun _ => g) r := ⟨0, fun _ _ => h⟩
theorem EV.eq {α : Type} {g : Nat → Option α} {r r' : α} (h : EV g r) (e : r = r') : EV g r' := e ▸ h
theorem rd_app (pre : List Int) (x : Int) (suf : List Int) : rd (pre ++ x :: suf) (pre.length : Int) = x := by
  simp [rd]
theorem rd_nat (xs : List Int) (i : Nat) (h : i < xs.length) : rd xs (i : Int) = xs[i] := by
  simp [rd, h]
end
/-- one index on -/
theorem up {α : Type} {x : α} {pre : List α} (h : pre.length < 4611686018427387904) : wrap64 ((pre.length : Int) + 1) = ((pre ++ [x]).length : Int) := by
  rw [w64 (by omega) (by omega)]; simp
theorem lt_app {α : Type} (pre : List α) (x : α) (suf : List α) : (pre.length : Int) < ((pre ++ x :: suf).length : Int) := by simp; omega
/-- from some number of rounds on -/
def Evt (P : Nat → Prop) : Prop := ∃ K, ∀ k, K ≤ k → P k
theorem Evt.and {P Q : Nat → Prop} (h : Evt P) (h' : Evt Q) : Evt (fun k => P k ∧ Q k) := by
  obtain ⟨K, h⟩ := h
  obtain ⟨K', h'⟩ := h'
  exact ⟨max K K', fun k hk => ⟨h k (by omega), h' k (by omega)⟩⟩
theorem Evt.rounds {P : Nat → Prop} (h : Evt P) : ∃ k, P k := by
  obtain ⟨K, h⟩ := h
  exact ⟨K, h K (Nat.le_refl _)⟩
/-- a loop that looks at each member and answers early, or goes on -/
theorem EV.scan {α : Type} {g : Nat → Int → Option Bool} (xs : List α) (p : α → Bool) (fin : Bool)
    (hs : ∀ (i : Nat) (h : i < xs.length) (r : Bool), (p xs[i] = true → EV (fun k => g k ((i : Int) + 1)) r) → (p xs[i] = false → r = false) → EV (fun k => g k (i : Int)) r)
    (hf : EV (fun k => g k (xs.length : Int)) fin) : EV (fun k => g k 0) (xs.all p && fin) := by
  suffices h : ∀ (n i : Nat), i + n = xs.length → EV (fun k => g k (i : Int)) ((xs.drop i).all p && fin) by
    have := h xs.length 0 (by omega)
    simpa using this
  intro n
  induction n with
  | zero =>
    intro i hi
    have e : i = xs.length := by omega
    subst e
    simpa using hf
  | succ n ih =>
    intro i hi
    have hlt : i < xs.length := by omega
    have e : xs.drop i = xs[i] :: xs.drop (i + 1) := List.drop_eq_getElem_cons hlt
    rw [e, List.all_cons]
    refine hs i hlt _ (fun hp => ?_) (fun hp => by simp [hp])
    rw [hp, Bool.true_and]
    exact_mod_cast ih (i + 1) (by omega)
/-- a fold over the members -/
theorem EV.fold {α σ ρ : Type} {g : Nat → σ → Int → Option ρ} (xs : List α) (f : σ → α → σ) (fin : σ → ρ) (I : Nat → σ → Prop)
    (hs : ∀ (i : Nat) (h : i < xs.length) (s : σ) (r : ρ), I i s → (I (i + 1) (f s xs[i]) → EV (fun k => g k (f s xs[i]) ((i : Int) + 1)) r) → EV (fun k => g k s (i : Int)) r)
    (hf : ∀ s, I xs.length s → EV (fun k => g k s (xs.length : Int)) (fin s)) : ∀ s, I 0 s → EV (fun k => g k s 0) (fin (xs.foldl f s)) := by
  suffices h : ∀ (n i : Nat), i + n = xs.length → ∀ s, I i s → EV (fun k => g k s (i : Int)) (fin ((xs.drop i).foldl f s)) by
    intro s hI
    have := h xs.length 0 (by omega) s hI
    simpa using this
  intro n
  induction n with
  | zero =>
    intro i hi s hI
    have e : i = xs.length := by omega
    subst e
    simpa using hf s hI
  | succ n ih =>
    intro i hi s hI
    have hlt : i < xs.length := by omega
    have e : xs.drop i = xs[i] :: xs.drop (i + 1) := List.drop_eq_getElem_cons hlt
    rw [e, List.foldl_cons]
    refine hs i hlt s _ hI (fun hI' => ?_)
    exact_mod_cast ih (i + 1) (by omega) _ hI'
/-- counting up to n, the state told by the count -/
theorem EV.count {σ ρ : Type} {g : Nat → σ → Int → Option ρ} (n : Nat) (f : Nat → σ) (r : ρ)
    (hs : ∀ i, i < n → EV (fun k => g k (f (i + 1)) ((i : Int) + 1)) r → EV (fun k => g k (f i) (i : Int)) r)
    (hf : EV (fun k => g k (f n) (n : Int)) r) : EV (fun k => g k (f 0) 0) r := by
  suffices h : ∀ (m i : Nat), i + m = n → EV (fun k => g k (f i) (i : Int)) r by exact h n 0 (by omega)
  intro m
  induction m with
  | zero => intro i hi; have : i = n := by omega
            subst this; exact hf
  | succ m ih => intro i hi; exact hs i (by omega) (by exact_mod_cast ih (i + 1) (by omega))
/-- counting up to n with an early answer, into what comes behind -/
theorem EV.countC {ρ : Type} {g : Nat → Int → Option ρ} (n : Nat) (p : Nat → Bool) (r early : ρ)
    (hs : ∀ i, i < n → (p i = true → EV (fun k => g k ((i : Int) + 1)) r) → (p i = false → r = early) → EV (fun k => g k (i : Int)) r)
    (hf : (List.range n).all p = true → EV (fun k => g k (n : Int)) r) (he : (List.range n).all p = false → r = early) : EV (fun k => g k 0) r := by
  suffices h : ∀ (m i : Nat), i + m = n → (∀ j, j < i → p j = true) → EV (fun k => g k (i : Int)) r by exact h n 0 (by omega) (fun j hj => by omega)
  intro m
  induction m with
  | zero =>
    intro i hi ha
    have : i = n := by omega
    subst this
    exact hf (by rw [List.all_eq_true]; intro x hx; exact ha x (List.mem_range.1 hx))
  | succ m ih =>
    intro i hi ha
    refine hs i (by omega) (fun hp => ?_) (fun hp => he ?_)
    · have := ih (i + 1) (by omega) (fun j hj => by
        by_cases e : j = i
        · rw [e]; exact hp
        · exact ha j (by omega))
      exact_mod_cast this
    · rw [List.all_eq_false]
      exact ⟨i, List.mem_range.2 (by omega), by simp [hp]⟩
/-- looking at each member with an early answer, into what comes behind -/
theorem EV.scanC {α ρ : Type} {g : Nat → Int → Option ρ} (xs : List α) (p : α → Bool) (r early : ρ)
    (hs : ∀ (i : Nat) (h : i < xs.length), (p xs[i] = true → EV (fun k => g k ((i : Int) + 1)) r) → (p xs[i] = false → r = early) → EV (fun k => g k (i : Int)) r)
    (hf : xs.all p = true → EV (fun k => g k (xs.length : Int)) r) (he : xs.all p = false → r = early) : EV (fun k => g k 0) r := by
  have e : xs.all p = (List.range xs.length).all (fun i => (xs[i]?.map p).getD true) := by
    rw [Bool.eq_iff_iff, List.all_eq_true, List.all_eq_true]
    constructor
    · intro h i hi
      have := List.mem_range.1 hi
      simpa [this] using h _ (List.getElem_mem this)
    · intro h x hx
      obtain ⟨i, hi, rfl⟩ := List.mem_iff_getElem.1 hx
      have := h i (List.mem_range.2 hi)
      simpa [hi] using this
  rw [e] at hf he
  refine EV.countC xs.length _ r early (fun i hi H1 H2 => ?_) hf he
  exact hs i hi (fun h => H1 (by simpa [hi] using h)) (fun h => H2 (by simpa [hi] using h))
/-- a fold over the members, into what comes behind -/
theorem EV.foldC {α σ ρ : Type} {g : Nat → σ → Int → Option ρ} (xs : List α) (f : σ → α → σ) (I : Nat → σ → Prop) (r : ρ)
    (hs : ∀ (i : Nat) (h : i < xs.length) (s : σ), I i s → (I (i + 1) (f s xs[i]) → EV (fun k => g k (f s xs[i]) ((i : Int) + 1)) r) → EV (fun k => g k s (i : Int)) r)
    (s : σ) (hI : I 0 s) (hf : I xs.length (xs.foldl f s) → EV (fun k => g k (xs.foldl f s) (xs.length : Int)) r) : EV (fun k => g k s 0) r := by
  suffices h : ∀ (n i : Nat), i + n = xs.length → ∀ s, I i s → (I xs.length ((xs.drop i).foldl f s) → EV (fun k => g k ((xs.drop i).foldl f s) (xs.length : Int)) r) → EV (fun k => g k s (i : Int)) r by
    have := h xs.length 0 (by omega) s hI (by simpa using hf)
    simpa using this
  intro n
  induction n with
  | zero =>
    intro i hi s hI hf
    have e : i = xs.length := by omega
    subst e
    simpa using hf (by simpa using hI)
  | succ n ih =>
    intro i hi s hI hf
    have hlt : i < xs.length := by omega
    have e : xs.drop i = xs[i] :: xs.drop (i + 1) := List.drop_eq_getElem_cons hlt
    rw [e, List.foldl_cons] at hf
    refine hs i hlt s hI (fun hI' => ?_)
    exact_mod_cast ih (i + 1) (by omega) _ hI' hf

def letterB (x : Int) : Bool := decide (-8 ≤ x ∧ x ≤ 8 ∧ x ≠ 0)
def wordB (xs : List Int) : Bool := xs.all letterB && decide (xs.length ≤ 24)
theorem letterB_of {x : Int} (h : letterB x = true) : -8 ≤ x ∧ x ≤ 8 ∧ x ≠ 0 := by simpa [letterB] using h
theorem wordB_of {xs : List Int} (h : wordB xs = true) : (∀ x ∈ xs, letterB x = true) ∧ xs.length ≤ 24 := by simpa [wordB] using h
def leB (m : Int) (x : Int) : Bool := decide ((x.natAbs : Int) ≤ m)
def hasB (m : Int) (xs : List Int) : Bool := xs.all (leB m) && wordB xs
def fitsB (g : Int) (xs : List Int) : Bool := decide (1 ≤ g ∧ g ≤ 2) && hasB (2 * g) xs
theorem all_getElem {α : Type} {p : α → Bool} {xs : List α} (h : ∀ x ∈ xs, p x = true) (i : Nat) (hi : i < xs.length) : p xs[i] = true := h _ (List.getElem_mem hi)
/-- one letter counted -/
def addL (v : List Int) (x : Int) : List Int := v.set (x.natAbs - 1) (if 0 < x then v.getD (x.natAbs - 1) 0 + 1 else v.getD (x.natAbs - 1) 0 - 1)
def sumsM (xs : List Int) : List Int := xs.foldl addL (List.replicate 8 0)
def sumsI (i : Nat) (v : List Int) : Prop := v.length = 8 ∧ ∀ j, (v.getD j 0).natAbs ≤ i
theorem sumsI_zero : sumsI 0 (List.replicate 8 0) := by
  refine ⟨rfl, fun j => ?_⟩
  rw [List.getD_eq_getElem?_getD, List.getElem?_replicate]
  split <;> simp
theorem sumsI_next {i : Nat} {v : List Int} (h : sumsI i v) (x : Int) : sumsI (i + 1) (addL v x) := by
  refine ⟨by simp [addL, h.1], fun j => ?_⟩
  have h1 := h.2 j
  have h2 := h.2 (x.natAbs - 1)
  unfold addL
  rw [List.getD_eq_getElem?_getD, List.getElem?_set]
  split
  · split
    · simp only [Option.getD_some]; split <;> omega
    · simp
  · rw [← List.getD_eq_getElem?_getD]; omega
theorem sumsM_len (xs : List Int) : (sumsM xs).length = 8 := by
  suffices h : ∀ (v : List Int), (xs.foldl addL v).length = v.length by rw [sumsM, h]; rfl
  induction xs with
  | nil => intro v; rfl
  | cons x xs ih => intro v; rw [List.foldl_cons, ih]; simp [addL]
theorem fitsB_of {g : Int} {xs : List Int} (h : fitsB g xs = true) : 1 ≤ g ∧ g ≤ 2 ∧ wordB xs = true := by
  simp only [fitsB, hasB, Bool.and_eq_true, decide_eq_true_iff] at h; exact ⟨h.1.1, h.1.2, h.2.2⟩

theorem rdL_nat (xs : List (List Int)) (i : Nat) (h : i < xs.length) : rd_L2 xs (i : Int) = xs[i] := by
  simp [rd_L2, h]

def redStep (s : List Int) (x : Int) : List Int := if 0 < s.length ∧ s.getD (s.length - 1) 0 = -x then s.take (s.length - 1) else s ++ [x]
def redM (w : List Int) : List Int := w.foldl redStep []
def RedP (s : List Int) : Prop := ∀ i, i + 1 < s.length → s.getD i 0 ≠ -(s.getD (i + 1) 0)
theorem getD_take (s : List Int) (n i : Nat) (h : i < n) : (s.take n).getD i 0 = s.getD i 0 := by
  simp [List.getD_eq_getElem?_getD, List.getElem?_take, h]
theorem getD_app1 (s : List Int) (x : Int) (i : Nat) (h : i < s.length) : (s ++ [x]).getD i 0 = s.getD i 0 := by
  simp [List.getD_eq_getElem?_getD, List.getElem?_append_left h]
theorem getD_app2 (s : List Int) (x : Int) : (s ++ [x]).getD s.length 0 = x := by simp
theorem redStep_red {s : List Int} (h : RedP s) (x : Int) : RedP (redStep s x) := by
  unfold redStep
  split
  · intro i hi
    rw [List.length_take] at hi
    rw [getD_take _ _ _ (by omega), getD_take _ _ _ (by omega)]
    exact h i (by omega)
  · rename_i hc
    intro i hi
    rw [List.length_append, List.length_singleton] at hi
    rw [getD_app1 _ _ _ (by omega)]
    by_cases e : i + 1 = s.length
    · rw [e, getD_app2]
      intro c
      exact hc ⟨by omega, by rw [show s.length - 1 = i by omega]; exact c⟩
    · rw [getD_app1 _ _ _ (by omega)]
      exact h i (by omega)
theorem redM_red (w : List Int) : RedP (redM w) := by
  suffices h : ∀ s, RedP s → RedP (w.foldl redStep s) by exact h [] (fun i hi => by simp at hi)
  induction w with
  | nil => intro s h; exact h
  | cons x w ih => intro s h; exact ih _ (redStep_red h x)
theorem redM_id {s : List Int} (h : RedP s) : redM s = s := by
  suffices hh : ∀ n, n ≤ s.length → redM (s.take n) = s.take n by
    have := hh s.length (Nat.le_refl _)
    rwa [List.take_length] at this
  intro n
  induction n with
  | zero => intro _; simp [redM]
  | succ n ih =>
    intro hn
    have hlt : n < s.length := by omega
    have ih := ih (by omega)
    rw [List.take_succ_eq_append_getElem hlt]
    unfold redM at ih ⊢
    rw [List.foldl_append, ih, List.foldl_cons, List.foldl_nil, redStep, if_neg]
    rintro ⟨h1, h2⟩
    rw [List.length_take] at h1 h2
    have e : min n s.length - 1 = n - 1 := by omega
    rw [e, getD_take _ _ _ (by omega)] at h2
    have := h (n - 1) (by omega)
    rw [show n - 1 + 1 = n by omega, List.getD_eq_getElem?_getD (i := n), List.getElem?_eq_getElem hlt, Option.getD_some] at this
    exact this h2
theorem redStep_mem {p : Int → Prop} {s : List Int} {x : Int} (h : ∀ y ∈ s, p y) (hx : p x) : ∀ y ∈ redStep s x, p y := by
  unfold redStep
  intro y hy
  split at hy
  · exact h y (List.mem_of_mem_take hy)
  · rcases List.mem_append.1 hy with h' | h'
    · exact h y h'
    · rw [List.mem_singleton.1 h']; exact hx
theorem redStep_len (s : List Int) (x : Int) : (redStep s x).length ≤ s.length + 1 := by
  unfold redStep
  split
  · rw [List.length_take]; omega
  · simp
theorem redM_mem {p : Int → Prop} {w : List Int} (h : ∀ y ∈ w, p y) : ∀ y ∈ redM w, p y := by
  suffices hh : ∀ s, (∀ y ∈ s, p y) → ∀ y ∈ w.foldl redStep s, p y by exact hh [] (by simp)
  induction w with
  | nil => intro s hs; exact hs
  | cons x w ih => intro s hs; exact ih (fun y hy => h y (by simp [hy])) _ (redStep_mem hs (h x (by simp)))
theorem redM_len (w : List Int) : (redM w).length ≤ w.length := by
  suffices hh : ∀ s, (w.foldl redStep s).length ≤ s.length + w.length by have := hh []; simpa [redM] using this
  induction w with
  | nil => intro s; simp
  | cons x w ih => intro s; have := ih (redStep s x); have := redStep_len s x; simp only [List.foldl_cons, List.length_cons]; omega
def invW (w : List Int) : List Int := w.reverse.map fun x => -x
theorem invW_len (w : List Int) : (invW w).length = w.length := by simp [invW]
theorem invW_mem {p : Int → Prop} {w : List Int} (hp : ∀ x, p x → p (-x)) (h : ∀ y ∈ w, p y) : ∀ y ∈ invW w, p y := by
  intro y hy
  simp only [invW, List.mem_map, List.mem_reverse] at hy
  obtain ⟨x, hx, rfl⟩ := hy
  exact hp x (h x hx)
theorem invW_get (w : List Int) (i : Nat) (h : i < w.length) : (invW w)[i]'(by rw [invW_len]; exact h) = -(w[w.length - 1 - i]'(by omega)) := by
  simp [invW]
def turnM (w : List Int) (k : Nat) : List Int := w.drop k ++ w.take k
theorem turnM_len (w : List Int) (k : Nat) (h : k ≤ w.length) : (turnM w k).length = w.length := by simp [turnM]; omega
theorem turnM_get (w : List Int) (k i : Nat) (hk : k < w.length) (hi : i < w.length) : (turnM w k)[i]'(by rw [turnM_len _ _ (by omega)]; exact hi) = w[(k + i) % w.length]'(Nat.mod_lt _ (by omega)) := by
  simp only [turnM]
  rw [List.getElem_append]
  split
  · rename_i h
    rw [List.length_drop] at h
    rw [List.getElem_drop]
    congr 1
    rw [Nat.mod_eq_of_lt (by omega)]
  · rename_i h
    rw [List.length_drop] at h
    rw [List.getElem_take]
    congr 1
    rw [List.length_drop]
    have : k + i = (k + i - w.length) + w.length := by omega
    rw [this, Nat.add_mod_right, Nat.mod_eq_of_lt (by omega)]; omega
/-- the length of the common start -/
def lcpM : List Int → List Int → Nat
  | a :: u, b :: v => if a = b then lcpM u v + 1 else 0
  | _, _ => 0
theorem lcpM_le1 : ∀ (u v : List Int), lcpM u v ≤ u.length
  | [], _ => by simp [lcpM]
  | _ :: _, [] => by simp [lcpM]
  | a :: u, b :: v => by
    have := lcpM_le1 u v
    simp only [lcpM, List.length_cons]; split <;> omega
theorem lcpM_le2 : ∀ (u v : List Int), lcpM u v ≤ v.length
  | [], _ => by simp [lcpM]
  | _ :: _, [] => by simp [lcpM]
  | a :: u, b :: v => by
    have := lcpM_le2 u v
    simp only [lcpM, List.length_cons]; split <;> omega
/-- the relator and its inverse, each from each of its letters on -/
def pairsM (R : List Int) : List (List Int × Nat) := (List.range R.length).map (fun j => (R, j)) ++ (List.range R.length).map (fun j => (invW R, j))
def updM (u : List Int) (s : Nat × List Int) (c : List Int × Nat) : Nat × List Int :=
  if s.1 < lcpM u (turnM c.1 c.2) then (lcpM u (turnM c.1 c.2), (turnM c.1 c.2).drop (lcpM u (turnM c.1 c.2))) else s
def bestM (u : List Int) (b : Nat) (cs : List (List Int × Nat)) : Nat × List Int := cs.foldl (updM u) (b, [])
/-- a start from a higher bar finds the same, if anything -/
theorem best_rel (u : List Int) (m : Nat) : ∀ (cs : List (List Int × Nat)) (s t : Nat × List Int), t.1 = max s.1 m → (m < s.1 → t.2 = s.2) →
    (cs.foldl (updM u) t).1 = max (cs.foldl (updM u) s).1 m ∧ (m < (cs.foldl (updM u) s).1 → (cs.foldl (updM u) t).2 = (cs.foldl (updM u) s).2)
  | [], s, t, h1, h2 => ⟨h1, h2⟩
  | c :: cs, s, t, h1, h2 => by
    rw [List.foldl_cons, List.foldl_cons]
    apply best_rel u m cs
    · unfold updM
      split <;> split <;> first | omega | (simp only; omega)
    · unfold updM
      split
      · split
        · intro _; rfl
        · simp only; intro; omega
      · split
        · simp only; intro h; omega
        · exact h2
theorem bestM_of (u : List Int) (m : Nat) (cs : List (List Int × Nat)) : (m < (bestM u 0 cs).1 ↔ m < (bestM u m cs).1) ∧ (m < (bestM u 0 cs).1 → bestM u m cs = bestM u 0 cs) := by
  have := best_rel u m cs (0, []) (m, []) (by simp) (by simp)
  unfold bestM
  refine ⟨by omega, fun h => ?_⟩
  exact Prod.ext (by omega) (this.2 h)
theorem bestM_I (u : List Int) (n : Nat) : ∀ (cs : List (List Int × Nat)) (s : Nat × List Int), (∀ c ∈ cs, c.1.length = n ∧ c.2 ≤ n) → s.1 ≤ u.length → (s.2.length + s.1 = n ∨ s.2 = []) → (cs.foldl (updM u) s).1 ≤ u.length ∧ ((cs.foldl (updM u) s).2.length + (cs.foldl (updM u) s).1 = n ∨ (cs.foldl (updM u) s).2 = [])
  | [], s, _, h1, h2 => ⟨h1, h2⟩
  | c :: cs, s, hc, h1, h2 => by
    rw [List.foldl_cons]
    have hc0 := hc c (by simp)
    have a := lcpM_le1 u (turnM c.1 c.2)
    have b := lcpM_le2 u (turnM c.1 c.2)
    have hl := turnM_len c.1 c.2 (by omega)
    apply bestM_I u n cs _ (fun c' h' => hc c' (by simp [h']))
    · unfold updM; split
      · exact a
      · exact h1
    · unfold updM; split
      · left; simp only [List.length_drop]; omega
      · exact h2
theorem best_mem {p : Int → Prop} (u : List Int) : ∀ (cs : List (List Int × Nat)) (s : Nat × List Int), (∀ c ∈ cs, ∀ x ∈ c.1, p x) → (∀ x ∈ s.2, p x) → ∀ x ∈ (cs.foldl (updM u) s).2, p x
  | [], s, _, h => h
  | c :: cs, s, hc, h => by
    rw [List.foldl_cons]
    apply best_mem u cs _ (fun c' h' => hc c' (by simp [h']))
    unfold updM; split
    · intro x hx
      have hx := List.mem_of_mem_drop hx
      simp only [turnM, List.mem_append] at hx
      rcases hx with h' | h'
      · exact hc c (by simp) x (List.mem_of_mem_drop h')
      · exact hc c (by simp) x (List.mem_of_mem_take h')
    · exact h
def relG (g : Int) : List Int := if g = 1 then [1, 2, -1, -2] else [1, 2, -1, -2, 3, 4, -3, -4]
def bestAt (g : Int) (w : List Int) (i : Nat) : Nat × List Int := bestM (w.drop i) 0 (pairsM (relG g))
def cutM (w : List Int) (i : Nat) (b : Nat × List Int) : List Int := redM (w.take i ++ invW b.2 ++ w.drop (i + b.1))
def stepFrom (g : Int) (w : List Int) : Nat → Nat → List Int × Bool
  | 0, _ => ([], false)
  | n + 1, i => if 2 * g < (bestAt g w i).1 then (cutM w i (bestAt g w i), true) else stepFrom g w n (i + 1)
def dstepM (g : Int) (w : List Int) : List Int × Bool := stepFrom g w w.length 0
def dehnF (g : Int) : Nat → List Int → List Int
  | 0, w => w
  | n + 1, w => if (dstepM g w).2 = true then dehnF g n (dstepM g w).1 else w
def dehnM (g : Int) (w : List Int) : List Int := dehnF g (redM w).length (redM w)
def okL (g : Int) (x : Int) : Prop := letterB x = true ∧ (x.natAbs : Int) ≤ 2 * g
theorem okL_neg {g x : Int} (h : okL g x) : okL g (-x) := by
  have := letterB_of h.1
  refine ⟨by simp [letterB]; omega, by have := h.2; omega⟩
theorem relG_ok {g : Int} (hg : g = 1 ∨ g = 2) : (relG g).length = (4 * g).toNat ∧ ∀ x ∈ relG g, okL g x := by
  rcases hg with rfl | rfl
  · refine ⟨rfl, ?_⟩
    intro x hx
    simp [relG] at hx
    rcases hx with rfl | rfl | rfl | rfl <;> exact ⟨rfl, by decide⟩
  · refine ⟨rfl, ?_⟩
    intro x hx
    simp [relG] at hx
    rcases hx with rfl | rfl | rfl | rfl | rfl | rfl | rfl | rfl <;> exact ⟨rfl, by decide⟩
theorem pairs_ok {g : Int} (hg : g = 1 ∨ g = 2) : (∀ c ∈ pairsM (relG g), c.1.length = (4 * g).toNat ∧ c.2 < (4 * g).toNat) ∧ ∀ c ∈ pairsM (relG g), ∀ x ∈ c.1, okL g x := by
  have r := relG_ok hg
  constructor
  · intro c hc
    simp only [pairsM, List.mem_append, List.mem_map, List.mem_range] at hc
    rcases hc with ⟨j, hj, rfl⟩ | ⟨j, hj, rfl⟩
    · exact ⟨r.1, by omega⟩
    · exact ⟨by simp only [invW_len]; exact r.1, by omega⟩
  · intro c hc
    simp only [pairsM, List.mem_append, List.mem_map, List.mem_range] at hc
    rcases hc with ⟨j, hj, rfl⟩ | ⟨j, hj, rfl⟩
    · exact r.2
    · exact invW_mem (fun x hx => okL_neg hx) r.2
def okW (g : Int) (w : List Int) : Prop := (g = 1 ∨ g = 2) ∧ (∀ x ∈ w, okL g x) ∧ w.length ≤ 24
theorem fits_ok {g : Int} {w : List Int} (h : fitsB g w = true) : okW g w := by
  simp only [fitsB, hasB, Bool.and_eq_true, decide_eq_true_iff, List.all_eq_true, leB] at h
  have a := wordB_of h.2.2
  exact ⟨by omega, fun x hx => ⟨a.1 x hx, h.2.1 x hx⟩, a.2⟩
theorem ok_fits {g : Int} {w : List Int} (h : okW g w) : fitsB g w = true := by
  simp only [fitsB, hasB, wordB, Bool.and_eq_true, decide_eq_true_iff, List.all_eq_true, leB]
  exact ⟨by have := h.1; omega, fun x hx => (h.2.1 x hx).2, fun x hx => (h.2.1 x hx).1, h.2.2⟩
theorem red_ok {g : Int} {w : List Int} (h : okW g w) : okW g (redM w) := ⟨h.1, redM_mem h.2.1, by have := redM_len w; have := h.2.2; omega⟩
theorem bestAt_I {g : Int} (hg : g = 1 ∨ g = 2) (w : List Int) (i : Nat) : (bestAt g w i).1 ≤ w.length - i ∧ ((bestAt g w i).2.length + (bestAt g w i).1 = (4 * g).toNat ∨ (bestAt g w i).2 = []) ∧ ∀ x ∈ (bestAt g w i).2, okL g x := by
  have p := pairs_ok hg
  have := bestM_I (w.drop i) (4 * g).toNat (pairsM (relG g)) (0, []) (fun c hc => ⟨(p.1 c hc).1, by have := (p.1 c hc).2; omega⟩) (by simp) (Or.inr rfl)
  rw [List.length_drop] at this
  exact ⟨this.1, this.2, best_mem _ _ _ p.2 (by simp)⟩
theorem cut_ok {g : Int} {w : List Int} (h : okW g w) (i : Nat) (hi : i < w.length) (hb : 2 * g < (bestAt g w i).1) : okW g (cutM w i (bestAt g w i)) ∧ RedP (cutM w i (bestAt g w i)) ∧ (cutM w i (bestAt g w i)).length < w.length := by
  have b := bestAt_I h.1 w i
  have hl : (w.take i ++ invW (bestAt g w i).2 ++ w.drop (i + (bestAt g w i).1)).length < w.length := by
    simp only [List.length_append, List.length_take, List.length_drop, invW_len]
    have := h.1
    rcases b.2.1 with e | e
    · omega
    · rw [e]; simp only [List.length_nil]; omega
  have hr := redM_len (w.take i ++ invW (bestAt g w i).2 ++ w.drop (i + (bestAt g w i).1))
  refine ⟨⟨h.1, redM_mem ?_, by unfold cutM; have := h.2.2; omega⟩, redM_red _, by unfold cutM; omega⟩
  intro x hx
  rw [List.append_assoc, List.mem_append, List.mem_append] at hx
  rcases hx with h' | h' | h'
  · exact h.2.1 x (List.mem_of_mem_take h')
  · exact invW_mem (fun x hx => okL_neg hx) b.2.2 x h'
  · exact h.2.1 x (List.mem_of_mem_drop h')
theorem stepFrom_ok {g : Int} {w : List Int} (h : okW g w) : ∀ (n i : Nat), i + n = w.length → (stepFrom g w n i).2 = true → okW g (stepFrom g w n i).1 ∧ RedP (stepFrom g w n i).1 ∧ (stepFrom g w n i).1.length < w.length
  | 0, i, _, hb => by simp [stepFrom] at hb
  | n + 1, i, hi, hb => by
    unfold stepFrom at hb ⊢
    by_cases c : 2 * g < (bestAt g w i).1
    · rw [if_pos c] at hb ⊢
      exact cut_ok h i (by omega) c
    · rw [if_neg c] at hb ⊢
      exact stepFrom_ok h n (i + 1) (by omega) hb
theorem stepFrom_len {g : Int} {w : List Int} (h : okW g w) : ∀ (n i : Nat), i + n = w.length → (stepFrom g w n i).1.length ≤ 24
  | 0, i, _ => by simp [stepFrom]
  | n + 1, i, hi => by
    unfold stepFrom
    by_cases c : 2 * g < (bestAt g w i).1
    · rw [if_pos c]
      exact (cut_ok h i (by omega) c).1.2.2
    · rw [if_neg c]
      exact stepFrom_len h n (i + 1) (by omega)
theorem dehnF_len {g : Int} : ∀ (n : Nat) (w : List Int), okW g w → (dehnF g n w).length ≤ 24
  | 0, w, h => h.2.2
  | n + 1, w, h => by
    unfold dehnF
    split
    · rename_i hb; exact dehnF_len n _ (stepFrom_ok h _ _ (by omega) hb).1
    · exact h.2.2

def trivM (g : Int) (w : List Int) : Bool := if g = 2 then ((dehnM g w).length : Int) == 0 else (sumsM w).all fun v => decide (v = 0)
def sumsT (w : List Int) (i : Nat) : List Int := (w.take i).foldl addL (List.replicate 8 0)
theorem sumsT_succ (w : List Int) (i : Nat) (h : i < w.length) : sumsT w (i + 1) = addL (sumsT w i) w[i] := by
  unfold sumsT
  rw [List.take_succ_eq_append_getElem h, List.foldl_append]; rfl
theorem sumsT_I (w : List Int) (hw : ∀ x ∈ w, okL 1 x) : ∀ i, i ≤ w.length → sumsI i (sumsT w i) ∧ ∀ j, 2 ≤ j → (sumsT w i).getD j 0 = 0
  | 0, _ => by
    refine ⟨sumsI_zero, fun j hj => ?_⟩
    show (List.replicate 8 (0 : Int)).getD j 0 = 0
    rw [List.getD_eq_getElem?_getD, List.getElem?_replicate]; split <;> rfl
  | i + 1, h => by
    have ih := sumsT_I w hw i (by omega)
    have hi : i < w.length := by omega
    have hx := hw _ (List.getElem_mem hi)
    have hl := letterB_of hx.1
    rw [sumsT_succ w i hi]
    refine ⟨sumsI_next ih.1 _, fun j hj => ?_⟩
    unfold addL
    have := hx.2
    rw [List.getD_eq_getElem?_getD, List.getElem?_set_ne (by omega), ← List.getD_eq_getElem?_getD]
    exact ih.2 j hj
def eqM (g : Int) (x y : List Int) : Bool := fitsB g x && (fitsB g y && (decide (x.length + y.length ≤ 24) && trivM g (x ++ invW y)))
theorem ok_app {g : Int} {x y : List Int} (hx : okW g x) (hy : okW g y) (h : x.length + y.length ≤ 24) : okW g (x ++ y) := by
  refine ⟨hx.1, fun z hz => ?_, by simpa using h⟩
  rcases List.mem_append.1 hz with h' | h'
  · exact hx.2.1 z h'
  · exact hy.2.1 z h'
theorem ok_inv {g : Int} {x : List Int} (hx : okW g x) : okW g (invW x) := ⟨hx.1, invW_mem (fun y hy => okL_neg hy) hx.2.1, by rw [invW_len]; exact hx.2.2⟩

/-! ### the group of the surface of genus two acts on polynomial pairs: a word without cancellation and without five letters of the relator in a row is not trivial -/
/-- the four letters of one handle, as matrices of determinant 1 on pairs -/
def gm (x : Int) (v : Int × Int) : Int × Int :=
  if x = 1 then (3 * v.1 + v.2, -v.1) else if x = -1 then (-v.2, v.1 + 3 * v.2) else if x = 2 then (2 * v.1 + v.2, v.1 + v.2) else (v.1 - v.2, -v.1 + 2 * v.2)
def y4 (x : Int) : Prop := x = 1 ∨ x = -1 ∨ x = 2 ∨ x = -2
def gw (g : List Int) (v : Int × Int) : Int × Int := g.foldr gm v
def cone (x : Int) (v : Int × Int) : Prop :=
  if x = 2 then (0 < v.1 ∧ 0 < v.2) ∨ (v.1 < 0 ∧ v.2 < 0)
  else if x = 1 then (0 < v.2 ∧ v.1 + v.2 < 0) ∨ (v.2 < 0 ∧ 0 < v.1 + v.2)
  else if x = -2 then (0 < v.2 ∧ 0 < v.1 + v.2 ∧ 2 * v.1 + v.2 < 0) ∨ (v.2 < 0 ∧ v.1 + v.2 < 0 ∧ 0 < 2 * v.1 + v.2)
  else (0 < v.2 ∧ 0 < 2 * v.1 + v.2 ∧ v.1 < 0) ∨ (v.2 < 0 ∧ 2 * v.1 + v.2 < 0 ∧ 0 < v.1)
theorem cone_step {x y : Int} (hx : y4 x) (hy : y4 y) (h : x ≠ -y) {v : Int × Int} (hv : cone y v) : cone x (gm x v) := by
  rcases hx with rfl | rfl | rfl | rfl <;> rcases hy with rfl | rfl | rfl | rfl <;> first | exact absurd rfl h | (simp [cone, gm] at hv ⊢; omega)
theorem cone_ne {x : Int} {v : Int × Int} (hv : cone x v) : v.2 ≠ 0 := by
  unfold cone at hv
  split at hv
  · omega
  · split at hv
    · omega
    · split at hv <;> omega
/-- no letter stands beside its inverse -/
def Rd : List Int → Prop
  | [] => True
  | [_] => True
  | x :: y :: r => x ≠ -y ∧ Rd (y :: r)
theorem Rd.tail {x : Int} {r : List Int} (h : Rd (x :: r)) : Rd r := by
  cases r with
  | nil => trivial
  | cons y r => exact h.2
/-- the letters of the boundary word's powers, from the right -/
def lp (e : Bool) (n : Nat) : Int := if e = true then (if n % 4 = 0 then -2 else if n % 4 = 1 then -1 else if n % 4 = 2 then 2 else 1) else (if n % 4 = 0 then -1 else if n % 4 = 1 then -2 else if n % 4 = 2 then 1 else 2)
def per (e : Bool) : Nat → List Int
  | 0 => []
  | n + 1 => lp e n :: per e n
def vp (e : Bool) (n : Nat) : Int × Int := if n % 4 = 0 then (1, 0) else if n % 4 = 2 then (1, -2) else if (n % 4 = 1 ↔ e = true) then (1, -1) else (0, 1)
def vtx (e : Bool) (n : Nat) (v : Int × Int) : Prop := v = vp e n ∨ v = (-(vp e n).1, -(vp e n).2)
theorem lp_y4 (e : Bool) (n : Nat) : y4 (lp e n) := by
  unfold lp y4
  split <;> (split <;> (try split) <;> (try split)) <;> simp
theorem vtx_next (e : Bool) (n : Nat) {v : Int × Int} (h : vtx e n v) : vtx e (n + 1) (gm (lp e n) v) := by
  have hn : n % 4 = 0 ∨ n % 4 = 1 ∨ n % 4 = 2 ∨ n % 4 = 3 := by omega
  rcases hn with hn | hn | hn | hn
  · have h1 : (n + 1) % 4 = 1 := by omega
    cases e <;> rcases h with rfl | rfl <;> simp [vtx, vp, lp, gm, hn, h1]
  · have h1 : (n + 1) % 4 = 2 := by omega
    cases e <;> rcases h with rfl | rfl <;> simp [vtx, vp, lp, gm, hn, h1]
  · have h1 : (n + 1) % 4 = 3 := by omega
    cases e <;> rcases h with rfl | rfl <;> simp [vtx, vp, lp, gm, hn, h1]
  · have h1 : (n + 1) % 4 = 0 := by omega
    cases e <;> rcases h with rfl | rfl <;> simp [vtx, vp, lp, gm, hn, h1]
theorem vtx_off (e : Bool) (m : Nat) {v : Int × Int} (h : vtx e (m + 1) v) {x : Int} (hx : y4 x) (h1 : x ≠ -(lp e m)) (h2 : x ≠ lp e (m + 1)) : cone x (gm x v) := by
  have hn : m % 4 = 0 ∨ m % 4 = 1 ∨ m % 4 = 2 ∨ m % 4 = 3 := by omega
  rcases hn with hn | hn | hn | hn
  · have k1 : (m + 1) % 4 = 1 := by omega
    cases e <;> rcases hx with rfl | rfl | rfl | rfl <;> simp [lp, hn, k1] at h1 h2 <;> rcases h with rfl | rfl <;> simp [vp, gm, cone, k1]
  · have k1 : (m + 1) % 4 = 2 := by omega
    cases e <;> rcases hx with rfl | rfl | rfl | rfl <;> simp [lp, hn, k1] at h1 h2 <;> rcases h with rfl | rfl <;> simp [vp, gm, cone, k1]
  · have k1 : (m + 1) % 4 = 3 := by omega
    cases e <;> rcases hx with rfl | rfl | rfl | rfl <;> simp [lp, hn, k1] at h1 h2 <;> rcases h with rfl | rfl <;> simp [vp, gm, cone, k1]
  · have k1 : (m + 1) % 4 = 0 := by omega
    cases e <;> rcases hx with rfl | rfl | rfl | rfl <;> simp [lp, hn, k1] at h1 h2 <;> rcases h with rfl | rfl <;> simp [vp, gm, cone, k1]
theorem gw_state : ∀ g : List Int, (∀ x ∈ g, y4 x) → Rd g → (∃ e n, g = per e n ∧ vtx e n (gw g (1, 0))) ∨ (∃ x r, g = x :: r ∧ cone x (gw g (1, 0))) := by
  intro g
  induction g with
  | nil => intro _ _; exact .inl ⟨true, 0, rfl, .inl rfl⟩
  | cons x g ih =>
    intro hy hr
    have hx := hy x List.mem_cons_self
    rcases ih (fun y h => hy y (List.mem_cons_of_mem _ h)) hr.tail with ⟨e, n, rfl, hv⟩ | ⟨y, r, rfl, hv⟩
    · cases n with
      | zero =>
        have e0 : gw (per e 0) (1, 0) = (1, 0) := rfl
        rcases hx with rfl | rfl | rfl | rfl
        · exact .inr ⟨_, _, rfl, by show cone 1 (gm 1 (gw (per e 0) (1, 0))); rw [e0]; simp [cone, gm]⟩
        · exact .inl ⟨false, 1, rfl, by show vtx false 1 (gm (-1) (gw (per e 0) (1, 0))); rw [e0]; simp [vtx, vp, gm]⟩
        · exact .inr ⟨_, _, rfl, by show cone 2 (gm 2 (gw (per e 0) (1, 0))); rw [e0]; simp [cone, gm]⟩
        · exact .inl ⟨true, 1, rfl, by show vtx true 1 (gm (-2) (gw (per e 0) (1, 0))); rw [e0]; simp [vtx, vp, gm]⟩
      | succ m =>
        by_cases h2 : x = lp e (m + 1)
        · subst h2
          exact .inl ⟨e, m + 2, rfl, vtx_next e (m + 1) hv⟩
        · exact .inr ⟨x, _, rfl, vtx_off e m hv hx hr.1 h2⟩
    · exact .inr ⟨x, _, rfl, cone_step hx (hy y (by simp)) hr.1 hv⟩
/-- the boundary word's powers -/
def zword (K : Int) : List Int := if 0 ≤ K then per true (4 * K.toNat) else per false (4 * (-K).toNat)
theorem gw_cusp {g : List Int} (hy : ∀ x ∈ g, y4 x) (hr : Rd g) (h : (gw g (1, 0)).2 = 0) : ∃ K, g = zword K := by
  rcases gw_state g hy hr with ⟨e, n, hg, hv⟩ | ⟨x, r, _, hv⟩
  · have hn : n % 4 = 0 := by
      have k : n % 4 = 0 ∨ n % 4 = 1 ∨ n % 4 = 2 ∨ n % 4 = 3 := by omega
      rcases k with k | k | k | k
      · exact k
      all_goals (exfalso; cases e <;> rcases hv with hv | hv <;> rw [hv] at h <;> simp [vp, k] at h)
    have e4 : n = 4 * (n / 4) := by omega
    cases e
    · refine ⟨-((n / 4 : Nat) : Int), ?_⟩
      unfold zword
      by_cases h0 : n / 4 = 0
      · rw [hg, e4, h0]; simp [per]
      · rw [if_neg (by omega), show (-(-((n / 4 : Nat) : Int))).toNat = n / 4 by omega, ← e4]; exact hg
    · refine ⟨((n / 4 : Nat) : Int), ?_⟩
      unfold zword
      rw [if_pos (by omega), Int.toNat_natCast, ← e4]; exact hg
  · exact absurd h (cone_ne hv)
theorem gw_app (a b : List Int) (v : Int × Int) : gw (a ++ b) v = gw a (gw b v) := List.foldr_append ..
theorem per_add (e : Bool) (k : Nat) : ∀ n, per e (4 * k + n) = per e n ++ per e (4 * k)
  | 0 => rfl
  | n + 1 => by
    show lp e (4 * k + n) :: per e (4 * k + n) = (lp e n :: per e n) ++ per e (4 * k)
    rw [per_add e k n]
    have : (4 * k + n) % 4 = n % 4 := by omega
    simp [lp, this]
/-- what a power of the boundary word does -/
theorem gw_per (e : Bool) : ∀ k : Nat, ∃ s : Int, (s = 1 ∨ s = -1) ∧ ∀ v : Int × Int, gw (per e (4 * k)) v = (s * (v.1 - (if e = true then 6 else -6) * (k : Int) * v.2), s * v.2)
  | 0 => ⟨1, .inl rfl, fun v => by simp [per, gw]⟩
  | k + 1 => by
    obtain ⟨s, hs, h⟩ := gw_per e k
    refine ⟨-s, by omega, fun v => ?_⟩
    rw [show 4 * (k + 1) = 4 * k + 4 by omega, per_add, gw_app, h]
    have e4 : ∀ u : Int × Int, gw (per e 4) u = (-(u.1 - (if e = true then 6 else -6) * u.2), -u.2) := by
      intro u
      cases e <;> simp [per, lp, gw, gm] <;> omega
    rw [e4]
    dsimp only
    rcases hs with rfl | rfl <;> cases e <;> simp <;> (simp only [Int.mul_add, Int.add_mul, Int.mul_one]) <;> omega
theorem gw_z (K : Int) : ∃ s : Int, (s = 1 ∨ s = -1) ∧ ∀ v : Int × Int, gw (zword K) v = (s * (v.1 - 6 * K * v.2), s * v.2) := by
  unfold zword
  split
  · obtain ⟨s, hs, h⟩ := gw_per true K.toNat
    refine ⟨s, hs, fun v => ?_⟩
    rw [h, Int.toNat_of_nonneg (by assumption)]; simp
  · obtain ⟨s, hs, h⟩ := gw_per false (-K).toNat
    refine ⟨s, hs, fun v => ?_⟩
    rw [h, Int.toNat_of_nonneg (by omega)]
    simp only [Bool.false_eq_true, if_false]
    rw [show (-6 : Int) * -K = 6 * K by omega]
theorem gm_smul (x a p q : Int) : gm x (a * p, a * q) = (a * (gm x (p, q)).1, a * (gm x (p, q)).2) := by
  unfold gm
  split
  · simp only [Int.mul_add, Int.mul_neg, Int.mul_left_comm]
  · split
    · simp only [Int.mul_add, Int.mul_neg, Int.mul_left_comm]
    · split
      · simp only [Int.mul_add, Int.mul_left_comm]
      · simp only [Int.mul_add, Int.mul_sub, Int.mul_neg, Int.mul_left_comm]
theorem gw_smul (g : List Int) (a p q : Int) : gw g (a * p, a * q) = (a * (gw g (p, q)).1, a * (gw g (p, q)).2) := by
  induction g with
  | nil => rfl
  | cons x g ih =>
    show gm x (gw g (a * p, a * q)) = (a * (gm x (gw g (p, q))).1, a * (gm x (gw g (p, q))).2)
    rw [ih, gm_smul]
theorem gw_zero (g : List Int) : gw g (0, 0) = (0, 0) := by
  have := gw_smul g 0 0 0
  simpa using this
/-! pairs of polynomials: v i are the coefficients at the power i -/
def shp (n : Int) (v : Nat → Int × Int) : Nat → Int × Int := fun i => ((v i).1 + n * (if i = 0 then 0 else (v (i - 1)).2), (v i).2)
theorem shp_shp (n : Int) (v : Nat → Int × Int) : shp (-n) (shp n v) = v := by
  funext i
  unfold shp
  by_cases h : i = 0
  · simp [h]
  · simp only [h, if_false]
    exact Prod.ext (by dsimp only; rw [Int.neg_mul]; omega) rfl
/-- the handle of a letter, and the letter in its handle -/
def lf (x : Int) : Bool := decide (2 < x.natAbs)
def ly (x : Int) : Int := if x = 3 then 2 else if x = -3 then -2 else if x = 4 then 1 else if x = -4 then -1 else x
def cd (f : Bool) (y : Int) : Int := if f = true then (if y = 2 then 3 else if y = -2 then -3 else if y = 1 then 4 else -4) else y
def l8 (x : Int) : Prop := x.natAbs ≤ 4 ∧ x ≠ 0
theorem l8_all {x : Int} (h : l8 x) : x = 1 ∨ x = -1 ∨ x = 2 ∨ x = -2 ∨ x = 3 ∨ x = -3 ∨ x = 4 ∨ x = -4 := by unfold l8 at h; omega
theorem ly_y4 {x : Int} (h : l8 x) : y4 (ly x) := by
  rcases l8_all h with rfl | rfl | rfl | rfl | rfl | rfl | rfl | rfl <;> simp [ly, y4]
theorem cd_ly {x : Int} (h : l8 x) : cd (lf x) (ly x) = x := by
  rcases l8_all h with rfl | rfl | rfl | rfl | rfl | rfl | rfl | rfl <;> decide
theorem ly_neg {x y : Int} (hx : l8 x) (hy : l8 y) (hf : lf x = lf y) (h : ly x = -(ly y)) : x = -y := by
  rcases l8_all hx with rfl | rfl | rfl | rfl | rfl | rfl | rfl | rfl <;> rcases l8_all hy with rfl | rfl | rfl | rfl | rfl | rfl | rfl | rfl <;> simp [ly, lf] at h hf ⊢
def fr (f : Bool) (v : Nat → Int × Int) : Nat → Int × Int := if f = true then shp (-1) v else v
def bk (f : Bool) (v : Nat → Int × Int) : Nat → Int × Int := if f = true then shp 1 v else v
theorem fr_bk (f : Bool) (v : Nat → Int × Int) : fr f (bk f v) = v := by
  cases f
  · rfl
  · exact shp_shp 1 v
theorem bk_fr (f : Bool) (v : Nat → Int × Int) : bk f (fr f v) = v := by
  cases f
  · rfl
  · exact shp_shp (-1) v
def sgl (x : Int) (v : Nat → Int × Int) : Nat → Int × Int := bk (lf x) (fun i => gm (ly x) (fr (lf x) v i))
def sgw (w : List Int) (v : Nat → Int × Int) : Nat → Int × Int := w.foldr sgl v
theorem sgw_app (a b : List Int) (v : Nat → Int × Int) : sgw (a ++ b) v = sgw a (sgw b v) := List.foldr_append ..
theorem fr_syl (f : Bool) : ∀ s : List Int, (∀ x ∈ s, lf x = f) → ∀ v, fr f (sgw s v) = fun i => gw (s.map ly) (fr f v i)
  | [], _, v => rfl
  | x :: s, h, v => by
    have hx := h x List.mem_cons_self
    show fr f (sgl x (sgw s v)) = fun i => gm (ly x) (gw (s.map ly) (fr f v i))
    unfold sgl
    rw [hx, fr_bk, fr_syl f s (fun y hy => h y (List.mem_cons_of_mem _ hy)) v]
theorem fr_switch (f : Bool) (v : Nat → Int × Int) : fr (!f) v = shp (if f = true then 1 else -1) (fr f v) := by
  cases f
  · rfl
  · exact (shp_shp (-1) v).symm
theorem shp_z (K n : Int) (u : Nat → Int × Int) : (fun i => gw (zword K) (shp n u i)) = shp n (fun i => gw (zword K) (u i)) := by
  obtain ⟨s, hs, h⟩ := gw_z K
  funext i
  unfold shp
  simp only [h]
  by_cases hi : i = 0
  · simp [hi]
  · simp only [hi, if_false]
    refine Prod.ext ?_ rfl
    dsimp only
    rcases hs with rfl | rfl
    · simp only [Int.one_mul]; omega
    · simp only [Int.neg_mul, Int.one_mul, Int.mul_neg]; omega
theorem fr_z {f : Bool} {s : List Int} (hs : ∀ x ∈ s, lf x = f) {K : Int} (hK : s.map ly = zword K) (k : Bool) (v : Nat → Int × Int) : fr k (sgw s v) = fun i => gw (zword K) (fr k v i) := by
  have h := fr_syl f s hs v
  rw [hK] at h
  by_cases hk : k = f
  · rw [hk]; exact h
  · have e : k = !f := by cases k <;> cases f <;> simp at hk ⊢
    rw [e, fr_switch, fr_switch, h, ← shp_z]
/-! words -/
theorem Rd_app {a b : List Int} (ha : Rd a) (hb : Rd b) (h : ∀ x y r, a.getLast? = some x → b = y :: r → x ≠ -y) : Rd (a ++ b) := by
  induction a with
  | nil => exact hb
  | cons x a ih =>
    cases a with
    | nil =>
      cases b with
      | nil => trivial
      | cons y r => exact ⟨h x y r (by simp) rfl, hb⟩
    | cons z a =>
      exact ⟨ha.1, ih ha.2 (fun x' y r h1 h2 => h x' y r (by simpa using h1) h2)⟩
theorem Rd_left : ∀ {a b : List Int}, Rd (a ++ b) → Rd a
  | [], _, _ => trivial
  | [_], _, _ => trivial
  | x :: y :: a, b, h => ⟨h.1, Rd_left (a := y :: a) (b := b) h.2⟩
theorem Rd_right : ∀ {a b : List Int}, Rd (a ++ b) → Rd b
  | [], _, h => h
  | _ :: a, b, h => Rd_right (a := a) (b := b) h.tail
theorem Rd_map {f : Bool} : ∀ {s : List Int}, (∀ x ∈ s, l8 x ∧ lf x = f) → Rd s → Rd (s.map ly)
  | [], _, _ => trivial
  | [_], _, _ => trivial
  | x :: y :: s, h, hr => by
    have hx := h x (by simp)
    have hy := h y (by simp)
    exact ⟨fun e => hr.1 (ly_neg hx.1 hy.1 (hx.2.trans hy.2.symm) e), Rd_map (s := y :: s) (fun z hz => h z (List.mem_cons_of_mem _ hz)) hr.2⟩
theorem per_y4 (e : Bool) : ∀ n, ∀ x ∈ per e n, y4 x
  | 0, x, h => absurd h (by simp [per])
  | n + 1, x, h => by
    rcases List.mem_cons.1 h with rfl | h
    · exact lp_y4 e n
    · exact per_y4 e n x h
theorem per_four (e : Bool) (k : Nat) : per e (4 * (k + 1)) = per e 4 ++ per e (4 * k) := by
  rw [show 4 * (k + 1) = 4 * k + 4 by omega, per_add]
theorem per_four' (e : Bool) : ∀ k : Nat, per e (4 * (k + 1)) = per e (4 * k) ++ per e 4
  | 0 => rfl
  | k + 1 => by
    rw [per_four e (k + 1), per_four' e k, ← List.append_assoc, ← per_four]
    rw [per_four' e k]
theorem Rd_per (e : Bool) : ∀ n, Rd (per e n)
  | 0 => trivial
  | 1 => trivial
  | n + 2 => by
    refine ⟨?_, Rd_per e (n + 1)⟩
    have hn : n % 4 = 0 ∨ n % 4 = 1 ∨ n % 4 = 2 ∨ n % 4 = 3 := by omega
    rcases hn with hn | hn | hn | hn
    · have h1 : (n + 1) % 4 = 1 := by omega
      cases e <;> simp [lp, hn, h1]
    · have h1 : (n + 1) % 4 = 2 := by omega
      cases e <;> simp [lp, hn, h1]
    · have h1 : (n + 1) % 4 = 3 := by omega
      cases e <;> simp [lp, hn, h1]
    · have h1 : (n + 1) % 4 = 0 := by omega
      cases e <;> simp [lp, hn, h1]
/-- the sign of a power -/
def sgn (K : Int) : Bool := decide (0 < K)
theorem zword_ne {K : Int} (h : K ≠ 0) : ∃ m : Nat, zword K = per (sgn K) (4 * (m + 1)) ∧ (K.natAbs = m + 1) := by
  unfold zword sgn
  by_cases h0 : 0 < K
  · exact ⟨K.toNat - 1, by rw [if_pos (by omega), decide_eq_true h0, show K.toNat - 1 + 1 = K.toNat by omega], by omega⟩
  · exact ⟨(-K).toNat - 1, by rw [if_neg (by omega), decide_eq_false h0, show (-K).toNat - 1 + 1 = (-K).toNat by omega], by omega⟩
theorem zword_zero : zword 0 = [] := rfl
theorem Rd_z (K : Int) : Rd (zword K) := by
  unfold zword; split <;> exact Rd_per _ _
theorem z_y4 (K : Int) : ∀ x ∈ zword K, y4 x := by
  unfold zword; split <;> exact per_y4 _ _
theorem zword_add {a b : Int} (ha : a ≠ 0) (h : b ≠ 0 → sgn a = sgn b) : zword (a + b) = zword a ++ zword b := by
  by_cases hb : b = 0
  · subst hb; rw [zword_zero, Int.add_zero, List.append_nil]
  · have s := h hb
    unfold sgn at s
    by_cases h0 : 0 < a
    · have h1 : 0 < b := by rw [decide_eq_true h0] at s; exact of_decide_eq_true s.symm
      unfold zword
      rw [if_pos (by omega), if_pos (by omega), if_pos (by omega), show (a + b).toNat = b.toNat + a.toNat by omega, Nat.mul_add, per_add]
    · have h1 : ¬ 0 < b := by rw [decide_eq_false h0] at s; exact of_decide_eq_false s.symm
      unfold zword
      rw [if_neg (by omega), if_neg (by omega), if_neg (by omega), show (-(a + b)).toNat = (-b).toNat + (-a).toNat by omega, Nat.mul_add, per_add]
theorem per_len (e : Bool) : ∀ n, (per e n).length = n
  | 0 => rfl
  | n + 1 => by show (per e n).length + 1 = n + 1; rw [per_len e n]
theorem per_drop (e : Bool) : ∀ (g X : List Int) (n : Nat), g ++ X = per e n → X = per e X.length
  | [], X, n, h => by
    have h' : X = per e n := h
    have := per_len e n
    rw [← h'] at this
    rw [this]; exact h'
  | x :: g, X, 0, h => by simp [per] at h
  | x :: g, X, n + 1, h => per_drop e g X n (by simpa using (List.cons.inj h).2)
theorem lp_pair {e s : Bool} {m : Nat} (h1 : lp e (m + 1) = lp s 3) (h2 : lp e m = lp s 2) : e = s ∧ (m + 2) % 4 = 0 := by
  have hm : m % 4 = 0 ∨ m % 4 = 1 ∨ m % 4 = 2 ∨ m % 4 = 3 := by omega
  rcases hm with hm | hm | hm | hm
  · have k : (m + 1) % 4 = 1 := by omega
    cases e <;> cases s <;> simp [lp, hm, k] at h1 h2
  · have k : (m + 1) % 4 = 2 := by omega
    cases e <;> cases s <;> simp [lp, hm, k] at h1 h2
  · have k : (m + 1) % 4 = 3 := by omega
    cases e <;> cases s <;> simp [lp, hm, k] at h1 h2 <;> exact ⟨rfl, by omega⟩
  · have k : (m + 1) % 4 = 0 := by omega
    cases e <;> cases s <;> simp [lp, hm, k] at h1 h2
theorem z_split {g0 g : List Int} {K M : Int} (hK : K ≠ 0) (h : g0 ++ (zword K ++ g) = zword M) : (gw g0 (1, 0)).2 = 0 := by
  obtain ⟨m, hm, _⟩ := zword_ne hK
  have hM : ∃ e k, zword M = per e (4 * k) := by unfold zword; split <;> exact ⟨_, _, rfl⟩
  obtain ⟨e, k, hM⟩ := hM
  rw [hM] at h
  have hX := per_drop e _ _ _ h
  rw [hm, per_four, List.append_assoc] at hX
  generalize hL : (per (sgn K) 4 ++ (per (sgn K) (4 * m) ++ g)).length = L at hX
  have hL4 : 4 ≤ L := by rw [← hL, List.length_append, per_len]; omega
  obtain ⟨L', rfl⟩ : ∃ L', L = L' + 2 := ⟨L - 2, by omega⟩
  have e1 : lp (sgn K) 3 = lp e (L' + 1) := (List.cons.inj hX).1
  have e2 : lp (sgn K) 2 = lp e L' := (List.cons.inj (List.cons.inj hX).2).1
  obtain ⟨_, hL0⟩ := lp_pair e1.symm e2.symm
  have hlen : g0.length + (L' + 2) = 4 * k := by
    have := congrArg List.length h
    rw [per_len, List.length_append] at this
    rw [hm, per_four, List.append_assoc, hL] at this
    exact this
  have h4 : g0.length % 4 = 0 := by omega
  have h5 : zword K ++ g = per e (L' + 2) := by rw [hm, per_four, List.append_assoc]; exact hX
  rw [h5] at h
  have h6 : per e (4 * k) = per e g0.length ++ per e (L' + 2) := by
    rw [show L' + 2 = 4 * ((L' + 2) / 4) by omega, ← per_add]
    congr 1; omega
  rw [h6] at h
  have h7 : g0 = per e g0.length := List.append_cancel_right h
  rw [h7, show g0.length = 4 * (g0.length / 4) by omega]
  obtain ⟨s, _, hs⟩ := gw_per e (g0.length / 4)
  rw [hs]; simp
/-- beside a whole boundary word stands no letter of the other handle that goes on with the relator -/
def NP (w : List Int) : Prop := ∀ (f e : Bool) (pre post : List Int) (x : Int), lf x ≠ f → l8 x →
  (w = pre ++ (x :: (per e 4).map (cd f)) ++ post → ly x ≠ -(lp e 3)) ∧ (w = pre ++ ((per e 4).map (cd f) ++ [x]) ++ post → ly x ≠ -(lp e 0))
theorem NP.right {a b : List Int} (h : NP (a ++ b)) : NP b := by
  intro f e pre post x h1 h2
  have k := h f e (a ++ pre) post x h1 h2
  refine ⟨fun hb => k.1 ?_, fun hb => k.2 ?_⟩ <;> rw [hb] <;> simp
def HdW (w : List Int) (K : Int) : Prop := ∃ f r, w = (per (sgn K) 4).map (cd f) ++ r
theorem cd_per {f e : Bool} {y : Int} {r : List Int} (w : List Int) (h : w = (per e 4).map (cd f) ++ r) : ∃ x r', w = x :: r' ∧ ly x = lp e 3 ∧ lf x = f ∧ l8 x := by
  refine ⟨cd f (lp e 3), _, h, ?_⟩
  cases f <;> cases e <;> simp [cd, lp, ly, lf, l8]
/-- what a word does, that begins where a handle begins -/
def ZC (w : List Int) (K : Int) : Prop := (∀ k v, fr k (sgw w v) = fun i => gw (zword K) (fr k v i)) ∧ ((K = 0 ∧ w = []) ∨ (K ≠ 0 ∧ HdW w K))
def sg1 : Nat → Int × Int := fun i => if i = 0 then (1, 0) else (0, 0)
theorem fr_sg1 (k : Bool) : fr k sg1 = sg1 := by
  cases k
  · rfl
  · funext i
    show shp (-1) sg1 i = sg1 i
    unfold shp sg1
    by_cases h : i = 0
    · simp [h]
    · by_cases h1 : i - 1 = 0 <;> simp [h, h1]
def BC (w : List Int) : Prop := ∃ (k : Bool) (K : Int) (g : List Int) (d : Nat) (a : Int), a ≠ 0 ∧ (∀ x ∈ g, y4 x) ∧ Rd (zword K ++ g) ∧ (gw g (1, 0)).2 ≠ 0 ∧
  fr k (sgw w sg1) d = gw (zword K ++ g) (a, 0) ∧ (∀ i, d < i → fr k (sgw w sg1) i = (0, 0)) ∧ ((K = 0 ∧ ∃ x r g', w = x :: r ∧ lf x = k ∧ g = ly x :: g') ∨ (K ≠ 0 ∧ HdW w K))
theorem span_frame (f : Bool) : ∀ w : List Int, ∃ s w', w = s ++ w' ∧ (∀ x ∈ s, lf x = f) ∧ (∀ y r, w' = y :: r → lf y ≠ f)
  | [] => ⟨[], [], rfl, fun _ h => absurd h (by simp), fun _ _ h => absurd h (by simp)⟩
  | x :: w => by
    by_cases h : lf x = f
    · obtain ⟨s, w', e, h1, h2⟩ := span_frame f w
      refine ⟨x :: s, w', by rw [e]; rfl, fun y hy => ?_, h2⟩
      rcases List.mem_cons.1 hy with rfl | hy
      · exact h
      · exact h1 y hy
    · exact ⟨[], x :: w, rfl, fun _ h => absurd h (by simp), fun y r e => by rw [← (List.cons.inj e).1]; exact h⟩
theorem map_cd {f : Bool} : ∀ {s : List Int}, (∀ x ∈ s, l8 x ∧ lf x = f) → (s.map ly).map (cd f) = s
  | [], _ => rfl
  | x :: s, h => by
    have hx := h x (by simp)
    rw [List.map_cons, List.map_cons, map_cd (fun y hy => h y (List.mem_cons_of_mem _ hy)), ← hx.2, cd_ly hx.1]
theorem last_four (e : Bool) (m : Nat) : (per e (4 * (m + 1))).getLast? = some (lp e 0) := by
  rw [per_four']
  rw [List.getLast?_append]
  rfl
theorem gw_lin (g : List Int) (a : Int) : (gw g (a, 0)).2 = a * (gw g (1, 0)).2 := by
  have := gw_smul g a 1 0
  rw [Int.mul_one, Int.mul_zero] at this
  rw [this]
theorem sg_main : ∀ (n : Nat) (w : List Int), w.length ≤ n → (∀ x ∈ w, l8 x) → Rd w → NP w → (∃ K, ZC w K) ∨ BC w := by
  intro n
  induction n with
  | zero =>
    intro w hn _ _ _
    have hw : w = [] := List.length_eq_zero_iff.1 (by omega)
    subst hw
    exact .inl ⟨0, fun k v => rfl, .inl ⟨rfl, rfl⟩⟩
  | succ n ih =>
    intro w hn h8 hr hp
    cases w with
    | nil => exact .inl ⟨0, fun k v => rfl, .inl ⟨rfl, rfl⟩⟩
    | cons x0 r0 =>
    obtain ⟨s, w', hw, hs, hw'⟩ := span_frame (lf x0) (x0 :: r0)
    generalize hf : lf x0 = f at hs hw'
    -- the first part is not empty
    have hsx : ∃ s', s = x0 :: s' := by
      cases s with
      | nil => exact absurd hf (hw' x0 r0 (by simpa using hw.symm))
      | cons y s' => exact ⟨s', by rw [(List.cons.inj hw).1]⟩
    have h8s : ∀ x ∈ s, l8 x ∧ lf x = f := fun x hx => ⟨h8 x (by rw [hw]; exact List.mem_append_left _ hx), hs x hx⟩
    have h8w : ∀ x ∈ w', l8 x := fun x hx => h8 x (by rw [hw]; exact List.mem_append_right _ hx)
    rw [hw] at hr hp
    have hrs := Rd_left hr
    have hrw := Rd_right hr
    have hlen : w'.length ≤ n := by
      obtain ⟨s', e⟩ := hsx
      have := congrArg List.length hw
      rw [List.length_append, e] at this
      simp at this hn; omega
    have IH := ih w' hlen h8w hrw hp.right
    obtain ⟨g0, hg0⟩ : ∃ g, g = s.map ly := ⟨_, rfl⟩
    have hy0 : ∀ y ∈ g0, y4 y := fun y hy => by
      rw [hg0] at hy
      obtain ⟨x, hx, rfl⟩ := List.mem_map.1 hy
      exact ly_y4 (h8s x hx).1
    have hr0 : Rd g0 := by rw [hg0]; exact Rd_map h8s hrs
    have hcd : g0.map (cd f) = s := by rw [hg0]; exact map_cd h8s
    -- the last letter of the first part, and the first of what follows
    by_cases hz : (gw g0 (1, 0)).2 = 0
    · obtain ⟨k1, hk1⟩ := gw_cusp hy0 hr0 hz
      have hk0 : k1 ≠ 0 := by
        intro e
        rw [e, zword_zero] at hk1
        obtain ⟨s', e'⟩ := hsx
        rw [hg0, e'] at hk1; simp at hk1
      obtain ⟨m, hm, _⟩ := zword_ne hk0
      have hzf : s.map ly = zword k1 := by rw [← hg0]; exact hk1
      have hact : ∀ k v, fr k (sgw (s ++ w') v) = fun i => gw (zword k1) (fr k (sgw w' v) i) := fun k v => by
        rw [sgw_app]; exact fr_z hs hzf k _
      -- what stands behind it
      have next : ∀ y r, w' = y :: r → ly y ≠ -(lp (sgn k1) 0) := by
        intro y r e
        refine (hp f (sgn k1) (((per (sgn k1) (4 * m)).map (cd f))) r y (hw' y r e) (h8w y (by rw [e]; simp))).2 ?_
        rw [e, ← hcd, hk1, hm, per_four']; simp
      have hd1 : HdW (s ++ w') k1 := ⟨f, (per (sgn k1) (4 * m)).map (cd f) ++ w', by rw [← hcd, hk1, hm, per_four]; simp⟩
      have sg : ∀ K, K ≠ 0 → HdW w' K → sgn k1 = sgn K := by
        intro K hK hd
        obtain ⟨f', r, e⟩ := hd
        obtain ⟨y, r', e', hy, _, _⟩ := cd_per (y := 0) w' e
        have := next y r' e'
        rw [hy] at this
        cases h1 : sgn k1 <;> cases h2 : sgn K <;> rw [h1, h2] at this <;> simp [lp] at this ⊢
      have sgh : ∀ K, (K ≠ 0 → sgn k1 = sgn K) → k1 + K ≠ 0 ∧ sgn (k1 + K) = sgn k1 := by
        intro K h
        unfold sgn at h ⊢
        by_cases hK : K = 0
        · subst hK; exact ⟨by omega, by rw [Int.add_zero]⟩
        · have h' := h hK
          by_cases c : 0 < k1
          · rw [decide_eq_true c] at h' ⊢
            have := of_decide_eq_true h'.symm
            exact ⟨by omega, decide_eq_true (by omega)⟩
          · rw [decide_eq_false c] at h' ⊢
            have := of_decide_eq_false h'.symm
            exact ⟨by omega, decide_eq_false (by omega)⟩
      rw [hw]
      rcases IH with ⟨K, ha, hh⟩ | ⟨k, K, g, d, a, ha0, hgy, hgr, hgn, hv, hv0, hh⟩
      · have hK : K ≠ 0 → sgn k1 = sgn K := fun h => by
          rcases hh with ⟨e, _⟩ | ⟨_, hd⟩
          · exact absurd e h
          · exact sg K h hd
        obtain ⟨q1, q2⟩ := sgh K hK
        refine .inl ⟨k1 + K, fun k v => ?_, .inr ⟨q1, ?_⟩⟩
        · rw [hact, ha, zword_add hk0 hK]
          funext i; rw [gw_app]
        · unfold HdW; rw [q2]; exact hd1
      · have hK : K ≠ 0 → sgn k1 = sgn K := fun h => by
          rcases hh with ⟨e, _⟩ | ⟨_, hd⟩
          · exact absurd e h
          · exact sg K h hd
        obtain ⟨q1, q2⟩ := sgh K hK
        refine .inr ⟨k, k1 + K, g, d, a, ha0, hgy, ?_, hgn, ?_, ?_, .inr ⟨q1, ?_⟩⟩
        · rw [zword_add hk0 hK, List.append_assoc]
          refine Rd_app (Rd_z k1) hgr (fun x y r h1 h2 => ?_)
          rw [hm, last_four] at h1
          obtain rfl := Option.some.inj h1
          -- the first letter behind
          have hy : ∃ z r', w' = z :: r' ∧ ly z = y := by
            rcases hh with ⟨e, z, r', g', e1, _, e3⟩ | ⟨hK0, hd⟩
            · refine ⟨z, r', e1, ?_⟩
              rw [e, zword_zero, List.nil_append, e3] at h2
              exact (List.cons.inj h2).1
            · obtain ⟨f', r', e⟩ := hd
              obtain ⟨z, r'', e', hz', _, _⟩ := cd_per (y := 0) w' e
              refine ⟨z, r'', e', ?_⟩
              obtain ⟨m', hm', _⟩ := zword_ne hK0
              rw [hm', per_four] at h2
              rw [hz']
              exact (List.cons.inj h2).1
          obtain ⟨z, r', e, hz'⟩ := hy
          have := next z r' e
          rw [hz'] at this
          intro c; exact this (by omega)
        · rw [hact]
          show gw (zword k1) (fr k (sgw w' sg1) d) = _
          rw [hv, zword_add hk0 hK, gw_app, gw_app, gw_app]
        · intro i hi
          rw [hact]
          show gw (zword k1) (fr k (sgw w' sg1) i) = _
          rw [hv0 i hi, gw_zero]
        · unfold HdW; rw [q2]; exact hd1
    · have hfs : ∀ v, fr f (sgw (s ++ w') v) = fun i => gw g0 (fr f (sgw w' v) i) := fun v => by
        rw [sgw_app, hg0]; exact fr_syl f s hs _
      obtain ⟨s', hs'⟩ := hsx
      have hh0 : ((0 : Int) = 0 ∧ ∃ x r g', s ++ w' = x :: r ∧ lf x = f ∧ g0 = ly x :: g') := ⟨rfl, x0, s' ++ w', s'.map ly, by rw [hs']; rfl, hf, by rw [hg0, hs']; rfl⟩
      rw [hw]
      rcases IH with ⟨K, ha, hh⟩ | ⟨k, K, g, d, a, ha0, hgy, hgr, hgn, hv, hv0, hh⟩
      · obtain ⟨t, ht, hzt⟩ := gw_z K
        refine .inr ⟨f, 0, g0, 0, t, by omega, hy0, by rw [zword_zero]; exact hr0, hz, ?_, ?_, .inl hh0⟩
        · rw [hfs, ha]
          show gw g0 (gw (zword K) (fr f sg1 0)) = _
          rw [fr_sg1, hzt, zword_zero]
          show gw g0 (t * ((1 : Int) - 6 * K * 0), t * 0) = gw ([] ++ g0) (t, 0)
          simp
        · intro i hi
          rw [hfs, ha]
          show gw g0 (gw (zword K) (fr f sg1 i)) = _
          rw [fr_sg1]
          have : sg1 i = (0, 0) := by unfold sg1; rw [if_neg (by omega)]
          rw [this, gw_zero, gw_zero]
      · by_cases hkf : k = f
        · subst hkf
          have hK0 : K ≠ 0 := by
            intro e
            rcases hh with ⟨_, z, r', g', e1, e2, _⟩ | ⟨c, _⟩
            · exact hw' z r' e1 e2
            · exact c e
          have hd : HdW w' K := by
            rcases hh with ⟨e, _⟩ | ⟨_, hd⟩
            · exact absurd e hK0
            · exact hd
          have hR : Rd (g0 ++ (zword K ++ g)) := by
            refine Rd_app hr0 hgr (fun x y r h1 h2 => ?_)
            obtain ⟨m', hm', _⟩ := zword_ne hK0
            rw [hm', per_four] at h2
            have hy : lp (sgn K) 3 = y := (List.cons.inj h2).1
            -- the last letter of s
            rw [hg0, List.getLast?_map] at h1
            cases hl : s.getLast? with
            | none => rw [hl] at h1; cases h1
            | some z =>
              rw [hl] at h1
              have hx : ly z = x := Option.some.inj h1
              have hzm : z ∈ s := List.mem_of_getLast? hl
              obtain ⟨f', r', e⟩ := hd
              obtain ⟨pre, hpre⟩ : ∃ pre, s = pre ++ [z] := ⟨s.dropLast, by
                have hne : s ≠ [] := by intro c; rw [c] at hl; cases hl
                have := List.dropLast_concat_getLast hne
                rw [List.getLast?_eq_some_getLast hne] at hl
                rw [← Option.some.inj hl]; exact this.symm⟩
              obtain ⟨z2, r2, e2, _, hz2f, _⟩ := cd_per (y := 0) w' e
              have hff : lf z ≠ f' := by
                have := hw' z2 r2 e2
                rw [hz2f] at this
                rw [(h8s z hzm).2]; exact fun c => this c.symm
              have := (hp f' (sgn K) pre r' z hff (h8s z hzm).1).1 (by rw [hpre, e]; simp)
              rw [hx, hy] at this
              exact this
          have hN : (gw (g0 ++ (zword K ++ g)) (1, 0)).2 ≠ 0 := by
            intro c
            obtain ⟨M, hM⟩ := gw_cusp (fun y hy => by
              rcases List.mem_append.1 hy with h | h
              · exact hy0 y h
              · rcases List.mem_append.1 h with h | h
                · exact z_y4 K y h
                · exact hgy y h) hR c
            exact hz (z_split hK0 hM)
          refine .inr ⟨k, 0, g0 ++ (zword K ++ g), d, a, ha0, ?_, by rw [zword_zero]; exact hR, hN, ?_, ?_, .inl ⟨rfl, x0, s' ++ w', s'.map ly ++ (zword K ++ g), by rw [hs']; rfl, hf, by rw [hg0, hs']; rfl⟩⟩
          · intro y hy
            rcases List.mem_append.1 hy with h | h
            · exact hy0 y h
            · rcases List.mem_append.1 h with h | h
              · exact z_y4 K y h
              · exact hgy y h
          · rw [hfs]
            show gw g0 (fr k (sgw w' sg1) d) = _
            rw [hv, zword_zero, List.nil_append, gw_app g0]
          · intro i hi
            rw [hfs]
            show gw g0 (fr k (sgw w' sg1) i) = _
            rw [hv0 i hi, gw_zero]
        · have hk : f = !k := by cases k <;> cases f <;> simp at hkf ⊢
          have hQ : (gw (zword K ++ g) (a, 0)).2 ≠ 0 := by
            rw [gw_lin, gw_app]
            obtain ⟨t, ht, hzt⟩ := gw_z K
            rw [hzt]
            intro c
            rcases Int.mul_eq_zero.1 c with c | c
            · exact ha0 c
            · rcases Int.mul_eq_zero.1 c with c | c
              · omega
              · exact hgn c
          obtain ⟨cc, hcc, hsw⟩ : ∃ cc : Int, (cc = 1 ∨ cc = -1) ∧ fr f (sgw w' sg1) = shp cc (fr k (sgw w' sg1)) := ⟨if k = true then 1 else -1, by cases k <;> simp, by rw [hk]; exact fr_switch k _⟩
          refine .inr ⟨f, 0, g0, d + 1, cc * (gw (zword K ++ g) (a, 0)).2, ?_, hy0, by rw [zword_zero]; exact hr0, hz, ?_, ?_, .inl hh0⟩
          · intro c
            rcases Int.mul_eq_zero.1 c with c | c
            · omega
            · exact hQ c
          · rw [hfs, hsw, zword_zero, List.nil_append]
            show gw g0 (shp cc (fr k (sgw w' sg1)) (d + 1)) = _
            have : shp cc (fr k (sgw w' sg1)) (d + 1) = (cc * (gw (zword K ++ g) (a, 0)).2, 0) := by
              unfold shp
              rw [hv0 (d + 1) (by omega), if_neg (by omega), Nat.add_sub_cancel, hv]
              simp
            rw [this]
          · intro i hi
            rw [hfs, hsw]
            show gw g0 (shp cc (fr k (sgw w' sg1)) i) = _
            have : shp cc (fr k (sgw w' sg1)) i = (0, 0) := by
              unfold shp
              rw [hv0 i (by omega), if_neg (by omega), hv0 (i - 1) (by omega)]
              simp
            rw [this, gw_zero]
/-- a word that is not empty, without cancellation and without the relator's pieces, is not trivial -/
theorem sg_moves {w : List Int} (hw : w ≠ []) (h8 : ∀ x ∈ w, l8 x) (hr : Rd w) (hp : NP w) : ∃ v, sgw w v ≠ v := by
  rcases sg_main w.length w (Nat.le_refl _) h8 hr hp with ⟨K, ha, hh⟩ | ⟨k, K, g, d, a, ha0, hgy, hgr, hgn, hv, hv0, hh⟩
  · have hK : K ≠ 0 := by
      rcases hh with ⟨_, e⟩ | ⟨h, _⟩
      · exact absurd e hw
      · exact h
    refine ⟨fun i => if i = 0 then (0, 1) else (0, 0), fun c => ?_⟩
    have h := congrFun (ha false (fun i => if i = 0 then (0, 1) else (0, 0))) 0
    obtain ⟨t, ht, hzt⟩ := gw_z K
    have h1 : fr false (sgw w (fun i => if i = 0 then (0, 1) else (0, 0))) 0 = ((0 : Int), (1 : Int)) := by rw [c]; rfl
    rw [h1] at h
    have h2 : fr false (fun i : Nat => if i = 0 then ((0 : Int), (1 : Int)) else (0, 0)) 0 = (0, 1) := rfl
    rw [h2, hzt] at h
    have h3 := congrArg Prod.fst h
    have h4 := congrArg Prod.snd h
    dsimp only at h3 h4
    rcases ht with rfl | rfl <;> omega
  · refine ⟨sg1, fun c => ?_⟩
    rw [c, fr_sg1] at hv
    have h2 := congrArg Prod.snd hv
    have h3 : (sg1 d).2 = 0 := by unfold sg1; split <;> rfl
    rw [h3, gw_lin, gw_app] at h2
    obtain ⟨t, ht, hzt⟩ := gw_z K
    rw [hzt] at h2
    rcases Int.mul_eq_zero.1 h2.symm with c | c
    · exact ha0 c
    · rcases Int.mul_eq_zero.1 c with c | c
      · omega
      · exact hgn c

/-! ### what a word does stays under the steps of Dehn; a word of genus two that they leave, does something -/
structure Acts {X : Type} (σ : Int → X → X) (g : Int) : Prop where
  inv : ∀ x, okL g x → ∀ v, σ x (σ (-x) v) = v
  rel : ∀ v, (relG g).foldr σ v = v
def fo {X : Type} (σ : Int → X → X) (w : List Int) (v : X) : X := w.foldr σ v
theorem fo_app {X : Type} (σ : Int → X → X) (a b : List Int) (v : X) : fo σ (a ++ b) v = fo σ a (fo σ b v) := List.foldr_append ..
theorem invW_app (a b : List Int) : invW (a ++ b) = invW b ++ invW a := by simp [invW]
theorem invW_cons (x : Int) (a : List Int) : invW (x :: a) = invW a ++ [-x] := by simp [invW]
theorem invW_invW (a : List Int) : invW (invW a) = a := by simp [invW, Function.comp_def]
theorem fo_back {X : Type} {σ : Int → X → X} {g : Int} (A : Acts σ g) : ∀ (w : List Int), (∀ x ∈ w, okL g x) → ∀ v, fo σ (invW w) (fo σ w v) = v
  | [], _, _ => rfl
  | x :: w, h, v => by
    have hx := h x List.mem_cons_self
    rw [invW_cons, fo_app]
    show fo σ (invW w) (σ (-x) (σ x (fo σ w v))) = v
    have := A.inv (-x) (okL_neg hx) (fo σ w v)
    rw [Int.neg_neg] at this
    rw [this]
    exact fo_back A w (fun y hy => h y (List.mem_cons_of_mem _ hy)) v
theorem fo_forth {X : Type} {σ : Int → X → X} {g : Int} (A : Acts σ g) (w : List Int) (h : ∀ x ∈ w, okL g x) (v : X) : fo σ w (fo σ (invW w) v) = v := by
  have := fo_back A (invW w) (invW_mem (fun x hx => okL_neg hx) h) v
  rwa [invW_invW] at this
theorem fo_step {X : Type} {σ : Int → X → X} {g : Int} (A : Acts σ g) (s : List Int) (x : Int) (hx : okL g x) (v : X) : fo σ (redStep s x) v = fo σ (s ++ [x]) v := by
  unfold redStep
  split
  · rename_i h
    have hl : s.length - 1 < s.length := by omega
    have e : s = s.take (s.length - 1) ++ [-x] := by
      have h1 : s[s.length - 1] = -x := by
        have := h.2
        rwa [List.getD_eq_getElem?_getD, List.getElem?_eq_getElem hl, Option.getD_some] at this
      have h2 := List.take_succ_eq_append_getElem hl
      rw [show s.length - 1 + 1 = s.length by omega, List.take_length, h1] at h2
      exact h2
    have h3 : fo σ (s ++ [x]) v = fo σ (s.take (s.length - 1) ++ [-x] ++ [x]) v := by rw [← e]
    rw [h3, fo_app, fo_app]
    have := A.inv (-x) (okL_neg hx) v
    rw [Int.neg_neg] at this
    show _ = fo σ (s.take (s.length - 1)) (σ (-x) (σ x v))
    rw [this]
  · rfl
theorem fo_red {X : Type} {σ : Int → X → X} {g : Int} (A : Acts σ g) {w : List Int} (h : ∀ x ∈ w, okL g x) (v : X) : fo σ (redM w) v = fo σ w v := by
  suffices ∀ (w s : List Int), (∀ x ∈ w, okL g x) → ∀ v, fo σ (w.foldl redStep s) v = fo σ (s ++ w) v from this w [] h v
  intro w
  induction w with
  | nil => intro s _ v; simp
  | cons x w ih =>
    intro s h v
    rw [List.foldl_cons, ih _ (fun y hy => h y (List.mem_cons_of_mem _ hy)), fo_app, fo_step A s x (h x List.mem_cons_self), ← fo_app]
    simp
theorem fo_turn {X : Type} {σ : Int → X → X} {g : Int} (A : Acts σ g) {R : List Int} (h : ∀ x ∈ R, okL g x) (hR : ∀ v, fo σ R v = v) (j : Nat) (v : X) : fo σ (turnM R j) v = v := by
  unfold turnM
  rw [fo_app]
  have ht : ∀ x ∈ R.take j, okL g x := fun x hx => h x (List.mem_of_mem_take hx)
  have e : ∀ u, fo σ (R.drop j) u = fo σ (invW (R.take j)) u := by
    intro u
    have := hR u
    rw [← List.take_append_drop j R, fo_app] at this
    have h2 := fo_back A (R.take j) ht (fo σ (R.drop j) u)
    rw [this] at h2
    exact h2.symm
  rw [e]
  exact fo_back A _ ht v
theorem fo_pair {X : Type} {σ : Int → X → X} {g : Int} (hg : g = 1 ∨ g = 2) (A : Acts σ g) : ∀ c ∈ pairsM (relG g), ∀ v, fo σ (turnM c.1 c.2) v = v := by
  have r := relG_ok hg
  have inv : ∀ v, fo σ (invW (relG g)) v = v := by
    intro v
    have := fo_back A (relG g) r.2 v
    rwa [show fo σ (relG g) v = v from A.rel v] at this
  intro c hc v
  simp only [pairsM, List.mem_append, List.mem_map, List.mem_range] at hc
  rcases hc with ⟨j, hj, rfl⟩ | ⟨j, hj, rfl⟩
  · exact fo_turn A r.2 A.rel j v
  · exact fo_turn A (invW_mem (fun x hx => okL_neg hx) r.2) inv j v
theorem lcp_take : ∀ (u v : List Int), u.take (lcpM u v) = v.take (lcpM u v)
  | [], v => by cases v <;> simp [lcpM]
  | _ :: _, [] => by simp [lcpM]
  | a :: u, b :: v => by
    simp only [lcpM]
    split
    · rename_i h
      rw [List.take_succ_cons, List.take_succ_cons, h, lcp_take u v]
    · rfl
theorem lcp_ge : ∀ (p u v : List Int), p.length ≤ lcpM (p ++ u) (p ++ v)
  | [], _, _ => by simp
  | a :: p, u, v => by
    have := lcp_ge p u v
    simp only [List.cons_append, lcpM, if_true, List.length_cons]; omega
theorem best_piece (u : List Int) : ∀ (cs : List (List Int × Nat)) (s : Nat × List Int), cs.foldl (updM u) s = s ∨ ∃ c ∈ cs, cs.foldl (updM u) s = (lcpM u (turnM c.1 c.2), (turnM c.1 c.2).drop (lcpM u (turnM c.1 c.2)))
  | [], _ => .inl rfl
  | c :: cs, s => by
    rw [List.foldl_cons]
    rcases best_piece u cs (updM u s c) with h | ⟨c', hc', h⟩
    · rw [h]
      unfold updM
      split
      · exact .inr ⟨c, List.mem_cons_self, rfl⟩
      · exact .inl rfl
    · exact .inr ⟨c', List.mem_cons_of_mem _ hc', h⟩
theorem best_ge (u : List Int) : ∀ (cs : List (List Int × Nat)) (s : Nat × List Int), s.1 ≤ (cs.foldl (updM u) s).1 ∧ ∀ c ∈ cs, lcpM u (turnM c.1 c.2) ≤ (cs.foldl (updM u) s).1
  | [], s => ⟨Nat.le_refl _, fun _ h => absurd h (by simp)⟩
  | c :: cs, s => by
    rw [List.foldl_cons]
    obtain ⟨h1, h2⟩ := best_ge u cs (updM u s c)
    have h3 : s.1 ≤ (updM u s c).1 ∧ lcpM u (turnM c.1 c.2) ≤ (updM u s c).1 := by unfold updM; split <;> (try simp only) <;> omega
    refine ⟨by omega, fun c' hc' => ?_⟩
    rcases List.mem_cons.1 hc' with rfl | hc'
    · omega
    · exact h2 c' hc'
theorem fo_cut {X : Type} {σ : Int → X → X} {g : Int} (A : Acts σ g) {w : List Int} (h : okW g w) (i : Nat) (hb : 2 * g < (bestAt g w i).1) (v : X) : fo σ (cutM w i (bestAt g w i)) v = fo σ w v := by
  have b := bestAt_I h.1 w i
  have hg0 : 0 < (bestAt g w i).1 := by have := h.1; omega
  obtain ⟨c, hc, e⟩ : ∃ c ∈ pairsM (relG g), bestAt g w i = (lcpM (w.drop i) (turnM c.1 c.2), (turnM c.1 c.2).drop (lcpM (w.drop i) (turnM c.1 c.2))) := by
    rcases best_piece (w.drop i) (pairsM (relG g)) (0, []) with h' | h'
    · have : bestAt g w i = (0, []) := h'
      rw [this] at hg0; simp at hg0
    · exact h'
  have hall : ∀ x ∈ w.take i ++ invW (bestAt g w i).2 ++ w.drop (i + (bestAt g w i).1), okL g x := by
    intro x hx
    rw [List.append_assoc, List.mem_append, List.mem_append] at hx
    rcases hx with h' | h' | h'
    · exact h.2.1 x (List.mem_of_mem_take h')
    · exact invW_mem (fun x hx => okL_neg hx) b.2.2 x h'
    · exact h.2.1 x (List.mem_of_mem_drop h')
  unfold cutM
  rw [fo_red A hall, List.append_assoc, fo_app, fo_app]
  have hw : w = w.take i ++ (w.drop i).take (bestAt g w i).1 ++ w.drop (i + (bestAt g w i).1) := by
    rw [List.append_assoc, ← List.drop_drop, List.take_append_drop, List.take_append_drop]
  have hp : ∀ u, fo σ ((w.drop i).take (bestAt g w i).1) u = fo σ (invW (bestAt g w i).2) u := by
    intro u
    have h2 := fo_pair h.1 A c hc (fo σ (invW (bestAt g w i).2) u)
    have h3 : turnM c.1 c.2 = (w.drop i).take (bestAt g w i).1 ++ (bestAt g w i).2 := by
      rw [e]; dsimp only
      rw [lcp_take, List.take_append_drop]
    rw [h3, fo_app, fo_forth A _ b.2.2] at h2
    exact h2
  conv => rhs; rw [hw]
  rw [List.append_assoc, fo_app, fo_app, hp]
theorem fo_stepFrom {X : Type} {σ : Int → X → X} {g : Int} (A : Acts σ g) {w : List Int} (h : okW g w) : ∀ (n i : Nat), (stepFrom g w n i).2 = true → ∀ v, fo σ (stepFrom g w n i).1 v = fo σ w v
  | 0, i, hb, _ => by simp [stepFrom] at hb
  | n + 1, i, hb, v => by
    unfold stepFrom at hb ⊢
    by_cases c : 2 * g < (bestAt g w i).1
    · rw [if_pos c]; exact fo_cut A h i c v
    · rw [if_neg c] at hb ⊢; exact fo_stepFrom A h n (i + 1) hb v
theorem fo_dehnF {X : Type} {σ : Int → X → X} {g : Int} (A : Acts σ g) : ∀ (n : Nat) (w : List Int), okW g w → ∀ v, fo σ (dehnF g n w) v = fo σ w v
  | 0, _, _, _ => rfl
  | n + 1, w, h, v => by
    unfold dehnF
    by_cases c : (dstepM g w).2 = true
    · rw [if_pos c]
      have h1 : okW g (dstepM g w).1 := (stepFrom_ok h w.length 0 (by omega) c).1
      rw [fo_dehnF A n _ h1]
      exact fo_stepFrom A h _ _ c v
    · rw [if_neg c]
theorem fo_dehn {X : Type} {σ : Int → X → X} {g : Int} (A : Acts σ g) {w : List Int} (h : okW g w) (v : X) : fo σ (dehnM g w) v = fo σ w v := by
  unfold dehnM
  rw [fo_dehnF A _ _ (red_ok h), fo_red A h.2.1]
/-- the steps come to an end -/
theorem dehnF_stop {g : Int} : ∀ (n : Nat) (w : List Int), okW g w → RedP w → w.length ≤ n → okW g (dehnF g n w) ∧ RedP (dehnF g n w) ∧ (dstepM g (dehnF g n w)).2 = false
  | 0, w, h, hr, hn => by
    have hw : w = [] := List.length_eq_zero_iff.1 (by omega)
    subst hw
    exact ⟨h, hr, rfl⟩
  | n + 1, w, h, hr, hn => by
    unfold dehnF
    by_cases c : (dstepM g w).2 = true
    · rw [if_pos c]
      obtain ⟨h1, h2, h3⟩ := stepFrom_ok h w.length 0 (by omega) c
      exact dehnF_stop n _ h1 h2 (by show (stepFrom g w w.length 0).1.length ≤ n; omega)
    · rw [if_neg c]
      exact ⟨h, hr, by simpa using c⟩
theorem dehnF_more {g : Int} : ∀ (n m : Nat) (w : List Int), okW g w → w.length ≤ n → w.length ≤ m → dehnF g n w = dehnF g m w
  | 0, 0, _, _, _, _ => rfl
  | 0, m + 1, w, h, hn, _ => by
    have hw : w = [] := List.length_eq_zero_iff.1 (by omega)
    subst hw; rfl
  | n + 1, 0, w, h, _, hm => by
    have hw : w = [] := List.length_eq_zero_iff.1 (by omega)
    subst hw; rfl
  | n + 1, m + 1, w, h, hn, hm => by
    rw [dehnF, dehnF]
    by_cases c : (dstepM g w).2 = true
    · rw [if_pos c, if_pos c]
      obtain ⟨h1, h2, h3⟩ := stepFrom_ok h w.length 0 (by omega) c
      exact dehnF_more n m _ h1 (by show (stepFrom g w w.length 0).1.length ≤ n; omega) (by show (stepFrom g w w.length 0).1.length ≤ m; omega)
    · rw [if_neg c, if_neg c]
theorem dehn_step {g : Int} {w : List Int} (h : okW g w) (c : (dstepM g (redM w)).2 = true) : dehnM g (dstepM g (redM w)).1 = dehnM g w := by
  have hr := red_ok h
  obtain ⟨h1, h2, h3⟩ := stepFrom_ok hr (redM w).length 0 (by omega) c
  have h3' : (dstepM g (redM w)).1.length < (redM w).length := h3
  unfold dehnM
  rw [redM_id (show RedP (dstepM g (redM w)).1 from h2)]
  rw [dehnF_more (redM w).length ((redM w).length + 1) (redM w) hr (by omega) (by omega)]
  conv => rhs; rw [dehnF, if_pos c]
  exact dehnF_more _ _ _ h1 (Nat.le_refl _) (by omega)
/-- where no step is made there is no piece -/
theorem stop_at {g : Int} {w : List Int} : ∀ (n i : Nat), (stepFrom g w n i).2 = false → ∀ j, i ≤ j → j < i + n → ¬ 2 * g < ((bestAt g w j).1 : Int)
  | 0, i, _, j, h1, h2 => by omega
  | n + 1, i, h, j, h1, h2 => by
    unfold stepFrom at h
    by_cases c : 2 * g < (bestAt g w i).1
    · rw [if_pos c] at h; cases h
    · rw [if_neg c] at h
      by_cases e : j = i
      · subst e; exact c
      · exact stop_at n (i + 1) h j (by omega) (by omega)
theorem no_piece {w pre p post : List Int} (h : (dstepM 2 w).2 = false) (hw : w = pre ++ p ++ post) (hp : p.length = 5) : ∀ c ∈ pairsM (relG 2), (turnM c.1 c.2).take 5 ≠ p := by
  intro c hc e
  have hl : pre.length < w.length := by rw [hw]; simp; omega
  have a := stop_at w.length 0 h pre.length (by omega) (by omega)
  have b := (best_ge (w.drop pre.length) (pairsM (relG 2)) (0, [])).2 c hc
  have d : w.drop pre.length = p ++ post := by rw [hw, List.append_assoc, List.drop_left]
  have t : turnM c.1 c.2 = p ++ (turnM c.1 c.2).drop 5 := by rw [← e, List.take_append_drop]
  have k := lcp_ge p post ((turnM c.1 c.2).drop 5)
  rw [← t, ← d, hp] at k
  have b' : lcpM (w.drop pre.length) (turnM c.1 c.2) ≤ (bestAt 2 w pre.length).1 := b
  omega
theorem piece_left : ∀ f e : Bool, ∃ c ∈ pairsM (relG 2), (turnM c.1 c.2).take 5 = cd (!f) (-(lp e 3)) :: (per e 4).map (cd f) := by decide
theorem piece_right : ∀ f e : Bool, ∃ c ∈ pairsM (relG 2), (turnM c.1 c.2).take 5 = (per e 4).map (cd f) ++ [cd (!f) (-(lp e 0))] := by decide
theorem np_of {w : List Int} (h : (dstepM 2 w).2 = false) : NP w := by
  intro f e pre post x hf hx
  have hc := cd_ly hx
  have hff : lf x = !f := by cases h1 : lf x <;> cases f <;> simp [h1] at hf ⊢
  rw [hff] at hc
  constructor
  · intro hw hy
    obtain ⟨c, hcm, hc5⟩ := piece_left f e
    refine no_piece h hw (by simp [per_len]) c hcm ?_
    rw [hc5, ← hy, hc]
  · intro hw hy
    obtain ⟨c, hcm, hc5⟩ := piece_right f e
    refine no_piece h hw (by simp [per_len]) c hcm ?_
    rw [hc5, ← hy, hc]
theorem rd_of : ∀ {s : List Int}, RedP s → Rd s
  | [], _ => trivial
  | [_], _ => trivial
  | x :: y :: r, h => ⟨by have := h 0 (by simp); simpa using this, rd_of (s := y :: r) (fun i hi => by have := h (i + 1) (by simpa using hi); simpa using this)⟩
theorem okL_l8 {x : Int} (h : okL 2 x) : l8 x := by
  have a := letterB_of h.1
  exact ⟨by have := h.2; omega, by omega⟩
theorem gm_inv {y : Int} (h : y4 y) (v : Int × Int) : gm y (gm (-y) v) = v := by
  rcases h with rfl | rfl | rfl | rfl <;> simp only [gm] <;> (refine Prod.ext ?_ ?_) <;> simp <;> omega
theorem acts_sg : Acts sgl 2 where
  inv := by
    intro x hx v
    have h := okL_l8 hx
    have h1 : lf (-x) = lf x := by rcases l8_all h with rfl | rfl | rfl | rfl | rfl | rfl | rfl | rfl <;> decide
    have h2 : ly (-x) = -(ly x) := by rcases l8_all h with rfl | rfl | rfl | rfl | rfl | rfl | rfl | rfl <;> decide
    unfold sgl
    rw [h1, fr_bk, h2]
    have : (fun i => gm (ly x) (gm (-(ly x)) (fr (lf x) v i))) = fr (lf x) v := by funext i; exact gm_inv (ly_y4 h) _
    rw [this, bk_fr]
  rel := by
    intro v
    show sgw ([1, 2, -1, -2] ++ [3, 4, -3, -4]) v = v
    rw [sgw_app]
    have a := fr_syl false [1, 2, -1, -2] (by decide) (sgw [3, 4, -3, -4] v)
    have b := fr_z (f := true) (s := [3, 4, -3, -4]) (by decide) (K := -1) (by decide) false v
    have a' : sgw [1, 2, -1, -2] (sgw [3, 4, -3, -4] v) = fun i => gw ([1, 2, -1, -2].map ly) (sgw [3, 4, -3, -4] v i) := a
    have b' : sgw [3, 4, -3, -4] v = fun i => gw (zword (-1)) (v i) := b
    rw [a', b']
    funext i
    show gw ([1, 2, -1, -2].map ly) (gw (zword (-1)) (v i)) = v i
    simp only [gw, ly, zword, per, lp, List.map, List.foldr, gm]
    refine Prod.ext ?_ ?_ <;> simp [per, lp, gm] <;> omega
theorem triv_iff {w : List Int} (h : okW 2 w) : dehnM 2 w = [] ↔ ∀ v, sgw w v = v := by
  constructor
  · intro e v
    have := fo_dehn acts_sg h v
    rw [e] at this
    exact this.symm
  · intro hv
    have hr := red_ok h
    obtain ⟨h1, h2, h3⟩ := dehnF_stop (redM w).length (redM w) hr (redM_red w) (Nat.le_refl _)
    apply Classical.byContradiction
    intro hne
    obtain ⟨v, hm⟩ := sg_moves hne (fun x hx => okL_l8 (h1.2.1 x hx)) (rd_of h2) (np_of h3)
    apply hm
    have := fo_dehn acts_sg h v
    exact this.trans (hv v)

/-- a table, changed at one place -/
theorem tab_set {α : Type} (n : Nat) (f : Nat → α) (a : Nat) (y : α) : ((List.range n).map f).set a y = (List.range n).map fun v => if v = a then y else f v := by
  apply List.ext_getElem
  · simp
  · intro i h1 h2
    rw [List.getElem_set]
    simp only [List.getElem_map, List.getElem_range]
    by_cases h : a = i
    · rw [if_pos h, if_pos h.symm]
    · rw [if_neg h, if_neg (fun e => h e.symm)]
def inB (n : Nat) (x : Int) : Bool := decide (0 ≤ x ∧ x < n)
def permB (p : List Int) : Bool := p.all (inB p.length) && decide p.Nodup
def seenM (n : Nat) (pre : List Int) : List Bool := (List.range n).map fun i : Nat => decide ((i : Int) ∈ pre)
theorem rdOf_tab {α : Type} (d : α) (n : Nat) (f : Nat → α) (a : Int) (h0 : 0 ≤ a) (h : a < n) : rdOf d ((List.range n).map f) a = f a.toNat := by
  have : a.toNat < n := by omega
  simp [rdOf, this]
theorem seenM_snoc (n : Nat) (pre : List Int) (x : Int) (h0 : 0 ≤ x) : (seenM n pre).set x.toNat true = seenM n (pre ++ [x]) := by
  unfold seenM
  rw [tab_set]
  apply List.map_congr_left
  intro i hi
  by_cases h : i = x.toNat
  · rw [if_pos h, decide_eq_true]; rw [List.mem_append, List.mem_singleton]; right; omega
  · rw [if_neg h]
    congr 1
    rw [List.mem_append, List.mem_singleton]
    have : ¬ (i : Int) = x := by omega
    simp [this]
theorem seenM_nil (n : Nat) : seenM n [] = List.replicate n false := by
  apply List.ext_getElem
  · simp [seenM]
  · intro i h1 h2
    simp [seenM]
theorem inB_of {n : Nat} {x : Int} (h : inB n x = true) : 0 ≤ x ∧ x < n := by simpa [inB] using h
theorem permB_of {p : List Int} (h : permB p = true) : (∀ x ∈ p, 0 ≤ x ∧ x < p.length) ∧ p.Nodup := by
  simp only [permB, Bool.and_eq_true, List.all_eq_true, decide_eq_true_iff] at h
  exact ⟨fun x hx => inB_of (h.1 x hx), h.2⟩
/-- how many sheets -/
def d0 (l : List (List Int)) : Nat := (l.getD 0 []).length
def sheetB (n : Nat) (r : List Int) : Bool := decide (r.length = n) && permB r
def sheetsB (l : List (List Int)) : Bool := decide (0 < l.length) && (decide (1 ≤ d0 l ∧ d0 l ≤ 5) && l.all (sheetB (d0 l)))
def permsB (l : List (List Int)) : Bool := sheetsB l && decide (l.length ≤ 8)
theorem rdL_zero (l : List (List Int)) : rd_L2 l 0 = l.getD 0 [] := by simp [rd_L2]
theorem sheetsB_of {l : List (List Int)} (h : sheetsB l = true) : 0 < l.length ∧ 1 ≤ d0 l ∧ d0 l ≤ 5 ∧ ∀ r ∈ l, r.length = d0 l ∧ permB r = true := by
  simp only [sheetsB, sheetB, Bool.and_eq_true, List.all_eq_true, decide_eq_true_iff] at h
  exact ⟨h.1, h.2.1.1, h.2.1.2, h.2.2⟩
/-- the inverse: i of its places set -/
def invK (p : List Int) (i : Nat) : List Int := (List.range i).foldl (fun acc j => acc.set (p.getD j 0).toNat (j : Int)) (List.replicate p.length 0)
def invM (p : List Int) : List Int := invK p p.length
theorem invK_succ (p : List Int) (i : Nat) : invK p (i + 1) = (invK p i).set (p.getD i 0).toNat (i : Int) := by
  unfold invK
  rw [List.range_succ, List.foldl_append]; rfl
theorem invK_I (p : List Int) (hp : 1 ≤ p.length) : ∀ i, i ≤ p.length → (invK p i).length = p.length ∧ ∀ x ∈ invK p i, 0 ≤ x ∧ x < p.length
  | 0, _ => by
    refine ⟨by simp [invK], fun x hx => ?_⟩
    have hx' : x ∈ List.replicate p.length (0 : Int) := hx
    have : x = 0 := (List.mem_replicate.1 hx').2
    omega
  | i + 1, h => by
    have ih := invK_I p hp i (by omega)
    rw [invK_succ]
    refine ⟨by simp [ih.1], fun x hx => ?_⟩
    rcases List.mem_or_eq_of_mem_set hx with h' | h'
    · exact ih.2 x h'
    · omega
def idM (n : Nat) : List Int := (List.range n).map fun i : Nat => (i : Int)
def stepP (l : List (List Int)) (a : Int) : List Int := if a < 0 then invM (l.getD (a.natAbs - 1) []) else l.getD (a.natAbs - 1) []
def actS (l : List (List Int)) (w : List Int) (s : Int) : Int := w.foldl (fun s a => (stepP l a).getD s.toNat 0) s
def actL (l : List (List Int)) (w : List Int) : List Int := (idM (d0 l)).map (actS l w)
def lettersB (l : List (List Int)) (w : List Int) : Prop := ∀ a ∈ w, 1 ≤ a.natAbs ∧ a.natAbs ≤ l.length ∧ a.natAbs ≤ 1000000
theorem stepP_I {l : List (List Int)} (h : sheetsB l = true) {a : Int} (h1 : 1 ≤ a.natAbs) (h2 : a.natAbs ≤ l.length) : (stepP l a).length = d0 l ∧ ∀ x ∈ stepP l a, 0 ≤ x ∧ x < d0 l := by
  have s := sheetsB_of h
  have hi : a.natAbs - 1 < l.length := by omega
  have hr := s.2.2.2 _ (List.getElem_mem hi)
  have e : l.getD (a.natAbs - 1) [] = l[a.natAbs - 1] := by simp [hi]
  unfold stepP
  rw [e]
  split
  · have := invK_I l[a.natAbs - 1] (by omega) _ (Nat.le_refl _)
    unfold invM
    rw [hr.1] at this ⊢
    exact this
  · have := (permB_of hr.2).1
    rw [hr.1] at this
    exact ⟨hr.1, this⟩
theorem getD_in {n : Nat} {q : List Int} (hl : q.length = n) (hq : ∀ x ∈ q, 0 ≤ x ∧ x < n) {s : Int} (h0 : 0 ≤ s) (h1 : s < n) : 0 ≤ q.getD s.toNat 0 ∧ q.getD s.toNat 0 < n := by
  have : s.toNat < q.length := by omega
  rw [List.getD_eq_getElem?_getD, List.getElem?_eq_getElem this]
  exact hq _ (List.getElem_mem this)
def wordOk (l : List (List Int)) (w : List Int) : Bool := wordB w && w.all (leB l.length)
def actM (l : List (List Int)) (w : List Int) : List Int := if permsB l = true ∧ wordOk l w = true then actL l w else []
theorem letters_of {l : List (List Int)} {w : List Int} (h : wordOk l w = true) : lettersB l w ∧ w.length ≤ 24 := by
  simp only [wordOk, Bool.and_eq_true, List.all_eq_true, leB, decide_eq_true_iff] at h
  have a := wordB_of h.1
  refine ⟨fun x hx => ?_, a.2⟩
  have := letterB_of (a.1 x hx)
  have := h.2 x hx
  omega
def comM (g : Int) (x y : List Int) : Bool := fitsB g x && (fitsB g y && (decide (2 * (x.length + y.length) ≤ 24) && trivM g ((x ++ y) ++ invW (y ++ x))))
theorem comM_eq (g : Int) (x y : List Int) : eqM g (x ++ y) (y ++ x) = comM g x y := by
  rw [Bool.eq_iff_iff]
  simp only [eqM, comM, Bool.and_eq_true, decide_eq_true_iff, List.length_append]
  constructor
  · rintro ⟨h1, h2, h3, h4⟩
    have a := fits_ok h1
    refine ⟨ok_fits ⟨a.1, fun z hz => a.2.1 z (by simp [hz]), by omega⟩, ok_fits ⟨a.1, fun z hz => a.2.1 z (by simp [hz]), by omega⟩, by omega, h4⟩
  · rintro ⟨h1, h2, h3, h4⟩
    have a := fits_ok h1
    have b := fits_ok h2
    exact ⟨ok_fits (ok_app a b (by omega)), ok_fits (ok_app b a (by omega)), by omega, h4⟩

/-! ### what the law asks of words, their inverses, turns and letters -/
/-- how often letter j stands in a word, with its sign -/
def lc (j : Nat) (x : Int) : Int := if x.natAbs = j then (if 0 < x then 1 else -1) else 0
def cntL (j : Nat) (w : List Int) : Int := (w.map (lc j)).sum
theorem cnt_app (j : Nat) (a b : List Int) : cntL j (a ++ b) = cntL j a + cntL j b := by simp [cntL]
theorem cnt_cons (j : Nat) (x : Int) (w : List Int) : cntL j (x :: w) = lc j x + cntL j w := by simp [cntL]
theorem lc_neg {x : Int} (hx : x ≠ 0) (j : Nat) : lc j (-x) = -(lc j x) := by
  unfold lc
  rw [Int.natAbs_neg]
  split
  · split <;> split <;> omega
  · rfl
theorem cnt_inv (j : Nat) : ∀ w : List Int, (∀ x ∈ w, x ≠ 0) → cntL j (invW w) = -(cntL j w)
  | [], _ => rfl
  | x :: w, h => by
    rw [invW_cons, cnt_app, cnt_inv j w (fun y hy => h y (List.mem_cons_of_mem _ hy)), cnt_cons j (-x)]
    have : cntL j [] = 0 := rfl
    rw [this, lc_neg (h x List.mem_cons_self), cnt_cons]; omega
theorem sums_cnt (i : Nat) (hi : i < 8) : ∀ (w v : List Int), (∀ x ∈ w, x ≠ 0) → v.length = 8 → (w.foldl addL v).getD i 0 = v.getD i 0 + cntL (i + 1) w
  | [], v, _, _ => by simp [cntL]
  | x :: w, v, h, hv => by
    have hx := h x List.mem_cons_self
    rw [List.foldl_cons, sums_cnt i hi w (addL v x) (fun y hy => h y (List.mem_cons_of_mem _ hy)) (by simp [addL, hv]), cnt_cons]
    have : (addL v x).getD i 0 = v.getD i 0 + lc (i + 1) x := by
      unfold addL lc
      rw [List.getD_eq_getElem?_getD, List.getElem?_set]
      by_cases e : x.natAbs - 1 = i
      · have e' : x.natAbs = i + 1 := by omega
        rw [if_pos e, if_pos (by omega), if_pos e', Option.getD_some, e]
        split <;> omega
      · have e' : ¬ x.natAbs = i + 1 := by omega
        rw [if_neg e, if_neg e', ← List.getD_eq_getElem?_getD]; omega
    rw [this]; omega
theorem sumsM_cnt {w : List Int} (h : ∀ x ∈ w, x ≠ 0) (i : Nat) (hi : i < 8) : (sumsM w).getD i 0 = cntL (i + 1) w := by
  unfold sumsM
  rw [sums_cnt i hi w _ h (by simp)]
  have : (List.replicate 8 (0 : Int)).getD i 0 = 0 := by
    rw [List.getD_eq_getElem?_getD, List.getElem?_replicate]; split <;> rfl
  omega
theorem okL_ne {g x : Int} (h : okL g x) : x ≠ 0 := (letterB_of h.1).2.2
theorem okW_ne {g : Int} {w : List Int} (h : okW g w) : ∀ x ∈ w, x ≠ 0 := fun x hx => okL_ne (h.2.1 x hx)
theorem sums_zero {w : List Int} (h : ∀ x ∈ w, x ≠ 0) : (sumsM w).all (fun v => decide (v = 0)) = true ↔ ∀ i, i < 8 → cntL (i + 1) w = 0 := by
  have hl := sumsM_len w
  rw [List.all_eq_true]
  constructor
  · intro a i hi
    rw [← sumsM_cnt h i hi, List.getD_eq_getElem?_getD, List.getElem?_eq_getElem (by omega), Option.getD_some]
    exact of_decide_eq_true (a _ (List.getElem_mem _))
  · intro a x hx
    obtain ⟨i, hi, rfl⟩ := List.getElem_of_mem hx
    have := sumsM_cnt h i (by omega)
    rw [List.getD_eq_getElem?_getD, List.getElem?_eq_getElem hi, Option.getD_some, a i (by omega)] at this
    exact decide_eq_true this
theorem sums_ext {v w : List Int} (hv : ∀ x ∈ v, x ≠ 0) (hw : ∀ x ∈ w, x ≠ 0) (h : ∀ i, i < 8 → cntL (i + 1) v = cntL (i + 1) w) : sumsM v = sumsM w := by
  refine List.ext_getElem (by rw [sumsM_len, sumsM_len]) (fun i h1 h2 => ?_)
  have hi : i < 8 := by rw [sumsM_len] at h1; exact h1
  have a := sumsM_cnt hv i hi
  have b := sumsM_cnt hw i hi
  rw [List.getD_eq_getElem?_getD, List.getElem?_eq_getElem h1, Option.getD_some] at a
  rw [List.getD_eq_getElem?_getD, List.getElem?_eq_getElem h2, Option.getD_some] at b
  rw [a, b, h i hi]
theorem fo_lc (j : Nat) : ∀ (w : List Int) (c : Int), fo (fun x c => lc j x + c) w c = cntL j w + c
  | [], c => by simp [fo, cntL]
  | x :: w, c => by
    show lc j x + fo (fun x c => lc j x + c) w c = _
    rw [fo_lc j w c, cnt_cons]; omega
theorem acts_lc {g : Int} (hg : g = 1 ∨ g = 2) (j : Nat) : Acts (fun x (c : Int) => lc j x + c) g where
  inv := by
    intro x hx c
    show lc j x + (lc j (-x) + c) = c
    rw [lc_neg (okL_ne hx)]; omega
  rel := by
    intro c
    have := fo_lc j (relG g) c
    rw [show (relG g).foldr (fun x c => lc j x + c) c = cntL j (relG g) + c from this]
    have z : cntL j (relG g) = 0 := by
      have n : ∀ y : Int, y ≠ 0 → lc j (-y) = -(lc j y) := fun y hy => lc_neg hy j
      rcases hg with rfl | rfl
      · show cntL j [1, 2, -1, -2] = 0
        have a := n 1 (by decide); have b := n 2 (by decide)
        simp only [cntL, List.map, List.sum_cons, List.sum_nil] at a b ⊢
        omega
      · show cntL j [1, 2, -1, -2, 3, 4, -3, -4] = 0
        have a := n 1 (by decide); have b := n 2 (by decide); have c := n 3 (by decide); have d := n 4 (by decide)
        simp only [cntL, List.map, List.sum_cons, List.sum_nil] at a b c d ⊢
        omega
    omega
theorem cnt_dehn {g : Int} {w : List Int} (h : okW g w) (j : Nat) : cntL j (dehnM g w) = cntL j w := by
  have := fo_dehn (acts_lc h.1 j) h 0
  rw [fo_lc, fo_lc] at this; omega
theorem len_zero {w : List Int} : (((w.length : Int) == 0) = true) ↔ w = [] := by
  rw [beq_iff_eq]
  constructor
  · intro h; exact List.length_eq_zero_iff.1 (by omega)
  · intro h; rw [h]; rfl
theorem triv_two {w : List Int} (h : okW 2 w) : trivM 2 w = true ↔ ∀ v, sgw w v = v := by
  unfold trivM
  rw [if_pos rfl, len_zero]
  exact triv_iff h
theorem triv_one {w : List Int} (h : okW 1 w) : trivM 1 w = true ↔ ∀ i, i < 8 → cntL (i + 1) w = 0 := by
  unfold trivM
  rw [if_neg (by decide)]
  exact sums_zero (okW_ne h)
theorem triv_cnt {g : Int} {w : List Int} (h : okW g w) (ht : trivM g w = true) : ∀ i, i < 8 → cntL (i + 1) w = 0 := by
  rcases h.1 with rfl | rfl
  · exact (triv_one h).1 ht
  · unfold trivM at ht
    rw [if_pos rfl, len_zero] at ht
    intro i _
    have := cnt_dehn h (i + 1)
    rw [ht] at this
    exact this.symm
theorem triv_inv {g : Int} {w : List Int} (h : okW g w) (ht : trivM g w = true) : trivM g (invW w) = true := by
  rcases h.1 with rfl | rfl
  · rw [triv_one (ok_inv h)]
    intro i hi
    rw [cnt_inv _ _ (okW_ne h), (triv_one h).1 ht i hi]; rfl
  · rw [triv_two (ok_inv h)]
    intro v
    have := fo_back acts_sg w h.2.1 v
    rwa [show fo sgl w v = v from (triv_two h).1 ht v] at this
theorem ok_turn {g : Int} {w : List Int} (h : okW g w) {j : Nat} (hj : j ≤ w.length) : okW g (turnM w j) := by
  refine ⟨h.1, fun x hx => ?_, by rw [turnM_len w j hj]; exact h.2.2⟩
  unfold turnM at hx
  rcases List.mem_append.1 hx with h' | h'
  · exact h.2.1 x (List.mem_of_mem_drop h')
  · exact h.2.1 x (List.mem_of_mem_take h')
theorem triv_turn {g : Int} {w : List Int} (h : okW g w) (ht : trivM g w = true) {j : Nat} (hj : j ≤ w.length) : trivM g (turnM w j) = true := by
  rcases h.1 with rfl | rfl
  · rw [triv_one (ok_turn h hj)]
    intro i hi
    have := (triv_one h).1 ht i hi
    rw [← List.take_append_drop j w, cnt_app] at this
    unfold turnM
    rw [cnt_app]; omega
  · rw [triv_two (ok_turn h hj)]
    exact fo_turn acts_sg h.2.1 ((triv_two h).1 ht) j
theorem eq_swap {g : Int} {x y : List Int} (h : eqM g x y = true) : eqM g y x = true ∧ sumsM x = sumsM y := by
  simp only [eqM, Bool.and_eq_true, decide_eq_true_eq] at h
  obtain ⟨hx, hy, hl, ht⟩ := h
  have ox := fits_ok hx
  have oy := fits_ok hy
  have oxy : okW g (x ++ invW y) := ok_app ox (ok_inv oy) (by rw [invW_len]; exact hl)
  constructor
  · simp only [eqM, Bool.and_eq_true, decide_eq_true_eq]
    refine ⟨hy, hx, by omega, ?_⟩
    have := triv_inv oxy ht
    rwa [invW_app, invW_invW] at this
  · refine sums_ext (okW_ne ox) (okW_ne oy) (fun i hi => ?_)
    have := triv_cnt oxy ht i hi
    rw [cnt_app, cnt_inv _ _ (okW_ne oy)] at this
    omega
theorem hom_zero {g : Int} {w : List Int} (hf : fitsB g w = true) (ht : trivM g w = true) : ∀ x ∈ sumsM w, x = 0 := by
  have h := fits_ok hf
  have z := (sums_zero (okW_ne h)).2 (triv_cnt h ht)
  intro x hx
  exact of_decide_eq_true (List.all_eq_true.1 z x hx)
theorem step_triv {g : Int} {w : List Int} (h : okW g w) (c : (dstepM g (redM w)).2 = true) : trivM g (dstepM g (redM w)).1 = trivM g w := by
  have hr := red_ok h
  have h1 : okW g (dstepM g (redM w)).1 := (stepFrom_ok hr (redM w).length 0 (by omega) c).1
  rcases h.1 with rfl | rfl
  · rw [Bool.eq_iff_iff, triv_one h1, triv_one h]
    have e : ∀ j, cntL j (dstepM 1 (redM w)).1 = cntL j w := by
      intro j
      have a := fo_stepFrom (acts_lc (.inl rfl) j) hr (redM w).length 0 c 0
      have b := fo_red (acts_lc (.inl rfl) j) h.2.1 0
      rw [fo_lc, fo_lc] at a b
      have a' : cntL j (dstepM 1 (redM w)).1 + 0 = cntL j (redM w) + 0 := a
      omega
    exact ⟨fun a i hi => by rw [← e]; exact a i hi, fun a i hi => by rw [e]; exact a i hi⟩
  · unfold trivM
    rw [if_pos rfl, if_pos rfl, dehn_step h c]
/-- the permutations of three sheets -/
def tau (x : Int) (s : Fin 3) : Fin 3 := if x = 1 ∨ x = 4 then s + 1 else if x = -1 ∨ x = -4 then s + 2 else if s = 0 then 1 else if s = 1 then 0 else 2
theorem acts_tau : Acts (fun x s => tau (-x) s) 2 where
  inv := by
    intro x hx s
    rcases l8_all (okL_l8 hx) with rfl | rfl | rfl | rfl | rfl | rfl | rfl | rfl <;> revert s <;> decide
  rel := by decide
theorem tau_back : ∀ (w : List Int), (∀ x ∈ w, okL 2 x) → ∀ s, fo (fun x s => tau (-x) s) w (w.foldl (fun s x => tau x s) s) = s
  | [], _, _ => rfl
  | x :: w, h, s => by
    show tau (-x) (fo (fun x s => tau (-x) s) w (w.foldl (fun s x => tau x s) (tau x s))) = s
    rw [tau_back w (fun y hy => h y (List.mem_cons_of_mem _ hy))]
    rcases l8_all (okL_l8 (h x List.mem_cons_self)) with rfl | rfl | rfl | rfl | rfl | rfl | rfl | rfl <;> revert s <;> decide
def acts3 : List (List Int) := [[1, 2, 0], [1, 0, 2], [1, 0, 2], [1, 2, 0]]
theorem tau_act : ∀ (w : List Int), (∀ x ∈ w, okL 2 x) → ∀ s : Fin 3, actS acts3 w ((s.val : Nat) : Int) = (((w.foldl (fun s x => tau x s) s).val : Nat) : Int)
  | [], _, _ => rfl
  | x :: w, h, s => by
    have e : (stepP acts3 x).getD s.val 0 = (((tau x s).val : Nat) : Int) := by
      rcases l8_all (okL_l8 (h x List.mem_cons_self)) with rfl | rfl | rfl | rfl | rfl | rfl | rfl | rfl <;> revert s <;> decide
    show actS acts3 w ((stepP acts3 x).getD (((s.val : Nat) : Int)).toNat 0) = _
    rw [Int.toNat_natCast, e]
    exact tau_act w (fun y hy => h y (List.mem_cons_of_mem _ hy)) (tau x s)
theorem act_triv {w : List Int} (hf : fitsB 2 w = true) (ht : trivM 2 w = true) : actM acts3 w = [0, 1, 2] := by
  have h := fits_ok hf
  have ht' : dehnM 2 w = [] := by
    unfold trivM at ht
    rwa [if_pos rfl, len_zero] at ht
  have f : ∀ s, fo (fun x s => tau (-x) s) w s = s := fun s => by
    have := fo_dehn acts_tau h s
    rw [ht'] at this
    exact this.symm
  have g : ∀ s : Fin 3, w.foldl (fun s x => tau x s) s = s := fun s => (f _).symm.trans (tau_back w h.2.1 s)
  have ok : permsB acts3 = true ∧ wordOk acts3 w = true := by
    refine ⟨by decide, ?_⟩
    simp only [fitsB, hasB, Bool.and_eq_true] at hf
    simp only [wordOk, Bool.and_eq_true]
    exact ⟨hf.2.2, hf.2.1⟩
  unfold actM
  rw [if_pos ok]
  show (idM 3).map (actS acts3 w) = [0, 1, 2]
  have a : ∀ s : Fin 3, actS acts3 w ((s.val : Nat) : Int) = ((s.val : Nat) : Int) := fun s => by rw [tau_act w h.2.1 s, g s]
  have a0 := a 0
  have a1 := a 1
  have a2 := a 2
  show [actS acts3 w 0, actS acts3 w 1, actS acts3 w 2] = [0, 1, 2]
  rw [show actS acts3 w 0 = 0 from a0, show actS acts3 w 1 = 1 from a1, show actS acts3 w 2 = 2 from a2]
theorem rel_triv : ∀ n : Int, n = 1 ∨ n = 2 → fitsB n (relG n) = true ∧ trivM n (relG n) = true ∧ comM n [1] [1, 1] = true := by
  rintro n (rfl | rfl) <;> decide +kernel

theorem laws_big_no (l : List Int) (h : ¬ (l.length : Int) > 1048576) : laws_big.f l = some false := by
  unfold laws_big.f; rw [decide_eq_false h]

def relM (g : Int) : List Int := if g = 1 then [1, 2, -1, -2] else if g = 2 then [1, 2, -1, -2, 3, 4, -3, -4] else []
theorem spec_Relator_is (g : Int) : spec_Relator.f g = some (relM g) := by
  unfold spec_Relator.f relM
  split
  · rfl
  · split <;> rfl

theorem and255 (x : Int) : 0 ≤ Go.bits .and .i64 x 255 ∧ Go.bits .and .i64 x 255 ≤ 255 := by
  have h : (BitVec.ofInt 64 x &&& BitVec.ofInt 64 255).toNat ≤ 255 := by
    rw [BitVec.toNat_and]; exact Nat.le_trans Nat.and_le_right (by decide)
  have e : Go.bits .and .i64 x 255 = IntKind.i64.wrap (((BitVec.ofInt 64 x &&& BitVec.ofInt 64 255).toNat : Nat) : Int) := rfl
  rw [e, IntKind.wrap_i64]
  omega

theorem spec_l1Byte_is (b : List Int) (i h : Int) (hb : b.length ≤ 1048576) (hi : 0 ≤ i) : ∃ x i' h', spec_l1Byte.f b i h = some (x, i', h') ∧ 0 ≤ x ∧ x ≤ 255 ∧ 0 ≤ i' := by
  unfold spec_l1Byte.f
  by_cases hc : i < (b.length : Int)
  · rw [if_pos hc, if_pos hi, w64 (x := i + 1) (by omega) (by omega)]
    exact ⟨_, _, _, rfl, (and255 _).1, (and255 _).2, by omega⟩
  · rw [if_neg hc]
    exact ⟨_, _, _, rfl, (and255 _).1, (and255 _).2, hi⟩

theorem spec_l1Below_is (b : List Int) (i h n : Int) (hb : b.length ≤ 1048576) (hi : 0 ≤ i) (h1 : 0 < n) (h2 : n ≤ 256) : ∃ x i' h', spec_l1Below.f b i h n = some (x, i', h') ∧ 0 ≤ x ∧ x < n ∧ 0 ≤ i' := by
  obtain ⟨x, i', h', e, a, c, d⟩ := spec_l1Byte_is b i h hb hi
  unfold spec_l1Below.f
  rw [if_neg (by omega), if_pos h2, e]
  simp only [Option.bind_some]
  rw [if_neg (by omega)]
  refine ⟨_, _, _, rfl, ?_, ?_, d⟩
  · exact Int.tmod_nonneg _ a
  · exact Int.tmod_lt_of_pos _ h1

theorem spec_l1Once_is (b : List Int) (i h n : Int) (hb : b.length ≤ 1048576) (hi : 0 ≤ i) (h1 : 0 < n) (h2 : n ≤ 256) : ∃ x i' h', spec_l1Once.f b i h n = some (x, i', h') ∧ 0 ≤ i' := by
  obtain ⟨x, i', h', e, a, c, d⟩ := spec_l1Below_is b i h n hb hi h1 h2
  unfold spec_l1Once.f
  rw [e]
  exact ⟨_, _, _, rfl, d⟩

theorem spec_l2Draw_l0n (b : List Int) (hb : b.length ≤ 1048576) (q : Nat) (h1 : 1 ≤ q) (hq : q ≤ 100) : ∀ (m : Nat) (out : List Int) (c h : Int), 0 ≤ c → out.length + m ≤ 100 → (∀ x ∈ out, 1 ≤ x.natAbs ∧ x.natAbs ≤ q) → ∃ R c' h', EV (fun k => spec_l2Draw.l0 k (q : Int) out (m : Int) b c h) (R, c', h') ∧ R.length ≤ 100 ∧ (∀ x ∈ R, 1 ≤ x.natAbs ∧ x.natAbs ≤ q) ∧ 0 ≤ c'
  | 0, out, c, h, hc, hl, ho => ⟨out, c, h, EV.step (fun k => by rw [spec_l2Draw.l0]) (EV.neg (by omega) (EV.now _)), by omega, ho, hc⟩
  | m + 1, out, c, h, hc, hl, ho => by
    obtain ⟨x, c1, h1', e1, x0, x1, k1⟩ := spec_l1Below_is b c h (q : Int) hb hc (by omega) (by omega)
    obtain ⟨t, c2, h2, e2, k2⟩ := spec_l1Once_is b c1 h1' 2 hb k1 (by omega) (by omega)
    have go : ∀ y : Int, 1 ≤ y.natAbs ∧ y.natAbs ≤ q → ∃ R c' h', EV (fun k => spec_l2Draw.l0 k (q : Int) (out ++ [y]) (m : Int) b c2 h2) (R, c', h') ∧ R.length ≤ 100 ∧ (∀ x ∈ R, 1 ≤ x.natAbs ∧ x.natAbs ≤ q) ∧ 0 ≤ c' := fun y hy =>
      spec_l2Draw_l0n b hb q h1 hq m (out ++ [y]) c2 h2 k2 (by simp; omega) (fun z hz => by
        rcases List.mem_append.1 hz with h' | h'
        · exact ho z h'
        · rw [List.mem_singleton.1 h']; exact hy)
    have em : wrap64 (((m + 1 : Nat) : Int) - 1) = (m : Int) := by rw [w64 (by omega) (by omega)]; omega
    by_cases ht : t = true
    · obtain ⟨R, c3, h3, E, r1, r2, k3⟩ := go (wrap64 (-(wrap64 (1 + x)))) (by rw [w64 (x := 1 + x) (by omega) (by omega), w64 (by omega) (by omega)]; omega)
      refine ⟨R, c3, h3, EV.step (fun k => by rw [spec_l2Draw.l0]) ?_, r1, r2, k3⟩
      rw [em]
      exact EV.pos (by omega) (EV.by e1 (EV.by e2 (EV.pos ht (EV.pos (by omega) E))))
    · obtain ⟨R, c3, h3, E, r1, r2, k3⟩ := go (wrap64 (1 + x)) (by rw [w64 (by omega) (by omega)]; omega)
      refine ⟨R, c3, h3, EV.step (fun k => by rw [spec_l2Draw.l0]) ?_, r1, r2, k3⟩
      rw [em]
      exact EV.pos (by omega) (EV.by e1 (EV.by e2 (EV.neg ht (EV.pos (by omega) E))))
theorem spec_l2Draw_in (b : List Int) (c h : Int) (q m : Nat) (hb : b.length ≤ 1048576) (hc : 0 ≤ c) (h1 : 1 ≤ q) (hq : q ≤ 100) (hm : m ≤ 50) : ∃ R c' h', EV (fun k => spec_l2Draw.f k b c h (q : Int) (m : Int)) (R, c', h') ∧ R.length ≤ 100 ∧ (∀ x ∈ R, 1 ≤ x.natAbs ∧ x.natAbs ≤ q) ∧ 0 ≤ c' := by
  obtain ⟨x, c1, h1', e1, x0, x1, k1⟩ := spec_l1Below_is b c h ((m : Int) + 1) hb hc (by omega) (by omega)
  obtain ⟨n, rfl⟩ : ∃ n : Nat, x = n := ⟨x.toNat, by omega⟩
  obtain ⟨R, c2, h2, E, r1, r2, k2⟩ := spec_l2Draw_l0n b hb q h1 hq n [] c1 h1' k1 (by simp; omega) (fun z hz => by cases hz)
  refine ⟨R, c2, h2, ?_, r1, r2, k2⟩
  rw [show (m : Int) + 1 = wrap64 ((m : Int) + 1) by rw [w64 (by omega) (by omega)]] at e1
  exact EV.by e1 E
theorem spec_l2Inverse_is (w : List Int) (hw : ∀ x ∈ w, letterB x = true) (hn : w.length < 4294967296) : EV (fun k => spec_l2Inverse.f k w) (invW w) := by
  have h : ∀ (c i : Nat), i + c = w.length → EV (fun k => spec_l2Inverse.l0 k w ((invW w).take i) ((c : Int) - 1)) (invW w) := by
    intro c
    induction c with
    | zero =>
      intro i hi
      refine EV.step (fun k => by rw [spec_l2Inverse.l0]) ?_
      exact EV.neg (by omega) ((EV.now _).eq (by rw [List.take_of_length_le (by rw [invW_len]; omega)]))
    | succ c ih =>
      intro i hi
      have hc : c < w.length := by omega
      have hx := letterB_of (hw _ (List.getElem_mem hc))
      have hi' : i < (invW w).length := by rw [invW_len]; omega
      have e : (invW w)[i] = -w[c] := by
        rw [invW_get w i (by omega)]
        congr 2; omega
      have ih := ih (i + 1) (by omega)
      rw [List.take_succ_eq_append_getElem hi', e] at ih
      refine EV.step (fun k => by rw [spec_l2Inverse.l0]) ?_
      rw [show ((c + 1 : Nat) : Int) - 1 = (c : Int) by omega, rd_nat _ _ hc, w64 (x := -w[c]) (by omega) (by omega), w64 (x := (c : Int) - 1) (by omega) (by omega)]
      exact EV.pos (by omega) (EV.pos (by omega) (EV.pos (by omega) (EV.pos (by simp; omega) ih)))
  have := h w.length 0 (by omega)
  rw [List.take_zero] at this
  refine EV.congr (fun k => ?_) this
  rw [spec_l2Inverse.f, w64 (by omega) (by omega)]

theorem spec_l2Turn_is (w : List Int) (a : Nat) (hw : 0 < w.length) (hn : w.length < 4294967296) : spec_l2Turn.f w (a : Int) = some (turnM w (a % w.length)) := by
  unfold spec_l2Turn.f
  have e : Int.tmod (a : Int) (w.length : Int) = ((a % w.length : Nat) : Int) := by
    rw [Int.tmod_eq_emod_of_nonneg (by omega)]; omega
  have hlt := Nat.mod_lt a hw
  rw [e, if_neg (by omega), if_neg (by omega)]
  simp only [Option.bind_some]
  rw [if_pos (by omega), if_pos (by omega), if_pos (by simp; omega), if_pos (by simp; omega)]
  simp only [Int.toNat_natCast, List.nil_append]; rfl

theorem spec_l1PickInt_is (b : List Int) (i h : Int) (l : List Int) (hb : b.length ≤ 1048576) (hi : 0 ≤ i) (h1 : 0 < l.length) (h2 : l.length ≤ 256) : ∃ x i' h', spec_l1PickInt.f b i h l = some (x, i', h') ∧ x ∈ l ∧ 0 ≤ i' := by
  obtain ⟨x, i', h', e, a, c, d⟩ := spec_l1Below_is b i h l.length hb hi (by omega) (by omega)
  unfold spec_l1PickInt.f
  rw [e]
  simp only [Option.bind_some]
  rw [if_pos a, if_pos c]
  refine ⟨_, _, _, rfl, ?_, d⟩
  have hx : x.toNat < l.length := by omega
  have : rd l x = l[x.toNat] := by simp [rd, hx]
  rw [this]; exact List.getElem_mem _

theorem rel_let {g : Int} (hg : g = 1 ∨ g = 2) : (∀ x ∈ relM g, letterB x = true) ∧ 0 < (relM g).length ∧ (relM g).length ≤ 8 := by
  rcases hg with rfl | rfl <;> decide
theorem turn_let {p : Int → Prop} {w : List Int} (h : ∀ x ∈ w, p x) (j : Nat) : ∀ x ∈ turnM w j, p x := by
  intro x hx
  unfold turnM at hx
  rcases List.mem_append.1 hx with h' | h'
  · exact h x (List.mem_of_mem_drop h')
  · exact h x (List.mem_of_mem_take h')
theorem letter_of_abs {x : Int} {q : Nat} (hq : q ≤ 4) (h : 1 ≤ x.natAbs ∧ x.natAbs ≤ q) : letterB x = true := by
  simp [letterB]; omega
theorem abs_of_letter {x : Int} (h : letterB x = true) : x.natAbs ≤ 9 := by
  have := letterB_of h; omega
theorem app_abs {a b : List Int} (ha : ∀ x ∈ a, x.natAbs ≤ 9) (hb : ∀ x ∈ b, x.natAbs ≤ 9) : ∀ x ∈ a ++ b, x.natAbs ≤ 9 := fun x hx => by
  rcases List.mem_append.1 hx with h | h
  · exact ha x h
  · exact hb x h
/-- a drawn word of a group -/
def wordD (w : List Int) : Prop := w.length ≤ 25 ∧ ∀ x ∈ w, x.natAbs ≤ 9
theorem spec_l8Draw_j2 (b : List Int) (hb : b.length ≤ 1048576) (g : Int) (w : List Int) (hw : w.length ≤ 24) (ha : ∀ x ∈ w, x.natAbs ≤ 9) (c h : Int) (hc : 0 ≤ c) : ∃ g' w' c' h', EV (fun k => spec_l8Draw.j2 k g w b c h) (g', w', c', h') ∧ wordD w' ∧ 0 ≤ c' := by
  obtain ⟨x, c1, h1, e1, _, _, k1⟩ := spec_l1Below_is b c h 20 hb hc (by omega) (by omega)
  obtain ⟨y, c2, h2, e2, _, k2⟩ := spec_l1PickInt_is b c1 h1 [0, 3, 1] hb k1 (by decide) (by decide)
  obtain ⟨z, c3, h3, e3, hz, k3⟩ := spec_l1PickInt_is b c1 h1 [3, 5, 9] hb k1 (by decide) (by decide)
  by_cases h0 : x = 0
  · refine ⟨y, w, c2, h2, EV.step (fun k => by rw [spec_l8Draw.j2]) (EV.by e1 (EV.pos h0 ?_)), ⟨by omega, ha⟩, k2⟩
    exact EV.by e2 (EV.now _)
  · by_cases h1' : x = 1
    · refine ⟨g, w ++ [z], c3, h3, EV.step (fun k => by rw [spec_l8Draw.j2]) (EV.by e1 (EV.neg h0 (EV.pos h1' ?_))), ⟨by simp; omega, app_abs ha (fun x hx => ?_)⟩, k3⟩
      · exact EV.by e3 (EV.pos (by omega) (EV.now _))
      rw [List.mem_singleton.1 hx]
      simp only [List.mem_cons, List.not_mem_nil, or_false] at hz
      omega
    · refine ⟨g, w, c1, h1, EV.step (fun k => by rw [spec_l8Draw.j2]) (EV.by e1 (EV.neg h0 (EV.neg h1' (EV.now _)))), ⟨by omega, ha⟩, k1⟩
theorem spec_l8Draw_j1 (b : List Int) (hb : b.length ≤ 1048576) (g : Int) (w : List Int) (hw : w.length ≤ 10000) (ha : ∀ x ∈ w, x.natAbs ≤ 9) (c h : Int) (hc : 0 ≤ c) : ∃ g' w' c' h', EV (fun k => spec_l8Draw.j1 k g w b c h) (g', w', c', h') ∧ wordD w' ∧ 0 ≤ c' := by
  by_cases h24 : (w.length : Int) > 24
  · obtain ⟨g', w', c', h', E, r, k⟩ := spec_l8Draw_j2 b hb g (w.take (24 : Int).toNat) (by rw [List.length_take]; omega) (fun x hx => ha x (List.mem_of_mem_take hx)) c h hc
    exact ⟨g', w', c', h', EV.step (fun k => by rw [spec_l8Draw.j1]) (EV.pos h24 (EV.pos (by omega) E)), r, k⟩
  · obtain ⟨g', w', c', h', E, r, k⟩ := spec_l8Draw_j2 b hb g w (by omega) ha c h hc
    exact ⟨g', w', c', h', EV.step (fun k => by rw [spec_l8Draw.j1]) (EV.neg h24 E), r, k⟩
theorem spec_l8Draw_l0 (b : List Int) (hb : b.length ≤ 1048576) (g : Nat) (hg : g = 1 ∨ g = 2) : ∀ (n : Nat) (w : List Int) (c h : Int), n ≤ 2 → w.length ≤ 1000 * (3 - n) → (∀ x ∈ w, x.natAbs ≤ 9) → 0 ≤ c → ∃ g' w' c' h', EV (fun k => spec_l8Draw.l0 k (g : Int) w (n : Int) b c h) (g', w', c', h') ∧ wordD w' ∧ 0 ≤ c'
  | 0, w, c, h, hn, hw, ha, hc => by
    obtain ⟨t, c1, h1, e1, k1⟩ := spec_l1Once_is b c h 2 hb hc (by omega) (by omega)
    by_cases ht : t = true
    · obtain ⟨v, c2, h2, E2, v1, v2, k2⟩ := spec_l2Draw_in b c1 h1 (2 * g) 4 hb k1 (by omega) (by omega) (by omega)
      obtain ⟨g', w', c', h', E, r, k⟩ := spec_l8Draw_j1 b hb (g : Int) (w ++ v) (by simp; omega) (app_abs ha (fun x hx => by have := (v2 x hx).2; omega)) c2 h2 k2
      refine ⟨g', w', c', h', EV.step (fun k => by rw [spec_l8Draw.l0]) (EV.neg (by omega) (EV.by e1 (EV.pos ht ?_))), r, k⟩
      rw [w64 (x := 2 * (g : Int)) (by omega) (by omega), show 2 * (g : Int) = ((2 * g : Nat) : Int) by omega]
      exact EV.bind E2 (EV.pos (show w.length + v.length < 17592186044416 by omega) E)
    · obtain ⟨g', w', c', h', E, r, k⟩ := spec_l8Draw_j1 b hb (g : Int) w (by omega) ha c1 h1 k1
      exact ⟨g', w', c', h', EV.step (fun k => by rw [spec_l8Draw.l0]) (EV.neg (by omega) (EV.by e1 (EV.neg ht E))), r, k⟩
  | n + 1, w, c, h, hn, hw, ha, hc => by
    obtain ⟨v, c1, h1, E1, v1, v2, k1⟩ := spec_l2Draw_in b c h (2 * g) 2 hb hc (by omega) (by omega) (by omega)
    have R := rel_let (g := (g : Int)) (by omega)
    obtain ⟨x, c2, h2, e2, x0, x1, k2⟩ := spec_l1Below_is b c1 h1 8 hb k1 (by omega) (by omega)
    obtain ⟨xn, rfl⟩ : ∃ m : Nat, x = m := ⟨x.toNat, by omega⟩
    have e3 := spec_l2Turn_is (relM (g : Int)) xn R.2.1 (by omega)
    have tl := turnM_len (relM (g : Int)) (xn % (relM (g : Int)).length) (Nat.le_of_lt (Nat.mod_lt _ R.2.1))
    have tb := turn_let R.1 (xn % (relM (g : Int)).length)
    generalize turnM (relM (g : Int)) (xn % (relM (g : Int)).length) = T at e3 tl tb
    obtain ⟨t, c3, h3, e4, k3⟩ := spec_l1Once_is b c2 h2 2 hb k2 (by omega) (by omega)
    have vb : ∀ x ∈ v, letterB x = true := fun x hx => letter_of_abs (q := 2 * g) (by omega) (v2 x hx)
    have I1 := spec_l2Inverse_is T tb (by omega)
    have I2 := spec_l2Inverse_is v vb (by omega)
    have li1 := invW_len T
    have li2 := invW_len v
    have go : ∀ S : List Int, S.length ≤ 8 → (∀ x ∈ S, x.natAbs ≤ 9) → ∃ g' w' c' h', EV (fun k => spec_l8Draw.l0 k (g : Int) ((w ++ v) ++ S ++ invW v) (n : Int) b c3 h3) (g', w', c', h') ∧ wordD w' ∧ 0 ≤ c' := fun S hS hS9 =>
      spec_l8Draw_l0 b hb g hg n ((w ++ v) ++ S ++ invW v) c3 h3 (by omega) (by simp; omega) (app_abs (app_abs (app_abs ha (fun x hx => abs_of_letter (vb x hx))) hS9) (invW_mem (p := fun x => x.natAbs ≤ 9) (fun x hx => by omega) (fun x hx => abs_of_letter (vb x hx)))) k3
    have em : wrap64 (((n + 1 : Nat) : Int) - 1) = (n : Int) := by rw [w64 (by omega) (by omega)]; omega
    by_cases ht : t = true
    · obtain ⟨g', w', c', h', E, r, k⟩ := go (invW T) (by omega) (invW_mem (p := fun x => x.natAbs ≤ 9) (fun x hx => by omega) (fun x hx => abs_of_letter (tb x hx)))
      refine ⟨g', w', c', h', EV.step (fun k => by rw [spec_l8Draw.l0]) (EV.pos (by omega) ?_), r, k⟩
      rw [w64 (x := 2 * (g : Int)) (by omega) (by omega), show 2 * (g : Int) = ((2 * g : Nat) : Int) by omega, em]
      refine EV.bind E1 (EV.by (spec_Relator_is _) (EV.by e2 (EV.by e3 (EV.by e4 (EV.pos ht (EV.bind I1 (EV.pos (show w.length + v.length < 17592186044416 by omega) (EV.by rfl (EV.pos (show (w ++ v).length + (invW T).length < 17592186044416 by rw [List.length_append]; omega) (EV.by rfl (EV.bind I2 (EV.pos (show ((w ++ v) ++ invW T).length + (invW v).length < 17592186044416 by rw [List.length_append, List.length_append]; omega) E))))))))))))
    · obtain ⟨g', w', c', h', E, r, k⟩ := go T (by omega) (fun x hx => abs_of_letter (tb x hx))
      refine ⟨g', w', c', h', EV.step (fun k => by rw [spec_l8Draw.l0]) (EV.pos (by omega) ?_), r, k⟩
      rw [w64 (x := 2 * (g : Int)) (by omega) (by omega), show 2 * (g : Int) = ((2 * g : Nat) : Int) by omega, em]
      refine EV.bind E1 (EV.by (spec_Relator_is _) (EV.by e2 (EV.by e3 (EV.by e4 (EV.neg ht (EV.pos (show w.length + v.length < 17592186044416 by omega) (EV.by rfl (EV.pos (show (w ++ v).length + T.length < 17592186044416 by rw [List.length_append]; omega) (EV.by rfl (EV.bind I2 (EV.pos (show ((w ++ v) ++ T).length + (invW v).length < 17592186044416 by rw [List.length_append, List.length_append]; omega) E)))))))))))
theorem spec_l8Draw_is (b : List Int) (c h : Int) (hb : b.length ≤ 1048576) (hc : 0 ≤ c) : ∃ g' w' c' h', EV (fun k => spec_l8Draw.f k b c h) (g', w', c', h') ∧ wordD w' ∧ 0 ≤ c' := by
  obtain ⟨x, c1, h1, e1, x0, x1, k1⟩ := spec_l1Below_is b c h 2 hb hc (by omega) (by omega)
  obtain ⟨y, c2, h2, e2, y0, y1, k2⟩ := spec_l1Below_is b c1 h1 3 hb k1 (by omega) (by omega)
  obtain ⟨n, rfl⟩ : ∃ m : Nat, y = m := ⟨y.toNat, by omega⟩
  obtain ⟨g', w', c', h', E, r, k⟩ := spec_l8Draw_l0 b hb (1 + x).toNat (by omega) n [] c2 h2 (by omega) (by simp) (fun _ h => absurd h (by simp)) k2
  refine ⟨g', w', c', h', EV.by e1 (EV.by e2 ?_), r, k⟩
  rw [w64 (x := 1 + x) (by omega) (by omega)]
  rw [Int.toNat_of_nonneg (by omega)] at E
  exact E

theorem spec_l1New_l0 (b : List Int) (hb : b.length ≤ 1048576) : ∀ (n i : Nat) (x : Int), i + n = b.length → ∃ h, EV (fun k => spec_l1New.l0 k b x (i : Int)) (b, 0, h)
  | 0, i, x, hi => ⟨x, EV.step (fun k => by rw [spec_l1New.l0]) (EV.neg (by omega) (EV.now _))⟩
  | n + 1, i, x, hi => by
    by_cases h4 : (i : Int) < 4000
    · obtain ⟨h, H⟩ := spec_l1New_l0 b hb n (i + 1) (Go.bits .and .i64 (wrap64 ((wrap64 ((wrap64 (x * 131)) + (wrap64 (rd b (i : Int))))) + 7)) 1073741823) (by omega)
      refine ⟨h, EV.step (fun k => by rw [spec_l1New.l0]) (EV.pos (by omega) (EV.pos h4 (EV.pos (by omega) ?_)))⟩
      rw [w64 (x := (i : Int) + 1) (by omega) (by omega)]
      rw [show ((i + 1 : Nat) : Int) = (i : Int) + 1 by omega] at H
      exact H
    · exact ⟨x, EV.step (fun k => by rw [spec_l1New.l0]) (EV.pos (by omega) (EV.neg h4 (EV.now _)))⟩
theorem spec_l1New_is (b : List Int) (hb : b.length ≤ 1048576) : ∃ h, EV (fun k => spec_l1New.f k b) (b, 0, h) :=
  spec_l1New_l0 b hb b.length 0 _ (by omega)

theorem spec_DrawIsTrivialWord_is (b : List Int) (hb : b.length ≤ 1048576) : ∃ (g : Int) (w : List Int), EV (fun k => spec_DrawIsTrivialWord.f k b) (g, w) ∧ wordD w := by
  obtain ⟨h, E⟩ := spec_l1New_is b hb
  obtain ⟨g, w, c, h', E2, r, _⟩ := spec_l8Draw_is b 0 h hb (by omega)
  exact ⟨g, w, EV.bind E (EV.bind E2 (EV.now _)), r⟩

theorem impl_within_is (a b c : Int) : impl_within.f a b c = some (decide (b ≤ a ∧ a ≤ c)) := by
  unfold impl_within.f
  by_cases h : a ≥ b
  · rw [if_pos h]; simp [show b ≤ a from h]
  · rw [if_neg h]; simp; omega

theorem impl_isLetter_is (a : Int) : impl_isLetter.f a = some (letterB a) := by
  unfold impl_isLetter.f
  rw [impl_within_is]
  by_cases h : a = 0
  · rw [if_pos h]; simp [letterB, h]
  · rw [if_neg h]; simp [letterB, h]

theorem impl_IsWord_is (xs : List Int) (hn : xs.length < 4611686018427387904) : EV (fun k => impl_IsWord.f k xs) (wordB xs) := by
  refine EV.scan (g := fun k i => impl_IsWord.l0 k xs xs (xs.length : Int) i) xs letterB (decide (xs.length ≤ 24)) (fun i h r H1 H2 => ?_) ?_
  · refine EV.step (fun k => by rw [impl_IsWord.l0]) ?_
    rw [rd_nat _ _ h, w64 (x := (i : Int) + 1) (by omega) (by omega)]
    refine EV.pos (by omega) (EV.pos (by omega) (EV.pos (by omega) (EV.by (impl_isLetter_is _) ?_)))
    exact EV.cases H1 (fun c => (EV.now _).eq (H2 (by simpa using c)).symm)
  · refine EV.step (fun k => by rw [impl_IsWord.l0]) ?_
    refine EV.neg (by omega) ((EV.now _).eq ?_)
    rw [Bool.eq_iff_iff]; simp; omega

theorem impl_size_is (a : Int) (h : -9223372036854775808 < a) (h' : a ≤ 9223372036854775807) : impl_size.f a = some (a.natAbs : Int) := by
  unfold impl_size.f mx
  rw [w64 (by omega) (by omega)]
  congr 1
  split <;> omega
theorem impl_size_some (a : Int) : ∃ r, impl_size.f a = some r := ⟨_, rfl⟩

theorem impl_hasLetters_is (xs : List Int) (m : Int) (hm : m < 9223372036854775807) (hn : xs.length < 4611686018427387904) (hw : ∀ x ∈ xs, (Lit.int .i64 x).wf = true) : EV (fun k => impl_hasLetters.f k xs m) (hasB m xs) := by
  by_cases lo : ∀ x ∈ xs, -9223372036854775808 < x
  · refine EV.scan (g := fun k i => impl_hasLetters.l0 k xs m xs (xs.length : Int) i) xs (leB m) (wordB xs) (fun i h r H1 H2 => ?_) ?_
    · have hx := wf64 (hw _ (List.getElem_mem h))
      have hx' := lo _ (List.getElem_mem h)
      refine EV.step (fun k => by rw [impl_hasLetters.l0]) ?_
      rw [rd_nat _ _ h, w64 (x := (i : Int) + 1) (by omega) (by omega)]
      refine EV.pos (by omega) (EV.pos (by omega) (EV.pos (by omega) (EV.by (impl_size_is _ hx' hx.2) ?_)))
      exact EV.cases (fun c => (EV.now _).eq (H2 (by simp [leB]; omega)).symm) (fun c => H1 (by simp [leB]; omega))
    · refine EV.step (fun k => by rw [impl_hasLetters.l0]) ?_
      exact EV.neg (by omega) (EV.bind (impl_IsWord_is xs hn) (EV.now _))
  · have no : wordB xs = false := by
      rw [Bool.eq_false_iff]
      intro c
      exact lo fun x hx => by have := letterB_of ((wordB_of c).1 x hx); omega
    have := EV.scan (g := fun k i => impl_hasLetters.l0 k xs m xs (xs.length : Int) i) xs (fun x => ((impl_size.f x).getD 0 ≤ m : Bool)) (wordB xs) (fun i h r H1 H2 => ?_) ?_
    · refine this.eq ?_
      rw [hasB, no, Bool.and_false, Bool.and_false]
    · obtain ⟨v, hv⟩ := impl_size_some xs[i]
      refine EV.step (fun k => by rw [impl_hasLetters.l0]) ?_
      rw [rd_nat _ _ h, w64 (x := (i : Int) + 1) (by omega) (by omega)]
      refine EV.pos (by omega) (EV.pos (by omega) (EV.pos (by omega) (EV.by hv ?_)))
      rw [hv] at H1 H2
      exact EV.cases (fun c => (EV.now _).eq (H2 (by simp; omega)).symm) (fun c => H1 (by simp; omega))
    · refine EV.step (fun k => by rw [impl_hasLetters.l0]) ?_
      exact EV.neg (by omega) (EV.bind (impl_IsWord_is xs hn) (EV.now _))

theorem impl_isGroupWord_is (g : Int) (xs : List Int) (hn : xs.length < 4611686018427387904) (hw : ∀ x ∈ xs, (Lit.int .i64 x).wf = true) : EV (fun k => impl_isGroupWord.f k g xs) (fitsB g xs) := by
  unfold fitsB
  refine EV.cases (fun h => ?_) (fun h => EV.cases (fun h' => ?_) (fun h' => ?_))
  · subst h; exact EV.bind (impl_hasLetters_is xs _ (by rw [w64 (by omega) (by omega)]; omega) hn hw) ((EV.now _).eq (by rw [w64 (by omega) (by omega)]; simp))
  · subst h'; exact EV.bind (impl_hasLetters_is xs _ (by rw [w64 (by omega) (by omega)]; omega) hn hw) ((EV.now _).eq (by rw [w64 (by omega) (by omega)]; simp))
  · refine (EV.now _).eq ?_
    rw [show decide (1 ≤ g ∧ g ≤ 2) = false by simp; omega, Bool.false_and]

theorem redM_take' (w : List Int) (i : Nat) (h : i < w.length) : redM (w.take (i + 1)) = redStep (redM (w.take i)) w[i] := by
  unfold redM
  rw [List.take_succ_eq_append_getElem h, List.foldl_append]; rfl
theorem impl_reduce_is (w : List Int) (hw : ∀ x ∈ w, letterB x = true) (hn : w.length < 4294967296) : EV (fun k => impl_reduce.f k w) (redM w) := by
  refine EV.count (g := fun k s i => impl_reduce.l0 k s w (w.length : Int) i) w.length (fun i => redM (w.take i)) _ (fun i h H => ?_) ?_
  · have hx := letterB_of (hw _ (List.getElem_mem h))
    have hl := redM_len (w.take i)
    rw [List.length_take] at hl
    rw [redM_take' w i h] at H
    refine EV.step (fun k => by rw [impl_reduce.l0]) ?_
    rw [rd_nat _ _ h, w64 (x := (i : Int) + 1) (by omega) (by omega), w64 (x := -w[i]) (by omega) (by omega)]
    refine EV.pos (by omega) (EV.pos (by omega) (EV.pos (by omega) ?_))
    generalize redM (w.take i) = s at *
    unfold redStep at H
    by_cases h0 : 0 < s.length
    · have e : rd s ((s.length : Int) - 1) = s.getD (s.length - 1) 0 := by
        unfold rd; rw [show ((s.length : Int) - 1).toNat = s.length - 1 by omega]
      rw [w64 (x := (s.length : Int) - 1) (by omega) (by omega), e]
      refine EV.pos (by omega) (EV.pos (by omega) (EV.pos (by omega) ?_))
      by_cases hc : s.getD (s.length - 1) 0 = -w[i]
      · rw [if_pos ⟨h0, hc⟩] at H
        refine EV.pos hc (EV.pos (by omega) ?_)
        rw [show ((s.length : Int) - 1).toNat = s.length - 1 by omega]
        exact H
      · rw [if_neg (fun c => hc c.2)] at H
        exact EV.neg hc (EV.pos (by omega) H)
    · rw [if_neg (fun c => h0 c.1)] at H
      exact EV.neg (by omega) (EV.pos (by omega) H)
  · refine EV.step (fun k => by rw [impl_reduce.l0]) ?_
    rw [List.take_length]
    exact EV.neg (by omega) (EV.now _)

theorem impl_relator_is (g : Int) : impl_relator.f g = some (if g = 1 then [1, 2, -1, -2] else [1, 2, -1, -2, 3, 4, -3, -4]) := by
  unfold impl_relator.f
  split <;> rfl

theorem impl_inverse_is (w : List Int) (hw : ∀ x ∈ w, letterB x = true) (hn : w.length < 4294967296) : EV (fun k => impl_inverse.f k w) (invW w) := by
  have h : ∀ (c i : Nat), i + c = w.length → EV (fun k => impl_inverse.l0 k w ((invW w).take i) ((c : Int) - 1)) (invW w) := by
    intro c
    induction c with
    | zero =>
      intro i hi
      refine EV.step (fun k => by rw [impl_inverse.l0]) ?_
      exact EV.neg (by omega) ((EV.now _).eq (by rw [List.take_of_length_le (by rw [invW_len]; omega)]))
    | succ c ih =>
      intro i hi
      have hc : c < w.length := by omega
      have hx := letterB_of (hw _ (List.getElem_mem hc))
      have hi' : i < (invW w).length := by rw [invW_len]; omega
      have e : (invW w)[i] = -w[c] := by
        rw [invW_get w i (by omega)]
        congr 2; omega
      have ih := ih (i + 1) (by omega)
      rw [List.take_succ_eq_append_getElem hi', e] at ih
      refine EV.step (fun k => by rw [impl_inverse.l0]) ?_
      rw [show ((c + 1 : Nat) : Int) - 1 = (c : Int) by omega, rd_nat _ _ hc, w64 (x := -w[c]) (by omega) (by omega), w64 (x := (c : Int) - 1) (by omega) (by omega)]
      exact EV.pos (by omega) (EV.pos (by omega) (EV.pos (by omega) (EV.pos (by simp; omega) ih)))
  have := h w.length 0 (by omega)
  rw [List.take_zero] at this
  refine EV.congr (fun k => ?_) this
  rw [impl_inverse.f, w64 (by omega) (by omega)]

theorem lcpM_drop' (u v : List Int) (i : Nat) (hu : i < u.length) (hv : i < v.length) : lcpM (u.drop i) (v.drop i) = if u[i] = v[i] then lcpM (u.drop (i + 1)) (v.drop (i + 1)) + 1 else 0 := by
  rw [List.drop_eq_getElem_cons hu, List.drop_eq_getElem_cons hv, lcpM]
theorem lcpM_end' (u v : List Int) (i : Nat) (h : u.length ≤ i ∨ v.length ≤ i) : lcpM (u.drop i) (v.drop i) = 0 := by
  rcases h with h | h
  · rw [List.drop_of_length_le h]; simp [lcpM]
  · rw [List.drop_of_length_le h]; cases u.drop i <;> simp [lcpM]
theorem impl_common_is (w r : List Int) (p j : Nat) (hj : j < r.length) (hp : p ≤ w.length) (hn : r.length < 4294967296) (hw : w.length < 4294967296) : EV (fun k => impl_common.f k w (p : Int) r (j : Int)) (lcpM (w.drop p) (turnM r j) : Int) := by
  have hl := turnM_len r j (by omega)
  have h : ∀ (n i : Nat), i + n = r.length → EV (fun k => impl_common.l0 k w (p : Int) r (j : Int) (i : Int)) (((i + lcpM ((w.drop p).drop i) ((turnM r j).drop i) : Nat)) : Int) := by
    intro n
    induction n with
    | zero =>
      intro i hi
      refine EV.step (fun k => by rw [impl_common.l0]) ?_
      exact EV.neg (by omega) ((EV.now _).eq (by rw [lcpM_end' _ _ _ (Or.inr (by omega))]; rfl))
    | succ n ih =>
      intro i hi
      have hv : i < (turnM r j).length := by omega
      have em : Int.tmod ((j : Int) + (i : Int)) (r.length : Int) = (((j + i) % r.length : Nat) : Int) := by
        rw [show (j : Int) + (i : Int) = ((j + i : Nat) : Int) by omega, Int.tmod_eq_emod_of_nonneg (by omega)]; omega
      have hm := Nat.mod_lt (j + i) (show 0 < r.length by omega)
      refine EV.step (fun k => by rw [impl_common.l0]) ?_
      rw [w64 (x := (p : Int) + (i : Int)) (by omega) (by omega), w64 (x := (j : Int) + (i : Int)) (by omega) (by omega), em, w64 (x := (i : Int) + 1) (by omega) (by omega)]
      refine EV.pos (by omega) ?_
      by_cases hu : p + i < w.length
      · have hu' : i < (w.drop p).length := by rw [List.length_drop]; omega
        rw [lcpM_drop' _ _ i hu' hv, show (p : Int) + (i : Int) = ((p + i : Nat) : Int) by omega, rd_nat _ _ hu, rd_nat _ _ hm]
        refine EV.pos (by omega) (EV.pos (by omega) (EV.neg (by omega) (EV.pos (by omega) (EV.pos (by omega) ?_))))
        have e1 : (w.drop p)[i] = w[p + i] := by rw [List.getElem_drop]
        have e2 : (turnM r j)[i] = r[(j + i) % r.length] := turnM_get r j i hj (by omega)
        rw [e1, e2]
        by_cases c : w[p + i] = r[(j + i) % r.length]
        · rw [if_pos c]
          exact EV.pos c ((ih (i + 1) (by omega)).eq (by omega))
        · rw [if_neg c]
          exact EV.neg c (EV.now _)
      · rw [lcpM_end' _ _ _ (Or.inl (by rw [List.length_drop]; omega))]
        exact EV.neg (by omega) (EV.now _)
  have := h r.length 0 (by omega)
  exact EV.congr (fun k => rfl) (this.eq (by simp))

theorem impl_copyOf_is (w : List Int) (hn : w.length < 4294967296) : impl_copyOf.f w = some w := by
  unfold impl_copyOf.f
  simp only [Option.bind_some]
  rw [if_pos (by simp; omega)]; simp

theorem impl_mod_is (a n : Nat) (hn : 0 < n) : impl_mod.f (a : Int) (n : Int) = some ((a % n : Nat) : Int) := by
  unfold impl_mod.f
  have e : Int.tmod (a : Int) (n : Int) = ((a % n : Nat) : Int) := by
    rw [Int.tmod_eq_emod_of_nonneg (by omega)]; omega
  rw [e, if_neg (by omega), if_neg (by omega)]

theorem impl_turn_is (w : List Int) (a : Nat) (hw : 0 < w.length) (hn : w.length < 4294967296) : impl_turn.f w (a : Int) = some (turnM w (a % w.length)) := by
  unfold impl_turn.f
  have hlt := Nat.mod_lt a hw
  rw [impl_mod_is a w.length hw, if_neg (by omega)]
  simp only [Option.bind_some]
  rw [if_pos (by omega), if_pos (by omega), impl_copyOf_is _ (by simp; omega)]
  simp only [Option.bind_some]
  rw [if_pos (by simp; omega)]
  simp only [Int.toNat_natCast]; rfl

theorem impl_DehnStep_l2 (g : Int) (w R : List Int) (i : Nat) (q : List (List Int)) (y : Nat) (m z : Int) (rg : g = 1 ∨ g = 2) (hR : R.length = (4 * g).toNat) (hw : w.length ≤ 24) (hi : i < w.length) (r : List Int × Bool) (s : Nat × List Int)
    (H : EV (fun k => impl_DehnStep.l1 k g w (i : Int) ((((List.range R.length).map fun j => (R, j)).foldl (updM (w.drop i)) s).1 : Int) (((List.range R.length).map fun j => (R, j)).foldl (updM (w.drop i)) s).2 m z q (q.length : Int) ((y : Int) + 1)) r) (hy : y < 16) :
    EV (fun k => impl_DehnStep.l2 k g w (i : Int) (s.1 : Int) s.2 R m z q (q.length : Int) (y : Int) (R.length : Int) 0) r := by
  have hlen : ((List.range R.length).map fun j => (R, j)).length = R.length := by simp
  refine EV.foldC (g := fun k (s : Nat × List Int) x => impl_DehnStep.l2 k g w (i : Int) (s.1 : Int) s.2 R m z q (q.length : Int) (y : Int) (R.length : Int) x) ((List.range R.length).map fun j => (R, j)) (updM (w.drop i)) (fun _ _ => True) r (fun x hx s _ H => ?_) s trivial (fun _ => ?_)
  · have H := H trivial
    rw [hlen] at hx
    have e : ((List.range R.length).map fun j => (R, j))[x] = (R, x) := by simp
    rw [e] at H
    have hl := turnM_len R x (by omega)
    have hb := lcpM_le2 (w.drop i) (turnM R x)
    refine EV.step (fun k => by rw [impl_DehnStep.l2]) ?_
    refine EV.pos (by omega) (EV.bind (impl_common_is w R i x hx (by omega) (by omega) (by omega)) ?_)
    unfold updM at H
    rw [w64 (x := (x : Int) + 1) (by omega) (by omega)]
    by_cases c : s.1 < lcpM (w.drop i) (turnM R x)
    · rw [if_pos c] at H
      rw [w64 (x := (x : Int) + (lcpM (w.drop i) (turnM R x) : Int)) (by omega) (by omega), w64 (x := (R.length : Int) - (lcpM (w.drop i) (turnM R x) : Int)) (by omega) (by omega), show (x : Int) + (lcpM (w.drop i) (turnM R x) : Int) = ((x + lcpM (w.drop i) (turnM R x) : Nat) : Int) by omega]
      have hmod := Nat.mod_lt (x + lcpM (w.drop i) (turnM R x)) (show 0 < R.length by omega)
      have hl2 := turnM_len R ((x + lcpM (w.drop i) (turnM R x)) % R.length) (by omega)
      refine EV.pos (by omega) (EV.by (impl_turn_is R _ (by omega) (by omega)) (EV.pos (by omega) (EV.pos (by omega) ?_)))
      have et : (turnM R ((x + lcpM (w.drop i) (turnM R x)) % R.length)).take ((R.length : Int) - (lcpM (w.drop i) (turnM R x) : Int)).toNat = (turnM R x).drop (lcpM (w.drop i) (turnM R x)) := by
        apply List.ext_getElem
        · simp only [List.length_take, List.length_drop]; omega
        · intro k h1 h2
          rw [List.length_drop] at h2
          rw [List.getElem_take, List.getElem_drop, turnM_get R _ k hmod (by omega), turnM_get R x _ hx (by omega)]
          congr 1
          rw [Nat.mod_add_mod]; congr 1; omega
      rw [et]
      exact H
    · rw [if_neg c] at H
      exact EV.neg (by omega) H
  · refine EV.step (fun k => by rw [impl_DehnStep.l2]) ?_
    rw [hlen, w64 (x := (y : Int) + 1) (by omega) (by omega)]
    exact EV.neg (by omega) H
theorem impl_DehnStep_l0 (g : Int) (w : List Int) (h : okW g w) : ∀ (n i : Nat), i + n = w.length → EV (fun k => impl_DehnStep.l0 k g w (w.length : Int) (i : Int)) (stepFrom g w n i) := by
  have rg := h.1
  have RG := relG_ok rg
  have hw := h.2.2
  have er : (if g = 1 then [1, 2, -1, -2] else [1, 2, -1, -2, 3, 4, -3, -4] : List Int) = relG g := rfl
  intro n
  induction n with
  | zero =>
    intro i hi
    refine EV.step (fun k => by rw [impl_DehnStep.l0]) ?_
    exact EV.neg (by omega) (EV.now _)
  | succ n ih =>
    intro i hi
    have e2 : wrap64 (2 * g) = (((2 * g).toNat : Nat) : Int) := by rw [w64 (by omega) (by omega)]; omega
    have bo := bestM_of (w.drop i) (2 * g).toNat (pairsM (relG g))
    refine EV.step (fun k => by rw [impl_DehnStep.l0]) ?_
    rw [e2]
    refine EV.pos (by omega) (EV.by (impl_relator_is g) (EV.by (impl_relator_is g) ?_))
    rw [er]
    refine EV.bind (impl_inverse_is _ (fun y hy => (RG.2 y hy).1) (by omega)) (EV.by rfl ?_)
    have fin : EV (fun k => impl_DehnStep.l1 k g w (i : Int) ((bestM (w.drop i) (2 * g).toNat (pairsM (relG g))).1 : Int) (bestM (w.drop i) (2 * g).toNat (pairsM (relG g))).2 (w.length : Int) (i : Int) [relG g, invW (relG g)] 2 2) (stepFrom g w (n + 1) i) := by
      have b := bestAt_I rg w i
      refine EV.step (fun k => by rw [impl_DehnStep.l1]) ?_
      refine EV.neg (by omega) ?_
      unfold stepFrom
      by_cases c : 2 * g < ((bestAt g w i).1 : Int)
      · rw [if_pos c]
        have eb : bestM (w.drop i) (2 * g).toNat (pairsM (relG g)) = bestAt g w i := bo.2 (by unfold bestAt at c; omega)
        rw [eb]
        have hinv : (invW (bestAt g w i).2).length ≤ 8 := by rw [invW_len]; rcases b.2.1 with e | e; omega; rw [e]; simp
        rw [e2, w64 (x := (i : Int) + ((bestAt g w i).1 : Int)) (by omega) (by omega)]
        refine EV.pos (by omega) (EV.pos (by omega) (EV.pos (by omega) (EV.by (impl_copyOf_is _ (by simp; omega)) (EV.bind (impl_inverse_is _ (fun y hy => (b.2.2 y hy).1) (by rw [← invW_len]; omega)) (EV.pos (by simp; omega) (EV.by rfl (EV.pos (by omega) (EV.pos (by omega) (EV.by rfl (EV.pos (by simp; omega) ?_))))))))))
        have ee : (w.take ((i : Int)).toNat ++ invW (bestAt g w i).2) ++ w.drop (((i : Int) + ((bestAt g w i).1 : Int))).toNat = w.take i ++ invW (bestAt g w i).2 ++ w.drop (i + (bestAt g w i).1) := by
          rw [show ((i : Int) + ((bestAt g w i).1 : Int)).toNat = i + (bestAt g w i).1 by omega, Int.toNat_natCast]
        rw [ee]
        have hl : ∀ y ∈ w.take i ++ invW (bestAt g w i).2 ++ w.drop (i + (bestAt g w i).1), letterB y = true := by
          intro y hy
          rw [List.append_assoc, List.mem_append, List.mem_append] at hy
          rcases hy with h' | h' | h'
          · exact (h.2.1 y (List.mem_of_mem_take h')).1
          · exact (invW_mem (p := okL g) (fun x hx => okL_neg hx) b.2.2 y h').1
          · exact (h.2.1 y (List.mem_of_mem_drop h')).1
        exact EV.bind (impl_reduce_is _ hl (by simp only [List.length_append, List.length_take, List.length_drop]; omega)) (EV.now _)
      · rw [if_neg c]
        have c' : ¬ (2 * g).toNat < (bestM (w.drop i) 0 (pairsM (relG g))).1 := by unfold bestAt at c; omega
        rw [bo.1] at c'
        rw [e2, w64 (x := (i : Int) + 1) (by omega) (by omega)]
        exact EV.neg (by omega) (ih (i + 1) (by omega))
    have efold : bestM (w.drop i) (2 * g).toNat (pairsM (relG g)) = ((List.range (invW (relG g)).length).map fun j => (invW (relG g), j)).foldl (updM (w.drop i)) (((List.range (relG g).length).map fun j => (relG g, j)).foldl (updM (w.drop i)) ((2 * g).toNat, [])) := by
      unfold bestM pairsM
      rw [List.foldl_append, invW_len]
    rw [efold] at fin
    refine EV.step (fun k => by rw [impl_DehnStep.l1]) ?_
    refine EV.pos (by simp) (EV.pos (by omega) (EV.pos (by simp) ?_))
    refine impl_DehnStep_l2 g w (relG g) i [relG g, invW (relG g)] 0 (w.length : Int) (i : Int) rg RG.1 hw (by omega) _ ((2 * g).toNat, []) ?_ (by omega)
    refine EV.step (fun k => by rw [impl_DehnStep.l1]) ?_
    refine EV.pos (by simp) (EV.pos (by omega) (EV.pos (by simp) ?_))
    exact impl_DehnStep_l2 g w (invW (relG g)) i [relG g, invW (relG g)] 1 (w.length : Int) (i : Int) rg (by rw [invW_len]; exact RG.1) hw (by omega) _ _ fin (by omega)
def dehnStepM (g : Int) (w : List Int) : List Int × Bool := if fitsB g w = true then dstepM g (redM w) else ([], false)
theorem impl_DehnStep_is (g : Int) (w : List Int) (hn : w.length < 4294967296) (hw : ∀ x ∈ w, (Lit.int .i64 x).wf = true) : EV (fun k => impl_DehnStep.f k g w) (dehnStepM g w) := by
  unfold dehnStepM
  refine EV.bind (impl_isGroupWord_is g w (by omega) hw) ?_
  by_cases h : fitsB g w = true
  · rw [if_pos h]
    have ok := fits_ok h
    refine EV.pos h (EV.bind (impl_reduce_is w (fun x hx => (ok.2.1 x hx).1) hn) ?_)
    exact impl_DehnStep_l0 g (redM w) (red_ok ok) (redM w).length 0 (by omega)
  · rw [if_neg h]
    exact EV.neg h (EV.now _)

theorem spec_l1In_is (a b c : Int) : spec_l1In.f a b c = some (decide (b ≤ a ∧ a ≤ c)) := by
  unfold spec_l1In.f
  by_cases h : a ≥ b
  · rw [if_pos h]; simp [show b ≤ a from h]
  · rw [if_neg h]; simp; omega

theorem spec_l2Letter_is (a : Int) : spec_l2Letter.f a = some (letterB a) := by
  unfold spec_l2Letter.f
  rw [spec_l1In_is, spec_l1In_is]
  simp only [Option.bind_some]
  by_cases h : 1 ≤ a ∧ a ≤ 8
  · rw [if_pos (by simp [h])]; simp [letterB]; omega
  · rw [if_neg (by simpa using h)]; simp [letterB]; congr 1; rw [Bool.eq_iff_iff]; simp; omega

theorem spec_IsWord_is (xs : List Int) (hn : xs.length < 4611686018427387904) : EV (fun k => spec_IsWord.f k xs) (wordB xs) := by
  refine EV.scan (g := fun k i => spec_IsWord.l0 k xs i) xs letterB (decide (xs.length ≤ 24)) (fun i h r H1 H2 => ?_) ?_
  · refine EV.step (fun k => by rw [spec_IsWord.l0]) ?_
    rw [rd_nat _ _ h, w64 (x := (i : Int) + 1) (by omega) (by omega)]
    refine EV.pos (by omega) (EV.pos (by omega) (EV.by (spec_l2Letter_is _) ?_))
    exact EV.cases H1 (fun c => (EV.now _).eq (H2 (by simpa using c)).symm)
  · refine EV.step (fun k => by rw [spec_IsWord.l0]) ?_
    refine EV.neg (by omega) ((EV.now _).eq ?_)
    rw [Bool.eq_iff_iff]; simp; omega

theorem spec_l1Max_is (a b : Int) : spec_l1Max.f a b = some (if a > b then a else b) := by
  unfold spec_l1Max.f; split <;> rfl

theorem spec_l3Abs_is (a : Int) (h : -9223372036854775808 < a) (h' : a ≤ 9223372036854775807) : spec_l3Abs.f a = some (a.natAbs : Int) := by
  unfold spec_l3Abs.f
  rw [spec_l1Max_is, w64 (by omega) (by omega)]
  simp only [Option.bind_some]
  congr 1
  split <;> omega

theorem spec_l8Fits_is (g : Int) (xs : List Int) (hn : xs.length < 4611686018427387904) : EV (fun k => spec_l8Fits.f k g xs) (fitsB g xs) := by
  have no : EV (fun k => spec_l8Fits.j0 k g xs true) false := by
    refine EV.step (fun k => by rw [spec_l8Fits.j0]) ?_
    exact EV.pos rfl (EV.now _)
  unfold fitsB hasB
  refine EV.by (spec_l1In_is _ _ _) ?_
  by_cases h1 : 1 ≤ g ∧ g ≤ 2
  · refine EV.pos (by simpa using h1) (EV.bind (spec_IsWord_is xs hn) ?_)
    rw [show decide (1 ≤ g ∧ g ≤ 2) = true by simpa using h1, Bool.true_and]
    by_cases h2 : wordB xs = true
    · rw [h2]
      refine EV.step (fun k => by rw [spec_l8Fits.j0]) ?_
      refine EV.neg (by simp) ?_
      refine EV.scan (g := fun k i => spec_l8Fits.l0 k g xs i) xs (leB (2 * g)) true (fun i h r H1 H2 => ?_) ?_
      · have hx := letterB_of (all_getElem (wordB_of h2).1 i h)
        refine EV.step (fun k => by rw [spec_l8Fits.l0]) ?_
        rw [rd_nat _ _ h, w64 (x := (i : Int) + 1) (by omega) (by omega), w64 (x := 2 * g) (by omega) (by omega)]
        refine EV.pos (by omega) (EV.pos (by omega) (EV.by (spec_l3Abs_is _ (by omega) (by omega)) ?_))
        exact EV.cases (fun c => (EV.now _).eq (H2 (by simp [leB]; omega)).symm) (fun c => H1 (by simp [leB]; omega))
      · refine EV.step (fun k => by rw [spec_l8Fits.l0]) ?_
        exact EV.neg (by omega) (EV.now _)
    · rw [show wordB xs = false by simpa using h2, Bool.and_false]; exact no
  · rw [show decide (1 ≤ g ∧ g ≤ 2) = false by simpa using h1, Bool.false_and]
    exact EV.neg (by simpa using h1) no

theorem redM_take (w : List Int) (i : Nat) (h : i < w.length) : redM (w.take (i + 1)) = redStep (redM (w.take i)) w[i] := by
  unfold redM
  rw [List.take_succ_eq_append_getElem h, List.foldl_append]; rfl
theorem spec_l2Reduce_is (w : List Int) (hw : ∀ x ∈ w, letterB x = true) (hn : w.length < 4294967296) : EV (fun k => spec_l2Reduce.f k w) (redM w) := by
  refine EV.count (g := fun k s i => spec_l2Reduce.l0 k w s i) w.length (fun i => redM (w.take i)) _ (fun i h H => ?_) ?_
  · have hx := letterB_of (hw _ (List.getElem_mem h))
    have hl := redM_len (w.take i)
    rw [List.length_take] at hl
    rw [redM_take w i h] at H
    refine EV.step (fun k => by rw [spec_l2Reduce.l0]) ?_
    rw [rd_nat _ _ h, w64 (x := (i : Int) + 1) (by omega) (by omega), w64 (x := -w[i]) (by omega) (by omega)]
    refine EV.pos (by omega) ?_
    generalize redM (w.take i) = s at *
    unfold redStep at H
    by_cases h0 : 0 < s.length
    · have e : rd s ((s.length : Int) - 1) = s.getD (s.length - 1) 0 := by
        unfold rd; rw [show ((s.length : Int) - 1).toNat = s.length - 1 by omega]
      rw [w64 (x := (s.length : Int) - 1) (by omega) (by omega), e]
      refine EV.pos (by omega) (EV.pos (by omega) (EV.pos (by omega) (EV.pos (by omega) ?_)))
      by_cases hc : s.getD (s.length - 1) 0 = -w[i]
      · rw [if_pos ⟨h0, hc⟩] at H
        refine EV.pos hc (EV.pos (by omega) ?_)
        rw [show ((s.length : Int) - 1).toNat = s.length - 1 by omega]
        exact H
      · rw [if_neg (fun c => hc c.2)] at H
        exact EV.neg hc (EV.pos (by omega) H)
    · rw [if_neg (fun c => h0 c.1)] at H
      exact EV.neg (by omega) (EV.pos (by omega) (EV.pos (by omega) H))
  · refine EV.step (fun k => by rw [spec_l2Reduce.l0]) ?_
    rw [List.take_length]
    exact EV.neg (by omega) (EV.now _)

theorem lcpM_drop (u v : List Int) (i : Nat) (hu : i < u.length) (hv : i < v.length) : lcpM (u.drop i) (v.drop i) = if u[i] = v[i] then lcpM (u.drop (i + 1)) (v.drop (i + 1)) + 1 else 0 := by
  rw [List.drop_eq_getElem_cons hu, List.drop_eq_getElem_cons hv, lcpM]
theorem lcpM_end (u v : List Int) (i : Nat) (h : u.length ≤ i ∨ v.length ≤ i) : lcpM (u.drop i) (v.drop i) = 0 := by
  rcases h with h | h
  · rw [List.drop_of_length_le h]; simp [lcpM]
  · rw [List.drop_of_length_le h]; cases u.drop i <;> simp [lcpM]
theorem spec_l8Match_is (u v : List Int) (hn : v.length < 4294967296) : EV (fun k => spec_l8Match.f k u v (v.length : Int)) (lcpM u v : Int) := by
  have h : ∀ (n i : Nat), i + n = v.length → EV (fun k => spec_l8Match.l0 k u v (v.length : Int) (i : Int)) (((i + lcpM (u.drop i) (v.drop i) : Nat)) : Int) := by
    intro n
    induction n with
    | zero =>
      intro i hi
      refine EV.step (fun k => by rw [spec_l8Match.l0]) ?_
      exact EV.neg (by omega) ((EV.now _).eq (by rw [lcpM_end _ _ _ (Or.inr (by omega))]; rfl))
    | succ n ih =>
      intro i hi
      have hv : i < v.length := by omega
      refine EV.step (fun k => by rw [spec_l8Match.l0]) ?_
      refine EV.pos (by omega) ?_
      by_cases hu : i < u.length
      · rw [lcpM_drop u v i hu hv, rd_nat _ _ hu, rd_nat _ _ hv, w64 (x := (i : Int) + 1) (by omega) (by omega)]
        refine EV.pos (by omega) (EV.pos (by omega) (EV.pos (by omega) ?_))
        by_cases c : u[i] = v[i]
        · rw [if_pos c]
          exact EV.pos c ((ih (i + 1) (by omega)).eq (by omega))
        · rw [if_neg c]
          exact EV.neg c (EV.now _)
      · rw [lcpM_end _ _ _ (Or.inl (by omega))]
        exact EV.neg (by omega) (EV.now _)
  have := h v.length 0 (by omega)
  exact EV.congr (fun k => rfl) (this.eq (by simp))

theorem spec_l8Step_j2 (g : Int) (w R : List Int) (i : Nat) (s : Nat × List Int) (x : Nat) (rg : g = 1 ∨ g = 2) (hR : R.length = (4 * g).toNat) (hRo : ∀ y ∈ R, letterB y = true) (hw : w.length ≤ 24) (hi : i < w.length) (hx : x < 16) (r : List Int × Bool)
    (H : EV (fun k => spec_l8Step.l1 k g w (i : Int) ((updM (w.drop i) s (R, x % R.length)).1 : Int) (invW (updM (w.drop i) s (R, x % R.length)).2) ((x : Int) + 1)) r) :
    EV (fun k => spec_l8Step.j2 k g w (i : Int) (s.1 : Int) (invW s.2) (x : Int) R) r := by
  have hR0 : 0 < R.length := by omega
  have hm := Nat.mod_lt x hR0
  have hl := turnM_len R (x % R.length) (by omega)
  have e4 : wrap64 (4 * g) = ((turnM R (x % R.length)).length : Int) := by rw [w64 (by omega) (by omega)]; omega
  have hb := lcpM_le2 (w.drop i) (turnM R (x % R.length))
  have hmem : ∀ y ∈ turnM R (x % R.length), letterB y = true := by
    intro y hy
    simp only [turnM, List.mem_append] at hy
    rcases hy with h' | h'
    · exact hRo y (List.mem_of_mem_drop h')
    · exact hRo y (List.mem_of_mem_take h')
  refine EV.step (fun k => by rw [spec_l8Step.j2]) ?_
  refine EV.by (spec_l2Turn_is R x hR0 (by omega)) (EV.pos (by omega) (EV.pos (by omega) ?_))
  rw [e4, show ((i : Int)).toNat = i from rfl]
  refine EV.bind (spec_l8Match_is (w.drop i) (turnM R (x % R.length)) (by omega)) ?_
  unfold updM at H
  rw [w64 (x := (x : Int) + 1) (by omega) (by omega)]
  by_cases c : s.1 < lcpM (w.drop i) (turnM R (x % R.length))
  · rw [if_pos c] at H
    refine EV.pos (by omega) (EV.pos (by omega) (EV.pos (by omega) ?_))
    rw [show ((lcpM (w.drop i) (turnM R (x % R.length)) : Int)).toNat = lcpM (w.drop i) (turnM R (x % R.length)) from rfl]
    exact EV.bind (spec_l2Inverse_is _ (fun y hy => hmem y (List.mem_of_mem_drop hy)) (by rw [List.length_drop]; omega)) H
  · rw [if_neg c] at H
    exact EV.neg (by omega) H
theorem relM_relG {g : Int} (rg : g = 1 ∨ g = 2) : relM g = relG g := by
  rcases rg with rfl | rfl <;> rfl
theorem spec_l8Step_l0 (g : Int) (w : List Int) (h : okW g w) : ∀ (n i : Nat), i + n = w.length → EV (fun k => spec_l8Step.l0 k g w (i : Int)) (stepFrom g w n i) := by
  have rg := h.1
  have RG := relG_ok rg
  have hw := h.2.2
  have PO := pairs_ok rg
  have hlen : (pairsM (relG g)).length = (8 * g).toNat := by simp [pairsM]; omega
  intro n
  induction n with
  | zero =>
    intro i hi
    refine EV.step (fun k => by rw [spec_l8Step.l0]) ?_
    exact EV.neg (by omega) (EV.now _)
  | succ n ih =>
    intro i hi
    refine EV.step (fun k => by rw [spec_l8Step.l0]) ?_
    refine EV.pos (by omega) ?_
    have := EV.foldC (g := fun k (s : Nat × List Int) x => spec_l8Step.l1 k g w (i : Int) (s.1 : Int) (invW s.2) x) (pairsM (relG g)) (updM (w.drop i)) (fun _ _ => True) (stepFrom g w (n + 1) i) (fun x hx s _ H => ?_) (0, []) trivial (fun _ => ?_)
    · exact this
    · have H := H trivial
      rw [hlen] at hx
      refine EV.step (fun k => by rw [spec_l8Step.l1]) ?_
      rw [w64 (x := 8 * g) (by omega) (by omega), w64 (x := 4 * g) (by omega) (by omega)]
      refine EV.pos (by omega) (EV.by (spec_Relator_is _) ?_)
      rw [relM_relG rg]
      by_cases c : x < (relG g).length
      · have e : (pairsM (relG g))[x] = (relG g, x % (relG g).length) := by
          rw [Nat.mod_eq_of_lt c]
          simp only [pairsM]
          rw [List.getElem_append_left (by simpa using c)]
          simp
        rw [e] at H
        exact EV.neg (by omega) (spec_l8Step_j2 g w (relG g) i s x rg RG.1 (fun y hy => (RG.2 y hy).1) hw (by omega) (by omega) _ H)
      · have e : (pairsM (relG g))[x] = (invW (relG g), x % (invW (relG g)).length) := by
          have : x % (relG g).length = x - (relG g).length := by
            rw [Nat.mod_eq_sub_mod (by omega), Nat.mod_eq_of_lt (by omega)]
          rw [invW_len, this]
          simp only [pairsM]
          rw [List.getElem_append_right (by simpa using c)]
          simp
        rw [e] at H
        refine EV.pos (by omega) (EV.bind (spec_l2Inverse_is _ (fun y hy => (RG.2 y hy).1) (by omega)) ?_)
        exact spec_l8Step_j2 g w (invW (relG g)) i s x rg (by rw [invW_len]; exact RG.1) (fun y hy => (invW_mem (p := okL g) (fun x hx => okL_neg hx) RG.2 y hy).1) hw (by omega) (by omega) _ H
    · have b := bestAt_I rg w i
      have eb : bestAt g w i = (pairsM (relG g)).foldl (updM (w.drop i)) (0, []) := rfl
      rw [← eb]
      refine EV.step (fun k => by rw [spec_l8Step.l1]) ?_
      rw [hlen, w64 (x := 8 * g) (by omega) (by omega), w64 (x := 2 * g) (by omega) (by omega), w64 (x := (i : Int) + ((bestAt g w i).1 : Int)) (by omega) (by omega), w64 (x := (i : Int) + 1) (by omega) (by omega)]
      refine EV.neg (by omega) ?_
      unfold stepFrom
      by_cases c : 2 * g < ((bestAt g w i).1 : Int)
      · rw [if_pos c]
        have hinv : (invW (bestAt g w i).2).length ≤ 8 := by rw [invW_len]; rcases b.2.1 with e | e; omega; rw [e]; simp
        refine EV.pos (by omega) (EV.by rfl (EV.pos (by omega) (EV.pos (by omega) (EV.pos (by simp; omega) (EV.by rfl (EV.pos (by simp; omega) (EV.by rfl (EV.pos (by omega) (EV.pos (by omega) (EV.pos (by simp; omega) ?_))))))))))
        have ee : ([] ++ w.take ((i : Int)).toNat ++ invW (bestAt g w i).2) ++ w.drop (((i : Int) + ((bestAt g w i).1 : Int))).toNat = w.take i ++ invW (bestAt g w i).2 ++ w.drop (i + (bestAt g w i).1) := by
          rw [List.nil_append, show ((i : Int) + ((bestAt g w i).1 : Int)).toNat = i + (bestAt g w i).1 by omega, Int.toNat_natCast]
        rw [ee]
        have hl : ∀ y ∈ w.take i ++ invW (bestAt g w i).2 ++ w.drop (i + (bestAt g w i).1), letterB y = true := by
          intro y hy
          rw [List.append_assoc, List.mem_append, List.mem_append] at hy
          rcases hy with h' | h' | h'
          · exact (h.2.1 y (List.mem_of_mem_take h')).1
          · exact (invW_mem (p := okL g) (fun x hx => okL_neg hx) b.2.2 y h').1
          · exact (h.2.1 y (List.mem_of_mem_drop h')).1
        exact EV.bind (spec_l2Reduce_is _ hl (by simp only [List.length_append, List.length_take, List.length_drop]; omega)) (EV.now _)
      · rw [if_neg c]
        exact EV.neg (by omega) (ih (i + 1) (by omega))
theorem spec_l8Step_is (g : Int) (w : List Int) (h : okW g w) : EV (fun k => spec_l8Step.f k g w) (dstepM g w) := spec_l8Step_l0 g w h w.length 0 (by omega)

theorem spec_DehnStep_is (g : Int) (w : List Int) (hn : w.length < 4294967296) : EV (fun k => spec_DehnStep.f k g w) (if fitsB g w = true then dstepM g (redM w) else ([], false)) := by
  refine EV.bind (spec_l8Fits_is g w (by omega)) ?_
  by_cases h : fitsB g w = true
  · rw [if_pos h]
    have ok := fits_ok h
    exact EV.pos h (EV.bind (spec_l2Reduce_is w (fun x hx => (ok.2.1 x hx).1) hn) (EV.bind (spec_l8Step_is g _ (red_ok ok)) (EV.now _)))
  · rw [if_neg h]
    exact EV.neg h (EV.now _)

theorem spec_l8Two_is (b : List Int) (hb : b.length ≤ 1048576) : ∃ (g : Int) (v w : List Int), EV (fun k => spec_l8Two.f k b) (g, v, w) ∧ v.length ≤ 1000 ∧ w.length ≤ 1000 ∧ (∀ x ∈ v, x.natAbs ≤ 9) ∧ (∀ x ∈ w, x.natAbs ≤ 9) := by
  obtain ⟨h, E⟩ := spec_l1New_is b hb
  obtain ⟨x, c1, h1, e1, x0, x1, k1⟩ := spec_l1Below_is b 0 h 2 hb (by omega) (by omega) (by omega)
  obtain ⟨g, hg⟩ : ∃ g : Nat, 1 + x = g := ⟨(1 + x).toNat, by omega⟩
  have wg : wrap64 (1 + x) = (g : Int) := by rw [w64 (by omega) (by omega)]; exact hg
  have w2 : wrap64 (2 * (g : Int)) = ((2 * g : Nat) : Int) := by rw [w64 (by omega) (by omega)]; omega
  obtain ⟨v, c2, h2, E2, v1, v2, k2⟩ := spec_l2Draw_in b c1 h1 (2 * g) 6 hb k1 (by omega) (by omega) (by omega)
  have v9 : ∀ x ∈ v, x.natAbs ≤ 9 := fun x hx => by have := (v2 x hx).2; omega
  have last : ∀ (u : List Int) (c h : Int), 0 ≤ c → u.length ≤ 1000 → (∀ x ∈ u, x.natAbs ≤ 9) → ∃ w, EV (fun k => spec_l8Two.j0 k (g : Int) v u b c h) ((g : Int), v, w) ∧ w.length ≤ 1000 ∧ (∀ x ∈ w, x.natAbs ≤ 9) := by
    intro u c h hc hu h9
    obtain ⟨t, c3, h3, e3, k3⟩ := spec_l1Once_is b c h 3 hb hc (by omega) (by omega)
    obtain ⟨w, c4, h4, E4, w1, w2', _⟩ := spec_l2Draw_in b c3 h3 (2 * g) 6 hb k3 (by omega) (by omega) (by omega)
    by_cases ht : t = true
    · refine ⟨w, EV.step (fun k => by rw [spec_l8Two.j0]) (EV.by e3 (EV.pos ht ?_)), by omega, fun x hx => by have := (w2' x hx).2; omega⟩
      rw [w2]; exact EV.bind E4 (EV.now _)
    · exact ⟨u, EV.step (fun k => by rw [spec_l8Two.j0]) (EV.by e3 (EV.neg ht (EV.now _))), hu, h9⟩
  obtain ⟨t, c3, h3, e3, k3⟩ := spec_l1Once_is b c2 h2 2 hb k2 (by omega) (by omega)
  by_cases ht : t = true
  · obtain ⟨a, c4, h4, e4, a0, a1, k4⟩ := spec_l1Below_is b c3 h3 ((v.length : Int) + 1) hb k3 (by omega) (by omega)
    obtain ⟨y, c5, h5, e5, y0, y1, k5⟩ := spec_l1Below_is b c4 h4 8 hb k4 (by omega) (by omega)
    obtain ⟨yn, rfl⟩ : ∃ m : Nat, y = m := ⟨y.toNat, by omega⟩
    have R := rel_let (g := (g : Int)) (by omega)
    have e6 := spec_l2Turn_is (relM (g : Int)) yn R.2.1 (by omega)
    have tl := turnM_len (relM (g : Int)) (yn % (relM (g : Int)).length) (Nat.le_of_lt (Nat.mod_lt _ R.2.1))
    have tb := turn_let R.1 (yn % (relM (g : Int)).length)
    generalize turnM (relM (g : Int)) (yn % (relM (g : Int)).length) = T at e6 tl tb
    have l1 : (v.take a.toNat).length ≤ 100 := by rw [List.length_take]; omega
    have l2 : (v.drop a.toNat).length ≤ 100 := by rw [List.length_drop]; omega
    obtain ⟨w, L, q1, q2⟩ := last (([] ++ v.take a.toNat) ++ T ++ v.drop a.toNat) c5 h5 k5 (by simp only [List.length_append, List.length_nil]; omega) (app_abs (app_abs (fun x hx => v9 x (List.mem_of_mem_take (by simpa using hx))) (fun x hx => abs_of_letter (tb x hx))) (fun x hx => v9 x (List.mem_of_mem_drop hx)))
    refine ⟨g, v, w, EV.bind E (EV.by e1 ?_), by omega, q1, v9, q2⟩
    rw [wg, w2]
    refine EV.bind E2 (EV.by rfl (EV.pos (by simp; omega) (EV.by e3 (EV.pos ht ?_))))
    rw [w64 (x := (v.length : Int) + 1) (by omega) (by omega)]
    refine EV.by e4 (EV.by rfl (EV.pos a0 (EV.pos (show a ≤ (v.length : Int) by omega) (EV.by rfl (EV.pos (by simp only [List.length_nil]; omega) (EV.by rfl (EV.by (spec_Relator_is _) (EV.by e5 (EV.by e6 (EV.pos (by simp only [List.length_append, List.length_nil]; omega) (EV.by rfl (EV.by rfl (EV.pos (by simp only [List.length_append, List.length_nil]; omega) L)))))))))))))
  · obtain ⟨w, L, q1, q2⟩ := last ([] ++ v) c3 h3 k3 (by simp; omega) (by simpa using v9)
    refine ⟨g, v, w, EV.bind E (EV.by e1 ?_), by omega, q1, v9, q2⟩
    rw [wg, w2]
    exact EV.bind E2 (EV.by rfl (EV.pos (by simp; omega) (EV.by e3 (EV.neg ht L))))

theorem spec_DrawAreEqualWords_is (b : List Int) (hb : b.length ≤ 1048576) : ∃ (g : Int) (v w : List Int), EV (fun k => spec_DrawAreEqualWords.f k b) (g, v, w) ∧ v.length ≤ 1000 ∧ w.length ≤ 1000 ∧ (∀ x ∈ v, x.natAbs ≤ 9) ∧ (∀ x ∈ w, x.natAbs ≤ 9) := by
  obtain ⟨g, v, w, E, r⟩ := spec_l8Two_is b hb
  exact ⟨g, v, w, EV.bind E (EV.now _), r⟩

theorem spec_DrawCommuteIn_is (b : List Int) (hb : b.length ≤ 1048576) : ∃ (g : Int) (v w : List Int), EV (fun k => spec_DrawCommuteIn.f k b) (g, v, w) ∧ v.length ≤ 1000 ∧ w.length ≤ 1000 ∧ (∀ x ∈ v, x.natAbs ≤ 9) ∧ (∀ x ∈ w, x.natAbs ≤ 9) := by
  obtain ⟨h, E⟩ := spec_l1New_is b hb
  obtain ⟨x, c1, h1, e1, x0, x1, k1⟩ := spec_l1Below_is b 0 h 2 hb (by omega) (by omega) (by omega)
  obtain ⟨g, hg⟩ : ∃ g : Nat, 1 + x = g := ⟨(1 + x).toNat, by omega⟩
  have wg : wrap64 (1 + x) = (g : Int) := by rw [w64 (by omega) (by omega)]; exact hg
  have w2 : wrap64 (2 * (g : Int)) = ((2 * g : Nat) : Int) := by rw [w64 (by omega) (by omega)]; omega
  obtain ⟨v, c2, h2, E2, v1, v2, k2⟩ := spec_l2Draw_in b c1 h1 (2 * g) 3 hb k1 (by omega) (by omega) (by omega)
  obtain ⟨w, c3, h3, E3, w1, w2', k3⟩ := spec_l2Draw_in b c2 h2 (2 * g) 4 hb k2 (by omega) (by omega) (by omega)
  obtain ⟨t, c4, h4, e4, k4⟩ := spec_l1Once_is b c3 h3 3 hb k3 (by omega) (by omega)
  have v9 : ∀ x ∈ v, x.natAbs ≤ 9 := fun x hx => by have := (v2 x hx).2; omega
  have w9 : ∀ x ∈ w, x.natAbs ≤ 9 := fun x hx => by have := (w2' x hx).2; omega
  by_cases ht : t = true
  · refine ⟨g, v, ([] ++ v) ++ v, EV.bind E (EV.by e1 ?_), by omega, by simp; omega, v9, app_abs (by simpa using v9) v9⟩
    rw [wg, w2]
    exact EV.bind E2 (EV.bind E3 (EV.by e4 (EV.pos ht (EV.by rfl (EV.pos (by simp; omega) (EV.by rfl (EV.pos (by simp; omega) (EV.now _))))))))
  · refine ⟨g, v, w, EV.bind E (EV.by e1 ?_), by omega, by omega, v9, w9⟩
    rw [wg, w2]
    exact EV.bind E2 (EV.bind E3 (EV.by e4 (EV.neg ht (EV.now _))))

theorem spec_DrawRelator_is (b : List Int) (hb : b.length ≤ 1048576) : ∃ n : Int, EV (fun k => spec_DrawRelator.f k b) n ∧ -1 ≤ n ∧ n ≤ 3 := by
  obtain ⟨h, E⟩ := spec_l1New_is b hb
  obtain ⟨x, c1, h1, e1, x0, x1, k1⟩ := spec_l1Below_is b 0 h 5 hb (by omega) (by omega) (by omega)
  exact ⟨x - 1, EV.bind E (EV.by e1 ((EV.now _).eq (w64 (by omega) (by omega)))), by omega, by omega⟩

theorem letter_wf {x : Int} (h : letterB x = true) : (Lit.int .i64 x).wf = true := by
  have := letterB_of h
  simp only [Lit.wf, IntKind.min, IntKind.max, IntKind.signed, IntKind.bits, Bool.and_eq_true, decide_eq_true_eq, if_true]
  omega
theorem impl_DehnWord_l0 (g : Int) : ∀ (n : Nat) (w : List Int), okW g w → RedP w → w.length ≤ n → EV (fun k => impl_DehnWord.l0 k g w) (dehnF g n w) := by
  have key : ∀ w, okW g w → RedP w → EV (fun k => impl_DehnStep.f k g w) (dstepM g w) := by
    intro w h hr
    refine (impl_DehnStep_is g w (by have := h.2.2; omega) (fun x hx => letter_wf (h.2.1 x hx).1)).eq ?_
    unfold dehnStepM
    rw [if_pos (ok_fits h), redM_id hr]
  intro n
  induction n with
  | zero =>
    intro w h hr hn
    have e : w = [] := List.eq_nil_of_length_eq_zero (by omega)
    refine EV.step (fun k => by rw [impl_DehnWord.l0]) ?_
    refine EV.bind (key w h hr) (EV.neg ?_ (EV.now _))
    subst e; simp [dstepM, stepFrom]
  | succ n ih =>
    intro w h hr hn
    refine EV.step (fun k => by rw [impl_DehnWord.l0]) ?_
    refine EV.bind (key w h hr) ?_
    unfold dehnF
    by_cases c : (dstepM g w).2 = true
    · rw [if_pos c]
      have s := stepFrom_ok h _ _ (show 0 + w.length = w.length by omega) c
      have hlt : (dstepM g w).1.length < w.length := s.2.2
      exact EV.pos c (ih _ s.1 s.2.1 (by omega))
    · rw [if_neg c]
      exact EV.neg c (EV.now _)
theorem impl_DehnWord_is (g : Int) (w : List Int) (hn : w.length < 4294967296) (hw : ∀ x ∈ w, (Lit.int .i64 x).wf = true) : EV (fun k => impl_DehnWord.f k g w) (if fitsB g w = true then dehnM g w else []) := by
  refine EV.bind (impl_isGroupWord_is g w (by omega) hw) ?_
  by_cases h : fitsB g w = true
  · rw [if_pos h]
    have ok := fits_ok h
    exact EV.pos h (EV.bind (impl_reduce_is w (fun x hx => (ok.2.1 x hx).1) hn) (impl_DehnWord_l0 g _ _ (red_ok ok) (redM_red w) (Nat.le_refl _)))
  · rw [if_neg h]
    exact EV.neg h (EV.now _)

theorem laws_sameInts_self (a : List Int) (ha : a.length ≤ 1048576) : EV (fun k => laws_sameInts.f k a a) true := by
  refine EV.pos rfl ?_
  have := EV.scan (g := fun k i => laws_sameInts.l0 k a a i) a (fun _ => true) true (fun i hi r H1 _ => ?_) ?_
  · rw [show (a.all fun _ => true) = true from List.all_eq_true.2 (fun _ _ => rfl), Bool.true_and] at this
    exact this
  · refine EV.step (fun k => by rw [laws_sameInts.l0]) ?_
    rw [w64 (x := (i : Int) + 1) (by omega) (by omega)]
    exact EV.pos (by omega) (EV.pos (by omega) (EV.pos (by omega) (EV.pos rfl (H1 rfl))))
  · refine EV.step (fun k => by rw [laws_sameInts.l0]) ?_
    exact EV.neg (by omega) (EV.now _)

theorem impl_LetterSums_is (xs : List Int) (hn : xs.length < 4611686018427387904) : EV (fun k => impl_LetterSums.f k xs) (if wordB xs = true then sumsM xs else []) := by
  refine EV.bind (impl_IsWord_is xs hn) ?_
  by_cases hw : wordB xs = true
  · refine EV.pos hw (EV.pos (by omega) ?_)
    rw [if_pos hw]
    have hxs := wordB_of hw
    refine EV.fold (g := fun k v i => impl_LetterSums.l0 k v xs (xs.length : Int) i) xs addL id sumsI (fun i h v r hI H => ?_) (fun v hI => ?_) _ sumsI_zero
    · have hx := letterB_of (all_getElem hxs.1 i h)
      have hI' := sumsI_next hI xs[i]
      have hb := hI.2 (xs[i].natAbs - 1)
      have H := H hI'
      refine EV.step (fun k => by rw [impl_LetterSums.l0]) ?_
      rw [rd_nat _ _ h, w64 (x := (i : Int) + 1) (by omega) (by omega)]
      refine EV.pos (by omega) (EV.pos (by omega) (EV.pos (by omega) ?_))
      by_cases hp : xs[i] > 0
      · rw [w64 (x := xs[i] - 1) (by omega) (by omega)]
        refine EV.pos hp (EV.pos (by omega) (EV.pos (by have := hI.1; omega) ?_))
        have e : (xs[i] - 1).toNat = xs[i].natAbs - 1 := by omega
        unfold rd
        rw [e, w64 (by omega) (by omega)]
        simpa only [addL, if_pos hp] using H
      · rw [w64 (x := -xs[i]) (by omega) (by omega), w64 (x := -xs[i] - 1) (by omega) (by omega)]
        refine EV.neg hp (EV.pos (by omega) (EV.pos (by have := hI.1; omega) ?_))
        have e : (-xs[i] - 1).toNat = xs[i].natAbs - 1 := by omega
        unfold rd
        rw [e, w64 (by omega) (by omega)]
        simpa only [addL, if_neg (show ¬ 0 < xs[i] from hp)] using H
    · refine EV.step (fun k => by rw [impl_LetterSums.l0]) ?_
      exact EV.neg (by omega) (EV.now _)
  · exact EV.neg hw ((EV.now _).eq (by rw [if_neg hw]))

theorem impl_IsTrivialWord_is (g : Int) (w : List Int) (hn : w.length < 4294967296) (hw : ∀ x ∈ w, (Lit.int .i64 x).wf = true) : EV (fun k => impl_IsTrivialWord.f k g w) (fitsB g w && trivM g w) := by
  refine EV.bind (impl_isGroupWord_is g w (by omega) hw) ?_
  by_cases h : fitsB g w = true
  · have ok := fits_ok h
    rw [h, Bool.true_and]
    refine EV.pos rfl ?_
    unfold trivM
    by_cases g1 : g = 1
    · rw [if_neg (by omega)]
      refine EV.pos g1 (EV.bind (impl_LetterSums_is w (by omega)) ?_)
      rw [if_pos (fitsB_of h).2.2]
      rw [← Bool.and_true (List.all _ _)]
      refine EV.scan (g := fun k i => impl_IsTrivialWord.l0 k (sumsM w) ((sumsM w).length : Int) i) (sumsM w) (fun v => decide (v = 0)) true (fun i hi r H1 H2 => ?_) ?_
      · have h8 := sumsM_len w
        refine EV.step (fun k => by rw [impl_IsTrivialWord.l0]) ?_
        rw [rd_nat _ _ hi, w64 (x := (i : Int) + 1) (by omega) (by omega)]
        refine EV.pos (by omega) (EV.pos (by omega) (EV.pos (by omega) ?_))
        exact EV.cases (fun c => H1 (by simpa using c)) (fun c => (EV.now _).eq (H2 (by simpa using c)).symm)
      · refine EV.step (fun k => by rw [impl_IsTrivialWord.l0]) ?_
        exact EV.neg (by omega) (EV.now _)
    · rw [if_pos (by have := ok.1; omega)]
      refine EV.neg g1 (EV.bind (impl_DehnWord_is g w hn hw) ?_)
      rw [if_pos h]
      exact EV.now _
  · rw [show fitsB g w = false by simpa using h, Bool.false_and]
    exact EV.neg (by simp) (EV.now _)

theorem impl_AreEqualWords_is (g : Int) (x y : List Int) (hx : x.length < 4294967296) (hy : y.length < 4294967296) (wx : ∀ z ∈ x, (Lit.int .i64 z).wf = true) (wy : ∀ z ∈ y, (Lit.int .i64 z).wf = true) : EV (fun k => impl_AreEqualWords.f k g x y) (eqM g x y) := by
  have no : EV (fun k => impl_AreEqualWords.j0 k g x y true) false := by
    refine EV.step (fun k => by rw [impl_AreEqualWords.j0]) ?_
    exact EV.pos rfl (EV.now _)
  unfold eqM
  refine EV.bind (impl_isGroupWord_is g x (by omega) wx) ?_
  by_cases h1 : fitsB g x = true
  · rw [h1, Bool.true_and]
    refine EV.pos rfl (EV.bind (impl_isGroupWord_is g y (by omega) wy) ?_)
    by_cases h2 : fitsB g y = true
    · rw [h2, Bool.true_and, w64 (x := (x.length : Int) + (y.length : Int)) (by omega) (by omega)]
      refine EV.pos rfl ?_
      by_cases h3 : x.length + y.length ≤ 24
      · rw [decide_eq_true h3, Bool.true_and, show decide ((x.length : Int) + (y.length : Int) > 24) = false by simp; omega]
        have ok := ok_app (fits_ok h1) (ok_inv (fits_ok h2)) (by rw [invW_len]; exact h3)
        refine EV.step (fun k => by rw [impl_AreEqualWords.j0]) ?_
        refine EV.neg (by simp) (EV.by (impl_copyOf_is x (by omega)) (EV.bind (impl_inverse_is y (fun z hz => ((fits_ok h2).2.1 z hz).1) hy) (EV.pos (by simp [invW_len]; omega) ?_)))
        refine EV.bind (impl_IsTrivialWord_is g _ (by have := ok.2.2; omega) (fun z hz => letter_wf (ok.2.1 z hz).1)) ((EV.now _).eq ?_)
        rw [ok_fits ok, Bool.true_and]
      · rw [decide_eq_false h3, Bool.false_and, show decide ((x.length : Int) + (y.length : Int) > 24) = true by simp; omega]
        exact no
    · rw [show fitsB g y = false by simpa using h2, Bool.false_and]
      exact EV.neg (by simp) no
  · rw [show fitsB g x = false by simpa using h1, Bool.false_and]
    exact EV.neg (by simp) no

theorem spec_l8Dehn_l0 (g : Int) : ∀ (n : Nat) (w : List Int), okW g w → w.length ≤ n → EV (fun k => spec_l8Dehn.l0 k g w) (dehnF g n w) := by
  intro n
  induction n with
  | zero =>
    intro w h hn
    have e : w = [] := List.eq_nil_of_length_eq_zero (by omega)
    refine EV.step (fun k => by rw [spec_l8Dehn.l0]) ?_
    refine EV.bind (spec_l8Step_is g w h) (EV.neg ?_ (EV.now _))
    subst e; simp [dstepM, stepFrom]
  | succ n ih =>
    intro w h hn
    refine EV.step (fun k => by rw [spec_l8Dehn.l0]) ?_
    refine EV.bind (spec_l8Step_is g w h) ?_
    unfold dehnF
    by_cases c : (dstepM g w).2 = true
    · rw [if_pos c]
      have s := stepFrom_ok h _ _ (show 0 + w.length = w.length by omega) c
      have hlt : (dstepM g w).1.length < w.length := s.2.2
      exact EV.pos c (ih _ s.1 (by omega))
    · rw [if_neg c]
      exact EV.neg c (EV.now _)
theorem spec_l8Dehn_is (g : Int) (w : List Int) (h : okW g w) : EV (fun k => spec_l8Dehn.f k g w) (dehnM g w) :=
  EV.bind (spec_l2Reduce_is w (fun x hx => (h.2.1 x hx).1) (by have := h.2.2; omega)) (spec_l8Dehn_l0 g _ _ (red_ok h) (Nat.le_refl _))

theorem spec_l1Bit_is (b : Bool) : spec_l1Bit.f b = some (if b = true then 1 else 0) := by
  cases b <;> rfl
theorem spec_l8Trivial_is (g : Int) (w : List Int) (h : okW g w) : EV (fun k => spec_l8Trivial.f k g w) (trivM g w) := by
  unfold trivM
  by_cases g2 : g = 2
  · rw [if_pos g2]
    exact EV.pos g2 (EV.bind (spec_l8Dehn_is g w h) (EV.now _))
  · rw [if_neg g2]
    have g1 : g = 1 := by have := h.1; omega
    subst g1
    refine EV.neg g2 (EV.pos (by omega) ?_)
    have hn := h.2.2
    have he : sumsT w w.length = sumsM w := by unfold sumsT sumsM; rw [List.take_length]
    refine EV.count (g := fun k s i => spec_l8Trivial.l0 k w s i) w.length (fun i => (sumsT w i).take 2) _ (fun i hi H => ?_) ?_
    · have hx := h.2.1 _ (List.getElem_mem hi)
      have hl := letterB_of hx.1
      have I := sumsT_I w h.2.1 i (by omega)
      have hb := I.1.2 ((w[i]).natAbs - 1)
      have hx2 := hx.2
      rw [sumsT_succ w i hi] at H
      have h8 := I.1.1
      generalize sumsT w i = v at *
      have hlt : (v.take 2).length = 2 := by rw [List.length_take]; omega
      have eg : rd (v.take 2) (((w[i]).natAbs : Int) - 1) = v.getD ((w[i]).natAbs - 1) 0 := by
        unfold rd
        rw [show (((w[i]).natAbs : Int) - 1).toNat = (w[i]).natAbs - 1 by omega, getD_take _ _ _ (by omega)]
      refine EV.step (fun k => by rw [spec_l8Trivial.l0]) ?_
      rw [rd_nat _ _ hi, w64 (x := (i : Int) + 1) (by omega) (by omega)]
      refine EV.pos (by omega) (EV.pos (by omega) (EV.by (spec_l3Abs_is _ (by omega) (by omega)) (EV.by (spec_l3Abs_is _ (by omega) (by omega)) ?_)))
      rw [w64 (x := ((w[i]).natAbs : Int) - 1) (by omega) (by omega), eg]
      refine EV.pos (by omega) (EV.pos (by omega) (EV.by (spec_l1Bit_is _) (EV.by (spec_l1Bit_is _) (EV.pos (by omega) (EV.pos (by omega) ?_)))))
      have ev : wrap64 (wrap64 (v.getD ((w[i]).natAbs - 1) 0 + (if decide (w[i] > 0) = true then 1 else 0)) - (if decide (w[i] < 0) = true then 1 else 0)) = if 0 < w[i] then v.getD ((w[i]).natAbs - 1) 0 + 1 else v.getD ((w[i]).natAbs - 1) 0 - 1 := by
        by_cases hp : 0 < w[i]
        · rw [if_pos (by simpa using hp), if_neg (by simp; omega), if_pos hp, w64 (x := v.getD ((w[i]).natAbs - 1) 0 + 1) (by omega) (by omega), w64 (by omega) (by omega)]; omega
        · rw [if_neg (by simpa using hp), if_pos (by simp; omega), if_neg hp, w64 (x := v.getD ((w[i]).natAbs - 1) 0 + 0) (by omega) (by omega), w64 (by omega) (by omega)]; omega
      rw [ev, show (((w[i]).natAbs : Int) - 1).toNat = (w[i]).natAbs - 1 by omega]
      unfold addL at H
      rw [List.take_set] at H
      exact H
    · have I := sumsT_I w h.2.1 w.length (Nat.le_refl _)
      rw [he] at I ⊢
      have h8 := I.1.1
      generalize sumsM w = v at *
      have hlt : (v.take 2).length = 2 := by rw [List.length_take]; omega
      have r0 : rd (v.take 2) 0 = v.getD 0 0 := getD_take v 2 0 (by omega)
      have r1 : rd (v.take 2) 1 = v.getD 1 0 := getD_take v 2 1 (by omega)
      have eall : (v.all fun x => decide (x = 0)) = (decide (v.getD 0 0 = 0) && decide (v.getD 1 0 = 0)) := by
        rw [Bool.eq_iff_iff, List.all_eq_true, Bool.and_eq_true, decide_eq_true_iff, decide_eq_true_iff]
        have hget : ∀ j (hj : j < v.length), v[j] = v.getD j 0 := fun j hj => by simp [hj]
        constructor
        · intro hh
          have a0 := hh v[0] (List.getElem_mem (by omega))
          have a1 := hh v[1] (List.getElem_mem (by omega))
          rw [hget 0 (by omega), decide_eq_true_iff] at a0
          rw [hget 1 (by omega), decide_eq_true_iff] at a1
          exact ⟨a0, a1⟩
        · intro hh x hx
          obtain ⟨j, hj, rfl⟩ := List.mem_iff_getElem.1 hx
          rw [hget j hj, decide_eq_true_iff]
          by_cases e0 : j = 0
          · rw [e0]; exact hh.1
          · by_cases e1 : j = 1
            · rw [e1]; exact hh.2
            · exact I.2 j (by omega)
      rw [eall]
      refine EV.step (fun k => by rw [spec_l8Trivial.l0]) ?_
      rw [r0, r1]
      refine EV.neg (by omega) (EV.pos (by omega) ?_)
      by_cases c : v.getD 0 0 = 0
      · exact EV.pos c (EV.pos (by omega) ((EV.now _).eq (by rw [decide_eq_true c, Bool.true_and, Bool.eq_iff_iff]; simp)))
      · exact EV.neg c ((EV.now _).eq (by rw [decide_eq_false c, Bool.false_and]))

theorem spec_AreEqualWords_is (g : Int) (x y : List Int) (hx : x.length < 4294967296) (hy : y.length < 4294967296) : EV (fun k => spec_AreEqualWords.f k g x y) (eqM g x y) := by
  have no : EV (fun k => spec_AreEqualWords.j0 k g x y true) false := by
    refine EV.step (fun k => by rw [spec_AreEqualWords.j0]) ?_
    exact EV.pos rfl (EV.now _)
  unfold eqM
  refine EV.bind (spec_l8Fits_is g x (by omega)) ?_
  by_cases h1 : fitsB g x = true
  · rw [h1, Bool.true_and]
    refine EV.pos rfl (EV.bind (spec_l8Fits_is g y (by omega)) ?_)
    by_cases h2 : fitsB g y = true
    · rw [h2, Bool.true_and, w64 (x := (x.length : Int) + (y.length : Int)) (by omega) (by omega)]
      refine EV.pos rfl ?_
      by_cases h3 : x.length + y.length ≤ 24
      · rw [decide_eq_true h3, Bool.true_and, show decide ((x.length : Int) + (y.length : Int) > 24) = false by simp; omega]
        have ok := ok_app (fits_ok h1) (ok_inv (fits_ok h2)) (by rw [invW_len]; exact h3)
        refine EV.step (fun k => by rw [spec_AreEqualWords.j0]) ?_
        refine EV.neg (by simp) (EV.by rfl (EV.pos (by simp; omega) (EV.by rfl (EV.bind (spec_l2Inverse_is y (fun z hz => ((fits_ok h2).2.1 z hz).1) hy) (EV.pos (by simp [invW_len]; omega) ?_)))))
        rw [List.nil_append]
        exact EV.bind (spec_l8Trivial_is g _ ok) (EV.now _)
      · rw [decide_eq_false h3, Bool.false_and, show decide ((x.length : Int) + (y.length : Int) > 24) = true by simp; omega]
        exact no
    · rw [show fitsB g y = false by simpa using h2, Bool.false_and]
      exact EV.neg (by simp) no
  · rw [show fitsB g x = false by simpa using h1, Bool.false_and]
    exact EV.neg (by simp) no

theorem impl_CommuteIn_is (g : Int) (x y : List Int) (hx : x.length < 1073741824) (hy : y.length < 1073741824) (wx : ∀ z ∈ x, (Lit.int .i64 z).wf = true) (wy : ∀ z ∈ y, (Lit.int .i64 z).wf = true) : EV (fun k => impl_CommuteIn.f k g x y) (comM g x y) := by
  refine EV.by (impl_copyOf_is x (by omega)) (EV.pos (by omega) (EV.by (impl_copyOf_is y (by omega)) (EV.pos (by omega) ?_)))
  refine EV.bind (impl_AreEqualWords_is g (x ++ y) (y ++ x) (by simp; omega) (by simp; omega) (fun z hz => ?_) (fun z hz => ?_)) ((EV.now _).eq (comM_eq g x y))
  · rcases List.mem_append.1 hz with h | h
    · exact wx z h
    · exact wy z h
  · rcases List.mem_append.1 hz with h | h
    · exact wy z h
    · exact wx z h

theorem spec_CommuteIn_is (g : Int) (x y : List Int) (hx : x.length < 4294967296) (hy : y.length < 4294967296) : EV (fun k => spec_CommuteIn.f k g x y) (comM g x y) := by
  have no : EV (fun k => spec_CommuteIn.j0 k g x y true) false := by
    refine EV.step (fun k => by rw [spec_CommuteIn.j0]) ?_
    exact EV.pos rfl (EV.now _)
  unfold comM
  refine EV.bind (spec_l8Fits_is g x (by omega)) ?_
  by_cases h1 : fitsB g x = true
  · rw [h1, Bool.true_and]
    refine EV.pos rfl (EV.bind (spec_l8Fits_is g y (by omega)) ?_)
    by_cases h2 : fitsB g y = true
    · rw [h2, Bool.true_and, w64 (x := (x.length : Int) + (y.length : Int)) (by omega) (by omega), w64 (x := 2 * ((x.length : Int) + (y.length : Int))) (by omega) (by omega)]
      refine EV.pos rfl ?_
      by_cases h3 : 2 * (x.length + y.length) ≤ 24
      · rw [decide_eq_true h3, Bool.true_and, show decide (2 * ((x.length : Int) + (y.length : Int)) > 24) = false by simp; omega]
        have a := fits_ok h1
        have b := fits_ok h2
        have yx := ok_app b a (by omega)
        have ok := ok_app (ok_app a b (by omega)) (ok_inv yx) (by rw [invW_len]; simp only [List.length_append]; omega)
        refine EV.step (fun k => by rw [spec_CommuteIn.j0]) ?_
        refine EV.neg (by simp) (EV.by rfl (EV.pos (by simp; omega) (EV.by rfl (EV.pos (by simp; omega) (EV.by rfl (EV.by rfl (EV.pos (by simp; omega) (EV.by rfl (EV.pos (by simp; omega) ?_)))))))))
        simp only [List.nil_append]
        refine EV.bind (spec_l2Inverse_is (y ++ x) (fun z hz => (yx.2.1 z hz).1) (by simp; omega)) (EV.pos (by simp [invW_len]; omega) ?_)
        exact EV.bind (spec_l8Trivial_is g _ ok) (EV.now _)
      · rw [decide_eq_false h3, Bool.false_and, show decide (2 * ((x.length : Int) + (y.length : Int)) > 24) = true by simp; omega]
        exact no
    · rw [show fitsB g y = false by simpa using h2, Bool.false_and]
      exact EV.neg (by simp) no
  · rw [show fitsB g x = false by simpa using h1, Bool.false_and]
    exact EV.neg (by simp) no

theorem impl_Relator_is (g : Int) : impl_Relator.f g = some (relM g) := by
  unfold impl_Relator.f relM
  split
  · rename_i h; rw [impl_relator_is, if_pos h]; rfl
  · rename_i h
    split
    · rw [impl_relator_is, if_neg h]; rfl
    · rfl

theorem spec_DehnWord_is (g : Int) (w : List Int) (hn : w.length < 4294967296) : EV (fun k => spec_DehnWord.f k g w) (if fitsB g w = true then dehnM g w else []) := by
  refine EV.bind (spec_l8Fits_is g w (by omega)) ?_
  by_cases h : fitsB g w = true
  · rw [if_pos h]
    exact EV.pos h (EV.bind (spec_l8Dehn_is g w (fits_ok h)) (EV.now _))
  · rw [if_neg h]
    exact EV.neg h (EV.now _)

theorem spec_IsTrivialWord_is (g : Int) (w : List Int) (hn : w.length < 4294967296) : EV (fun k => spec_IsTrivialWord.f k g w) (fitsB g w && trivM g w) := by
  refine EV.bind (spec_l8Fits_is g w (by omega)) ?_
  by_cases h : fitsB g w = true
  · rw [h, Bool.true_and]
    exact EV.pos rfl (EV.bind (spec_l8Trivial_is g w (fits_ok h)) (EV.now _))
  · rw [show fitsB g w = false by simpa using h, Bool.false_and]
    exact EV.neg (by simp) (EV.now _)

theorem spec_LetterSums_is (xs : List Int) (hn : xs.length < 4611686018427387904) : EV (fun k => spec_LetterSums.f k xs) (if wordB xs = true then sumsM xs else []) := by
  refine EV.bind (spec_IsWord_is xs hn) ?_
  by_cases hw : wordB xs = true
  · refine EV.pos hw (EV.pos (by omega) ?_)
    rw [if_pos hw]
    have hxs := wordB_of hw
    refine EV.fold (g := fun k v i => spec_LetterSums.l0 k xs v i) xs addL id sumsI (fun i h v r hI H => ?_) (fun v hI => ?_) _ sumsI_zero
    · have hx := letterB_of (all_getElem hxs.1 i h)
      have hI' := sumsI_next hI xs[i]
      have hb := hI.2 (xs[i].natAbs - 1)
      have H := H hI'
      refine EV.step (fun k => by rw [spec_LetterSums.l0]) ?_
      rw [rd_nat _ _ h, w64 (x := (i : Int) + 1) (by omega) (by omega)]
      refine EV.pos (by omega) (EV.pos (by omega) ?_)
      by_cases hp : xs[i] > 0
      · rw [w64 (x := xs[i] - 1) (by omega) (by omega)]
        refine EV.pos hp (EV.pos (by omega) (EV.pos (by have := hI.1; omega) ?_))
        have e : (xs[i] - 1).toNat = xs[i].natAbs - 1 := by omega
        unfold rd
        rw [e, w64 (by omega) (by omega)]
        simpa only [addL, if_pos hp] using H
      · rw [w64 (x := -xs[i]) (by omega) (by omega), w64 (x := -xs[i] - 1) (by omega) (by omega)]
        refine EV.neg hp (EV.pos (by omega) (EV.pos (by have := hI.1; omega) ?_))
        have e : (-xs[i] - 1).toNat = xs[i].natAbs - 1 := by omega
        unfold rd
        rw [e, w64 (by omega) (by omega)]
        simpa only [addL, if_neg (show ¬ 0 < xs[i] from hp)] using H
    · refine EV.step (fun k => by rw [spec_LetterSums.l0]) ?_
      exact EV.neg (by omega) (EV.now _)
  · exact EV.neg hw ((EV.now _).eq (by rw [if_neg hw]))

def homM (g : Int) (xs : List Int) : List Int := if fitsB g xs = true then (sumsM xs).take (2 * g).toNat else []
theorem spec_HomologyOf_is (g : Int) (xs : List Int) (hn : xs.length < 4611686018427387904) : EV (fun k => spec_HomologyOf.f k g xs) (homM g xs) := by
  unfold homM
  refine EV.bind (spec_l8Fits_is g xs hn) ?_
  by_cases h : fitsB g xs = true
  · have f := fitsB_of h
    refine EV.pos h (EV.bind (spec_LetterSums_is xs hn) ?_)
    rw [if_pos h, if_pos f.2.2, w64 (by omega) (by omega)]
    exact EV.pos (by omega) (EV.pos (by rw [sumsM_len]; omega) (EV.now _))
  · exact EV.neg h ((EV.now _).eq (by rw [if_neg h]))

theorem impl_HomologyOf_is (g : Int) (xs : List Int) (hn : xs.length < 4611686018427387904) (hw : ∀ x ∈ xs, (Lit.int .i64 x).wf = true) : EV (fun k => impl_HomologyOf.f k g xs) (homM g xs) := by
  unfold homM
  refine EV.bind (impl_isGroupWord_is g xs hn hw) ?_
  by_cases h : fitsB g xs = true
  · have f := fitsB_of h
    refine EV.pos h (EV.bind (impl_LetterSums_is xs hn) ?_)
    rw [if_pos h, if_pos f.2.2, w64 (by omega) (by omega)]
    exact EV.pos (by omega) (EV.pos (by rw [sumsM_len]; omega) (EV.now _))
  · exact EV.neg h ((EV.now _).eq (by rw [if_neg h]))

theorem spec_ReduceWord_is {w : List Int} (h : wordB w = true) : EV (fun k => spec_ReduceWord.f k w) (redM w) := by
  have B := wordB_of h
  exact EV.bind (spec_IsWord_is w (by omega)) (EV.pos h (EV.bind (spec_l2Reduce_is w B.1 (by omega)) (EV.now _)))

theorem laws_total_is (xs : List Int) (hl : xs.length ≤ 1000) (hx : ∀ x ∈ xs, 0 ≤ x ∧ x ≤ 1000) : EV (fun k => laws_total.f k xs) xs.sum := by
  have go : ∀ (n i : Nat) (s : Int), i + n = xs.length → 0 ≤ s → s ≤ 1000 * i → EV (fun k => laws_total.l0 k xs s (i : Int)) (s + (xs.drop i).sum) := by
    intro n
    induction n with
    | zero =>
      intro i s hi _ _
      rw [List.drop_of_length_le (by omega)]
      refine EV.step (fun k => by rw [laws_total.l0]) ?_
      exact EV.neg (by omega) ((EV.now _).eq (by simp))
    | succ n ih =>
      intro i s hi h0 h1
      have hlt : i < xs.length := by omega
      have e := rd_nat xs i hlt
      have b := hx _ (List.getElem_mem hlt)
      have H := ih (i + 1) (s + xs[i]) (by omega) (by omega) (by omega)
      refine EV.step (fun k => by rw [laws_total.l0]) ?_
      rw [e, w64 (x := s + xs[i]) (by omega) (by omega), w64 (x := (i : Int) + 1) (by omega) (by omega)]
      refine EV.pos (by omega) (EV.pos (by omega) ?_)
      rw [show ((i + 1 : Nat) : Int) = (i : Int) + 1 by omega] at H
      refine H.eq ?_
      rw [List.drop_eq_getElem_cons hlt, List.sum_cons]; omega
  exact (go xs.length 0 0 (by omega) (by omega) (by omega)).eq (by simp)
theorem spec_InverseWord_is {w : List Int} (h : wordB w = true) : EV (fun k => spec_InverseWord.f k w) (invW w) := by
  have B := wordB_of h
  exact EV.bind (spec_IsWord_is w (by omega)) (EV.pos h (EV.bind (spec_l2Inverse_is w B.1 (by omega)) (EV.now _)))

theorem spec_TurnWord_is {w : List Int} (h : wordB w = true) (a : Nat) : EV (fun k => spec_TurnWord.f k w (a : Int)) (turnM w (a % w.length)) := by
  have B := wordB_of h
  refine EV.bind (spec_IsWord_is w (by omega)) (EV.pos h ?_)
  by_cases h0 : w.length = 0
  · have e : w = [] := List.length_eq_zero_iff.1 h0
    subst e
    refine EV.by (show spec_l2Turn.f [] (a : Int) = some [] by unfold spec_l2Turn.f; rw [if_pos (by simp)]) ((EV.now _).eq ?_)
    simp [turnM]
  · exact EV.by (spec_l2Turn_is w a (by omega) (by omega)) (EV.now _)

theorem spec_l6Perm_l0 (p : List Int) (hn : p.length < 4611686018427387904) : ∀ (suf pre : List Int), p = pre ++ suf → pre.Nodup →
    EV (fun k => spec_l6Perm.l0 k p (seenM p.length pre) (pre.length : Int)) (suf.all (inB p.length) && decide (pre ++ suf).Nodup) := by
  intro suf
  induction suf with
  | nil =>
    intro pre h hp
    refine EV.step (fun k => by rw [spec_l6Perm.l0]) ?_
    exact EV.neg (by subst h; simp) ((EV.now _).eq (by simp [hp]))
  | cons x suf ih =>
    intro pre h hp
    have hpl : pre.length < 4611686018427387904 := by subst h; simp at hn; omega
    have hlt : (pre.length : Int) < (p.length : Int) := by subst h; exact lt_app ..
    have hx : rd p (pre.length : Int) = x := by subst h; exact rd_app ..
    refine EV.step (fun k => by rw [spec_l6Perm.l0]) ?_
    rw [hx, up (x := x) hpl, w64 (x := (p.length : Int) - 1) (by omega) (by omega)]
    refine EV.pos hlt (EV.pos (by omega) (EV.by (spec_l1In_is _ _ _) ?_))
    by_cases hb : inB p.length x = true
    · have b := inB_of hb
      refine EV.pos (by simp; omega) (EV.pos b.1 (EV.pos (by simp [seenM]; omega) ?_))
      rw [show rdOf false (seenM p.length pre) x = decide (x ∈ pre) by unfold seenM; rw [rdOf_tab _ _ _ _ b.1 b.2, show ((x.toNat : Nat) : Int) = x by omega]]
      by_cases hm : x ∈ pre
      · refine EV.pos (by simpa using hm) ((EV.now _).eq ?_)
        rw [decide_eq_false, Bool.and_false]
        intro c
        exact (List.nodup_append.1 c).2.2 x hm x (by simp) rfl
      · refine EV.neg (by simpa using hm) ?_
        rw [seenM_snoc _ _ _ b.1]
        refine (ih (pre ++ [x]) (by simp [h]) ?_).eq (by simp [hb])
        rw [List.nodup_append]
        refine ⟨hp, by simp, fun a ha c hc => ?_⟩
        rw [List.mem_singleton] at hc
        intro e; exact hm (by rw [← hc, ← e]; exact ha)
    · refine EV.neg (by simp only [inB, decide_eq_true_iff] at hb; simp; omega) ((EV.now _).eq ?_)
      rw [List.all_cons, show inB p.length x = false by simpa using hb]; simp
theorem spec_l6Perm_is (p : List Int) (hn : p.length < 4294967296) : EV (fun k => spec_l6Perm.f k p) (permB p) := by
  refine EV.pos (by omega) (EV.pos (by omega) ?_)
  have := spec_l6Perm_l0 p (by omega) p [] rfl List.nodup_nil
  rw [seenM_nil] at this
  exact this

theorem spec_l9Perms_is (l : List (List Int)) (hn : l.length < 4294967296) (hr : ∀ r ∈ l, r.length < 4294967296) : EV (fun k => spec_l9Perms.f k l) (permsB l) := by
  have := EV.scan (g := fun k i => spec_l9Perms.l0 k l i) l (sheetB (d0 l)) (decide (1 ≤ l.length ∧ l.length ≤ 8) && decide (1 ≤ d0 l ∧ d0 l ≤ 5)) (fun i h r H1 H2 => ?_) ?_
  · refine EV.eq this ?_
    rw [Bool.eq_iff_iff]
    simp only [permsB, sheetsB, Bool.and_eq_true, decide_eq_true_iff]
    constructor
    · intro h; exact ⟨⟨by omega, h.2.2, h.1⟩, by omega⟩
    · intro h; exact ⟨h.1.2.2, ⟨by omega, by omega⟩, h.1.2.1⟩
  · refine EV.step (fun k => by rw [spec_l9Perms.l0]) ?_
    rw [rdL_nat _ _ h, w64 (x := (i : Int) + 1) (by omega) (by omega), rdL_zero]
    refine EV.pos (by omega) (EV.pos (by omega) (EV.pos (by omega) ?_))
    by_cases hl : (l[i]).length = d0 l
    · refine EV.pos (by unfold d0 at hl; omega) (EV.bind (spec_l6Perm_is _ (hr _ (List.getElem_mem h))) ?_)
      exact EV.cases (fun c => H1 (by simp [sheetB, hl, c])) (fun c => (EV.now _).eq (H2 (by simp [sheetB, hl]; simpa using c)).symm)
    · exact EV.neg (by unfold d0 at hl; omega) ((EV.now _).eq (H2 (by simp [sheetB, hl])).symm)
  · refine EV.step (fun k => by rw [spec_l9Perms.l0]) ?_
    refine EV.neg (by omega) (EV.by (spec_l1In_is _ _ _) ?_)
    by_cases h : 1 ≤ l.length ∧ l.length ≤ 8
    · refine EV.pos (by simp; omega) (EV.pos (by omega) (EV.by (spec_l1In_is _ _ _) ((EV.now _).eq ?_)))
      rw [rdL_zero, Bool.eq_iff_iff]
      simp [d0]; omega
    · refine EV.neg (by simp; omega) ((EV.now _).eq ?_)
      simp [h]

theorem spec_l6Inverse_is (p : List Int) (hp : ∀ x ∈ p, 0 ≤ x ∧ x < p.length) (hn : p.length < 4294967296) : EV (fun k => spec_l6Inverse.f k p) (invM p) := by
  refine EV.pos (by omega) (EV.pos (by omega) ?_)
  refine EV.count (g := fun k s i => spec_l6Inverse.l0 k p s i) p.length (invK p) _ (fun i hi H => ?_) ?_
  · have hx := hp _ (List.getElem_mem hi)
    have hl : (invK p i).length = p.length := (invK_I p (by omega) i (by omega)).1
    refine EV.step (fun k => by rw [spec_l6Inverse.l0]) ?_
    rw [rd_nat _ _ hi, w64 (x := (i : Int) + 1) (by omega) (by omega)]
    refine EV.pos (by omega) (EV.pos (by omega) (EV.pos (by omega) (EV.pos (by omega) ?_)))
    rw [invK_succ] at H
    have e : p.getD i 0 = p[i] := by simp [hi]
    rw [e] at H
    exact H
  · refine EV.step (fun k => by rw [spec_l6Inverse.l0]) ?_
    exact EV.neg (by omega) (EV.now _)

theorem spec_l9Act_is (l : List (List Int)) (w : List Int) (s : Int) (hs : sheetsB l = true) (hw : lettersB l w) (hn : w.length < 4294967296) (h0 : 0 ≤ s) (h1 : s < d0 l) : EV (fun k => spec_l9Act.f k l w s) (actS l w s) := by
  have S := sheetsB_of hs
  refine EV.fold (g := fun k s i => spec_l9Act.l0 k l w s i) w (fun s a => (stepP l a).getD s.toNat 0) id (fun _ s => 0 ≤ s ∧ s < d0 l) (fun i h s r hI H => ?_) (fun s hI => ?_) s ⟨h0, h1⟩
  · have ha := hw _ (List.getElem_mem h)
    have I := stepP_I hs ha.1 ha.2.1
    have hi : (w[i]).natAbs - 1 < l.length := by omega
    have row := S.2.2.2 _ (List.getElem_mem hi)
    have e : l.getD ((w[i]).natAbs - 1) [] = l[(w[i]).natAbs - 1] := by simp [hi]
    have H := H (getD_in I.1 I.2 hI.1 hI.2)
    refine EV.step (fun k => by rw [spec_l9Act.l0]) ?_
    rw [rd_nat _ _ h, w64 (x := (i : Int) + 1) (by omega) (by omega)]
    refine EV.pos (by omega) (EV.pos (by omega) (EV.by (spec_l3Abs_is _ (by omega) (by omega)) ?_))
    rw [w64 (x := ((w[i]).natAbs : Int) - 1) (by omega) (by omega), show (((w[i]).natAbs : Int) - 1) = (((w[i]).natAbs - 1 : Nat) : Int) by omega, rdL_nat _ _ hi]
    refine EV.pos (by omega) (EV.pos (by omega) ?_)
    by_cases hneg : w[i] < 0
    · refine EV.pos hneg (EV.bind (spec_l6Inverse_is _ (permB_of row.2).1 (by omega)) ?_)
      have e2 : stepP l w[i] = invM l[(w[i]).natAbs - 1] := by unfold stepP; rw [if_pos hneg, e]
      rw [e2] at I H
      exact EV.pos hI.1 (EV.pos (by omega) H)
    · refine EV.neg hneg ?_
      have e2 : stepP l w[i] = l[(w[i]).natAbs - 1] := by unfold stepP; rw [if_neg hneg, e]
      rw [e2] at I H
      exact EV.pos hI.1 (EV.pos (by omega) H)
  · refine EV.step (fun k => by rw [spec_l9Act.l0]) ?_
    exact EV.neg (by omega) (EV.now _)

theorem spec_ActWord_is (l : List (List Int)) (w : List Int) (hn : l.length < 4294967296) (hr : ∀ r ∈ l, r.length < 4294967296) (hw : w.length < 4294967296) : EV (fun k => spec_ActWord.f k l w) (actM l w) := by
  have no : EV (fun k => spec_ActWord.j0 k l w true) [] := by
    refine EV.step (fun k => by rw [spec_ActWord.j0]) ?_
    exact EV.pos rfl (EV.now _)
  unfold actM
  refine EV.bind (spec_l9Perms_is l hn hr) ?_
  by_cases h1 : permsB l = true
  · refine EV.pos h1 (EV.bind (spec_IsWord_is w (by omega)) ?_)
    have hs : sheetsB l = true := by have := h1; simp only [permsB, Bool.and_eq_true] at this; exact this.1
    have S := sheetsB_of hs
    by_cases h2 : wordB w = true
    · rw [h2]
      refine EV.step (fun k => by rw [spec_ActWord.j0]) ?_
      refine EV.neg (by simp) ?_
      refine EV.scanC (g := fun k i => spec_ActWord.l0 k l w i) w (leB l.length) _ [] (fun i h H1 H2 => ?_) (fun h3 => ?_) (fun h3 => ?_)
      · have hx := letterB_of (all_getElem (wordB_of h2).1 i h)
        refine EV.step (fun k => by rw [spec_ActWord.l0]) ?_
        rw [rd_nat _ _ h, w64 (x := (i : Int) + 1) (by omega) (by omega)]
        refine EV.pos (by omega) (EV.pos (by omega) (EV.by (spec_l3Abs_is _ (by omega) (by omega)) ?_))
        exact EV.cases (fun c => (EV.now _).eq (H2 (by simp [leB]; omega)).symm) (fun c => H1 (by simp [leB]; omega))
      · have hok : wordOk l w = true := by unfold wordOk; rw [h2, h3]; rfl
        rw [if_pos ⟨h1, hok⟩]
        have L := letters_of hok
        refine EV.step (fun k => by rw [spec_ActWord.l0]) ?_
        refine EV.neg (by omega) ?_
        refine EV.count (g := fun k s i => spec_ActWord.l1 k l w s i) (d0 l) (fun i => (List.range i).map fun j : Nat => actS l w (j : Int)) _ (fun i hi H => ?_) ?_
        · refine EV.step (fun k => by rw [spec_ActWord.l1]) ?_
          rw [w64 (x := (i : Int) + 1) (by omega) (by omega), rdL_zero]
          refine EV.pos (by omega) (EV.pos (by unfold d0 at hi; omega) (EV.bind (spec_l9Act_is l w (i : Int) hs L.1 hw (by omega) (by omega)) (EV.pos (by simp; omega) ?_)))
          simpa [List.range_succ] using H
        · refine EV.step (fun k => by rw [spec_ActWord.l1]) ?_
          rw [rdL_zero]
          refine EV.pos (by omega) (EV.neg (by unfold d0; omega) ((EV.now _).eq ?_))
          simp [actL, idM, Function.comp_def]
      · rw [if_neg]
        intro c
        have := c.2
        unfold wordOk at this
        rw [h3, Bool.and_false] at this; cases this
    · rw [show wordB w = false by simpa using h2, if_neg]
      · exact no
      · intro c
        have := c.2
        unfold wordOk at this
        rw [Bool.and_eq_true] at this; exact h2 this.1
  · rw [if_neg (fun c => h1 c.1)]
    exact EV.neg h1 no

theorem wf_nine {w : List Int} (h : ∀ x ∈ w, x.natAbs ≤ 9) : ∀ x ∈ w, (Lit.int .i64 x).wf = true := fun x hx => by
  have := h x hx
  simp [Lit.wf, IntKind.min, IntKind.max, IntKind.signed, IntKind.bits]; omega
theorem wf_small {g : Int} {w : List Int} (h : ∀ x ∈ w, okL g x) : ∀ x ∈ w, (Lit.int .i64 x).wf = true := wf_nine (fun x hx => by
  have := letterB_of (h x hx).1
  omega)
theorem relM_len (n : Int) : (relM n).length ≤ 8 := by
  unfold relM
  split
  · simp
  · split <;> simp
theorem homM_len (g : Int) (w : List Int) : (homM g w).length ≤ 8 := by
  unfold homM
  split
  · rw [List.length_take, sumsM_len]; omega
  · simp
theorem fg_ev (b : List Int) (hb : b.length ≤ 140737488351232) : EV (fun k => laws_FnGroups.f k b) true := by
  by_cases h : (b.length : Int) > 1048576
  · refine EV.by (show laws_big.f b = some true by unfold laws_big.f; rw [decide_eq_true h]) ?_
    exact EV.pos rfl (EV.now _)
  · have hb' : b.length ≤ 1048576 := by omega
    obtain ⟨g, w, Ew, wl, w9⟩ := spec_DrawIsTrivialWord_is b hb'
    obtain ⟨e, v, u, Eq, vl, ul, v9, u9⟩ := spec_DrawAreEqualWords_is b hb'
    obtain ⟨a, p, q, Ec, pl, ql, p9, q9⟩ := spec_DrawCommuteIn_is b hb'
    obtain ⟨n, En, n0, n3⟩ := spec_DrawRelator_is b hb'
    have ww := wf_nine w9
    have wv := wf_nine v9
    have wu := wf_nine u9
    have wp := wf_nine p9
    have wq := wf_nine q9
    have T := fun (g : Int) (w : List Int) (l : w.length ≤ 100) (h : ∀ x ∈ w, (Lit.int .i64 x).wf = true) => impl_IsTrivialWord_is g w (by omega) h
    -- the last way: the relator
    have j5 : ∀ f : Bool, (f = true → n = 1 ∨ n = 2) → (f = false → n ≠ 1 ∧ n ≠ 2) → EV (fun k => laws_FnGroups.j5 k n f) true := by
      intro f h1 h2
      refine EV.step (fun k => by rw [laws_FnGroups.j5]) ?_
      cases f with
      | true =>
        have hn := h1 rfl
        obtain ⟨r1, r2, r3⟩ := rel_triv n hn
        have er : relM n = relG n := by rcases hn with rfl | rfl <;> rfl
        have lr := relM_len n
        have wr : ∀ x ∈ relM n, (Lit.int .i64 x).wf = true := by
          rw [er]; exact wf_small (relG_ok hn).2
        refine EV.pos rfl (EV.by (impl_Relator_is n) (EV.bind (T n (relM n) (by omega) wr) (EV.pos (by rw [er, r1, r2]; rfl) (EV.bind (impl_CommuteIn_is n [1] [1, 1] (by simp) (by simp) (wf_nine (by decide)) (wf_nine (by decide))) ?_))))
        rw [r3]; exact EV.now _
      | false =>
        have hn := h2 rfl
        have er : relM n = [] := by unfold relM; rw [if_neg hn.1, if_neg hn.2]
        refine EV.neg (by simp) (EV.by (impl_Relator_is n) ?_)
        rw [er]; exact EV.now _
    have j4 : EV (fun k => laws_FnGroups.j4 k n) true := by
      refine EV.step (fun k => by rw [laws_FnGroups.j4]) ?_
      by_cases hn : n = 1
      · exact EV.pos hn (j5 true (fun _ => .inl hn) (fun c => by cases c))
      · refine EV.neg hn (j5 (n == 2) (fun c => .inr (beq_iff_eq.1 c)) (fun c => ⟨hn, by simpa using c⟩))
    have j3 : EV (fun k => laws_FnGroups.j3 k w n false) true := by
      refine EV.step (fun k => by rw [laws_FnGroups.j3]) ?_
      refine EV.neg (by simp) (EV.bind (T 2 w (by omega) ww) ?_)
      by_cases ht : (fitsB 2 w && trivM 2 w) = true
      · have ht' := ht
        simp only [Bool.and_eq_true] at ht'
        have A := spec_ActWord_is acts3 w (by decide) (by decide) (by omega)
        rw [act_triv ht'.1 ht'.2] at A
        exact EV.pos ht (EV.bind A (EV.bind (laws_sameInts_self [0, 1, 2] (by simp)) (EV.pos rfl j4)))
      · exact EV.neg ht j4
    have j2 : EV (fun k => laws_FnGroups.j2 k w e v u n false) true := by
      refine EV.step (fun k => by rw [laws_FnGroups.j2]) ?_
      refine EV.neg (by simp) (EV.bind (impl_AreEqualWords_is e v u (by omega) (by omega) wv wu) ?_)
      by_cases ht : eqM e v u = true
      · obtain ⟨s1, s2⟩ := eq_swap ht
        have eh : homM e v = homM e u := by
          have ht' := ht
          simp only [eqM, Bool.and_eq_true] at ht'
          unfold homM
          rw [if_pos ht'.1, if_pos ht'.2.1, s2]
        have hl := homM_len e u
        refine EV.pos ht (EV.bind (impl_AreEqualWords_is e u v (by omega) (by omega) wu wv) (EV.pos s1 (EV.bind (impl_HomologyOf_is e v (by omega) wv) (EV.bind (impl_HomologyOf_is e u (by omega) wu) ?_))))
        rw [eh]
        exact EV.bind (laws_sameInts_self _ (by omega)) j3
      · exact EV.neg ht j3
    have j1 : EV (fun k => laws_FnGroups.j1 k g w e v u n false) true := by
      refine EV.step (fun k => by rw [laws_FnGroups.j1]) ?_
      refine EV.neg (by simp) (EV.bind (T g w (by omega) ww) ?_)
      by_cases ht : (fitsB g w && trivM g w) = true
      · have ht' := ht
        simp only [Bool.and_eq_true] at ht'
        obtain ⟨hf, hv⟩ := ht'
        have ok := fits_ok hf
        have wb : wordB w = true := by
          simp only [fitsB, hasB, Bool.and_eq_true] at hf
          exact hf.2.2
        have hz : ∀ x ∈ homM g w, x = 0 := fun x hx => by
          unfold homM at hx
          rw [if_pos hf] at hx
          exact hom_zero hf hv x (List.mem_of_mem_take hx)
        have hl := homM_len g w
        have S := laws_total_is (homM g w) (by omega) (fun x hx => by rw [hz x hx]; omega)
        have s0 : (homM g w).sum = 0 := by
          have : ∀ l : List Int, (∀ x ∈ l, x = 0) → l.sum = 0 := by
            intro l
            induction l with
            | nil => intro _; rfl
            | cons x l ih => intro h; rw [List.sum_cons, h x (by simp), ih (fun y hy => h y (by simp [hy]))]; rfl
          exact this _ hz
        rw [s0] at S
        have oi := ok_inv ok
        have ti : (fitsB g (invW w) && trivM g (invW w)) = true := by rw [ok_fits oi, triv_inv ok hv]; rfl
        have ht3 : ∃ j, j ≤ w.length ∧ turnM w (3 % w.length) = turnM w j := by
          rcases Nat.eq_zero_or_pos w.length with c | c
          · have e0 : w = [] := List.length_eq_zero_iff.1 c
            subst e0
            exact ⟨0, Nat.le_refl _, by simp [turnM]⟩
          · exact ⟨_, Nat.le_of_lt (Nat.mod_lt _ c), rfl⟩
        obtain ⟨j, hj, ej⟩ := ht3
        have TW := spec_TurnWord_is wb 3
        rw [ej] at TW
        have ot := ok_turn ok hj
        have tt : (fitsB g (turnM w j) && trivM g (turnM w j)) = true := by rw [ok_fits ot, triv_turn ok hv hj]; rfl
        have il := oi.2.2
        have tl := ot.2.2
        refine EV.pos ht (EV.bind (impl_HomologyOf_is g w (by omega) ww) (EV.bind S (EV.pos rfl (EV.bind (spec_InverseWord_is wb) (EV.bind (T g (invW w) (by omega) (wf_small oi.2.1)) (EV.pos ti ?_))))))
        refine EV.bind TW (EV.bind (T g _ (by omega) (wf_small ot.2.1)) ?_)
        rw [tt]; exact j2
      · exact EV.neg ht j2
    have j0 : EV (fun k => laws_FnGroups.j0 k g w (dehnStepM g w).1 (dehnStepM g w).2 e v u n false) true := by
      refine EV.step (fun k => by rw [laws_FnGroups.j0]) ?_
      refine EV.neg (by simp) ?_
      by_cases hs : (dehnStepM g w).2 = true
      · have hf : fitsB g w = true := by
          apply Classical.byContradiction
          intro c
          unfold dehnStepM at hs
          rw [if_neg c] at hs; cases hs
        have ok := fits_ok hf
        have wb : wordB w = true := by
          simp only [fitsB, hasB, Bool.and_eq_true] at hf
          exact hf.2.2
        have ed : dehnStepM g w = dstepM g (redM w) := by unfold dehnStepM; rw [if_pos hf]
        rw [ed] at hs ⊢
        obtain ⟨s1, s2, s3⟩ := stepFrom_ok (red_ok ok) (redM w).length 0 (by omega) hs
        have s1' : okW g (dstepM g (redM w)).1 := s1
        have s3' : (dstepM g (redM w)).1.length < (redM w).length := s3
        have sl := s1'.2.2
        refine EV.pos hs (EV.bind (spec_ReduceWord_is wb) (EV.neg (by omega) (EV.bind (T g _ (by omega) (wf_small s1'.2.1)) (EV.bind (T g w (by omega) ww) ?_))))
        rw [ok_fits s1', hf, step_triv ok hs, show ((true && trivM g w) != (true && trivM g w)) = false by simp]
        exact j1
      · exact EV.neg hs j1
    have sd : (dehnStepM g w).1.length ≤ 1048576 := by
      unfold dehnStepM
      split
      · rename_i hf
        have := stepFrom_len (red_ok (fits_ok hf)) _ _ (show 0 + (redM w).length = (redM w).length by omega)
        unfold dstepM; omega
      · simp
    have dl : (if fitsB g w = true then dehnM g w else []).length ≤ 1048576 := by
      split
      · rename_i hf
        have := dehnF_len (redM w).length _ (red_ok (fits_ok hf))
        unfold dehnM; omega
      · simp
    have hl := homM_len g w
    have rl := relM_len n
    have SD : EV (fun k => spec_DehnStep.f k g w) (dehnStepM g w) := spec_DehnStep_is g w (by omega)
    refine EV.by (laws_big_no b h) (EV.neg (by simp) ?_)
    refine EV.bind Ew (EV.bind (impl_DehnStep_is g w (by omega) ww) (EV.bind SD (EV.bind Eq (EV.bind Ec (EV.bind En (EV.bind (impl_DehnWord_is g w (by omega) ww) ?_))))))
    refine EV.neg (by simp) (EV.bind (laws_sameInts_self _ sd) (EV.pos rfl ?_))
    refine EV.bind (impl_AreEqualWords_is e v u (by omega) (by omega) wv wu) (EV.bind (spec_AreEqualWords_is e v u (by omega) (by omega)) (EV.neg (by simp) ?_))
    refine EV.bind (impl_CommuteIn_is a p q (by omega) (by omega) wp wq) (EV.bind (spec_CommuteIn_is a p q (by omega) (by omega)) (EV.neg (by simp) ?_))
    refine EV.by (impl_Relator_is n) (EV.by (spec_Relator_is n) (EV.bind (laws_sameInts_self _ (by omega)) (EV.pos rfl ?_)))
    refine EV.bind (spec_DehnWord_is g w (by omega)) (EV.bind (laws_sameInts_self _ dl) (EV.pos rfl ?_))
    refine EV.bind (T g w (by omega) ww) (EV.bind (spec_IsTrivialWord_is g w (by omega)) (EV.neg (by simp) ?_))
    refine EV.bind (impl_HomologyOf_is g w (by omega) ww) (EV.bind (spec_HomologyOf_is g w (by omega)) (EV.bind (laws_sameInts_self _ (by omega)) ?_))
    exact j0
theorem FnGroups : laws_FnGroups.Pure := by
  intro b h1 h2 h3
  exact EV.rounds (fg_ev b (by omega))

end Go.Proofs.Ytbchbmfmplfoiaa.Pure
