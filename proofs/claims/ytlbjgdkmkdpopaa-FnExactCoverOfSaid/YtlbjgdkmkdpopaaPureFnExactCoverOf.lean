/- Pure side of FnExactCoverOf: the printed functions of the program and of the reference answer alike at every input that the statement takes; no condition beyond the printed statement's bounds. -/
import Derived.Test.YtlbjgdkmkdpopaaVFnExactCoverOf
import Derived.Test.YtlbjgdkmkdpopaaWSized
set_option linter.unusedVariables false
set_option linter.unusedSimpArgs false
set_option linter.unnecessarySimpa false
set_option maxRecDepth 10000
/-- the printed row calls the print's word by this name -/
abbrev Go.Proofs.Ytlbjgdkmkdpopaa.PrintWords.sized_ints := @Go.Proofs.YtlbjgdkmkdpopaaW.PrintWords.sized_ints
namespace Go.Proofs.Ytlbjgdkmkdpopaa.Pure
open Go.RowKit Go.Proofs.Ytlbjgdkmkdpopaa.PFnExactCoverOf Go.Proofs.YtlbjgdkmkdpopaaW.PrintWords Go.Proofs.YtlbjgdkmkdpopaaW.PrintLast Go.Proofs.YtlbjgdkmkdpopaaW.PrintMore
open Go.Proofs.Ytlbjgdkmkdpopaa.VFnExactCoverOf

/-! ### Base: words of our own, of no program -/
section
theorem w64 {x : Int} (h1 : -9223372036854775808 ≤ x) (h2 : x ≤ 9223372036854775807) : wrap64 x = x := by
  unfold wrap64; omega
/-- from some number of rounds on it answers r -/
structure EV {α : Type} (g : Nat → Option α) (r : α) : Prop where mk :: (out : ∃ K, ∀ k, K ≤ k → g k = some r)
theorem EV.now {α : Type} (r : α) : EV (fun _ => some r) r := ⟨0, fun _ _ => rfl⟩
theorem EV.rounds {α : Type} {g : Nat → Option α} {r : α} (h : EV g r) : ∃ k, g k = some r := by
  obtain ⟨K, h⟩ := h
  exact ⟨K, h K (Nat.le_refl _)⟩
theorem EV.bind {α β : Type} {g : Nat → Option α} {f : Nat → α → Option β} {a : α} {r : β} (h : EV g a) (k : EV (fun n => f n a) r) : EV (fun n => (g n).bind (f n)) r := by
  obtain ⟨K, h⟩ := h
  obtain ⟨K', k⟩ := k
  refine ⟨max K K', fun n hn => ?_⟩
  have h1 := h n (by omega)
  have h2 := k n (by omega)
  simp only [h1, Option.bind_some]
  exact h2
theorem EV.step {α : Type} {g f : Nat → Option α} {r : α} (h : ∀ k, g (k + 1) = f k) (k : EV f r) : EV g r := by
  obtain ⟨K, k⟩ := k
  refine ⟨K + 1, fun n hn => ?_⟩
  obtain ⟨m, rfl⟩ : ∃ m, n = m + 1 := ⟨n - 1, by omega⟩
  rw [h]
  exact k m (by omega)
theorem EV.congr {α : Type} {g f : Nat → Option α} {r : α} (h : ∀ k, g k = f k) (k : EV f r) : EV g r := by
  obtain ⟨K, k⟩ := k
  exact ⟨K, fun n hn => (h n).trans (k n hn)⟩
theorem EV.pos {α : Type} {c : Prop} [Decidable c] {a b : Nat → Option α} {r : α} (h : c) (k : EV a r) : EV (fun n => if c then a n else b n) r :=
  EV.congr (fun n => if_pos h) k
theorem EV.neg {α : Type} {c : Prop} [Decidable c] {a b : Nat → Option α} {r : α} (h : ¬ c) (k : EV b r) : EV (fun n => if c then a n else b n) r :=
  EV.congr (fun n => if_neg h) k
theorem EV.cases {α : Type} {c : Prop} [Decidable c] {a b : Nat → Option α} {r : α} (h : c → EV a r) (h' : ¬ c → EV b r) : EV (fun n => if c then a n else b n) r := by
  by_cases hc : c
  · exact EV.pos hc (h hc)
  · exact EV.neg hc (h' hc)
/-- a callee without rounds -/
theorem EV.by {α β : Type} {g : Option α} {f : Nat → α → Option β} {a : α} {r : β} (h : g = some a) (k : EV (fun n => f n a) r) : EV (fun n => g.bind (f n)) r := by
  subst h; exact k
theorem EV.eq {α : Type} {g : Nat → Option α} {r r' : α} (h : EV g r) (e : r = r') : EV g r' := e ▸ h
theorem rd_app (pre : List Int) (x : Int) (suf : List Int) : rd (pre ++ x :: suf) (pre.length : Int) = x := by
  simp [rd]
theorem rd_nat (xs : List Int) (i : Nat) (h : i < xs.length) : rd xs (i : Int) = xs[i] := by
  simp [rd, h]
theorem set_app {α : Type} (pre : List α) (x y : α) (suf : List α) (n : Nat) (hn : n = pre.length) : (pre ++ x :: suf).set n y = pre ++ y :: suf := by
  subst hn; simp
end
/-- one index on -/
theorem up {α : Type} {x : α} {pre : List α} (h : pre.length < 4611686018427387904) : wrap64 ((pre.length : Int) + 1) = ((pre ++ [x]).length : Int) := by
  rw [w64 (by omega) (by omega)]; simp
theorem lt_app {α : Type} (pre : List α) (x : α) (suf : List α) : (pre.length : Int) < ((pre ++ x :: suf).length : Int) := by simp; omega
theorem EV.uniq {α : Type} {g : Nat → Option α} {r r' : α} (h : EV g r) (h' : EV g r') : r = r' := by
  obtain ⟨K, h⟩ := h
  obtain ⟨K', h'⟩ := h'
  have a := h (max K K') (by omega)
  have b := h' (max K K') (by omega)
  rw [a] at b; exact Option.some.inj b
/-- from some number of rounds on -/
def Evt (P : Nat → Prop) : Prop := ∃ K, ∀ k, K ≤ k → P k
theorem Evt.and {P Q : Nat → Prop} (h : Evt P) (h' : Evt Q) : Evt (fun k => P k ∧ Q k) := by
  obtain ⟨K, h⟩ := h
  obtain ⟨K', h'⟩ := h'
  exact ⟨max K K', fun k hk => ⟨h k (by omega), h' k (by omega)⟩⟩
theorem Evt.const {p : Prop} (h : p) : Evt (fun _ => p) := ⟨0, fun _ _ => h⟩
theorem EV.evt {α : Type} {g : Nat → Option α} {r : α} (h : EV g r) : Evt (fun k => g k = some r) := h.out
theorem Evt.imp {P Q : Nat → Prop} (h : Evt P) (f : ∀ k, P k → Q k) : Evt Q := by
  obtain ⟨K, h⟩ := h
  exact ⟨K, fun k hk => f k (h k hk)⟩
theorem Evt.rounds {P : Nat → Prop} (h : Evt P) : ∃ k, P k := by
  obtain ⟨K, h⟩ := h
  exact ⟨K, h K (Nat.le_refl _)⟩
theorem EV.mono {α : Type} {g : Nat → Option α} (hg : ∀ k, LeO (g k) (g (k + 1))) {k : Nat} {r : α} (h : g k = some r) : EV g r := ⟨k, fun _ hk => at_rounds hg hk h⟩

theorem rdL_app (pre : List (List Int)) (x : List Int) (suf : List (List Int)) : rd_L1 (pre ++ x :: suf) (pre.length : Int) = x := by
  simp [rd_L1]
theorem rdL_nat (xs : List (List Int)) (i : Nat) (h : i < xs.length) : rd_L1 xs (i : Int) = xs[i] := by
  simp [rd_L1, h]

/-- a loop that looks at each member and answers early, or goes on -/
theorem EV.scan {α : Type} {g : Nat → Int → Option Bool} (xs : List α) (p : α → Bool) (fin : Bool)
    (hs : ∀ (i : Nat) (h : i < xs.length) (r : Bool), (p xs[i] = true → EV (fun k => g k ((i : Int) + 1)) r) → (p xs[i] = false → r = false) → EV (fun k => g k (i : Int)) r)
    (hf : EV (fun k => g k (xs.length : Int)) fin) : EV (fun k => g k 0) (xs.all p && fin) := by
  suffices h : ∀ (n i : Nat), i + n = xs.length → EV (fun k => g k (i : Int)) ((xs.drop i).all p && fin) by
    have := h xs.length 0 (by omega)
    simpa using this
  intro n
  induction n with
  | zero =>
    intro i hi
    have e : i = xs.length := by omega
    subst e
    simpa using hf
  | succ n ih =>
    intro i hi
    have hlt : i < xs.length := by omega
    have e : xs.drop i = xs[i] :: xs.drop (i + 1) := List.drop_eq_getElem_cons hlt
    rw [e, List.all_cons]
    refine hs i hlt _ (fun hp => ?_) (fun hp => by simp [hp])
    rw [hp, Bool.true_and]
    exact_mod_cast ih (i + 1) (by omega)
/-- a fold over the members -/
theorem EV.fold {α σ ρ : Type} {g : Nat → σ → Int → Option ρ} (xs : List α) (f : σ → α → σ) (fin : σ → ρ) (I : Nat → σ → Prop)
    (hs : ∀ (i : Nat) (h : i < xs.length) (s : σ) (r : ρ), I i s → (I (i + 1) (f s xs[i]) → EV (fun k => g k (f s xs[i]) ((i : Int) + 1)) r) → EV (fun k => g k s (i : Int)) r)
    (hf : ∀ s, I xs.length s → EV (fun k => g k s (xs.length : Int)) (fin s)) : ∀ s, I 0 s → EV (fun k => g k s 0) (fin (xs.foldl f s)) := by
  suffices h : ∀ (n i : Nat), i + n = xs.length → ∀ s, I i s → EV (fun k => g k s (i : Int)) (fin ((xs.drop i).foldl f s)) by
    intro s hI
    have := h xs.length 0 (by omega) s hI
    simpa using this
  intro n
  induction n with
  | zero =>
    intro i hi s hI
    have e : i = xs.length := by omega
    subst e
    simpa using hf s hI
  | succ n ih =>
    intro i hi s hI
    have hlt : i < xs.length := by omega
    have e : xs.drop i = xs[i] :: xs.drop (i + 1) := List.drop_eq_getElem_cons hlt
    rw [e, List.foldl_cons]
    refine hs i hlt s _ hI (fun hI' => ?_)
    exact_mod_cast ih (i + 1) (by omega) _ hI'
/-- counting up to n, the state told by the count -/
theorem EV.count {σ ρ : Type} {g : Nat → σ → Int → Option ρ} (n : Nat) (f : Nat → σ) (r : ρ)
    (hs : ∀ i, i < n → EV (fun k => g k (f (i + 1)) ((i : Int) + 1)) r → EV (fun k => g k (f i) (i : Int)) r)
    (hf : EV (fun k => g k (f n) (n : Int)) r) : EV (fun k => g k (f 0) 0) r := by
  suffices h : ∀ (m i : Nat), i + m = n → EV (fun k => g k (f i) (i : Int)) r by exact h n 0 (by omega)
  intro m
  induction m with
  | zero => intro i hi; have : i = n := by omega
            subst this; exact hf
  | succ m ih => intro i hi; exact hs i (by omega) (by exact_mod_cast ih (i + 1) (by omega))
/-- counting up to n with an early answer -/
theorem EV.countB {g : Nat → Int → Option Bool} (n : Nat) (p : Nat → Bool) (fin : Bool)
    (hs : ∀ (i : Nat) (h : i < n) (r : Bool), (p i = true → EV (fun k => g k ((i : Int) + 1)) r) → (p i = false → r = false) → EV (fun k => g k (i : Int)) r)
    (hf : EV (fun k => g k (n : Int)) fin) : EV (fun k => g k 0) ((List.range n).all p && fin) := by
  refine EV.scan (List.range n) p fin (fun i h r H1 H2 => ?_) (by rw [List.length_range]; exact hf)
  rw [List.getElem_range] at H1 H2
  exact hs i (by simpa using h) r H1 H2
/-- counting up to n with an early answer, into what comes behind -/
theorem EV.countC {ρ : Type} {g : Nat → Int → Option ρ} (n : Nat) (p : Nat → Bool) (r early : ρ)
    (hs : ∀ i, i < n → (p i = true → EV (fun k => g k ((i : Int) + 1)) r) → (p i = false → r = early) → EV (fun k => g k (i : Int)) r)
    (hf : (List.range n).all p = true → EV (fun k => g k (n : Int)) r) (he : (List.range n).all p = false → r = early) : EV (fun k => g k 0) r := by
  suffices h : ∀ (m i : Nat), i + m = n → (∀ j, j < i → p j = true) → EV (fun k => g k (i : Int)) r by exact h n 0 (by omega) (fun j hj => by omega)
  intro m
  induction m with
  | zero =>
    intro i hi ha
    have : i = n := by omega
    subst this
    exact hf (by rw [List.all_eq_true]; intro x hx; exact ha x (List.mem_range.1 hx))
  | succ m ih =>
    intro i hi ha
    refine hs i (by omega) (fun hp => ?_) (fun hp => he ?_)
    · have := ih (i + 1) (by omega) (fun j hj => by
        by_cases e : j = i
        · rw [e]; exact hp
        · exact ha j (by omega))
      exact_mod_cast this
    · rw [List.all_eq_false]
      exact ⟨i, List.mem_range.2 (by omega), by simp [hp]⟩
/-- looking at each member with an early answer, into what comes behind -/
theorem EV.scanC {α ρ : Type} {g : Nat → Int → Option ρ} (xs : List α) (p : α → Bool) (r early : ρ)
    (hs : ∀ (i : Nat) (h : i < xs.length), (p xs[i] = true → EV (fun k => g k ((i : Int) + 1)) r) → (p xs[i] = false → r = early) → EV (fun k => g k (i : Int)) r)
    (hf : xs.all p = true → EV (fun k => g k (xs.length : Int)) r) (he : xs.all p = false → r = early) : EV (fun k => g k 0) r := by
  have e : xs.all p = (List.range xs.length).all (fun i => (xs[i]?.map p).getD true) := by
    rw [Bool.eq_iff_iff, List.all_eq_true, List.all_eq_true]
    constructor
    · intro h i hi
      have := List.mem_range.1 hi
      simpa [this] using h _ (List.getElem_mem this)
    · intro h x hx
      obtain ⟨i, hi, rfl⟩ := List.mem_iff_getElem.1 hx
      have := h i (List.mem_range.2 hi)
      simpa [hi] using this
  rw [e] at hf he
  refine EV.countC xs.length _ r early (fun i hi H1 H2 => ?_) hf he
  exact hs i hi (fun h => H1 (by simpa [hi] using h)) (fun h => H2 (by simpa [hi] using h))
/-- a fold over the members, into what comes behind -/
theorem EV.foldC {α σ ρ : Type} {g : Nat → σ → Int → Option ρ} (xs : List α) (f : σ → α → σ) (I : Nat → σ → Prop) (r : ρ)
    (hs : ∀ (i : Nat) (h : i < xs.length) (s : σ), I i s → (I (i + 1) (f s xs[i]) → EV (fun k => g k (f s xs[i]) ((i : Int) + 1)) r) → EV (fun k => g k s (i : Int)) r)
    (s : σ) (hI : I 0 s) (hf : I xs.length (xs.foldl f s) → EV (fun k => g k (xs.foldl f s) (xs.length : Int)) r) : EV (fun k => g k s 0) r := by
  suffices h : ∀ (n i : Nat), i + n = xs.length → ∀ s, I i s → (I xs.length ((xs.drop i).foldl f s) → EV (fun k => g k ((xs.drop i).foldl f s) (xs.length : Int)) r) → EV (fun k => g k s (i : Int)) r by
    have := h xs.length 0 (by omega) s hI (by simpa using hf)
    simpa using this
  intro n
  induction n with
  | zero =>
    intro i hi s hI hf
    have e : i = xs.length := by omega
    subst e
    simpa using hf (by simpa using hI)
  | succ n ih =>
    intro i hi s hI hf
    have hlt : i < xs.length := by omega
    have e : xs.drop i = xs[i] :: xs.drop (i + 1) := List.drop_eq_getElem_cons hlt
    rw [e, List.foldl_cons] at hf
    refine hs i hlt s hI (fun hI' => ?_)
    exact_mod_cast ih (i + 1) (by omega) _ hI' hf

def letterB (x : Int) : Bool := decide (-8 ≤ x ∧ x ≤ 8 ∧ x ≠ 0)
def wordB (xs : List Int) : Bool := xs.all letterB && decide (xs.length ≤ 24)
theorem letterB_of {x : Int} (h : letterB x = true) : -8 ≤ x ∧ x ≤ 8 ∧ x ≠ 0 := by simpa [letterB] using h
theorem wordB_of {xs : List Int} (h : wordB xs = true) : (∀ x ∈ xs, letterB x = true) ∧ xs.length ≤ 24 := by simpa [wordB] using h
def leB (m : Int) (x : Int) : Bool := decide ((x.natAbs : Int) ≤ m)
theorem all_getElem {α : Type} {p : α → Bool} {xs : List α} (h : ∀ x ∈ xs, p x = true) (i : Nat) (hi : i < xs.length) : p xs[i] = true := h _ (List.getElem_mem hi)
/-- a table, changed at one place -/
theorem tab_set {α : Type} (n : Nat) (f : Nat → α) (a : Nat) (y : α) : ((List.range n).map f).set a y = (List.range n).map fun v => if v = a then y else f v := by
  apply List.ext_getElem
  · simp
  · intro i h1 h2
    rw [List.getElem_set]
    simp only [List.getElem_map, List.getElem_range]
    by_cases h : a = i
    · rw [if_pos h, if_pos h.symm]
    · rw [if_neg h, if_neg (fun e => h e.symm)]
def inB (n : Nat) (x : Int) : Bool := decide (0 ≤ x ∧ x < n)
def permB (p : List Int) : Bool := p.all (inB p.length) && decide p.Nodup
def seenM (n : Nat) (pre : List Int) : List Bool := (List.range n).map fun i : Nat => decide ((i : Int) ∈ pre)
theorem rdOf_tab {α : Type} (d : α) (n : Nat) (f : Nat → α) (a : Int) (h0 : 0 ≤ a) (h : a < n) : rdOf d ((List.range n).map f) a = f a.toNat := by
  have : a.toNat < n := by omega
  simp [rdOf, this]
theorem seenM_snoc (n : Nat) (pre : List Int) (x : Int) (h0 : 0 ≤ x) : (seenM n pre).set x.toNat true = seenM n (pre ++ [x]) := by
  unfold seenM
  rw [tab_set]
  apply List.map_congr_left
  intro i hi
  by_cases h : i = x.toNat
  · rw [if_pos h, decide_eq_true]; rw [List.mem_append, List.mem_singleton]; right; omega
  · rw [if_neg h]
    congr 1
    rw [List.mem_append, List.mem_singleton]
    have : ¬ (i : Int) = x := by omega
    simp [this]
theorem seenM_nil (n : Nat) : seenM n [] = List.replicate n false := by
  apply List.ext_getElem
  · simp [seenM]
  · intro i h1 h2
    simp [seenM]
theorem inB_of {n : Nat} {x : Int} (h : inB n x = true) : 0 ≤ x ∧ x < n := by simpa [inB] using h
theorem permB_of {p : List Int} (h : permB p = true) : (∀ x ∈ p, 0 ≤ x ∧ x < p.length) ∧ p.Nodup := by
  simp only [permB, Bool.and_eq_true, List.all_eq_true, decide_eq_true_iff] at h
  exact ⟨fun x hx => inB_of (h.1 x hx), h.2⟩
/-- how many sheets -/
def d0 (l : List (List Int)) : Nat := (l.getD 0 []).length
def sheetB (n : Nat) (r : List Int) : Bool := decide (r.length = n) && permB r
def sheetsB (l : List (List Int)) : Bool := decide (0 < l.length) && (decide (1 ≤ d0 l ∧ d0 l ≤ 5) && l.all (sheetB (d0 l)))
def permsB (l : List (List Int)) : Bool := sheetsB l && decide (l.length ≤ 8)
theorem rdL_zero (l : List (List Int)) : rd_L1 l 0 = l.getD 0 [] := by simp [rd_L1]
theorem sheetsB_of {l : List (List Int)} (h : sheetsB l = true) : 0 < l.length ∧ 1 ≤ d0 l ∧ d0 l ≤ 5 ∧ ∀ r ∈ l, r.length = d0 l ∧ permB r = true := by
  simp only [sheetsB, sheetB, Bool.and_eq_true, List.all_eq_true, decide_eq_true_iff] at h
  exact ⟨h.1, h.2.1.1, h.2.1.2, h.2.2⟩
/-- the inverse: i of its places set -/
def invK (p : List Int) (i : Nat) : List Int := (List.range i).foldl (fun acc j => acc.set (p.getD j 0).toNat (j : Int)) (List.replicate p.length 0)
def invM (p : List Int) : List Int := invK p p.length
theorem invK_succ (p : List Int) (i : Nat) : invK p (i + 1) = (invK p i).set (p.getD i 0).toNat (i : Int) := by
  unfold invK
  rw [List.range_succ, List.foldl_append]; rfl
theorem invK_I (p : List Int) (hp : 1 ≤ p.length) : ∀ i, i ≤ p.length → (invK p i).length = p.length ∧ ∀ x ∈ invK p i, 0 ≤ x ∧ x < p.length
  | 0, _ => by
    refine ⟨by simp [invK], fun x hx => ?_⟩
    have hx' : x ∈ List.replicate p.length (0 : Int) := hx
    have : x = 0 := (List.mem_replicate.1 hx').2
    omega
  | i + 1, h => by
    have ih := invK_I p hp i (by omega)
    rw [invK_succ]
    refine ⟨by simp [ih.1], fun x hx => ?_⟩
    rcases List.mem_or_eq_of_mem_set hx with h' | h'
    · exact ih.2 x h'
    · omega
def thenM (p q : List Int) : List Int := p.map fun y => q.getD y.toNat 0
def idM (n : Nat) : List Int := (List.range n).map fun i : Nat => (i : Int)
def stepP (l : List (List Int)) (a : Int) : List Int := if a < 0 then invM (l.getD (a.natAbs - 1) []) else l.getD (a.natAbs - 1) []
def actS (l : List (List Int)) (w : List Int) (s : Int) : Int := w.foldl (fun s a => (stepP l a).getD s.toNat 0) s
def actK (l : List (List Int)) (w : List Int) (out : List Int) : List Int := w.foldl (fun out a => thenM out (stepP l a)) out
theorem actK_eq (l : List (List Int)) : ∀ (w out : List Int), actK l w out = out.map (actS l w)
  | [], out => by
    have : actS l [] = id := rfl
    rw [this, List.map_id]; rfl
  | a :: w, out => by
    have := actK_eq l w (thenM out (stepP l a))
    unfold actK actS at this ⊢
    rw [List.foldl_cons, this, thenM, List.map_map]; rfl
def actL (l : List (List Int)) (w : List Int) : List Int := (idM (d0 l)).map (actS l w)
def lettersB (l : List (List Int)) (w : List Int) : Prop := ∀ a ∈ w, 1 ≤ a.natAbs ∧ a.natAbs ≤ l.length ∧ a.natAbs ≤ 1000000
theorem stepP_I {l : List (List Int)} (h : sheetsB l = true) {a : Int} (h1 : 1 ≤ a.natAbs) (h2 : a.natAbs ≤ l.length) : (stepP l a).length = d0 l ∧ ∀ x ∈ stepP l a, 0 ≤ x ∧ x < d0 l := by
  have s := sheetsB_of h
  have hi : a.natAbs - 1 < l.length := by omega
  have hr := s.2.2.2 _ (List.getElem_mem hi)
  have e : l.getD (a.natAbs - 1) [] = l[a.natAbs - 1] := by simp [hi]
  unfold stepP
  rw [e]
  split
  · have := invK_I l[a.natAbs - 1] (by omega) _ (Nat.le_refl _)
    unfold invM
    rw [hr.1] at this ⊢
    exact this
  · have := (permB_of hr.2).1
    rw [hr.1] at this
    exact ⟨hr.1, this⟩
theorem getD_in {n : Nat} {q : List Int} (hl : q.length = n) (hq : ∀ x ∈ q, 0 ≤ x ∧ x < n) {s : Int} (h0 : 0 ≤ s) (h1 : s < n) : 0 ≤ q.getD s.toNat 0 ∧ q.getD s.toNat 0 < n := by
  have : s.toNat < q.length := by omega
  rw [List.getD_eq_getElem?_getD, List.getElem?_eq_getElem this]
  exact hq _ (List.getElem_mem this)
theorem rd_getD (q : List Int) (s : Int) : rd q s = q.getD s.toNat 0 := rfl

def wordOk (l : List (List Int)) (w : List Int) : Bool := wordB w && w.all (leB l.length)
def actM (l : List (List Int)) (w : List Int) : List Int := if permsB l = true ∧ wordOk l w = true then actL l w else []
theorem letters_of {l : List (List Int)} {w : List Int} (h : wordOk l w = true) : lettersB l w ∧ w.length ≤ 24 := by
  simp only [wordOk, Bool.and_eq_true, List.all_eq_true, leB, decide_eq_true_iff] at h
  have a := wordB_of h.1
  refine ⟨fun x hx => ?_, a.2⟩
  have := letterB_of (a.1 x hx)
  have := h.2 x hx
  omega
theorem actL_len (l : List (List Int)) (w : List Int) : (actL l w).length = d0 l := by simp [actL, idM]
def wholeB (t : List Int) : Bool := (List.range t.length).all (fun i => decide (t.getD i 0 = (i : Int))) && decide (0 < t.length)
theorem wholeB_eq {t : List Int} {n : Nat} (h : t.length = n) (h1 : 1 ≤ n) : wholeB t = decide (t = idM n) := by
  subst h
  rw [Bool.eq_iff_iff]
  simp only [wholeB, Bool.and_eq_true, List.all_eq_true, decide_eq_true_iff, List.mem_range]
  constructor
  · intro h
    apply List.ext_getElem
    · simp [idM]
    · intro i h1 h2
      have := h.1 i h1
      rw [List.getD_eq_getElem?_getD, List.getElem?_eq_getElem h1, Option.getD_some] at this
      simp [idM, this]
  · intro h
    refine ⟨fun i hi => ?_, by omega⟩
    rw [h]
    simp [idM, hi]
theorem thenM_I {n : Nat} {p q : List Int} (hp : p.length = n ∧ ∀ x ∈ p, 0 ≤ x ∧ x < n) (hq : q.length = n ∧ ∀ x ∈ q, 0 ≤ x ∧ x < n) : (thenM p q).length = n ∧ ∀ x ∈ thenM p q, 0 ≤ x ∧ x < n := by
  refine ⟨by simp [thenM, hp.1], fun x hx => ?_⟩
  simp only [thenM, List.mem_map] at hx
  obtain ⟨y, hy, rfl⟩ := hx
  exact getD_in hq.1 hq.2 (hp.2 y hy).1 (hp.2 y hy).2
theorem idM_I (n : Nat) : (idM n).length = n ∧ ∀ x ∈ idM n, 0 ≤ x ∧ x < n := by
  refine ⟨by simp [idM], fun x hx => ?_⟩
  simp only [idM, List.mem_map, List.mem_range] at hx
  obtain ⟨i, hi, rfl⟩ := hx
  omega
theorem permsB_le {l : List (List Int)} (h : l.length ≤ 8) : permsB l = sheetsB l := by
  unfold permsB
  rw [decide_eq_true h, Bool.and_true]

theorem natOf {n : Nat} {x : Int} (h : 0 ≤ x ∧ x < n) : ∃ m : Nat, x = m ∧ m < n := ⟨x.toNat, by omega, by omega⟩
/-- what holds of all permutations of at most five, each told by its numbers -/
theorem perm_all (P : List Int → Bool)
    (h1 : ∀ a : Nat, a < 1 → permB [(a : Int)] = true → P [(a : Int)] = true)
    (h2 : ∀ a : Nat, a < 2 → ∀ b : Nat, b < 2 → permB [(a : Int), (b : Int)] = true → P [(a : Int), (b : Int)] = true)
    (h3 : ∀ a : Nat, a < 3 → ∀ b : Nat, b < 3 → ∀ c : Nat, c < 3 → permB [(a : Int), (b : Int), (c : Int)] = true → P [(a : Int), (b : Int), (c : Int)] = true)
    (h4 : ∀ a : Nat, a < 4 → ∀ b : Nat, b < 4 → ∀ c : Nat, c < 4 → ∀ d : Nat, d < 4 → permB [(a : Int), (b : Int), (c : Int), (d : Int)] = true → P [(a : Int), (b : Int), (c : Int), (d : Int)] = true)
    (h5 : ∀ a : Nat, a < 5 → ∀ b : Nat, b < 5 → ∀ c : Nat, c < 5 → ∀ d : Nat, d < 5 → ∀ e : Nat, e < 5 → permB [(a : Int), (b : Int), (c : Int), (d : Int), (e : Int)] = true → P [(a : Int), (b : Int), (c : Int), (d : Int), (e : Int)] = true)
    {p : List Int} (h : permB p = true) (hl : 1 ≤ p.length) (hm : p.length ≤ 5) : P p = true := by
  have R := (permB_of h).1
  match p, hl, hm with
  | [a], _, _ =>
    obtain ⟨a, rfl, ha⟩ := natOf (R a (by simp))
    exact h1 a ha h
  | [a, b], _, _ =>
    obtain ⟨a, rfl, ha⟩ := natOf (R a (by simp))
    obtain ⟨b, rfl, hb⟩ := natOf (R b (by simp))
    exact h2 a ha b hb h
  | [a, b, c], _, _ =>
    obtain ⟨a, rfl, ha⟩ := natOf (R a (by simp))
    obtain ⟨b, rfl, hb⟩ := natOf (R b (by simp))
    obtain ⟨c, rfl, hc⟩ := natOf (R c (by simp))
    exact h3 a ha b hb c hc h
  | [a, b, c, d], _, _ =>
    obtain ⟨a, rfl, ha⟩ := natOf (R a (by simp))
    obtain ⟨b, rfl, hb⟩ := natOf (R b (by simp))
    obtain ⟨c, rfl, hc⟩ := natOf (R c (by simp))
    obtain ⟨d, rfl, hd⟩ := natOf (R d (by simp))
    exact h4 a ha b hb c hc d hd h
  | [a, b, c, d, e], _, _ =>
    obtain ⟨a, rfl, ha⟩ := natOf (R a (by simp))
    obtain ⟨b, rfl, hb⟩ := natOf (R b (by simp))
    obtain ⟨c, rfl, hc⟩ := natOf (R c (by simp))
    obtain ⟨d, rfl, hd⟩ := natOf (R d (by simp))
    obtain ⟨e, rfl, he⟩ := natOf (R e (by simp))
    exact h5 a ha b hb c hc d hd e he h
def permN (n : Nat) (p : List Int) : Prop := p.length = n ∧ permB p = true
theorem permN_mk {n : Nat} {p : List Int} (h : p.length = n) (h1 : ∀ x ∈ p, 0 ≤ x ∧ x < n) (h2 : p.Nodup) : permN n p := by
  refine ⟨h, ?_⟩
  simp only [permB, Bool.and_eq_true, List.all_eq_true, decide_eq_true_iff]
  exact ⟨fun x hx => by simp only [inB, decide_eq_true_iff, h]; exact h1 x hx, h2⟩
theorem permN_of {n : Nat} {p : List Int} (h : permN n p) : p.length = n ∧ (∀ x ∈ p, 0 ≤ x ∧ x < n) ∧ p.Nodup := by
  have := permB_of h.2
  rw [h.1] at this
  exact ⟨h.1, this⟩
theorem perm_then {n : Nat} {p q : List Int} (hp : permN n p) (hq : permN n q) : permN n (thenM p q) := by
  have P := permN_of hp
  have Q := permN_of hq
  have G : ∀ x (hx : x ∈ p), q.getD x.toNat 0 = q[x.toNat]'(by have := P.2.1 x hx; omega) := fun x hx => by
    have := P.2.1 x hx
    rw [List.getD_eq_getElem?_getD, List.getElem?_eq_getElem (by omega)]; rfl
  refine permN_mk (by simp [thenM, P.1]) (fun y hy => ?_) ?_
  · simp only [thenM, List.mem_map] at hy
    obtain ⟨x, hx, rfl⟩ := hy
    rw [G x hx]; exact Q.2.1 _ (List.getElem_mem _)
  · unfold thenM List.Nodup
    rw [List.pairwise_map]
    refine List.Pairwise.imp_of_mem (fun {a b} ha hb hne he => ?_) P.2.2
    rw [G a ha, G b hb] at he
    have pa := P.2.1 a ha
    have pb := P.2.1 b hb
    rcases Nat.lt_trichotomy a.toNat b.toNat with h | h | h
    · exact List.pairwise_iff_getElem.1 Q.2.2 _ _ (by omega) (by omega) h he
    · omega
    · exact List.pairwise_iff_getElem.1 Q.2.2 _ _ (by omega) (by omega) h he.symm
theorem perm_id (n : Nat) : permN n (idM n) := by
  refine permN_mk (by simp [idM]) (fun x hx => ?_) ?_
  · simp only [idM, List.mem_map, List.mem_range] at hx
    obtain ⟨i, hi, rfl⟩ := hx; omega
  · unfold idM List.Nodup
    rw [List.pairwise_map]
    exact List.Pairwise.imp (fun {a b} h he => h (by omega)) List.nodup_range
set_option synthInstance.maxHeartbeats 2000000 in
set_option synthInstance.maxSize 4000 in
theorem perm_inv {n : Nat} {p : List Int} (h : permN n p) (h1 : 1 ≤ n) (h5 : n ≤ 5) : permN n (invM p) := by
  have := perm_all (fun p => permB (invM p) && decide ((invM p).length = p.length)) (by decide +kernel) (by decide +kernel) (by decide +kernel) (by decide +kernel) (by decide +kernel) h.2 (by have := h.1; omega) (by have := h.1; omega)
  simp only [Bool.and_eq_true, decide_eq_true_iff] at this
  exact ⟨by rw [this.2, h.1], this.1⟩
theorem perm_step {l : List (List Int)} (hs : sheetsB l = true) {a : Int} (h1 : 1 ≤ a.natAbs) (h2 : a.natAbs ≤ l.length) : permN (d0 l) (stepP l a) := by
  have s := sheetsB_of hs
  have hi : a.natAbs - 1 < l.length := by omega
  have hr := s.2.2.2 _ (List.getElem_mem hi)
  have e : l.getD (a.natAbs - 1) [] = l[a.natAbs - 1] := by rw [List.getD_eq_getElem?_getD, List.getElem?_eq_getElem hi]; rfl
  unfold stepP
  rw [e]
  split
  · exact perm_inv hr s.2.1 s.2.2.1
  · exact hr
theorem perm_actK {l : List (List Int)} (hs : sheetsB l = true) : ∀ (w out : List Int), lettersB l w → permN (d0 l) out → permN (d0 l) (actK l w out)
  | [], out, _, h => h
  | a :: w, out, hw, h => by
    have ha := hw a (by simp)
    exact perm_actK hs w (thenM out (stepP l a)) (fun x hx => hw x (by simp [hx])) (perm_then h (perm_step hs ha.1 ha.2.1))
theorem perm_actL {l : List (List Int)} (hs : sheetsB l = true) {w : List Int} (hw : lettersB l w) : permN (d0 l) (actL l w) := by
  have := perm_actK hs w (idM (d0 l)) hw (perm_id _)
  rwa [actK_eq] at this
/-! ### sets of sheets that lead to each other -/
def upB (n : Nat) (up : List Int) : Prop := up.length = n ∧ ∀ i (h : i < up.length), 0 ≤ up[i] ∧ up[i] ≤ i
def rootN (up : List Int) : Nat → Int → Int
  | 0, s => s
  | k + 1, s => if up.getD s.toNat 0 = s then s else rootN up k (up.getD s.toNat 0)
def rootI (up : List Int) (s : Int) : Int := rootN up s.toNat s
theorem up_get {n : Nat} {up : List Int} (hu : upB n up) {s : Int} (h0 : 0 ≤ s) (h1 : s < n) : 0 ≤ up.getD s.toNat 0 ∧ up.getD s.toNat 0 ≤ s := by
  have h : s.toNat < up.length := by have := hu.1; omega
  rw [List.getD_eq_getElem?_getD, List.getElem?_eq_getElem h, Option.getD_some]
  have := hu.2 _ h; omega
theorem rootN_le {n : Nat} {up : List Int} (hu : upB n up) : ∀ (m : Nat) (s : Int), 0 ≤ s → s < n → 0 ≤ rootN up m s ∧ rootN up m s ≤ s
  | 0, s, h0, h1 => ⟨h0, Int.le_refl _⟩
  | m + 1, s, h0, h1 => by
    have a := up_get hu h0 h1
    simp only [rootN]
    split
    · exact ⟨h0, Int.le_refl _⟩
    · have := rootN_le hu m (up.getD s.toNat 0) a.1 (by omega); omega
theorem rootI_le {n : Nat} {up : List Int} (hu : upB n up) {s : Int} (h0 : 0 ≤ s) (h1 : s < n) : 0 ≤ rootI up s ∧ rootI up s ≤ s := rootN_le hu _ s h0 h1
theorem rootI_self {n : Nat} {up : List Int} (hu : upB n up) {s : Int} (h0 : 0 ≤ s) (h1 : s < n) : rootI up s = s ↔ up.getD s.toNat 0 = s := by
  have a := up_get hu h0 h1
  unfold rootI
  rcases hs : s.toNat with _ | m
  · have : s = 0 := by omega
    subst this
    simp only [rootN, true_iff]
    have := up_get hu (s := 0) (by omega) h1
    simp only [Int.toNat_zero] at this ⊢; omega
  · simp only [rootN, hs]
    rw [hs] at a
    constructor
    · intro h
      split at h
      · rename_i e; exact e
      · rename_i hne
        have := rootN_le hu m (up.getD (m + 1) 0) a.1 (by omega)
        omega
    · intro h
      rw [if_pos h]
def joinM (up : List Int) (a b : Int) : List Int := if rootI up a > rootI up b then up.set (rootI up a).toNat (rootI up b) else up.set (rootI up b).toNat (rootI up a)
theorem upB_set {n : Nat} {up : List Int} (hu : upB n up) {i v : Int} (h0 : 0 ≤ v) (h1 : v ≤ i) : upB n (up.set i.toNat v) := by
  refine ⟨by simp [hu.1], fun j hj => ?_⟩
  rw [List.getElem_set]
  rw [List.length_set] at hj
  split
  · omega
  · exact hu.2 j hj
theorem joinM_I {n : Nat} {up : List Int} (hu : upB n up) {a b : Int} (ha : 0 ≤ a ∧ a < n) (hb : 0 ≤ b ∧ b < n) : upB n (joinM up a b) := by
  have ra := rootI_le hu ha.1 ha.2
  have rb := rootI_le hu hb.1 hb.2
  unfold joinM
  split
  · exact upB_set hu rb.1 (by omega)
  · exact upB_set hu ra.1 (by omega)
def rowM (n : Nat) (up p : List Int) : List Int := (List.range n).foldl (fun up (s : Nat) => joinM up (s : Int) (p.getD s 0)) up
def allM (l : List (List Int)) : List Int := l.foldl (rowM (d0 l)) (idM (d0 l))
def ownM (n : Nat) (up : List Int) (s : Nat) : List Int := (List.range n).foldl (fun own (t : Nat) => if rootI up (t : Int) = (s : Int) then own ++ [(t : Int)] else own) []
def outM2 (n : Nat) (up : List Int) : List (List Int) := (List.range n).foldl (fun out (s : Nat) => if up.getD s 0 = (s : Int) then out ++ [ownM n up s] else out) []
def partsM (l : List (List Int)) : List (List Int) := outM2 (d0 l) (allM l)
theorem upB_id (n : Nat) : upB n (idM n) := by
  refine ⟨by simp [idM], fun i h => ?_⟩
  simp [idM]
theorem fold_upB {n : Nat} {p : List Int} (hp : p.length = n) (hr : ∀ x ∈ p, 0 ≤ x ∧ x < n) : ∀ (m : Nat) (up : List Int), m ≤ n → upB n up → upB n ((List.range m).foldl (fun up (s : Nat) => joinM up (s : Int) (p.getD s 0)) up)
  | 0, up, _, h => h
  | m + 1, up, hm, h => by
    rw [List.range_succ, List.foldl_append]
    have ih := fold_upB hp hr m up (by omega) h
    refine joinM_I ih ⟨by omega, by omega⟩ ?_
    have hlt : m < p.length := by omega
    rw [List.getD_eq_getElem?_getD, List.getElem?_eq_getElem hlt]
    exact hr _ (List.getElem_mem _)
theorem rowM_I {n : Nat} {up p : List Int} (hp : p.length = n) (hr : ∀ x ∈ p, 0 ≤ x ∧ x < n) (h : upB n up) : upB n (rowM n up p) := fold_upB hp hr n up (Nat.le_refl _) h
theorem ownM_len (n : Nat) (up : List Int) (s : Nat) : ∀ m, ((List.range m).foldl (fun own (t : Nat) => if rootI up (t : Int) = (s : Int) then own ++ [(t : Int)] else own) []).length ≤ m
  | 0 => by simp
  | m + 1 => by
    rw [List.range_succ, List.foldl_append]
    have := ownM_len n up s m
    simp only [List.foldl_cons, List.foldl_nil]
    split
    · simp; omega
    · omega
theorem outM2_sz (n : Nat) (up : List Int) : ∀ m, ((List.range m).foldl (fun out (s : Nat) => if up.getD s 0 = (s : Int) then out ++ [ownM n up s] else out) []).length ≤ m ∧ ∀ r ∈ ((List.range m).foldl (fun out (s : Nat) => if up.getD s 0 = (s : Int) then out ++ [ownM n up s] else out) []), r.length ≤ n
  | 0 => by simp
  | m + 1 => by
    rw [List.range_succ, List.foldl_append]
    have := outM2_sz n up m
    simp only [List.foldl_cons, List.foldl_nil]
    split
    · refine ⟨by rw [List.length_append]; simp only [List.length_singleton]; omega, fun r hr => ?_⟩
      rcases List.mem_append.1 hr with h | h
      · exact this.2 r h
      · rw [List.mem_singleton.1 h]; exact ownM_len n up m n
    · exact ⟨by omega, this.2⟩
theorem partsM_sz {l : List (List Int)} (hs : sheetsB l = true) : (partsM l).length ≤ 5 ∧ ∀ r ∈ partsM l, r.length ≤ 5 := by
  have s := sheetsB_of hs
  have := outM2_sz (d0 l) (allM l) (d0 l)
  exact ⟨by unfold partsM outM2; omega, fun r hr => by have := this.2 r hr; omega⟩
theorem allM_I {l : List (List Int)} (hs : sheetsB l = true) : upB (d0 l) (allM l) := by
  have s := sheetsB_of hs
  unfold allM
  have : ∀ (xs : List (List Int)) (up : List Int), (∀ p ∈ xs, p.length = d0 l ∧ permB p = true) → upB (d0 l) up → upB (d0 l) (xs.foldl (rowM (d0 l)) up) := by
    intro xs
    induction xs with
    | nil => intro up _ h; exact h
    | cons p xs ih =>
      intro up hx h
      have hp := hx p (by simp)
      refine ih _ (fun q hq => hx q (by simp [hq])) (rowM_I hp.1 (fun x hx' => ?_) h)
      have := (permB_of hp.2).1 x hx'
      omega
  exact this l _ s.2.2.2 (upB_id _)

def cycOk (p : List Int) : Bool := decide (spec_l6Cycles.f 40 p = impl_cycles.f 40 p) && ((impl_cycles.f 40 p).map fun c => decide (c.length ≤ 5)) == some true
theorem cyc1 : ∀ a : Nat, a < 1 → permB [(a : Int)] = true → cycOk [(a : Int)] = true := by decide +kernel
theorem cyc2 : ∀ a : Nat, a < 2 → ∀ b : Nat, b < 2 → permB [(a : Int), (b : Int)] = true → cycOk [(a : Int), (b : Int)] = true := by decide +kernel
theorem cyc3 : ∀ a : Nat, a < 3 → ∀ b : Nat, b < 3 → ∀ c : Nat, c < 3 → permB [(a : Int), (b : Int), (c : Int)] = true → cycOk [(a : Int), (b : Int), (c : Int)] = true := by decide +kernel
theorem cyc4 : ∀ a : Nat, a < 4 → ∀ b : Nat, b < 4 → ∀ c : Nat, c < 4 → ∀ d : Nat, d < 4 → permB [(a : Int), (b : Int), (c : Int), (d : Int)] = true → cycOk [(a : Int), (b : Int), (c : Int), (d : Int)] = true := by decide +kernel
set_option synthInstance.maxHeartbeats 2000000 in
set_option synthInstance.maxSize 4000 in
theorem cyc5 : ∀ a : Nat, a < 5 → ∀ b : Nat, b < 5 → ∀ c : Nat, c < 5 → ∀ d : Nat, d < 5 → ∀ e : Nat, e < 5 → permB [(a : Int), (b : Int), (c : Int), (d : Int), (e : Int)] = true → cycOk [(a : Int), (b : Int), (c : Int), (d : Int), (e : Int)] = true := by decide +kernel
theorem toNat_of {n : Nat} {x : Int} (h : 0 ≤ x ∧ x < n) : ∃ m : Nat, x = m ∧ m < n := ⟨x.toNat, by omega, by omega⟩
theorem cyc_all {p : List Int} (h : permB p = true) (h1 : 1 ≤ p.length) (h5 : p.length ≤ 5) : cycOk p = true := by
  have P := (permB_of h).1
  match p, h1, h5 with
  | [a], _, _ =>
    obtain ⟨a, rfl, ha⟩ := toNat_of (P a (by simp))
    exact cyc1 a ha h
  | [a, b], _, _ =>
    obtain ⟨a, rfl, ha⟩ := toNat_of (P a (by simp))
    obtain ⟨b, rfl, hb⟩ := toNat_of (P b (by simp))
    exact cyc2 a ha b hb h
  | [a, b, c], _, _ =>
    obtain ⟨a, rfl, ha⟩ := toNat_of (P a (by simp))
    obtain ⟨b, rfl, hb⟩ := toNat_of (P b (by simp))
    obtain ⟨c, rfl, hc⟩ := toNat_of (P c (by simp))
    exact cyc3 a ha b hb c hc h
  | [a, b, c, d], _, _ =>
    obtain ⟨a, rfl, ha⟩ := toNat_of (P a (by simp))
    obtain ⟨b, rfl, hb⟩ := toNat_of (P b (by simp))
    obtain ⟨c, rfl, hc⟩ := toNat_of (P c (by simp))
    obtain ⟨d, rfl, hd⟩ := toNat_of (P d (by simp))
    exact cyc4 a ha b hb c hc d hd h
  | [a, b, c, d, e], _, _ =>
    obtain ⟨a, rfl, ha⟩ := toNat_of (P a (by simp))
    obtain ⟨b, rfl, hb⟩ := toNat_of (P b (by simp))
    obtain ⟨c, rfl, hc⟩ := toNat_of (P c (by simp))
    obtain ⟨d, rfl, hd⟩ := toNat_of (P d (by simp))
    obtain ⟨e, rfl, he⟩ := toNat_of (P e (by simp))
    exact cyc5 a ha b hb c hc d hd e he h
theorem cyc_is {p : List Int} (h : permB p = true) (h1 : 1 ≤ p.length) (h5 : p.length ≤ 5) : ∃ c, EV (fun k => spec_l6Cycles.f k p) c ∧ EV (fun k => impl_cycles.f k p) c ∧ c.length ≤ 5 := by
  have := cyc_all h h1 h5
  simp only [cycOk, Bool.and_eq_true, decide_eq_true_iff, beq_iff_eq] at this
  obtain ⟨e, hs⟩ := this
  rcases hx : impl_cycles.f 40 p with _ | c
  · rw [hx] at hs; cases hs
  · rw [hx] at e hs
    simp only [Option.map_some, Option.some.injEq, decide_eq_true_iff] at hs
    exact ⟨c, EV.mono (spec_l6Cycles.mono p) e, EV.mono (impl_cycles.mono p) hx, hs⟩

/-! ### permutations of at most five: the inequality of Riemann, Hurwitz and Ree -/

def insAll (x : Nat) : List Nat → List (List Nat)
  | [] => [[x]]
  | y :: ys => (x :: y :: ys) :: (insAll x ys).map (y :: ·)
def permsN : Nat → List (List Nat)
  | 0 => [[]]
  | n + 1 => (permsN n).flatMap (insAll n)
def NN (p : List Int) : List Nat := p.map Int.toNat
set_option maxHeartbeats 8000000 in
set_option synthInstance.maxHeartbeats 2000000 in
set_option synthInstance.maxSize 4000 in
theorem NN_perm {n : Nat} {p : List Int} (h : permN n p) (h1 : 1 ≤ n) (h5 : n ≤ 5) : (permsN n).contains (NN p) = true := by
  have := perm_all (fun p => (permsN p.length).contains (NN p)) (by decide +kernel) (by decide +kernel) (by decide +kernel) (by decide +kernel) (by decide +kernel) h.2 (by have := h.1; omega) (by have := h.1; omega)
  rw [h.1] at this; exact this
/-! roots and labels -/
/-! the inequality, carried over transpositions and rows -/
def relM (g : Int) : List Int := if g = 1 then [1, 2, -1, -2] else if g = 2 then [1, 2, -1, -2, 3, 4, -3, -4] else []
theorem spec_Relator_is (g : Int) : spec_Relator.f g = some (relM g) := by
  unfold spec_Relator.f relM
  split
  · rfl
  · split <;> rfl

def permsI (n : Nat) : List (List Int) := (permsN n).map fun p => p.map fun x : Nat => (x : Int)
/-- how many of the cycles begin in a part -/
def bN (S : List Int) (cs : List (List Int)) : Nat := cs.countP fun c => S.contains (c.getD 0 0)
/-- in each part of two permutations: as many sheets as cycles of the commutator, but for an even number, and no fewer -/
def covOk (p q : List Int) : Bool := match impl_cycles.f 40 (actL [p, q] (relM 1)) with
  | some cs => (partsM [p, q]).all fun S => (S.length + bN S cs) % 2 == 0 && Nat.ble (bN S cs) S.length
  | none => false
theorem cov1 : (permsI 1).all (fun p => (permsI 1).all (covOk p)) = true := by decide +kernel
theorem cov2 : (permsI 2).all (fun p => (permsI 2).all (covOk p)) = true := by decide +kernel
theorem cov3 : (permsI 3).all (fun p => (permsI 3).all (covOk p)) = true := by decide +kernel
set_option maxHeartbeats 100000000 in
theorem cov4 : (permsI 4).all (fun p => (permsI 4).all (covOk p)) = true := by decide +kernel
def cov5At (i : Nat) : Bool := (((permsI 5).drop (8 * i)).take 8).all (fun p => (permsI 5).all (covOk p))
set_option maxHeartbeats 100000000 in
theorem cov5_0 : cov5At 0 = true := by decide +kernel
set_option maxHeartbeats 100000000 in
theorem cov5_1 : cov5At 1 = true := by decide +kernel
set_option maxHeartbeats 100000000 in
theorem cov5_2 : cov5At 2 = true := by decide +kernel
set_option maxHeartbeats 100000000 in
theorem cov5_3 : cov5At 3 = true := by decide +kernel
set_option maxHeartbeats 100000000 in
theorem cov5_4 : cov5At 4 = true := by decide +kernel
set_option maxHeartbeats 100000000 in
theorem cov5_5 : cov5At 5 = true := by decide +kernel
set_option maxHeartbeats 100000000 in
theorem cov5_6 : cov5At 6 = true := by decide +kernel
set_option maxHeartbeats 100000000 in
theorem cov5_7 : cov5At 7 = true := by decide +kernel
set_option maxHeartbeats 100000000 in
theorem cov5_8 : cov5At 8 = true := by decide +kernel
set_option maxHeartbeats 100000000 in
theorem cov5_9 : cov5At 9 = true := by decide +kernel
set_option maxHeartbeats 100000000 in
theorem cov5_10 : cov5At 10 = true := by decide +kernel
set_option maxHeartbeats 100000000 in
theorem cov5_11 : cov5At 11 = true := by decide +kernel
set_option maxHeartbeats 100000000 in
theorem cov5_12 : cov5At 12 = true := by decide +kernel
set_option maxHeartbeats 100000000 in
theorem cov5_13 : cov5At 13 = true := by decide +kernel
set_option maxHeartbeats 100000000 in
theorem cov5_14 : cov5At 14 = true := by decide +kernel
theorem cov5_all (i : Nat) (h : i < 15) : cov5At i = true := by
  match i, h with
  | 0, _ => exact cov5_0
  | 1, _ => exact cov5_1
  | 2, _ => exact cov5_2
  | 3, _ => exact cov5_3
  | 4, _ => exact cov5_4
  | 5, _ => exact cov5_5
  | 6, _ => exact cov5_6
  | 7, _ => exact cov5_7
  | 8, _ => exact cov5_8
  | 9, _ => exact cov5_9
  | 10, _ => exact cov5_10
  | 11, _ => exact cov5_11
  | 12, _ => exact cov5_12
  | 13, _ => exact cov5_13
  | 14, _ => exact cov5_14
theorem all_chunks {α : Type} (p : α → Bool) (m : Nat) (hm : 0 < m) : ∀ (n : Nat) (xs : List α), xs.length ≤ m * n → (∀ i, i < n → ((xs.drop (m * i)).take m).all p = true) → xs.all p = true
  | 0, xs, h, _ => by
    have : xs = [] := List.eq_nil_of_length_eq_zero (by omega)
    subst this; rfl
  | n + 1, xs, h, H => by
    rw [← List.take_append_drop m xs, List.all_append, Bool.and_eq_true]
    refine ⟨by simpa using H 0 (by omega), all_chunks p m hm n (xs.drop m) (by rw [List.length_drop, Nat.mul_succ] at *; omega) (fun i hi => ?_)⟩
    have := H (i + 1) (by omega)
    rw [List.drop_drop]
    rwa [Nat.mul_succ, Nat.add_comm] at this
theorem permsI5_len : (permsI 5).length = 120 := by decide +kernel
theorem cov_all (n : Nat) (h1 : 1 ≤ n) (h5 : n ≤ 5) : (permsI n).all (fun p => (permsI n).all (covOk p)) = true := by
  rcases (by omega : n = 1 ∨ n = 2 ∨ n = 3 ∨ n = 4 ∨ n = 5) with rfl | rfl | rfl | rfl | rfl
  · exact cov1
  · exact cov2
  · exact cov3
  · exact cov4
  · refine all_chunks _ 8 (by omega) 15 _ (by rw [permsI5_len]; decide) (fun i hi => ?_)
    exact cov5_all i hi
theorem permsI_mem {n : Nat} {p : List Int} (h : permN n p) (h1 : 1 ≤ n) (h5 : n ≤ 5) : p ∈ permsI n := by
  have c := NN_perm h h1 h5
  rw [List.contains_iff_mem] at c
  refine List.mem_map.2 ⟨NN p, c, ?_⟩
  unfold NN
  rw [List.map_map]
  have P := (permN_of h).2.1
  conv => rhs; rw [← List.map_id p]
  refine List.map_congr_left fun x hx => ?_
  have := P x hx
  simp only [Function.comp, id]
  omega
theorem cov_pair {n : Nat} {p q : List Int} (hp : permN n p) (hq : permN n q) (h1 : 1 ≤ n) (h5 : n ≤ 5) : covOk p q = true := by
  have := cov_all n h1 h5
  rw [List.all_eq_true] at this
  have := this p (permsI_mem hp h1 h5)
  rw [List.all_eq_true] at this
  exact this q (permsI_mem hq h1 h5)

def marks : Nat → Int → List Int
  | 0, _ => []
  | n + 1, k => k :: marks n (k + 1)
def total : List (List Int) → Nat
  | [] => 0
  | r :: rs => r.length + total rs
def marksL : List (List Int) → Int → List (List Int)
  | [], _ => []
  | r :: rs, k => marks r.length k :: marksL rs (k + r.length)
theorem total_mem {r : List Int} : ∀ {xs : List (List Int)}, r ∈ xs → r.length ≤ total xs
  | [], h => by cases h
  | x :: xs, h => by
    rcases List.mem_cons.1 h with rfl | h
    · simp [total]
    · have := total_mem h; simp only [total]; omega
/-- what szIntSS answers -/
def szM (xs : List (List Int)) (left : Int) : Int := if (xs.length : Int) + total xs ≤ left then left - xs.length - total xs else -1

theorem laws_szIntS_is (xs : List Int) (left : Int) (h0 : 0 ≤ left) (h1 : left ≤ 1048576) (h2 : xs.length ≤ 9223372036854775807) : laws_szIntS.f xs left = some (if (xs.length : Int) ≤ left then left - xs.length else -1) := by
  unfold laws_szIntS.f
  rw [w64 (by omega) (by omega)]
  by_cases h : (xs.length : Int) ≤ left
  · rw [if_neg (by omega), if_pos h]
  · rw [if_pos (by omega), if_neg h]

theorem laws_szIntSS_l0 (xs : List (List Int)) (hn : xs.length < 4611686018427387904) (hr : ∀ r ∈ xs, r.length ≤ 9223372036854775807) : ∀ (suf pre : List (List Int)) (left : Int), xs = pre ++ suf → 0 ≤ left → left ≤ 1048576 →
    EV (fun k => laws_szIntSS.l0 k xs left (pre.length : Int)) (if (total suf : Int) ≤ left then left - total suf else -1) := by
  intro suf
  induction suf with
  | nil =>
    intro pre left h h0 h1
    refine EV.step (fun k => by rw [laws_szIntSS.l0]) ?_
    exact EV.neg (by subst h; simp) ((EV.now _).eq (by rw [if_pos (by simp [total]; omega)]; simp [total]))
  | cons x suf ih =>
    intro pre left h h0 h1
    have hl : pre.length < 4611686018427387904 := by subst h; simp at hn; omega
    have hlt : (pre.length : Int) < (xs.length : Int) := by subst h; exact lt_app ..
    have hx : rd_L1 xs (pre.length : Int) = x := by subst h; exact rdL_app ..
    have hx' : x.length ≤ 9223372036854775807 := hr x (by subst h; simp)
    refine EV.step (fun k => by rw [laws_szIntSS.l0]) ?_
    rw [hx, up (x := x) hl]
    refine EV.pos hlt (EV.pos (by omega) (EV.by (laws_szIntS_is x left h0 h1 hx') ?_))
    by_cases hs : (x.length : Int) ≤ left
    · rw [if_pos hs]
      refine EV.neg (by omega) ((ih (pre ++ [x]) (left - x.length) (by simp [h]) (by omega) (by omega)).eq ?_)
      have e : total (x :: suf) = x.length + total suf := rfl
      by_cases ht : (total suf : Int) ≤ left - x.length
      · rw [if_pos ht, if_pos (by rw [e]; omega), e]; omega
      · rw [if_neg ht, if_neg (by rw [e]; omega)]
    · rw [if_neg hs]
      exact EV.pos (by omega) ((EV.now _).eq (by rw [if_neg (by simp only [total]; omega)]))
theorem laws_szIntSS_is (xs : List (List Int)) (left : Int) (h0 : 0 ≤ left) (h1 : left ≤ 1048576) (hn : xs.length ≤ 9223372036854775807) (hr : ∀ r ∈ xs, r.length ≤ 9223372036854775807) : EV (fun k => laws_szIntSS.f k xs left) (szM xs left) := by
  unfold szM
  have e : wrap64 (left - (xs.length : Int)) = left - xs.length := w64 (by omega) (by omega)
  refine EV.congr (fun k => by rw [laws_szIntSS.f, e]) ?_
  by_cases h : (xs.length : Int) ≤ left
  · refine EV.neg (by omega) ((laws_szIntSS_l0 xs (by omega) hr xs [] (left - xs.length) rfl (by omega) (by omega)).eq ?_)
    by_cases ht : (total xs : Int) ≤ left - xs.length
    · rw [if_pos ht, if_pos (by omega)]
    · rw [if_neg ht, if_neg (by omega)]
  · exact EV.pos (by omega) ((EV.now _).eq (by rw [if_neg (by omega)]))

theorem laws_toIntS_l0 (xs : List Int) (hn : xs.length < 4611686018427387904) : ∀ suf pre, xs = pre ++ suf → EV (fun k => laws_toIntS.l0 k xs (pre ++ List.replicate suf.length 0) (pre.length : Int)) xs := by
  intro suf
  induction suf with
  | nil =>
    intro pre h
    refine EV.step (fun k => by rw [laws_toIntS.l0]) ?_
    refine (EV.neg ?_ ((EV.now _).eq ?_))
    · subst h; simp
    · subst h; simp
  | cons x suf ih =>
    intro pre h
    have hl : pre.length < 4611686018427387904 := by subst h; simp at hn; omega
    have hlt : (pre.length : Int) < (xs.length : Int) := by subst h; exact lt_app ..
    have hx : rd xs (pre.length : Int) = x := by subst h; exact rd_app ..
    refine EV.step (fun k => by rw [laws_toIntS.l0]) ?_
    refine (EV.pos hlt (EV.pos (by omega) (EV.pos (by simp; omega) ?_)))
    rw [hx, up (x := x) hl, List.length_cons, List.replicate_succ, set_app _ _ _ _ _ (by simp)]
    have := ih (pre ++ [x]) (by simp [h])
    simpa using this
theorem laws_toIntS_is (xs : List Int) (hn : xs.length ≤ 1048576) : EV (fun k => laws_toIntS.f k xs) xs := by
  refine EV.pos (by omega) (EV.pos (by omega) ?_)
  exact laws_toIntS_l0 xs (by omega) xs [] rfl

theorem laws_toIntSS_l0 (xs : List (List Int)) (hn : xs.length < 4611686018427387904) (hr : ∀ r ∈ xs, r.length ≤ 1048576) : ∀ (suf pre : List (List Int)), xs = pre ++ suf →
    EV (fun k => laws_toIntSS.l0 k xs (pre ++ List.replicate suf.length []) (pre.length : Int)) xs := by
  intro suf
  induction suf with
  | nil =>
    intro pre h
    refine EV.step (fun k => by rw [laws_toIntSS.l0]) ?_
    exact EV.neg (by subst h; simp) ((EV.now _).eq (by subst h; simp))
  | cons x suf ih =>
    intro pre h
    have hl : pre.length < 4611686018427387904 := by subst h; simp at hn; omega
    have hlt : (pre.length : Int) < (xs.length : Int) := by subst h; exact lt_app ..
    have hx : rd_L1 xs (pre.length : Int) = x := by subst h; exact rdL_app ..
    have hx' : x.length ≤ 1048576 := hr x (by subst h; simp)
    refine EV.step (fun k => by rw [laws_toIntSS.l0]) ?_
    rw [hx, up (x := x) hl]
    refine EV.pos hlt (EV.pos (by omega) (EV.bind (laws_toIntS_is x hx') (EV.pos (by simp; omega) ?_)))
    rw [List.length_cons, List.replicate_succ, set_app _ _ _ _ _ (by simp)]
    have := ih (pre ++ [x]) (by simp [h])
    simpa using this
theorem laws_toIntSS_is (xs : List (List Int)) (hn : xs.length ≤ 1048576) (hr : ∀ r ∈ xs, r.length ≤ 1048576) : EV (fun k => laws_toIntSS.f k xs) xs := by
  refine EV.pos (by omega) (EV.pos (by omega) ?_)
  exact laws_toIntSS_l0 xs (by omega) hr xs [] rfl

theorem laws_eqIntS_l0 (xs ys : List Int) (hn : xs.length < 4611686018427387904) : ∀ (suf suf' pre : List Int), pre.length + suf.length = xs.length → pre.length + suf'.length = ys.length → suf.length = suf'.length → xs.drop pre.length = suf → ys.drop pre.length = suf' →
    EV (fun k => laws_eqIntS.l0 k xs ys (pre.length : Int)) (decide (suf = suf')) := by
  intro suf
  induction suf with
  | nil =>
    intro suf' pre h1 h2 h3 h4 h5
    have : suf' = [] := List.eq_nil_of_length_eq_zero (by simpa using h3.symm)
    subst this
    refine EV.step (fun k => by rw [laws_eqIntS.l0]) ?_
    refine (EV.neg ?_ ((EV.now _).eq (by simp)))
    simp at h1; omega
  | cons x suf ih =>
    intro suf' pre h1 h2 h3 h4 h5
    obtain ⟨y, suf', rfl⟩ : ∃ y t, suf' = y :: t := by
      cases suf' with
      | nil => simp at h3
      | cons y t => exact ⟨y, t, rfl⟩
    simp only [List.length_cons] at h1 h2 h3
    have hl : pre.length < 4611686018427387904 := by omega
    have hx : rd xs (pre.length : Int) = x := by
      rw [rd_nat _ _ (by omega)]
      have := List.getElem_drop (xs := xs) (i := pre.length) (j := 0) (h := by simp; omega)
      simp only [h4] at this; simpa using this.symm
    have hy : rd ys (pre.length : Int) = y := by
      rw [rd_nat _ _ (by omega)]
      have := List.getElem_drop (xs := ys) (i := pre.length) (j := 0) (h := by simp; omega)
      simp only [h5] at this; simpa using this.symm
    refine EV.step (fun k => by rw [laws_eqIntS.l0]) ?_
    refine (EV.pos (by omega) (EV.pos (by omega) (EV.pos (by omega) ?_)))
    rw [hx, hy, up (x := x) hl]
    by_cases hs : x = y
    · refine EV.pos hs ((ih suf' _ (by simp; omega) (by simp; omega) (by omega) ?_ ?_).eq (by simp [hs]))
      · rw [List.length_append, ← List.drop_drop, h4]; rfl
      · rw [List.length_append, ← List.drop_drop, h5]; rfl
    · exact (EV.neg hs (EV.now _)).eq (by simp [hs])
theorem laws_eqIntS_is (xs ys : List Int) (hn : xs.length < 4611686018427387904) : EV (fun k => laws_eqIntS.f k xs ys) (decide (xs = ys)) := by
  by_cases h : xs.length = ys.length
  · exact EV.pos (by omega) (laws_eqIntS_l0 xs ys hn xs ys [] (by simp) (by simp) h rfl rfl)
  · exact (EV.neg (by omega) (EV.now _)).eq (by simp; intro e; exact h (by rw [e]))
theorem laws_eqIntS_self (xs : List Int) (hn : xs.length < 4611686018427387904) : EV (fun k => laws_eqIntS.f k xs xs) true := (laws_eqIntS_is xs xs hn).eq (by simp)

theorem laws_eqIntSS_l0 (xs : List (List Int)) (hn : xs.length < 4611686018427387904) (hr : ∀ r ∈ xs, r.length < 4611686018427387904) : ∀ (suf pre : List (List Int)), xs = pre ++ suf →
    EV (fun k => laws_eqIntSS.l0 k xs xs (pre.length : Int)) true := by
  intro suf
  induction suf with
  | nil =>
    intro pre h
    refine EV.step (fun k => by rw [laws_eqIntSS.l0]) ?_
    exact EV.neg (by subst h; simp) (EV.now _)
  | cons x suf ih =>
    intro pre h
    have hl : pre.length < 4611686018427387904 := by subst h; simp at hn; omega
    have hlt : (pre.length : Int) < (xs.length : Int) := by subst h; exact lt_app ..
    have hx : rd_L1 xs (pre.length : Int) = x := by subst h; exact rdL_app ..
    have hx' : x.length < 4611686018427387904 := hr x (by subst h; simp)
    refine EV.step (fun k => by rw [laws_eqIntSS.l0]) ?_
    rw [hx, up (x := x) hl]
    refine EV.pos hlt (EV.pos (by omega) (EV.pos (by omega) (EV.bind (laws_eqIntS_self x hx') (EV.pos rfl ?_))))
    exact ih (pre ++ [x]) (by simp [h])
theorem laws_eqIntSS_self (xs : List (List Int)) (hn : xs.length < 4611686018427387904) (hr : ∀ r ∈ xs, r.length < 4611686018427387904) : EV (fun k => laws_eqIntSS.f k xs xs) true :=
  EV.pos rfl (laws_eqIntSS_l0 xs hn hr xs [] rfl)

theorem spec_l1Bit_is (b : Bool) : spec_l1Bit.f b = some (if b = true then 1 else 0) := by
  cases b <;> rfl

theorem spec_l1In_is (a b c : Int) : spec_l1In.f a b c = some (decide (b ≤ a ∧ a ≤ c)) := by
  unfold spec_l1In.f
  by_cases h : a ≥ b
  · rw [if_pos h]; simp [show b ≤ a from h]
  · rw [if_neg h]; simp; omega

theorem spec_l6Perm_l0 (p : List Int) (hn : p.length < 4611686018427387904) : ∀ (suf pre : List Int), p = pre ++ suf → pre.Nodup →
    EV (fun k => spec_l6Perm.l0 k p (seenM p.length pre) (pre.length : Int)) (suf.all (inB p.length) && decide (pre ++ suf).Nodup) := by
  intro suf
  induction suf with
  | nil =>
    intro pre h hp
    refine EV.step (fun k => by rw [spec_l6Perm.l0]) ?_
    exact EV.neg (by subst h; simp) ((EV.now _).eq (by simp [hp]))
  | cons x suf ih =>
    intro pre h hp
    have hpl : pre.length < 4611686018427387904 := by subst h; simp at hn; omega
    have hlt : (pre.length : Int) < (p.length : Int) := by subst h; exact lt_app ..
    have hx : rd p (pre.length : Int) = x := by subst h; exact rd_app ..
    refine EV.step (fun k => by rw [spec_l6Perm.l0]) ?_
    rw [hx, up (x := x) hpl, w64 (x := (p.length : Int) - 1) (by omega) (by omega)]
    refine EV.pos hlt (EV.pos (by omega) (EV.by (spec_l1In_is _ _ _) ?_))
    by_cases hb : inB p.length x = true
    · have b := inB_of hb
      refine EV.pos (by simp; omega) (EV.pos b.1 (EV.pos (by simp [seenM]; omega) ?_))
      rw [show rdOf false (seenM p.length pre) x = decide (x ∈ pre) by unfold seenM; rw [rdOf_tab _ _ _ _ b.1 b.2, show ((x.toNat : Nat) : Int) = x by omega]]
      by_cases hm : x ∈ pre
      · refine EV.pos (by simpa using hm) ((EV.now _).eq ?_)
        rw [decide_eq_false, Bool.and_false]
        intro c
        exact (List.nodup_append.1 c).2.2 x hm x (by simp) rfl
      · refine EV.neg (by simpa using hm) ?_
        rw [seenM_snoc _ _ _ b.1]
        refine (ih (pre ++ [x]) (by simp [h]) ?_).eq (by simp [hb])
        rw [List.nodup_append]
        refine ⟨hp, by simp, fun a ha c hc => ?_⟩
        rw [List.mem_singleton] at hc
        intro e; exact hm (by rw [← hc, ← e]; exact ha)
    · refine EV.neg (by simp only [inB, decide_eq_true_iff] at hb; simp; omega) ((EV.now _).eq ?_)
      rw [List.all_cons, show inB p.length x = false by simpa using hb]; simp
theorem spec_l6Perm_is (p : List Int) (hn : p.length < 4294967296) : EV (fun k => spec_l6Perm.f k p) (permB p) := by
  refine EV.pos (by omega) (EV.pos (by omega) ?_)
  have := spec_l6Perm_l0 p (by omega) p [] rfl List.nodup_nil
  rw [seenM_nil] at this
  exact this

theorem spec_l9Perms_is (l : List (List Int)) (hn : l.length < 4294967296) (hr : ∀ r ∈ l, r.length < 4294967296) : EV (fun k => spec_l9Perms.f k l) (permsB l) := by
  have := EV.scan (g := fun k i => spec_l9Perms.l0 k l i) l (sheetB (d0 l)) (decide (1 ≤ l.length ∧ l.length ≤ 8) && decide (1 ≤ d0 l ∧ d0 l ≤ 5)) (fun i h r H1 H2 => ?_) ?_
  · refine EV.eq this ?_
    rw [Bool.eq_iff_iff]
    simp only [permsB, sheetsB, Bool.and_eq_true, decide_eq_true_iff]
    constructor
    · intro h; exact ⟨⟨by omega, h.2.2, h.1⟩, by omega⟩
    · intro h; exact ⟨h.1.2.2, ⟨by omega, by omega⟩, h.1.2.1⟩
  · refine EV.step (fun k => by rw [spec_l9Perms.l0]) ?_
    rw [rdL_nat _ _ h, w64 (x := (i : Int) + 1) (by omega) (by omega), rdL_zero]
    refine EV.pos (by omega) (EV.pos (by omega) (EV.pos (by omega) ?_))
    by_cases hl : (l[i]).length = d0 l
    · refine EV.pos (by unfold d0 at hl; omega) (EV.bind (spec_l6Perm_is _ (hr _ (List.getElem_mem h))) ?_)
      exact EV.cases (fun c => H1 (by simp [sheetB, hl, c])) (fun c => (EV.now _).eq (H2 (by simp [sheetB, hl]; simpa using c)).symm)
    · exact EV.neg (by unfold d0 at hl; omega) ((EV.now _).eq (H2 (by simp [sheetB, hl])).symm)
  · refine EV.step (fun k => by rw [spec_l9Perms.l0]) ?_
    refine EV.neg (by omega) (EV.by (spec_l1In_is _ _ _) ?_)
    by_cases h : 1 ≤ l.length ∧ l.length ≤ 8
    · refine EV.pos (by simp; omega) (EV.pos (by omega) (EV.by (spec_l1In_is _ _ _) ((EV.now _).eq ?_)))
      rw [rdL_zero, Bool.eq_iff_iff]
      simp [d0]; omega
    · refine EV.neg (by simp; omega) ((EV.now _).eq ?_)
      simp [h]

theorem spec_l2Letter_is (a : Int) : spec_l2Letter.f a = some (letterB a) := by
  unfold spec_l2Letter.f
  rw [spec_l1In_is, spec_l1In_is]
  simp only [Option.bind_some]
  by_cases h : 1 ≤ a ∧ a ≤ 8
  · rw [if_pos (by simp [h])]; simp [letterB]; omega
  · rw [if_neg (by simpa using h)]; simp [letterB]; congr 1; rw [Bool.eq_iff_iff]; simp; omega

theorem spec_IsWord_is (xs : List Int) (hn : xs.length < 4611686018427387904) : EV (fun k => spec_IsWord.f k xs) (wordB xs) := by
  refine EV.scan (g := fun k i => spec_IsWord.l0 k xs i) xs letterB (decide (xs.length ≤ 24)) (fun i h r H1 H2 => ?_) ?_
  · refine EV.step (fun k => by rw [spec_IsWord.l0]) ?_
    rw [rd_nat _ _ h, w64 (x := (i : Int) + 1) (by omega) (by omega)]
    refine EV.pos (by omega) (EV.pos (by omega) (EV.by (spec_l2Letter_is _) ?_))
    exact EV.cases H1 (fun c => (EV.now _).eq (H2 (by simpa using c)).symm)
  · refine EV.step (fun k => by rw [spec_IsWord.l0]) ?_
    refine EV.neg (by omega) ((EV.now _).eq ?_)
    rw [Bool.eq_iff_iff]; simp; omega

theorem spec_l1Max_is (a b : Int) : spec_l1Max.f a b = some (if a > b then a else b) := by
  unfold spec_l1Max.f; split <;> rfl

theorem spec_l3Abs_is (a : Int) (h : -9223372036854775808 < a) (h' : a ≤ 9223372036854775807) : spec_l3Abs.f a = some (a.natAbs : Int) := by
  unfold spec_l3Abs.f
  rw [spec_l1Max_is, w64 (by omega) (by omega)]
  simp only [Option.bind_some]
  congr 1
  split <;> omega

theorem spec_l6Inverse_is (p : List Int) (hp : ∀ x ∈ p, 0 ≤ x ∧ x < p.length) (hn : p.length < 4294967296) : EV (fun k => spec_l6Inverse.f k p) (invM p) := by
  refine EV.pos (by omega) (EV.pos (by omega) ?_)
  refine EV.count (g := fun k s i => spec_l6Inverse.l0 k p s i) p.length (invK p) _ (fun i hi H => ?_) ?_
  · have hx := hp _ (List.getElem_mem hi)
    have hl : (invK p i).length = p.length := (invK_I p (by omega) i (by omega)).1
    refine EV.step (fun k => by rw [spec_l6Inverse.l0]) ?_
    rw [rd_nat _ _ hi, w64 (x := (i : Int) + 1) (by omega) (by omega)]
    refine EV.pos (by omega) (EV.pos (by omega) (EV.pos (by omega) (EV.pos (by omega) ?_)))
    rw [invK_succ] at H
    have e : p.getD i 0 = p[i] := by simp [hi]
    rw [e] at H
    exact H
  · refine EV.step (fun k => by rw [spec_l6Inverse.l0]) ?_
    exact EV.neg (by omega) (EV.now _)

theorem spec_l9Act_is (l : List (List Int)) (w : List Int) (s : Int) (hs : sheetsB l = true) (hw : lettersB l w) (hn : w.length < 4294967296) (h0 : 0 ≤ s) (h1 : s < d0 l) : EV (fun k => spec_l9Act.f k l w s) (actS l w s) := by
  have S := sheetsB_of hs
  refine EV.fold (g := fun k s i => spec_l9Act.l0 k l w s i) w (fun s a => (stepP l a).getD s.toNat 0) id (fun _ s => 0 ≤ s ∧ s < d0 l) (fun i h s r hI H => ?_) (fun s hI => ?_) s ⟨h0, h1⟩
  · have ha := hw _ (List.getElem_mem h)
    have I := stepP_I hs ha.1 ha.2.1
    have hi : (w[i]).natAbs - 1 < l.length := by omega
    have row := S.2.2.2 _ (List.getElem_mem hi)
    have e : l.getD ((w[i]).natAbs - 1) [] = l[(w[i]).natAbs - 1] := by simp [hi]
    have H := H (getD_in I.1 I.2 hI.1 hI.2)
    refine EV.step (fun k => by rw [spec_l9Act.l0]) ?_
    rw [rd_nat _ _ h, w64 (x := (i : Int) + 1) (by omega) (by omega)]
    refine EV.pos (by omega) (EV.pos (by omega) (EV.by (spec_l3Abs_is _ (by omega) (by omega)) ?_))
    rw [w64 (x := ((w[i]).natAbs : Int) - 1) (by omega) (by omega), show (((w[i]).natAbs : Int) - 1) = (((w[i]).natAbs - 1 : Nat) : Int) by omega, rdL_nat _ _ hi]
    refine EV.pos (by omega) (EV.pos (by omega) ?_)
    by_cases hneg : w[i] < 0
    · refine EV.pos hneg (EV.bind (spec_l6Inverse_is _ (permB_of row.2).1 (by omega)) ?_)
      have e2 : stepP l w[i] = invM l[(w[i]).natAbs - 1] := by unfold stepP; rw [if_pos hneg, e]
      rw [e2] at I H
      exact EV.pos hI.1 (EV.pos (by omega) H)
    · refine EV.neg hneg ?_
      have e2 : stepP l w[i] = l[(w[i]).natAbs - 1] := by unfold stepP; rw [if_neg hneg, e]
      rw [e2] at I H
      exact EV.pos hI.1 (EV.pos (by omega) H)
  · refine EV.step (fun k => by rw [spec_l9Act.l0]) ?_
    exact EV.neg (by omega) (EV.now _)

theorem spec_ActWord_is (l : List (List Int)) (w : List Int) (hn : l.length < 4294967296) (hr : ∀ r ∈ l, r.length < 4294967296) (hw : w.length < 4294967296) : EV (fun k => spec_ActWord.f k l w) (actM l w) := by
  have no : EV (fun k => spec_ActWord.j0 k l w true) [] := by
    refine EV.step (fun k => by rw [spec_ActWord.j0]) ?_
    exact EV.pos rfl (EV.now _)
  unfold actM
  refine EV.bind (spec_l9Perms_is l hn hr) ?_
  by_cases h1 : permsB l = true
  · refine EV.pos h1 (EV.bind (spec_IsWord_is w (by omega)) ?_)
    have hs : sheetsB l = true := by have := h1; simp only [permsB, Bool.and_eq_true] at this; exact this.1
    have S := sheetsB_of hs
    by_cases h2 : wordB w = true
    · rw [h2]
      refine EV.step (fun k => by rw [spec_ActWord.j0]) ?_
      refine EV.neg (by simp) ?_
      refine EV.scanC (g := fun k i => spec_ActWord.l0 k l w i) w (leB l.length) _ [] (fun i h H1 H2 => ?_) (fun h3 => ?_) (fun h3 => ?_)
      · have hx := letterB_of (all_getElem (wordB_of h2).1 i h)
        refine EV.step (fun k => by rw [spec_ActWord.l0]) ?_
        rw [rd_nat _ _ h, w64 (x := (i : Int) + 1) (by omega) (by omega)]
        refine EV.pos (by omega) (EV.pos (by omega) (EV.by (spec_l3Abs_is _ (by omega) (by omega)) ?_))
        exact EV.cases (fun c => (EV.now _).eq (H2 (by simp [leB]; omega)).symm) (fun c => H1 (by simp [leB]; omega))
      · have hok : wordOk l w = true := by unfold wordOk; rw [h2, h3]; rfl
        rw [if_pos ⟨h1, hok⟩]
        have L := letters_of hok
        refine EV.step (fun k => by rw [spec_ActWord.l0]) ?_
        refine EV.neg (by omega) ?_
        refine EV.count (g := fun k s i => spec_ActWord.l1 k l w s i) (d0 l) (fun i => (List.range i).map fun j : Nat => actS l w (j : Int)) _ (fun i hi H => ?_) ?_
        · refine EV.step (fun k => by rw [spec_ActWord.l1]) ?_
          rw [w64 (x := (i : Int) + 1) (by omega) (by omega), rdL_zero]
          refine EV.pos (by omega) (EV.pos (by unfold d0 at hi; omega) (EV.bind (spec_l9Act_is l w (i : Int) hs L.1 hw (by omega) (by omega)) (EV.pos (by simp; omega) ?_)))
          simpa [List.range_succ] using H
        · refine EV.step (fun k => by rw [spec_ActWord.l1]) ?_
          rw [rdL_zero]
          refine EV.pos (by omega) (EV.neg (by unfold d0; omega) ((EV.now _).eq ?_))
          simp [actL, idM, Function.comp_def]
      · rw [if_neg]
        intro c
        have := c.2
        unfold wordOk at this
        rw [h3, Bool.and_false] at this; cases this
    · rw [show wordB w = false by simpa using h2, if_neg]
      · exact no
      · intro c
        have := c.2
        unfold wordOk at this
        rw [Bool.and_eq_true] at this; exact h2 this.1
  · rw [if_neg (fun c => h1 c.1)]
    exact EV.neg h1 no

theorem spec_l9Whole_is (t : List Int) (hn : t.length < 4294967296) : EV (fun k => spec_l9Whole.f k t) (wholeB t) := by
  refine EV.countB (g := fun k i => spec_l9Whole.l0 k t i) t.length _ (decide (0 < t.length)) (fun i h r H1 H2 => ?_) ?_
  · have e : t.getD i 0 = t[i] := by simp [h]
    rw [e] at H1 H2
    refine EV.step (fun k => by rw [spec_l9Whole.l0]) ?_
    rw [rd_nat _ _ h, w64 (x := (i : Int) + 1) (by omega) (by omega)]
    refine EV.pos (by omega) (EV.pos (by omega) ?_)
    exact EV.cases (fun c => H1 (by simpa using c)) (fun c => (EV.now _).eq (H2 (by simpa using c)).symm)
  · refine EV.step (fun k => by rw [spec_l9Whole.l0]) ?_
    exact EV.neg (by omega) ((EV.now _).eq (by rw [Bool.eq_iff_iff]; simp))

def mxM (a : Int) : Int := if 1 > a then 1 else a
def actionB (g : Int) (l : List (List Int)) : Bool := decide (0 ≤ g ∧ g ≤ 2) && (decide ((l.length : Int) = 2 * mxM g) && (sheetsB l && (decide (g = 0) || decide (actL l (relM g) = idM (d0 l)))))
theorem rel_ok {g : Int} {l : List (List Int)} (h : g = 1 ∨ g = 2) (hl : (l.length : Int) = 2 * g) : wordOk l (relM g) = true := by
  rcases h with rfl | rfl
  · have : l.length = 2 := by omega
    simp [wordOk, wordB, relM, letterB, leB, this]
  · have : l.length = 4 := by omega
    simp [wordOk, wordB, relM, letterB, leB, this]
theorem mxM_of {g : Int} (h : 0 ≤ g ∧ g ≤ 2) : (g = 0 ∧ mxM g = 1) ∨ ((g = 1 ∨ g = 2) ∧ mxM g = g) := by
  unfold mxM; split <;> omega
theorem relM_len {g : Int} : (relM g).length ≤ 8 := by
  unfold relM; split
  · simp
  · split <;> simp

theorem spec_IsAction_is (g : Int) (l : List (List Int)) (hn : l.length < 4294967296) (hr : ∀ r ∈ l, r.length < 4294967296) : EV (fun k => spec_IsAction.f k g l) (actionB g l) := by
  have no : EV (fun k => spec_IsAction.j0 k g l true) false := by
    refine EV.step (fun k => by rw [spec_IsAction.j0]) ?_
    exact EV.pos rfl (EV.now _)
  unfold actionB
  refine EV.by (spec_l1In_is _ _ _) ?_
  by_cases h1 : 0 ≤ g ∧ g ≤ 2
  · rw [decide_eq_true h1, Bool.true_and]
    refine EV.pos rfl (EV.bind (spec_l9Perms_is l hn hr) ?_)
    have m := mxM_of h1
    by_cases h2 : permsB l = true
    · have hs : sheetsB l = true := by have := h2; simp only [permsB, Bool.and_eq_true] at this; exact this.1
      have S := sheetsB_of hs
      refine EV.pos h2 (EV.by (spec_l1Max_is _ _) ?_)
      rw [show (if (1 : Int) > g then 1 else g) = mxM g from rfl, w64 (x := 2 * mxM g) (by omega) (by omega), hs, Bool.true_and]
      by_cases h3 : (l.length : Int) = 2 * mxM g
      · rw [decide_eq_true h3, Bool.true_and, show ((l.length : Int) != 2 * mxM g) = false by simp [h3]]
        refine EV.step (fun k => by rw [spec_IsAction.j0]) ?_
        refine EV.neg (by simp) ?_
        by_cases h0 : g = 0
        · exact EV.pos h0 ((EV.now _).eq (by simp [h0]))
        · refine EV.neg h0 (EV.by (spec_Relator_is _) (EV.bind (spec_ActWord_is l _ hn hr (by have := @relM_len g; omega)) ?_))
          have hm : (g = 1 ∨ g = 2) ∧ mxM g = g := by omega
          have e2 : actM l (relM g) = actL l (relM g) := by unfold actM; rw [if_pos ⟨h2, rel_ok hm.1 (by rw [h3, hm.2])⟩]
          rw [e2]
          refine EV.bind (spec_l9Whole_is _ (by rw [actL_len]; omega)) ((EV.now _).eq ?_)
          rw [wholeB_eq (actL_len _ _) S.2.1, decide_eq_false h0, Bool.false_or]
      · rw [decide_eq_false h3, Bool.false_and, show ((l.length : Int) != 2 * mxM g) = true by simpa using h3]
        exact no
    · refine EV.neg h2 ?_
      have : (decide ((l.length : Int) = 2 * mxM g) && (sheetsB l && (decide (g = 0) || decide (actL l (relM g) = idM (d0 l))))) = false := by
        by_cases h3 : (l.length : Int) = 2 * mxM g
        · have e := permsB_le (l := l) (by omega)
          rw [e] at h2
          rw [show sheetsB l = false by simpa using h2, Bool.false_and, Bool.and_false]
        · rw [decide_eq_false h3, Bool.false_and]
      rw [this]; exact no
  · rw [decide_eq_false h1, Bool.false_and]
    exact EV.neg (by simp) no

theorem spec_l3Find_N {n : Nat} {up : List Int} (hu : upB n up) : ∀ (m : Nat) (s : Int), 0 ≤ s → s < n → s.toNat ≤ m → EV (fun k => spec_l3Find.l0 k up s) (rootN up m s)
  | 0, s, h0, h1, hm => by
    have a := up_get hu h0 h1
    refine EV.step (fun k => by rw [spec_l3Find.l0]) ?_
    rw [rd_getD]
    refine EV.pos h0 (EV.pos (by have := hu.1; omega) (EV.pos (by omega) ((EV.now _).eq rfl)))
  | m + 1, s, h0, h1, hm => by
    have a := up_get hu h0 h1
    refine EV.step (fun k => by rw [spec_l3Find.l0]) ?_
    rw [rd_getD]
    refine EV.pos h0 (EV.pos (by have := hu.1; omega) ?_)
    simp only [rootN]
    by_cases e : up.getD s.toNat 0 = s
    · rw [if_pos e]; exact EV.pos e (EV.now _)
    · rw [if_neg e]
      exact EV.neg e (spec_l3Find_N hu m _ a.1 (by omega) (by omega))
theorem spec_l3Find_is {n : Nat} {up : List Int} (hu : upB n up) {s : Int} (h0 : 0 ≤ s) (h1 : s < n) : EV (fun k => spec_l3Find.f k up s) (rootI up s) := spec_l3Find_N hu _ s h0 h1 (Nat.le_refl _)

theorem spec_l1Min_is (a b : Int) : spec_l1Min.f a b = some (if a < b then a else b) := by
  unfold spec_l1Min.f; split <;> rfl

theorem join_max {n : Nat} {up : List Int} (hu : upB n up) {a b : Int} (ha : 0 ≤ a ∧ a < n) (hb : 0 ≤ b ∧ b < n) :
    up.set (if rootI up a > rootI up b then rootI up a else rootI up b).toNat (if rootI up a < rootI up b then rootI up a else rootI up b) = joinM up a b := by
  unfold joinM
  by_cases h : rootI up a > rootI up b
  · rw [if_pos h, if_pos h, if_neg (by omega)]
  · rw [if_neg h, if_neg h]
    by_cases h2 : rootI up a < rootI up b
    · rw [if_pos h2]
    · rw [if_neg h2]
      have : rootI up a = rootI up b := by omega
      rw [this]
theorem spec_parts_own {n : Nat} {up : List Int} (hu : upB n up) (hn : n ≤ 5) (s : Nat) (hs : s < n) (out : List (List Int)) (ho : out.length ≤ 5) (R : List (List Int))
    (H : EV (fun k => spec_l9Parts.l3 k up (out ++ [ownM n up s]) (wrap64 ((s : Int) + 1))) R) : EV (fun k => spec_l9Parts.l4 k up out (s : Int) [] 0) R := by
  have hl := hu.1
  refine EV.foldC (g := fun k own t => spec_l9Parts.l4 k up out (s : Int) own t) (List.range n) (fun own (t : Nat) => if rootI up (t : Int) = (s : Int) then own ++ [(t : Int)] else own) (fun i own => own.length ≤ i) R (fun i hi own hI K => ?_) [] (by simp) (fun hI => ?_)
  · have hi' : i < n := by simpa using hi
    rw [List.getElem_range] at K
    refine EV.step (fun k => by rw [spec_l9Parts.l4]) ?_
    rw [w64 (x := (i : Int) + 1) (by omega) (by omega)]
    refine EV.pos (by omega) (EV.bind (spec_l3Find_is hu (by omega) (by omega)) ?_)
    by_cases e : rootI up (i : Int) = (s : Int)
    · rw [if_pos e] at K
      exact EV.pos e (EV.pos (by omega) (K (by simp; omega)))
    · rw [if_neg e] at K
      exact EV.neg e (K (by omega))
  · rw [List.length_range]
    refine EV.step (fun k => by rw [spec_l9Parts.l4]) ?_
    exact EV.neg (by omega) (EV.pos (by omega) H)
theorem spec_parts_out {n : Nat} {up : List Int} (hu : upB n up) (hn : n ≤ 5) : EV (fun k => spec_l9Parts.l3 k up [] 0) (outM2 n up) := by
  have hl := hu.1
  refine EV.fold (g := fun k out s => spec_l9Parts.l3 k up out s) (List.range n) (fun out (s : Nat) => if up.getD s 0 = (s : Int) then out ++ [ownM n up s] else out) id (fun i out => out.length ≤ i) (fun i hi out r hI K => ?_) (fun out hI => ?_) [] (by simp)
  · have hi' : i < n := by simpa using hi
    rw [List.getElem_range] at K
    refine EV.step (fun k => by rw [spec_l9Parts.l3]) ?_
    rw [rd_getD, Int.toNat_natCast]
    refine EV.pos (by omega) (EV.pos (by omega) ?_)
    by_cases e : up.getD i 0 = (i : Int)
    · rw [if_pos e] at K
      refine EV.pos e (spec_parts_own hu hn i hi' out (by omega) r ?_)
      rw [w64 (x := (i : Int) + 1) (by omega) (by omega)]
      exact K (by simp; omega)
    · rw [if_neg e] at K
      rw [w64 (x := (i : Int) + 1) (by omega) (by omega)]
      exact EV.neg e (K (by omega))
  · rw [List.length_range]
    refine EV.step (fun k => by rw [spec_l9Parts.l3]) ?_
    exact EV.neg (by omega) (EV.now _)
theorem spec_parts_row {l : List (List Int)} (hs : sheetsB l = true) (hn : l.length ≤ 1000) (i : Nat) (hi : i < l.length) (up : List Int) (hu : upB (d0 l) up) (R : List (List Int))
    (H : upB (d0 l) (rowM (d0 l) up l[i]) → EV (fun k => spec_l9Parts.l1 k l (rowM (d0 l) up l[i]) (wrap64 ((i : Int) + 1))) R) : EV (fun k => spec_l9Parts.l2 k l up (i : Int) 0) R := by
  have s := sheetsB_of hs
  have row := s.2.2.2 _ (List.getElem_mem hi)
  have P := (permB_of row.2).1
  refine EV.foldC (g := fun k up s => spec_l9Parts.l2 k l up (i : Int) s) (List.range (d0 l)) (fun up (s : Nat) => joinM up (s : Int) (l[i].getD s 0)) (fun _ up => upB (d0 l) up) R (fun j hj up hI K => ?_) up hu (fun hI => ?_)
  · have hj' : j < d0 l := by simpa using hj
    have hj2 : j < l[i].length := by omega
    rw [List.getElem_range] at K
    have hx : 0 ≤ l[i].getD j 0 ∧ l[i].getD j 0 < (d0 l : Nat) := by
      rw [List.getD_eq_getElem?_getD, List.getElem?_eq_getElem hj2]
      have := P _ (List.getElem_mem hj2)
      simp only [Option.getD_some]; omega
    have ra := rootI_le hI (s := (j : Int)) (by omega) (by omega)
    have rb := rootI_le hI hx.1 hx.2
    have hl := hI.1
    refine EV.step (fun k => by rw [spec_l9Parts.l2]) ?_
    rw [rdL_nat _ _ hi, rd_getD, Int.toNat_natCast, w64 (x := (j : Int) + 1) (by omega) (by omega)]
    refine EV.pos (by omega) (EV.bind (spec_l3Find_is hI (by omega) (by omega)) (EV.pos (by omega) (EV.pos (by omega) (EV.pos (by omega) (EV.pos (by omega) (EV.bind (spec_l3Find_is hI hx.1 hx.2) (EV.by (spec_l1Max_is _ _) (EV.by (spec_l1Min_is _ _) ?_))))))))
    rw [join_max hI (by omega) hx]
    refine EV.pos (by split <;> omega) (EV.pos (by split <;> omega) (K (joinM_I hI (by omega) hx)))
  · rw [List.length_range]
    have hl := hI.1
    refine EV.step (fun k => by rw [spec_l9Parts.l2]) ?_
    exact EV.neg (by omega) (H hI)
theorem spec_l9Parts_is {l : List (List Int)} (hs : sheetsB l = true) (hn : l.length ≤ 1000) : EV (fun k => spec_l9Parts.f k l) (partsM l) := by
  have s := sheetsB_of hs
  have hrow : (rd_L1 l 0).length = d0 l := by rw [rdL_zero]; rfl
  refine EV.count (g := fun k up i => spec_l9Parts.l0 k l up i) (d0 l) (fun i => idM i) _ (fun i hi H => ?_) ?_
  · refine EV.step (fun k => by rw [spec_l9Parts.l0]) ?_
    rw [hrow, w64 (x := (i : Int) + 1) (by omega) (by omega)]
    refine EV.pos (by omega) (EV.pos (by omega) (EV.pos (by simp [idM]; omega) ?_))
    have e : idM (i + 1) = idM i ++ [(i : Int)] := by simp [idM, List.range_succ]
    rw [e] at H; exact H
  · refine EV.step (fun k => by rw [spec_l9Parts.l0]) ?_
    rw [hrow]
    refine EV.pos (by omega) (EV.neg (by omega) ?_)
    refine EV.foldC (g := fun k up i => spec_l9Parts.l1 k l up i) l (rowM (d0 l)) (fun _ up => upB (d0 l) up) _ (fun i hi up hI K => ?_) (idM (d0 l)) (upB_id _) (fun hI => ?_)
    · refine EV.step (fun k => by rw [spec_l9Parts.l1]) ?_
      refine EV.pos (by omega) (spec_parts_row hs hn i hi up hI _ (fun h => ?_))
      rw [w64 (x := (i : Int) + 1) (by omega) (by omega)]
      exact K h
    · refine EV.step (fun k => by rw [spec_l9Parts.l1]) ?_
      exact EV.neg (by omega) (spec_parts_out (allM_I hs) s.2.2.1)

theorem spec_l3Find2_is (xs : List Int) (x : Int) (h : xs.length < 4611686018427387904) : EV (fun k => spec_l3Find2.f k xs x) (xs.contains x) := by
  refine EV.scanC (g := fun k i => spec_l3Find2.l0 k xs x i) xs (fun y => decide (¬ y = x)) (xs.contains x) true (fun i hi H1 H2 => ?_) (fun ha => ?_) (fun hn => ?_)
  · refine EV.step (fun k => by rw [spec_l3Find2.l0]) ?_
    rw [rd_nat _ _ hi, w64 (x := (i : Int) + 1) (by omega) (by omega)]
    refine EV.pos (by omega) (EV.pos (by omega) ?_)
    by_cases e : xs[i] = x
    · exact EV.pos e ((EV.now _).eq (H2 (by simpa using e)).symm)
    · exact EV.neg e (H1 (by simpa using e))
  · refine EV.step (fun k => by rw [spec_l3Find2.l0]) ?_
    refine EV.neg (by omega) ((EV.now _).eq ?_)
    simp only [List.all_eq_true, decide_eq_true_eq] at ha
    rw [eq_comm, Bool.eq_false_iff]
    intro hc
    exact ha x (by simpa using hc) rfl
  · simp only [List.all_eq_false, decide_eq_true_eq, Classical.not_not] at hn
    obtain ⟨y, hy, e⟩ := hn
    subst e; simpa using hy

theorem impl_within_is (a b c : Int) : impl_within.f a b c = some (decide (b ≤ a ∧ a ≤ c)) := by
  unfold impl_within.f
  by_cases h : a ≥ b
  · rw [if_pos h]; simp [show b ≤ a from h]
  · rw [if_neg h]; simp; omega

theorem impl_isPermutation_l0 (p : List Int) (hn : p.length < 4611686018427387904) : ∀ (suf pre : List Int), p = pre ++ suf → pre.Nodup →
    EV (fun k => impl_isPermutation.l0 k p (seenM p.length pre) p (p.length : Int) (pre.length : Int)) (suf.all (inB p.length) && decide (pre ++ suf).Nodup) := by
  intro suf
  induction suf with
  | nil =>
    intro pre h hp
    refine EV.step (fun k => by rw [impl_isPermutation.l0]) ?_
    exact EV.neg (by subst h; simp) ((EV.now _).eq (by simp [hp]))
  | cons x suf ih =>
    intro pre h hp
    have hpl : pre.length < 4611686018427387904 := by subst h; simp at hn; omega
    have hlt : (pre.length : Int) < (p.length : Int) := by subst h; exact lt_app ..
    have hx : rd p (pre.length : Int) = x := by subst h; exact rd_app ..
    refine EV.step (fun k => by rw [impl_isPermutation.l0]) ?_
    rw [hx, up (x := x) hpl, w64 (x := (p.length : Int) - 1) (by omega) (by omega)]
    refine EV.pos hlt (EV.pos (by omega) (EV.pos hlt (EV.by (impl_within_is _ _ _) ?_)))
    by_cases hb : inB p.length x = true
    · have b := inB_of hb
      refine EV.pos (by simp; omega) (EV.pos b.1 (EV.pos (by simp [seenM]; omega) ?_))
      rw [show rdOf false (seenM p.length pre) x = decide (x ∈ pre) by unfold seenM; rw [rdOf_tab _ _ _ _ b.1 b.2, show ((x.toNat : Nat) : Int) = x by omega]]
      by_cases hm : x ∈ pre
      · refine EV.pos (by simpa using hm) ((EV.now _).eq ?_)
        rw [decide_eq_false, Bool.and_false]
        intro c
        exact (List.nodup_append.1 c).2.2 x hm x (by simp) rfl
      · refine EV.neg (by simpa using hm) ?_
        rw [seenM_snoc _ _ _ b.1]
        refine (ih (pre ++ [x]) (by simp [h]) ?_).eq (by simp [hb])
        rw [List.nodup_append]
        refine ⟨hp, by simp, fun a ha c hc => ?_⟩
        rw [List.mem_singleton] at hc
        intro e; exact hm (by rw [← hc, ← e]; exact ha)
    · refine EV.neg (by simp only [inB, decide_eq_true_iff] at hb; simp; omega) ((EV.now _).eq ?_)
      rw [List.all_cons, show inB p.length x = false by simpa using hb]; simp
theorem impl_isPermutation_is (p : List Int) (hn : p.length < 4294967296) : EV (fun k => impl_isPermutation.f k p) (permB p) := by
  refine EV.pos (by omega) (EV.pos (by omega) ?_)
  have := impl_isPermutation_l0 p (by omega) p [] rfl List.nodup_nil
  rw [seenM_nil] at this
  exact this

theorem impl_areSheets_is (l : List (List Int)) (hn : l.length < 4294967296) (hr : ∀ r ∈ l, r.length < 4294967296) : EV (fun k => impl_areSheets.f k l) (sheetsB l) := by
  have := EV.scan (g := fun k i => impl_areSheets.l0 k l l (l.length : Int) i) l (fun r => decide (1 ≤ r.length ∧ r.length ≤ 5) && sheetB (d0 l) r) (decide (0 < l.length)) (fun i h r H1 H2 => ?_) ?_
  · refine EV.eq this ?_
    rw [Bool.eq_iff_iff]
    simp only [sheetsB, sheetB, Bool.and_eq_true, decide_eq_true_iff, List.all_eq_true]
    constructor
    · intro h
      have z := h.1 _ (List.getElem_mem h.2)
      exact ⟨h.2, by omega, fun r hr => (h.1 r hr).2⟩
    · intro h
      exact ⟨fun r hr => ⟨by have := h.2.2 r hr; omega, h.2.2 r hr⟩, h.1⟩
  · refine EV.step (fun k => by rw [impl_areSheets.l0]) ?_
    rw [rdL_nat _ _ h, w64 (x := (i : Int) + 1) (by omega) (by omega), rdL_zero]
    refine EV.pos (by omega) (EV.pos (by omega) (EV.pos (by omega) (EV.pos (by omega) ?_)))
    by_cases hl : (l[i]).length = d0 l
    · refine EV.pos (by unfold d0 at hl; omega) (EV.by (impl_within_is _ _ _) ?_)
      by_cases h5 : 1 ≤ (l[i]).length ∧ (l[i]).length ≤ 5
      · refine EV.pos (by simp; omega) (EV.bind (impl_isPermutation_is _ (hr _ (List.getElem_mem h))) ?_)
        exact EV.cases (fun c => H1 (by simp only [sheetB, c, decide_eq_true hl, decide_eq_true h5, Bool.and_self])) (fun c => (EV.now _).eq (H2 (by simp only [sheetB, show permB l[i] = false by simpa using c, Bool.and_false])).symm)
      · exact EV.neg (by simp; omega) ((EV.now _).eq (H2 (by simp only [decide_eq_false h5, Bool.false_and])).symm)
    · exact EV.neg (by unfold d0 at hl; omega) ((EV.now _).eq (H2 (by simp [sheetB, hl])).symm)
  · refine EV.step (fun k => by rw [impl_areSheets.l0]) ?_
    exact EV.neg (by omega) ((EV.now _).eq (by rw [Bool.eq_iff_iff]; simp))

theorem impl_identity_is (n : Nat) (hn : n < 4294967296) : EV (fun k => impl_identity.f k (n : Int)) (idM n) := by
  refine EV.count (g := fun k s i => impl_identity.l0 k s (n : Int) i) n idM _ (fun i hi H => ?_) ?_
  · refine EV.step (fun k => by rw [impl_identity.l0]) ?_
    rw [w64 (x := (i : Int) + 1) (by omega) (by omega)]
    refine EV.pos (by omega) (EV.pos (by simp [idM]; omega) ?_)
    simpa [idM, List.range_succ] using H
  · refine EV.step (fun k => by rw [impl_identity.l0]) ?_
    exact EV.neg (by omega) (EV.now _)

theorem impl_sameInts_is (xs ys : List Int) (hn : xs.length < 4294967296) : EV (fun k => impl_sameInts.f k xs ys) (decide (xs = ys)) := by
  by_cases h : xs.length = ys.length
  · refine EV.pos (by omega) ?_
    have := EV.countB (g := fun k i => impl_sameInts.l0 k xs ys (xs.length : Int) i) xs.length (fun i => decide (xs.getD i 0 = ys.getD i 0)) true (fun i hi r H1 H2 => ?_) ?_
    · refine EV.eq this ?_
      rw [Bool.eq_iff_iff, Bool.and_true, List.all_eq_true, decide_eq_true_iff]
      constructor
      · intro hh
        apply List.ext_getElem h
        intro i h1 h2
        have := hh i (List.mem_range.2 h1)
        rw [decide_eq_true_iff] at this
        simpa [h1, h2] using this
      · intro e i _; rw [e]; simp
    · have hi' : i < ys.length := by omega
      have e1 : xs.getD i 0 = xs[i] := by simp [hi]
      have e2 : ys.getD i 0 = ys[i] := by simp [hi']
      rw [e1, e2] at H1 H2
      refine EV.step (fun k => by rw [impl_sameInts.l0]) ?_
      rw [rd_nat _ _ hi, rd_nat _ _ hi', w64 (x := (i : Int) + 1) (by omega) (by omega)]
      refine EV.pos (by omega) (EV.pos (by omega) (EV.pos (by omega) (EV.pos (by omega) ?_)))
      exact EV.cases (fun c => H1 (by simpa using c)) (fun c => (EV.now _).eq (H2 (by simpa using c)).symm)
    · refine EV.step (fun k => by rw [impl_sameInts.l0]) ?_
      exact EV.neg (by omega) (EV.now _)
  · exact EV.neg (by omega) ((EV.now _).eq (by simp; intro e; exact h (by rw [e])))

theorem impl_then_is (p q : List Int) (hp : ∀ x ∈ p, 0 ≤ x ∧ x < q.length) (hn : p.length < 4294967296) : EV (fun k => impl_then.f k p q) (thenM p q) := by
  have := EV.count (g := fun k s i => impl_then.l0 k q s p (p.length : Int) i) p.length (fun i => thenM (p.take i) q) (thenM p q) (fun i hi H => ?_) ?_
  · exact this
  · have hx := hp _ (List.getElem_mem hi)
    refine EV.step (fun k => by rw [impl_then.l0]) ?_
    rw [rd_nat _ _ hi, w64 (x := (i : Int) + 1) (by omega) (by omega)]
    refine EV.pos (by omega) (EV.pos (by omega) (EV.pos (by omega) (EV.pos hx.1 (EV.pos hx.2 (EV.pos (by simp [thenM]; omega) ?_)))))
    rw [List.take_succ_eq_append_getElem hi] at H
    have e : thenM (p.take i ++ [p[i]]) q = thenM (p.take i) q ++ [rd q p[i]] := by rw [thenM, List.map_append]; rfl
    rw [e] at H
    exact H
  · refine EV.step (fun k => by rw [impl_then.l0]) ?_
    rw [List.take_length]
    exact EV.neg (by omega) (EV.now _)

theorem impl_size_is (a : Int) (h : -9223372036854775808 < a) (h' : a ≤ 9223372036854775807) : impl_size.f a = some (a.natAbs : Int) := by
  unfold impl_size.f mx
  rw [w64 (by omega) (by omega)]
  congr 1
  split <;> omega
theorem impl_inversePermutation_is (p : List Int) (hp : ∀ x ∈ p, 0 ≤ x ∧ x < p.length) (hn : p.length < 4294967296) : EV (fun k => impl_inversePermutation.f k p) (invM p) := by
  refine EV.pos (by omega) (EV.pos (by omega) ?_)
  refine EV.count (g := fun k s i => impl_inversePermutation.l0 k s p (p.length : Int) i) p.length (invK p) _ (fun i hi H => ?_) ?_
  · have hx := hp _ (List.getElem_mem hi)
    have hl : (invK p i).length = p.length := (invK_I p (by omega) i (by omega)).1
    refine EV.step (fun k => by rw [impl_inversePermutation.l0]) ?_
    rw [rd_nat _ _ hi, w64 (x := (i : Int) + 1) (by omega) (by omega)]
    refine EV.pos (by omega) (EV.pos (by omega) (EV.pos (by omega) (EV.pos (by omega) (EV.pos (by omega) ?_))))
    rw [invK_succ] at H
    have e : p.getD i 0 = p[i] := by simp [hi]
    rw [e] at H
    exact H
  · refine EV.step (fun k => by rw [impl_inversePermutation.l0]) ?_
    exact EV.neg (by omega) (EV.now _)

theorem impl_act_is (l : List (List Int)) (w : List Int) (hs : sheetsB l = true) (hw : lettersB l w) (hn : w.length < 4294967296) : EV (fun k => impl_act.f k l w) (actL l w) := by
  have S := sheetsB_of hs
  have e : actL l w = actK l w (idM (d0 l)) := by rw [actK_eq]; rfl
  rw [e]
  refine EV.pos (by omega) (EV.bind (a := idM (d0 l)) ?_ ?_)
  · rw [rdL_zero]; exact impl_identity_is (d0 l) (by omega)
  · refine EV.fold (g := fun k s i => impl_act.l0 k l s w (w.length : Int) i) w (fun out a => thenM out (stepP l a)) id (fun _ s => s.length = d0 l ∧ ∀ x ∈ s, 0 ≤ x ∧ x < d0 l) (fun i h s r hI H => ?_) (fun s hI => ?_) _ (idM_I _)
    · have ha := hw _ (List.getElem_mem h)
      have I := stepP_I hs ha.1 ha.2.1
      have hi : (w[i]).natAbs - 1 < l.length := by omega
      have row := S.2.2.2 _ (List.getElem_mem hi)
      have e : l.getD ((w[i]).natAbs - 1) [] = l[(w[i]).natAbs - 1] := by simp [hi]
      have H := H (thenM_I hI I)
      refine EV.step (fun k => by rw [impl_act.l0]) ?_
      rw [rd_nat _ _ h, w64 (x := (i : Int) + 1) (by omega) (by omega)]
      refine EV.pos (by omega) (EV.pos (by omega) (EV.pos (by omega) (EV.by (impl_size_is _ (by omega) (by omega)) ?_)))
      rw [w64 (x := ((w[i]).natAbs : Int) - 1) (by omega) (by omega), show (((w[i]).natAbs : Int) - 1) = (((w[i]).natAbs - 1 : Nat) : Int) by omega, rdL_nat _ _ hi]
      refine EV.pos (by omega) (EV.pos (by omega) ?_)
      by_cases hneg : w[i] < 0
      · have e2 : stepP l w[i] = invM l[(w[i]).natAbs - 1] := by unfold stepP; rw [if_pos hneg, e]
        rw [e2] at I H
        exact EV.pos hneg (EV.bind (impl_inversePermutation_is _ (permB_of row.2).1 (by omega)) (EV.bind (impl_then_is s _ (by rw [I.1]; exact hI.2) (by omega)) H))
      · have e2 : stepP l w[i] = l[(w[i]).natAbs - 1] := by unfold stepP; rw [if_neg hneg, e]
        rw [e2] at I H
        exact EV.neg hneg (EV.bind (impl_then_is s _ (by rw [I.1]; exact hI.2) (by omega)) H)
    · refine EV.step (fun k => by rw [impl_act.l0]) ?_
      exact EV.neg (by omega) (EV.now _)

theorem impl_relator_is (g : Int) : impl_relator.f g = some (if g = 1 then [1, 2, -1, -2] else [1, 2, -1, -2, 3, 4, -3, -4]) := by
  unfold impl_relator.f
  split <;> rfl

theorem impl_IsAction_is (g : Int) (l : List (List Int)) (hn : l.length < 4294967296) (hr : ∀ r ∈ l, r.length < 4294967296) : EV (fun k => impl_IsAction.f k g l) (actionB g l) := by
  have no : EV (fun k => impl_IsAction.j0 k g l true) false := by
    refine EV.step (fun k => by rw [impl_IsAction.j0]) ?_
    exact EV.pos rfl (EV.now _)
  unfold actionB
  refine EV.by (impl_within_is _ _ _) ?_
  by_cases h1 : 0 ≤ g ∧ g ≤ 2
  · rw [decide_eq_true h1, Bool.true_and]
    have m := mxM_of h1
    have e : mx (wrap64 (2 * g)) 2 = 2 * mxM g := by
      rw [w64 (by omega) (by omega)]; unfold mx; split <;> omega
    rw [e]
    refine EV.pos rfl ?_
    by_cases h3 : (l.length : Int) = 2 * mxM g
    · rw [decide_eq_true h3, Bool.true_and]
      refine EV.pos h3 (EV.bind (impl_areSheets_is l hn hr) ?_)
      by_cases h2 : sheetsB l = true
      · have S := sheetsB_of h2
        rw [h2, Bool.true_and]
        refine EV.step (fun k => by rw [impl_IsAction.j0]) ?_
        refine EV.neg (by simp) ?_
        by_cases h0 : g = 0
        · exact EV.pos h0 ((EV.now _).eq (by simp [h0]))
        · have hm : (g = 1 ∨ g = 2) ∧ mxM g = g := by omega
          have er : (if g = 1 then [1, 2, -1, -2] else [1, 2, -1, -2, 3, 4, -3, -4] : List Int) = relM g := by
            unfold relM
            split
            · rfl
            · rw [if_pos (by omega)]
          refine EV.neg h0 (EV.by (impl_relator_is _) ?_)
          rw [er]
          have hok := rel_ok (l := l) hm.1 (by rw [h3, hm.2])
          refine EV.bind (impl_act_is l _ h2 (letters_of hok).1 (by have := @relM_len g; omega)) (EV.pos (by omega) (EV.bind (a := idM (d0 l)) ?_ ?_))
          · rw [rdL_zero]; exact impl_identity_is (d0 l) (by omega)
          · refine EV.bind (impl_sameInts_is _ _ (by rw [actL_len]; omega)) ((EV.now _).eq ?_)
            rw [decide_eq_false h0, Bool.false_or]
      · rw [show sheetsB l = false by simpa using h2, Bool.false_and]; exact no
    · rw [decide_eq_false h3, Bool.false_and]
      exact EV.neg h3 no
  · rw [decide_eq_false h1, Bool.false_and]
    exact EV.neg (by simp) no

theorem impl_top_N {n : Nat} {up : List Int} (hu : upB n up) : ∀ (m : Nat) (s : Int), 0 ≤ s → s < n → s.toNat ≤ m → EV (fun k => impl_parts.top k up s) (rootN up m s)
  | 0, s, h0, h1, hm => by
    have a := up_get hu h0 h1
    refine EV.step (fun k => by rw [impl_parts.top]) ?_
    rw [rd_getD]
    refine EV.pos h0 (EV.pos (by have := hu.1; omega) (EV.pos (by omega) ((EV.now _).eq rfl)))
  | m + 1, s, h0, h1, hm => by
    have a := up_get hu h0 h1
    refine EV.step (fun k => by rw [impl_parts.top]) ?_
    rw [rd_getD]
    refine EV.pos h0 (EV.pos (by have := hu.1; omega) ?_)
    simp only [rootN]
    by_cases e : up.getD s.toNat 0 = s
    · rw [if_pos e]; exact EV.pos e (EV.now _)
    · rw [if_neg e]
      exact EV.neg e (impl_top_N hu m _ a.1 (by omega) (by omega))
theorem impl_top_is {n : Nat} {up : List Int} (hu : upB n up) {s : Int} (h0 : 0 ≤ s) (h1 : s < n) : EV (fun k => impl_parts.top k up s) (rootI up s) := impl_top_N hu _ s h0 h1 (Nat.le_refl _)
theorem impl_join_is {n : Nat} {up : List Int} (hu : upB n up) {a b : Int} (ha : 0 ≤ a ∧ a < n) (hb : 0 ≤ b ∧ b < n) : EV (fun k => impl_parts.join k up a b) (joinM up a b) := by
  have ra := rootI_le hu ha.1 ha.2
  have rb := rootI_le hu hb.1 hb.2
  have hl := hu.1
  refine EV.bind (impl_top_is hu ha.1 ha.2) (EV.bind (impl_top_is hu hb.1 hb.2) ?_)
  exact EV.cases (fun h => EV.pos (by omega) (EV.pos (by omega) ((EV.now _).eq (by unfold joinM; rw [if_pos h])))) (fun h => EV.pos (by omega) (EV.pos (by omega) ((EV.now _).eq (by unfold joinM; rw [if_neg h]))))
theorem impl_parts_own {l : List (List Int)} {up : List Int} (hu : upB (d0 l) up) (hn : d0 l ≤ 5) (s : Nat) (hs : s < d0 l) (out : List (List Int)) (ho : out.length ≤ 5) (R : List (List Int))
    (H : EV (fun k => impl_parts.l3 k l up (out ++ [ownM (d0 l) up s]) (wrap64 ((s : Int) + 1))) R) : EV (fun k => impl_parts.l4 k l up out (s : Int) [] 0) R := by
  have hrow : (rd_L1 l 0).length = d0 l := by rw [rdL_zero]; rfl
  refine EV.foldC (g := fun k own t => impl_parts.l4 k l up out (s : Int) own t) (List.range (d0 l)) (fun own (t : Nat) => if rootI up (t : Int) = (s : Int) then own ++ [(t : Int)] else own) (fun i own => own.length ≤ i) R (fun i hi own hI K => ?_) [] (by simp) (fun hI => ?_)
  · have hi' : i < d0 l := by simpa using hi
    rw [List.getElem_range] at K
    refine EV.step (fun k => by rw [impl_parts.l4]) ?_
    rw [hrow, w64 (x := (i : Int) + 1) (by omega) (by omega)]
    refine EV.pos (by omega) (EV.bind (impl_top_is hu (by omega) (by omega)) ?_)
    by_cases e : rootI up (i : Int) = (s : Int)
    · rw [if_pos e] at K
      exact EV.pos e (EV.pos (by omega) (K (by simp; omega)))
    · rw [if_neg e] at K
      exact EV.neg e (K (by omega))
  · rw [List.length_range]
    refine EV.step (fun k => by rw [impl_parts.l4]) ?_
    rw [hrow]
    exact EV.neg (by omega) (EV.pos (by omega) H)
theorem impl_parts_out {l : List (List Int)} {up : List Int} (hu : upB (d0 l) up) (hn : d0 l ≤ 5) : EV (fun k => impl_parts.l3 k l up [] 0) (outM2 (d0 l) up) := by
  have hrow : (rd_L1 l 0).length = d0 l := by rw [rdL_zero]; rfl
  refine EV.fold (g := fun k out s => impl_parts.l3 k l up out s) (List.range (d0 l)) (fun out (s : Nat) => if up.getD s 0 = (s : Int) then out ++ [ownM (d0 l) up s] else out) id (fun i out => out.length ≤ i) (fun i hi out r hI K => ?_) (fun out hI => ?_) [] (by simp)
  · have hi' : i < d0 l := by simpa using hi
    rw [List.getElem_range] at K
    refine EV.step (fun k => by rw [impl_parts.l3]) ?_
    rw [hrow]
    refine EV.pos (by omega) (EV.bind (impl_top_is hu (by omega) (by omega)) ?_)
    have sf := rootI_self hu (s := (i : Int)) (by omega) (by omega)
    rw [Int.toNat_natCast] at sf
    by_cases e : up.getD i 0 = (i : Int)
    · rw [if_pos e] at K
      refine EV.pos (sf.2 e) (impl_parts_own hu hn i hi' out (by omega) r ?_)
      rw [w64 (x := (i : Int) + 1) (by omega) (by omega)]
      exact K (by simp; omega)
    · rw [if_neg e] at K
      rw [w64 (x := (i : Int) + 1) (by omega) (by omega)]
      exact EV.neg (fun h => e (sf.1 h)) (K (by omega))
  · rw [List.length_range]
    refine EV.step (fun k => by rw [impl_parts.l3]) ?_
    rw [hrow]
    exact EV.neg (by omega) (EV.now _)
theorem impl_parts_row {l : List (List Int)} (hs : sheetsB l = true) (hn : l.length ≤ 1000) (i : Nat) (hi : i < l.length) (up : List Int) (hu : upB (d0 l) up) (R : List (List Int))
    (H : upB (d0 l) (rowM (d0 l) up l[i]) → EV (fun k => impl_parts.l1 k l (rowM (d0 l) up l[i]) (wrap64 ((i : Int) + 1))) R) : EV (fun k => impl_parts.l2 k l up (i : Int) 0) R := by
  have s := sheetsB_of hs
  have row := s.2.2.2 _ (List.getElem_mem hi)
  have P := (permB_of row.2).1
  refine EV.foldC (g := fun k up s => impl_parts.l2 k l up (i : Int) s) (List.range (d0 l)) (fun up (s : Nat) => joinM up (s : Int) (l[i].getD s 0)) (fun _ up => upB (d0 l) up) R (fun j hj up hI K => ?_) up hu (fun hI => ?_)
  · have hj' : j < d0 l := by simpa using hj
    have hj2 : j < l[i].length := by omega
    rw [List.getElem_range] at K
    have hx : 0 ≤ l[i].getD j 0 ∧ l[i].getD j 0 < (d0 l : Nat) := by
      rw [List.getD_eq_getElem?_getD, List.getElem?_eq_getElem hj2]
      have := P _ (List.getElem_mem hj2)
      simp only [Option.getD_some]; omega
    refine EV.step (fun k => by rw [impl_parts.l2]) ?_
    rw [rdL_nat _ _ hi, rd_getD, Int.toNat_natCast, w64 (x := (j : Int) + 1) (by omega) (by omega)]
    exact EV.pos (by omega) (EV.pos (by omega) (EV.bind (impl_join_is hI (by omega) hx) (K (joinM_I hI (by omega) hx))))
  · rw [List.length_range]
    refine EV.step (fun k => by rw [impl_parts.l2]) ?_
    rw [rdL_nat _ _ hi]
    exact EV.neg (by omega) (H hI)
theorem impl_parts_is {l : List (List Int)} (hs : sheetsB l = true) (hn : l.length ≤ 1000) : EV (fun k => impl_parts.f k l) (partsM l) := by
  have s := sheetsB_of hs
  have hrow : (rd_L1 l 0).length = d0 l := by rw [rdL_zero]; rfl
  refine EV.pos (by omega) (EV.bind (a := idM (d0 l)) ?_ ?_)
  · rw [hrow]
    refine EV.count (g := fun k up i => impl_parts.new k up ((d0 l : Nat) : Int) i) (d0 l) (fun i => idM i) _ (fun i hi H => ?_) ?_
    · refine EV.step (fun k => by rw [impl_parts.new]) ?_
      rw [w64 (x := (i : Int) + 1) (by omega) (by omega)]
      refine EV.pos (by omega) (EV.pos (by simp [idM]; omega) ?_)
      have e : idM (i + 1) = idM i ++ [(i : Int)] := by simp [idM, List.range_succ]
      rw [e] at H; exact H
    · refine EV.step (fun k => by rw [impl_parts.new]) ?_
      exact EV.neg (by omega) (EV.now _)
  · refine EV.foldC (g := fun k up i => impl_parts.l1 k l up i) l (rowM (d0 l)) (fun _ up => upB (d0 l) up) _ (fun i hi up hI K => ?_) (idM (d0 l)) (upB_id _) (fun hI => ?_)
    · refine EV.step (fun k => by rw [impl_parts.l1]) ?_
      refine EV.pos (by omega) (EV.pos (by omega) (impl_parts_row hs hn i hi up hI _ (fun h => ?_)))
      rw [w64 (x := (i : Int) + 1) (by omega) (by omega)]
      exact K h
    · refine EV.step (fun k => by rw [impl_parts.l1]) ?_
      exact EV.neg (by omega) (impl_parts_out (allM_I hs) s.2.2.1)

theorem impl_indexOf_is (xs : List Int) (x : Int) (h : xs.length < 4611686018427387904) : ∃ j, EV (fun k => impl_indexOf.f k xs x) j ∧ (0 ≤ j ↔ xs.contains x = true) := by
  suffices H : ∀ (n i : Nat), i + n = xs.length → ∃ j, EV (fun k => impl_indexOf.l0 k x xs (xs.length : Int) (i : Int)) j ∧ (0 ≤ j ↔ x ∈ xs.drop i) by
    obtain ⟨j, h1, h2⟩ := H xs.length 0 (by omega)
    exact ⟨j, h1, by simpa using h2⟩
  intro n
  induction n with
  | zero =>
    intro i hi
    refine ⟨-1, ?_, by rw [List.drop_of_length_le (by omega)]; simp⟩
    refine EV.step (fun k => by rw [impl_indexOf.l0]) ?_
    exact EV.neg (by omega) (EV.now _)
  | succ n ih =>
    intro i hi
    have hlt : i < xs.length := by omega
    rw [List.drop_eq_getElem_cons hlt]
    obtain ⟨j, h1, h2⟩ := ih (i + 1) (by omega)
    by_cases e : xs[i] = x
    · refine ⟨(i : Int), ?_, by simp [e]⟩
      refine EV.step (fun k => by rw [impl_indexOf.l0]) ?_
      rw [rd_nat _ _ hlt]
      exact EV.pos (by omega) (EV.pos (by omega) (EV.pos (by omega) (EV.pos e (EV.now _))))
    · refine ⟨j, ?_, by
        rw [h2, List.mem_cons]
        exact ⟨.inr, fun h => h.elim (fun h => absurd h.symm e) id⟩⟩
      refine EV.step (fun k => by rw [impl_indexOf.l0]) ?_
      rw [rd_nat _ _ hlt, w64 (x := (i : Int) + 1) (by omega) (by omega)]
      exact EV.pos (by omega) (EV.pos (by omega) (EV.pos (by omega) (EV.neg e (by exact_mod_cast h1))))

theorem impl_mod_is (a n : Nat) (hn : 0 < n) : impl_mod.f (a : Int) (n : Int) = some ((a % n : Nat) : Int) := by
  unfold impl_mod.f
  have e : Int.tmod (a : Int) (n : Int) = ((a % n : Nat) : Int) := by
    rw [Int.tmod_eq_emod_of_nonneg (by omega)]; omega
  rw [e, if_neg (by omega), if_neg (by omega)]

theorem impl_surf_b (h b : Nat) (hh : h ≤ 20) (hb : b ≤ 20) (e : Int) (he : e = 2 - 2 * (h : Int) - (b : Int)) : impl_surfaceWith.f e (b : Int) true = some ((h : Int), 0, (b : Int), true) := by
  unfold impl_surfaceWith.f
  rw [if_pos rfl]
  have e1 : wrap64 (wrap64 (2 - e) - (b : Int)) = ((2 * h : Nat) : Int) := by
    rw [w64 (x := 2 - e) (by omega) (by omega), w64 (by omega) (by omega)]; omega
  rw [e1, show (2 : Int) = ((2 : Nat) : Int) from rfl, impl_mod_is (2 * h) 2 (by decide)]
  simp only [Option.bind_some]
  rw [if_pos (by omega)]
  have e2 : wrap64 (Int.tdiv ((2 * h : Nat) : Int) ((2 : Nat) : Int)) = (h : Int) := by
    rw [show Int.tdiv ((2 * h : Nat) : Int) ((2 : Nat) : Int) = (h : Int) by
      rw [Int.tdiv_eq_ediv_of_nonneg (by omega)]; omega]
    exact w64 (by omega) (by omega)
  rw [e2]
  have e3 : impl_IsSurface.f (h : Int) 0 (b : Int) = some true := by
    unfold impl_IsSurface.f
    rw [impl_within_is, impl_within_is, impl_within_is]
    have b1 : decide (0 ≤ (h : Int) ∧ (h : Int) ≤ 20) = true := by simp; omega
    have b2 : decide (0 ≤ (b : Int) ∧ (b : Int) ≤ 20) = true := by simp; omega
    rw [b1, b2]
    simp
  rw [e3]; rfl

theorem laws_eqSurface_self (a b c : Int) : laws_eqSurface.f a b c a b c = some true := by
  unfold laws_eqSurface.f; rw [if_pos rfl, if_pos rfl, if_pos rfl]

def marksF : Nat → Int → List S49
  | 0, _ => []
  | n + 1, k => ⟨k, k + 1, k + 2⟩ :: marksF n (k + 3)
theorem rdT_app (pre : List S49) (x : S49) (suf : List S49) : rd_T49 (pre ++ x :: suf) (pre.length : Int) = x := by
  simp [rd_T49]
theorem laws_eqSurfaceS_self (xs : List S49) (hn : xs.length < 4611686018427387904) : EV (fun k => laws_eqSurfaceS.f k xs xs) true := by
  refine EV.pos rfl ?_
  refine EV.scanC (g := fun k i => laws_eqSurfaceS.l0 k xs xs i) xs (fun _ => true) true true (fun i hi H1 H2 => ?_) (fun ha => ?_) (fun hn => rfl)
  · refine EV.step (fun k => by rw [laws_eqSurfaceS.l0]) ?_
    rw [w64 (x := (i : Int) + 1) (by omega) (by omega)]
    exact EV.pos (by omega) (EV.pos (by omega) (EV.pos (by omega) (EV.by (laws_eqSurface_self _ _ _) (EV.pos rfl (H1 rfl)))))
  · refine EV.step (fun k => by rw [laws_eqSurfaceS.l0]) ?_
    exact EV.neg (by omega) (EV.now _)

theorem laws_markIntS_l0 : ∀ (suf pre : List Int) (k : Int), pre.length + suf.length < 4611686018427387904 → 0 ≤ k → k + suf.length < 4611686018427387904 →
    EV (fun r => laws_markIntS.l0 r (pre ++ suf) k (pre.length : Int)) (k + suf.length, pre ++ marks suf.length k) := by
  intro suf
  induction suf with
  | nil =>
    intro pre k h1 h2 h3
    refine EV.step (fun r => by rw [laws_markIntS.l0]) ?_
    exact EV.neg (by simp) ((EV.now _).eq (by simp [marks]))
  | cons x suf ih =>
    intro pre k h1 h2 h3
    simp only [List.length_cons] at h1 h3
    refine EV.step (fun r => by rw [laws_markIntS.l0]) ?_
    refine EV.pos (lt_app ..) (EV.pos (by omega) ?_)
    rw [set_app _ _ _ _ _ (by simp), up (x := k) (by omega), w64 (by omega) (by omega)]
    have := ih (pre ++ [k]) (k + 1) (by simp; omega) (by omega) (by omega)
    simp only [List.append_assoc, List.cons_append, List.nil_append] at this
    refine this.eq ?_
    simp [marks]; omega
theorem laws_markIntS_is (xs : List Int) (k : Int) (h1 : xs.length < 2305843009213693952) (h2 : 0 ≤ k) (h3 : k < 2305843009213693952) : EV (fun r => laws_markIntS.f r xs k) (k + xs.length, marks xs.length k) :=
  laws_markIntS_l0 xs [] k (by simp; omega) h2 (by omega)

theorem laws_markSurfaceS_l0 : ∀ (suf pre : List S49) (k : Int), pre.length + suf.length < 4611686018427387904 → 0 ≤ k → k + 3 * suf.length < 4611686018427387904 →
    EV (fun r => laws_markSurfaceS.l0 r (pre ++ suf) k (pre.length : Int)) (k + 3 * suf.length, pre ++ marksF suf.length k) := by
  intro suf
  induction suf with
  | nil =>
    intro pre k h1 h2 h3
    refine EV.step (fun r => by rw [laws_markSurfaceS.l0]) ?_
    exact EV.neg (by simp) ((EV.now _).eq (by simp [marksF]))
  | cons x suf ih =>
    intro pre k h1 h2 h3
    simp only [List.length_cons] at h1 h3
    refine EV.step (fun r => by rw [laws_markSurfaceS.l0]) ?_
    refine EV.pos (lt_app ..) (EV.pos (by omega) ?_)
    simp only [Option.bind_some]
    rw [set_app _ _ _ _ _ (by simp)]
    simp only [rdT_app]
    rw [set_app _ _ _ _ _ (by simp)]
    simp only [rdT_app]
    rw [set_app _ _ _ _ _ (by simp), w64 (x := k + 1) (by omega) (by omega), w64 (x := k + 1 + 1) (by omega) (by omega), w64 (x := k + 1 + 1 + 1) (by omega) (by omega), up (x := (⟨k, k + 1, k + 1 + 1⟩ : S49)) (by omega)]
    have := ih (pre ++ [⟨k, k + 1, k + 1 + 1⟩]) (k + 1 + 1 + 1) (by simp; omega) (by omega) (by omega)
    simp only [List.append_assoc, List.cons_append, List.nil_append] at this
    refine this.eq ?_
    rw [show k + 1 + 1 + 1 = k + 3 by omega, show k + 1 + 1 = k + 2 by omega]
    simp only [List.length_cons, marksF, Prod.mk.injEq, and_true]; omega
theorem laws_markSurfaceS_is (xs : List S49) (k : Int) (h1 : xs.length < 2305843009213693) (h2 : 0 ≤ k) (h3 : k < 2305843009213693952) : EV (fun r => laws_markSurfaceS.f r xs k) (k + 3 * xs.length, marksF xs.length k) :=
  laws_markSurfaceS_l0 xs [] k (by simp; omega) h2 (by omega)

theorem laws_heldSurfaceS_l0 : ∀ (n : Nat) (pre : List S49) (k : Int), pre.length + n < 4611686018427387904 → 0 ≤ k → k + 3 * n < 4611686018427387904 →
    EV (fun r => laws_heldSurfaceS.l0 r (pre ++ marksF n k) k (pre.length : Int)) (k + 3 * n) := by
  intro n
  induction n with
  | zero =>
    intro pre k h1 h2 h3
    refine EV.step (fun r => by rw [laws_heldSurfaceS.l0]) ?_
    exact EV.neg (by simp [marksF]) ((EV.now _).eq (by simp))
  | succ n ih =>
    intro pre k h1 h2 h3
    refine EV.step (fun r => by rw [laws_heldSurfaceS.l0]) ?_
    rw [marksF, rdT_app, w64 (x := k + 1) (by omega) (by omega), w64 (x := k + 1 + 1) (by omega) (by omega), w64 (x := k + 1 + 1 + 1) (by omega) (by omega)]
    refine EV.pos (lt_app ..) (EV.pos (by omega) (EV.pos rfl (EV.pos rfl (EV.pos (by show k + 2 = _; omega) ?_))))
    rw [up (x := (⟨k, k + 1, k + 2⟩ : S49)) (by omega)]
    have := ih (pre ++ [⟨k, k + 1, k + 2⟩]) (k + 3) (by simp; omega) (by omega) (by omega)
    simp only [List.append_assoc, List.cons_append, List.nil_append] at this
    rw [show k + 1 + 1 + 1 = k + 3 by omega]
    refine this.eq (by omega)
theorem laws_heldSurfaceS_is (n : Nat) (k : Int) (h1 : n < 2305843009213693) (h2 : 0 ≤ k) (h3 : k < 2305843009213693952) : EV (fun r => laws_heldSurfaceS.f r (marksF n k) k) (k + 3 * n) :=
  laws_heldSurfaceS_l0 n [] k (by simp; omega) h2 (by omega)

theorem laws_markIntSS_l0 : ∀ (suf pre : List (List Int)) (k : Int), pre.length + suf.length < 4611686018427387904 → 0 ≤ k → k + total suf < 2305843009213693952 →
    EV (fun r => laws_markIntSS.l0 r (pre ++ suf) k (pre.length : Int)) (k + total suf, pre ++ marksL suf k) := by
  intro suf
  induction suf with
  | nil =>
    intro pre k h1 h2 h3
    refine EV.step (fun r => by rw [laws_markIntSS.l0]) ?_
    exact EV.neg (by simp) ((EV.now _).eq (by simp [marksL, total]))
  | cons x suf ih =>
    intro pre k h1 h2 h3
    simp only [List.length_cons, total] at h1 h3
    refine EV.step (fun r => by rw [laws_markIntSS.l0]) ?_
    rw [rdL_app, up (x := x) (by omega)]
    refine EV.pos (lt_app ..) (EV.pos (by omega) (EV.bind (laws_markIntS_is x k (by omega) h2 (by omega)) ?_))
    rw [set_app _ _ _ _ _ (by simp)]
    have := ih (pre ++ [marks x.length k]) (k + x.length) (by simp; omega) (by omega) (by omega)
    simp only [List.append_assoc, List.cons_append, List.nil_append, List.length_append, List.length_cons, List.length_nil] at this
    refine EV.congr (fun r => ?_) (this.eq ?_)
    · simp
    · simp only [marksL, total]; congr 1; omega
theorem laws_markIntSS_is (xs : List (List Int)) (k : Int) (h1 : xs.length < 2305843009213693952) (h2 : 0 ≤ k) (h3 : k + total xs < 2305843009213693952) : EV (fun r => laws_markIntSS.f r xs k) (k + total xs, marksL xs k) :=
  laws_markIntSS_l0 xs [] k (by simp; omega) h2 h3

/-- the surface that covers by a part -/
def surfM (g : Int) (S : List Int) (cs : List (List Int)) : S49 := if g = 0 then ⟨(((2 + S.length - bN S cs) / 2 : Nat) : Int), 0, (bN S cs : Int)⟩ else ⟨1 + (S.length : Int) * (g - 1), 0, 0⟩
theorem bN_le (S : List Int) (cs : List (List Int)) : bN S cs ≤ cs.length := List.countP_le_length
theorem bN_cons (S : List Int) (c : List Int) (cs : List (List Int)) : (bN S (c :: cs) : Int) = (if S.contains (c.getD 0 0) = true then 1 else 0) + bN S cs := by
  unfold bN
  rw [List.countP_cons]
  split <;> omega
theorem spec_cover_in {g : Int} {parts cs acc : List _} {i : Nat} (hi : i < parts.length) (hS : (parts[i]).length ≤ 5) (hc : ∀ c ∈ cs, 0 < c.length) (hcl : cs.length ≤ 5) (ha : acc.length ≤ 5) (R : List S49 × Bool) : ∀ (n j : Nat) (b : Nat), j + n = cs.length → b ≤ j →
    EV (fun k => spec_CoverOf.l0 k g (acc ++ [⟨wrap64 (Int.tdiv (wrap64 (wrap64 (2 + ((parts[i]).length : Int)) - ((b + bN parts[i] (cs.drop j) : Nat) : Int))) 2), 0, ((b + bN parts[i] (cs.drop j) : Nat) : Int)⟩]) parts cs (wrap64 ((i : Int) + 1))) R →
    EV (fun k => spec_CoverOf.l1 k g acc parts cs (i : Int) ((parts[i]).length : Int) (j : Int) 0 0 (b : Int)) R := by
  intro n
  induction n with
  | zero =>
    intro j b hj hb H
    rw [List.drop_of_length_le (by omega)] at H
    refine EV.step (fun k => by rw [spec_CoverOf.l1]) ?_
    refine EV.neg (by omega) (EV.pos (by omega) ?_)
    simpa [bN] using H
  | succ n ih =>
    intro j b hj hb H
    have hlt : j < cs.length := by omega
    have pc := hc _ (List.getElem_mem hlt)
    rw [List.drop_eq_getElem_cons hlt] at H
    have hb1 := bN_cons parts[i] cs[j] (cs.drop (j + 1))
    refine EV.step (fun k => by rw [spec_CoverOf.l1]) ?_
    rw [rdL_nat _ _ hlt, rdL_nat _ _ hi, w64 (x := (j : Int) + 1) (by omega) (by omega)]
    refine EV.pos (by omega) (EV.pos (by omega) (EV.pos (by omega) (EV.pos (by omega) (EV.pos (by omega) (EV.bind (spec_l3Find2_is _ _ (by omega)) (EV.by (spec_l1Bit_is _) ?_))))))
    have e0 : rd cs[j] 0 = cs[j].getD 0 0 := rfl
    rw [e0]
    by_cases hm : parts[i].contains (cs[j].getD 0 0) = true
    · rw [if_pos hm] at hb1 ⊢
      rw [w64 (x := (b : Int) + 1) (by omega) (by omega)]
      have := ih (j + 1) (b + 1) (by omega) (by omega) (by rw [show b + 1 + bN parts[i] (cs.drop (j + 1)) = b + bN parts[i] (cs[j] :: cs.drop (j + 1)) by omega]; exact H)
      exact_mod_cast this
    · rw [if_neg hm] at hb1 ⊢
      rw [w64 (x := (b : Int) + 0) (by omega) (by omega), Int.add_zero]
      have := ih (j + 1) b (by omega) (by omega) (by rw [show b + bN parts[i] (cs.drop (j + 1)) = b + bN parts[i] (cs[j] :: cs.drop (j + 1)) by omega]; exact H)
      exact_mod_cast this
theorem impl_cover_in {g : Int} {l parts cs : List (List Int)} {acc : List S49} {i : Nat} {S : List Int} (hS : S.length ≤ 5) (hc : ∀ c ∈ cs, 0 < c.length) (hcl : cs.length ≤ 5) (e N : Int) (R : List S49 × Bool) : ∀ (n j : Nat) (b : Nat), j + n = cs.length → b ≤ j →
    EV (fun k => impl_CoverOf.l1 k g l acc S e ((b + bN S (cs.drop j) : Nat) : Int) parts N (i : Int) cs (cs.length : Int) (cs.length : Int)) R →
    EV (fun k => impl_CoverOf.l1 k g l acc S e (b : Int) parts N (i : Int) cs (cs.length : Int) (j : Int)) R := by
  intro n
  induction n with
  | zero =>
    intro j b hj hb H
    rw [List.drop_of_length_le (by omega)] at H
    have e : j = cs.length := by omega
    subst e
    simpa [bN] using H
  | succ n ih =>
    intro j b hj hb H
    have hlt : j < cs.length := by omega
    have pc := hc _ (List.getElem_mem hlt)
    rw [List.drop_eq_getElem_cons hlt] at H
    have hb1 := bN_cons S cs[j] (cs.drop (j + 1))
    obtain ⟨x, x1, x2⟩ := impl_indexOf_is S (rd cs[j] 0) (by omega)
    refine EV.step (fun k => by rw [impl_CoverOf.l1]) ?_
    rw [rdL_nat _ _ hlt, w64 (x := (j : Int) + 1) (by omega) (by omega)]
    refine EV.pos (by omega) (EV.pos (by omega) (EV.pos (by omega) (EV.pos (by omega) (EV.bind x1 ?_))))
    have e0 : rd cs[j] 0 = cs[j].getD 0 0 := rfl
    rw [e0] at x2
    by_cases hm : S.contains (cs[j].getD 0 0) = true
    · rw [if_pos hm] at hb1
      rw [w64 (x := (b : Int) + 1) (by omega) (by omega)]
      have := ih (j + 1) (b + 1) (by omega) (by omega) (by rw [show b + 1 + bN S (cs.drop (j + 1)) = b + bN S (cs[j] :: cs.drop (j + 1)) by omega]; exact H)
      exact EV.pos (x2.2 hm) (by exact_mod_cast this)
    · rw [if_neg hm] at hb1
      have := ih (j + 1) b (by omega) (by omega) (by rw [show b + bN S (cs.drop (j + 1)) = b + bN S (cs[j] :: cs.drop (j + 1)) by omega]; exact H)
      exact EV.neg (fun h => hm (x2.1 h)) (by exact_mod_cast this)
theorem cover_both {g : Int} (hg : 0 ≤ g ∧ g ≤ 2) {l parts cs w : List _} (hp : parts.length ≤ 5) (hS : ∀ S ∈ parts, S.length ≤ 5) (hc : ∀ c ∈ cs, 0 < c.length) (hcl : cs.length ≤ 5)
    (h0 : g = 0 → ∀ S ∈ parts, (S.length + bN S cs) % 2 = 0 ∧ bN S cs ≤ S.length)
    (hw : EV (fun k => impl_act.f k l [1, 2, -1, -2]) w) (hcy : EV (fun k => impl_cycles.f k w) cs) : ∀ (n i : Nat) (acc : List S49), i + n = parts.length → acc.length = i →
    EV (fun k => spec_CoverOf.l0 k g acc parts cs (i : Int)) (acc ++ (parts.drop i).map (fun S => surfM g S cs), true) ∧
    EV (fun k => impl_CoverOf.l0 k g l acc parts (parts.length : Int) (i : Int)) (acc ++ (parts.drop i).map (fun S => surfM g S cs), true) := by
  intro n
  induction n with
  | zero =>
    intro i acc hi ha
    rw [List.drop_of_length_le (by omega)]
    refine ⟨?_, ?_⟩
    · refine EV.step (fun k => by rw [spec_CoverOf.l0]) ?_
      exact EV.neg (by omega) ((EV.now _).eq (by simp))
    · refine EV.step (fun k => by rw [impl_CoverOf.l0]) ?_
      exact EV.neg (by omega) ((EV.now _).eq (by simp))
  | succ n ih =>
    intro i acc hi ha
    have hlt : i < parts.length := by omega
    have mS := List.getElem_mem hlt
    have sz := hS _ mS
    have bl := bN_le parts[i] cs
    obtain ⟨h1, h2⟩ := ih (i + 1) (acc ++ [surfM g parts[i] cs]) (by omega) (by simp [ha])
    have er : acc ++ (parts.drop i).map (fun S => surfM g S cs) = acc ++ [surfM g parts[i] cs] ++ (parts.drop (i + 1)).map (fun S => surfM g S cs) := by
      rw [List.drop_eq_getElem_cons hlt, List.map_cons, List.append_assoc]; rfl
    rw [er]
    by_cases z : g = 0
    · have par := h0 z _ mS
      obtain ⟨q, hq⟩ : ∃ q : Nat, 2 + parts[i].length = 2 * q + bN parts[i] cs := ⟨(2 + parts[i].length - bN parts[i] cs) / 2, by omega⟩
      have es : surfM g parts[i] cs = ⟨(q : Int), 0, (bN parts[i] cs : Int)⟩ := by
        unfold surfM; rw [if_pos z, show (2 + parts[i].length - bN parts[i] cs) / 2 = q by omega]
      rw [es] at h1 h2 ⊢
      refine ⟨?_, ?_⟩
      · refine EV.step (fun k => by rw [spec_CoverOf.l0]) ?_
        rw [rdL_nat _ _ hlt]
        refine EV.pos (by omega) (EV.pos (by omega) (EV.pos z ?_))
        refine spec_cover_in hlt sz hc hcl (by omega) _ cs.length 0 0 (by omega) (by omega) ?_
        simp only [List.drop_zero, Nat.zero_add]
        rw [w64 (x := 2 + (parts[i].length : Int)) (by omega) (by omega), w64 (x := 2 + (parts[i].length : Int) - (bN parts[i] cs : Int)) (by omega) (by omega), show Int.tdiv (2 + (parts[i].length : Int) - (bN parts[i] cs : Int)) 2 = (q : Int) by
          rw [Int.tdiv_eq_ediv_of_nonneg (by omega)]; omega]
        rw [w64 (x := (q : Int)) (by omega) (by omega), w64 (x := (i : Int) + 1) (by omega) (by omega)]
        exact_mod_cast h1
      · refine EV.step (fun k => by rw [impl_CoverOf.l0]) ?_
        rw [rdL_nat _ _ hlt]
        refine EV.pos (by omega) (EV.pos (by omega) (EV.pos (by omega) (EV.pos z (EV.by (impl_relator_is _) ?_))))
        rw [if_pos rfl]
        refine EV.bind hw (EV.bind hcy ?_)
        refine impl_cover_in sz hc hcl _ _ _ cs.length 0 0 (by omega) (by omega) ?_
        simp only [List.drop_zero, Nat.zero_add]
        refine EV.step (fun k => by rw [impl_CoverOf.l1]) ?_
        refine EV.neg (by omega) ?_
        rw [w64 (x := -(parts[i].length : Int)) (by omega) (by omega), w64 (x := (i : Int) + 1) (by omega) (by omega)]
        refine EV.by (impl_surf_b q (bN parts[i] cs) (by omega) (by omega) _ (by omega)) ?_
        exact EV.pos rfl (EV.pos (by omega) (by exact_mod_cast h2))
    · have es : surfM g parts[i] cs = ⟨1 + (parts[i].length : Int) * (g - 1), 0, 0⟩ := by
        unfold surfM; rw [if_neg z]
      rw [es] at h1 h2 ⊢
      have hq : ∃ q : Nat, 1 + (parts[i].length : Int) * (g - 1) = (q : Int) ∧ q ≤ 20 ∧ (parts[i].length : Int) * (2 - 2 * g) = 2 - 2 * (q : Int) ∧ (parts[i].length : Int) * (g - 1) = (q : Int) - 1 := by
        rcases (by omega : g = 1 ∨ g = 2) with rfl | rfl
        · exact ⟨1, by omega, by omega, by omega, by omega⟩
        · exact ⟨1 + parts[i].length, by omega, by omega, by omega, by omega⟩
      obtain ⟨q, q1, q2, q3, q4⟩ := hq
      rw [q1] at h1 h2 ⊢
      refine ⟨?_, ?_⟩
      · refine EV.step (fun k => by rw [spec_CoverOf.l0]) ?_
        rw [rdL_nat _ _ hlt]
        refine EV.pos (by omega) (EV.pos (by omega) (EV.neg z (EV.pos (by omega) ?_)))
        rw [w64 (x := g - 1) (by omega) (by omega), q4, w64 (x := (q : Int) - 1) (by omega) (by omega), w64 (x := 1 + ((q : Int) - 1)) (by omega) (by omega), show 1 + ((q : Int) - 1) = q by omega, w64 (x := (i : Int) + 1) (by omega) (by omega)]
        exact_mod_cast h1
      · refine EV.step (fun k => by rw [impl_CoverOf.l0]) ?_
        rw [rdL_nat _ _ hlt]
        refine EV.pos (by omega) (EV.pos (by omega) (EV.pos (by omega) (EV.neg z ?_)))
        rw [w64 (x := 2 * g) (by omega) (by omega), w64 (x := 2 - 2 * g) (by omega) (by omega), q3, w64 (x := 2 - 2 * (q : Int)) (by omega) (by omega), w64 (x := (i : Int) + 1) (by omega) (by omega)]
        refine EV.by (impl_surf_b q 0 (by omega) (by omega) _ (by omega)) ?_
        exact EV.pos rfl (EV.pos (by omega) (by exact_mod_cast h2))
set_option synthInstance.maxHeartbeats 2000000 in
set_option synthInstance.maxSize 4000 in
theorem cyc_pos {n : Nat} {p : List Int} (h : permN n p) (h1 : 1 ≤ n) (h5 : n ≤ 5) : ∃ c, EV (fun k => spec_l6Cycles.f k p) c ∧ EV (fun k => impl_cycles.f k p) c ∧ c.length ≤ 5 ∧ ∀ r ∈ c, 0 < r.length := by
  have := perm_all (fun p => ((impl_cycles.f 40 p).map fun c => c.all fun r => decide (0 < r.length)) == some true) (by decide +kernel) (by decide +kernel) (by decide +kernel) (by decide +kernel) (by decide +kernel) h.2 (by have := h.1; omega) (by have := h.1; omega)
  rw [beq_iff_eq] at this
  obtain ⟨c, c1, c2, c3⟩ := cyc_is h.2 (by have := h.1; omega) (by have := h.1; omega)
  rcases hx : impl_cycles.f 40 p with _ | c'
  · rw [hx] at this; cases this
  · rw [hx] at this
    have e := EV.uniq c2 (EV.mono (impl_cycles.mono p) hx)
    subst e
    refine ⟨c, c1, c2, c3, fun r hr => ?_⟩
    simp only [Option.map_some, Option.some.injEq, List.all_eq_true, decide_eq_true_eq] at this
    exact this r hr
theorem cov_par {l : List (List Int)} (hs : sheetsB l = true) (h2 : l.length = 2) {cs : List (List Int)} (hc : EV (fun k => impl_cycles.f k (actL l (relM 1))) cs) : ∀ S ∈ partsM l, (S.length + bN S cs) % 2 = 0 ∧ bN S cs ≤ S.length := by
  have s := sheetsB_of hs
  obtain ⟨p, q, rfl⟩ : ∃ p q, l = [p, q] := by
    match l, h2 with
    | [p, q], _ => exact ⟨p, q, rfl⟩
  have := cov_pair (s.2.2.2 p (by simp)) (s.2.2.2 q (by simp)) s.2.1 s.2.2.1
  unfold covOk at this
  rcases hx : impl_cycles.f 40 (actL [p, q] (relM 1)) with _ | c'
  · rw [hx] at this; cases this
  · rw [hx] at this
    have e := EV.uniq hc (EV.mono (impl_cycles.mono _) hx)
    subst e
    intro S hS
    simp only [List.all_eq_true, Bool.and_eq_true, beq_iff_eq] at this
    exact ⟨(this S hS).1, Nat.le_of_ble_eq_true (this S hS).2⟩
theorem both (g : Int) (wg : (Lit.int .i64 g).wf = true) (t : List (List Int)) (ht : ∀ r ∈ t, r.length ≤ maxLen ∧ ∀ x ∈ r, (Lit.int .i64 x).wf = true) (n : t.length + total t ≤ 1048576) :
    ∃ (R : List S49) (b : Bool), EV (fun k => spec_CoverOf.f k g t) (R, b) ∧ EV (fun k => impl_CoverOf.f k g t) (R, b) ∧ R.length ≤ 5 := by
  have h1 : ∀ r ∈ t, r.length < 4294967296 := fun r hr => by have := total_mem hr; omega
  have A := spec_IsAction_is g t (by omega) h1
  have B := impl_IsAction_is g t (by omega) h1
  by_cases h : actionB g t = true
  · have hp := h
    simp only [actionB, Bool.and_eq_true, decide_eq_true_iff] at hp
    obtain ⟨hg, hl, hs, -⟩ := hp
    have s := sheetsB_of hs
    have m := mxM_of hg
    have hl2 : 2 ≤ t.length ∧ t.length ≤ 4 := by omega
    have hpb : permsB t = true := by simp only [permsB, hs, Bool.true_and, decide_eq_true_iff]; omega
    have hok : wordOk t (relM 1) = true := by
      simp only [wordOk, wordB, relM, letterB, leB, List.all_cons, List.all_nil, if_true, Bool.and_eq_true, decide_eq_true_iff]
      simp; omega
    have eM : actM t (relM 1) = actL t (relM 1) := by unfold actM; rw [if_pos ⟨hpb, hok⟩]
    have P1 := spec_l9Parts_is hs (by omega)
    have P2 := impl_parts_is hs (by omega)
    have z := partsM_sz hs
    have W1 := spec_ActWord_is t (relM 1) (by omega) h1 (by simp [relM])
    rw [eM] at W1
    have W2 := impl_act_is t (relM 1) hs (letters_of hok).1 (by simp [relM])
    obtain ⟨cs, c1, c2, c5, cp⟩ := cyc_pos (perm_actL hs (letters_of hok).1) s.2.1 s.2.2.1
    have par : g = 0 → ∀ S ∈ partsM t, (S.length + bN S cs) % 2 = 0 ∧ bN S cs ≤ S.length := fun e => cov_par hs (by omega) c2
    obtain ⟨h3, h4⟩ := cover_both hg (l := t) z.1 z.2 cp c5 par W2 c2 (partsM t).length 0 [] (by omega) rfl
    refine ⟨_, true, EV.bind A (EV.pos h (EV.bind P1 (EV.by (spec_Relator_is 1) (EV.bind W1 (EV.bind c1 h3))))), EV.bind B (EV.pos h (EV.bind P2 h4)), ?_⟩
    simp [z.1]
  · exact ⟨[], false, EV.bind A (EV.neg h (EV.now _)), EV.bind B (EV.neg h (EV.now _)), by simp⟩

/-- what the walk asks, out of what the two functions answer -/
theorem FnExactCoverOf (a0 : Int) (w0 : (Lit.int .i64 a0).wf = true) (l1 : List (List Int)) (x1 : l1.length ≤ maxLen) (w1 : ∀ r ∈ l1, r.length ≤ maxLen ∧ ∀ x ∈ r, (Lit.int .i64 x).wf = true) : ∃ k, Facts k a0 l1 := by
  have e0 := laws_szIntSS_is l1 (1048576) (by omega) (by omega) (by unfold maxLen at x1; omega) (fun r hr => by have := (w1 r hr).1; unfold maxLen at this; omega)
  unfold szM at e0
  by_cases g0 : ((l1.length : Int) + total l1 ≤ 1048576)
  rotate_left
  · rw [if_neg g0] at e0
    exact (Evt.imp (Evt.and (e0.evt) (Evt.const (show (-1 : Int) < 0 by omega))) (fun k h => Or.inl (⟨_, h⟩))).rounds
  rw [if_pos g0] at e0
  have n0 : l1.length + total l1 ≤ 1048576 := by omega
  have r0 : ∀ r ∈ l1, r.length ≤ 1048576 := fun r hr => by have := total_mem hr; omega
  obtain ⟨R, b, S, I, hR⟩ := both a0 w0 l1 w1 n0
  exact (Evt.imp (Evt.and (e0.evt) (Evt.and (Evt.const (show (0 : Int) ≤ (1048576 - l1.length - total l1) by omega)) (Evt.and ((laws_toIntSS_is l1 (by omega) r0).evt) (Evt.and (S.evt) (Evt.and (I.evt) (Evt.and ((laws_eqSurfaceS_self R (by omega)).evt) (Evt.and ((laws_eqIntSS_self l1 (by omega) (fun r hr => by have := r0 r hr; omega)).evt) (Evt.and ((laws_markIntSS_is l1 1 (by omega) (by omega) (by omega)).evt) (Evt.and (Evt.const (show (0 : Int) ≤ (1 + total l1) by omega)) (Evt.and ((laws_markSurfaceS_is R 1 (by omega) (by omega) (by omega)).evt) (Evt.and ((laws_heldSurfaceS_is R.length 1 (by omega) (by omega) (by omega)).evt) (Evt.const (show (0 : Int) ≤ (1 + 3 * R.length) by omega))))))))))))) (fun k h => Or.inr (⟨_, R, b, ((1 + total l1)), (marksL l1 1), ((1 + 3 * R.length)), (marksF R.length 1), h⟩))).rounds

end Go.Proofs.Ytlbjgdkmkdpopaa.Pure
