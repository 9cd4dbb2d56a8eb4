/- Pure side of FnExactCountCovers: the printed functions of the program and of the reference answer alike at every input that the statement takes; no condition beyond the printed statement's bounds. -/
import Derived.Test.YtlbjgdkmkdpopaaPFnExactCountCoversx11
import Derived.Test.YtlbjgdkmkdpopaaWSized
set_option linter.unusedVariables false
set_option linter.unusedSimpArgs false
set_option linter.unnecessarySimpa false
set_option maxRecDepth 10000
/-- the printed row calls the print's word by this name -/
abbrev Go.Proofs.Ytlbjgdkmkdpopaa.PrintWords.sized_ints := @Go.Proofs.YtlbjgdkmkdpopaaW.PrintWords.sized_ints
namespace Go.Proofs.Ytlbjgdkmkdpopaa.Pure
open Go.RowKit Go.Proofs.Ytlbjgdkmkdpopaa.PFnExactCountCovers Go.Proofs.YtlbjgdkmkdpopaaW.PrintWords Go.Proofs.YtlbjgdkmkdpopaaW.PrintLast Go.Proofs.YtlbjgdkmkdpopaaW.PrintMore

/-! ### Base: words of our own, of no program -/
section
theorem w64 {x : Int} (h1 : -9223372036854775808 ≤ x) (h2 : x ≤ 9223372036854775807) : wrap64 x = x := by
  unfold wrap64; omega
/-- from some number of rounds on it answers r -/
structure EV {α : Type} (g : Nat → Option α) (r : α) : Prop where mk :: (out : ∃ K, ∀ k, K ≤ k → g k = some r)
theorem EV.now {α : Type} (r : α) : EV (fun _ => some r) r := ⟨0, fun _ _ => rfl⟩
theorem EV.rounds {α : Type} {g : Nat → Option α} {r : α} (h : EV g r) : ∃ k, g k = some r := by
  obtain ⟨K, h⟩ := h
  exact ⟨K, h K (Nat.le_refl _)⟩
theorem EV.bind {α β : Type} {g : Nat → Option α} {f : Nat → α → Option β} {a : α} {r : β} (h : EV g a) (k : EV (fun n => f n a) r) : EV (fun n => (g n).bind (f n)) r := by
  obtain ⟨K, h⟩ := h
  obtain ⟨K', k⟩ := k
  refine ⟨max K K', fun n hn => ?_⟩
  have h1 := h n (by omega)
  have h2 := k n (by omega)
  simp only [h1, Option.bind_some]
  exact h2
theorem EV.step {α : Type} {g f : Nat → Option α} {r : α} (h : ∀ k, g (k + 1) = f k) (k : EV f r) : EV g r := by
  obtain ⟨K, k⟩ := k
  refine ⟨K + 1, fun n hn => ?_⟩
  obtain ⟨m, rfl⟩ : ∃ m, n = m + 1 := ⟨n - 1, by omega⟩
  rw [h]
  exact k m (by omega)
theorem EV.congr {α : Type} {g f : Nat → Option α} {r : α} (h : ∀ k, g k = f k) (k : EV f r) : EV g r := by
  obtain ⟨K, k⟩ := k
  exact ⟨K, fun n hn => (h n).trans (k n hn)⟩
theorem EV.pos {α : Type} {c : Prop} [Decidable c] {a b : Nat → Option α} {r : α} (h : c) (k : EV a r) : EV (fun n => if c then a n else b n) r :=
  EV.congr (fun n => if_pos h) k
theorem EV.neg {α : Type} {c : Prop} [Decidable c] {a b : Nat → Option α} {r : α} (h : ¬ c) (k : EV b r) : EV (fun n => if c then a n else b n) r :=
  EV.congr (fun n => if_neg h) k
theorem EV.cases {α : Type} {c : Prop} [Decidable c] {a b : Nat → Option α} {r : α} (h : c → EV a r) (h' : ¬ c → EV b r) : EV (fun n => if c then a n else b n) r := by
  by_cases hc : c
  · exact EV.pos hc (h hc)
  · exact EV.neg hc (h' hc)
/-- a callee without rounds -/
theorem EV.by {α β : Type} {g : Option α} {f : Nat → α → Option β} {a : α} {r : β} (h : g = some a) (k : EV (fun n => f n a) r) : EV (fun n => g.bind (f n)) r := by
  subst h; exact k
theorem EV.is {α : Type} {g : Option α} {r : α} (h : g = some r) : EV (fun _ => g) r := ⟨0, fun _ _ => h⟩
theorem EV.eq {α : Type} {g : Nat → Option α} {r r' : α} (h : EV g r) (e : r = r') : EV g r' := e ▸ h
theorem rd_app (pre : List Int) (x : Int) (suf : List Int) : rd (pre ++ x :: suf) (pre.length : Int) = x := by
  simp [rd]
theorem rd_nat (xs : List Int) (i : Nat) (h : i < xs.length) : rd xs (i : Int) = xs[i] := by
  simp [rd, h]
end
/-- one index on -/
theorem up {α : Type} {x : α} {pre : List α} (h : pre.length < 4611686018427387904) : wrap64 ((pre.length : Int) + 1) = ((pre ++ [x]).length : Int) := by
  rw [w64 (by omega) (by omega)]; simp
theorem lt_app {α : Type} (pre : List α) (x : α) (suf : List α) : (pre.length : Int) < ((pre ++ x :: suf).length : Int) := by simp; omega
/-- from some number of rounds on -/
def Evt (P : Nat → Prop) : Prop := ∃ K, ∀ k, K ≤ k → P k
theorem Evt.rounds {P : Nat → Prop} (h : Evt P) : ∃ k, P k := by
  obtain ⟨K, h⟩ := h
  exact ⟨K, h K (Nat.le_refl _)⟩
theorem EV.mono {α : Type} {g : Nat → Option α} (hg : ∀ k, LeO (g k) (g (k + 1))) {k : Nat} {r : α} (h : g k = some r) : EV g r := ⟨k, fun _ hk => at_rounds hg hk h⟩

theorem spec_l1In_is (a b c : Int) : spec_l1In.f a b c = some (decide (b ≤ a ∧ a ≤ c)) := by
  unfold spec_l1In.f
  by_cases h : a ≥ b
  · rw [if_pos h]; simp [show b ≤ a from h]
  · rw [if_neg h]; simp; omega

theorem spec_l1Bit_is (b : Bool) : spec_l1Bit.f b = some (if b = true then 1 else 0) := by
  cases b <;> rfl

theorem rdL_nat (xs : List (List Int)) (i : Nat) (h : i < xs.length) : rd_L1 xs (i : Int) = xs[i] := by
  simp [rd_L1, h]

/-- a loop that looks at each member and answers early, or goes on -/
theorem EV.scan {α : Type} {g : Nat → Int → Option Bool} (xs : List α) (p : α → Bool) (fin : Bool)
    (hs : ∀ (i : Nat) (h : i < xs.length) (r : Bool), (p xs[i] = true → EV (fun k => g k ((i : Int) + 1)) r) → (p xs[i] = false → r = false) → EV (fun k => g k (i : Int)) r)
    (hf : EV (fun k => g k (xs.length : Int)) fin) : EV (fun k => g k 0) (xs.all p && fin) := by
  suffices h : ∀ (n i : Nat), i + n = xs.length → EV (fun k => g k (i : Int)) ((xs.drop i).all p && fin) by
    have := h xs.length 0 (by omega)
    simpa using this
  intro n
  induction n with
  | zero =>
    intro i hi
    have e : i = xs.length := by omega
    subst e
    simpa using hf
  | succ n ih =>
    intro i hi
    have hlt : i < xs.length := by omega
    have e : xs.drop i = xs[i] :: xs.drop (i + 1) := List.drop_eq_getElem_cons hlt
    rw [e, List.all_cons]
    refine hs i hlt _ (fun hp => ?_) (fun hp => by simp [hp])
    rw [hp, Bool.true_and]
    exact_mod_cast ih (i + 1) (by omega)
/-- a fold over the members -/
theorem EV.fold {α σ ρ : Type} {g : Nat → σ → Int → Option ρ} (xs : List α) (f : σ → α → σ) (fin : σ → ρ) (I : Nat → σ → Prop)
    (hs : ∀ (i : Nat) (h : i < xs.length) (s : σ) (r : ρ), I i s → (I (i + 1) (f s xs[i]) → EV (fun k => g k (f s xs[i]) ((i : Int) + 1)) r) → EV (fun k => g k s (i : Int)) r)
    (hf : ∀ s, I xs.length s → EV (fun k => g k s (xs.length : Int)) (fin s)) : ∀ s, I 0 s → EV (fun k => g k s 0) (fin (xs.foldl f s)) := by
  suffices h : ∀ (n i : Nat), i + n = xs.length → ∀ s, I i s → EV (fun k => g k s (i : Int)) (fin ((xs.drop i).foldl f s)) by
    intro s hI
    have := h xs.length 0 (by omega) s hI
    simpa using this
  intro n
  induction n with
  | zero =>
    intro i hi s hI
    have e : i = xs.length := by omega
    subst e
    simpa using hf s hI
  | succ n ih =>
    intro i hi s hI
    have hlt : i < xs.length := by omega
    have e : xs.drop i = xs[i] :: xs.drop (i + 1) := List.drop_eq_getElem_cons hlt
    rw [e, List.foldl_cons]
    refine hs i hlt s _ hI (fun hI' => ?_)
    exact_mod_cast ih (i + 1) (by omega) _ hI'
/-- counting up to n, the state told by the count -/
theorem EV.count {σ ρ : Type} {g : Nat → σ → Int → Option ρ} (n : Nat) (f : Nat → σ) (r : ρ)
    (hs : ∀ i, i < n → EV (fun k => g k (f (i + 1)) ((i : Int) + 1)) r → EV (fun k => g k (f i) (i : Int)) r)
    (hf : EV (fun k => g k (f n) (n : Int)) r) : EV (fun k => g k (f 0) 0) r := by
  suffices h : ∀ (m i : Nat), i + m = n → EV (fun k => g k (f i) (i : Int)) r by exact h n 0 (by omega)
  intro m
  induction m with
  | zero => intro i hi; have : i = n := by omega
            subst this; exact hf
  | succ m ih => intro i hi; exact hs i (by omega) (by exact_mod_cast ih (i + 1) (by omega))
/-- counting up to n with an early answer -/
theorem EV.countB {g : Nat → Int → Option Bool} (n : Nat) (p : Nat → Bool) (fin : Bool)
    (hs : ∀ (i : Nat) (h : i < n) (r : Bool), (p i = true → EV (fun k => g k ((i : Int) + 1)) r) → (p i = false → r = false) → EV (fun k => g k (i : Int)) r)
    (hf : EV (fun k => g k (n : Int)) fin) : EV (fun k => g k 0) ((List.range n).all p && fin) := by
  refine EV.scan (List.range n) p fin (fun i h r H1 H2 => ?_) (by rw [List.length_range]; exact hf)
  rw [List.getElem_range] at H1 H2
  exact hs i (by simpa using h) r H1 H2
/-- counting up to n with an early answer, into what comes behind -/
theorem EV.countC {ρ : Type} {g : Nat → Int → Option ρ} (n : Nat) (p : Nat → Bool) (r early : ρ)
    (hs : ∀ i, i < n → (p i = true → EV (fun k => g k ((i : Int) + 1)) r) → (p i = false → r = early) → EV (fun k => g k (i : Int)) r)
    (hf : (List.range n).all p = true → EV (fun k => g k (n : Int)) r) (he : (List.range n).all p = false → r = early) : EV (fun k => g k 0) r := by
  suffices h : ∀ (m i : Nat), i + m = n → (∀ j, j < i → p j = true) → EV (fun k => g k (i : Int)) r by exact h n 0 (by omega) (fun j hj => by omega)
  intro m
  induction m with
  | zero =>
    intro i hi ha
    have : i = n := by omega
    subst this
    exact hf (by rw [List.all_eq_true]; intro x hx; exact ha x (List.mem_range.1 hx))
  | succ m ih =>
    intro i hi ha
    refine hs i (by omega) (fun hp => ?_) (fun hp => he ?_)
    · have := ih (i + 1) (by omega) (fun j hj => by
        by_cases e : j = i
        · rw [e]; exact hp
        · exact ha j (by omega))
      exact_mod_cast this
    · rw [List.all_eq_false]
      exact ⟨i, List.mem_range.2 (by omega), by simp [hp]⟩
/-- looking at each member with an early answer, into what comes behind -/
theorem EV.scanC {α ρ : Type} {g : Nat → Int → Option ρ} (xs : List α) (p : α → Bool) (r early : ρ)
    (hs : ∀ (i : Nat) (h : i < xs.length), (p xs[i] = true → EV (fun k => g k ((i : Int) + 1)) r) → (p xs[i] = false → r = early) → EV (fun k => g k (i : Int)) r)
    (hf : xs.all p = true → EV (fun k => g k (xs.length : Int)) r) (he : xs.all p = false → r = early) : EV (fun k => g k 0) r := by
  have e : xs.all p = (List.range xs.length).all (fun i => (xs[i]?.map p).getD true) := by
    rw [Bool.eq_iff_iff, List.all_eq_true, List.all_eq_true]
    constructor
    · intro h i hi
      have := List.mem_range.1 hi
      simpa [this] using h _ (List.getElem_mem this)
    · intro h x hx
      obtain ⟨i, hi, rfl⟩ := List.mem_iff_getElem.1 hx
      have := h i (List.mem_range.2 hi)
      simpa [hi] using this
  rw [e] at hf he
  refine EV.countC xs.length _ r early (fun i hi H1 H2 => ?_) hf he
  exact hs i hi (fun h => H1 (by simpa [hi] using h)) (fun h => H2 (by simpa [hi] using h))
theorem wrap_1 : wrap64 1 = 1 := w64 (by omega) (by omega)
/-- a fold over the members, into what comes behind -/
theorem EV.foldC {α σ ρ : Type} {g : Nat → σ → Int → Option ρ} (xs : List α) (f : σ → α → σ) (I : Nat → σ → Prop) (r : ρ)
    (hs : ∀ (i : Nat) (h : i < xs.length) (s : σ), I i s → (I (i + 1) (f s xs[i]) → EV (fun k => g k (f s xs[i]) ((i : Int) + 1)) r) → EV (fun k => g k s (i : Int)) r)
    (s : σ) (hI : I 0 s) (hf : I xs.length (xs.foldl f s) → EV (fun k => g k (xs.foldl f s) (xs.length : Int)) r) : EV (fun k => g k s 0) r := by
  suffices h : ∀ (n i : Nat), i + n = xs.length → ∀ s, I i s → (I xs.length ((xs.drop i).foldl f s) → EV (fun k => g k ((xs.drop i).foldl f s) (xs.length : Int)) r) → EV (fun k => g k s (i : Int)) r by
    have := h xs.length 0 (by omega) s hI (by simpa using hf)
    simpa using this
  intro n
  induction n with
  | zero =>
    intro i hi s hI hf
    have e : i = xs.length := by omega
    subst e
    simpa using hf (by simpa using hI)
  | succ n ih =>
    intro i hi s hI hf
    have hlt : i < xs.length := by omega
    have e : xs.drop i = xs[i] :: xs.drop (i + 1) := List.drop_eq_getElem_cons hlt
    rw [e, List.foldl_cons] at hf
    refine hs i hlt s hI (fun hI' => ?_)
    exact_mod_cast ih (i + 1) (by omega) _ hI' hf

def letterB (x : Int) : Bool := decide (-8 ≤ x ∧ x ≤ 8 ∧ x ≠ 0)
def wordB (xs : List Int) : Bool := xs.all letterB && decide (xs.length ≤ 24)
theorem letterB_of {x : Int} (h : letterB x = true) : -8 ≤ x ∧ x ≤ 8 ∧ x ≠ 0 := by simpa [letterB] using h
theorem wordB_of {xs : List Int} (h : wordB xs = true) : (∀ x ∈ xs, letterB x = true) ∧ xs.length ≤ 24 := by simpa [wordB] using h
def leB (m : Int) (x : Int) : Bool := decide ((x.natAbs : Int) ≤ m)
theorem all_getElem {α : Type} {p : α → Bool} {xs : List α} (h : ∀ x ∈ xs, p x = true) (i : Nat) (hi : i < xs.length) : p xs[i] = true := h _ (List.getElem_mem hi)
/-- a table, changed at one place -/
theorem tab_set {α : Type} (n : Nat) (f : Nat → α) (a : Nat) (y : α) : ((List.range n).map f).set a y = (List.range n).map fun v => if v = a then y else f v := by
  apply List.ext_getElem
  · simp
  · intro i h1 h2
    rw [List.getElem_set]
    simp only [List.getElem_map, List.getElem_range]
    by_cases h : a = i
    · rw [if_pos h, if_pos h.symm]
    · rw [if_neg h, if_neg (fun e => h e.symm)]
def inB (n : Nat) (x : Int) : Bool := decide (0 ≤ x ∧ x < n)
def permB (p : List Int) : Bool := p.all (inB p.length) && decide p.Nodup
def seenM (n : Nat) (pre : List Int) : List Bool := (List.range n).map fun i : Nat => decide ((i : Int) ∈ pre)
theorem rdOf_tab {α : Type} (d : α) (n : Nat) (f : Nat → α) (a : Int) (h0 : 0 ≤ a) (h : a < n) : rdOf d ((List.range n).map f) a = f a.toNat := by
  have : a.toNat < n := by omega
  simp [rdOf, this]
theorem seenM_snoc (n : Nat) (pre : List Int) (x : Int) (h0 : 0 ≤ x) : (seenM n pre).set x.toNat true = seenM n (pre ++ [x]) := by
  unfold seenM
  rw [tab_set]
  apply List.map_congr_left
  intro i hi
  by_cases h : i = x.toNat
  · rw [if_pos h, decide_eq_true]; rw [List.mem_append, List.mem_singleton]; right; omega
  · rw [if_neg h]
    congr 1
    rw [List.mem_append, List.mem_singleton]
    have : ¬ (i : Int) = x := by omega
    simp [this]
theorem seenM_nil (n : Nat) : seenM n [] = List.replicate n false := by
  apply List.ext_getElem
  · simp [seenM]
  · intro i h1 h2
    simp [seenM]
theorem inB_of {n : Nat} {x : Int} (h : inB n x = true) : 0 ≤ x ∧ x < n := by simpa [inB] using h
theorem permB_of {p : List Int} (h : permB p = true) : (∀ x ∈ p, 0 ≤ x ∧ x < p.length) ∧ p.Nodup := by
  simp only [permB, Bool.and_eq_true, List.all_eq_true, decide_eq_true_iff] at h
  exact ⟨fun x hx => inB_of (h.1 x hx), h.2⟩
/-- how many sheets -/
def d0 (l : List (List Int)) : Nat := (l.getD 0 []).length
def sheetB (n : Nat) (r : List Int) : Bool := decide (r.length = n) && permB r
def sheetsB (l : List (List Int)) : Bool := decide (0 < l.length) && (decide (1 ≤ d0 l ∧ d0 l ≤ 5) && l.all (sheetB (d0 l)))
def permsB (l : List (List Int)) : Bool := sheetsB l && decide (l.length ≤ 8)
theorem rdL_zero (l : List (List Int)) : rd_L1 l 0 = l.getD 0 [] := by simp [rd_L1]
theorem sheetsB_of {l : List (List Int)} (h : sheetsB l = true) : 0 < l.length ∧ 1 ≤ d0 l ∧ d0 l ≤ 5 ∧ ∀ r ∈ l, r.length = d0 l ∧ permB r = true := by
  simp only [sheetsB, sheetB, Bool.and_eq_true, List.all_eq_true, decide_eq_true_iff] at h
  exact ⟨h.1, h.2.1.1, h.2.1.2, h.2.2⟩
/-- the inverse: i of its places set -/
def invK (p : List Int) (i : Nat) : List Int := (List.range i).foldl (fun acc j => acc.set (p.getD j 0).toNat (j : Int)) (List.replicate p.length 0)
def invM (p : List Int) : List Int := invK p p.length
theorem invK_succ (p : List Int) (i : Nat) : invK p (i + 1) = (invK p i).set (p.getD i 0).toNat (i : Int) := by
  unfold invK
  rw [List.range_succ, List.foldl_append]; rfl
theorem invK_I (p : List Int) (hp : 1 ≤ p.length) : ∀ i, i ≤ p.length → (invK p i).length = p.length ∧ ∀ x ∈ invK p i, 0 ≤ x ∧ x < p.length
  | 0, _ => by
    refine ⟨by simp [invK], fun x hx => ?_⟩
    have hx' : x ∈ List.replicate p.length (0 : Int) := hx
    have : x = 0 := (List.mem_replicate.1 hx').2
    omega
  | i + 1, h => by
    have ih := invK_I p hp i (by omega)
    rw [invK_succ]
    refine ⟨by simp [ih.1], fun x hx => ?_⟩
    rcases List.mem_or_eq_of_mem_set hx with h' | h'
    · exact ih.2 x h'
    · omega
def thenM (p q : List Int) : List Int := p.map fun y => q.getD y.toNat 0
def idM (n : Nat) : List Int := (List.range n).map fun i : Nat => (i : Int)
def stepP (l : List (List Int)) (a : Int) : List Int := if a < 0 then invM (l.getD (a.natAbs - 1) []) else l.getD (a.natAbs - 1) []
def actS (l : List (List Int)) (w : List Int) (s : Int) : Int := w.foldl (fun s a => (stepP l a).getD s.toNat 0) s
def actK (l : List (List Int)) (w : List Int) (out : List Int) : List Int := w.foldl (fun out a => thenM out (stepP l a)) out
theorem actK_eq (l : List (List Int)) : ∀ (w out : List Int), actK l w out = out.map (actS l w)
  | [], out => by
    have : actS l [] = id := rfl
    rw [this, List.map_id]; rfl
  | a :: w, out => by
    have := actK_eq l w (thenM out (stepP l a))
    unfold actK actS at this ⊢
    rw [List.foldl_cons, this, thenM, List.map_map]; rfl
def actL (l : List (List Int)) (w : List Int) : List Int := (idM (d0 l)).map (actS l w)
def lettersB (l : List (List Int)) (w : List Int) : Prop := ∀ a ∈ w, 1 ≤ a.natAbs ∧ a.natAbs ≤ l.length ∧ a.natAbs ≤ 1000000
theorem stepP_I {l : List (List Int)} (h : sheetsB l = true) {a : Int} (h1 : 1 ≤ a.natAbs) (h2 : a.natAbs ≤ l.length) : (stepP l a).length = d0 l ∧ ∀ x ∈ stepP l a, 0 ≤ x ∧ x < d0 l := by
  have s := sheetsB_of h
  have hi : a.natAbs - 1 < l.length := by omega
  have hr := s.2.2.2 _ (List.getElem_mem hi)
  have e : l.getD (a.natAbs - 1) [] = l[a.natAbs - 1] := by simp [hi]
  unfold stepP
  rw [e]
  split
  · have := invK_I l[a.natAbs - 1] (by omega) _ (Nat.le_refl _)
    unfold invM
    rw [hr.1] at this ⊢
    exact this
  · have := (permB_of hr.2).1
    rw [hr.1] at this
    exact ⟨hr.1, this⟩
theorem getD_in {n : Nat} {q : List Int} (hl : q.length = n) (hq : ∀ x ∈ q, 0 ≤ x ∧ x < n) {s : Int} (h0 : 0 ≤ s) (h1 : s < n) : 0 ≤ q.getD s.toNat 0 ∧ q.getD s.toNat 0 < n := by
  have : s.toNat < q.length := by omega
  rw [List.getD_eq_getElem?_getD, List.getElem?_eq_getElem this]
  exact hq _ (List.getElem_mem this)
theorem rd_getD (q : List Int) (s : Int) : rd q s = q.getD s.toNat 0 := rfl

theorem spec_l6Perm_l0 (p : List Int) (hn : p.length < 4611686018427387904) : ∀ (suf pre : List Int), p = pre ++ suf → pre.Nodup →
    EV (fun k => spec_l6Perm.l0 k p (seenM p.length pre) (pre.length : Int)) (suf.all (inB p.length) && decide (pre ++ suf).Nodup) := by
  intro suf
  induction suf with
  | nil =>
    intro pre h hp
    refine EV.step (fun k => by rw [spec_l6Perm.l0]) ?_
    exact EV.neg (by subst h; simp) ((EV.now _).eq (by simp [hp]))
  | cons x suf ih =>
    intro pre h hp
    have hpl : pre.length < 4611686018427387904 := by subst h; simp at hn; omega
    have hlt : (pre.length : Int) < (p.length : Int) := by subst h; exact lt_app ..
    have hx : rd p (pre.length : Int) = x := by subst h; exact rd_app ..
    refine EV.step (fun k => by rw [spec_l6Perm.l0]) ?_
    rw [hx, up (x := x) hpl, w64 (x := (p.length : Int) - 1) (by omega) (by omega)]
    refine EV.pos hlt (EV.pos (by omega) (EV.by (spec_l1In_is _ _ _) ?_))
    by_cases hb : inB p.length x = true
    · have b := inB_of hb
      refine EV.pos (by simp; omega) (EV.pos b.1 (EV.pos (by simp [seenM]; omega) ?_))
      rw [show rdOf false (seenM p.length pre) x = decide (x ∈ pre) by unfold seenM; rw [rdOf_tab _ _ _ _ b.1 b.2, show ((x.toNat : Nat) : Int) = x by omega]]
      by_cases hm : x ∈ pre
      · refine EV.pos (by simpa using hm) ((EV.now _).eq ?_)
        rw [decide_eq_false, Bool.and_false]
        intro c
        exact (List.nodup_append.1 c).2.2 x hm x (by simp) rfl
      · refine EV.neg (by simpa using hm) ?_
        rw [seenM_snoc _ _ _ b.1]
        refine (ih (pre ++ [x]) (by simp [h]) ?_).eq (by simp [hb])
        rw [List.nodup_append]
        refine ⟨hp, by simp, fun a ha c hc => ?_⟩
        rw [List.mem_singleton] at hc
        intro e; exact hm (by rw [← hc, ← e]; exact ha)
    · refine EV.neg (by simp only [inB, decide_eq_true_iff] at hb; simp; omega) ((EV.now _).eq ?_)
      rw [List.all_cons, show inB p.length x = false by simpa using hb]; simp
theorem spec_l6Perm_is (p : List Int) (hn : p.length < 4294967296) : EV (fun k => spec_l6Perm.f k p) (permB p) := by
  refine EV.pos (by omega) (EV.pos (by omega) ?_)
  have := spec_l6Perm_l0 p (by omega) p [] rfl List.nodup_nil
  rw [seenM_nil] at this
  exact this

theorem spec_l9Perms_is (l : List (List Int)) (hn : l.length < 4294967296) (hr : ∀ r ∈ l, r.length < 4294967296) : EV (fun k => spec_l9Perms.f k l) (permsB l) := by
  have := EV.scan (g := fun k i => spec_l9Perms.l0 k l i) l (sheetB (d0 l)) (decide (1 ≤ l.length ∧ l.length ≤ 8) && decide (1 ≤ d0 l ∧ d0 l ≤ 5)) (fun i h r H1 H2 => ?_) ?_
  · refine EV.eq this ?_
    rw [Bool.eq_iff_iff]
    simp only [permsB, sheetsB, Bool.and_eq_true, decide_eq_true_iff]
    constructor
    · intro h; exact ⟨⟨by omega, h.2.2, h.1⟩, by omega⟩
    · intro h; exact ⟨h.1.2.2, ⟨by omega, by omega⟩, h.1.2.1⟩
  · refine EV.step (fun k => by rw [spec_l9Perms.l0]) ?_
    rw [rdL_nat _ _ h, w64 (x := (i : Int) + 1) (by omega) (by omega), rdL_zero]
    refine EV.pos (by omega) (EV.pos (by omega) (EV.pos (by omega) ?_))
    by_cases hl : (l[i]).length = d0 l
    · refine EV.pos (by unfold d0 at hl; omega) (EV.bind (spec_l6Perm_is _ (hr _ (List.getElem_mem h))) ?_)
      exact EV.cases (fun c => H1 (by simp [sheetB, hl, c])) (fun c => (EV.now _).eq (H2 (by simp [sheetB, hl]; simpa using c)).symm)
    · exact EV.neg (by unfold d0 at hl; omega) ((EV.now _).eq (H2 (by simp [sheetB, hl])).symm)
  · refine EV.step (fun k => by rw [spec_l9Perms.l0]) ?_
    refine EV.neg (by omega) (EV.by (spec_l1In_is _ _ _) ?_)
    by_cases h : 1 ≤ l.length ∧ l.length ≤ 8
    · refine EV.pos (by simp; omega) (EV.pos (by omega) (EV.by (spec_l1In_is _ _ _) ((EV.now _).eq ?_)))
      rw [rdL_zero, Bool.eq_iff_iff]
      simp [d0]; omega
    · refine EV.neg (by simp; omega) ((EV.now _).eq ?_)
      simp [h]

theorem spec_l2Letter_is (a : Int) : spec_l2Letter.f a = some (letterB a) := by
  unfold spec_l2Letter.f
  rw [spec_l1In_is, spec_l1In_is]
  simp only [Option.bind_some]
  by_cases h : 1 ≤ a ∧ a ≤ 8
  · rw [if_pos (by simp [h])]; simp [letterB]; omega
  · rw [if_neg (by simpa using h)]; simp [letterB]; congr 1; rw [Bool.eq_iff_iff]; simp; omega

theorem spec_IsWord_is (xs : List Int) (hn : xs.length < 4611686018427387904) : EV (fun k => spec_IsWord.f k xs) (wordB xs) := by
  refine EV.scan (g := fun k i => spec_IsWord.l0 k xs i) xs letterB (decide (xs.length ≤ 24)) (fun i h r H1 H2 => ?_) ?_
  · refine EV.step (fun k => by rw [spec_IsWord.l0]) ?_
    rw [rd_nat _ _ h, w64 (x := (i : Int) + 1) (by omega) (by omega)]
    refine EV.pos (by omega) (EV.pos (by omega) (EV.by (spec_l2Letter_is _) ?_))
    exact EV.cases H1 (fun c => (EV.now _).eq (H2 (by simpa using c)).symm)
  · refine EV.step (fun k => by rw [spec_IsWord.l0]) ?_
    refine EV.neg (by omega) ((EV.now _).eq ?_)
    rw [Bool.eq_iff_iff]; simp; omega

theorem spec_l1Max_is (a b : Int) : spec_l1Max.f a b = some (if a > b then a else b) := by
  unfold spec_l1Max.f; split <;> rfl

theorem spec_l3Abs_is (a : Int) (h : -9223372036854775808 < a) (h' : a ≤ 9223372036854775807) : spec_l3Abs.f a = some (a.natAbs : Int) := by
  unfold spec_l3Abs.f
  rw [spec_l1Max_is, w64 (by omega) (by omega)]
  simp only [Option.bind_some]
  congr 1
  split <;> omega

theorem spec_l6Inverse_is (p : List Int) (hp : ∀ x ∈ p, 0 ≤ x ∧ x < p.length) (hn : p.length < 4294967296) : EV (fun k => spec_l6Inverse.f k p) (invM p) := by
  refine EV.pos (by omega) (EV.pos (by omega) ?_)
  refine EV.count (g := fun k s i => spec_l6Inverse.l0 k p s i) p.length (invK p) _ (fun i hi H => ?_) ?_
  · have hx := hp _ (List.getElem_mem hi)
    have hl : (invK p i).length = p.length := (invK_I p (by omega) i (by omega)).1
    refine EV.step (fun k => by rw [spec_l6Inverse.l0]) ?_
    rw [rd_nat _ _ hi, w64 (x := (i : Int) + 1) (by omega) (by omega)]
    refine EV.pos (by omega) (EV.pos (by omega) (EV.pos (by omega) (EV.pos (by omega) ?_)))
    rw [invK_succ] at H
    have e : p.getD i 0 = p[i] := by simp [hi]
    rw [e] at H
    exact H
  · refine EV.step (fun k => by rw [spec_l6Inverse.l0]) ?_
    exact EV.neg (by omega) (EV.now _)

theorem spec_l9Act_is (l : List (List Int)) (w : List Int) (s : Int) (hs : sheetsB l = true) (hw : lettersB l w) (hn : w.length < 4294967296) (h0 : 0 ≤ s) (h1 : s < d0 l) : EV (fun k => spec_l9Act.f k l w s) (actS l w s) := by
  have S := sheetsB_of hs
  refine EV.fold (g := fun k s i => spec_l9Act.l0 k l w s i) w (fun s a => (stepP l a).getD s.toNat 0) id (fun _ s => 0 ≤ s ∧ s < d0 l) (fun i h s r hI H => ?_) (fun s hI => ?_) s ⟨h0, h1⟩
  · have ha := hw _ (List.getElem_mem h)
    have I := stepP_I hs ha.1 ha.2.1
    have hi : (w[i]).natAbs - 1 < l.length := by omega
    have row := S.2.2.2 _ (List.getElem_mem hi)
    have e : l.getD ((w[i]).natAbs - 1) [] = l[(w[i]).natAbs - 1] := by simp [hi]
    have H := H (getD_in I.1 I.2 hI.1 hI.2)
    refine EV.step (fun k => by rw [spec_l9Act.l0]) ?_
    rw [rd_nat _ _ h, w64 (x := (i : Int) + 1) (by omega) (by omega)]
    refine EV.pos (by omega) (EV.pos (by omega) (EV.by (spec_l3Abs_is _ (by omega) (by omega)) ?_))
    rw [w64 (x := ((w[i]).natAbs : Int) - 1) (by omega) (by omega), show (((w[i]).natAbs : Int) - 1) = (((w[i]).natAbs - 1 : Nat) : Int) by omega, rdL_nat _ _ hi]
    refine EV.pos (by omega) (EV.pos (by omega) ?_)
    by_cases hneg : w[i] < 0
    · refine EV.pos hneg (EV.bind (spec_l6Inverse_is _ (permB_of row.2).1 (by omega)) ?_)
      have e2 : stepP l w[i] = invM l[(w[i]).natAbs - 1] := by unfold stepP; rw [if_pos hneg, e]
      rw [e2] at I H
      exact EV.pos hI.1 (EV.pos (by omega) H)
    · refine EV.neg hneg ?_
      have e2 : stepP l w[i] = l[(w[i]).natAbs - 1] := by unfold stepP; rw [if_neg hneg, e]
      rw [e2] at I H
      exact EV.pos hI.1 (EV.pos (by omega) H)
  · refine EV.step (fun k => by rw [spec_l9Act.l0]) ?_
    exact EV.neg (by omega) (EV.now _)

def wordOk (l : List (List Int)) (w : List Int) : Bool := wordB w && w.all (leB l.length)
def actM (l : List (List Int)) (w : List Int) : List Int := if permsB l = true ∧ wordOk l w = true then actL l w else []
theorem letters_of {l : List (List Int)} {w : List Int} (h : wordOk l w = true) : lettersB l w ∧ w.length ≤ 24 := by
  simp only [wordOk, Bool.and_eq_true, List.all_eq_true, leB, decide_eq_true_iff] at h
  have a := wordB_of h.1
  refine ⟨fun x hx => ?_, a.2⟩
  have := letterB_of (a.1 x hx)
  have := h.2 x hx
  omega
theorem actL_len (l : List (List Int)) (w : List Int) : (actL l w).length = d0 l := by simp [actL, idM]
def wholeB (t : List Int) : Bool := (List.range t.length).all (fun i => decide (t.getD i 0 = (i : Int))) && decide (0 < t.length)
theorem wholeB_eq {t : List Int} {n : Nat} (h : t.length = n) (h1 : 1 ≤ n) : wholeB t = decide (t = idM n) := by
  subst h
  rw [Bool.eq_iff_iff]
  simp only [wholeB, Bool.and_eq_true, List.all_eq_true, decide_eq_true_iff, List.mem_range]
  constructor
  · intro h
    apply List.ext_getElem
    · simp [idM]
    · intro i h1 h2
      have := h.1 i h1
      rw [List.getD_eq_getElem?_getD, List.getElem?_eq_getElem h1, Option.getD_some] at this
      simp [idM, this]
  · intro h
    refine ⟨fun i hi => ?_, by omega⟩
    rw [h]
    simp [idM, hi]
theorem thenM_I {n : Nat} {p q : List Int} (hp : p.length = n ∧ ∀ x ∈ p, 0 ≤ x ∧ x < n) (hq : q.length = n ∧ ∀ x ∈ q, 0 ≤ x ∧ x < n) : (thenM p q).length = n ∧ ∀ x ∈ thenM p q, 0 ≤ x ∧ x < n := by
  refine ⟨by simp [thenM, hp.1], fun x hx => ?_⟩
  simp only [thenM, List.mem_map] at hx
  obtain ⟨y, hy, rfl⟩ := hx
  exact getD_in hq.1 hq.2 (hp.2 y hy).1 (hp.2 y hy).2
theorem idM_I (n : Nat) : (idM n).length = n ∧ ∀ x ∈ idM n, 0 ≤ x ∧ x < n := by
  refine ⟨by simp [idM], fun x hx => ?_⟩
  simp only [idM, List.mem_map, List.mem_range] at hx
  obtain ⟨i, hi, rfl⟩ := hx
  omega
theorem permsB_le {l : List (List Int)} (h : l.length ≤ 8) : permsB l = sheetsB l := by
  unfold permsB
  rw [decide_eq_true h, Bool.and_true]

theorem spec_ActWord_is (l : List (List Int)) (w : List Int) (hn : l.length < 4294967296) (hr : ∀ r ∈ l, r.length < 4294967296) (hw : w.length < 4294967296) : EV (fun k => spec_ActWord.f k l w) (actM l w) := by
  have no : EV (fun k => spec_ActWord.j0 k l w true) [] := by
    refine EV.step (fun k => by rw [spec_ActWord.j0]) ?_
    exact EV.pos rfl (EV.now _)
  unfold actM
  refine EV.bind (spec_l9Perms_is l hn hr) ?_
  by_cases h1 : permsB l = true
  · refine EV.pos h1 (EV.bind (spec_IsWord_is w (by omega)) ?_)
    have hs : sheetsB l = true := by have := h1; simp only [permsB, Bool.and_eq_true] at this; exact this.1
    have S := sheetsB_of hs
    by_cases h2 : wordB w = true
    · rw [h2]
      refine EV.step (fun k => by rw [spec_ActWord.j0]) ?_
      refine EV.neg (by simp) ?_
      refine EV.scanC (g := fun k i => spec_ActWord.l0 k l w i) w (leB l.length) _ [] (fun i h H1 H2 => ?_) (fun h3 => ?_) (fun h3 => ?_)
      · have hx := letterB_of (all_getElem (wordB_of h2).1 i h)
        refine EV.step (fun k => by rw [spec_ActWord.l0]) ?_
        rw [rd_nat _ _ h, w64 (x := (i : Int) + 1) (by omega) (by omega)]
        refine EV.pos (by omega) (EV.pos (by omega) (EV.by (spec_l3Abs_is _ (by omega) (by omega)) ?_))
        exact EV.cases (fun c => (EV.now _).eq (H2 (by simp [leB]; omega)).symm) (fun c => H1 (by simp [leB]; omega))
      · have hok : wordOk l w = true := by unfold wordOk; rw [h2, h3]; rfl
        rw [if_pos ⟨h1, hok⟩]
        have L := letters_of hok
        refine EV.step (fun k => by rw [spec_ActWord.l0]) ?_
        refine EV.neg (by omega) ?_
        refine EV.count (g := fun k s i => spec_ActWord.l1 k l w s i) (d0 l) (fun i => (List.range i).map fun j : Nat => actS l w (j : Int)) _ (fun i hi H => ?_) ?_
        · refine EV.step (fun k => by rw [spec_ActWord.l1]) ?_
          rw [w64 (x := (i : Int) + 1) (by omega) (by omega), rdL_zero]
          refine EV.pos (by omega) (EV.pos (by unfold d0 at hi; omega) (EV.bind (spec_l9Act_is l w (i : Int) hs L.1 hw (by omega) (by omega)) (EV.pos (by simp; omega) ?_)))
          simpa [List.range_succ] using H
        · refine EV.step (fun k => by rw [spec_ActWord.l1]) ?_
          rw [rdL_zero]
          refine EV.pos (by omega) (EV.neg (by unfold d0; omega) ((EV.now _).eq ?_))
          simp [actL, idM, Function.comp_def]
      · rw [if_neg]
        intro c
        have := c.2
        unfold wordOk at this
        rw [h3, Bool.and_false] at this; cases this
    · rw [show wordB w = false by simpa using h2, if_neg]
      · exact no
      · intro c
        have := c.2
        unfold wordOk at this
        rw [Bool.and_eq_true] at this; exact h2 this.1
  · rw [if_neg (fun c => h1 c.1)]
    exact EV.neg h1 no

def relM (g : Int) : List Int := if g = 1 then [1, 2, -1, -2] else if g = 2 then [1, 2, -1, -2, 3, 4, -3, -4] else []
theorem spec_Relator_is (g : Int) : spec_Relator.f g = some (relM g) := by
  unfold spec_Relator.f relM
  split
  · rfl
  · split <;> rfl

theorem spec_l9Whole_is (t : List Int) (hn : t.length < 4294967296) : EV (fun k => spec_l9Whole.f k t) (wholeB t) := by
  refine EV.countB (g := fun k i => spec_l9Whole.l0 k t i) t.length _ (decide (0 < t.length)) (fun i h r H1 H2 => ?_) ?_
  · have e : t.getD i 0 = t[i] := by simp [h]
    rw [e] at H1 H2
    refine EV.step (fun k => by rw [spec_l9Whole.l0]) ?_
    rw [rd_nat _ _ h, w64 (x := (i : Int) + 1) (by omega) (by omega)]
    refine EV.pos (by omega) (EV.pos (by omega) ?_)
    exact EV.cases (fun c => H1 (by simpa using c)) (fun c => (EV.now _).eq (H2 (by simpa using c)).symm)
  · refine EV.step (fun k => by rw [spec_l9Whole.l0]) ?_
    exact EV.neg (by omega) ((EV.now _).eq (by rw [Bool.eq_iff_iff]; simp))

def mxM (a : Int) : Int := if 1 > a then 1 else a
def actionB (g : Int) (l : List (List Int)) : Bool := decide (0 ≤ g ∧ g ≤ 2) && (decide ((l.length : Int) = 2 * mxM g) && (sheetsB l && (decide (g = 0) || decide (actL l (relM g) = idM (d0 l)))))
theorem rel_ok {g : Int} {l : List (List Int)} (h : g = 1 ∨ g = 2) (hl : (l.length : Int) = 2 * g) : wordOk l (relM g) = true := by
  rcases h with rfl | rfl
  · have : l.length = 2 := by omega
    simp [wordOk, wordB, relM, letterB, leB, this]
  · have : l.length = 4 := by omega
    simp [wordOk, wordB, relM, letterB, leB, this]
theorem mxM_of {g : Int} (h : 0 ≤ g ∧ g ≤ 2) : (g = 0 ∧ mxM g = 1) ∨ ((g = 1 ∨ g = 2) ∧ mxM g = g) := by
  unfold mxM; split <;> omega
theorem relM_len {g : Int} : (relM g).length ≤ 8 := by
  unfold relM; split
  · simp
  · split <;> simp

theorem spec_IsAction_is (g : Int) (l : List (List Int)) (hn : l.length < 4294967296) (hr : ∀ r ∈ l, r.length < 4294967296) : EV (fun k => spec_IsAction.f k g l) (actionB g l) := by
  have no : EV (fun k => spec_IsAction.j0 k g l true) false := by
    refine EV.step (fun k => by rw [spec_IsAction.j0]) ?_
    exact EV.pos rfl (EV.now _)
  unfold actionB
  refine EV.by (spec_l1In_is _ _ _) ?_
  by_cases h1 : 0 ≤ g ∧ g ≤ 2
  · rw [decide_eq_true h1, Bool.true_and]
    refine EV.pos rfl (EV.bind (spec_l9Perms_is l hn hr) ?_)
    have m := mxM_of h1
    by_cases h2 : permsB l = true
    · have hs : sheetsB l = true := by have := h2; simp only [permsB, Bool.and_eq_true] at this; exact this.1
      have S := sheetsB_of hs
      refine EV.pos h2 (EV.by (spec_l1Max_is _ _) ?_)
      rw [show (if (1 : Int) > g then 1 else g) = mxM g from rfl, w64 (x := 2 * mxM g) (by omega) (by omega), hs, Bool.true_and]
      by_cases h3 : (l.length : Int) = 2 * mxM g
      · rw [decide_eq_true h3, Bool.true_and, show ((l.length : Int) != 2 * mxM g) = false by simp [h3]]
        refine EV.step (fun k => by rw [spec_IsAction.j0]) ?_
        refine EV.neg (by simp) ?_
        by_cases h0 : g = 0
        · exact EV.pos h0 ((EV.now _).eq (by simp [h0]))
        · refine EV.neg h0 (EV.by (spec_Relator_is _) (EV.bind (spec_ActWord_is l _ hn hr (by have := @relM_len g; omega)) ?_))
          have hm : (g = 1 ∨ g = 2) ∧ mxM g = g := by omega
          have e2 : actM l (relM g) = actL l (relM g) := by unfold actM; rw [if_pos ⟨h2, rel_ok hm.1 (by rw [h3, hm.2])⟩]
          rw [e2]
          refine EV.bind (spec_l9Whole_is _ (by rw [actL_len]; omega)) ((EV.now _).eq ?_)
          rw [wholeB_eq (actL_len _ _) S.2.1, decide_eq_false h0, Bool.false_or]
      · rw [decide_eq_false h3, Bool.false_and, show ((l.length : Int) != 2 * mxM g) = true by simpa using h3]
        exact no
    · refine EV.neg h2 ?_
      have : (decide ((l.length : Int) = 2 * mxM g) && (sheetsB l && (decide (g = 0) || decide (actL l (relM g) = idM (d0 l))))) = false := by
        by_cases h3 : (l.length : Int) = 2 * mxM g
        · have e := permsB_le (l := l) (by omega)
          rw [e] at h2
          rw [show sheetsB l = false by simpa using h2, Bool.false_and, Bool.and_false]
        · rw [decide_eq_false h3, Bool.false_and]
      rw [this]; exact no
  · rw [decide_eq_false h1, Bool.false_and]
    exact EV.neg (by simp) no

/-! ### sets of sheets that lead to each other -/
def upB (n : Nat) (up : List Int) : Prop := up.length = n ∧ ∀ i (h : i < up.length), 0 ≤ up[i] ∧ up[i] ≤ i
def rootN (up : List Int) : Nat → Int → Int
  | 0, s => s
  | k + 1, s => if up.getD s.toNat 0 = s then s else rootN up k (up.getD s.toNat 0)
def rootI (up : List Int) (s : Int) : Int := rootN up s.toNat s
theorem up_get {n : Nat} {up : List Int} (hu : upB n up) {s : Int} (h0 : 0 ≤ s) (h1 : s < n) : 0 ≤ up.getD s.toNat 0 ∧ up.getD s.toNat 0 ≤ s := by
  have h : s.toNat < up.length := by have := hu.1; omega
  rw [List.getD_eq_getElem?_getD, List.getElem?_eq_getElem h, Option.getD_some]
  have := hu.2 _ h; omega
theorem rootN_le {n : Nat} {up : List Int} (hu : upB n up) : ∀ (m : Nat) (s : Int), 0 ≤ s → s < n → 0 ≤ rootN up m s ∧ rootN up m s ≤ s
  | 0, s, h0, h1 => ⟨h0, Int.le_refl _⟩
  | m + 1, s, h0, h1 => by
    have a := up_get hu h0 h1
    simp only [rootN]
    split
    · exact ⟨h0, Int.le_refl _⟩
    · have := rootN_le hu m (up.getD s.toNat 0) a.1 (by omega); omega
theorem rootI_le {n : Nat} {up : List Int} (hu : upB n up) {s : Int} (h0 : 0 ≤ s) (h1 : s < n) : 0 ≤ rootI up s ∧ rootI up s ≤ s := rootN_le hu _ s h0 h1
theorem rootI_self {n : Nat} {up : List Int} (hu : upB n up) {s : Int} (h0 : 0 ≤ s) (h1 : s < n) : rootI up s = s ↔ up.getD s.toNat 0 = s := by
  have a := up_get hu h0 h1
  unfold rootI
  rcases hs : s.toNat with _ | m
  · have : s = 0 := by omega
    subst this
    simp only [rootN, true_iff]
    have := up_get hu (s := 0) (by omega) h1
    simp only [Int.toNat_zero] at this ⊢; omega
  · simp only [rootN, hs]
    rw [hs] at a
    constructor
    · intro h
      split at h
      · rename_i e; exact e
      · rename_i hne
        have := rootN_le hu m (up.getD (m + 1) 0) a.1 (by omega)
        omega
    · intro h
      rw [if_pos h]
def joinM (up : List Int) (a b : Int) : List Int := if rootI up a > rootI up b then up.set (rootI up a).toNat (rootI up b) else up.set (rootI up b).toNat (rootI up a)
theorem upB_set {n : Nat} {up : List Int} (hu : upB n up) {i v : Int} (h0 : 0 ≤ v) (h1 : v ≤ i) : upB n (up.set i.toNat v) := by
  refine ⟨by simp [hu.1], fun j hj => ?_⟩
  rw [List.getElem_set]
  rw [List.length_set] at hj
  split
  · omega
  · exact hu.2 j hj
theorem joinM_I {n : Nat} {up : List Int} (hu : upB n up) {a b : Int} (ha : 0 ≤ a ∧ a < n) (hb : 0 ≤ b ∧ b < n) : upB n (joinM up a b) := by
  have ra := rootI_le hu ha.1 ha.2
  have rb := rootI_le hu hb.1 hb.2
  unfold joinM
  split
  · exact upB_set hu rb.1 (by omega)
  · exact upB_set hu ra.1 (by omega)
def rowM (n : Nat) (up p : List Int) : List Int := (List.range n).foldl (fun up (s : Nat) => joinM up (s : Int) (p.getD s 0)) up
def allM (l : List (List Int)) : List Int := l.foldl (rowM (d0 l)) (idM (d0 l))
def ownM (n : Nat) (up : List Int) (s : Nat) : List Int := (List.range n).foldl (fun own (t : Nat) => if rootI up (t : Int) = (s : Int) then own ++ [(t : Int)] else own) []
def outM2 (n : Nat) (up : List Int) : List (List Int) := (List.range n).foldl (fun out (s : Nat) => if up.getD s 0 = (s : Int) then out ++ [ownM n up s] else out) []
def partsM (l : List (List Int)) : List (List Int) := outM2 (d0 l) (allM l)
theorem upB_id (n : Nat) : upB n (idM n) := by
  refine ⟨by simp [idM], fun i h => ?_⟩
  simp [idM]
theorem fold_upB {n : Nat} {p : List Int} (hp : p.length = n) (hr : ∀ x ∈ p, 0 ≤ x ∧ x < n) : ∀ (m : Nat) (up : List Int), m ≤ n → upB n up → upB n ((List.range m).foldl (fun up (s : Nat) => joinM up (s : Int) (p.getD s 0)) up)
  | 0, up, _, h => h
  | m + 1, up, hm, h => by
    rw [List.range_succ, List.foldl_append]
    have ih := fold_upB hp hr m up (by omega) h
    refine joinM_I ih ⟨by omega, by omega⟩ ?_
    have hlt : m < p.length := by omega
    rw [List.getD_eq_getElem?_getD, List.getElem?_eq_getElem hlt]
    exact hr _ (List.getElem_mem _)
theorem rowM_I {n : Nat} {up p : List Int} (hp : p.length = n) (hr : ∀ x ∈ p, 0 ≤ x ∧ x < n) (h : upB n up) : upB n (rowM n up p) := fold_upB hp hr n up (Nat.le_refl _) h
theorem allM_I {l : List (List Int)} (hs : sheetsB l = true) : upB (d0 l) (allM l) := by
  have s := sheetsB_of hs
  unfold allM
  have : ∀ (xs : List (List Int)) (up : List Int), (∀ p ∈ xs, p.length = d0 l ∧ permB p = true) → upB (d0 l) up → upB (d0 l) (xs.foldl (rowM (d0 l)) up) := by
    intro xs
    induction xs with
    | nil => intro up _ h; exact h
    | cons p xs ih =>
      intro up hx h
      have hp := hx p (by simp)
      refine ih _ (fun q hq => hx q (by simp [hq])) (rowM_I hp.1 (fun x hx' => ?_) h)
      have := (permB_of hp.2).1 x hx'
      omega
  exact this l _ s.2.2.2 (upB_id _)

theorem spec_l3Find_N {n : Nat} {up : List Int} (hu : upB n up) : ∀ (m : Nat) (s : Int), 0 ≤ s → s < n → s.toNat ≤ m → EV (fun k => spec_l3Find.l0 k up s) (rootN up m s)
  | 0, s, h0, h1, hm => by
    have a := up_get hu h0 h1
    refine EV.step (fun k => by rw [spec_l3Find.l0]) ?_
    rw [rd_getD]
    refine EV.pos h0 (EV.pos (by have := hu.1; omega) (EV.pos (by omega) ((EV.now _).eq rfl)))
  | m + 1, s, h0, h1, hm => by
    have a := up_get hu h0 h1
    refine EV.step (fun k => by rw [spec_l3Find.l0]) ?_
    rw [rd_getD]
    refine EV.pos h0 (EV.pos (by have := hu.1; omega) ?_)
    simp only [rootN]
    by_cases e : up.getD s.toNat 0 = s
    · rw [if_pos e]; exact EV.pos e (EV.now _)
    · rw [if_neg e]
      exact EV.neg e (spec_l3Find_N hu m _ a.1 (by omega) (by omega))
theorem spec_l3Find_is {n : Nat} {up : List Int} (hu : upB n up) {s : Int} (h0 : 0 ≤ s) (h1 : s < n) : EV (fun k => spec_l3Find.f k up s) (rootI up s) := spec_l3Find_N hu _ s h0 h1 (Nat.le_refl _)

theorem spec_l1Min_is (a b : Int) : spec_l1Min.f a b = some (if a < b then a else b) := by
  unfold spec_l1Min.f; split <;> rfl

theorem join_max {n : Nat} {up : List Int} (hu : upB n up) {a b : Int} (ha : 0 ≤ a ∧ a < n) (hb : 0 ≤ b ∧ b < n) :
    up.set (if rootI up a > rootI up b then rootI up a else rootI up b).toNat (if rootI up a < rootI up b then rootI up a else rootI up b) = joinM up a b := by
  unfold joinM
  by_cases h : rootI up a > rootI up b
  · rw [if_pos h, if_pos h, if_neg (by omega)]
  · rw [if_neg h, if_neg h]
    by_cases h2 : rootI up a < rootI up b
    · rw [if_pos h2]
    · rw [if_neg h2]
      have : rootI up a = rootI up b := by omega
      rw [this]
theorem spec_parts_own {n : Nat} {up : List Int} (hu : upB n up) (hn : n ≤ 5) (s : Nat) (hs : s < n) (out : List (List Int)) (ho : out.length ≤ 5) (R : List (List Int))
    (H : EV (fun k => spec_l9Parts.l3 k up (out ++ [ownM n up s]) (wrap64 ((s : Int) + 1))) R) : EV (fun k => spec_l9Parts.l4 k up out (s : Int) [] 0) R := by
  have hl := hu.1
  refine EV.foldC (g := fun k own t => spec_l9Parts.l4 k up out (s : Int) own t) (List.range n) (fun own (t : Nat) => if rootI up (t : Int) = (s : Int) then own ++ [(t : Int)] else own) (fun i own => own.length ≤ i) R (fun i hi own hI K => ?_) [] (by simp) (fun hI => ?_)
  · have hi' : i < n := by simpa using hi
    rw [List.getElem_range] at K
    refine EV.step (fun k => by rw [spec_l9Parts.l4]) ?_
    rw [w64 (x := (i : Int) + 1) (by omega) (by omega)]
    refine EV.pos (by omega) (EV.bind (spec_l3Find_is hu (by omega) (by omega)) ?_)
    by_cases e : rootI up (i : Int) = (s : Int)
    · rw [if_pos e] at K
      exact EV.pos e (EV.pos (by omega) (K (by simp; omega)))
    · rw [if_neg e] at K
      exact EV.neg e (K (by omega))
  · rw [List.length_range]
    refine EV.step (fun k => by rw [spec_l9Parts.l4]) ?_
    exact EV.neg (by omega) (EV.pos (by omega) H)
theorem spec_parts_out {n : Nat} {up : List Int} (hu : upB n up) (hn : n ≤ 5) : EV (fun k => spec_l9Parts.l3 k up [] 0) (outM2 n up) := by
  have hl := hu.1
  refine EV.fold (g := fun k out s => spec_l9Parts.l3 k up out s) (List.range n) (fun out (s : Nat) => if up.getD s 0 = (s : Int) then out ++ [ownM n up s] else out) id (fun i out => out.length ≤ i) (fun i hi out r hI K => ?_) (fun out hI => ?_) [] (by simp)
  · have hi' : i < n := by simpa using hi
    rw [List.getElem_range] at K
    refine EV.step (fun k => by rw [spec_l9Parts.l3]) ?_
    rw [rd_getD, Int.toNat_natCast]
    refine EV.pos (by omega) (EV.pos (by omega) ?_)
    by_cases e : up.getD i 0 = (i : Int)
    · rw [if_pos e] at K
      refine EV.pos e (spec_parts_own hu hn i hi' out (by omega) r ?_)
      rw [w64 (x := (i : Int) + 1) (by omega) (by omega)]
      exact K (by simp; omega)
    · rw [if_neg e] at K
      rw [w64 (x := (i : Int) + 1) (by omega) (by omega)]
      exact EV.neg e (K (by omega))
  · rw [List.length_range]
    refine EV.step (fun k => by rw [spec_l9Parts.l3]) ?_
    exact EV.neg (by omega) (EV.now _)
theorem spec_parts_row {l : List (List Int)} (hs : sheetsB l = true) (hn : l.length ≤ 1000) (i : Nat) (hi : i < l.length) (up : List Int) (hu : upB (d0 l) up) (R : List (List Int))
    (H : upB (d0 l) (rowM (d0 l) up l[i]) → EV (fun k => spec_l9Parts.l1 k l (rowM (d0 l) up l[i]) (wrap64 ((i : Int) + 1))) R) : EV (fun k => spec_l9Parts.l2 k l up (i : Int) 0) R := by
  have s := sheetsB_of hs
  have row := s.2.2.2 _ (List.getElem_mem hi)
  have P := (permB_of row.2).1
  refine EV.foldC (g := fun k up s => spec_l9Parts.l2 k l up (i : Int) s) (List.range (d0 l)) (fun up (s : Nat) => joinM up (s : Int) (l[i].getD s 0)) (fun _ up => upB (d0 l) up) R (fun j hj up hI K => ?_) up hu (fun hI => ?_)
  · have hj' : j < d0 l := by simpa using hj
    have hj2 : j < l[i].length := by omega
    rw [List.getElem_range] at K
    have hx : 0 ≤ l[i].getD j 0 ∧ l[i].getD j 0 < (d0 l : Nat) := by
      rw [List.getD_eq_getElem?_getD, List.getElem?_eq_getElem hj2]
      have := P _ (List.getElem_mem hj2)
      simp only [Option.getD_some]; omega
    have ra := rootI_le hI (s := (j : Int)) (by omega) (by omega)
    have rb := rootI_le hI hx.1 hx.2
    have hl := hI.1
    refine EV.step (fun k => by rw [spec_l9Parts.l2]) ?_
    rw [rdL_nat _ _ hi, rd_getD, Int.toNat_natCast, w64 (x := (j : Int) + 1) (by omega) (by omega)]
    refine EV.pos (by omega) (EV.bind (spec_l3Find_is hI (by omega) (by omega)) (EV.pos (by omega) (EV.pos (by omega) (EV.pos (by omega) (EV.pos (by omega) (EV.bind (spec_l3Find_is hI hx.1 hx.2) (EV.by (spec_l1Max_is _ _) (EV.by (spec_l1Min_is _ _) ?_))))))))
    rw [join_max hI (by omega) hx]
    refine EV.pos (by split <;> omega) (EV.pos (by split <;> omega) (K (joinM_I hI (by omega) hx)))
  · rw [List.length_range]
    have hl := hI.1
    refine EV.step (fun k => by rw [spec_l9Parts.l2]) ?_
    exact EV.neg (by omega) (H hI)
theorem spec_l9Parts_is {l : List (List Int)} (hs : sheetsB l = true) (hn : l.length ≤ 1000) : EV (fun k => spec_l9Parts.f k l) (partsM l) := by
  have s := sheetsB_of hs
  have hrow : (rd_L1 l 0).length = d0 l := by rw [rdL_zero]; rfl
  refine EV.count (g := fun k up i => spec_l9Parts.l0 k l up i) (d0 l) (fun i => idM i) _ (fun i hi H => ?_) ?_
  · refine EV.step (fun k => by rw [spec_l9Parts.l0]) ?_
    rw [hrow, w64 (x := (i : Int) + 1) (by omega) (by omega)]
    refine EV.pos (by omega) (EV.pos (by omega) (EV.pos (by simp [idM]; omega) ?_))
    have e : idM (i + 1) = idM i ++ [(i : Int)] := by simp [idM, List.range_succ]
    rw [e] at H; exact H
  · refine EV.step (fun k => by rw [spec_l9Parts.l0]) ?_
    rw [hrow]
    refine EV.pos (by omega) (EV.neg (by omega) ?_)
    refine EV.foldC (g := fun k up i => spec_l9Parts.l1 k l up i) l (rowM (d0 l)) (fun _ up => upB (d0 l) up) _ (fun i hi up hI K => ?_) (idM (d0 l)) (upB_id _) (fun hI => ?_)
    · refine EV.step (fun k => by rw [spec_l9Parts.l1]) ?_
      refine EV.pos (by omega) (spec_parts_row hs hn i hi up hI _ (fun h => ?_))
      rw [w64 (x := (i : Int) + 1) (by omega) (by omega)]
      exact K h
    · refine EV.step (fun k => by rw [spec_l9Parts.l1]) ?_
      exact EV.neg (by omega) (spec_parts_out (allM_I hs) s.2.2.1)

def leafN (g : Int) (w : Bool) (l : List (List Int)) : Nat := if actionB g l = true ∧ (w = true → (partsM l).length = 1) then 1 else 0
/-- how many lists continue l by m more of a's -/
def cN (g : Int) (w : Bool) (a : List (List Int)) : Nat → List (List Int) → Nat
  | 0, l => leafN g w l
  | m + 1, l => (a.map fun p => cN g w a m (l ++ [p])).sum
theorem sum_le_mul {α : Type} (f : α → Nat) (B : Nat) : ∀ (a : List α), (∀ x ∈ a, f x ≤ B) → (a.map f).sum ≤ a.length * B
  | [], _ => by simp
  | x :: r, h => by
    have h1 := sum_le_mul f B r (fun y hy => h y (List.mem_cons_of_mem _ hy))
    have h2 := h x List.mem_cons_self
    simp only [List.map_cons, List.sum_cons, List.length_cons, Nat.add_mul]
    omega
theorem cN_le (g : Int) (w : Bool) (a : List (List Int)) : ∀ m l, cN g w a m l ≤ a.length ^ m
  | 0, l => by unfold cN leafN; split <;> simp
  | m + 1, l => by
    have h := sum_le_mul (fun p => cN g w a m (l ++ [p])) (a.length ^ m) a (fun p _ => cN_le g w a m _)
    rw [Nat.pow_succ, Nat.mul_comm]
    exact h
theorem perm_sum {α : Type} (f : α → Nat) {a b : List α} (h : a.Perm b) : (a.map f).sum = (b.map f).sum := by
  induction h with
  | nil => rfl
  | cons x _ ih => simp [ih]
  | swap x y l => simp; omega
  | trans _ _ h1 h2 => exact h1.trans h2
theorem cN_perm (g : Int) (w : Bool) {a b : List (List Int)} (h : a.Perm b) : ∀ m l, cN g w a m l = cN g w b m l
  | 0, l => rfl
  | m + 1, l => by
    unfold cN
    rw [List.map_congr_left (fun p _ => cN_perm g w h m (l ++ [p]))]
    exact perm_sum _ h
theorem cN_small (g : Int) (w : Bool) {a : List (List Int)} (ha : a.length ≤ 6) {m : Nat} (hm : m ≤ 4) (l : List (List Int)) : cN g w a m l ≤ 1296 := by
  refine Nat.le_trans (cN_le g w a m l) ?_
  refine Nat.le_trans (Nat.pow_le_pow_left ha m) ?_
  exact Nat.le_trans (Nat.pow_le_pow_right (by omega) hm) (by decide)
theorem leaf_true {g : Int} {l : List (List Int)} (h : actionB g l = true) : sheetsB l = true := by
  simp only [actionB, Bool.and_eq_true] at h
  exact h.2.2.1

set_option maxHeartbeats 2000000 in
theorem spec_l9Count_is (g : Int) (hg : 0 ≤ g ∧ g ≤ 2) (w : Bool) (a : List (List Int)) (ha : a.length ≤ 6) (hr : ∀ r ∈ a, r.length < 4294967296) : ∀ (m : Nat) (l : List (List Int)), (l.length : Int) + m = 2 * mxM g → (∀ r ∈ l, r.length < 4294967296) →
    EV (fun k => spec_l9Count.f k g a l w) (cN g w a m l : Int) := by
  have hx := mxM_of hg
  intro m
  induction m with
  | zero =>
    intro l hl hlr
    refine EV.step (fun k => by rw [spec_l9Count.f]) (EV.by (spec_l1Max_is 1 g) ?_)
    refine EV.pos (by show (l.length : Int) = wrap64 (2 * mxM g); rw [w64 (by omega) (by omega)]; omega) (EV.bind (spec_IsAction_is g l (by omega) hlr) ?_)
    refine EV.cases (fun h => ?_) (fun h => ?_)
    · refine EV.cases (fun hw => ?_) (fun hw => ?_)
      · refine EV.bind (spec_l9Parts_is (leaf_true h) (by omega)) ((EV.is (spec_l1Bit_is _)).eq ?_)
        unfold cN leafN
        by_cases hp : (partsM l).length = 1
        · rw [if_pos (by simp [hp]), if_pos ⟨h, fun _ => hp⟩]; rfl
        · rw [if_neg (by simp; omega), if_neg (fun q => hp (q.2 hw))]; rfl
      · refine (EV.is (spec_l1Bit_is _)).eq ?_
        unfold cN leafN
        rw [if_pos rfl, if_pos ⟨h, fun q => absurd q hw⟩]; rfl
    · refine (EV.is (spec_l1Bit_is _)).eq ?_
      unfold cN leafN
      rw [if_neg (by decide), if_neg (fun q => h q.1)]; rfl
  | succ m ih =>
    intro l hl hlr
    refine EV.step (fun k => by rw [spec_l9Count.f]) (EV.by (spec_l1Max_is 1 g) ?_)
    refine EV.neg (by show ¬ (l.length : Int) = wrap64 (2 * mxM g); rw [w64 (by omega) (by omega)]; omega) ?_
    have go : ∀ (r : List (List Int)) (i : Nat) (s : Nat), a.drop i = r → i + r.length = a.length → s + (r.map fun p => cN g w a m (l ++ [p])).sum ≤ 1296 →
        EV (fun k => spec_l9Count.l0 k g a l w (s : Int) (i : Int)) ((s + (r.map fun p => cN g w a m (l ++ [p])).sum : Nat) : Int) := by
      intro r
      induction r with
      | nil => intro i s hd hi hs; exact EV.step (fun k => by rw [spec_l9Count.l0]) (EV.neg (by simp at hi; omega) ((EV.now _).eq (by simp)))
      | cons p r ihr =>
        intro i s hd hi hs
        have hil : i < a.length := by simp at hi; omega
        have e := List.drop_eq_getElem_cons hil
        rw [hd] at e
        injection e with e1 e2
        simp only [List.map_cons, List.sum_cons] at hs ⊢
        refine EV.step (fun k => by rw [spec_l9Count.l0]) (EV.pos (by omega) (EV.pos (by omega) (EV.pos (by omega) ?_)))
        rw [rdL_nat a i hil, ← e1]
        have hcn0 := ih (l ++ [p]) (by simp; omega) (fun q hq => by
          rcases List.mem_append.1 hq with hq | hq
          · exact hlr q hq
          · simp at hq; subst hq; exact hr _ (by rw [e1]; exact List.getElem_mem _))
        have hih := fun s' => ihr (i + 1) s' e2.symm (by simp at hi; omega)
        generalize cN g w a m (l ++ [p]) = cn at hs hcn0 ⊢
        generalize (r.map fun p => cN g w a m (l ++ [p])).sum = S at hs hih ⊢
        refine EV.bind hcn0 ?_
        · have ew : wrap64 ((i : Int) + 1) = ((i + 1 : Nat) : Int) := by rw [w64 (by omega) (by omega)]; omega
          have es : wrap64 ((s : Int) + (cn : Int)) = ((s + cn : Nat) : Int) := by rw [w64 (by omega) (by omega)]; omega
          rw [ew, es]
          refine (hih (s + cn) (by rw [Nat.add_assoc]; exact hs)).eq ?_
          rw [Nat.add_assoc]
    have h9 : (a.map fun p => cN g w a m (l ++ [p])).sum ≤ 1296 := cN_small g w ha (m := m + 1) (by omega) l
    have h8 := go a 0 0 rfl (by omega) (by rw [Nat.zero_add]; exact h9)
    rw [Nat.zero_add] at h8
    exact h8

/-- lo * (lo + 1) * .. , c factors -/
def rise : Nat → Nat → Int
  | _, 0 => 1
  | lo, c + 1 => (lo : Int) * rise (lo + 1) c
theorem wrap64_mul (a b : Int) : wrap64 (wrap64 a * b) = wrap64 (a * b) := by
  have h : ∃ q : Int, wrap64 a = a + 18446744073709551616 * q := by
    unfold wrap64
    exact ⟨-((a + 9223372036854775808) / 18446744073709551616), by omega⟩
  obtain ⟨q, h⟩ := h
  rw [h, Int.add_mul, Int.mul_assoc]
  generalize q * b = m
  unfold wrap64; omega
theorem spec_l7Factorial_l0 (n : Int) (hn : n ≤ 100000) : ∀ (c lo : Nat) (acc : Int), c = (n + 1 - lo).toNat → lo ≤ 100001 → EV (fun k => spec_l7Factorial.l0 k n (wrap64 acc) (lo : Int)) (wrap64 (acc * rise lo c)) := by
  intro c
  induction c with
  | zero =>
    intro lo acc h hl
    refine EV.step (fun k => by rw [spec_l7Factorial.l0]) ?_
    exact EV.neg (by omega) ((EV.now _).eq (by simp [rise]))
  | succ c ih =>
    intro lo acc h hl
    refine EV.step (fun k => by rw [spec_l7Factorial.l0]) ?_
    rw [wrap64_mul, w64 (x := (lo : Int) + 1) (by omega) (by omega)]
    have := ih (lo + 1) (acc * lo) (by omega) (by omega)
    refine EV.pos (by omega) (EV.congr (fun k => by simp) (this.eq ?_))
    simp only [rise]; rw [Int.mul_assoc]
theorem spec_l7Factorial_is (n : Int) (hn : n ≤ 100000) : EV (fun k => spec_l7Factorial.f k n) (wrap64 (rise 2 (n - 1).toNat)) := by
  have := spec_l7Factorial_l0 n hn (n + 1 - 2).toNat 2 1 (by omega) (by omega)
  rw [wrap_1] at this
  exact EV.congr (fun k => rfl) (this.eq (by rw [Int.one_mul, show n + 1 - 2 = n - 1 by omega]))

theorem impl_within_is (a b c : Int) : impl_within.f a b c = some (decide (b ≤ a ∧ a ≤ c)) := by
  unfold impl_within.f
  by_cases h : a ≥ b
  · rw [if_pos h]; simp [show b ≤ a from h]
  · rw [if_neg h]; simp; omega

theorem impl_identity_is (n : Nat) (hn : n < 4294967296) : EV (fun k => impl_identity.f k (n : Int)) (idM n) := by
  refine EV.count (g := fun k s i => impl_identity.l0 k s (n : Int) i) n idM _ (fun i hi H => ?_) ?_
  · refine EV.step (fun k => by rw [impl_identity.l0]) ?_
    rw [w64 (x := (i : Int) + 1) (by omega) (by omega)]
    refine EV.pos (by omega) (EV.pos (by simp [idM]; omega) ?_)
    simpa [idM, List.range_succ] using H
  · refine EV.step (fun k => by rw [impl_identity.l0]) ?_
    exact EV.neg (by omega) (EV.now _)

theorem impl_isPermutation_l0 (p : List Int) (hn : p.length < 4611686018427387904) : ∀ (suf pre : List Int), p = pre ++ suf → pre.Nodup →
    EV (fun k => impl_isPermutation.l0 k p (seenM p.length pre) p (p.length : Int) (pre.length : Int)) (suf.all (inB p.length) && decide (pre ++ suf).Nodup) := by
  intro suf
  induction suf with
  | nil =>
    intro pre h hp
    refine EV.step (fun k => by rw [impl_isPermutation.l0]) ?_
    exact EV.neg (by subst h; simp) ((EV.now _).eq (by simp [hp]))
  | cons x suf ih =>
    intro pre h hp
    have hpl : pre.length < 4611686018427387904 := by subst h; simp at hn; omega
    have hlt : (pre.length : Int) < (p.length : Int) := by subst h; exact lt_app ..
    have hx : rd p (pre.length : Int) = x := by subst h; exact rd_app ..
    refine EV.step (fun k => by rw [impl_isPermutation.l0]) ?_
    rw [hx, up (x := x) hpl, w64 (x := (p.length : Int) - 1) (by omega) (by omega)]
    refine EV.pos hlt (EV.pos (by omega) (EV.pos hlt (EV.by (impl_within_is _ _ _) ?_)))
    by_cases hb : inB p.length x = true
    · have b := inB_of hb
      refine EV.pos (by simp; omega) (EV.pos b.1 (EV.pos (by simp [seenM]; omega) ?_))
      rw [show rdOf false (seenM p.length pre) x = decide (x ∈ pre) by unfold seenM; rw [rdOf_tab _ _ _ _ b.1 b.2, show ((x.toNat : Nat) : Int) = x by omega]]
      by_cases hm : x ∈ pre
      · refine EV.pos (by simpa using hm) ((EV.now _).eq ?_)
        rw [decide_eq_false, Bool.and_false]
        intro c
        exact (List.nodup_append.1 c).2.2 x hm x (by simp) rfl
      · refine EV.neg (by simpa using hm) ?_
        rw [seenM_snoc _ _ _ b.1]
        refine (ih (pre ++ [x]) (by simp [h]) ?_).eq (by simp [hb])
        rw [List.nodup_append]
        refine ⟨hp, by simp, fun a ha c hc => ?_⟩
        rw [List.mem_singleton] at hc
        intro e; exact hm (by rw [← hc, ← e]; exact ha)
    · refine EV.neg (by simp only [inB, decide_eq_true_iff] at hb; simp; omega) ((EV.now _).eq ?_)
      rw [List.all_cons, show inB p.length x = false by simpa using hb]; simp
theorem impl_isPermutation_is (p : List Int) (hn : p.length < 4294967296) : EV (fun k => impl_isPermutation.f k p) (permB p) := by
  refine EV.pos (by omega) (EV.pos (by omega) ?_)
  have := impl_isPermutation_l0 p (by omega) p [] rfl List.nodup_nil
  rw [seenM_nil] at this
  exact this

theorem impl_areSheets_is (l : List (List Int)) (hn : l.length < 4294967296) (hr : ∀ r ∈ l, r.length < 4294967296) : EV (fun k => impl_areSheets.f k l) (sheetsB l) := by
  have := EV.scan (g := fun k i => impl_areSheets.l0 k l l (l.length : Int) i) l (fun r => decide (1 ≤ r.length ∧ r.length ≤ 5) && sheetB (d0 l) r) (decide (0 < l.length)) (fun i h r H1 H2 => ?_) ?_
  · refine EV.eq this ?_
    rw [Bool.eq_iff_iff]
    simp only [sheetsB, sheetB, Bool.and_eq_true, decide_eq_true_iff, List.all_eq_true]
    constructor
    · intro h
      have z := h.1 _ (List.getElem_mem h.2)
      exact ⟨h.2, by omega, fun r hr => (h.1 r hr).2⟩
    · intro h
      exact ⟨fun r hr => ⟨by have := h.2.2 r hr; omega, h.2.2 r hr⟩, h.1⟩
  · refine EV.step (fun k => by rw [impl_areSheets.l0]) ?_
    rw [rdL_nat _ _ h, w64 (x := (i : Int) + 1) (by omega) (by omega), rdL_zero]
    refine EV.pos (by omega) (EV.pos (by omega) (EV.pos (by omega) (EV.pos (by omega) ?_)))
    by_cases hl : (l[i]).length = d0 l
    · refine EV.pos (by unfold d0 at hl; omega) (EV.by (impl_within_is _ _ _) ?_)
      by_cases h5 : 1 ≤ (l[i]).length ∧ (l[i]).length ≤ 5
      · refine EV.pos (by simp; omega) (EV.bind (impl_isPermutation_is _ (hr _ (List.getElem_mem h))) ?_)
        exact EV.cases (fun c => H1 (by simp only [sheetB, c, decide_eq_true hl, decide_eq_true h5, Bool.and_self])) (fun c => (EV.now _).eq (H2 (by simp only [sheetB, show permB l[i] = false by simpa using c, Bool.and_false])).symm)
      · exact EV.neg (by simp; omega) ((EV.now _).eq (H2 (by simp only [decide_eq_false h5, Bool.false_and])).symm)
    · exact EV.neg (by unfold d0 at hl; omega) ((EV.now _).eq (H2 (by simp [sheetB, hl])).symm)
  · refine EV.step (fun k => by rw [impl_areSheets.l0]) ?_
    exact EV.neg (by omega) ((EV.now _).eq (by rw [Bool.eq_iff_iff]; simp))

theorem impl_sameInts_is (xs ys : List Int) (hn : xs.length < 4294967296) : EV (fun k => impl_sameInts.f k xs ys) (decide (xs = ys)) := by
  by_cases h : xs.length = ys.length
  · refine EV.pos (by omega) ?_
    have := EV.countB (g := fun k i => impl_sameInts.l0 k xs ys (xs.length : Int) i) xs.length (fun i => decide (xs.getD i 0 = ys.getD i 0)) true (fun i hi r H1 H2 => ?_) ?_
    · refine EV.eq this ?_
      rw [Bool.eq_iff_iff, Bool.and_true, List.all_eq_true, decide_eq_true_iff]
      constructor
      · intro hh
        apply List.ext_getElem h
        intro i h1 h2
        have := hh i (List.mem_range.2 h1)
        rw [decide_eq_true_iff] at this
        simpa [h1, h2] using this
      · intro e i _; rw [e]; simp
    · have hi' : i < ys.length := by omega
      have e1 : xs.getD i 0 = xs[i] := by simp [hi]
      have e2 : ys.getD i 0 = ys[i] := by simp [hi']
      rw [e1, e2] at H1 H2
      refine EV.step (fun k => by rw [impl_sameInts.l0]) ?_
      rw [rd_nat _ _ hi, rd_nat _ _ hi', w64 (x := (i : Int) + 1) (by omega) (by omega)]
      refine EV.pos (by omega) (EV.pos (by omega) (EV.pos (by omega) (EV.pos (by omega) ?_)))
      exact EV.cases (fun c => H1 (by simpa using c)) (fun c => (EV.now _).eq (H2 (by simpa using c)).symm)
    · refine EV.step (fun k => by rw [impl_sameInts.l0]) ?_
      exact EV.neg (by omega) (EV.now _)
  · exact EV.neg (by omega) ((EV.now _).eq (by simp; intro e; exact h (by rw [e])))

theorem impl_then_is (p q : List Int) (hp : ∀ x ∈ p, 0 ≤ x ∧ x < q.length) (hn : p.length < 4294967296) : EV (fun k => impl_then.f k p q) (thenM p q) := by
  have := EV.count (g := fun k s i => impl_then.l0 k q s p (p.length : Int) i) p.length (fun i => thenM (p.take i) q) (thenM p q) (fun i hi H => ?_) ?_
  · exact this
  · have hx := hp _ (List.getElem_mem hi)
    refine EV.step (fun k => by rw [impl_then.l0]) ?_
    rw [rd_nat _ _ hi, w64 (x := (i : Int) + 1) (by omega) (by omega)]
    refine EV.pos (by omega) (EV.pos (by omega) (EV.pos (by omega) (EV.pos hx.1 (EV.pos hx.2 (EV.pos (by simp [thenM]; omega) ?_)))))
    rw [List.take_succ_eq_append_getElem hi] at H
    have e : thenM (p.take i ++ [p[i]]) q = thenM (p.take i) q ++ [rd q p[i]] := by rw [thenM, List.map_append]; rfl
    rw [e] at H
    exact H
  · refine EV.step (fun k => by rw [impl_then.l0]) ?_
    rw [List.take_length]
    exact EV.neg (by omega) (EV.now _)

theorem impl_size_is (a : Int) (h : -9223372036854775808 < a) (h' : a ≤ 9223372036854775807) : impl_size.f a = some (a.natAbs : Int) := by
  unfold impl_size.f mx
  rw [w64 (by omega) (by omega)]
  congr 1
  split <;> omega
theorem impl_inversePermutation_is (p : List Int) (hp : ∀ x ∈ p, 0 ≤ x ∧ x < p.length) (hn : p.length < 4294967296) : EV (fun k => impl_inversePermutation.f k p) (invM p) := by
  refine EV.pos (by omega) (EV.pos (by omega) ?_)
  refine EV.count (g := fun k s i => impl_inversePermutation.l0 k s p (p.length : Int) i) p.length (invK p) _ (fun i hi H => ?_) ?_
  · have hx := hp _ (List.getElem_mem hi)
    have hl : (invK p i).length = p.length := (invK_I p (by omega) i (by omega)).1
    refine EV.step (fun k => by rw [impl_inversePermutation.l0]) ?_
    rw [rd_nat _ _ hi, w64 (x := (i : Int) + 1) (by omega) (by omega)]
    refine EV.pos (by omega) (EV.pos (by omega) (EV.pos (by omega) (EV.pos (by omega) (EV.pos (by omega) ?_))))
    rw [invK_succ] at H
    have e : p.getD i 0 = p[i] := by simp [hi]
    rw [e] at H
    exact H
  · refine EV.step (fun k => by rw [impl_inversePermutation.l0]) ?_
    exact EV.neg (by omega) (EV.now _)

theorem impl_act_is (l : List (List Int)) (w : List Int) (hs : sheetsB l = true) (hw : lettersB l w) (hn : w.length < 4294967296) : EV (fun k => impl_act.f k l w) (actL l w) := by
  have S := sheetsB_of hs
  have e : actL l w = actK l w (idM (d0 l)) := by rw [actK_eq]; rfl
  rw [e]
  refine EV.pos (by omega) (EV.bind (a := idM (d0 l)) ?_ ?_)
  · rw [rdL_zero]; exact impl_identity_is (d0 l) (by omega)
  · refine EV.fold (g := fun k s i => impl_act.l0 k l s w (w.length : Int) i) w (fun out a => thenM out (stepP l a)) id (fun _ s => s.length = d0 l ∧ ∀ x ∈ s, 0 ≤ x ∧ x < d0 l) (fun i h s r hI H => ?_) (fun s hI => ?_) _ (idM_I _)
    · have ha := hw _ (List.getElem_mem h)
      have I := stepP_I hs ha.1 ha.2.1
      have hi : (w[i]).natAbs - 1 < l.length := by omega
      have row := S.2.2.2 _ (List.getElem_mem hi)
      have e : l.getD ((w[i]).natAbs - 1) [] = l[(w[i]).natAbs - 1] := by simp [hi]
      have H := H (thenM_I hI I)
      refine EV.step (fun k => by rw [impl_act.l0]) ?_
      rw [rd_nat _ _ h, w64 (x := (i : Int) + 1) (by omega) (by omega)]
      refine EV.pos (by omega) (EV.pos (by omega) (EV.pos (by omega) (EV.by (impl_size_is _ (by omega) (by omega)) ?_)))
      rw [w64 (x := ((w[i]).natAbs : Int) - 1) (by omega) (by omega), show (((w[i]).natAbs : Int) - 1) = (((w[i]).natAbs - 1 : Nat) : Int) by omega, rdL_nat _ _ hi]
      refine EV.pos (by omega) (EV.pos (by omega) ?_)
      by_cases hneg : w[i] < 0
      · have e2 : stepP l w[i] = invM l[(w[i]).natAbs - 1] := by unfold stepP; rw [if_pos hneg, e]
        rw [e2] at I H
        exact EV.pos hneg (EV.bind (impl_inversePermutation_is _ (permB_of row.2).1 (by omega)) (EV.bind (impl_then_is s _ (by rw [I.1]; exact hI.2) (by omega)) H))
      · have e2 : stepP l w[i] = l[(w[i]).natAbs - 1] := by unfold stepP; rw [if_neg hneg, e]
        rw [e2] at I H
        exact EV.neg hneg (EV.bind (impl_then_is s _ (by rw [I.1]; exact hI.2) (by omega)) H)
    · refine EV.step (fun k => by rw [impl_act.l0]) ?_
      exact EV.neg (by omega) (EV.now _)

theorem impl_relator_is (g : Int) : impl_relator.f g = some (if g = 1 then [1, 2, -1, -2] else [1, 2, -1, -2, 3, 4, -3, -4]) := by
  unfold impl_relator.f
  split <;> rfl

theorem impl_IsAction_is (g : Int) (l : List (List Int)) (hn : l.length < 4294967296) (hr : ∀ r ∈ l, r.length < 4294967296) : EV (fun k => impl_IsAction.f k g l) (actionB g l) := by
  have no : EV (fun k => impl_IsAction.j0 k g l true) false := by
    refine EV.step (fun k => by rw [impl_IsAction.j0]) ?_
    exact EV.pos rfl (EV.now _)
  unfold actionB
  refine EV.by (impl_within_is _ _ _) ?_
  by_cases h1 : 0 ≤ g ∧ g ≤ 2
  · rw [decide_eq_true h1, Bool.true_and]
    have m := mxM_of h1
    have e : mx (wrap64 (2 * g)) 2 = 2 * mxM g := by
      rw [w64 (by omega) (by omega)]; unfold mx; split <;> omega
    rw [e]
    refine EV.pos rfl ?_
    by_cases h3 : (l.length : Int) = 2 * mxM g
    · rw [decide_eq_true h3, Bool.true_and]
      refine EV.pos h3 (EV.bind (impl_areSheets_is l hn hr) ?_)
      by_cases h2 : sheetsB l = true
      · have S := sheetsB_of h2
        rw [h2, Bool.true_and]
        refine EV.step (fun k => by rw [impl_IsAction.j0]) ?_
        refine EV.neg (by simp) ?_
        by_cases h0 : g = 0
        · exact EV.pos h0 ((EV.now _).eq (by simp [h0]))
        · have hm : (g = 1 ∨ g = 2) ∧ mxM g = g := by omega
          have er : (if g = 1 then [1, 2, -1, -2] else [1, 2, -1, -2, 3, 4, -3, -4] : List Int) = relM g := by
            unfold relM
            split
            · rfl
            · rw [if_pos (by omega)]
          refine EV.neg h0 (EV.by (impl_relator_is _) ?_)
          rw [er]
          have hok := rel_ok (l := l) hm.1 (by rw [h3, hm.2])
          refine EV.bind (impl_act_is l _ h2 (letters_of hok).1 (by have := @relM_len g; omega)) (EV.pos (by omega) (EV.bind (a := idM (d0 l)) ?_ ?_))
          · rw [rdL_zero]; exact impl_identity_is (d0 l) (by omega)
          · refine EV.bind (impl_sameInts_is _ _ (by rw [actL_len]; omega)) ((EV.now _).eq ?_)
            rw [decide_eq_false h0, Bool.false_or]
      · rw [show sheetsB l = false by simpa using h2, Bool.false_and]; exact no
    · rw [decide_eq_false h3, Bool.false_and]
      exact EV.neg h3 no
  · rw [decide_eq_false h1, Bool.false_and]
    exact EV.neg (by simp) no

theorem impl_top_N {n : Nat} {up : List Int} (hu : upB n up) : ∀ (m : Nat) (s : Int), 0 ≤ s → s < n → s.toNat ≤ m → EV (fun k => impl_parts.top k up s) (rootN up m s)
  | 0, s, h0, h1, hm => by
    have a := up_get hu h0 h1
    refine EV.step (fun k => by rw [impl_parts.top]) ?_
    rw [rd_getD]
    refine EV.pos h0 (EV.pos (by have := hu.1; omega) (EV.pos (by omega) ((EV.now _).eq rfl)))
  | m + 1, s, h0, h1, hm => by
    have a := up_get hu h0 h1
    refine EV.step (fun k => by rw [impl_parts.top]) ?_
    rw [rd_getD]
    refine EV.pos h0 (EV.pos (by have := hu.1; omega) ?_)
    simp only [rootN]
    by_cases e : up.getD s.toNat 0 = s
    · rw [if_pos e]; exact EV.pos e (EV.now _)
    · rw [if_neg e]
      exact EV.neg e (impl_top_N hu m _ a.1 (by omega) (by omega))
theorem impl_top_is {n : Nat} {up : List Int} (hu : upB n up) {s : Int} (h0 : 0 ≤ s) (h1 : s < n) : EV (fun k => impl_parts.top k up s) (rootI up s) := impl_top_N hu _ s h0 h1 (Nat.le_refl _)
theorem impl_join_is {n : Nat} {up : List Int} (hu : upB n up) {a b : Int} (ha : 0 ≤ a ∧ a < n) (hb : 0 ≤ b ∧ b < n) : EV (fun k => impl_parts.join k up a b) (joinM up a b) := by
  have ra := rootI_le hu ha.1 ha.2
  have rb := rootI_le hu hb.1 hb.2
  have hl := hu.1
  refine EV.bind (impl_top_is hu ha.1 ha.2) (EV.bind (impl_top_is hu hb.1 hb.2) ?_)
  exact EV.cases (fun h => EV.pos (by omega) (EV.pos (by omega) ((EV.now _).eq (by unfold joinM; rw [if_pos h])))) (fun h => EV.pos (by omega) (EV.pos (by omega) ((EV.now _).eq (by unfold joinM; rw [if_neg h]))))
theorem impl_parts_own {l : List (List Int)} {up : List Int} (hu : upB (d0 l) up) (hn : d0 l ≤ 5) (s : Nat) (hs : s < d0 l) (out : List (List Int)) (ho : out.length ≤ 5) (R : List (List Int))
    (H : EV (fun k => impl_parts.l3 k l up (out ++ [ownM (d0 l) up s]) (wrap64 ((s : Int) + 1))) R) : EV (fun k => impl_parts.l4 k l up out (s : Int) [] 0) R := by
  have hrow : (rd_L1 l 0).length = d0 l := by rw [rdL_zero]; rfl
  refine EV.foldC (g := fun k own t => impl_parts.l4 k l up out (s : Int) own t) (List.range (d0 l)) (fun own (t : Nat) => if rootI up (t : Int) = (s : Int) then own ++ [(t : Int)] else own) (fun i own => own.length ≤ i) R (fun i hi own hI K => ?_) [] (by simp) (fun hI => ?_)
  · have hi' : i < d0 l := by simpa using hi
    rw [List.getElem_range] at K
    refine EV.step (fun k => by rw [impl_parts.l4]) ?_
    rw [hrow, w64 (x := (i : Int) + 1) (by omega) (by omega)]
    refine EV.pos (by omega) (EV.bind (impl_top_is hu (by omega) (by omega)) ?_)
    by_cases e : rootI up (i : Int) = (s : Int)
    · rw [if_pos e] at K
      exact EV.pos e (EV.pos (by omega) (K (by simp; omega)))
    · rw [if_neg e] at K
      exact EV.neg e (K (by omega))
  · rw [List.length_range]
    refine EV.step (fun k => by rw [impl_parts.l4]) ?_
    rw [hrow]
    exact EV.neg (by omega) (EV.pos (by omega) H)
theorem impl_parts_out {l : List (List Int)} {up : List Int} (hu : upB (d0 l) up) (hn : d0 l ≤ 5) : EV (fun k => impl_parts.l3 k l up [] 0) (outM2 (d0 l) up) := by
  have hrow : (rd_L1 l 0).length = d0 l := by rw [rdL_zero]; rfl
  refine EV.fold (g := fun k out s => impl_parts.l3 k l up out s) (List.range (d0 l)) (fun out (s : Nat) => if up.getD s 0 = (s : Int) then out ++ [ownM (d0 l) up s] else out) id (fun i out => out.length ≤ i) (fun i hi out r hI K => ?_) (fun out hI => ?_) [] (by simp)
  · have hi' : i < d0 l := by simpa using hi
    rw [List.getElem_range] at K
    refine EV.step (fun k => by rw [impl_parts.l3]) ?_
    rw [hrow]
    refine EV.pos (by omega) (EV.bind (impl_top_is hu (by omega) (by omega)) ?_)
    have sf := rootI_self hu (s := (i : Int)) (by omega) (by omega)
    rw [Int.toNat_natCast] at sf
    by_cases e : up.getD i 0 = (i : Int)
    · rw [if_pos e] at K
      refine EV.pos (sf.2 e) (impl_parts_own hu hn i hi' out (by omega) r ?_)
      rw [w64 (x := (i : Int) + 1) (by omega) (by omega)]
      exact K (by simp; omega)
    · rw [if_neg e] at K
      rw [w64 (x := (i : Int) + 1) (by omega) (by omega)]
      exact EV.neg (fun h => e (sf.1 h)) (K (by omega))
  · rw [List.length_range]
    refine EV.step (fun k => by rw [impl_parts.l3]) ?_
    rw [hrow]
    exact EV.neg (by omega) (EV.now _)
theorem impl_parts_row {l : List (List Int)} (hs : sheetsB l = true) (hn : l.length ≤ 1000) (i : Nat) (hi : i < l.length) (up : List Int) (hu : upB (d0 l) up) (R : List (List Int))
    (H : upB (d0 l) (rowM (d0 l) up l[i]) → EV (fun k => impl_parts.l1 k l (rowM (d0 l) up l[i]) (wrap64 ((i : Int) + 1))) R) : EV (fun k => impl_parts.l2 k l up (i : Int) 0) R := by
  have s := sheetsB_of hs
  have row := s.2.2.2 _ (List.getElem_mem hi)
  have P := (permB_of row.2).1
  refine EV.foldC (g := fun k up s => impl_parts.l2 k l up (i : Int) s) (List.range (d0 l)) (fun up (s : Nat) => joinM up (s : Int) (l[i].getD s 0)) (fun _ up => upB (d0 l) up) R (fun j hj up hI K => ?_) up hu (fun hI => ?_)
  · have hj' : j < d0 l := by simpa using hj
    have hj2 : j < l[i].length := by omega
    rw [List.getElem_range] at K
    have hx : 0 ≤ l[i].getD j 0 ∧ l[i].getD j 0 < (d0 l : Nat) := by
      rw [List.getD_eq_getElem?_getD, List.getElem?_eq_getElem hj2]
      have := P _ (List.getElem_mem hj2)
      simp only [Option.getD_some]; omega
    refine EV.step (fun k => by rw [impl_parts.l2]) ?_
    rw [rdL_nat _ _ hi, rd_getD, Int.toNat_natCast, w64 (x := (j : Int) + 1) (by omega) (by omega)]
    exact EV.pos (by omega) (EV.pos (by omega) (EV.bind (impl_join_is hI (by omega) hx) (K (joinM_I hI (by omega) hx))))
  · rw [List.length_range]
    refine EV.step (fun k => by rw [impl_parts.l2]) ?_
    rw [rdL_nat _ _ hi]
    exact EV.neg (by omega) (H hI)
theorem impl_parts_is {l : List (List Int)} (hs : sheetsB l = true) (hn : l.length ≤ 1000) : EV (fun k => impl_parts.f k l) (partsM l) := by
  have s := sheetsB_of hs
  have hrow : (rd_L1 l 0).length = d0 l := by rw [rdL_zero]; rfl
  refine EV.pos (by omega) (EV.bind (a := idM (d0 l)) ?_ ?_)
  · rw [hrow]
    refine EV.count (g := fun k up i => impl_parts.new k up ((d0 l : Nat) : Int) i) (d0 l) (fun i => idM i) _ (fun i hi H => ?_) ?_
    · refine EV.step (fun k => by rw [impl_parts.new]) ?_
      rw [w64 (x := (i : Int) + 1) (by omega) (by omega)]
      refine EV.pos (by omega) (EV.pos (by simp [idM]; omega) ?_)
      have e : idM (i + 1) = idM i ++ [(i : Int)] := by simp [idM, List.range_succ]
      rw [e] at H; exact H
    · refine EV.step (fun k => by rw [impl_parts.new]) ?_
      exact EV.neg (by omega) (EV.now _)
  · refine EV.foldC (g := fun k up i => impl_parts.l1 k l up i) l (rowM (d0 l)) (fun _ up => upB (d0 l) up) _ (fun i hi up hI K => ?_) (idM (d0 l)) (upB_id _) (fun hI => ?_)
    · refine EV.step (fun k => by rw [impl_parts.l1]) ?_
      refine EV.pos (by omega) (EV.pos (by omega) (impl_parts_row hs hn i hi up hI _ (fun h => ?_)))
      rw [w64 (x := (i : Int) + 1) (by omega) (by omega)]
      exact K h
    · refine EV.step (fun k => by rw [impl_parts.l1]) ?_
      exact EV.neg (by omega) (impl_parts_out (allM_I hs) s.2.2.1)

set_option maxHeartbeats 2000000 in
theorem impl_count_rF (g : Int) (a : List (List Int)) (ha : a.length ≤ 6) (hr : ∀ r ∈ a, r.length < 4294967296) : ∀ (m : Nat) (l : List (List Int)) (x y : Nat), l.length + m ≤ 4 → x + cN g false a m l ≤ 100000 → y + cN g true a m l ≤ 100000 → (∀ r ∈ l, r.length < 4294967296) →
    EV (fun k => impl_countActions.rF k g a m l ((x : Int), (y : Int))) (((x + cN g false a m l : Nat) : Int), ((y + cN g true a m l : Nat) : Int)) := by
  intro m
  induction m with
  | zero =>
    intro l x y hl hx hy hlr
    refine EV.congr (fun k => by rw [impl_countActions.rF]) (EV.bind (impl_IsAction_is g l (by omega) hlr) ?_)
    refine EV.cases (fun h => ?_) (fun h => ?_)
    · have w1 : wrap64 ((x : Int) + 1) = ((x + 1 : Nat) : Int) := by rw [w64 (by omega) (by omega)]; omega
      have w2 : wrap64 ((y : Int) + 1) = ((y + 1 : Nat) : Int) := by rw [w64 (by omega) (by omega)]; omega
      refine EV.bind (impl_parts_is (leaf_true h) (by omega)) (EV.cases (fun hp => (EV.now _).eq ?_) (fun hp => (EV.now _).eq ?_))
      · have q : (partsM l).length = 1 := by omega
        simp only [cN, leafN, h, q, w1, w2]; simp
      · have q : ¬ (partsM l).length = 1 := by omega
        simp only [cN, leafN, h, q, w1]; simp
    · refine (EV.now _).eq ?_
      simp [cN, leafN, h]
  | succ m ih =>
    intro l x y hl hx hy hlr
    refine EV.congr (fun k => by rw [impl_countActions.rF]) (EV.pos (show l.length < 1000 ∧ a.length < 100000 from ⟨by omega, by omega⟩) ?_)
    have go : ∀ (r : List (List Int)) (i c : Nat) (x y : Nat), c = r.length → a.drop i = r → i + r.length = a.length → x + (r.map fun p => cN g false a m (l ++ [p])).sum ≤ 100000 → y + (r.map fun p => cN g true a m (l ++ [p])).sum ≤ 100000 →
        EV (fun k => impl_countActions.rL (fun p st => impl_countActions.rF k g a m (l ++ [p]) st) a c i ((x : Int), (y : Int))) (((x + (r.map fun p => cN g false a m (l ++ [p])).sum : Nat) : Int), ((y + (r.map fun p => cN g true a m (l ++ [p])).sum : Nat) : Int)) := by
      intro r
      induction r with
      | nil => intro i c x y hc hd hi hx hy; subst hc; exact (EV.now _).eq (by simp)
      | cons p r ihr =>
        intro i c x y hc hd hi hx hy
        subst hc
        have hil : i < a.length := by simp at hi; omega
        have e := List.drop_eq_getElem_cons hil
        rw [hd] at e
        injection e with e1 e2
        simp only [List.map_cons, List.sum_cons] at hx hy ⊢
        have hp : ∀ q ∈ l ++ [p], q.length < 4294967296 := fun q hq => by
          rcases List.mem_append.1 hq with hq | hq
          · exact hlr q hq
          · simp at hq; subst hq; exact hr _ (by rw [e1]; exact List.getElem_mem _)
        have h1 := ih (l ++ [p]) x y (by simp; omega)
        have h2 := fun x y => ihr (i + 1) r.length x y rfl e2.symm (by simp at hi; omega)
        simp only [List.length_cons]
        generalize cN g false a m (l ++ [p]) = c1 at hx h1 ⊢
        generalize cN g true a m (l ++ [p]) = c2 at hy h1 ⊢
        generalize (r.map fun p => cN g false a m (l ++ [p])).sum = S1 at hx h2 ⊢
        generalize (r.map fun p => cN g true a m (l ++ [p])).sum = S2 at hy h2 ⊢
        have h1 := h1 (by omega) (by omega) hp
        have h2 := h2 (x + c1) (y + c2) (by omega) (by omega)
        refine EV.congr (fun k => by rw [impl_countActions.rL, rdL_nat a i hil, ← e1]) (EV.bind h1 (h2.eq ?_))
        rw [Nat.add_assoc, Nat.add_assoc]
    have := go a 0 a.length x y rfl rfl (by omega) hx hy
    exact this
/-- both enumerations are of the same orders -/
def cntOk (n : Nat) : Bool := match spec_l9All.f 3000 (n : Int), impl_countActions.oR impl_countActions.run1 n 0 (idM n) [] with
  | some a, some b => b.isPerm a && decide (a.length ≤ 6 ∧ b.length ≤ 6 ∧ (∀ r ∈ a, r.length ≤ 3) ∧ (∀ r ∈ b, r.length ≤ 3))
  | _, _ => false
theorem cntOk_1 : cntOk 1 = true := by decide +kernel
theorem cntOk_2 : cntOk 2 = true := by decide +kernel
theorem cntOk_3 : cntOk 3 = true := by decide +kernel
theorem both_orders (n : Nat) (h1 : 1 ≤ n) (h3 : n ≤ 3) : ∃ a b : List (List Int), EV (fun k => spec_l9All.f k (n : Int)) a ∧ impl_countActions.oR impl_countActions.run1 n 0 (idM n) [] = some b ∧ b.Perm a ∧ a.length ≤ 6 ∧ b.length ≤ 6 ∧ (∀ r ∈ a, r.length < 4294967296) ∧ (∀ r ∈ b, r.length < 4294967296) := by
  have ok : cntOk n = true := by
    have : n = 1 ∨ n = 2 ∨ n = 3 := by omega
    rcases this with rfl | rfl | rfl
    · exact cntOk_1
    · exact cntOk_2
    · exact cntOk_3
  unfold cntOk at ok
  cases e : spec_l9All.f 3000 (n : Int) with
  | none => rw [e] at ok; cases ok
  | some a =>
    cases e2 : impl_countActions.oR impl_countActions.run1 n 0 (idM n) [] with
    | none => rw [e, e2] at ok; cases ok
    | some b =>
      rw [e, e2] at ok
      simp only [Bool.and_eq_true, decide_eq_true_eq] at ok
      obtain ⟨o1, o2, o3, o4, o5⟩ := ok
      exact ⟨a, b, EV.mono (g := fun k => spec_l9All.f k (n : Int)) (fun k => spec_l9All.mono _ k) e, rfl, List.isPerm_iff.1 o1, o2, o3, fun r hr => by have := o4 r hr; omega, fun r hr => by have := o5 r hr; omega⟩
/-- the numbers of actions: for both sides -/
theorem counts (g : Int) (hg : 0 ≤ g ∧ g ≤ 2) (n : Nat) (h1 : 1 ≤ n) (h3 : n ≤ 3) : ∃ (a : List (List Int)) (x y : Nat), x ≤ 1296 ∧ y ≤ 1296 ∧ EV (fun k => spec_l9All.f k (n : Int)) a ∧ EV (fun k => spec_l9Count.f k g a [] false) (x : Int) ∧ EV (fun k => spec_l9Count.f k g a [] true) (y : Int) ∧ EV (fun k => impl_countActions.f k g (n : Int)) ((x : Int), (y : Int)) := by
  obtain ⟨a, b, ea, eb, hp, la, lb, ra, rb⟩ := both_orders n h1 h3
  have hx := mxM_of hg
  have hm : ((2 * (mxM g).toNat : Nat) : Int) = 2 * mxM g := by omega
  have hm4 : 2 * (mxM g).toNat ≤ 4 := by omega
  refine ⟨a, cN g false a (2 * (mxM g).toNat) [], cN g true a (2 * (mxM g).toNat) [], cN_small g _ la hm4 _, cN_small g _ la hm4 _, ea, spec_l9Count_is g hg false a la ra _ [] (by simp; omega) (by simp), spec_l9Count_is g hg true a la ra _ [] (by simp; omega) (by simp), ?_⟩
  unfold impl_countActions.f
  have il : (idM n).length = n := by simp [idM]
  refine EV.pos (by omega) (EV.bind (impl_identity_is n (by omega)) (EV.pos (by omega) ?_))
  rw [il, eb]
  have hmx : max (2 * g.toNat) 2 = 2 * (mxM g).toNat := by omega
  rw [hmx]
  have h := impl_count_rF g b lb rb (2 * (mxM g).toNat) [] 0 0 (by simp; omega) (by have := cN_small g false lb hm4 []; omega) (by have := cN_small g true lb hm4 []; omega) (by simp)
  refine EV.by rfl (h.eq ?_)
  rw [cN_perm g false hp, cN_perm g true hp]; simp

theorem FnExactCountCovers : laws_FnExactCountCovers.Pure := by
  intro g n hg hn
  refine EV.rounds ?_
  by_cases h : (0 ≤ g ∧ g ≤ 2) ∧ (1 ≤ n ∧ n ≤ 3)
  · obtain ⟨n, rfl⟩ : ∃ m : Nat, n = m := ⟨n.toNat, by omega⟩
    obtain ⟨a, x, y, hx, hy, e1, e2, e3, e4⟩ := counts g h.1 n (by omega) (by omega)
    obtain ⟨d, hd, hf, ht⟩ : ∃ d : Int, (d = 1 ∨ d = 2) ∧ EV (fun k => spec_l7Factorial.f k (wrap64 ((n : Int) - 1))) d ∧ rd [1, 1, 1, 2] (n : Int) = d := by
      have hn3 : n = 1 ∨ n = 2 ∨ n = 3 := by omega
      rcases hn3 with rfl | rfl | rfl
      · exact ⟨1, .inl rfl, (spec_l7Factorial_is _ (by decide +kernel)).eq (by decide +kernel), rfl⟩
      · exact ⟨1, .inl rfl, (spec_l7Factorial_is _ (by decide +kernel)).eq (by decide +kernel), rfl⟩
      · exact ⟨2, .inr rfl, (spec_l7Factorial_is _ (by decide +kernel)).eq (by decide +kernel), rfl⟩
    have hd0 : ¬ d = 0 := by rcases hd with rfl | rfl <;> decide
    have s : EV (fun k => spec_CountCovers.f k g (n : Int)) (wrap64 (Int.tdiv y d)) := by
      unfold spec_CountCovers.f
      refine EV.by (spec_l1In_is _ _ _) (EV.pos (by simp [h.1]) (EV.by (spec_l1In_is _ _ _) ?_))
      refine EV.step (fun k => by rw [spec_CountCovers.j0]) (EV.neg (by simp; omega) (EV.bind e1 (EV.bind e3 (EV.bind hf (EV.neg hd0 (EV.now _))))))
    have i : EV (fun k => impl_CountCovers.f k g (n : Int)) (wrap64 (Int.tdiv y d)) := by
      unfold impl_CountCovers.f
      refine EV.by (impl_within_is _ _ _) (EV.pos (by simp [h.1]) (EV.by (impl_within_is _ _ _) (EV.pos (by simp; omega) (EV.bind e4 (EV.by rfl (EV.pos (by omega) (EV.pos (by simp; omega) ?_)))))))
      rw [ht]
      exact EV.neg hd0 (EV.now _)
    exact EV.bind s (EV.bind i (EV.pos rfl (EV.now _)))
  · have s : EV (fun k => spec_CountCovers.f k g n) (-1) := by
      unfold spec_CountCovers.f
      refine EV.by (spec_l1In_is _ _ _) (EV.cases (fun h1 => EV.by (spec_l1In_is _ _ _) ?_) (fun h1 => ?_))
      · refine EV.step (fun k => by rw [spec_CountCovers.j0]) (EV.pos ?_ (EV.now _))
        simp at h1 ⊢; omega
      · exact EV.step (fun k => by rw [spec_CountCovers.j0]) (EV.pos rfl (EV.now _))
    have i : EV (fun k => impl_CountCovers.f k g n) (-1) := by
      unfold impl_CountCovers.f
      refine EV.by (impl_within_is _ _ _) (EV.cases (fun h1 => EV.by (impl_within_is _ _ _) (EV.neg ?_ (EV.now _))) (fun h1 => EV.now _))
      simp at h1 ⊢; omega
    exact EV.bind s (EV.bind i (EV.pos rfl (EV.now _)))

end Go.Proofs.Ytlbjgdkmkdpopaa.Pure
