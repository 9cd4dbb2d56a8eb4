/- Pure side of FnBranches: closing up makes passports, braids keep the cover, and maps have the cover of their genus: the printed law answers true at every code; no condition beyond the printed statement's bounds. -/
import Derived.Test.YtkbkkpgllphdhaaVFnBranches
import Derived.Test.YtkbkkpgllphdhaaWSized
set_option linter.unusedVariables false
set_option linter.unusedSimpArgs false
set_option linter.unnecessarySimpa false
set_option maxRecDepth 10000
/-- the printed row calls the print's word by this name -/
abbrev Go.Proofs.Ytkbkkpgllphdhaa.PrintWords.sized_ints := @Go.Proofs.YtkbkkpgllphdhaaW.PrintWords.sized_ints
namespace Go.Proofs.Ytkbkkpgllphdhaa.Pure
open Go.RowKit Go.Proofs.Ytkbkkpgllphdhaa.PFnBranches Go.Proofs.YtkbkkpgllphdhaaW.PrintWords Go.Proofs.YtkbkkpgllphdhaaW.PrintLast Go.Proofs.YtkbkkpgllphdhaaW.PrintMore

/-! ### Base: words of our own, of no program -/
section
theorem w64 {x : Int} (h1 : -9223372036854775808 ≤ x) (h2 : x ≤ 9223372036854775807) : wrap64 x = x := by
  unfold wrap64; omega
/-- from some number of rounds on it answers r -/
structure EV {α : Type} (g : Nat → Option α) (r : α) : Prop where mk :: (out : ∃ K, ∀ k, K ≤ k → g k = some r)
theorem EV.now {α : Type} (r : α) : EV (fun _ => some r) r := ⟨0, fun _ _ => rfl⟩
theorem EV.rounds {α : Type} {g : Nat → Option α} {r : α} (h : EV g r) : ∃ k, g k = some r := by
  obtain ⟨K, h⟩ := h
  exact ⟨K, h K (Nat.le_refl _)⟩
theorem EV.bind {α β : Type} {g : Nat → Option α} {f : Nat → α → Option β} {a : α} {r : β} (h : EV g a) (k : EV (fun n => f n a) r) : EV (fun n => (g n).bind (f n)) r := by
  obtain ⟨K, h⟩ := h
  obtain ⟨K', k⟩ := k
  refine ⟨max K K', fun n hn => ?_⟩
  have h1 := h n (by omega)
  have h2 := k n (by omega)
  simp only [h1, Option.bind_some]
  exact h2
theorem EV.step {α : Type} {g f : Nat → Option α} {r : α} (h : ∀ k, g (k + 1) = f k) (k : EV f r) : EV g r := by
  obtain ⟨K, k⟩ := k
  refine ⟨K + 1, fun n hn => ?_⟩
  obtain ⟨m, rfl⟩ : ∃ m, n = m + 1 := ⟨n - 1, by omega⟩
  rw [h]
  exact k m (by omega)
theorem EV.congr {α : Type} {g f : Nat → Option α} {r : α} (h : ∀ k, g k = f k) (k : EV f r) : EV g r := by
  obtain ⟨K, k⟩ := k
  exact ⟨K, fun n hn => (h n).trans (k n hn)⟩
theorem EV.pos {α : Type} {c : Prop} [Decidable c] {a b : Nat → Option α} {r : α} (h : c) (k : EV a r) : EV (fun n => if c then a n else b n) r :=
  EV.congr (fun n => if_pos h) k
theorem EV.neg {α : Type} {c : Prop} [Decidable c] {a b : Nat → Option α} {r : α} (h : ¬ c) (k : EV b r) : EV (fun n => if c then a n else b n) r :=
  EV.congr (fun n => if_neg h) k
theorem EV.cases {α : Type} {c : Prop} [Decidable c] {a b : Nat → Option α} {r : α} (h : c → EV a r) (h' : ¬ c → EV b r) : EV (fun n => if c then a n else b n) r := by
  by_cases hc : c
  · exact EV.pos hc (h hc)
  · exact EV.neg hc (h' hc)
/-- a callee without rounds -/
theorem EV.by {α β : Type} {g : Option α} {f : Nat → α → Option β} {a : α} {r : β} (h : g = some a) (k : EV (fun n => f n a) r) : EV (fun n => g.bind (f n)) r := by
  subst h; exact k
theorem EV.eq {α : Type} {g : Nat → Option α} {r r' : α} (h : EV g r) (e : r = r') : EV g r' := e ▸ h
theorem rd_app (pre : List Int) (x : Int) (suf : List Int) : rd (pre ++ x :: suf) (pre.length : Int) = x := by
  simp [rd]
theorem rd_nat (xs : List Int) (i : Nat) (h : i < xs.length) : rd xs (i : Int) = xs[i] := by
  simp [rd, h]
end
/-- one index on -/
theorem up {α : Type} {x : α} {pre : List α} (h : pre.length < 4611686018427387904) : wrap64 ((pre.length : Int) + 1) = ((pre ++ [x]).length : Int) := by
  rw [w64 (by omega) (by omega)]; simp
theorem lt_app {α : Type} (pre : List α) (x : α) (suf : List α) : (pre.length : Int) < ((pre ++ x :: suf).length : Int) := by simp; omega
theorem EV.uniq {α : Type} {g : Nat → Option α} {r r' : α} (h : EV g r) (h' : EV g r') : r = r' := by
  obtain ⟨K, h⟩ := h
  obtain ⟨K', h'⟩ := h'
  have a := h (max K K') (by omega)
  have b := h' (max K K') (by omega)
  rw [a] at b; exact Option.some.inj b
/-- from some number of rounds on -/
def Evt (P : Nat → Prop) : Prop := ∃ K, ∀ k, K ≤ k → P k
theorem Evt.and {P Q : Nat → Prop} (h : Evt P) (h' : Evt Q) : Evt (fun k => P k ∧ Q k) := by
  obtain ⟨K, h⟩ := h
  obtain ⟨K', h'⟩ := h'
  exact ⟨max K K', fun k hk => ⟨h k (by omega), h' k (by omega)⟩⟩
theorem Evt.imp {P Q : Nat → Prop} (h : Evt P) (f : ∀ k, P k → Q k) : Evt Q := by
  obtain ⟨K, h⟩ := h
  exact ⟨K, fun k hk => f k (h k hk)⟩
theorem Evt.rounds {P : Nat → Prop} (h : Evt P) : ∃ k, P k := by
  obtain ⟨K, h⟩ := h
  exact ⟨K, h K (Nat.le_refl _)⟩
theorem EV.mono {α : Type} {g : Nat → Option α} (hg : ∀ k, LeO (g k) (g (k + 1))) {k : Nat} {r : α} (h : g k = some r) : EV g r := ⟨k, fun _ hk => at_rounds hg hk h⟩

theorem rdL_app (pre : List (List Int)) (x : List Int) (suf : List (List Int)) : rd_L3 (pre ++ x :: suf) (pre.length : Int) = x := by
  simp [rd_L3]
theorem rdL_nat (xs : List (List Int)) (i : Nat) (h : i < xs.length) : rd_L3 xs (i : Int) = xs[i] := by
  simp [rd_L3, h]

/-- a loop that looks at each member and answers early, or goes on -/
theorem EV.scan {α : Type} {g : Nat → Int → Option Bool} (xs : List α) (p : α → Bool) (fin : Bool)
    (hs : ∀ (i : Nat) (h : i < xs.length) (r : Bool), (p xs[i] = true → EV (fun k => g k ((i : Int) + 1)) r) → (p xs[i] = false → r = false) → EV (fun k => g k (i : Int)) r)
    (hf : EV (fun k => g k (xs.length : Int)) fin) : EV (fun k => g k 0) (xs.all p && fin) := by
  suffices h : ∀ (n i : Nat), i + n = xs.length → EV (fun k => g k (i : Int)) ((xs.drop i).all p && fin) by
    have := h xs.length 0 (by omega)
    simpa using this
  intro n
  induction n with
  | zero =>
    intro i hi
    have e : i = xs.length := by omega
    subst e
    simpa using hf
  | succ n ih =>
    intro i hi
    have hlt : i < xs.length := by omega
    have e : xs.drop i = xs[i] :: xs.drop (i + 1) := List.drop_eq_getElem_cons hlt
    rw [e, List.all_cons]
    refine hs i hlt _ (fun hp => ?_) (fun hp => by simp [hp])
    rw [hp, Bool.true_and]
    exact_mod_cast ih (i + 1) (by omega)
/-- a fold over the members -/
theorem EV.fold {α σ ρ : Type} {g : Nat → σ → Int → Option ρ} (xs : List α) (f : σ → α → σ) (fin : σ → ρ) (I : Nat → σ → Prop)
    (hs : ∀ (i : Nat) (h : i < xs.length) (s : σ) (r : ρ), I i s → (I (i + 1) (f s xs[i]) → EV (fun k => g k (f s xs[i]) ((i : Int) + 1)) r) → EV (fun k => g k s (i : Int)) r)
    (hf : ∀ s, I xs.length s → EV (fun k => g k s (xs.length : Int)) (fin s)) : ∀ s, I 0 s → EV (fun k => g k s 0) (fin (xs.foldl f s)) := by
  suffices h : ∀ (n i : Nat), i + n = xs.length → ∀ s, I i s → EV (fun k => g k s (i : Int)) (fin ((xs.drop i).foldl f s)) by
    intro s hI
    have := h xs.length 0 (by omega) s hI
    simpa using this
  intro n
  induction n with
  | zero =>
    intro i hi s hI
    have e : i = xs.length := by omega
    subst e
    simpa using hf s hI
  | succ n ih =>
    intro i hi s hI
    have hlt : i < xs.length := by omega
    have e : xs.drop i = xs[i] :: xs.drop (i + 1) := List.drop_eq_getElem_cons hlt
    rw [e, List.foldl_cons]
    refine hs i hlt s _ hI (fun hI' => ?_)
    exact_mod_cast ih (i + 1) (by omega) _ hI'
/-- counting up to n, the state told by the count -/
theorem EV.count {σ ρ : Type} {g : Nat → σ → Int → Option ρ} (n : Nat) (f : Nat → σ) (r : ρ)
    (hs : ∀ i, i < n → EV (fun k => g k (f (i + 1)) ((i : Int) + 1)) r → EV (fun k => g k (f i) (i : Int)) r)
    (hf : EV (fun k => g k (f n) (n : Int)) r) : EV (fun k => g k (f 0) 0) r := by
  suffices h : ∀ (m i : Nat), i + m = n → EV (fun k => g k (f i) (i : Int)) r by exact h n 0 (by omega)
  intro m
  induction m with
  | zero => intro i hi; have : i = n := by omega
            subst this; exact hf
  | succ m ih => intro i hi; exact hs i (by omega) (by exact_mod_cast ih (i + 1) (by omega))
/-- counting up to n with an early answer -/
theorem EV.countB {g : Nat → Int → Option Bool} (n : Nat) (p : Nat → Bool) (fin : Bool)
    (hs : ∀ (i : Nat) (h : i < n) (r : Bool), (p i = true → EV (fun k => g k ((i : Int) + 1)) r) → (p i = false → r = false) → EV (fun k => g k (i : Int)) r)
    (hf : EV (fun k => g k (n : Int)) fin) : EV (fun k => g k 0) ((List.range n).all p && fin) := by
  refine EV.scan (List.range n) p fin (fun i h r H1 H2 => ?_) (by rw [List.length_range]; exact hf)
  rw [List.getElem_range] at H1 H2
  exact hs i (by simpa using h) r H1 H2
/-- counting up to n with an early answer, into what comes behind -/
theorem EV.countC {ρ : Type} {g : Nat → Int → Option ρ} (n : Nat) (p : Nat → Bool) (r early : ρ)
    (hs : ∀ i, i < n → (p i = true → EV (fun k => g k ((i : Int) + 1)) r) → (p i = false → r = early) → EV (fun k => g k (i : Int)) r)
    (hf : (List.range n).all p = true → EV (fun k => g k (n : Int)) r) (he : (List.range n).all p = false → r = early) : EV (fun k => g k 0) r := by
  suffices h : ∀ (m i : Nat), i + m = n → (∀ j, j < i → p j = true) → EV (fun k => g k (i : Int)) r by exact h n 0 (by omega) (fun j hj => by omega)
  intro m
  induction m with
  | zero =>
    intro i hi ha
    have : i = n := by omega
    subst this
    exact hf (by rw [List.all_eq_true]; intro x hx; exact ha x (List.mem_range.1 hx))
  | succ m ih =>
    intro i hi ha
    refine hs i (by omega) (fun hp => ?_) (fun hp => he ?_)
    · have := ih (i + 1) (by omega) (fun j hj => by
        by_cases e : j = i
        · rw [e]; exact hp
        · exact ha j (by omega))
      exact_mod_cast this
    · rw [List.all_eq_false]
      exact ⟨i, List.mem_range.2 (by omega), by simp [hp]⟩
/-- looking at each member with an early answer, into what comes behind -/
theorem EV.scanC {α ρ : Type} {g : Nat → Int → Option ρ} (xs : List α) (p : α → Bool) (r early : ρ)
    (hs : ∀ (i : Nat) (h : i < xs.length), (p xs[i] = true → EV (fun k => g k ((i : Int) + 1)) r) → (p xs[i] = false → r = early) → EV (fun k => g k (i : Int)) r)
    (hf : xs.all p = true → EV (fun k => g k (xs.length : Int)) r) (he : xs.all p = false → r = early) : EV (fun k => g k 0) r := by
  have e : xs.all p = (List.range xs.length).all (fun i => (xs[i]?.map p).getD true) := by
    rw [Bool.eq_iff_iff, List.all_eq_true, List.all_eq_true]
    constructor
    · intro h i hi
      have := List.mem_range.1 hi
      simpa [this] using h _ (List.getElem_mem this)
    · intro h x hx
      obtain ⟨i, hi, rfl⟩ := List.mem_iff_getElem.1 hx
      have := h i (List.mem_range.2 hi)
      simpa [hi] using this
  rw [e] at hf he
  refine EV.countC xs.length _ r early (fun i hi H1 H2 => ?_) hf he
  exact hs i hi (fun h => H1 (by simpa [hi] using h)) (fun h => H2 (by simpa [hi] using h))
/-- a fold over the members, into what comes behind -/
theorem EV.foldC {α σ ρ : Type} {g : Nat → σ → Int → Option ρ} (xs : List α) (f : σ → α → σ) (I : Nat → σ → Prop) (r : ρ)
    (hs : ∀ (i : Nat) (h : i < xs.length) (s : σ), I i s → (I (i + 1) (f s xs[i]) → EV (fun k => g k (f s xs[i]) ((i : Int) + 1)) r) → EV (fun k => g k s (i : Int)) r)
    (s : σ) (hI : I 0 s) (hf : I xs.length (xs.foldl f s) → EV (fun k => g k (xs.foldl f s) (xs.length : Int)) r) : EV (fun k => g k s 0) r := by
  suffices h : ∀ (n i : Nat), i + n = xs.length → ∀ s, I i s → (I xs.length ((xs.drop i).foldl f s) → EV (fun k => g k ((xs.drop i).foldl f s) (xs.length : Int)) r) → EV (fun k => g k s (i : Int)) r by
    have := h xs.length 0 (by omega) s hI (by simpa using hf)
    simpa using this
  intro n
  induction n with
  | zero =>
    intro i hi s hI hf
    have e : i = xs.length := by omega
    subst e
    simpa using hf (by simpa using hI)
  | succ n ih =>
    intro i hi s hI hf
    have hlt : i < xs.length := by omega
    have e : xs.drop i = xs[i] :: xs.drop (i + 1) := List.drop_eq_getElem_cons hlt
    rw [e, List.foldl_cons] at hf
    refine hs i hlt s hI (fun hI' => ?_)
    exact_mod_cast ih (i + 1) (by omega) _ hI' hf

def letterB (x : Int) : Bool := decide (-8 ≤ x ∧ x ≤ 8 ∧ x ≠ 0)
def wordB (xs : List Int) : Bool := xs.all letterB && decide (xs.length ≤ 24)
theorem letterB_of {x : Int} (h : letterB x = true) : -8 ≤ x ∧ x ≤ 8 ∧ x ≠ 0 := by simpa [letterB] using h
theorem wordB_of {xs : List Int} (h : wordB xs = true) : (∀ x ∈ xs, letterB x = true) ∧ xs.length ≤ 24 := by simpa [wordB] using h
def leB (m : Int) (x : Int) : Bool := decide ((x.natAbs : Int) ≤ m)
theorem all_getElem {α : Type} {p : α → Bool} {xs : List α} (h : ∀ x ∈ xs, p x = true) (i : Nat) (hi : i < xs.length) : p xs[i] = true := h _ (List.getElem_mem hi)
/-- a table, changed at one place -/
theorem tab_set {α : Type} (n : Nat) (f : Nat → α) (a : Nat) (y : α) : ((List.range n).map f).set a y = (List.range n).map fun v => if v = a then y else f v := by
  apply List.ext_getElem
  · simp
  · intro i h1 h2
    rw [List.getElem_set]
    simp only [List.getElem_map, List.getElem_range]
    by_cases h : a = i
    · rw [if_pos h, if_pos h.symm]
    · rw [if_neg h, if_neg (fun e => h e.symm)]
def inB (n : Nat) (x : Int) : Bool := decide (0 ≤ x ∧ x < n)
def permB (p : List Int) : Bool := p.all (inB p.length) && decide p.Nodup
def seenM (n : Nat) (pre : List Int) : List Bool := (List.range n).map fun i : Nat => decide ((i : Int) ∈ pre)
theorem rdOf_tab {α : Type} (d : α) (n : Nat) (f : Nat → α) (a : Int) (h0 : 0 ≤ a) (h : a < n) : rdOf d ((List.range n).map f) a = f a.toNat := by
  have : a.toNat < n := by omega
  simp [rdOf, this]
theorem seenM_snoc (n : Nat) (pre : List Int) (x : Int) (h0 : 0 ≤ x) : (seenM n pre).set x.toNat true = seenM n (pre ++ [x]) := by
  unfold seenM
  rw [tab_set]
  apply List.map_congr_left
  intro i hi
  by_cases h : i = x.toNat
  · rw [if_pos h, decide_eq_true]; rw [List.mem_append, List.mem_singleton]; right; omega
  · rw [if_neg h]
    congr 1
    rw [List.mem_append, List.mem_singleton]
    have : ¬ (i : Int) = x := by omega
    simp [this]
theorem seenM_nil (n : Nat) : seenM n [] = List.replicate n false := by
  apply List.ext_getElem
  · simp [seenM]
  · intro i h1 h2
    simp [seenM]
theorem inB_of {n : Nat} {x : Int} (h : inB n x = true) : 0 ≤ x ∧ x < n := by simpa [inB] using h
theorem permB_of {p : List Int} (h : permB p = true) : (∀ x ∈ p, 0 ≤ x ∧ x < p.length) ∧ p.Nodup := by
  simp only [permB, Bool.and_eq_true, List.all_eq_true, decide_eq_true_iff] at h
  exact ⟨fun x hx => inB_of (h.1 x hx), h.2⟩
/-- how many sheets -/
def d0 (l : List (List Int)) : Nat := (l.getD 0 []).length
def sheetB (n : Nat) (r : List Int) : Bool := decide (r.length = n) && permB r
def sheetsB (l : List (List Int)) : Bool := decide (0 < l.length) && (decide (1 ≤ d0 l ∧ d0 l ≤ 5) && l.all (sheetB (d0 l)))
def permsB (l : List (List Int)) : Bool := sheetsB l && decide (l.length ≤ 8)
theorem rdL_zero (l : List (List Int)) : rd_L3 l 0 = l.getD 0 [] := by simp [rd_L3]
theorem sheetsB_of {l : List (List Int)} (h : sheetsB l = true) : 0 < l.length ∧ 1 ≤ d0 l ∧ d0 l ≤ 5 ∧ ∀ r ∈ l, r.length = d0 l ∧ permB r = true := by
  simp only [sheetsB, sheetB, Bool.and_eq_true, List.all_eq_true, decide_eq_true_iff] at h
  exact ⟨h.1, h.2.1.1, h.2.1.2, h.2.2⟩
/-- the inverse: i of its places set -/
def invK (p : List Int) (i : Nat) : List Int := (List.range i).foldl (fun acc j => acc.set (p.getD j 0).toNat (j : Int)) (List.replicate p.length 0)
def invM (p : List Int) : List Int := invK p p.length
theorem invK_succ (p : List Int) (i : Nat) : invK p (i + 1) = (invK p i).set (p.getD i 0).toNat (i : Int) := by
  unfold invK
  rw [List.range_succ, List.foldl_append]; rfl
theorem invK_I (p : List Int) (hp : 1 ≤ p.length) : ∀ i, i ≤ p.length → (invK p i).length = p.length ∧ ∀ x ∈ invK p i, 0 ≤ x ∧ x < p.length
  | 0, _ => by
    refine ⟨by simp [invK], fun x hx => ?_⟩
    have hx' : x ∈ List.replicate p.length (0 : Int) := hx
    have : x = 0 := (List.mem_replicate.1 hx').2
    omega
  | i + 1, h => by
    have ih := invK_I p hp i (by omega)
    rw [invK_succ]
    refine ⟨by simp [ih.1], fun x hx => ?_⟩
    rcases List.mem_or_eq_of_mem_set hx with h' | h'
    · exact ih.2 x h'
    · omega
def thenM (p q : List Int) : List Int := p.map fun y => q.getD y.toNat 0
def idM (n : Nat) : List Int := (List.range n).map fun i : Nat => (i : Int)
def stepP (l : List (List Int)) (a : Int) : List Int := if a < 0 then invM (l.getD (a.natAbs - 1) []) else l.getD (a.natAbs - 1) []
def actS (l : List (List Int)) (w : List Int) (s : Int) : Int := w.foldl (fun s a => (stepP l a).getD s.toNat 0) s
def actK (l : List (List Int)) (w : List Int) (out : List Int) : List Int := w.foldl (fun out a => thenM out (stepP l a)) out
theorem actK_eq (l : List (List Int)) : ∀ (w out : List Int), actK l w out = out.map (actS l w)
  | [], out => by
    have : actS l [] = id := rfl
    rw [this, List.map_id]; rfl
  | a :: w, out => by
    have := actK_eq l w (thenM out (stepP l a))
    unfold actK actS at this ⊢
    rw [List.foldl_cons, this, thenM, List.map_map]; rfl
def actL (l : List (List Int)) (w : List Int) : List Int := (idM (d0 l)).map (actS l w)
def lettersB (l : List (List Int)) (w : List Int) : Prop := ∀ a ∈ w, 1 ≤ a.natAbs ∧ a.natAbs ≤ l.length ∧ a.natAbs ≤ 1000000
theorem stepP_I {l : List (List Int)} (h : sheetsB l = true) {a : Int} (h1 : 1 ≤ a.natAbs) (h2 : a.natAbs ≤ l.length) : (stepP l a).length = d0 l ∧ ∀ x ∈ stepP l a, 0 ≤ x ∧ x < d0 l := by
  have s := sheetsB_of h
  have hi : a.natAbs - 1 < l.length := by omega
  have hr := s.2.2.2 _ (List.getElem_mem hi)
  have e : l.getD (a.natAbs - 1) [] = l[a.natAbs - 1] := by simp [hi]
  unfold stepP
  rw [e]
  split
  · have := invK_I l[a.natAbs - 1] (by omega) _ (Nat.le_refl _)
    unfold invM
    rw [hr.1] at this ⊢
    exact this
  · have := (permB_of hr.2).1
    rw [hr.1] at this
    exact ⟨hr.1, this⟩
theorem getD_in {n : Nat} {q : List Int} (hl : q.length = n) (hq : ∀ x ∈ q, 0 ≤ x ∧ x < n) {s : Int} (h0 : 0 ≤ s) (h1 : s < n) : 0 ≤ q.getD s.toNat 0 ∧ q.getD s.toNat 0 < n := by
  have : s.toNat < q.length := by omega
  rw [List.getD_eq_getElem?_getD, List.getElem?_eq_getElem this]
  exact hq _ (List.getElem_mem this)
theorem rd_getD (q : List Int) (s : Int) : rd q s = q.getD s.toNat 0 := rfl

def wordOk (l : List (List Int)) (w : List Int) : Bool := wordB w && w.all (leB l.length)
def actM (l : List (List Int)) (w : List Int) : List Int := if permsB l = true ∧ wordOk l w = true then actL l w else []
theorem letters_of {l : List (List Int)} {w : List Int} (h : wordOk l w = true) : lettersB l w ∧ w.length ≤ 24 := by
  simp only [wordOk, Bool.and_eq_true, List.all_eq_true, leB, decide_eq_true_iff] at h
  have a := wordB_of h.1
  refine ⟨fun x hx => ?_, a.2⟩
  have := letterB_of (a.1 x hx)
  have := h.2 x hx
  omega
theorem actL_len (l : List (List Int)) (w : List Int) : (actL l w).length = d0 l := by simp [actL, idM]
def lettersM (n : Nat) : List Int := (List.range n).map fun i : Nat => (i : Int) + 1
def wholeB (t : List Int) : Bool := (List.range t.length).all (fun i => decide (t.getD i 0 = (i : Int))) && decide (0 < t.length)
theorem wholeB_eq {t : List Int} {n : Nat} (h : t.length = n) (h1 : 1 ≤ n) : wholeB t = decide (t = idM n) := by
  subst h
  rw [Bool.eq_iff_iff]
  simp only [wholeB, Bool.and_eq_true, List.all_eq_true, decide_eq_true_iff, List.mem_range]
  constructor
  · intro h
    apply List.ext_getElem
    · simp [idM]
    · intro i h1 h2
      have := h.1 i h1
      rw [List.getD_eq_getElem?_getD, List.getElem?_eq_getElem h1, Option.getD_some] at this
      simp [idM, this]
  · intro h
    refine ⟨fun i hi => ?_, by omega⟩
    rw [h]
    simp [idM, hi]
theorem product_eq (l : List (List Int)) (out : List Int) : actK l (lettersM l.length) out = l.foldl thenM out := by
  suffices h : ∀ n, n ≤ l.length → actK l (lettersM n) out = (l.take n).foldl thenM out by
    have := h l.length (Nat.le_refl _)
    rwa [List.take_length] at this
  intro n
  induction n with
  | zero => intro _; simp [lettersM, actK]
  | succ n ih =>
    intro h
    have ih := ih (by omega)
    have hn : n < l.length := by omega
    rw [List.take_succ_eq_append_getElem hn, List.foldl_append, ← ih]
    unfold lettersM actK
    rw [List.range_succ, List.map_append, List.foldl_append]
    simp only [List.map_cons, List.map_nil, List.foldl_cons, List.foldl_nil]
    have e : stepP l ((n : Int) + 1) = l[n] := by
      unfold stepP
      rw [if_neg (by omega), show ((n : Int) + 1).natAbs - 1 = n by omega]
      simp [hn]
    rw [e]
theorem letters_ok {l : List (List Int)} (h : l.length ≤ 8) : wordOk l (lettersM l.length) = true := by
  simp only [wordOk, wordB, lettersM, Bool.and_eq_true, List.all_eq_true, List.mem_map, List.mem_range, leB, letterB, decide_eq_true_iff, List.length_map, List.length_range]
  refine ⟨⟨?_, by omega⟩, ?_⟩
  · rintro x ⟨i, hi, rfl⟩; omega
  · rintro x ⟨i, hi, rfl⟩; omega
theorem thenM_I {n : Nat} {p q : List Int} (hp : p.length = n ∧ ∀ x ∈ p, 0 ≤ x ∧ x < n) (hq : q.length = n ∧ ∀ x ∈ q, 0 ≤ x ∧ x < n) : (thenM p q).length = n ∧ ∀ x ∈ thenM p q, 0 ≤ x ∧ x < n := by
  refine ⟨by simp [thenM, hp.1], fun x hx => ?_⟩
  simp only [thenM, List.mem_map] at hx
  obtain ⟨y, hy, rfl⟩ := hx
  exact getD_in hq.1 hq.2 (hp.2 y hy).1 (hp.2 y hy).2
theorem idM_I (n : Nat) : (idM n).length = n ∧ ∀ x ∈ idM n, 0 ≤ x ∧ x < n := by
  refine ⟨by simp [idM], fun x hx => ?_⟩
  simp only [idM, List.mem_map, List.mem_range] at hx
  obtain ⟨i, hi, rfl⟩ := hx
  omega
theorem permsB_le {l : List (List Int)} (h : l.length ≤ 8) : permsB l = sheetsB l := by
  unfold permsB
  rw [decide_eq_true h, Bool.and_true]

theorem natOf {n : Nat} {x : Int} (h : 0 ≤ x ∧ x < n) : ∃ m : Nat, x = m ∧ m < n := ⟨x.toNat, by omega, by omega⟩
/-- what holds of all permutations of at most five, each told by its numbers -/
theorem perm_all (P : List Int → Bool)
    (h1 : ∀ a : Nat, a < 1 → permB [(a : Int)] = true → P [(a : Int)] = true)
    (h2 : ∀ a : Nat, a < 2 → ∀ b : Nat, b < 2 → permB [(a : Int), (b : Int)] = true → P [(a : Int), (b : Int)] = true)
    (h3 : ∀ a : Nat, a < 3 → ∀ b : Nat, b < 3 → ∀ c : Nat, c < 3 → permB [(a : Int), (b : Int), (c : Int)] = true → P [(a : Int), (b : Int), (c : Int)] = true)
    (h4 : ∀ a : Nat, a < 4 → ∀ b : Nat, b < 4 → ∀ c : Nat, c < 4 → ∀ d : Nat, d < 4 → permB [(a : Int), (b : Int), (c : Int), (d : Int)] = true → P [(a : Int), (b : Int), (c : Int), (d : Int)] = true)
    (h5 : ∀ a : Nat, a < 5 → ∀ b : Nat, b < 5 → ∀ c : Nat, c < 5 → ∀ d : Nat, d < 5 → ∀ e : Nat, e < 5 → permB [(a : Int), (b : Int), (c : Int), (d : Int), (e : Int)] = true → P [(a : Int), (b : Int), (c : Int), (d : Int), (e : Int)] = true)
    {p : List Int} (h : permB p = true) (hl : 1 ≤ p.length) (hm : p.length ≤ 5) : P p = true := by
  have R := (permB_of h).1
  match p, hl, hm with
  | [a], _, _ =>
    obtain ⟨a, rfl, ha⟩ := natOf (R a (by simp))
    exact h1 a ha h
  | [a, b], _, _ =>
    obtain ⟨a, rfl, ha⟩ := natOf (R a (by simp))
    obtain ⟨b, rfl, hb⟩ := natOf (R b (by simp))
    exact h2 a ha b hb h
  | [a, b, c], _, _ =>
    obtain ⟨a, rfl, ha⟩ := natOf (R a (by simp))
    obtain ⟨b, rfl, hb⟩ := natOf (R b (by simp))
    obtain ⟨c, rfl, hc⟩ := natOf (R c (by simp))
    exact h3 a ha b hb c hc h
  | [a, b, c, d], _, _ =>
    obtain ⟨a, rfl, ha⟩ := natOf (R a (by simp))
    obtain ⟨b, rfl, hb⟩ := natOf (R b (by simp))
    obtain ⟨c, rfl, hc⟩ := natOf (R c (by simp))
    obtain ⟨d, rfl, hd⟩ := natOf (R d (by simp))
    exact h4 a ha b hb c hc d hd h
  | [a, b, c, d, e], _, _ =>
    obtain ⟨a, rfl, ha⟩ := natOf (R a (by simp))
    obtain ⟨b, rfl, hb⟩ := natOf (R b (by simp))
    obtain ⟨c, rfl, hc⟩ := natOf (R c (by simp))
    obtain ⟨d, rfl, hd⟩ := natOf (R d (by simp))
    obtain ⟨e, rfl, he⟩ := natOf (R e (by simp))
    exact h5 a ha b hb c hc d hd e he h
def permN (n : Nat) (p : List Int) : Prop := p.length = n ∧ permB p = true
theorem permN_mk {n : Nat} {p : List Int} (h : p.length = n) (h1 : ∀ x ∈ p, 0 ≤ x ∧ x < n) (h2 : p.Nodup) : permN n p := by
  refine ⟨h, ?_⟩
  simp only [permB, Bool.and_eq_true, List.all_eq_true, decide_eq_true_iff]
  exact ⟨fun x hx => by simp only [inB, decide_eq_true_iff, h]; exact h1 x hx, h2⟩
theorem permN_of {n : Nat} {p : List Int} (h : permN n p) : p.length = n ∧ (∀ x ∈ p, 0 ≤ x ∧ x < n) ∧ p.Nodup := by
  have := permB_of h.2
  rw [h.1] at this
  exact ⟨h.1, this⟩
theorem perm_then {n : Nat} {p q : List Int} (hp : permN n p) (hq : permN n q) : permN n (thenM p q) := by
  have P := permN_of hp
  have Q := permN_of hq
  have G : ∀ x (hx : x ∈ p), q.getD x.toNat 0 = q[x.toNat]'(by have := P.2.1 x hx; omega) := fun x hx => by
    have := P.2.1 x hx
    rw [List.getD_eq_getElem?_getD, List.getElem?_eq_getElem (by omega)]; rfl
  refine permN_mk (by simp [thenM, P.1]) (fun y hy => ?_) ?_
  · simp only [thenM, List.mem_map] at hy
    obtain ⟨x, hx, rfl⟩ := hy
    rw [G x hx]; exact Q.2.1 _ (List.getElem_mem _)
  · unfold thenM List.Nodup
    rw [List.pairwise_map]
    refine List.Pairwise.imp_of_mem (fun {a b} ha hb hne he => ?_) P.2.2
    rw [G a ha, G b hb] at he
    have pa := P.2.1 a ha
    have pb := P.2.1 b hb
    rcases Nat.lt_trichotomy a.toNat b.toNat with h | h | h
    · exact List.pairwise_iff_getElem.1 Q.2.2 _ _ (by omega) (by omega) h he
    · omega
    · exact List.pairwise_iff_getElem.1 Q.2.2 _ _ (by omega) (by omega) h he.symm
theorem perm_id (n : Nat) : permN n (idM n) := by
  refine permN_mk (by simp [idM]) (fun x hx => ?_) ?_
  · simp only [idM, List.mem_map, List.mem_range] at hx
    obtain ⟨i, hi, rfl⟩ := hx; omega
  · unfold idM List.Nodup
    rw [List.pairwise_map]
    exact List.Pairwise.imp (fun {a b} h he => h (by omega)) List.nodup_range
set_option synthInstance.maxHeartbeats 2000000 in
set_option synthInstance.maxSize 4000 in
theorem perm_inv {n : Nat} {p : List Int} (h : permN n p) (h1 : 1 ≤ n) (h5 : n ≤ 5) : permN n (invM p) := by
  have := perm_all (fun p => permB (invM p) && decide ((invM p).length = p.length)) (by decide +kernel) (by decide +kernel) (by decide +kernel) (by decide +kernel) (by decide +kernel) h.2 (by have := h.1; omega) (by have := h.1; omega)
  simp only [Bool.and_eq_true, decide_eq_true_iff] at this
  exact ⟨by rw [this.2, h.1], this.1⟩
/-! ### sets of sheets that lead to each other -/
def upB (n : Nat) (up : List Int) : Prop := up.length = n ∧ ∀ i (h : i < up.length), 0 ≤ up[i] ∧ up[i] ≤ i
def rootN (up : List Int) : Nat → Int → Int
  | 0, s => s
  | k + 1, s => if up.getD s.toNat 0 = s then s else rootN up k (up.getD s.toNat 0)
def rootI (up : List Int) (s : Int) : Int := rootN up s.toNat s
theorem up_get {n : Nat} {up : List Int} (hu : upB n up) {s : Int} (h0 : 0 ≤ s) (h1 : s < n) : 0 ≤ up.getD s.toNat 0 ∧ up.getD s.toNat 0 ≤ s := by
  have h : s.toNat < up.length := by have := hu.1; omega
  rw [List.getD_eq_getElem?_getD, List.getElem?_eq_getElem h, Option.getD_some]
  have := hu.2 _ h; omega
theorem rootN_le {n : Nat} {up : List Int} (hu : upB n up) : ∀ (m : Nat) (s : Int), 0 ≤ s → s < n → 0 ≤ rootN up m s ∧ rootN up m s ≤ s
  | 0, s, h0, h1 => ⟨h0, Int.le_refl _⟩
  | m + 1, s, h0, h1 => by
    have a := up_get hu h0 h1
    simp only [rootN]
    split
    · exact ⟨h0, Int.le_refl _⟩
    · have := rootN_le hu m (up.getD s.toNat 0) a.1 (by omega); omega
theorem rootI_le {n : Nat} {up : List Int} (hu : upB n up) {s : Int} (h0 : 0 ≤ s) (h1 : s < n) : 0 ≤ rootI up s ∧ rootI up s ≤ s := rootN_le hu _ s h0 h1
theorem rootI_self {n : Nat} {up : List Int} (hu : upB n up) {s : Int} (h0 : 0 ≤ s) (h1 : s < n) : rootI up s = s ↔ up.getD s.toNat 0 = s := by
  have a := up_get hu h0 h1
  unfold rootI
  rcases hs : s.toNat with _ | m
  · have : s = 0 := by omega
    subst this
    simp only [rootN, true_iff]
    have := up_get hu (s := 0) (by omega) h1
    simp only [Int.toNat_zero] at this ⊢; omega
  · simp only [rootN, hs]
    rw [hs] at a
    constructor
    · intro h
      split at h
      · rename_i e; exact e
      · rename_i hne
        have := rootN_le hu m (up.getD (m + 1) 0) a.1 (by omega)
        omega
    · intro h
      rw [if_pos h]
def joinM (up : List Int) (a b : Int) : List Int := if rootI up a > rootI up b then up.set (rootI up a).toNat (rootI up b) else up.set (rootI up b).toNat (rootI up a)
theorem upB_set {n : Nat} {up : List Int} (hu : upB n up) {i v : Int} (h0 : 0 ≤ v) (h1 : v ≤ i) : upB n (up.set i.toNat v) := by
  refine ⟨by simp [hu.1], fun j hj => ?_⟩
  rw [List.getElem_set]
  rw [List.length_set] at hj
  split
  · omega
  · exact hu.2 j hj
theorem joinM_I {n : Nat} {up : List Int} (hu : upB n up) {a b : Int} (ha : 0 ≤ a ∧ a < n) (hb : 0 ≤ b ∧ b < n) : upB n (joinM up a b) := by
  have ra := rootI_le hu ha.1 ha.2
  have rb := rootI_le hu hb.1 hb.2
  unfold joinM
  split
  · exact upB_set hu rb.1 (by omega)
  · exact upB_set hu ra.1 (by omega)
def rowM (n : Nat) (up p : List Int) : List Int := (List.range n).foldl (fun up (s : Nat) => joinM up (s : Int) (p.getD s 0)) up
def allM (l : List (List Int)) : List Int := l.foldl (rowM (d0 l)) (idM (d0 l))
def ownM (n : Nat) (up : List Int) (s : Nat) : List Int := (List.range n).foldl (fun own (t : Nat) => if rootI up (t : Int) = (s : Int) then own ++ [(t : Int)] else own) []
def outM2 (n : Nat) (up : List Int) : List (List Int) := (List.range n).foldl (fun out (s : Nat) => if up.getD s 0 = (s : Int) then out ++ [ownM n up s] else out) []
def partsM (l : List (List Int)) : List (List Int) := outM2 (d0 l) (allM l)
theorem upB_id (n : Nat) : upB n (idM n) := by
  refine ⟨by simp [idM], fun i h => ?_⟩
  simp [idM]
theorem fold_upB {n : Nat} {p : List Int} (hp : p.length = n) (hr : ∀ x ∈ p, 0 ≤ x ∧ x < n) : ∀ (m : Nat) (up : List Int), m ≤ n → upB n up → upB n ((List.range m).foldl (fun up (s : Nat) => joinM up (s : Int) (p.getD s 0)) up)
  | 0, up, _, h => h
  | m + 1, up, hm, h => by
    rw [List.range_succ, List.foldl_append]
    have ih := fold_upB hp hr m up (by omega) h
    refine joinM_I ih ⟨by omega, by omega⟩ ?_
    have hlt : m < p.length := by omega
    rw [List.getD_eq_getElem?_getD, List.getElem?_eq_getElem hlt]
    exact hr _ (List.getElem_mem _)
theorem rowM_I {n : Nat} {up p : List Int} (hp : p.length = n) (hr : ∀ x ∈ p, 0 ≤ x ∧ x < n) (h : upB n up) : upB n (rowM n up p) := fold_upB hp hr n up (Nat.le_refl _) h
theorem allM_I {l : List (List Int)} (hs : sheetsB l = true) : upB (d0 l) (allM l) := by
  have s := sheetsB_of hs
  unfold allM
  have : ∀ (xs : List (List Int)) (up : List Int), (∀ p ∈ xs, p.length = d0 l ∧ permB p = true) → upB (d0 l) up → upB (d0 l) (xs.foldl (rowM (d0 l)) up) := by
    intro xs
    induction xs with
    | nil => intro up _ h; exact h
    | cons p xs ih =>
      intro up hx h
      have hp := hx p (by simp)
      refine ih _ (fun q hq => hx q (by simp [hq])) (rowM_I hp.1 (fun x hx' => ?_) h)
      have := (permB_of hp.2).1 x hx'
      omega
  exact this l _ s.2.2.2 (upB_id _)

def cycOk (p : List Int) : Bool := decide (spec_l6Cycles.f 40 p = impl_cycles.f 40 p) && ((impl_cycles.f 40 p).map fun c => decide (c.length ≤ 5)) == some true
theorem cyc1 : ∀ a : Nat, a < 1 → permB [(a : Int)] = true → cycOk [(a : Int)] = true := by decide +kernel
theorem cyc2 : ∀ a : Nat, a < 2 → ∀ b : Nat, b < 2 → permB [(a : Int), (b : Int)] = true → cycOk [(a : Int), (b : Int)] = true := by decide +kernel
theorem cyc3 : ∀ a : Nat, a < 3 → ∀ b : Nat, b < 3 → ∀ c : Nat, c < 3 → permB [(a : Int), (b : Int), (c : Int)] = true → cycOk [(a : Int), (b : Int), (c : Int)] = true := by decide +kernel
theorem cyc4 : ∀ a : Nat, a < 4 → ∀ b : Nat, b < 4 → ∀ c : Nat, c < 4 → ∀ d : Nat, d < 4 → permB [(a : Int), (b : Int), (c : Int), (d : Int)] = true → cycOk [(a : Int), (b : Int), (c : Int), (d : Int)] = true := by decide +kernel
set_option synthInstance.maxHeartbeats 2000000 in
set_option synthInstance.maxSize 4000 in
theorem cyc5 : ∀ a : Nat, a < 5 → ∀ b : Nat, b < 5 → ∀ c : Nat, c < 5 → ∀ d : Nat, d < 5 → ∀ e : Nat, e < 5 → permB [(a : Int), (b : Int), (c : Int), (d : Int), (e : Int)] = true → cycOk [(a : Int), (b : Int), (c : Int), (d : Int), (e : Int)] = true := by decide +kernel
theorem toNat_of {n : Nat} {x : Int} (h : 0 ≤ x ∧ x < n) : ∃ m : Nat, x = m ∧ m < n := ⟨x.toNat, by omega, by omega⟩
theorem cyc_all {p : List Int} (h : permB p = true) (h1 : 1 ≤ p.length) (h5 : p.length ≤ 5) : cycOk p = true := by
  have P := (permB_of h).1
  match p, h1, h5 with
  | [a], _, _ =>
    obtain ⟨a, rfl, ha⟩ := toNat_of (P a (by simp))
    exact cyc1 a ha h
  | [a, b], _, _ =>
    obtain ⟨a, rfl, ha⟩ := toNat_of (P a (by simp))
    obtain ⟨b, rfl, hb⟩ := toNat_of (P b (by simp))
    exact cyc2 a ha b hb h
  | [a, b, c], _, _ =>
    obtain ⟨a, rfl, ha⟩ := toNat_of (P a (by simp))
    obtain ⟨b, rfl, hb⟩ := toNat_of (P b (by simp))
    obtain ⟨c, rfl, hc⟩ := toNat_of (P c (by simp))
    exact cyc3 a ha b hb c hc h
  | [a, b, c, d], _, _ =>
    obtain ⟨a, rfl, ha⟩ := toNat_of (P a (by simp))
    obtain ⟨b, rfl, hb⟩ := toNat_of (P b (by simp))
    obtain ⟨c, rfl, hc⟩ := toNat_of (P c (by simp))
    obtain ⟨d, rfl, hd⟩ := toNat_of (P d (by simp))
    exact cyc4 a ha b hb c hc d hd h
  | [a, b, c, d, e], _, _ =>
    obtain ⟨a, rfl, ha⟩ := toNat_of (P a (by simp))
    obtain ⟨b, rfl, hb⟩ := toNat_of (P b (by simp))
    obtain ⟨c, rfl, hc⟩ := toNat_of (P c (by simp))
    obtain ⟨d, rfl, hd⟩ := toNat_of (P d (by simp))
    obtain ⟨e, rfl, he⟩ := toNat_of (P e (by simp))
    exact cyc5 a ha b hb c hc d hd e he h
theorem cyc_is {p : List Int} (h : permB p = true) (h1 : 1 ≤ p.length) (h5 : p.length ≤ 5) : ∃ c, EV (fun k => spec_l6Cycles.f k p) c ∧ EV (fun k => impl_cycles.f k p) c ∧ c.length ≤ 5 := by
  have := cyc_all h h1 h5
  simp only [cycOk, Bool.and_eq_true, decide_eq_true_iff, beq_iff_eq] at this
  obtain ⟨e, hs⟩ := this
  rcases hx : impl_cycles.f 40 p with _ | c
  · rw [hx] at hs; cases hs
  · rw [hx] at e hs
    simp only [Option.map_some, Option.some.injEq, decide_eq_true_iff] at hs
    exact ⟨c, EV.mono (spec_l6Cycles.mono p) e, EV.mono (impl_cycles.mono p) hx, hs⟩

/-! ### permutations of at most five: the inequality of Riemann, Hurwitz and Ree -/

def thenN (p q : List Nat) : List Nat := p.map fun y => q.getD y 0
def trN (n a b : Nat) : List Nat := (List.range n).map fun i => if i = a then b else if i = b then a else i
def itN (p : List Nat) (s : Nat) : Nat → Nat → Bool
  | 0, _ => true
  | k + 1, x => Nat.ble s x && itN p s k (p.getD x 0)
def cyN (p : List Nat) : Nat := ((List.range p.length).filter fun s => itN p s p.length s).length
def jl (lab : List Nat) (a b : Nat) : List Nat := let x := lab.getD a 0; let y := lab.getD b 0; lab.map fun z => if z = max x y then min x y else z
def partN (lab : List Nat) : Nat := ((List.range lab.length).filter fun s => Nat.beq (lab.getD s 0) s).length
def insAll (x : Nat) : List Nat → List (List Nat)
  | [] => [[x]]
  | y :: ys => (x :: y :: ys) :: (insAll x ys).map (y :: ·)
def permsN : Nat → List (List Nat)
  | 0 => [[]]
  | n + 1 => (permsN n).flatMap (insAll n)
def labsN : Nat → List (List Nat)
  | 0 => [[]]
  | n + 1 => (labsN n).flatMap fun l => ((List.range n).filter fun s => Nat.beq (l.getD s 0) s).map (fun s => l ++ [s]) ++ [l ++ [n]]
def refN (lab P : List Nat) : Bool := (List.range lab.length).all fun s => Nat.beq (lab.getD (P.getD s 0) 0) (lab.getD s 0)
/-- transpositions whose product is p -/
def decN : Nat → List Nat → List (Nat × Nat)
  | 0, _ => []
  | k + 1, p => match (List.range p.length).find? fun s => !Nat.beq (p.getD s 0) s with
    | none => []
    | some s => decN k (thenN p (trN p.length s (p.getD s 0))) ++ [(s, p.getD s 0)]
def dec (p : List Nat) : List (Nat × Nat) := decN p.length p
def idN (n : Nat) : List Nat := List.range n
def stepOk (n : Nat) (lab P : List Nat) (a b : Nat) : Bool :=
  Nat.ble (2 * partN lab + cyN (thenN P (trN n a b))) (2 * partN (jl lab a b) + cyN P + 1) && ((cyN (thenN P (trN n a b)) + cyN P) % 2 == 1) && refN (jl lab a b) (thenN P (trN n a b)) && (labsN n).contains (jl lab a b) && (permsN n).contains (thenN P (trN n a b))
def S1a (n : Nat) (lab : List Nat) : Bool := (permsN n).all fun P => !refN lab P || ((List.range n).all fun a => (List.range n).all fun b => Nat.ble b a || stepOk n lab P a b)
def S1 (n : Nat) : Bool := (labsN n).all (S1a n)
def S2 (n : Nat) : Bool := (permsN n).all fun p => ((dec p).foldl (fun q t => thenN q (trN n t.1 t.2)) (idN n) == p) && ((dec p).length + cyN p == n) && ((dec p).all fun t => Nat.blt t.2 n && Nat.blt t.1 t.2)
def rowN (lab p : List Nat) : List Nat := (List.range lab.length).foldl (fun lab s => jl lab s (p.getD s 0)) lab
def S3a (n : Nat) (lab : List Nat) : Bool := (permsN n).all fun p => rowN lab p == (dec p).foldl (fun lab t => jl lab t.1 t.2) lab
def S3 (n : Nat) : Bool := (labsN n).all (S3a n)
def S4 (n : Nat) : Bool := (labsN n).contains (idN n) && (permsN n).contains (idN n) && refN (idN n) (idN n) && (partN (idN n) == n) && (cyN (idN n) == n)


def S5 (n : Nat) : Bool := (permsN n).all fun p => p.all (fun y => Nat.blt y n) && Nat.beq p.length n
def allS (n : Nat) : Bool := S1 n && (S2 n && (S3 n && (S4 n && S5 n)))
theorem all_split {α : Type} (l : List α) (p : α → Bool) (k : Nat) : l.all p = ((l.take k).all p && (l.drop k).all p) := by
  rw [← List.all_append, List.take_append_drop]
set_option maxHeartbeats 100000000 in
set_option maxRecDepth 100000 in
theorem S1_5_0 : ((labsN 5).take 13).all (S1a 5) = true := by decide +kernel
set_option maxHeartbeats 100000000 in
set_option maxRecDepth 100000 in
theorem S1_5_1 : (((labsN 5).drop 13).take 13).all (S1a 5) = true := by decide +kernel
set_option maxHeartbeats 100000000 in
set_option maxRecDepth 100000 in
theorem S1_5_2 : ((((labsN 5).drop 13).drop 13).take 13).all (S1a 5) = true := by decide +kernel
set_option maxHeartbeats 100000000 in
set_option maxRecDepth 100000 in
theorem S1_5_3 : ((((labsN 5).drop 13).drop 13).drop 13).all (S1a 5) = true := by decide +kernel
theorem S1_5 : S1 5 = true := by
  unfold S1
  rw [all_split _ _ 13, S1_5_0, all_split _ _ 13, S1_5_1, all_split _ _ 13, S1_5_2, S1_5_3]; rfl
set_option maxHeartbeats 100000000 in
set_option maxRecDepth 100000 in
theorem S3_5_0 : ((labsN 5).take 13).all (S3a 5) = true := by decide +kernel
set_option maxHeartbeats 100000000 in
set_option maxRecDepth 100000 in
theorem S3_5_1 : (((labsN 5).drop 13).take 13).all (S3a 5) = true := by decide +kernel
set_option maxHeartbeats 100000000 in
set_option maxRecDepth 100000 in
theorem S3_5_2 : ((((labsN 5).drop 13).drop 13).take 13).all (S3a 5) = true := by decide +kernel
set_option maxHeartbeats 100000000 in
set_option maxRecDepth 100000 in
theorem S3_5_3 : ((((labsN 5).drop 13).drop 13).drop 13).all (S3a 5) = true := by decide +kernel
theorem S3_5 : S3 5 = true := by
  unfold S3
  rw [all_split _ _ 13, S3_5_0, all_split _ _ 13, S3_5_1, all_split _ _ 13, S3_5_2, S3_5_3]; rfl
set_option maxHeartbeats 100000000 in
set_option maxRecDepth 100000 in
theorem S2_5 : S2 5 = true := by decide +kernel
set_option maxHeartbeats 100000000 in
set_option maxRecDepth 100000 in
theorem S45_5 : (S4 5 && S5 5) = true := by decide +kernel
set_option maxHeartbeats 100000000 in
set_option maxRecDepth 100000 in
theorem allS_4 : ∀ n : Nat, n < 5 → allS n = true := by decide +kernel
theorem allS_ok (n : Nat) (h : n < 6) : allS n = true := by
  by_cases h5 : n < 5
  · exact allS_4 n h5
  · obtain rfl : n = 5 := by omega
    unfold allS
    rw [S1_5, S2_5, S3_5, S45_5]; rfl
def NN (p : List Int) : List Nat := p.map Int.toNat
theorem NN_getD (q : List Int) (i : Nat) : (q.getD i 0).toNat = (NN q).getD i 0 := by
  unfold NN
  rw [List.getD_eq_getElem?_getD, List.getD_eq_getElem?_getD, List.getElem?_map]
  cases q[i]? <;> rfl
theorem NN_then (p q : List Int) : NN (thenM p q) = thenN (NN p) (NN q) := by
  unfold thenN thenM
  rw [show NN (p.map fun y => q.getD y.toNat 0) = p.map fun y => (q.getD y.toNat 0).toNat by simp [NN, List.map_map, Function.comp_def]]
  rw [show (NN p).map (fun y => (NN q).getD y 0) = p.map fun y => (NN q).getD y.toNat 0 by simp [NN, List.map_map, Function.comp_def]]
  exact List.map_congr_left fun y _ => NN_getD q y.toNat
theorem NN_id (n : Nat) : NN (idM n) = idN n := by
  simp [NN, idM, idN, List.map_map, Function.comp_def]
set_option maxHeartbeats 8000000 in
set_option synthInstance.maxHeartbeats 2000000 in
set_option synthInstance.maxSize 4000 in
theorem NN_perm {n : Nat} {p : List Int} (h : permN n p) (h1 : 1 ≤ n) (h5 : n ≤ 5) : (permsN n).contains (NN p) = true := by
  have := perm_all (fun p => (permsN p.length).contains (NN p)) (by decide +kernel) (by decide +kernel) (by decide +kernel) (by decide +kernel) (by decide +kernel) h.2 (by have := h.1; omega) (by have := h.1; omega)
  rw [h.1] at this; exact this
set_option maxHeartbeats 8000000 in
set_option synthInstance.maxHeartbeats 2000000 in
set_option synthInstance.maxSize 4000 in
theorem cyc_len {n : Nat} {p : List Int} (h : permN n p) (h1 : 1 ≤ n) (h5 : n ≤ 5) : ∃ c, EV (fun k => spec_l6Cycles.f k p) c ∧ EV (fun k => impl_cycles.f k p) c ∧ c.length = cyN (NN p) ∧ c.length ≤ 5 := by
  have := perm_all (fun p => decide ((impl_cycles.f 40 p).map List.length = some (cyN (NN p)))) (by decide +kernel) (by decide +kernel) (by decide +kernel) (by decide +kernel) (by decide +kernel) h.2 (by have := h.1; omega) (by have := h.1; omega)
  rw [decide_eq_true_iff] at this
  obtain ⟨c, c1, c2, c3⟩ := cyc_is h.2 (by have := h.1; omega) (by have := h.1; omega)
  rcases hx : impl_cycles.f 40 p with _ | c'
  · rw [hx] at this; cases this
  · rw [hx] at this
    have e := EV.uniq c2 (EV.mono (impl_cycles.mono p) hx)
    subst e
    exact ⟨c, c1, c2, Option.some.inj this, c3⟩
/-! roots and labels -/
theorem rootN_fuel {n : Nat} {up : List Int} (hu : upB n up) : ∀ (m m' : Nat) (s : Int), 0 ≤ s → s < n → s.toNat ≤ m → s.toNat ≤ m' → rootN up m s = rootN up m' s
  | 0, 0, s, _, _, _, _ => rfl
  | 0, m' + 1, s, h0, h1, h2, h3 => by
    have a := up_get hu h0 h1
    simp only [rootN]
    rw [if_pos (by omega)]
  | m + 1, 0, s, h0, h1, h2, h3 => by
    have a := up_get hu h0 h1
    simp only [rootN]
    rw [if_pos (by omega)]
  | m + 1, m' + 1, s, h0, h1, h2, h3 => by
    have a := up_get hu h0 h1
    simp only [rootN]
    by_cases e : up.getD s.toNat 0 = s
    · rw [if_pos e, if_pos e]
    · rw [if_neg e, if_neg e]
      exact rootN_fuel hu m m' _ a.1 (by omega) (by omega) (by omega)
theorem rootI_step {n : Nat} {up : List Int} (hu : upB n up) {s : Int} (h0 : 0 ≤ s) (h1 : s < n) : rootI up s = if up.getD s.toNat 0 = s then s else rootI up (up.getD s.toNat 0) := by
  have a := up_get hu h0 h1
  unfold rootI
  rw [rootN_fuel hu s.toNat (s.toNat + 1) s h0 h1 (Nat.le_refl _) (by omega)]
  simp only [rootN]
  by_cases e : up.getD s.toNat 0 = s
  · rw [if_pos e, if_pos e]
  · rw [if_neg e, if_neg e]
    exact rootN_fuel hu _ _ _ a.1 (by omega) (by omega) (Nat.le_refl _)
theorem root_root {n : Nat} {up : List Int} (hu : upB n up) : ∀ (m : Nat) (s : Int), s.toNat ≤ m → 0 ≤ s → s < n → up.getD (rootI up s).toNat 0 = rootI up s
  | m, s, hm, h0, h1 => by
    have a := up_get hu h0 h1
    rw [rootI_step hu h0 h1]
    by_cases e : up.getD s.toNat 0 = s
    · rw [if_pos e]; exact e
    · rw [if_neg e]
      match m, hm with
      | 0, hm => exact absurd (show up.getD s.toNat 0 = s by omega) e
      | m + 1, hm => exact root_root hu m _ (by omega) a.1 (by omega)
theorem getD_set (up : List Int) (i j : Nat) (v : Int) (hj : i < up.length) : (up.set i v).getD j 0 = if i = j then v else up.getD j 0 := by
  rw [List.getD_eq_getElem?_getD, List.getElem?_set, List.getD_eq_getElem?_getD]
  split
  · subst_vars; simp [hj]
  · rfl
theorem root_set {n : Nat} {up : List Int} (hu : upB n up) {hi lo : Int} (l0 : 0 ≤ lo) (lh : lo ≤ hi) (hn : hi < n) (rh : up.getD hi.toNat 0 = hi) (rl : up.getD lo.toNat 0 = lo) :
    ∀ (m : Nat) (s : Int), s.toNat ≤ m → 0 ≤ s → s < n → rootI (up.set hi.toNat lo) s = if rootI up s = hi then lo else rootI up s
  | m, s, hm, h0, h1 => by
    have hu2 := upB_set hu (i := hi) (v := lo) l0 lh
    have hl : hi.toNat < up.length := by have := hu.1; omega
    have hlo : rootI (up.set hi.toNat lo) lo = lo := (rootI_self hu2 l0 (by omega)).2 (by
      rw [getD_set _ _ _ _ hl]
      split
      · rfl
      · exact rl)
    have a := up_get hu h0 h1
    rw [rootI_step hu2 h0 h1, getD_set _ _ _ _ hl]
    by_cases es : s = hi
    · subst es
      rw [if_pos rfl]
      have : rootI up s = s := (rootI_self hu h0 h1).2 rh
      rw [this, if_pos rfl]
      by_cases e2 : lo = s
      · rw [if_pos e2]; exact e2.symm
      · rw [if_neg e2]; exact hlo
    · have hne : ¬ hi.toNat = s.toNat := by omega
      simp only [if_neg hne]
      rw [rootI_step hu h0 h1]
      by_cases e : up.getD s.toNat 0 = s
      · rw [if_pos e, if_pos e, if_neg es]
      · rw [if_neg e, if_neg e]
        match m, hm with
        | 0, hm => exact absurd (show up.getD s.toNat 0 = s by omega) e
        | m + 1, hm => exact root_set hu l0 lh hn rh rl m _ (by omega) a.1 (by omega)
def labI (n : Nat) (up : List Int) : List Nat := (List.range n).map fun (s : Nat) => (rootI up (s : Int)).toNat
theorem labI_get (n : Nat) (up : List Int) (s : Nat) (h : s < n) : (labI n up).getD s 0 = (rootI up (s : Int)).toNat := by
  simp [labI, h]
theorem labI_join {n : Nat} {up : List Int} (hu : upB n up) {a b : Nat} (ha : a < n) (hb : b < n) : labI n (joinM up (a : Int) (b : Int)) = jl (labI n up) a b := by
  have ra := rootI_le hu (s := (a : Int)) (by omega) (by omega)
  have rb := rootI_le hu (s := (b : Int)) (by omega) (by omega)
  have fa := root_root hu a (a : Int) (by omega) (by omega) (by omega)
  have fb := root_root hu b (b : Int) (by omega) (by omega) (by omega)
  unfold jl
  simp only [labI_get _ _ _ ha, labI_get _ _ _ hb]
  unfold labI joinM
  rw [List.map_map]
  apply List.map_congr_left
  intro s hs
  have hs' := List.mem_range.1 hs
  have rs := rootI_le hu (s := (s : Int)) (by omega) (by omega)
  simp only [Function.comp]
  by_cases h : rootI up (a : Int) > rootI up (b : Int)
  · rw [if_pos h, root_set hu rb.1 (by omega) (by omega) fa fb s (s : Int) (by omega) (by omega) (by omega)]
    by_cases e : rootI up (s : Int) = rootI up (a : Int)
    · rw [if_pos e, if_pos (by omega)]; omega
    · rw [if_neg e, if_neg (by omega)]
  · rw [if_neg h, root_set hu ra.1 (by omega) (by omega) fb fa s (s : Int) (by omega) (by omega) (by omega)]
    by_cases e : rootI up (s : Int) = rootI up (b : Int)
    · rw [if_pos e, if_pos (by omega)]; omega
    · rw [if_neg e, if_neg (by omega)]
theorem labI_len (n : Nat) (up : List Int) : (labI n up).length = n := by simp [labI]
theorem labI_row {n : Nat} {p : List Int} (hp : p.length = n) (hr : ∀ x ∈ p, 0 ≤ x ∧ x < n) : ∀ (m : Nat) (up : List Int), m ≤ n → upB n up →
    labI n ((List.range m).foldl (fun up (s : Nat) => joinM up (s : Int) (p.getD s 0)) up) = (List.range m).foldl (fun lab (s : Nat) => jl lab s ((NN p).getD s 0)) (labI n up)
  | 0, up, _, _ => rfl
  | m + 1, up, hm, hu => by
    rw [List.range_succ, List.foldl_append, List.foldl_append]
    have ih := labI_row hp hr m up (by omega) hu
    have I := fold_upB hp hr m up (by omega) hu
    have hx : 0 ≤ p.getD m 0 ∧ p.getD m 0 < (n : Int) := by
      have hlt : m < p.length := by omega
      rw [List.getD_eq_getElem?_getD, List.getElem?_eq_getElem hlt]
      exact hr _ (List.getElem_mem _)
    simp only [List.foldl_cons, List.foldl_nil]
    rw [← ih, ← NN_getD]
    generalize p.getD m 0 = x at hx ⊢
    obtain ⟨v, rfl⟩ : ∃ v : Nat, x = v := ⟨x.toNat, by omega⟩
    rw [labI_join I (by omega) (by omega), Int.toNat_natCast]
theorem labI_rowM {n : Nat} {up p : List Int} (hp : p.length = n) (hr : ∀ x ∈ p, 0 ≤ x ∧ x < n) (hu : upB n up) : labI n (rowM n up p) = rowN (labI n up) (NN p) := by
  unfold rowM rowN
  rw [labI_row hp hr n up (Nat.le_refl _) hu, labI_len]
theorem labI_id (n : Nat) : labI n (idM n) = idN n := by
  unfold labI idN
  conv => rhs; rw [← List.map_id (List.range n)]
  apply List.map_congr_left
  intro s hs
  have hs' := List.mem_range.1 hs
  have : rootI (idM n) (s : Int) = s := (rootI_self (upB_id n) (by omega) (by omega)).2 (by simp [idM, hs'])
  rw [this]; simp
theorem outM2_len {n : Nat} {up : List Int} (hu : upB n up) : (outM2 n up).length = partN (labI n up) := by
  unfold outM2 partN
  rw [labI_len]
  suffices h : ∀ m, m ≤ n → ((List.range m).foldl (fun out (s : Nat) => if up.getD s 0 = (s : Int) then out ++ [ownM n up s] else out) []).length = ((List.range m).filter fun s => Nat.beq ((labI n up).getD s 0) s).length from h n (Nat.le_refl _)
  intro m
  induction m with
  | zero => intro _; rfl
  | succ m ih =>
    intro hm
    rw [List.range_succ, List.foldl_append, List.filter_append, List.length_append, ← ih (by omega)]
    simp only [List.foldl_cons, List.foldl_nil]
    have sf := rootI_self hu (s := (m : Int)) (by omega) (by omega)
    have rm := rootI_le hu (s := (m : Int)) (by omega) (by omega)
    rw [Int.toNat_natCast] at sf
    by_cases e : up.getD m 0 = (m : Int)
    · have h2 : Nat.beq ((labI n up).getD m 0) m = true := by rw [labI_get _ _ _ (by omega), sf.2 e]; simp
      have fs : [m].filter (fun s => Nat.beq ((labI n up).getD s 0) s) = [m] := by rw [List.filter_cons, if_pos h2]; rfl
      rw [if_pos e, fs, List.length_append]; rfl
    · have h2 : ¬ Nat.beq ((labI n up).getD m 0) m = true := by
        rw [labI_get _ _ _ (by omega)]
        exact fun h => e (sf.1 (by have := Nat.eq_of_beq_eq_true h; omega))
      have fs : [m].filter (fun s => Nat.beq ((labI n up).getD s 0) s) = [] := by rw [List.filter_cons, if_neg h2]; rfl
      rw [if_neg e, fs]; rfl
/-! the inequality, carried over transpositions and rows -/
structure INV (n : Nat) (lab P : List Nat) (T : Nat) : Prop where
  l : (labsN n).contains lab = true
  p : (permsN n).contains P = true
  r : refN lab P = true
  le : 2 * n + cyN P ≤ T + n + 2 * partN lab
  par : (T + n + cyN P) % 2 = 0
theorem mem_of {l : List (List Nat)} {x : List Nat} (h : l.contains x = true) : x ∈ l := by simpa using h
theorem inv_step {n : Nat} (hn : n < 6) {lab P : List Nat} {T a b : Nat} (h : INV n lab P T) (hb : b < n) (hab : a < b) : INV n (jl lab a b) (thenN P (trN n a b)) (T + 1) := by
  have A := allS_ok n hn
  simp only [allS, Bool.and_eq_true] at A
  have s1 := A.1
  simp only [S1, S1a, List.all_eq_true] at s1
  have := s1 lab (mem_of h.l) P (mem_of h.p)
  rw [h.r] at this
  simp only [Bool.not_true, Bool.false_or, List.all_eq_true, List.mem_range, Bool.or_eq_true] at this
  rcases this a (by omega) b hb with e | e
  · exact absurd (Nat.le_of_ble_eq_true e) (by omega)
  · simp only [stepOk, Bool.and_eq_true, beq_iff_eq] at e
    obtain ⟨⟨⟨⟨e1, e2⟩, e3⟩, e4⟩, e5⟩ := e
    have e1' := Nat.le_of_ble_eq_true e1
    have hp := h.par
    have hl := h.le
    exact ⟨e4, e5, e3, by omega, by omega⟩
theorem inv_steps {n : Nat} (hn : n < 6) : ∀ (ts : List (Nat × Nat)) {lab P : List Nat} {T : Nat}, (∀ t ∈ ts, t.2 < n ∧ t.1 < t.2) → INV n lab P T →
    INV n (ts.foldl (fun lab t => jl lab t.1 t.2) lab) (ts.foldl (fun q t => thenN q (trN n t.1 t.2)) P) (T + ts.length)
  | [], lab, P, T, _, h => h
  | t :: ts, lab, P, T, ht, h => by
    have a := ht t (by simp)
    have := inv_steps hn ts (fun u hu => ht u (by simp [hu])) (inv_step hn h a.1 a.2)
    rw [List.foldl_cons, List.foldl_cons, List.length_cons, show T + (ts.length + 1) = T + 1 + ts.length by omega]
    exact this
theorem then_assoc {n : Nat} {P Q R : List Nat} (hP : ∀ y ∈ P, y < n) (hQ : Q.length = n) : thenN (thenN P Q) R = thenN P (thenN Q R) := by
  unfold thenN
  rw [List.map_map]
  apply List.map_congr_left
  intro y hy
  have : y < Q.length := by rw [hQ]; exact hP y hy
  simp [Function.comp, this]
theorem then_fold {n : Nat} {P : List Nat} (hP : ∀ y ∈ P, y < n) : ∀ (ts : List (Nat × Nat)) (Q : List Nat), Q.length = n →
    ts.foldl (fun q t => thenN q (trN n t.1 t.2)) (thenN P Q) = thenN P (ts.foldl (fun q t => thenN q (trN n t.1 t.2)) Q)
  | [], Q, _ => rfl
  | t :: ts, Q, hQ => by
    rw [List.foldl_cons, List.foldl_cons, then_assoc hP hQ]
    exact then_fold hP ts _ (by simp [thenN, hQ])
theorem then_id {n : Nat} {P : List Nat} (hP : ∀ y ∈ P, y < n) : thenN P (idN n) = P := by
  unfold thenN
  conv => rhs; rw [← List.map_id P]
  apply List.map_congr_left
  intro y hy
  simp [idN, hP y hy]
theorem inv_row {n : Nat} (hn : n < 6) {lab P p : List Nat} {T : Nat} (h : INV n lab P T) (hp : (permsN n).contains p = true) : INV n (rowN lab p) (thenN P p) (T + (n - cyN p)) ∧ cyN p ≤ n := by
  have A := allS_ok n hn
  simp only [allS, Bool.and_eq_true] at A
  have s2 := A.2.1
  have s3 := A.2.2.1
  have s5 := A.2.2.2.2
  simp only [S2, List.all_eq_true] at s2
  simp only [S3, S3a, List.all_eq_true] at s3
  simp only [S5, List.all_eq_true] at s5
  have q2 := s2 p (mem_of hp)
  have q3 := s3 lab (mem_of h.l) p (mem_of hp)
  have q5 := s5 P (mem_of h.p)
  simp only [Bool.and_eq_true, beq_iff_eq, List.all_eq_true] at q2 q3 q5
  obtain ⟨⟨d1, d2⟩, d3⟩ := q2
  have hP : ∀ y ∈ P, y < n := fun y hy => by have := q5.1 y hy; simpa [Nat.blt_eq] using this
  have st := inv_steps hn (dec p) (lab := lab) (P := P) (T := T) (fun t ht => by
    have := d3 t ht
    simp only [Bool.and_eq_true, Nat.blt_eq] at this
    exact this) h
  have e1 : (dec p).foldl (fun q t => thenN q (trN n t.1 t.2)) P = thenN P p := by
    have := then_fold hP (dec p) (idN n) (by simp [idN])
    rw [then_id hP, d1] at this
    exact this
  rw [e1, ← q3] at st
  refine ⟨?_, by omega⟩
  have e2 : (dec p).length = n - cyN p := by omega
  rw [e2] at st
  exact st
theorem inv_zero {n : Nat} (hn : n < 6) : INV n (idN n) (idN n) 0 := by
  have A := allS_ok n hn
  simp only [allS, Bool.and_eq_true] at A
  have s4 := A.2.2.2.1
  simp only [S4, Bool.and_eq_true, beq_iff_eq] at s4
  obtain ⟨⟨⟨⟨a, b⟩, c⟩, d⟩, e⟩ := s4
  exact ⟨a, b, c, by rw [d, e]; omega, by rw [e]; omega⟩
/-- sheets less cycles, of all rows -/
def lessN : List (List Int) → Nat
  | [] => 0
  | p :: xs => (p.length - cyN (NN p)) + lessN xs
theorem inv_rows {n : Nat} (h1 : 1 ≤ n) (hn : n < 6) : ∀ (xs : List (List Int)) (up P : List Int) (T : Nat), (∀ p ∈ xs, permN n p) → upB n up → INV n (labI n up) (NN P) T →
    INV n (labI n (xs.foldl (rowM n) up)) (NN (xs.foldl thenM P)) (T + lessN xs)
  | [], up, P, T, _, _, h => h
  | p :: xs, up, P, T, hx, hu, h => by
    have pp := hx p (by simp)
    have po := permN_of pp
    have st := (inv_row hn h (NN_perm pp h1 (by omega))).1
    rw [← labI_rowM po.1 po.2.1 hu, ← NN_then] at st
    have := inv_rows h1 hn xs (rowM n up p) (thenM P p) _ (fun q hq => hx q (by simp [hq])) (rowM_I po.1 po.2.1 hu) st
    rw [List.foldl_cons, List.foldl_cons]
    have e : T + lessN (p :: xs) = T + (n - cyN (NN p)) + lessN xs := by simp only [lessN, po.1]; omega
    rw [e]; exact this

/-! ### classes of an equivalence over the numbers below n -/
/-- the least equivalence over a relation -/
inductive Con (g : Nat → Nat → Prop) : Nat → Nat → Prop
  | rel {a b : Nat} : g a b → Con g a b
  | refl (a : Nat) : Con g a a
  | symm {a b : Nat} : Con g a b → Con g b a
  | trans {a b c : Nat} : Con g a b → Con g b c → Con g a c
structure Eqv (E : Nat → Nat → Prop) : Prop where
  refl : ∀ a, E a a
  symm : ∀ {a b}, E a b → E b a
  trans : ∀ {a b c}, E a b → E b c → E a c
theorem Con.eqv (g : Nat → Nat → Prop) : Eqv (Con g) := ⟨.refl, .symm, .trans⟩
theorem Con.least {g E : Nat → Nat → Prop} (hE : Eqv E) (h : ∀ a b, g a b → E a b) {a b : Nat} (hc : Con g a b) : E a b := by
  induction hc with
  | rel h1 => exact h _ _ h1
  | refl a => exact hE.refl a
  | symm _ ih => exact hE.symm ih
  | trans _ _ ih1 ih2 => exact hE.trans ih1 ih2
theorem Con.mono {g g' : Nat → Nat → Prop} (h : ∀ a b, g a b → Con g' a b) {a b : Nat} (hc : Con g a b) : Con g' a b := Con.least (Con.eqv g') h hc
/-- two classes made one -/
def jn (E : Nat → Nat → Prop) (a b : Nat) (x y : Nat) : Prop := E x y ∨ (E x a ∧ E b y) ∨ (E x b ∧ E a y)
theorem jn_eqv {E : Nat → Nat → Prop} (hE : Eqv E) (a b : Nat) : Eqv (jn E a b) where
  refl := fun x => .inl (hE.refl x)
  symm := by
    rintro x y (h | ⟨h1, h2⟩ | ⟨h1, h2⟩)
    · exact .inl (hE.symm h)
    · exact .inr (.inr ⟨hE.symm h2, hE.symm h1⟩)
    · exact .inr (.inl ⟨hE.symm h2, hE.symm h1⟩)
  trans := by
    rintro x y z (h | ⟨h1, h2⟩ | ⟨h1, h2⟩) (k | ⟨k1, k2⟩ | ⟨k1, k2⟩)
    · exact .inl (hE.trans h k)
    · exact .inr (.inl ⟨hE.trans h k1, k2⟩)
    · exact .inr (.inr ⟨hE.trans h k1, k2⟩)
    · exact .inr (.inl ⟨h1, hE.trans h2 k⟩)
    · exact .inr (.inl ⟨h1, k2⟩)
    · exact .inl (hE.trans h1 k2)
    · exact .inr (.inr ⟨h1, hE.trans h2 k⟩)
    · exact .inl (hE.trans h1 k2)
    · exact .inr (.inr ⟨h1, k2⟩)
theorem jn_con {g : Nat → Nat → Prop} (a b : Nat) {x y : Nat} : Con (fun x y => g x y ∨ (x = a ∧ y = b)) x y ↔ jn (Con g) a b x y := by
  constructor
  · intro h
    refine Con.least (jn_eqv (Con.eqv g) a b) ?_ h
    rintro x y (h | ⟨rfl, rfl⟩)
    · exact .inl (.rel h)
    · exact .inr (.inl ⟨.refl _, .refl _⟩)
  · have up : ∀ {x y}, Con g x y → Con (fun x y => g x y ∨ (x = a ∧ y = b)) x y := fun h => Con.mono (fun _ _ h => .rel (.inl h)) h
    have e : Con (fun x y => g x y ∨ (x = a ∧ y = b)) a b := .rel (.inr ⟨rfl, rfl⟩)
    rintro (h | ⟨h1, h2⟩ | ⟨h1, h2⟩)
    · exact up h
    · exact .trans (up h1) (.trans e (up h2))
    · exact .trans (up h1) (.trans (.symm e) (up h2))
/-! ### labels tell their classes: equal classes, equal labels -/
structure Canon (n : Nat) (lab : List Nat) (E : Nat → Nat → Prop) : Prop where
  len : lab.length = n
  eqv : Eqv E
  own : ∀ s, s < n → E (lab.getD s 0) s
  low : ∀ s, s < n → ∀ t, E t s → lab.getD s 0 ≤ t
theorem Canon.same {n : Nat} {lab : List Nat} {E : Nat → Nat → Prop} (C : Canon n lab E) {s t : Nat} (hs : s < n) (ht : t < n) (h : E s t) : lab.getD s 0 = lab.getD t 0 :=
  Nat.le_antisymm (C.low s hs _ (C.eqv.trans (C.own t ht) (C.eqv.symm h))) (C.low t ht _ (C.eqv.trans (C.own s hs) h))
theorem Canon.congr {n : Nat} {lab : List Nat} {E E' : Nat → Nat → Prop} (C : Canon n lab E) (h : ∀ x y, E x y ↔ E' x y) : Canon n lab E' := by
  have : E = E' := by funext x y; exact propext (h x y)
  rw [← this]; exact C
theorem Canon.uniq {n : Nat} {lab lab' : List Nat} {E : Nat → Nat → Prop} (C : Canon n lab E) (C' : Canon n lab' E) : lab = lab' := by
  apply List.ext_getElem (by rw [C.len, C'.len])
  intro i h1 h2
  have hi : i < n := by have := C.len; omega
  have a := C.low i hi _ (C'.own i hi)
  have b := C'.low i hi _ (C.own i hi)
  simp only [List.getD_eq_getElem?_getD, List.getElem?_eq_getElem h1, List.getElem?_eq_getElem h2, Option.getD_some] at a b
  omega
theorem jl_get (lab : List Nat) (a b s : Nat) (h : s < lab.length) : (jl lab a b).getD s 0 = if lab.getD s 0 = max (lab.getD a 0) (lab.getD b 0) then min (lab.getD a 0) (lab.getD b 0) else lab.getD s 0 := by
  simp only [jl, List.getD_eq_getElem?_getD, List.getElem?_map, List.getElem?_eq_getElem h, Option.map_some, Option.getD_some]
theorem Canon.join {n : Nat} {lab : List Nat} {E : Nat → Nat → Prop} (C : Canon n lab E) {a b : Nat} (ha : a < n) (hb : b < n) : Canon n (jl lab a b) (jn E a b) := by
  have oa := C.own a ha
  have ob := C.own b hb
  refine ⟨by simp [jl, C.len], jn_eqv C.eqv a b, fun s hs => ?_, fun s hs t ht => ?_⟩
  · rw [jl_get _ _ _ _ (by rw [C.len]; exact hs)]
    have os := C.own s hs
    split
    · rename_i e
      by_cases h : lab.getD a 0 ≤ lab.getD b 0
      · rw [Nat.max_eq_right h] at e
        rw [Nat.min_eq_left h]
        rw [e] at os
        exact .inr (.inl ⟨oa, C.eqv.trans (C.eqv.symm ob) os⟩)
      · rw [Nat.max_eq_left (by omega)] at e
        rw [Nat.min_eq_right (by omega)]
        rw [e] at os
        exact .inr (.inr ⟨ob, C.eqv.trans (C.eqv.symm oa) os⟩)
    · exact .inl os
  · rw [jl_get _ _ _ _ (by rw [C.len]; exact hs)]
    rcases ht with h | ⟨h1, h2⟩ | ⟨h1, h2⟩
    · have := C.low s hs t h
      split <;> omega
    · have e := C.same hb hs h2
      have := C.low a ha t h1
      split <;> omega
    · have e := C.same ha hs h2
      have := C.low b hb t h1
      split <;> omega
theorem Canon.row {n : Nat} {lab : List Nat} {E : Nat → Nat → Prop} (C : Canon n lab E) {p : List Nat} (hp : ∀ s, s < n → p.getD s 0 < n) : Canon n (rowN lab p) (Con fun x y => E x y ∨ (x < n ∧ y = p.getD x 0)) := by
  have go : ∀ m, m ≤ n → Canon n ((List.range m).foldl (fun lab s => jl lab s (p.getD s 0)) lab) (Con fun x y => E x y ∨ (x < m ∧ y = p.getD x 0)) := by
    intro m
    induction m with
    | zero =>
      intro _
      refine C.congr fun x y => ⟨fun h => .rel (.inl h), fun h => Con.least C.eqv ?_ h⟩
      rintro x y (h | ⟨h, _⟩)
      · exact h
      · omega
    | succ m ih =>
      intro hm
      rw [List.range_succ, List.foldl_append]
      refine ((ih (by omega)).join (a := m) (by omega) (hp m (by omega))).congr fun x y => ?_
      rw [← jn_con]
      constructor
      · refine Con.mono ?_
        rintro x y ((h | ⟨h1, h2⟩) | ⟨rfl, rfl⟩)
        · exact .rel (.inl h)
        · exact .rel (.inr ⟨by omega, h2⟩)
        · exact .rel (.inr ⟨by omega, rfl⟩)
      · refine Con.mono ?_
        rintro x y (h | ⟨h1, h2⟩)
        · exact .rel (.inl (.inl h))
        · by_cases e : x = m
          · subst e; exact .rel (.inr ⟨rfl, h2⟩)
          · exact .rel (.inl (.inr ⟨by omega, h2⟩))
  have := go n (Nat.le_refl _)
  unfold rowN
  rw [C.len]; exact this
def rowsR (n : Nat) (xs : List (List Nat)) (x y : Nat) : Prop := ∃ p ∈ xs, x < n ∧ y = p.getD x 0
theorem Canon.rows {n : Nat} : ∀ (xs : List (List Nat)) {lab : List Nat} {E : Nat → Nat → Prop}, Canon n lab E → (∀ p ∈ xs, ∀ s, s < n → p.getD s 0 < n) → Canon n (xs.foldl rowN lab) (Con fun x y => E x y ∨ rowsR n xs x y)
  | [], lab, E, C, _ => C.congr fun x y => ⟨fun h => .rel (.inl h), fun h => Con.least C.eqv (by
      rintro x y (h | ⟨p, hp, _⟩)
      · exact h
      · cases hp) h⟩
  | p :: xs, lab, E, C, hp => by
    refine (Canon.rows xs (C.row (hp p (by simp))) (fun q hq => hp q (by simp [hq]))).congr fun x y => ⟨Con.mono ?_, Con.mono ?_⟩
    · rintro x y (h | ⟨q, hq, h⟩)
      · refine Con.mono ?_ h
        rintro x y (h | h)
        · exact .rel (.inl h)
        · exact .rel (.inr ⟨p, by simp, h⟩)
      · exact .rel (.inr ⟨q, by simp [hq], h⟩)
    · rintro x y (h | ⟨q, hq, h⟩)
      · exact .rel (.inl (.rel (.inl h)))
      · rcases List.mem_cons.1 hq with e | e
        · subst e; exact .rel (.inl (.rel (.inr h)))
        · exact .rel (.inr ⟨q, e, h⟩)
theorem Canon.id (n : Nat) : Canon n (idN n) (fun x y => x = y) := by
  have g : ∀ s, s < n → (idN n).getD s 0 = s := fun s h => by simp [idN, h]
  refine ⟨by simp [idN], ⟨fun _ => rfl, fun h => h.symm, fun h k => h.trans k⟩, fun s hs => g s hs, fun s hs t e => ?_⟩
  rw [g s hs]; omega
/-- the classes' labels depend on the rows' steps alone -/
theorem labs_eq {n : Nat} {xs ys : List (List Nat)} (hx : ∀ p ∈ xs, ∀ s, s < n → p.getD s 0 < n) (hy : ∀ p ∈ ys, ∀ s, s < n → p.getD s 0 < n)
    (h1 : ∀ x y, rowsR n xs x y → Con (rowsR n ys) x y) (h2 : ∀ x y, rowsR n ys x y → Con (rowsR n xs) x y) : xs.foldl rowN (idN n) = ys.foldl rowN (idN n) := by
  have a := Canon.rows xs (Canon.id n) hx
  have b := Canon.rows ys (Canon.id n) hy
  have strip : ∀ (zs : List (List Nat)) x y, Con (fun x y => x = y ∨ rowsR n zs x y) x y ↔ Con (rowsR n zs) x y := fun zs x y => ⟨Con.mono (by
    rintro x y (rfl | h)
    · exact .refl _
    · exact .rel h), Con.mono fun x y h => .rel (.inr h)⟩
  exact (a.congr (strip xs)).uniq ((b.congr (strip ys)).congr fun x y => ⟨Con.mono h2, Con.mono h1⟩)

theorem laws_big_no (l : List Int) (h : ¬ (l.length : Int) > 1048576) : laws_big.f l = some false := by
  unfold laws_big.f; rw [decide_eq_false h]

theorem spec_l1In_is (a b c : Int) : spec_l1In.f a b c = some (decide (b ≤ a ∧ a ≤ c)) := by
  unfold spec_l1In.f
  by_cases h : a ≥ b
  · rw [if_pos h]; simp [show b ≤ a from h]
  · rw [if_neg h]; simp; omega

theorem spec_l6Perm_l0 (p : List Int) (hn : p.length < 4611686018427387904) : ∀ (suf pre : List Int), p = pre ++ suf → pre.Nodup →
    EV (fun k => spec_l6Perm.l0 k p (seenM p.length pre) (pre.length : Int)) (suf.all (inB p.length) && decide (pre ++ suf).Nodup) := by
  intro suf
  induction suf with
  | nil =>
    intro pre h hp
    refine EV.step (fun k => by rw [spec_l6Perm.l0]) ?_
    exact EV.neg (by subst h; simp) ((EV.now _).eq (by simp [hp]))
  | cons x suf ih =>
    intro pre h hp
    have hpl : pre.length < 4611686018427387904 := by subst h; simp at hn; omega
    have hlt : (pre.length : Int) < (p.length : Int) := by subst h; exact lt_app ..
    have hx : rd p (pre.length : Int) = x := by subst h; exact rd_app ..
    refine EV.step (fun k => by rw [spec_l6Perm.l0]) ?_
    rw [hx, up (x := x) hpl, w64 (x := (p.length : Int) - 1) (by omega) (by omega)]
    refine EV.pos hlt (EV.pos (by omega) (EV.by (spec_l1In_is _ _ _) ?_))
    by_cases hb : inB p.length x = true
    · have b := inB_of hb
      refine EV.pos (by simp; omega) (EV.pos b.1 (EV.pos (by simp [seenM]; omega) ?_))
      rw [show rdOf false (seenM p.length pre) x = decide (x ∈ pre) by unfold seenM; rw [rdOf_tab _ _ _ _ b.1 b.2, show ((x.toNat : Nat) : Int) = x by omega]]
      by_cases hm : x ∈ pre
      · refine EV.pos (by simpa using hm) ((EV.now _).eq ?_)
        rw [decide_eq_false, Bool.and_false]
        intro c
        exact (List.nodup_append.1 c).2.2 x hm x (by simp) rfl
      · refine EV.neg (by simpa using hm) ?_
        rw [seenM_snoc _ _ _ b.1]
        refine (ih (pre ++ [x]) (by simp [h]) ?_).eq (by simp [hb])
        rw [List.nodup_append]
        refine ⟨hp, by simp, fun a ha c hc => ?_⟩
        rw [List.mem_singleton] at hc
        intro e; exact hm (by rw [← hc, ← e]; exact ha)
    · refine EV.neg (by simp only [inB, decide_eq_true_iff] at hb; simp; omega) ((EV.now _).eq ?_)
      rw [List.all_cons, show inB p.length x = false by simpa using hb]; simp
theorem spec_l6Perm_is (p : List Int) (hn : p.length < 4294967296) : EV (fun k => spec_l6Perm.f k p) (permB p) := by
  refine EV.pos (by omega) (EV.pos (by omega) ?_)
  have := spec_l6Perm_l0 p (by omega) p [] rfl List.nodup_nil
  rw [seenM_nil] at this
  exact this

theorem spec_l9Perms_is (l : List (List Int)) (hn : l.length < 4294967296) (hr : ∀ r ∈ l, r.length < 4294967296) : EV (fun k => spec_l9Perms.f k l) (permsB l) := by
  have := EV.scan (g := fun k i => spec_l9Perms.l0 k l i) l (sheetB (d0 l)) (decide (1 ≤ l.length ∧ l.length ≤ 8) && decide (1 ≤ d0 l ∧ d0 l ≤ 5)) (fun i h r H1 H2 => ?_) ?_
  · refine EV.eq this ?_
    rw [Bool.eq_iff_iff]
    simp only [permsB, sheetsB, Bool.and_eq_true, decide_eq_true_iff]
    constructor
    · intro h; exact ⟨⟨by omega, h.2.2, h.1⟩, by omega⟩
    · intro h; exact ⟨h.1.2.2, ⟨by omega, by omega⟩, h.1.2.1⟩
  · refine EV.step (fun k => by rw [spec_l9Perms.l0]) ?_
    rw [rdL_nat _ _ h, w64 (x := (i : Int) + 1) (by omega) (by omega), rdL_zero]
    refine EV.pos (by omega) (EV.pos (by omega) (EV.pos (by omega) ?_))
    by_cases hl : (l[i]).length = d0 l
    · refine EV.pos (by unfold d0 at hl; omega) (EV.bind (spec_l6Perm_is _ (hr _ (List.getElem_mem h))) ?_)
      exact EV.cases (fun c => H1 (by simp [sheetB, hl, c])) (fun c => (EV.now _).eq (H2 (by simp [sheetB, hl]; simpa using c)).symm)
    · exact EV.neg (by unfold d0 at hl; omega) ((EV.now _).eq (H2 (by simp [sheetB, hl])).symm)
  · refine EV.step (fun k => by rw [spec_l9Perms.l0]) ?_
    refine EV.neg (by omega) (EV.by (spec_l1In_is _ _ _) ?_)
    by_cases h : 1 ≤ l.length ∧ l.length ≤ 8
    · refine EV.pos (by simp; omega) (EV.pos (by omega) (EV.by (spec_l1In_is _ _ _) ((EV.now _).eq ?_)))
      rw [rdL_zero, Bool.eq_iff_iff]
      simp [d0]; omega
    · refine EV.neg (by simp; omega) ((EV.now _).eq ?_)
      simp [h]

theorem spec_l6Inverse_is (p : List Int) (hp : ∀ x ∈ p, 0 ≤ x ∧ x < p.length) (hn : p.length < 4294967296) : EV (fun k => spec_l6Inverse.f k p) (invM p) := by
  refine EV.pos (by omega) (EV.pos (by omega) ?_)
  refine EV.count (g := fun k s i => spec_l6Inverse.l0 k p s i) p.length (invK p) _ (fun i hi H => ?_) ?_
  · have hx := hp _ (List.getElem_mem hi)
    have hl : (invK p i).length = p.length := (invK_I p (by omega) i (by omega)).1
    refine EV.step (fun k => by rw [spec_l6Inverse.l0]) ?_
    rw [rd_nat _ _ hi, w64 (x := (i : Int) + 1) (by omega) (by omega)]
    refine EV.pos (by omega) (EV.pos (by omega) (EV.pos (by omega) (EV.pos (by omega) ?_)))
    rw [invK_succ] at H
    have e : p.getD i 0 = p[i] := by simp [hi]
    rw [e] at H
    exact H
  · refine EV.step (fun k => by rw [spec_l6Inverse.l0]) ?_
    exact EV.neg (by omega) (EV.now _)

theorem spec_l2Letter_is (a : Int) : spec_l2Letter.f a = some (letterB a) := by
  unfold spec_l2Letter.f
  rw [spec_l1In_is, spec_l1In_is]
  simp only [Option.bind_some]
  by_cases h : 1 ≤ a ∧ a ≤ 8
  · rw [if_pos (by simp [h])]; simp [letterB]; omega
  · rw [if_neg (by simpa using h)]; simp [letterB]; congr 1; rw [Bool.eq_iff_iff]; simp; omega

theorem spec_IsWord_is (xs : List Int) (hn : xs.length < 4611686018427387904) : EV (fun k => spec_IsWord.f k xs) (wordB xs) := by
  refine EV.scan (g := fun k i => spec_IsWord.l0 k xs i) xs letterB (decide (xs.length ≤ 24)) (fun i h r H1 H2 => ?_) ?_
  · refine EV.step (fun k => by rw [spec_IsWord.l0]) ?_
    rw [rd_nat _ _ h, w64 (x := (i : Int) + 1) (by omega) (by omega)]
    refine EV.pos (by omega) (EV.pos (by omega) (EV.by (spec_l2Letter_is _) ?_))
    exact EV.cases H1 (fun c => (EV.now _).eq (H2 (by simpa using c)).symm)
  · refine EV.step (fun k => by rw [spec_IsWord.l0]) ?_
    refine EV.neg (by omega) ((EV.now _).eq ?_)
    rw [Bool.eq_iff_iff]; simp; omega

theorem spec_l1Max_is (a b : Int) : spec_l1Max.f a b = some (if a > b then a else b) := by
  unfold spec_l1Max.f; split <;> rfl

theorem spec_l3Abs_is (a : Int) (h : -9223372036854775808 < a) (h' : a ≤ 9223372036854775807) : spec_l3Abs.f a = some (a.natAbs : Int) := by
  unfold spec_l3Abs.f
  rw [spec_l1Max_is, w64 (by omega) (by omega)]
  simp only [Option.bind_some]
  congr 1
  split <;> omega

theorem spec_l9Act_is (l : List (List Int)) (w : List Int) (s : Int) (hs : sheetsB l = true) (hw : lettersB l w) (hn : w.length < 4294967296) (h0 : 0 ≤ s) (h1 : s < d0 l) : EV (fun k => spec_l9Act.f k l w s) (actS l w s) := by
  have S := sheetsB_of hs
  refine EV.fold (g := fun k s i => spec_l9Act.l0 k l w s i) w (fun s a => (stepP l a).getD s.toNat 0) id (fun _ s => 0 ≤ s ∧ s < d0 l) (fun i h s r hI H => ?_) (fun s hI => ?_) s ⟨h0, h1⟩
  · have ha := hw _ (List.getElem_mem h)
    have I := stepP_I hs ha.1 ha.2.1
    have hi : (w[i]).natAbs - 1 < l.length := by omega
    have row := S.2.2.2 _ (List.getElem_mem hi)
    have e : l.getD ((w[i]).natAbs - 1) [] = l[(w[i]).natAbs - 1] := by simp [hi]
    have H := H (getD_in I.1 I.2 hI.1 hI.2)
    refine EV.step (fun k => by rw [spec_l9Act.l0]) ?_
    rw [rd_nat _ _ h, w64 (x := (i : Int) + 1) (by omega) (by omega)]
    refine EV.pos (by omega) (EV.pos (by omega) (EV.by (spec_l3Abs_is _ (by omega) (by omega)) ?_))
    rw [w64 (x := ((w[i]).natAbs : Int) - 1) (by omega) (by omega), show (((w[i]).natAbs : Int) - 1) = (((w[i]).natAbs - 1 : Nat) : Int) by omega, rdL_nat _ _ hi]
    refine EV.pos (by omega) (EV.pos (by omega) ?_)
    by_cases hneg : w[i] < 0
    · refine EV.pos hneg (EV.bind (spec_l6Inverse_is _ (permB_of row.2).1 (by omega)) ?_)
      have e2 : stepP l w[i] = invM l[(w[i]).natAbs - 1] := by unfold stepP; rw [if_pos hneg, e]
      rw [e2] at I H
      exact EV.pos hI.1 (EV.pos (by omega) H)
    · refine EV.neg hneg ?_
      have e2 : stepP l w[i] = l[(w[i]).natAbs - 1] := by unfold stepP; rw [if_neg hneg, e]
      rw [e2] at I H
      exact EV.pos hI.1 (EV.pos (by omega) H)
  · refine EV.step (fun k => by rw [spec_l9Act.l0]) ?_
    exact EV.neg (by omega) (EV.now _)

theorem spec_ActWord_is (l : List (List Int)) (w : List Int) (hn : l.length < 4294967296) (hr : ∀ r ∈ l, r.length < 4294967296) (hw : w.length < 4294967296) : EV (fun k => spec_ActWord.f k l w) (actM l w) := by
  have no : EV (fun k => spec_ActWord.j0 k l w true) [] := by
    refine EV.step (fun k => by rw [spec_ActWord.j0]) ?_
    exact EV.pos rfl (EV.now _)
  unfold actM
  refine EV.bind (spec_l9Perms_is l hn hr) ?_
  by_cases h1 : permsB l = true
  · refine EV.pos h1 (EV.bind (spec_IsWord_is w (by omega)) ?_)
    have hs : sheetsB l = true := by have := h1; simp only [permsB, Bool.and_eq_true] at this; exact this.1
    have S := sheetsB_of hs
    by_cases h2 : wordB w = true
    · rw [h2]
      refine EV.step (fun k => by rw [spec_ActWord.j0]) ?_
      refine EV.neg (by simp) ?_
      refine EV.scanC (g := fun k i => spec_ActWord.l0 k l w i) w (leB l.length) _ [] (fun i h H1 H2 => ?_) (fun h3 => ?_) (fun h3 => ?_)
      · have hx := letterB_of (all_getElem (wordB_of h2).1 i h)
        refine EV.step (fun k => by rw [spec_ActWord.l0]) ?_
        rw [rd_nat _ _ h, w64 (x := (i : Int) + 1) (by omega) (by omega)]
        refine EV.pos (by omega) (EV.pos (by omega) (EV.by (spec_l3Abs_is _ (by omega) (by omega)) ?_))
        exact EV.cases (fun c => (EV.now _).eq (H2 (by simp [leB]; omega)).symm) (fun c => H1 (by simp [leB]; omega))
      · have hok : wordOk l w = true := by unfold wordOk; rw [h2, h3]; rfl
        rw [if_pos ⟨h1, hok⟩]
        have L := letters_of hok
        refine EV.step (fun k => by rw [spec_ActWord.l0]) ?_
        refine EV.neg (by omega) ?_
        refine EV.count (g := fun k s i => spec_ActWord.l1 k l w s i) (d0 l) (fun i => (List.range i).map fun j : Nat => actS l w (j : Int)) _ (fun i hi H => ?_) ?_
        · refine EV.step (fun k => by rw [spec_ActWord.l1]) ?_
          rw [w64 (x := (i : Int) + 1) (by omega) (by omega), rdL_zero]
          refine EV.pos (by omega) (EV.pos (by unfold d0 at hi; omega) (EV.bind (spec_l9Act_is l w (i : Int) hs L.1 hw (by omega) (by omega)) (EV.pos (by simp; omega) ?_)))
          simpa [List.range_succ] using H
        · refine EV.step (fun k => by rw [spec_ActWord.l1]) ?_
          rw [rdL_zero]
          refine EV.pos (by omega) (EV.neg (by unfold d0; omega) ((EV.now _).eq ?_))
          simp [actL, idM, Function.comp_def]
      · rw [if_neg]
        intro c
        have := c.2
        unfold wordOk at this
        rw [h3, Bool.and_false] at this; cases this
    · rw [show wordB w = false by simpa using h2, if_neg]
      · exact no
      · intro c
        have := c.2
        unfold wordOk at this
        rw [Bool.and_eq_true] at this; exact h2 this.1
  · rw [if_neg (fun c => h1 c.1)]
    exact EV.neg h1 no

theorem spec_l10Letters_is (n : Nat) (hn : n < 4294967296) : EV (fun k => spec_l10Letters.f k (n : Int)) (lettersM n) := by
  suffices h : ∀ (c i : Nat), i + c = n → EV (fun k => spec_l10Letters.l0 k (n : Int) (lettersM i) ((i : Int) + 1)) (lettersM n) by exact h n 0 (by omega)
  intro c
  induction c with
  | zero =>
    intro i h
    have : i = n := by omega
    subst this
    refine EV.step (fun k => by rw [spec_l10Letters.l0]) ?_
    exact EV.neg (by omega) (EV.now _)
  | succ c ih =>
    intro i h
    refine EV.step (fun k => by rw [spec_l10Letters.l0]) ?_
    rw [w64 (x := (i : Int) + 1 + 1) (by omega) (by omega)]
    refine EV.pos (by omega) (EV.pos (by simp [lettersM]; omega) ?_)
    have := ih (i + 1) (by omega)
    simpa [lettersM, List.range_succ] using this

theorem spec_l5Copy_l0 (t : List (List Int)) (hn : t.length ≤ 1048576) (hr : ∀ r ∈ t, r.length ≤ 1048576) : ∀ (suf pre : List (List Int)), t = pre ++ suf →
    EV (fun k => spec_l5Copy.l0 k t pre (pre.length : Int)) t := by
  intro suf
  induction suf with
  | nil =>
    intro pre h
    refine EV.step (fun k => by rw [spec_l5Copy.l0]) ?_
    exact EV.neg (by subst h; simp) ((EV.now _).eq (by simp [h]))
  | cons x suf ih =>
    intro pre h
    have hl : pre.length < 1048576 := by subst h; simp at hn; omega
    have hlt : (pre.length : Int) < (t.length : Int) := by subst h; exact lt_app ..
    have hx : rd_L3 t (pre.length : Int) = x := by subst h; exact rdL_app ..
    have hx' : x.length ≤ 1048576 := hr x (by subst h; simp)
    refine EV.step (fun k => by rw [spec_l5Copy.l0]) ?_
    rw [hx, up (x := x) (by omega)]
    refine EV.pos hlt (EV.by rfl (EV.pos (by omega) (EV.pos (by simp; omega) (EV.pos (by omega) ?_))))
    have := ih (pre ++ [x]) (by simp [h])
    simpa using this
theorem spec_l5Copy_is (t : List (List Int)) (hn : t.length ≤ 1048576) (hr : ∀ r ∈ t, r.length ≤ 1048576) : EV (fun k => spec_l5Copy.f k t) t := spec_l5Copy_l0 t hn hr t [] rfl

def total : List (List Int) → Nat
  | [] => 0
  | r :: rs => r.length + total rs
theorem total_mem {r : List Int} : ∀ {xs : List (List Int)}, r ∈ xs → r.length ≤ total xs
  | [], h => by cases h
  | x :: xs, h => by
    rcases List.mem_cons.1 h with rfl | h
    · simp [total]
    · have := total_mem h; simp only [total]; omega
theorem actK_I {l : List (List Int)} (hs : sheetsB l = true) : ∀ (w out : List Int), lettersB l w → (out.length = d0 l ∧ ∀ x ∈ out, 0 ≤ x ∧ x < d0 l) → (actK l w out).length = d0 l ∧ ∀ x ∈ actK l w out, 0 ≤ x ∧ x < d0 l
  | [], out, _, h => h
  | a :: w, out, hw, h => by
    have ha := hw a (by simp)
    have := actK_I hs w (thenM out (stepP l a)) (fun b hb => hw b (by simp [hb])) (thenM_I h (stepP_I hs ha.1 ha.2.1))
    simpa [actK] using this
theorem actL_I {l : List (List Int)} (hs : sheetsB l = true) {w : List Int} (hw : lettersB l w) : (actL l w).length = d0 l ∧ ∀ x ∈ actL l w, 0 ≤ x ∧ x < d0 l := by
  have := actK_I hs w (idM (d0 l)) hw (idM_I _)
  rwa [actK_eq] at this
def closeM (l : List (List Int)) : List (List Int) × Bool :=
  if (1 ≤ l.length ∧ l.length ≤ 4) ∧ sheetsB l = true then (l ++ [invM (actL l (lettersM l.length))], true) else ([], false)
theorem invM_len (p : List Int) (h : 1 ≤ p.length) : (invM p).length = p.length := (invK_I p h _ (Nat.le_refl _)).1
theorem closeM_sz (l : List (List Int)) : (closeM l).1.length ≤ 5 ∧ ∀ r ∈ (closeM l).1, r.length ≤ 5 := by
  unfold closeM
  split
  · rename_i h
    have S := sheetsB_of h.2
    refine ⟨by simp; omega, fun r hr => ?_⟩
    rcases List.mem_append.1 hr with h' | h'
    · have := S.2.2.2 r h'; omega
    · rw [List.mem_singleton.1 h', invM_len _ (by rw [actL_len]; omega), actL_len]; omega
  · simp
theorem total_le5 : ∀ {xs : List (List Int)}, (∀ r ∈ xs, r.length ≤ 5) → total xs ≤ 5 * xs.length
  | [], _ => by simp [total]
  | x :: xs, h => by
    have h1 := h x (by simp)
    have h2 := total_le5 (xs := xs) (fun r hr => h r (by simp [hr]))
    simp only [total, List.length_cons]; omega

theorem spec_CloseUp_is (l : List (List Int)) (hn : l.length ≤ 1048576) (hr : ∀ r ∈ l, r.length ≤ 1048576) : EV (fun k => spec_CloseUp.f k l) (closeM l) := by
  have no : EV (fun k => spec_CloseUp.j0 k l true) ([], false) := by
    refine EV.step (fun k => by rw [spec_CloseUp.j0]) ?_
    exact EV.pos rfl (EV.now _)
  have hr' : ∀ r ∈ l, r.length < 4294967296 := fun r h => by have := hr r h; omega
  unfold closeM
  refine EV.by (spec_l1In_is _ _ _) ?_
  by_cases h1 : 1 ≤ l.length ∧ l.length ≤ 4
  · refine EV.pos (by simp; omega) (EV.bind (spec_l9Perms_is l (by omega) hr') ?_)
    have e := permsB_le (l := l) (by omega)
    rw [e]
    by_cases h2 : sheetsB l = true
    · have S := sheetsB_of h2
      have ok := letters_ok (l := l) (by omega)
      rw [if_pos ⟨h1, h2⟩, h2]
      refine EV.step (fun k => by rw [spec_CloseUp.j0]) ?_
      refine EV.neg (by simp) (EV.bind (spec_l10Letters_is l.length (by omega)) (EV.bind (spec_ActWord_is l _ (by omega) hr' (by simp [lettersM]; omega)) ?_))
      have e2 : actM l (lettersM l.length) = actL l (lettersM l.length) := by unfold actM; rw [if_pos ⟨by rw [e]; exact h2, ok⟩]
      have I := actL_I h2 (letters_of ok).1
      rw [e2]
      refine EV.bind (spec_l6Inverse_is _ (by rw [I.1]; exact I.2) (by omega)) (EV.bind (spec_l5Copy_is l hn hr) (EV.pos (by omega) (EV.now _)))
    · rw [if_neg (fun c => h2 c.2), show sheetsB l = false by simpa using h2]
      exact no
  · rw [if_neg (fun c => h1 c.1)]
    exact EV.neg (by simp; omega) no

theorem and255 (x : Int) : 0 ≤ Go.bits .and .i64 x 255 ∧ Go.bits .and .i64 x 255 ≤ 255 := by
  have h : (BitVec.ofInt 64 x &&& BitVec.ofInt 64 255).toNat ≤ 255 := by
    rw [BitVec.toNat_and]; exact Nat.le_trans Nat.and_le_right (by decide)
  have e : Go.bits .and .i64 x 255 = IntKind.i64.wrap (((BitVec.ofInt 64 x &&& BitVec.ofInt 64 255).toNat : Nat) : Int) := rfl
  rw [e, IntKind.wrap_i64]
  omega

theorem spec_l1Byte_is (b : List Int) (i h : Int) (hb : b.length ≤ 1048576) (hi : 0 ≤ i) : ∃ x i' h', spec_l1Byte.f b i h = some (x, i', h') ∧ 0 ≤ x ∧ x ≤ 255 ∧ 0 ≤ i' := by
  unfold spec_l1Byte.f
  by_cases hc : i < (b.length : Int)
  · rw [if_pos hc, if_pos hi, w64 (x := i + 1) (by omega) (by omega)]
    exact ⟨_, _, _, rfl, (and255 _).1, (and255 _).2, by omega⟩
  · rw [if_neg hc]
    exact ⟨_, _, _, rfl, (and255 _).1, (and255 _).2, hi⟩

theorem spec_l1Below_is (b : List Int) (i h n : Int) (hb : b.length ≤ 1048576) (hi : 0 ≤ i) (h1 : 0 < n) (h2 : n ≤ 256) : ∃ x i' h', spec_l1Below.f b i h n = some (x, i', h') ∧ 0 ≤ x ∧ x < n ∧ 0 ≤ i' := by
  obtain ⟨x, i', h', e, a, c, d⟩ := spec_l1Byte_is b i h hb hi
  unfold spec_l1Below.f
  rw [if_neg (by omega), if_pos h2, e]
  simp only [Option.bind_some]
  rw [if_neg (by omega)]
  refine ⟨_, _, _, rfl, ?_, ?_, d⟩
  · exact Int.tmod_nonneg _ a
  · exact Int.tmod_lt_of_pos _ h1

theorem spec_l1Once_is (b : List Int) (i h n : Int) (hb : b.length ≤ 1048576) (hi : 0 ≤ i) (h1 : 0 < n) (h2 : n ≤ 256) : ∃ x i' h', spec_l1Once.f b i h n = some (x, i', h') ∧ 0 ≤ i' := by
  obtain ⟨x, i', h', e, a, c, d⟩ := spec_l1Below_is b i h n hb hi h1 h2
  unfold spec_l1Once.f
  rw [e]
  exact ⟨_, _, _, rfl, d⟩

theorem spec_l9Perm_l0 (b : List Int) (hb : b.length ≤ 1048576) : ∀ (m i : Nat) (out : List Int) (c h : Int), out.length = i → 0 ≤ c → i + m ≤ 100 → ∃ p c' h', EV (fun k => spec_l9Perm.l0 k ((i + m : Nat) : Int) out (i : Int) b c h) (p, c', h') ∧ p.length = i + m ∧ 0 ≤ c'
  | 0, i, out, c, h, ho, hc, hi => ⟨out, c, h, EV.step (fun k => by rw [spec_l9Perm.l0]) (EV.neg (by omega) (EV.now _)), by omega, hc⟩
  | m + 1, i, out, c, h, ho, hc, hi => by
    obtain ⟨x, c1, h1, e, x0, x1, hc1⟩ := spec_l1Below_is b c h ((out.length : Int) + 1) hb hc (by omega) (by omega)
    have lx : ((out.take x.toNat ++ [(i : Int)]) ++ ([] ++ out.drop x.toNat)).length = i + 1 := by simp; omega
    obtain ⟨p, c2, h2, E, pl, hc2⟩ := spec_l9Perm_l0 b hb m (i + 1) _ c1 h1 lx hc1 (by omega)
    refine ⟨p, c2, h2, EV.step (fun k => by rw [spec_l9Perm.l0]) ?_, by omega, hc2⟩
    rw [w64 (x := (out.length : Int) + 1) (by omega) (by omega), w64 (x := (i : Int) + 1) (by omega) (by omega)]
    refine EV.pos (by omega) (EV.by e (EV.by rfl (EV.pos x0 (EV.pos (by omega) (EV.by rfl (EV.pos (by simp; omega) (EV.by rfl (EV.by rfl (EV.pos (by simp; omega) (EV.by rfl (EV.pos (by simp; omega) ?_)))))))))))
    rw [show ((i + 1 + m : Nat) : Int) = ((i + (m + 1) : Nat) : Int) by omega, show ((i + 1 : Nat) : Int) = (i : Int) + 1 by omega] at E
    exact E
theorem spec_l9Perm_is (b : List Int) (c h : Int) (n : Nat) (hb : b.length ≤ 1048576) (hc : 0 ≤ c) (hn : n ≤ 100) : ∃ p c' h', EV (fun k => spec_l9Perm.f k b c h (n : Int)) (p, c', h') ∧ p.length = n ∧ 0 ≤ c' := by
  obtain ⟨p, c', h', E, l, k⟩ := spec_l9Perm_l0 b hb n 0 [] c h rfl hc (by omega)
  rw [Nat.zero_add] at E l
  exact ⟨p, c', h', E, l, k⟩

def drawnP (l : List (List Int)) : Prop := 1 ≤ l.length ∧ l.length ≤ 5 ∧ ∀ r ∈ l, r.length ≤ 5
theorem spec_l10Draw_l0 (b : List Int) (hb : b.length ≤ 1048576) (n : Nat) (hn : n ≤ 5) : ∀ (m : Nat) (l : List (List Int)) (c h : Int), 0 ≤ c → (∀ r ∈ l, r.length ≤ 5) → l.length + m ≤ 3 → 1 ≤ l.length + m → ∃ R c' h', EV (fun k => spec_l10Draw.l0 k (n : Int) l (m : Int) b c h) (R, c', h') ∧ drawnP R ∧ 0 ≤ c'
  | 0, l, c, h, hc, hr, h3, h1 => by
    have C := spec_CloseUp_is l (by omega) (fun r hr' => by have := hr r hr'; omega)
    obtain ⟨t, c1, h1', e, hc1⟩ := spec_l1Once_is b c h 8 hb hc (by omega) (by omega)
    have z := closeM_sz l
    have go : ∀ R c' h', EV (fun k => if (closeM l).2 = true then ((spec_l1Once.f b c h 8).bind fun bt258 => (if bt258.1 = true then (some (l, bt258.2.1, bt258.2.2)) else (some ((closeM l).1, bt258.2.1, bt258.2.2)))) else (some (l, c, h))) (R, c', h') → EV (fun k => spec_l10Draw.l0 k (n : Int) l ((0 : Nat) : Int) b c h) (R, c', h') := by
      intro R c' h' H
      refine EV.step (fun k => by rw [spec_l10Draw.l0]) ?_
      exact EV.neg (by omega) (EV.bind C H)
    by_cases hk : (closeM l).2 = true
    · by_cases ht : t = true
      · exact ⟨l, c1, h1', go _ _ _ (EV.pos hk (EV.by e (EV.pos ht (EV.now _)))), ⟨by omega, by omega, hr⟩, hc1⟩
      · refine ⟨(closeM l).1, c1, h1', go _ _ _ (EV.pos hk (EV.by e (EV.neg ht (EV.now _)))), ⟨?_, z.1, z.2⟩, hc1⟩
        unfold closeM at hk ⊢
        split
        · simp
        · rename_i hno; rw [if_neg hno] at hk; cases hk
    · exact ⟨l, c, h, go _ _ _ (EV.neg hk (EV.now _)), ⟨by omega, by omega, hr⟩, hc⟩
  | m + 1, l, c, h, hc, hr, h3, h1 => by
    obtain ⟨p, c1, h1', E, pl, hc1⟩ := spec_l9Perm_is b c h n hb hc (by omega)
    obtain ⟨R, c2, h2, E2, D, hc2⟩ := spec_l10Draw_l0 b hb n hn m (l ++ [p]) c1 h1' hc1 (fun r hr' => by
      rcases List.mem_append.1 hr' with h' | h'
      · exact hr r h'
      · rw [List.mem_singleton.1 h']; omega) (by simp; omega) (by simp; omega)
    refine ⟨R, c2, h2, EV.step (fun k => by rw [spec_l10Draw.l0]) ?_, D, hc2⟩
    rw [w64 (x := ((m + 1 : Nat) : Int) - 1) (by omega) (by omega), show ((m + 1 : Nat) : Int) - 1 = (m : Int) by omega]
    exact EV.pos (by omega) (EV.bind E (EV.pos (by omega) E2))
theorem spec_l10Draw_is (b : List Int) (c h : Int) (hb : b.length ≤ 1048576) (hc : 0 ≤ c) : ∃ R c' h', EV (fun k => spec_l10Draw.f k b c h) (R, c', h') ∧ drawnP R ∧ 0 ≤ c' := by
  obtain ⟨x, c1, h1, e1, x0, x1, k1⟩ := spec_l1Below_is b c h 5 hb hc (by omega) (by omega)
  obtain ⟨y, c2, h2, e2, y0, y1, k2⟩ := spec_l1Below_is b c1 h1 3 hb k1 (by omega) (by omega)
  obtain ⟨n, rfl⟩ : ∃ n : Nat, x = n := ⟨x.toNat, by omega⟩
  obtain ⟨m, rfl⟩ : ∃ m : Nat, y = m := ⟨y.toNat, by omega⟩
  obtain ⟨R, c3, h3, E, D, k3⟩ := spec_l10Draw_l0 b hb (n + 1) (by omega) (m + 1) [] c2 h2 k2 (fun r hr => by cases hr) (by simp; omega) (by simp)
  refine ⟨R, c3, h3, EV.by e1 (EV.by e2 ?_), D, k3⟩
  rw [w64 (x := 1 + (n : Int)) (by omega) (by omega), w64 (x := (m : Int) + 1) (by omega) (by omega), show 1 + (n : Int) = ((n + 1 : Nat) : Int) by omega, show (m : Int) + 1 = ((m + 1 : Nat) : Int) by omega]
  exact E

theorem spec_l1New_l0 (b : List Int) (hb : b.length ≤ 1048576) : ∀ (n i : Nat) (x : Int), i + n = b.length → ∃ h, EV (fun k => spec_l1New.l0 k b x (i : Int)) (b, 0, h)
  | 0, i, x, hi => ⟨x, EV.step (fun k => by rw [spec_l1New.l0]) (EV.neg (by omega) (EV.now _))⟩
  | n + 1, i, x, hi => by
    by_cases h4 : (i : Int) < 4000
    · obtain ⟨h, H⟩ := spec_l1New_l0 b hb n (i + 1) (Go.bits .and .i64 (wrap64 ((wrap64 ((wrap64 (x * 131)) + (wrap64 (rd b (i : Int))))) + 7)) 1073741823) (by omega)
      refine ⟨h, EV.step (fun k => by rw [spec_l1New.l0]) (EV.pos (by omega) (EV.pos h4 (EV.pos (by omega) ?_)))⟩
      rw [w64 (x := (i : Int) + 1) (by omega) (by omega)]
      rw [show ((i + 1 : Nat) : Int) = (i : Int) + 1 by omega] at H
      exact H
    · exact ⟨x, EV.step (fun k => by rw [spec_l1New.l0]) (EV.pos (by omega) (EV.neg h4 (EV.now _)))⟩
theorem spec_l1New_is (b : List Int) (hb : b.length ≤ 1048576) : ∃ h, EV (fun k => spec_l1New.f k b) (b, 0, h) :=
  spec_l1New_l0 b hb b.length 0 _ (by omega)

theorem spec_DrawBranchCover_is (b : List Int) (hb : b.length ≤ 1048576) : ∃ R, EV (fun k => spec_DrawBranchCover.f k b) R ∧ drawnP R := by
  obtain ⟨h, E⟩ := spec_l1New_is b hb
  obtain ⟨R, c, h', E2, D, _⟩ := spec_l10Draw_is b 0 h hb (by omega)
  exact ⟨R, EV.bind E (EV.bind E2 (EV.now _)), D⟩

theorem impl_within_is (a b c : Int) : impl_within.f a b c = some (decide (b ≤ a ∧ a ≤ c)) := by
  unfold impl_within.f
  by_cases h : a ≥ b
  · rw [if_pos h]; simp [show b ≤ a from h]
  · rw [if_neg h]; simp; omega

theorem impl_isPermutation_l0 (p : List Int) (hn : p.length < 4611686018427387904) : ∀ (suf pre : List Int), p = pre ++ suf → pre.Nodup →
    EV (fun k => impl_isPermutation.l0 k p (seenM p.length pre) p (p.length : Int) (pre.length : Int)) (suf.all (inB p.length) && decide (pre ++ suf).Nodup) := by
  intro suf
  induction suf with
  | nil =>
    intro pre h hp
    refine EV.step (fun k => by rw [impl_isPermutation.l0]) ?_
    exact EV.neg (by subst h; simp) ((EV.now _).eq (by simp [hp]))
  | cons x suf ih =>
    intro pre h hp
    have hpl : pre.length < 4611686018427387904 := by subst h; simp at hn; omega
    have hlt : (pre.length : Int) < (p.length : Int) := by subst h; exact lt_app ..
    have hx : rd p (pre.length : Int) = x := by subst h; exact rd_app ..
    refine EV.step (fun k => by rw [impl_isPermutation.l0]) ?_
    rw [hx, up (x := x) hpl, w64 (x := (p.length : Int) - 1) (by omega) (by omega)]
    refine EV.pos hlt (EV.pos (by omega) (EV.pos hlt (EV.by (impl_within_is _ _ _) ?_)))
    by_cases hb : inB p.length x = true
    · have b := inB_of hb
      refine EV.pos (by simp; omega) (EV.pos b.1 (EV.pos (by simp [seenM]; omega) ?_))
      rw [show rdOf false (seenM p.length pre) x = decide (x ∈ pre) by unfold seenM; rw [rdOf_tab _ _ _ _ b.1 b.2, show ((x.toNat : Nat) : Int) = x by omega]]
      by_cases hm : x ∈ pre
      · refine EV.pos (by simpa using hm) ((EV.now _).eq ?_)
        rw [decide_eq_false, Bool.and_false]
        intro c
        exact (List.nodup_append.1 c).2.2 x hm x (by simp) rfl
      · refine EV.neg (by simpa using hm) ?_
        rw [seenM_snoc _ _ _ b.1]
        refine (ih (pre ++ [x]) (by simp [h]) ?_).eq (by simp [hb])
        rw [List.nodup_append]
        refine ⟨hp, by simp, fun a ha c hc => ?_⟩
        rw [List.mem_singleton] at hc
        intro e; exact hm (by rw [← hc, ← e]; exact ha)
    · refine EV.neg (by simp only [inB, decide_eq_true_iff] at hb; simp; omega) ((EV.now _).eq ?_)
      rw [List.all_cons, show inB p.length x = false by simpa using hb]; simp
theorem impl_isPermutation_is (p : List Int) (hn : p.length < 4294967296) : EV (fun k => impl_isPermutation.f k p) (permB p) := by
  refine EV.pos (by omega) (EV.pos (by omega) ?_)
  have := impl_isPermutation_l0 p (by omega) p [] rfl List.nodup_nil
  rw [seenM_nil] at this
  exact this

theorem impl_areSheets_is (l : List (List Int)) (hn : l.length < 4294967296) (hr : ∀ r ∈ l, r.length < 4294967296) : EV (fun k => impl_areSheets.f k l) (sheetsB l) := by
  have := EV.scan (g := fun k i => impl_areSheets.l0 k l l (l.length : Int) i) l (fun r => decide (1 ≤ r.length ∧ r.length ≤ 5) && sheetB (d0 l) r) (decide (0 < l.length)) (fun i h r H1 H2 => ?_) ?_
  · refine EV.eq this ?_
    rw [Bool.eq_iff_iff]
    simp only [sheetsB, sheetB, Bool.and_eq_true, decide_eq_true_iff, List.all_eq_true]
    constructor
    · intro h
      have z := h.1 _ (List.getElem_mem h.2)
      exact ⟨h.2, by omega, fun r hr => (h.1 r hr).2⟩
    · intro h
      exact ⟨fun r hr => ⟨by have := h.2.2 r hr; omega, h.2.2 r hr⟩, h.1⟩
  · refine EV.step (fun k => by rw [impl_areSheets.l0]) ?_
    rw [rdL_nat _ _ h, w64 (x := (i : Int) + 1) (by omega) (by omega), rdL_zero]
    refine EV.pos (by omega) (EV.pos (by omega) (EV.pos (by omega) (EV.pos (by omega) ?_)))
    by_cases hl : (l[i]).length = d0 l
    · refine EV.pos (by unfold d0 at hl; omega) (EV.by (impl_within_is _ _ _) ?_)
      by_cases h5 : 1 ≤ (l[i]).length ∧ (l[i]).length ≤ 5
      · refine EV.pos (by simp; omega) (EV.bind (impl_isPermutation_is _ (hr _ (List.getElem_mem h))) ?_)
        exact EV.cases (fun c => H1 (by simp only [sheetB, c, decide_eq_true hl, decide_eq_true h5, Bool.and_self])) (fun c => (EV.now _).eq (H2 (by simp only [sheetB, show permB l[i] = false by simpa using c, Bool.and_false])).symm)
      · exact EV.neg (by simp; omega) ((EV.now _).eq (H2 (by simp only [decide_eq_false h5, Bool.false_and])).symm)
    · exact EV.neg (by unfold d0 at hl; omega) ((EV.now _).eq (H2 (by simp [sheetB, hl])).symm)
  · refine EV.step (fun k => by rw [impl_areSheets.l0]) ?_
    exact EV.neg (by omega) ((EV.now _).eq (by rw [Bool.eq_iff_iff]; simp))

theorem impl_then_is (p q : List Int) (hp : ∀ x ∈ p, 0 ≤ x ∧ x < q.length) (hn : p.length < 4294967296) : EV (fun k => impl_then.f k p q) (thenM p q) := by
  have := EV.count (g := fun k s i => impl_then.l0 k q s p (p.length : Int) i) p.length (fun i => thenM (p.take i) q) (thenM p q) (fun i hi H => ?_) ?_
  · exact this
  · have hx := hp _ (List.getElem_mem hi)
    refine EV.step (fun k => by rw [impl_then.l0]) ?_
    rw [rd_nat _ _ hi, w64 (x := (i : Int) + 1) (by omega) (by omega)]
    refine EV.pos (by omega) (EV.pos (by omega) (EV.pos (by omega) (EV.pos hx.1 (EV.pos hx.2 (EV.pos (by simp [thenM]; omega) ?_)))))
    rw [List.take_succ_eq_append_getElem hi] at H
    have e : thenM (p.take i ++ [p[i]]) q = thenM (p.take i) q ++ [rd q p[i]] := by rw [thenM, List.map_append]; rfl
    rw [e] at H
    exact H
  · refine EV.step (fun k => by rw [impl_then.l0]) ?_
    rw [List.take_length]
    exact EV.neg (by omega) (EV.now _)

theorem impl_identity_is (n : Nat) (hn : n < 4294967296) : EV (fun k => impl_identity.f k (n : Int)) (idM n) := by
  refine EV.count (g := fun k s i => impl_identity.l0 k s (n : Int) i) n idM _ (fun i hi H => ?_) ?_
  · refine EV.step (fun k => by rw [impl_identity.l0]) ?_
    rw [w64 (x := (i : Int) + 1) (by omega) (by omega)]
    refine EV.pos (by omega) (EV.pos (by simp [idM]; omega) ?_)
    simpa [idM, List.range_succ] using H
  · refine EV.step (fun k => by rw [impl_identity.l0]) ?_
    exact EV.neg (by omega) (EV.now _)

theorem impl_product_is (l : List (List Int)) (hs : sheetsB l = true) (hn : l.length < 4294967296) : EV (fun k => impl_product.f k l) (l.foldl thenM (idM (d0 l))) := by
  have S := sheetsB_of hs
  refine EV.pos (by omega) (EV.bind (a := idM (d0 l)) ?_ ?_)
  · rw [rdL_zero]; exact impl_identity_is (d0 l) (by omega)
  · refine EV.fold (g := fun k s i => impl_product.l0 k s l (l.length : Int) i) l thenM id (fun _ s => s.length = d0 l ∧ ∀ x ∈ s, 0 ≤ x ∧ x < d0 l) (fun i h s r hI H => ?_) (fun s hI => ?_) _ (idM_I _)
    · have row := S.2.2.2 _ (List.getElem_mem h)
      have hp := (permB_of row.2).1
      have H := H (thenM_I hI ⟨row.1, by rw [row.1] at hp; exact hp⟩)
      refine EV.step (fun k => by rw [impl_product.l0]) ?_
      rw [rdL_nat _ _ h, w64 (x := (i : Int) + 1) (by omega) (by omega)]
      exact EV.pos (by omega) (EV.pos (by omega) (EV.pos (by omega) (EV.bind (impl_then_is s _ (by rw [row.1]; exact hI.2) (by omega)) H)))
    · refine EV.step (fun k => by rw [impl_product.l0]) ?_
      exact EV.neg (by omega) (EV.now _)

theorem impl_sameInts_is (xs ys : List Int) (hn : xs.length < 4294967296) : EV (fun k => impl_sameInts.f k xs ys) (decide (xs = ys)) := by
  by_cases h : xs.length = ys.length
  · refine EV.pos (by omega) ?_
    have := EV.countB (g := fun k i => impl_sameInts.l0 k xs ys (xs.length : Int) i) xs.length (fun i => decide (xs.getD i 0 = ys.getD i 0)) true (fun i hi r H1 H2 => ?_) ?_
    · refine EV.eq this ?_
      rw [Bool.eq_iff_iff, Bool.and_true, List.all_eq_true, decide_eq_true_iff]
      constructor
      · intro hh
        apply List.ext_getElem h
        intro i h1 h2
        have := hh i (List.mem_range.2 h1)
        rw [decide_eq_true_iff] at this
        simpa [h1, h2] using this
      · intro e i _; rw [e]; simp
    · have hi' : i < ys.length := by omega
      have e1 : xs.getD i 0 = xs[i] := by simp [hi]
      have e2 : ys.getD i 0 = ys[i] := by simp [hi']
      rw [e1, e2] at H1 H2
      refine EV.step (fun k => by rw [impl_sameInts.l0]) ?_
      rw [rd_nat _ _ hi, rd_nat _ _ hi', w64 (x := (i : Int) + 1) (by omega) (by omega)]
      refine EV.pos (by omega) (EV.pos (by omega) (EV.pos (by omega) (EV.pos (by omega) ?_)))
      exact EV.cases (fun c => H1 (by simpa using c)) (fun c => (EV.now _).eq (H2 (by simpa using c)).symm)
    · refine EV.step (fun k => by rw [impl_sameInts.l0]) ?_
      exact EV.neg (by omega) (EV.now _)
  · exact EV.neg (by omega) ((EV.now _).eq (by simp; intro e; exact h (by rw [e])))

def passB (l : List (List Int)) : Bool := decide (1 ≤ l.length ∧ l.length ≤ 5) && (sheetsB l && decide (actL l (lettersM l.length) = idM (d0 l)))

theorem impl_IsPassport_is (l : List (List Int)) (hn : l.length < 4294967296) (hr : ∀ r ∈ l, r.length < 4294967296) : EV (fun k => impl_IsPassport.f k l) (passB l) := by
  have no : EV (fun k => impl_IsPassport.j0 k l true) false := by
    refine EV.step (fun k => by rw [impl_IsPassport.j0]) ?_
    exact EV.pos rfl (EV.now _)
  unfold passB
  refine EV.by (impl_within_is _ _ _) ?_
  by_cases h1 : 1 ≤ l.length ∧ l.length ≤ 5
  · refine EV.pos (by simp; omega) (EV.bind (impl_areSheets_is l hn hr) ?_)
    rw [decide_eq_true h1, Bool.true_and]
    by_cases h2 : sheetsB l = true
    · have S := sheetsB_of h2
      rw [h2, Bool.true_and]
      refine EV.step (fun k => by rw [impl_IsPassport.j0]) ?_
      refine EV.neg (by simp) (EV.bind (impl_product_is l h2 hn) (EV.pos (by omega) (EV.bind (a := idM (d0 l)) ?_ ?_)))
      · rw [rdL_zero]; exact impl_identity_is (d0 l) (by omega)
      · have e : l.foldl thenM (idM (d0 l)) = actL l (lettersM l.length) := by rw [← product_eq, actK_eq]; rfl
        rw [e]
        exact EV.bind (impl_sameInts_is _ _ (by rw [actL_len]; omega)) (EV.now _)
    · rw [show sheetsB l = false by simpa using h2, Bool.false_and]; exact no
  · refine EV.neg (by simp; omega) ?_
    rw [decide_eq_false h1, Bool.false_and]; exact no

theorem impl_top_N {n : Nat} {up : List Int} (hu : upB n up) : ∀ (m : Nat) (s : Int), 0 ≤ s → s < n → s.toNat ≤ m → EV (fun k => impl_parts.top k up s) (rootN up m s)
  | 0, s, h0, h1, hm => by
    have a := up_get hu h0 h1
    refine EV.step (fun k => by rw [impl_parts.top]) ?_
    rw [rd_getD]
    refine EV.pos h0 (EV.pos (by have := hu.1; omega) (EV.pos (by omega) ((EV.now _).eq rfl)))
  | m + 1, s, h0, h1, hm => by
    have a := up_get hu h0 h1
    refine EV.step (fun k => by rw [impl_parts.top]) ?_
    rw [rd_getD]
    refine EV.pos h0 (EV.pos (by have := hu.1; omega) ?_)
    simp only [rootN]
    by_cases e : up.getD s.toNat 0 = s
    · rw [if_pos e]; exact EV.pos e (EV.now _)
    · rw [if_neg e]
      exact EV.neg e (impl_top_N hu m _ a.1 (by omega) (by omega))
theorem impl_top_is {n : Nat} {up : List Int} (hu : upB n up) {s : Int} (h0 : 0 ≤ s) (h1 : s < n) : EV (fun k => impl_parts.top k up s) (rootI up s) := impl_top_N hu _ s h0 h1 (Nat.le_refl _)
theorem impl_join_is {n : Nat} {up : List Int} (hu : upB n up) {a b : Int} (ha : 0 ≤ a ∧ a < n) (hb : 0 ≤ b ∧ b < n) : EV (fun k => impl_parts.join k up a b) (joinM up a b) := by
  have ra := rootI_le hu ha.1 ha.2
  have rb := rootI_le hu hb.1 hb.2
  have hl := hu.1
  refine EV.bind (impl_top_is hu ha.1 ha.2) (EV.bind (impl_top_is hu hb.1 hb.2) ?_)
  exact EV.cases (fun h => EV.pos (by omega) (EV.pos (by omega) ((EV.now _).eq (by unfold joinM; rw [if_pos h])))) (fun h => EV.pos (by omega) (EV.pos (by omega) ((EV.now _).eq (by unfold joinM; rw [if_neg h]))))
theorem impl_parts_own {l : List (List Int)} {up : List Int} (hu : upB (d0 l) up) (hn : d0 l ≤ 5) (s : Nat) (hs : s < d0 l) (out : List (List Int)) (ho : out.length ≤ 5) (R : List (List Int))
    (H : EV (fun k => impl_parts.l3 k l up (out ++ [ownM (d0 l) up s]) (wrap64 ((s : Int) + 1))) R) : EV (fun k => impl_parts.l4 k l up out (s : Int) [] 0) R := by
  have hrow : (rd_L3 l 0).length = d0 l := by rw [rdL_zero]; rfl
  refine EV.foldC (g := fun k own t => impl_parts.l4 k l up out (s : Int) own t) (List.range (d0 l)) (fun own (t : Nat) => if rootI up (t : Int) = (s : Int) then own ++ [(t : Int)] else own) (fun i own => own.length ≤ i) R (fun i hi own hI K => ?_) [] (by simp) (fun hI => ?_)
  · have hi' : i < d0 l := by simpa using hi
    rw [List.getElem_range] at K
    refine EV.step (fun k => by rw [impl_parts.l4]) ?_
    rw [hrow, w64 (x := (i : Int) + 1) (by omega) (by omega)]
    refine EV.pos (by omega) (EV.bind (impl_top_is hu (by omega) (by omega)) ?_)
    by_cases e : rootI up (i : Int) = (s : Int)
    · rw [if_pos e] at K
      exact EV.pos e (EV.pos (by omega) (K (by simp; omega)))
    · rw [if_neg e] at K
      exact EV.neg e (K (by omega))
  · rw [List.length_range]
    refine EV.step (fun k => by rw [impl_parts.l4]) ?_
    rw [hrow]
    exact EV.neg (by omega) (EV.pos (by omega) H)
theorem impl_parts_out {l : List (List Int)} {up : List Int} (hu : upB (d0 l) up) (hn : d0 l ≤ 5) : EV (fun k => impl_parts.l3 k l up [] 0) (outM2 (d0 l) up) := by
  have hrow : (rd_L3 l 0).length = d0 l := by rw [rdL_zero]; rfl
  refine EV.fold (g := fun k out s => impl_parts.l3 k l up out s) (List.range (d0 l)) (fun out (s : Nat) => if up.getD s 0 = (s : Int) then out ++ [ownM (d0 l) up s] else out) id (fun i out => out.length ≤ i) (fun i hi out r hI K => ?_) (fun out hI => ?_) [] (by simp)
  · have hi' : i < d0 l := by simpa using hi
    rw [List.getElem_range] at K
    refine EV.step (fun k => by rw [impl_parts.l3]) ?_
    rw [hrow]
    refine EV.pos (by omega) (EV.bind (impl_top_is hu (by omega) (by omega)) ?_)
    have sf := rootI_self hu (s := (i : Int)) (by omega) (by omega)
    rw [Int.toNat_natCast] at sf
    by_cases e : up.getD i 0 = (i : Int)
    · rw [if_pos e] at K
      refine EV.pos (sf.2 e) (impl_parts_own hu hn i hi' out (by omega) r ?_)
      rw [w64 (x := (i : Int) + 1) (by omega) (by omega)]
      exact K (by simp; omega)
    · rw [if_neg e] at K
      rw [w64 (x := (i : Int) + 1) (by omega) (by omega)]
      exact EV.neg (fun h => e (sf.1 h)) (K (by omega))
  · rw [List.length_range]
    refine EV.step (fun k => by rw [impl_parts.l3]) ?_
    rw [hrow]
    exact EV.neg (by omega) (EV.now _)
theorem impl_parts_row {l : List (List Int)} (hs : sheetsB l = true) (hn : l.length ≤ 1000) (i : Nat) (hi : i < l.length) (up : List Int) (hu : upB (d0 l) up) (R : List (List Int))
    (H : upB (d0 l) (rowM (d0 l) up l[i]) → EV (fun k => impl_parts.l1 k l (rowM (d0 l) up l[i]) (wrap64 ((i : Int) + 1))) R) : EV (fun k => impl_parts.l2 k l up (i : Int) 0) R := by
  have s := sheetsB_of hs
  have row := s.2.2.2 _ (List.getElem_mem hi)
  have P := (permB_of row.2).1
  refine EV.foldC (g := fun k up s => impl_parts.l2 k l up (i : Int) s) (List.range (d0 l)) (fun up (s : Nat) => joinM up (s : Int) (l[i].getD s 0)) (fun _ up => upB (d0 l) up) R (fun j hj up hI K => ?_) up hu (fun hI => ?_)
  · have hj' : j < d0 l := by simpa using hj
    have hj2 : j < l[i].length := by omega
    rw [List.getElem_range] at K
    have hx : 0 ≤ l[i].getD j 0 ∧ l[i].getD j 0 < (d0 l : Nat) := by
      rw [List.getD_eq_getElem?_getD, List.getElem?_eq_getElem hj2]
      have := P _ (List.getElem_mem hj2)
      simp only [Option.getD_some]; omega
    refine EV.step (fun k => by rw [impl_parts.l2]) ?_
    rw [rdL_nat _ _ hi, rd_getD, Int.toNat_natCast, w64 (x := (j : Int) + 1) (by omega) (by omega)]
    exact EV.pos (by omega) (EV.pos (by omega) (EV.bind (impl_join_is hI (by omega) hx) (K (joinM_I hI (by omega) hx))))
  · rw [List.length_range]
    refine EV.step (fun k => by rw [impl_parts.l2]) ?_
    rw [rdL_nat _ _ hi]
    exact EV.neg (by omega) (H hI)
theorem impl_parts_is {l : List (List Int)} (hs : sheetsB l = true) (hn : l.length ≤ 1000) : EV (fun k => impl_parts.f k l) (partsM l) := by
  have s := sheetsB_of hs
  have hrow : (rd_L3 l 0).length = d0 l := by rw [rdL_zero]; rfl
  refine EV.pos (by omega) (EV.bind (a := idM (d0 l)) ?_ ?_)
  · rw [hrow]
    refine EV.count (g := fun k up i => impl_parts.new k up ((d0 l : Nat) : Int) i) (d0 l) (fun i => idM i) _ (fun i hi H => ?_) ?_
    · refine EV.step (fun k => by rw [impl_parts.new]) ?_
      rw [w64 (x := (i : Int) + 1) (by omega) (by omega)]
      refine EV.pos (by omega) (EV.pos (by simp [idM]; omega) ?_)
      have e : idM (i + 1) = idM i ++ [(i : Int)] := by simp [idM, List.range_succ]
      rw [e] at H; exact H
    · refine EV.step (fun k => by rw [impl_parts.new]) ?_
      exact EV.neg (by omega) (EV.now _)
  · refine EV.foldC (g := fun k up i => impl_parts.l1 k l up i) l (rowM (d0 l)) (fun _ up => upB (d0 l) up) _ (fun i hi up hI K => ?_) (idM (d0 l)) (upB_id _) (fun hI => ?_)
    · refine EV.step (fun k => by rw [impl_parts.l1]) ?_
      refine EV.pos (by omega) (EV.pos (by omega) (impl_parts_row hs hn i hi up hI _ (fun h => ?_)))
      rw [w64 (x := (i : Int) + 1) (by omega) (by omega)]
      exact K h
    · refine EV.step (fun k => by rw [impl_parts.l1]) ?_
      exact EV.neg (by omega) (impl_parts_out (allM_I hs) s.2.2.1)

theorem impl_mod_is (a n : Nat) (hn : 0 < n) : impl_mod.f (a : Int) (n : Int) = some ((a % n : Nat) : Int) := by
  unfold impl_mod.f
  have e : Int.tmod (a : Int) (n : Int) = ((a % n : Nat) : Int) := by
    rw [Int.tmod_eq_emod_of_nonneg (by omega)]; omega
  rw [e, if_neg (by omega), if_neg (by omega)]

theorem spec_l9Whole_is (t : List Int) (hn : t.length < 4294967296) : EV (fun k => spec_l9Whole.f k t) (wholeB t) := by
  refine EV.countB (g := fun k i => spec_l9Whole.l0 k t i) t.length _ (decide (0 < t.length)) (fun i h r H1 H2 => ?_) ?_
  · have e : t.getD i 0 = t[i] := by simp [h]
    rw [e] at H1 H2
    refine EV.step (fun k => by rw [spec_l9Whole.l0]) ?_
    rw [rd_nat _ _ h, w64 (x := (i : Int) + 1) (by omega) (by omega)]
    refine EV.pos (by omega) (EV.pos (by omega) ?_)
    exact EV.cases (fun c => H1 (by simpa using c)) (fun c => (EV.now _).eq (H2 (by simpa using c)).symm)
  · refine EV.step (fun k => by rw [spec_l9Whole.l0]) ?_
    exact EV.neg (by omega) ((EV.now _).eq (by rw [Bool.eq_iff_iff]; simp))

theorem spec_IsPassport_is (l : List (List Int)) (hn : l.length < 4294967296) (hr : ∀ r ∈ l, r.length < 4294967296) : EV (fun k => spec_IsPassport.f k l) (passB l) := by
  unfold passB
  refine EV.by (spec_l1In_is _ _ _) ?_
  by_cases h1 : 1 ≤ l.length ∧ l.length ≤ 5
  · refine EV.pos (by simp; omega) (EV.bind (spec_l9Perms_is l hn hr) ?_)
    rw [decide_eq_true h1, Bool.true_and]
    have e := permsB_le (l := l) (by omega)
    by_cases h2 : sheetsB l = true
    · have S := sheetsB_of h2
      refine EV.pos (by rw [e]; exact h2) (EV.bind (spec_l10Letters_is l.length hn) (EV.bind (spec_ActWord_is l _ hn hr (by simp [lettersM]; omega)) ?_))
      have e2 : actM l (lettersM l.length) = actL l (lettersM l.length) := by unfold actM; rw [if_pos ⟨by rw [e]; exact h2, letters_ok (by omega)⟩]
      rw [e2]
      refine EV.bind (spec_l9Whole_is _ (by rw [actL_len]; omega)) ((EV.now _).eq ?_)
      rw [wholeB_eq (actL_len _ _) S.2.1, h2, Bool.true_and]
    · refine EV.neg (by rw [e]; exact h2) ((EV.now _).eq ?_)
      rw [show sheetsB l = false by simpa using h2, Bool.false_and]
  · refine EV.neg (by simp; omega) ((EV.now _).eq ?_)
    rw [decide_eq_false h1, Bool.false_and]

theorem spec_l3Find_N {n : Nat} {up : List Int} (hu : upB n up) : ∀ (m : Nat) (s : Int), 0 ≤ s → s < n → s.toNat ≤ m → EV (fun k => spec_l3Find.l0 k up s) (rootN up m s)
  | 0, s, h0, h1, hm => by
    have a := up_get hu h0 h1
    refine EV.step (fun k => by rw [spec_l3Find.l0]) ?_
    rw [rd_getD]
    refine EV.pos h0 (EV.pos (by have := hu.1; omega) (EV.pos (by omega) ((EV.now _).eq rfl)))
  | m + 1, s, h0, h1, hm => by
    have a := up_get hu h0 h1
    refine EV.step (fun k => by rw [spec_l3Find.l0]) ?_
    rw [rd_getD]
    refine EV.pos h0 (EV.pos (by have := hu.1; omega) ?_)
    simp only [rootN]
    by_cases e : up.getD s.toNat 0 = s
    · rw [if_pos e]; exact EV.pos e (EV.now _)
    · rw [if_neg e]
      exact EV.neg e (spec_l3Find_N hu m _ a.1 (by omega) (by omega))
theorem spec_l3Find_is {n : Nat} {up : List Int} (hu : upB n up) {s : Int} (h0 : 0 ≤ s) (h1 : s < n) : EV (fun k => spec_l3Find.f k up s) (rootI up s) := spec_l3Find_N hu _ s h0 h1 (Nat.le_refl _)

theorem spec_l1Min_is (a b : Int) : spec_l1Min.f a b = some (if a < b then a else b) := by
  unfold spec_l1Min.f; split <;> rfl

theorem join_max {n : Nat} {up : List Int} (hu : upB n up) {a b : Int} (ha : 0 ≤ a ∧ a < n) (hb : 0 ≤ b ∧ b < n) :
    up.set (if rootI up a > rootI up b then rootI up a else rootI up b).toNat (if rootI up a < rootI up b then rootI up a else rootI up b) = joinM up a b := by
  unfold joinM
  by_cases h : rootI up a > rootI up b
  · rw [if_pos h, if_pos h, if_neg (by omega)]
  · rw [if_neg h, if_neg h]
    by_cases h2 : rootI up a < rootI up b
    · rw [if_pos h2]
    · rw [if_neg h2]
      have : rootI up a = rootI up b := by omega
      rw [this]
theorem spec_parts_own {n : Nat} {up : List Int} (hu : upB n up) (hn : n ≤ 5) (s : Nat) (hs : s < n) (out : List (List Int)) (ho : out.length ≤ 5) (R : List (List Int))
    (H : EV (fun k => spec_l9Parts.l3 k up (out ++ [ownM n up s]) (wrap64 ((s : Int) + 1))) R) : EV (fun k => spec_l9Parts.l4 k up out (s : Int) [] 0) R := by
  have hl := hu.1
  refine EV.foldC (g := fun k own t => spec_l9Parts.l4 k up out (s : Int) own t) (List.range n) (fun own (t : Nat) => if rootI up (t : Int) = (s : Int) then own ++ [(t : Int)] else own) (fun i own => own.length ≤ i) R (fun i hi own hI K => ?_) [] (by simp) (fun hI => ?_)
  · have hi' : i < n := by simpa using hi
    rw [List.getElem_range] at K
    refine EV.step (fun k => by rw [spec_l9Parts.l4]) ?_
    rw [w64 (x := (i : Int) + 1) (by omega) (by omega)]
    refine EV.pos (by omega) (EV.bind (spec_l3Find_is hu (by omega) (by omega)) ?_)
    by_cases e : rootI up (i : Int) = (s : Int)
    · rw [if_pos e] at K
      exact EV.pos e (EV.pos (by omega) (K (by simp; omega)))
    · rw [if_neg e] at K
      exact EV.neg e (K (by omega))
  · rw [List.length_range]
    refine EV.step (fun k => by rw [spec_l9Parts.l4]) ?_
    exact EV.neg (by omega) (EV.pos (by omega) H)
theorem spec_parts_out {n : Nat} {up : List Int} (hu : upB n up) (hn : n ≤ 5) : EV (fun k => spec_l9Parts.l3 k up [] 0) (outM2 n up) := by
  have hl := hu.1
  refine EV.fold (g := fun k out s => spec_l9Parts.l3 k up out s) (List.range n) (fun out (s : Nat) => if up.getD s 0 = (s : Int) then out ++ [ownM n up s] else out) id (fun i out => out.length ≤ i) (fun i hi out r hI K => ?_) (fun out hI => ?_) [] (by simp)
  · have hi' : i < n := by simpa using hi
    rw [List.getElem_range] at K
    refine EV.step (fun k => by rw [spec_l9Parts.l3]) ?_
    rw [rd_getD, Int.toNat_natCast]
    refine EV.pos (by omega) (EV.pos (by omega) ?_)
    by_cases e : up.getD i 0 = (i : Int)
    · rw [if_pos e] at K
      refine EV.pos e (spec_parts_own hu hn i hi' out (by omega) r ?_)
      rw [w64 (x := (i : Int) + 1) (by omega) (by omega)]
      exact K (by simp; omega)
    · rw [if_neg e] at K
      rw [w64 (x := (i : Int) + 1) (by omega) (by omega)]
      exact EV.neg e (K (by omega))
  · rw [List.length_range]
    refine EV.step (fun k => by rw [spec_l9Parts.l3]) ?_
    exact EV.neg (by omega) (EV.now _)
theorem spec_parts_row {l : List (List Int)} (hs : sheetsB l = true) (hn : l.length ≤ 1000) (i : Nat) (hi : i < l.length) (up : List Int) (hu : upB (d0 l) up) (R : List (List Int))
    (H : upB (d0 l) (rowM (d0 l) up l[i]) → EV (fun k => spec_l9Parts.l1 k l (rowM (d0 l) up l[i]) (wrap64 ((i : Int) + 1))) R) : EV (fun k => spec_l9Parts.l2 k l up (i : Int) 0) R := by
  have s := sheetsB_of hs
  have row := s.2.2.2 _ (List.getElem_mem hi)
  have P := (permB_of row.2).1
  refine EV.foldC (g := fun k up s => spec_l9Parts.l2 k l up (i : Int) s) (List.range (d0 l)) (fun up (s : Nat) => joinM up (s : Int) (l[i].getD s 0)) (fun _ up => upB (d0 l) up) R (fun j hj up hI K => ?_) up hu (fun hI => ?_)
  · have hj' : j < d0 l := by simpa using hj
    have hj2 : j < l[i].length := by omega
    rw [List.getElem_range] at K
    have hx : 0 ≤ l[i].getD j 0 ∧ l[i].getD j 0 < (d0 l : Nat) := by
      rw [List.getD_eq_getElem?_getD, List.getElem?_eq_getElem hj2]
      have := P _ (List.getElem_mem hj2)
      simp only [Option.getD_some]; omega
    have ra := rootI_le hI (s := (j : Int)) (by omega) (by omega)
    have rb := rootI_le hI hx.1 hx.2
    have hl := hI.1
    refine EV.step (fun k => by rw [spec_l9Parts.l2]) ?_
    rw [rdL_nat _ _ hi, rd_getD, Int.toNat_natCast, w64 (x := (j : Int) + 1) (by omega) (by omega)]
    refine EV.pos (by omega) (EV.bind (spec_l3Find_is hI (by omega) (by omega)) (EV.pos (by omega) (EV.pos (by omega) (EV.pos (by omega) (EV.pos (by omega) (EV.bind (spec_l3Find_is hI hx.1 hx.2) (EV.by (spec_l1Max_is _ _) (EV.by (spec_l1Min_is _ _) ?_))))))))
    rw [join_max hI (by omega) hx]
    refine EV.pos (by split <;> omega) (EV.pos (by split <;> omega) (K (joinM_I hI (by omega) hx)))
  · rw [List.length_range]
    have hl := hI.1
    refine EV.step (fun k => by rw [spec_l9Parts.l2]) ?_
    exact EV.neg (by omega) (H hI)
theorem spec_l9Parts_is {l : List (List Int)} (hs : sheetsB l = true) (hn : l.length ≤ 1000) : EV (fun k => spec_l9Parts.f k l) (partsM l) := by
  have s := sheetsB_of hs
  have hrow : (rd_L3 l 0).length = d0 l := by rw [rdL_zero]; rfl
  refine EV.count (g := fun k up i => spec_l9Parts.l0 k l up i) (d0 l) (fun i => idM i) _ (fun i hi H => ?_) ?_
  · refine EV.step (fun k => by rw [spec_l9Parts.l0]) ?_
    rw [hrow, w64 (x := (i : Int) + 1) (by omega) (by omega)]
    refine EV.pos (by omega) (EV.pos (by omega) (EV.pos (by simp [idM]; omega) ?_))
    have e : idM (i + 1) = idM i ++ [(i : Int)] := by simp [idM, List.range_succ]
    rw [e] at H; exact H
  · refine EV.step (fun k => by rw [spec_l9Parts.l0]) ?_
    rw [hrow]
    refine EV.pos (by omega) (EV.neg (by omega) ?_)
    refine EV.foldC (g := fun k up i => spec_l9Parts.l1 k l up i) l (rowM (d0 l)) (fun _ up => upB (d0 l) up) _ (fun i hi up hI K => ?_) (idM (d0 l)) (upB_id _) (fun hI => ?_)
    · refine EV.step (fun k => by rw [spec_l9Parts.l1]) ?_
      refine EV.pos (by omega) (spec_parts_row hs hn i hi up hI _ (fun h => ?_))
      rw [w64 (x := (i : Int) + 1) (by omega) (by omega)]
      exact K h
    · refine EV.step (fun k => by rw [spec_l9Parts.l1]) ?_
      exact EV.neg (by omega) (spec_parts_out (allM_I hs) s.2.2.1)

theorem spec_DrawCloseUp_is (b : List Int) (hb : b.length ≤ 1048576) : ∃ R, EV (fun k => spec_DrawCloseUp.f k b) R ∧ drawnP R := by
  obtain ⟨h, E⟩ := spec_l1New_is b hb
  obtain ⟨R, c, h', E2, D, hc⟩ := spec_l10Draw_is b 0 h hb (by omega)
  obtain ⟨t, c1, h1, e, _⟩ := spec_l1Once_is b c h' 2 hb hc (by omega) (by omega)
  by_cases ht : t = true
  · refine ⟨R.take (1 : Int).toNat, EV.bind E (EV.bind E2 (EV.by e (EV.pos ht (EV.pos (by show (1 : Int) ≤ (R.length : Int); have := D.1; omega) (EV.now _))))), ?_, ?_, fun r hr => D.2.2 r (List.mem_of_mem_take hr)⟩
    · have := D.1; simp; omega
    · have := D.2.1; simp; omega
  · exact ⟨R, EV.bind E (EV.bind E2 (EV.by e (EV.neg ht (EV.now _)))), D⟩

theorem impl_copyOf_is (w : List Int) (hn : w.length < 4294967296) : impl_copyOf.f w = some w := by
  unfold impl_copyOf.f
  simp only [Option.bind_some]
  rw [if_pos (by simp; omega)]; simp

theorem impl_copyRows_is (l : List (List Int)) (hn : l.length ≤ 1048576) (hr : ∀ r ∈ l, r.length ≤ 1048576) : EV (fun k => impl_copyRows.f k l) l := by
  refine EV.count (g := fun k s i => impl_copyRows.l0 k s l (l.length : Int) i) l.length (fun i => l.take i) _ (fun i hi H => ?_) ?_
  · have := hr _ (List.getElem_mem hi)
    refine EV.step (fun k => by rw [impl_copyRows.l0]) ?_
    rw [rdL_nat _ _ hi, w64 (x := (i : Int) + 1) (by omega) (by omega)]
    refine EV.pos (by omega) (EV.pos (by omega) (EV.pos (by omega) (EV.by (impl_copyOf_is _ (by omega)) (EV.pos (by simp; omega) ?_))))
    rw [List.take_succ_eq_append_getElem hi] at H
    exact H
  · refine EV.step (fun k => by rw [impl_copyRows.l0]) ?_
    rw [List.take_length]
    exact EV.neg (by omega) (EV.now _)

theorem impl_inversePermutation_is (p : List Int) (hp : ∀ x ∈ p, 0 ≤ x ∧ x < p.length) (hn : p.length < 4294967296) : EV (fun k => impl_inversePermutation.f k p) (invM p) := by
  refine EV.pos (by omega) (EV.pos (by omega) ?_)
  refine EV.count (g := fun k s i => impl_inversePermutation.l0 k s p (p.length : Int) i) p.length (invK p) _ (fun i hi H => ?_) ?_
  · have hx := hp _ (List.getElem_mem hi)
    have hl : (invK p i).length = p.length := (invK_I p (by omega) i (by omega)).1
    refine EV.step (fun k => by rw [impl_inversePermutation.l0]) ?_
    rw [rd_nat _ _ hi, w64 (x := (i : Int) + 1) (by omega) (by omega)]
    refine EV.pos (by omega) (EV.pos (by omega) (EV.pos (by omega) (EV.pos (by omega) (EV.pos (by omega) ?_))))
    rw [invK_succ] at H
    have e : p.getD i 0 = p[i] := by simp [hi]
    rw [e] at H
    exact H
  · refine EV.step (fun k => by rw [impl_inversePermutation.l0]) ?_
    exact EV.neg (by omega) (EV.now _)

theorem impl_CloseUp_is (l : List (List Int)) (hn : l.length ≤ 1048576) (hr : ∀ r ∈ l, r.length ≤ 1048576) : EV (fun k => impl_CloseUp.f k l) (closeM l) := by
  have no : EV (fun k => impl_CloseUp.j0 k l true) ([], false) := by
    refine EV.step (fun k => by rw [impl_CloseUp.j0]) ?_
    exact EV.pos rfl (EV.now _)
  have hr' : ∀ r ∈ l, r.length < 4294967296 := fun r h => by have := hr r h; omega
  unfold closeM
  refine EV.by (impl_within_is _ _ _) ?_
  by_cases h1 : 1 ≤ l.length ∧ l.length ≤ 4
  · refine EV.pos (by simp; omega) (EV.bind (impl_areSheets_is l (by omega) hr') ?_)
    by_cases h2 : sheetsB l = true
    · have S := sheetsB_of h2
      have ok := letters_ok (l := l) (by omega)
      rw [if_pos ⟨h1, h2⟩, h2]
      have I := actL_I h2 (letters_of ok).1
      have e : l.foldl thenM (idM (d0 l)) = actL l (lettersM l.length) := by rw [← product_eq, actK_eq]; rfl
      refine EV.step (fun k => by rw [impl_CloseUp.j0]) ?_
      refine EV.neg (by simp) (EV.bind (impl_copyRows_is l hn hr) (EV.bind (impl_product_is l h2 (by omega)) ?_))
      rw [e]
      exact EV.bind (impl_inversePermutation_is _ (by rw [I.1]; exact I.2) (by omega)) (EV.pos (by omega) (EV.now _))
    · rw [if_neg (fun c => h2 c.2), show sheetsB l = false by simpa using h2]
      exact no
  · rw [if_neg (fun c => h1 c.1)]
    exact EV.neg (by simp; omega) no

theorem spec_l1Bit_is (t : Bool) : ∃ x, spec_l1Bit.f t = some x ∧ 0 ≤ x ∧ x ≤ 1 := by
  cases t
  · exact ⟨0, rfl, by omega, by omega⟩
  · exact ⟨1, rfl, by omega, by omega⟩

theorem spec_DrawBraidPassport_is (b : List Int) (hb : b.length ≤ 1048576) : ∃ R i, EV (fun k => spec_DrawBraidPassport.f k b) (R, i) ∧ drawnP R ∧ -1 ≤ i ∧ i ≤ 5 := by
  obtain ⟨h, E⟩ := spec_l1New_is b hb
  obtain ⟨R, c, h', E2, D, hc⟩ := spec_l10Draw_is b 0 h hb (by omega)
  have d1 := D.1
  have d2 := D.2.1
  obtain ⟨x, c1, h1, e1, x0, x1, hc1⟩ := spec_l1Below_is b c h' (R.length : Int) hb hc (by omega) (by omega)
  obtain ⟨t, c2, h2, e2, _⟩ := spec_l1Once_is b c1 h1 12 hb hc1 (by omega) (by omega)
  obtain ⟨y, e3, y0, y1⟩ := spec_l1Bit_is t
  refine ⟨R, x - y, EV.bind E (EV.bind E2 (EV.by e1 (EV.by e2 (EV.by e3 ?_)))), D, by omega, by omega⟩
  rw [w64 (x := x - y) (by omega) (by omega)]
  exact EV.now _

/-- the braid's step at i -/
def brM (l : List (List Int)) (i : Int) : List (List Int) × Bool :=
  if passB l = true ∧ 0 ≤ i ∧ i ≤ (l.length : Int) - 2 then ((l.set i.toNat (actL l [i + 1, i + 2, -i - 1])).set (i.toNat + 1) (l.getD i.toNat []), true) else ([], false)
theorem set_len5 {n : Nat} {l : List (List Int)} (h : ∀ r ∈ l, r.length ≤ n) {x : List Int} (hx : x.length ≤ n) (i : Nat) : ∀ r ∈ l.set i x, r.length ≤ n := by
  intro r hr
  rcases List.mem_or_eq_of_mem_set hr with h' | h'
  · exact h r h'
  · rw [h']; exact hx
theorem passB_of {l : List (List Int)} (h : passB l = true) : (1 ≤ l.length ∧ l.length ≤ 5) ∧ sheetsB l = true := by
  simp only [passB, Bool.and_eq_true, decide_eq_true_iff] at h
  exact ⟨h.1, h.2.1⟩
theorem brM_sz (l : List (List Int)) (i : Int) : (brM l i).1.length ≤ 5 ∧ ∀ r ∈ (brM l i).1, r.length ≤ 5 := by
  unfold brM
  split
  · rename_i h
    have P := passB_of h.1
    have S := sheetsB_of P.2
    have hl : ∀ r ∈ l, r.length ≤ 5 := fun r hr => by have := S.2.2.2 r hr; omega
    have hi : i.toNat < l.length := by omega
    refine ⟨by simp; omega, set_len5 (set_len5 hl (by rw [actL_len]; omega) _) ?_ _⟩
    have := hl _ (List.getElem_mem hi)
    simpa [hi] using this
  · simp
theorem br_word {l : List (List Int)} {i : Int} (h5 : l.length ≤ 5) (h0 : 0 ≤ i) (h1 : i ≤ (l.length : Int) - 2) : wordOk l [i + 1, i + 2, -i - 1] = true := by
  simp only [wordOk, wordB, letterB, leB, List.all_cons, List.all_nil, Bool.and_true, Bool.and_eq_true, decide_eq_true_iff, List.length_cons, List.length_nil]
  omega

theorem impl_BraidPassport_is (l : List (List Int)) (i : Int) (wi : (Lit.int .i64 i).wf = true) (hn : l.length ≤ 1048576) (hr : ∀ r ∈ l, r.length ≤ 1048576) : EV (fun k => impl_BraidPassport.f k l i) (brM l i) := by
  have no : EV (fun k => impl_BraidPassport.j0 k l i true) ([], false) := by
    refine EV.step (fun k => by rw [impl_BraidPassport.j0]) ?_
    exact EV.pos rfl (EV.now _)
  have hr' : ∀ r ∈ l, r.length < 4294967296 := fun r h => by have := hr r h; omega
  unfold brM
  refine EV.bind (impl_IsPassport_is l (by omega) hr') ?_
  by_cases h1 : passB l = true
  · have P := passB_of h1
    have S := sheetsB_of P.2
    rw [w64 (x := (l.length : Int) - 2) (by omega) (by omega)]
    refine EV.pos h1 (EV.by (impl_within_is _ _ _) ?_)
    by_cases h2 : 0 ≤ i ∧ i ≤ (l.length : Int) - 2
    · rw [if_pos ⟨h1, h2⟩, show (!decide (0 ≤ i ∧ i ≤ (l.length : Int) - 2)) = false by simp [h2]]
      have hi : i.toNat < l.length := by omega
      have hi1 : i.toNat + 1 < l.length := by omega
      have er : rd_L3 l i = l[i.toNat] := by
        have := rdL_nat l i.toNat hi
        rwa [show ((i.toNat : Nat) : Int) = i by omega] at this
      have er1 : rd_L3 l (i + 1) = l[i.toNat + 1] := by
        have := rdL_nat l (i.toNat + 1) hi1
        rwa [show ((i.toNat + 1 : Nat) : Int) = i + 1 by omega] at this
      have ra := S.2.2.2 _ (List.getElem_mem hi)
      have rb := S.2.2.2 _ (List.getElem_mem hi1)
      have pa := (permB_of ra.2).1
      have pb := (permB_of rb.2).1
      rw [ra.1] at pa
      rw [rb.1] at pb
      have iv := invK_I l[i.toNat] (by omega) _ (Nat.le_refl _)
      rw [ra.1] at iv
      have iv' : (invM l[i.toNat]).length = d0 l ∧ ∀ x ∈ invM l[i.toNat], 0 ≤ x ∧ x < d0 l := by unfold invM; rw [ra.1]; exact iv
      have t1 := thenM_I ⟨ra.1, pa⟩ ⟨rb.1, pb⟩
      have e1 : stepP l (i + 1) = l[i.toNat] := by
        unfold stepP
        rw [if_neg (by omega), show (i + 1).natAbs - 1 = i.toNat by omega]
        simp [hi]
      have e2 : stepP l (i + 2) = l[i.toNat + 1] := by
        unfold stepP
        rw [if_neg (by omega), show (i + 2).natAbs - 1 = i.toNat + 1 by omega]
        simp [hi1]
      have e3 : stepP l (-i - 1) = invM l[i.toNat] := by
        unfold stepP
        rw [if_pos (by omega), show (-i - 1).natAbs - 1 = i.toNat by omega]
        simp [hi]
      have eid : thenM (idM (d0 l)) l[i.toNat] = l[i.toNat] := by
        apply List.ext_getElem
        · simp [thenM, idM]; omega
        · intro j h1 h2
          simp [thenM, idM, h2]
      have ea : actL l [i + 1, i + 2, -i - 1] = thenM (thenM l[i.toNat] l[i.toNat + 1]) (invM l[i.toNat]) := by
        have : actL l [i + 1, i + 2, -i - 1] = actK l [i + 1, i + 2, -i - 1] (idM (d0 l)) := by rw [actK_eq]; rfl
        rw [this]
        simp only [actK, List.foldl_cons, List.foldl_nil, e1, e2, e3, eid]
      refine EV.step (fun k => by rw [impl_BraidPassport.j0]) ?_
      rw [w64 (x := i + 1) (by omega) (by omega)]
      refine EV.neg (by simp) (EV.bind (impl_copyRows_is l hn hr) (EV.pos h2.1 (EV.pos (by omega) (EV.pos (by omega) (EV.pos (by omega) ?_)))))
      rw [er, er1]
      refine EV.bind (impl_then_is _ _ (by rw [rb.1]; exact pa) (by omega)) (EV.bind (impl_inversePermutation_is _ (by rw [ra.1]; exact pa) (by omega)) (EV.bind (impl_then_is _ _ (by rw [iv'.1]; exact t1.2) (by rw [t1.1]; omega)) ((EV.now _).eq ?_)))
      rw [ea, show (i + 1).toNat = i.toNat + 1 by omega, show l.getD i.toNat [] = l[i.toNat] by simp [hi]]
    · rw [if_neg (fun c => h2 c.2), show (!decide (0 ≤ i ∧ i ≤ (l.length : Int) - 2)) = true by simp; omega]
      exact no
  · rw [if_neg (fun c => h1 c.1)]
    exact EV.neg h1 no

theorem spec_BraidPassport_is (l : List (List Int)) (i : Int) (wi : (Lit.int .i64 i).wf = true) (hn : l.length ≤ 1048576) (hr : ∀ r ∈ l, r.length ≤ 1048576) : EV (fun k => spec_BraidPassport.f k l i) (brM l i) := by
  have no : EV (fun k => spec_BraidPassport.j0 k l i true) ([], false) := by
    refine EV.step (fun k => by rw [spec_BraidPassport.j0]) ?_
    exact EV.pos rfl (EV.now _)
  have hr' : ∀ r ∈ l, r.length < 4294967296 := fun r h => by have := hr r h; omega
  unfold brM
  refine EV.bind (spec_IsPassport_is l (by omega) hr') ?_
  by_cases h1 : passB l = true
  · have P := passB_of h1
    have S := sheetsB_of P.2
    rw [w64 (x := (l.length : Int) - 2) (by omega) (by omega)]
    refine EV.pos h1 (EV.by (spec_l1In_is _ _ _) ?_)
    by_cases h2 : 0 ≤ i ∧ i ≤ (l.length : Int) - 2
    · rw [if_pos ⟨h1, h2⟩, show (!decide (0 ≤ i ∧ i ≤ (l.length : Int) - 2)) = false by simp [h2]]
      have hi : i.toNat < l.length := by omega
      have ok := br_word P.1.2 h2.1 h2.2
      have hp : permsB l = true := by rw [permsB_le (by omega)]; exact P.2
      refine EV.step (fun k => by rw [spec_BraidPassport.j0]) ?_
      rw [w64 (x := i + 1) (by omega) (by omega), w64 (x := i + 2) (by omega) (by omega), w64 (x := -i) (by omega) (by omega), w64 (x := -i - 1) (by omega) (by omega)]
      refine EV.neg (by simp) (EV.bind (spec_l5Copy_is l hn hr) (EV.bind (spec_ActWord_is l _ (by omega) hr' (by simp)) ?_))
      have e2 : actM l [i + 1, i + 2, -i - 1] = actL l [i + 1, i + 2, -i - 1] := by unfold actM; rw [if_pos ⟨hp, ok⟩]
      rw [e2]
      have er : rd_L3 l i = l[i.toNat] := by
        have := rdL_nat l i.toNat hi
        rwa [show ((i.toNat : Nat) : Int) = i by omega] at this
      have hrow := S.2.2.2 _ (List.getElem_mem hi)
      rw [er]
      refine EV.pos h2.1 (EV.pos (by omega) (EV.by rfl (EV.pos (by omega) (EV.pos (by simp; omega) (EV.pos (by omega) (EV.pos (by omega) ((EV.now _).eq ?_)))))))
      rw [List.nil_append, show (i + 1).toNat = i.toNat + 1 by omega, show l.getD i.toNat [] = l[i.toNat] by simp [hi]]
    · rw [if_neg (fun c => h2 c.2), show (!decide (0 ≤ i ∧ i ≤ (l.length : Int) - 2)) = true by simp; omega]
      exact no
  · rw [if_neg (fun c => h1 c.1)]
    exact EV.neg h1 no

def mateN (i : Nat) : Int := if i % 2 = 0 then (i : Int) + 1 else (i : Int) - 1
def matesM (n : Nat) : List Int := (List.range n).map mateN
def isMapB (w : List Int) : Bool := decide (2 ≤ w.length ∧ w.length ≤ 24) && (decide (w.length % 2 = 0) && permB w)
def mapPassM (w : List Int) : List (List Int) × Bool := if isMapB w = true ∧ w.length ≤ 5 then closeM [w, matesM w.length] else ([], false)
theorem mapPass_sz (w : List Int) : (mapPassM w).1.length ≤ 5 ∧ ∀ r ∈ (mapPassM w).1, r.length ≤ 5 := by
  unfold mapPassM
  split
  · exact closeM_sz _
  · simp

theorem spec_IsMap_is (w : List Int) (hn : w.length ≤ 1048576) : EV (fun k => spec_IsMap.f k w) (isMapB w) := by
  unfold isMapB
  refine EV.by (spec_l1In_is _ _ _) ?_
  by_cases h1 : 2 ≤ w.length ∧ w.length ≤ 24
  · rw [decide_eq_true h1, Bool.true_and]
    refine EV.pos (by simp; omega) ?_
    by_cases h2 : w.length % 2 = 0
    · rw [decide_eq_true h2, Bool.true_and]
      exact EV.pos (by omega) (EV.bind (spec_l6Perm_is w (by omega)) (EV.now _))
    · rw [decide_eq_false h2, Bool.false_and]
      exact EV.neg (by omega) (EV.now _)
  · rw [decide_eq_false h1, Bool.false_and]
    exact EV.neg (by simp; omega) (EV.now _)

/-! ### a map's edges are added, its entries exchanged -/
theorem permB_perm {l l' : List Int} (h : l.Perm l') (hp : permB l' = true) : permB l = true := by
  have P := permB_of hp
  simp only [permB, Bool.and_eq_true, List.all_eq_true, decide_eq_true_iff]
  refine ⟨fun x hx => ?_, (h.nodup_iff).2 P.2⟩
  simp only [inB, decide_eq_true_iff]
  have := P.1 x (h.mem_iff.1 hx)
  rw [h.length_eq]; exact this
theorem permB_two {m : List Int} (h : permB m = true) : permB (m ++ [(m.length : Int), (m.length : Int) + 1]) = true := by
  have P := permB_of h
  simp only [permB, Bool.and_eq_true, List.all_eq_true, decide_eq_true_iff]
  refine ⟨fun x hx => ?_, ?_⟩
  · simp only [inB, decide_eq_true_iff, List.length_append, List.length_cons, List.length_nil]
    rcases List.mem_append.1 hx with h' | h'
    · have := P.1 x h'; omega
    · simp only [List.mem_cons, List.not_mem_nil, or_false] at h'; omega
  · rw [List.nodup_append]
    refine ⟨P.2, ?_, fun a ha b hb e => ?_⟩
    · simp; omega
    · have := P.1 a ha
      simp only [List.mem_cons, List.not_mem_nil, or_false] at hb; omega
theorem set_one {l : List Int} {a : Nat} (h : a < l.length) (x : Int) : (l.set a x ++ [l[a]]).Perm (l ++ [x]) := by
  have e : l = l.take a ++ l[a] :: l.drop (a + 1) := by simp
  have e1 : l.set a x = l.take a ++ x :: l.drop (a + 1) := List.set_eq_take_append_cons_drop .. |>.trans (if_pos h)
  rw [e1]
  have p1 : (l.take a ++ x :: l.drop (a + 1) ++ [l[a]]).Perm (x :: l[a] :: (l.take a ++ l.drop (a + 1))) := by
    refine List.Perm.trans (List.perm_append_comm) ?_
    refine List.Perm.trans (List.Perm.cons _ List.perm_middle) ?_
    exact List.Perm.swap _ _ _
  refine p1.trans ?_
  have p2 : (l ++ [x]).Perm (x :: l[a] :: (l.take a ++ l.drop (a + 1))) := by
    refine List.Perm.trans (List.perm_append_comm) (List.Perm.cons _ ?_)
    conv => lhs; rw [e]
    exact List.perm_middle
  exact p2.symm

theorem spec_AddEdge_is (m : List Int) (a b : Nat) (h : permB m = true) (h2 : m.length % 2 = 0) (hn : 2 ≤ m.length ∧ m.length ≤ 22) (ha : a < m.length) (hb : b < m.length) :
    ∃ R, EV (fun k => spec_AddEdge.f k m (a : Int) (b : Int)) (R, true) ∧ permB R = true ∧ R.length = m.length + 2 := by
  have hm : isMapB m = true := by simp [isMapB, h, h2]; omega
  have gA : rd (m ++ [0, 0]) (a : Int) = m[a] := by rw [rd_nat _ _ (by simp; omega)]; simp [ha]
  have two := permB_two h
  have start : ∀ R, EV (fun k => spec_AddEdge.j0 k m (a : Int) (b : Int) false) R → EV (fun k => spec_AddEdge.f k m (a : Int) (b : Int)) R := by
    intro R H
    refine EV.bind (spec_IsMap_is m (by omega)) (EV.pos hm ?_)
    rw [w64 (x := (m.length : Int) - 1) (by omega) (by omega), w64 (x := (m.length : Int) + 2) (by omega) (by omega)]
    refine EV.by (spec_l1In_is _ _ _) (EV.pos (by simp; omega) (EV.by (spec_l1In_is _ _ _) (EV.pos (by simp; omega) ?_)))
    rw [show decide ((m.length : Int) + 2 > 24) = false by simp; omega]
    exact H
  have e46 : ((m ++ [0, 0]).set ((m.length : Int)).toNat (m[a])).set ((a : Int)).toNat (m.length : Int) = m.set a (m.length : Int) ++ [m[a], 0] := by
    rw [show ((m.length : Int)).toNat = m.length by omega, show ((a : Int)).toNat = a by omega, List.set_append_right _ _ (Nat.le_refl _), List.set_append_left _ _ (by simpa using ha)]
    simp
  have p1 := set_one ha (m.length : Int)
  have head : ∀ R, EV (fun k => if (a : Int) = (b : Int) then (if 0 ≤ (wrap64 ((m.length : Int) + 1)) then (if (wrap64 ((m.length : Int) + 1)) < (((m ++ [0, 0]).length : Nat) : Int) then (some ((((m.set a (m.length : Int) ++ [m[a], 0]).set ((wrap64 ((m.length : Int) + 1)) : Int).toNat (rd (m.set a (m.length : Int) ++ [m[a], 0]) (m.length : Int))).set ((m.length : Int) : Int).toNat (wrap64 ((m.length : Int) + 1))), true)) else (none)) else (none)) else (if 0 ≤ (b : Int) then (if (b : Int) < (((m ++ [0, 0]).length : Nat) : Int) then (if 0 ≤ (wrap64 ((m.length : Int) + 1)) then (if (wrap64 ((m.length : Int) + 1)) < (((m ++ [0, 0]).length : Nat) : Int) then (some ((((m.set a (m.length : Int) ++ [m[a], 0]).set ((wrap64 ((m.length : Int) + 1)) : Int).toNat (rd (m.set a (m.length : Int) ++ [m[a], 0]) (b : Int))).set ((b : Int) : Int).toNat (wrap64 ((m.length : Int) + 1))), true)) else (none)) else (none)) else (none)) else (none))) R → EV (fun k => spec_AddEdge.j0 k m (a : Int) (b : Int) false) R := by
    intro R H
    refine EV.step (fun k => by rw [spec_AddEdge.j0]) ?_
    refine EV.neg (by simp) (EV.by rfl (EV.pos (by simp; omega) (EV.by rfl (EV.by rfl (EV.pos (by simp; omega) (EV.by rfl (EV.pos (by omega) (EV.pos (by simp; omega) (EV.pos (by omega) (EV.pos (by simp; omega) (EV.by rfl ?_)))))))))))
    rw [List.nil_append, gA, e46]
    exact H
  have lm : (m.set a (m.length : Int)).length = m.length := by simp
  rw [w64 (x := (m.length : Int) + 1) (by omega) (by omega)] at head
  by_cases hab : a = b
  · refine ⟨m.set a (m.length : Int) ++ [(m.length : Int) + 1, m[a]], start _ (head _ (EV.pos (by omega) (EV.pos (by omega) (EV.pos (by simp <;> omega) ((EV.now _).eq ?_))))), permB_perm ?_ two, by simp⟩
    · have gn : rd (m.set a (m.length : Int) ++ [m[a], 0]) (m.length : Int) = m[a] := by
        rw [rd_nat _ _ (by simp), List.getElem_append_right (by simp)]; simp
      rw [gn, show ((m.length : Int) + 1).toNat = m.length + 1 by omega, show ((m.length : Int)).toNat = m.length by omega, List.set_append_right _ _ (by omega), List.set_append_right _ _ (by simp), lm]
      simp
    · refine List.Perm.trans (List.Perm.append_left _ (List.Perm.swap _ _ _)) ?_
      have := List.Perm.append_right [(m.length : Int) + 1] p1
      simpa using this
  · refine ⟨(m.set a (m.length : Int)).set b ((m.length : Int) + 1) ++ [m[a], m[b]], start _ (head _ (EV.neg (by omega) (EV.pos (by omega) (EV.pos (by simp <;> omega) (EV.pos (by omega) (EV.pos (by simp <;> omega) ((EV.now _).eq ?_))))))), permB_perm ?_ two, by simp⟩
    · have gb : rd (m.set a (m.length : Int) ++ [m[a], 0]) (b : Int) = m[b] := by
        rw [rd_nat _ _ (by simp; omega), List.getElem_append_left (by simpa using hb), List.getElem_set_ne hab]
      rw [gb, show ((m.length : Int) + 1).toNat = m.length + 1 by omega, show ((b : Int)).toNat = b by omega, List.set_append_right _ _ (by omega), List.set_append_left _ _ (by simpa using hb), lm]
      simp
    · have hb' : b < (m.set a (m.length : Int)).length := by simpa using hb
      have p2 := set_one hb' ((m.length : Int) + 1)
      rw [List.getElem_set_ne hab] at p2
      have q1 : ((m.set a (m.length : Int)).set b ((m.length : Int) + 1) ++ [m[a], m[b]]).Perm ((m.set a (m.length : Int)).set b ((m.length : Int) + 1) ++ [m[b], m[a]]) := List.Perm.append_left _ (List.Perm.swap _ _ _)
      have q2 := List.Perm.append_right [m[a]] p2
      have q3 : (m.set a (m.length : Int) ++ [(m.length : Int) + 1] ++ [m[a]]).Perm (m.set a (m.length : Int) ++ [m[a]] ++ [(m.length : Int) + 1]) := by
        rw [List.append_assoc, List.append_assoc]
        exact List.Perm.append_left _ (List.Perm.swap _ _ _)
      have q4 := List.Perm.append_right [(m.length : Int) + 1] p1
      refine q1.trans ?_
      rw [show (m.set a (m.length : Int)).set b ((m.length : Int) + 1) ++ [m[b], m[a]] = (m.set a (m.length : Int)).set b ((m.length : Int) + 1) ++ [m[b]] ++ [m[a]] by simp]
      refine q2.trans (q3.trans ?_)
      simpa using q4

theorem spec_l6Draw_l1 (b : List Int) (hb : b.length ≤ 1048576) : ∀ (n i : Nat) (m : List Int) (c h : Int), i + n = 3 → 0 ≤ c → 2 ≤ m.length ∧ m.length ≤ 12 → ∃ R c' h', EV (fun k => spec_l6Draw.l1 k m (i : Int) b c h) (R, c', h') ∧ R.length = m.length ∧ 0 ≤ c'
  | 0, i, m, c, h, hi, hc, hm => ⟨m, c, h, EV.step (fun k => by rw [spec_l6Draw.l1]) (EV.neg (by omega) (EV.now _)), rfl, hc⟩
  | n + 1, i, m, c, h, hi, hc, hm => by
    obtain ⟨x, c1, h1, e1, x0, x1, k1⟩ := spec_l1Below_is b c h (m.length : Int) hb hc (by omega) (by omega)
    obtain ⟨y, c2, h2, e2, y0, y1, k2⟩ := spec_l1Below_is b c1 h1 (m.length : Int) hb k1 (by omega) (by omega)
    obtain ⟨R, c3, h3, E, lR, k3⟩ := spec_l6Draw_l1 b hb n (i + 1) ((m.set x.toNat (rd m y)).set y.toNat (rd m x)) c2 h2 (by omega) k2 (by simpa using hm)
    refine ⟨R, c3, h3, EV.step (fun k => by rw [spec_l6Draw.l1]) ?_, by simpa using lR, k3⟩
    rw [w64 (x := (i : Int) + 1) (by omega) (by omega)]
    rw [show ((i + 1 : Nat) : Int) = (i : Int) + 1 by omega] at E
    exact EV.pos (by omega) (EV.by e1 (EV.by e2 (EV.pos x0 (EV.pos x1 (EV.pos y0 (EV.pos y1 E))))))
theorem spec_l6Draw_l0 (b : List Int) (hb : b.length ≤ 1048576) : ∀ (n : Nat) (m : List Int) (c h : Int), 0 ≤ c → permB m = true → m.length % 2 = 0 → 2 ≤ m.length → m.length + 2 * n ≤ 12 → ∃ R c' h', EV (fun k => spec_l6Draw.l0 k m (n : Int) b c h) (R, c', h') ∧ 2 ≤ R.length ∧ R.length ≤ 12 ∧ 0 ≤ c'
  | 0, m, c, h, hc, hp, h2, hl, hn => by
    obtain ⟨t, c1, h1, e, k1⟩ := spec_l1Once_is b c h 4 hb hc (by omega) (by omega)
    obtain ⟨R, c2, h2', E, lR, k2⟩ := spec_l6Draw_l1 b hb 3 0 m c1 h1 (by omega) k1 (by omega)
    by_cases ht : t = true
    · exact ⟨R, c2, h2', EV.step (fun k => by rw [spec_l6Draw.l0]) (EV.neg (by omega) (EV.by e (EV.pos ht E))), by omega, by omega, k2⟩
    · exact ⟨m, c1, h1, EV.step (fun k => by rw [spec_l6Draw.l0]) (EV.neg (by omega) (EV.by e (EV.neg ht (EV.now _)))), by omega, by omega, k1⟩
  | n + 1, m, c, h, hc, hp, h2, hl, hn => by
    obtain ⟨x, c1, h1, e1, x0, x1, k1⟩ := spec_l1Below_is b c h (m.length : Int) hb hc (by omega) (by omega)
    obtain ⟨y, c2, h2', e2, y0, y1, k2⟩ := spec_l1Below_is b c1 h1 (m.length : Int) hb k1 (by omega) (by omega)
    obtain ⟨a, rfl⟩ : ∃ a : Nat, x = a := ⟨x.toNat, by omega⟩
    obtain ⟨d, rfl⟩ : ∃ d : Nat, y = d := ⟨y.toNat, by omega⟩
    obtain ⟨M, EA, pM, lM⟩ := spec_AddEdge_is m a d hp h2 (by omega) (by omega) (by omega)
    obtain ⟨R, c3, h3, E, r1, r2, k3⟩ := spec_l6Draw_l0 b hb n M c2 h2' k2 pM (by omega) (by omega) (by omega)
    refine ⟨R, c3, h3, EV.step (fun k => by rw [spec_l6Draw.l0]) ?_, r1, r2, k3⟩
    rw [w64 (x := ((n + 1 : Nat) : Int) - 1) (by omega) (by omega), show ((n + 1 : Nat) : Int) - 1 = (n : Int) by omega]
    exact EV.pos (by omega) (EV.by e1 (EV.by e2 (EV.bind EA E)))
theorem spec_l6Draw_is (b : List Int) (c h : Int) (q : Nat) (hb : b.length ≤ 1048576) (hc : 0 ≤ c) (h1 : 1 ≤ q) (h6 : q ≤ 6) : ∃ R c' h', EV (fun k => spec_l6Draw.f k b c h (q : Int)) (R, c', h') ∧ 2 ≤ R.length ∧ R.length ≤ 12 ∧ 0 ≤ c' := by
  obtain ⟨x, c1, h1, e1, x0, x1, k1⟩ := spec_l1Below_is b c h (q : Int) hb hc (by omega) (by omega)
  obtain ⟨a, rfl⟩ : ∃ a : Nat, x = a := ⟨x.toNat, by omega⟩
  obtain ⟨R, c2, h2, E, r1, r2, k2⟩ := spec_l6Draw_l0 b hb a [0, 1] c1 h1 k1 (by decide) (by decide) (by decide) (by simp; omega)
  exact ⟨R, c2, h2, EV.by e1 E, r1, r2, k2⟩

theorem spec_l1PickInt_is (b : List Int) (i h : Int) (l : List Int) (hb : b.length ≤ 1048576) (hi : 0 ≤ i) (h1 : 0 < l.length) (h2 : l.length ≤ 256) : ∃ x i' h', spec_l1PickInt.f b i h l = some (x, i', h') ∧ x ∈ l ∧ 0 ≤ i' := by
  obtain ⟨x, i', h', e, a, c, d⟩ := spec_l1Below_is b i h l.length hb hi (by omega) (by omega)
  unfold spec_l1PickInt.f
  rw [e]
  simp only [Option.bind_some]
  rw [if_pos a, if_pos c]
  refine ⟨_, _, _, rfl, ?_, d⟩
  have hx : x.toNat < l.length := by omega
  have : rd l x = l[x.toNat] := by simp [rd, hx]
  rw [this]; exact List.getElem_mem _

theorem spec_l6Bent_is (b : List Int) (c h : Int) (hb : b.length ≤ 1048576) (hc : 0 ≤ c) : ∃ R c' h', EV (fun k => spec_l6Bent.f k b c h) (R, c', h') ∧ R.length ≤ 13 ∧ 0 ≤ c' := by
  obtain ⟨R, c1, h1, E, r1, r2, k1⟩ := spec_l6Draw_is b c h 6 hb hc (by omega) (by omega)
  obtain ⟨x, c2, h2, e2, x0, x1, k2⟩ := spec_l1Below_is b c1 h1 18 hb k1 (by omega) (by omega)
  obtain ⟨y, c3, h3, e3, _, k3⟩ := spec_l1PickInt_is b c2 h2 [(-1), 99, 0, 1] hb k2 (by decide) (by decide)
  by_cases h0 : x = 0
  · exact ⟨R.set (0 : Int).toNat y, c3, h3, EV.bind E (EV.by e2 (EV.pos h0 (EV.by e3 (EV.pos (by show (0 : Int) < (R.length : Int); omega) (EV.now _))))), by simp; omega, k3⟩
  · by_cases h1' : x = 1
    · exact ⟨R ++ [(R.length : Int)], c2, h2, EV.bind E (EV.by e2 (EV.neg h0 (EV.pos h1' (EV.pos (by show R.length < 17592186044416; omega) (EV.now _))))), by simp; omega, k2⟩
    · exact ⟨R, c2, h2, EV.bind E (EV.by e2 (EV.neg h0 (EV.neg h1' (EV.now _)))), by omega, k2⟩

theorem spec_DrawMapPassport_is (b : List Int) (hb : b.length ≤ 1048576) : ∃ R, EV (fun k => spec_DrawMapPassport.f k b) R ∧ R.length ≤ 13 := by
  obtain ⟨h, E⟩ := spec_l1New_is b hb
  obtain ⟨t, c1, h1, e1, k1⟩ := spec_l1Once_is b 0 h 3 hb (by omega) (by omega) (by omega)
  by_cases ht : t = true
  · obtain ⟨R, c2, h2, E2, r, _⟩ := spec_l6Bent_is b c1 h1 hb k1
    exact ⟨R, EV.bind E (EV.by e1 (EV.pos ht (EV.bind E2 (EV.now _)))), r⟩
  · obtain ⟨R, c2, h2, E2, _, r, _⟩ := spec_l6Draw_is b c1 h1 2 hb k1 (by omega) (by omega)
    exact ⟨R, EV.bind E (EV.by e1 (EV.neg ht (EV.bind E2 (EV.now _)))), by omega⟩

theorem impl_IsMap_is (w : List Int) (hn : w.length ≤ 1048576) : EV (fun k => impl_IsMap.f k w) (isMapB w) := by
  unfold isMapB
  refine EV.by (impl_within_is _ _ _) ?_
  by_cases h1 : 2 ≤ w.length ∧ w.length ≤ 24
  · rw [decide_eq_true h1, Bool.true_and]
    refine EV.pos (by simp; omega) ?_
    by_cases h2 : w.length % 2 = 0
    · rw [decide_eq_true h2, Bool.true_and]
      exact EV.pos (by omega) (EV.bind (impl_isPermutation_is w (by omega)) (EV.now _))
    · rw [decide_eq_false h2, Bool.false_and]
      exact EV.neg (by omega) (EV.now _)
  · rw [decide_eq_false h1, Bool.false_and]
    exact EV.neg (by simp; omega) (EV.now _)

theorem xor_mate : ∀ i : Nat, i < 6 → Go.bits .xor .i64 (i : Int) 1 = mateN i := by decide +kernel
theorem impl_MapPassport_is (w : List Int) (hn : w.length ≤ 1048576) : EV (fun k => impl_MapPassport.f k w) (mapPassM w) := by
  have no : EV (fun k => impl_MapPassport.j0 k w true) ([], false) := by
    refine EV.step (fun k => by rw [impl_MapPassport.j0]) ?_
    exact EV.pos rfl (EV.now _)
  unfold mapPassM
  refine EV.bind (impl_IsMap_is w hn) ?_
  by_cases h1 : isMapB w = true
  · refine EV.pos h1 ?_
    by_cases h2 : w.length ≤ 5
    · rw [if_pos ⟨h1, h2⟩, show decide ((w.length : Int) > 5) = false by simp; omega]
      refine EV.step (fun k => by rw [impl_MapPassport.j0]) ?_
      refine EV.neg (by simp) ?_
      refine EV.count (g := fun k s i => impl_MapPassport.l0 k w s (w.length : Int) i) w.length matesM _ (fun i hi H => ?_) ?_
      · refine EV.step (fun k => by rw [impl_MapPassport.l0]) ?_
        rw [w64 (x := (i : Int) + 1) (by omega) (by omega), xor_mate i (by omega)]
        refine EV.pos (by omega) (EV.pos (by simp [matesM]; omega) ?_)
        simpa [matesM, List.range_succ] using H
      · refine EV.step (fun k => by rw [impl_MapPassport.l0]) ?_
        refine EV.neg (by omega) (EV.by (impl_copyOf_is w (by omega)) ?_)
        refine EV.bind (impl_CloseUp_is _ (by simp) (fun r hr => ?_)) (EV.now _)
        simp only [List.mem_cons, List.mem_nil_iff, or_false] at hr
        rcases hr with rfl | rfl
        · omega
        · simp [matesM]; omega
    · rw [if_neg (fun c => h2 c.2), show decide ((w.length : Int) > 5) = true by simp; omega]
      exact no
  · rw [if_neg (fun c => h1 c.1)]
    exact EV.neg h1 no

theorem spec_l6Mate_is (i : Nat) (h : i ≤ 1000) : spec_l6Mate.f (i : Int) = some (mateN i) := by
  unfold spec_l6Mate.f mateN
  rw [Int.tmod_eq_emod_of_nonneg (by omega), w64 (x := (i : Int) + 1) (by omega) (by omega), w64 (x := 2 * ((i : Int) % 2)) (by omega) (by omega), w64 (by omega) (by omega)]
  congr 1
  split <;> omega

theorem spec_MapPassport_is (w : List Int) (hn : w.length ≤ 1048576) : EV (fun k => spec_MapPassport.f k w) (mapPassM w) := by
  have no : EV (fun k => spec_MapPassport.j0 k w true) ([], false) := by
    refine EV.step (fun k => by rw [spec_MapPassport.j0]) ?_
    exact EV.pos rfl (EV.now _)
  unfold mapPassM
  refine EV.bind (spec_IsMap_is w hn) ?_
  by_cases h1 : isMapB w = true
  · refine EV.pos h1 ?_
    by_cases h2 : w.length ≤ 5
    · rw [if_pos ⟨h1, h2⟩, show decide ((w.length : Int) > 5) = false by simp; omega]
      refine EV.step (fun k => by rw [spec_MapPassport.j0]) ?_
      refine EV.neg (by simp) ?_
      refine EV.count (g := fun k s i => spec_MapPassport.l0 k w s i) w.length matesM _ (fun i hi H => ?_) ?_
      · refine EV.step (fun k => by rw [spec_MapPassport.l0]) ?_
        rw [w64 (x := (i : Int) + 1) (by omega) (by omega)]
        refine EV.pos (by omega) (EV.by (spec_l6Mate_is i (by omega)) (EV.pos (by simp [matesM]; omega) ?_))
        simpa [matesM, List.range_succ] using H
      · refine EV.step (fun k => by rw [spec_MapPassport.l0]) ?_
        refine EV.neg (by omega) (EV.by rfl (EV.pos (by simp; omega) ?_))
        rw [List.nil_append]
        refine EV.bind (spec_CloseUp_is _ (by simp) (fun r hr => ?_)) (EV.now _)
        simp only [List.mem_cons, List.mem_nil_iff, or_false] at hr
        rcases hr with rfl | rfl
        · omega
        · simp [matesM]; omega
    · rw [if_neg (fun c => h2 c.2), show decide ((w.length : Int) > 5) = true by simp; omega]
      exact no
  · rw [if_neg (fun c => h1 c.1)]
    exact EV.neg h1 no

theorem laws_sameInts_self (a : List Int) (ha : a.length ≤ 1048576) : EV (fun k => laws_sameInts.f k a a) true := by
  refine EV.pos rfl ?_
  have := EV.scan (g := fun k i => laws_sameInts.l0 k a a i) a (fun _ => true) true (fun i hi r H1 _ => ?_) ?_
  · rw [show (a.all fun _ => true) = true from List.all_eq_true.2 (fun _ _ => rfl), Bool.true_and] at this
    exact this
  · refine EV.step (fun k => by rw [laws_sameInts.l0]) ?_
    rw [w64 (x := (i : Int) + 1) (by omega) (by omega)]
    exact EV.pos (by omega) (EV.pos (by omega) (EV.pos (by omega) (EV.pos rfl (H1 rfl))))
  · refine EV.step (fun k => by rw [laws_sameInts.l0]) ?_
    exact EV.neg (by omega) (EV.now _)

theorem laws_sameLists_self (a : List (List Int)) (ha : a.length ≤ 1048576) (hr : ∀ r ∈ a, r.length ≤ 1048576) : EV (fun k => laws_sameLists.f k a a) true := by
  refine EV.pos rfl ?_
  have := EV.scan (g := fun k i => laws_sameLists.l0 k a a i) a (fun _ => true) true (fun i hi r H1 _ => ?_) ?_
  · rw [show (a.all fun _ => true) = true from List.all_eq_true.2 (fun _ _ => rfl), Bool.true_and] at this
    exact this
  · refine EV.step (fun k => by rw [laws_sameLists.l0]) ?_
    rw [w64 (x := (i : Int) + 1) (by omega) (by omega), rdL_nat _ _ hi]
    exact EV.pos (by omega) (EV.pos (by omega) (EV.pos (by omega) (EV.bind (laws_sameInts_self _ (hr _ (List.getElem_mem hi))) (EV.pos rfl (H1 rfl)))))
  · refine EV.step (fun k => by rw [laws_sameLists.l0]) ?_
    exact EV.neg (by omega) (EV.now _)

/-- where x goes in an ascending list, from the n-th place down -/
def posP (l : List Int) (x : Int) : Nat → Nat
  | 0 => 0
  | k + 1 => if l.getD k 0 > x then posP l x k else k + 1
theorem posP_le (l : List Int) (x : Int) : ∀ n, posP l x n ≤ n
  | 0 => Nat.le_refl _
  | n + 1 => by
    have := posP_le l x n
    simp only [posP]; split <;> omega
def insM (l : List Int) (x : Int) (n : Nat) : List Int := l.take (posP l x n) ++ x :: l.drop (posP l x n)
def putM (l : List Int) (x : Int) : List Int := insM l x l.length
theorem putM_len (l : List Int) (x : Int) : (putM l x).length = l.length + 1 := by
  have := posP_le l x l.length
  simp [putM, insM]; omega
theorem puts_len (c : List Int) : ∀ acc : List Int, (c.foldl putM acc).length = acc.length + c.length := by
  induction c with
  | nil => intro acc; simp
  | cons a c ih => intro acc; rw [List.foldl_cons, ih, putM_len]; simp; omega
def lensL (c : List (List Int)) : List Int := c.map fun r => (r.length : Int)

theorem cpIn_set (out : List Int) (x : Int) (n : Nat) (h : n ≤ out.length) : (cpIn (out ++ [0]) (n : Int)).set (n : Int).toNat x = out.take n ++ x :: out.drop n := by
  obtain ⟨a, b, rfl, ha⟩ : ∃ a b, out = a ++ b ∧ a.length = n := ⟨out.take n, out.drop n, (List.take_append_drop n out).symm, by simp; omega⟩
  subst ha
  rcases b with _ | ⟨c, t⟩
  · simp only [cpIn, List.append_nil, Int.toNat_natCast, List.length_append, List.length_singleton]
    rw [List.take_of_length_le (by simp)]
    simp
  · simp only [cpIn, Int.toNat_natCast, List.append_assoc, List.cons_append]
    have e1 : (a ++ c :: (t ++ [0])).length - (a.length + 1) = t.length + 1 := by simp; omega
    rw [e1]
    simp [List.take_append, List.take_of_length_le, List.drop_append]
theorem impl_sorted_l1 (l out : List Int) (x ln i : Int) (ho : out.length ≤ 1000) (R : List Int) : ∀ n, n ≤ out.length → EV (fun k => impl_sorted.l0 k (insM out x n) l ln (wrap64 (i + 1))) R → EV (fun k => impl_sorted.l1 k out x (n : Int) l ln i) R
  | 0, _, H => by
    refine EV.step (fun k => by rw [impl_sorted.l1]) ?_
    refine EV.neg (by omega) (EV.pos (by omega) (EV.by rfl (EV.pos (by omega) (EV.pos (by simp only [List.length_append, List.length_singleton]; omega) ?_))))
    rw [cpIn_set out x 0 (by omega)]
    exact H
  | n + 1, h, H => by
    refine EV.step (fun k => by rw [impl_sorted.l1]) ?_
    have e1 : wrap64 (((n + 1 : Nat) : Int) - 1) = (n : Int) := by rw [w64 (by omega) (by omega)]; omega
    rw [e1, rd_nat _ _ (by omega)]
    refine EV.pos (by omega) (EV.pos (by omega) (EV.pos (by omega) ?_))
    have eg : out.getD n 0 = out[n] := by rw [List.getD_eq_getElem?_getD, List.getElem?_eq_getElem (by omega)]; rfl
    by_cases hc : out[n] > x
    · have : insM out x (n + 1) = insM out x n := by simp only [insM, posP, eg, if_pos hc]
      rw [this] at H
      exact EV.pos hc (impl_sorted_l1 l out x ln i ho R n (by omega) H)
    · refine EV.neg hc (EV.pos (by omega) (EV.by rfl (EV.pos (by omega) (EV.pos (by simp only [List.length_append, List.length_singleton]; omega) ?_))))
      rw [cpIn_set out x (n + 1) (by omega)]
      simp only [insM, posP, eg, if_neg hc] at H
      exact H
theorem impl_sorted_is (l : List Int) (hl : l.length ≤ 1000) : EV (fun k => impl_sorted.f k l) (l.foldl putM []) := by
  refine EV.fold (g := fun k s i => impl_sorted.l0 k s l (l.length : Int) i) l putM id (fun i s => s.length = i) (fun i hi s r hs H => ?_) (fun s hs => ?_) [] rfl
  · refine EV.step (fun k => by rw [impl_sorted.l0]) ?_
    rw [rd_nat _ _ hi]
    refine EV.pos (by omega) (EV.pos (by omega) (EV.pos (by omega) ?_))
    refine impl_sorted_l1 l s l[i] _ _ (by omega) r s.length (Nat.le_refl _) ?_
    rw [w64 (x := (i : Int) + 1) (by omega) (by omega)]
    exact H (by rw [putM_len]; omega)
  · refine EV.step (fun k => by rw [impl_sorted.l0]) ?_
    exact EV.neg (by omega) (EV.now _)

theorem impl_lengths_of {p : List Int} {c : List (List Int)} (h : EV (fun k => impl_cycles.f k p) c) (hc : c.length ≤ 1000) : EV (fun k => impl_lengths.f k p) ((lensL c).foldl putM []) := by
  refine EV.bind h ?_
  refine EV.foldC (g := fun k s i => impl_lengths.l0 k s c (c.length : Int) i) c (fun s r => s ++ [(r.length : Int)]) (fun i s => s.length = i) _ (fun i hi s hs H => ?_) [] rfl (fun hI => ?_)
  · refine EV.step (fun k => by rw [impl_lengths.l0]) ?_
    rw [rdL_nat _ _ hi, w64 (x := (i : Int) + 1) (by omega) (by omega)]
    refine EV.pos (by omega) (EV.pos (by omega) (EV.pos (by omega) (EV.pos (by omega) ?_)))
    exact H (by simp [hs])
  · have e : c.foldl (fun s r => s ++ [(r.length : Int)]) [] = lensL c := by
      have : ∀ (c : List (List Int)) (s : List Int), c.foldl (fun s r => s ++ [(r.length : Int)]) s = s ++ lensL c := by
        intro c
        induction c with
        | nil => intro s; simp [lensL]
        | cons a c ih => intro s; rw [List.foldl_cons, ih]; simp [lensL]
      simpa using this c []
    rw [e]
    refine EV.step (fun k => by rw [impl_lengths.l0]) ?_
    exact EV.neg (by omega) (EV.bind (impl_sorted_is _ (by simp [lensL]; omega)) (EV.now _))

theorem spec_l9Put_l0 (l : List Int) (x : Int) (hl : l.length ≤ 1000) : ∀ n, n ≤ l.length → EV (fun k => spec_l9Put.l0 k l x (n : Int)) (insM l x n)
  | 0, _ => by
    refine EV.step (fun k => by rw [spec_l9Put.l0]) ?_
    refine EV.neg (by omega) (EV.by rfl (EV.pos (by omega) (EV.pos (by omega) (EV.by rfl (EV.pos (by simp; omega) (EV.by rfl (EV.by rfl (EV.pos (by simp) (EV.by rfl (EV.pos (by simp; omega) ((EV.now _).eq ?_)))))))))))
    simp [insM, posP]
  | n + 1, h => by
    have ih := spec_l9Put_l0 l x hl n (by omega)
    refine EV.step (fun k => by rw [spec_l9Put.l0]) ?_
    have e1 : wrap64 (((n + 1 : Nat) : Int) - 1) = (n : Int) := by rw [w64 (by omega) (by omega)]; omega
    rw [e1, rd_nat _ _ (by omega)]
    refine EV.pos (by omega) (EV.pos (by omega) (EV.pos (by omega) ?_))
    have eg : l.getD n 0 = l[n] := by rw [List.getD_eq_getElem?_getD, List.getElem?_eq_getElem (by omega)]; rfl
    by_cases hc : l[n] > x
    · have : insM l x (n + 1) = insM l x n := by simp only [insM, posP, eg, if_pos hc]
      rw [this]; exact EV.pos hc ih
    · refine EV.neg hc (EV.by rfl (EV.pos (by omega) (EV.pos (by omega) (EV.by rfl (EV.pos (by simp; omega) (EV.by rfl (EV.by rfl (EV.pos (by simp; omega) (EV.by rfl (EV.pos (by simp; omega) ((EV.now _).eq ?_)))))))))))
      simp only [insM, posP, eg, if_neg hc, Int.toNat_natCast]
      simp
theorem spec_l9Put_is (l : List Int) (x : Int) (hl : l.length ≤ 1000) : EV (fun k => spec_l9Put.f k l x) (putM l x) := spec_l9Put_l0 l x hl l.length (Nat.le_refl _)

/-! ### a braid's step keeps the product, the cycles' numbers and the parts -/
theorem lessN_app : ∀ (xs ys : List (List Int)), lessN (xs ++ ys) = lessN xs + lessN ys
  | [], ys => by simp [lessN]
  | p :: xs, ys => by simp only [List.cons_append, lessN, lessN_app xs ys]; omega
theorem sheetsB_mk {l : List (List Int)} {n : Nat} (h0 : 0 < l.length) (h1 : 1 ≤ n) (h5 : n ≤ 5) (h : ∀ r ∈ l, permN n r) : d0 l = n ∧ sheetsB l = true := by
  have e : d0 l = n := by
    unfold d0
    rw [List.getD_eq_getElem?_getD, List.getElem?_eq_getElem h0, Option.getD_some]
    exact (h _ (List.getElem_mem h0)).1
  refine ⟨e, ?_⟩
  simp only [sheetsB, Bool.and_eq_true, decide_eq_true_iff, List.all_eq_true, sheetB]
  rw [e]
  exact ⟨h0, ⟨h1, h5⟩, fun r hr => ⟨(h r hr).1, (h r hr).2⟩⟩
theorem then_idM {n : Nat} {p : List Int} (h : permN n p) : thenM p (idM n) = p := by
  unfold thenM
  have H := (permN_of h).2.1
  conv => rhs; rw [← List.map_id p]
  refine List.map_congr_left fun y hy => ?_
  have := H y hy
  have e : (idM n).getD y.toNat 0 = (y.toNat : Int) := by simp [idM, show y.toNat < n by omega]
  rw [e]; simp; omega
theorem idM_then {n : Nat} {p : List Int} (h : p.length = n) : thenM (idM n) p = p := by
  apply List.ext_getElem (by simp [thenM, idM, h])
  intro i h1 h2
  simp [thenM, idM, h2]
theorem then_assocM {n : Nat} {p q : List Int} (r : List Int) (hp : permN n p) (hq : q.length = n) : thenM (thenM p q) r = thenM p (thenM q r) := by
  unfold thenM
  rw [List.map_map]
  refine List.map_congr_left fun y hy => ?_
  have := (permN_of hp).2.1 y hy
  have hi : y.toNat < q.length := by omega
  simp only [Function.comp, List.getD_eq_getElem?_getD, List.getElem?_map, List.getElem?_eq_getElem hi, Option.map_some, Option.getD_some]
set_option synthInstance.maxHeartbeats 2000000 in
set_option synthInstance.maxSize 4000 in
theorem inv_both {n : Nat} {p : List Int} (h : permN n p) (h1 : 1 ≤ n) (h5 : n ≤ 5) : thenM (invM p) p = idM n ∧ thenM p (invM p) = idM n ∧ (invM p).length = n := by
  have := perm_all (fun p => decide (thenM (invM p) p = idM p.length) && (decide (thenM p (invM p) = idM p.length) && decide ((invM p).length = p.length))) (by decide +kernel) (by decide +kernel) (by decide +kernel) (by decide +kernel) (by decide +kernel) h.2 (by have := h.1; omega) (by have := h.1; omega)
  simp only [Bool.and_eq_true, decide_eq_true_iff, h.1] at this
  exact this
theorem fold_perm {n : Nat} : ∀ (xs : List (List Int)) (P : List Int), (∀ p ∈ xs, permN n p) → permN n P → permN n (xs.foldl thenM P)
  | [], P, _, h => h
  | p :: xs, P, hx, h => fold_perm xs _ (fun q hq => hx q (by simp [hq])) (perm_then h (hx p (by simp)))
theorem passB_iff {l : List (List Int)} {n : Nat} (h1 : 1 ≤ n) (h5 : n ≤ 5) (hl : 1 ≤ l.length ∧ l.length ≤ 5) (h : ∀ r ∈ l, permN n r) : passB l = true ↔ l.foldl thenM (idM n) = idM n := by
  obtain ⟨e, s⟩ := sheetsB_mk (by omega) h1 h5 h
  simp only [passB, Bool.and_eq_true, decide_eq_true_iff]
  have : actL l (lettersM l.length) = l.foldl thenM (idM (d0 l)) := by
    rw [← product_eq, actK_eq]; rfl
  rw [this, e]
  exact ⟨fun h => h.2.2, fun h => ⟨hl, s, h⟩⟩
theorem pass_of {l : List (List Int)} (h : passB l = true) : (1 ≤ l.length ∧ l.length ≤ 5) ∧ sheetsB l = true ∧ (1 ≤ d0 l ∧ d0 l ≤ 5) ∧ (∀ r ∈ l, permN (d0 l) r) ∧ l.foldl thenM (idM (d0 l)) = idM (d0 l) := by
  have P := passB_of h
  have S := sheetsB_of P.2
  have R : ∀ r ∈ l, permN (d0 l) r := fun r hr => S.2.2.2 r hr
  exact ⟨P.1, P.2, ⟨S.2.1, S.2.2.1⟩, R, (passB_iff S.2.1 S.2.2.1 P.1 R).1 h⟩
/-- closing up makes a passport -/
theorem close_pass {l : List (List Int)} (h : (closeM l).2 = true) : passB (closeM l).1 = true := by
  unfold closeM at h ⊢
  split
  · rename_i c
    have S := sheetsB_of c.2
    have R : ∀ r ∈ l, permN (d0 l) r := fun r hr => S.2.2.2 r hr
    have e : actL l (lettersM l.length) = l.foldl thenM (idM (d0 l)) := by
      rw [← product_eq, actK_eq]; rfl
    have pP := fold_perm l (idM (d0 l)) R (perm_id _)
    have pI := perm_inv pP S.2.1 S.2.2.1
    rw [e]
    refine (passB_iff (n := d0 l) S.2.1 S.2.2.1 (by simp; omega) fun r hr => ?_).2 ?_
    · rcases List.mem_append.1 hr with h' | h'
      · exact R r h'
      · rw [List.mem_singleton.1 h']; exact pI
    · rw [List.foldl_append]
      exact (inv_both pP S.2.1 S.2.2.1).2.1
  · rename_i c; rw [if_neg c] at h; cases h
structure Braid (l b : List (List Int)) (n : Nat) (A B : List (List Int)) (P Q R : List Int) : Prop where
  n1 : 1 ≤ n
  n5 : n ≤ 5
  el : l = A ++ P :: Q :: B
  eb : b = A ++ R :: P :: B
  rows : ∀ r ∈ A ++ P :: Q :: B, permN n r
  eR : R = thenM (thenM P Q) (invM P)
  pl : passB l = true
  dl : d0 l = n
theorem brM_no {l : List (List Int)} {i : Int} (h : (brM l i).2 = true) : passB l = true ∧ 0 ≤ i ∧ i ≤ (l.length : Int) - 2 := by
  unfold brM at h
  split at h
  · assumption
  · cases h
theorem split_at {α : Type} : ∀ (l : List α) (i : Nat), i + 1 < l.length → ∃ A P Q B, l = A ++ P :: Q :: B ∧ A.length = i
  | [], i, h => by simp at h
  | [x], i, h => by simp at h
  | x :: y :: l, 0, _ => ⟨[], x, y, l, rfl, rfl⟩
  | x :: y :: l, i + 1, h => by
    obtain ⟨A, P, Q, B, e, a⟩ := split_at (y :: l) i (by simp at h ⊢; omega)
    exact ⟨x :: A, P, Q, B, by rw [e]; rfl, by simp [a]⟩
theorem brM_braid {l : List (List Int)} {i : Int} (h : (brM l i).2 = true) : ∃ n A B P Q R, Braid l (brM l i).1 n A B P Q R := by
  have c := brM_no h
  have p := pass_of c.1
  obtain ⟨m, rfl⟩ : ∃ m : Nat, i = m := ⟨i.toNat, by omega⟩
  obtain ⟨A, P, Q, B, e, a⟩ := split_at l m (by omega)
  have gP : l.getD m [] = P := by rw [e, ← a]; simp
  have gQ : l.getD (m + 1) [] = Q := by rw [e, ← a]; simp
  have pP : permN (d0 l) P := p.2.2.2.1 P (by rw [e]; simp)
  have w : actL l [(m : Int) + 1, (m : Int) + 2, -(m : Int) - 1] = thenM (thenM P Q) (invM P) := by
    have : actL l [(m : Int) + 1, (m : Int) + 2, -(m : Int) - 1] = actK l [(m : Int) + 1, (m : Int) + 2, -(m : Int) - 1] (idM (d0 l)) := (actK_eq l _ _).symm
    rw [this]
    show thenM (thenM (thenM (idM (d0 l)) (stepP l ((m : Int) + 1))) (stepP l ((m : Int) + 2))) (stepP l (-(m : Int) - 1)) = _
    have s1 : stepP l ((m : Int) + 1) = P := by unfold stepP; rw [if_neg (by omega), show ((m : Int) + 1).natAbs - 1 = m by omega, gP]
    have s2 : stepP l ((m : Int) + 2) = Q := by unfold stepP; rw [if_neg (by omega), show ((m : Int) + 2).natAbs - 1 = m + 1 by omega, gQ]
    have s3 : stepP l (-(m : Int) - 1) = invM P := by unfold stepP; rw [if_pos (by omega), show (-(m : Int) - 1).natAbs - 1 = m by omega, gP]
    rw [s1, s2, s3, idM_then pP.1]
  refine ⟨d0 l, A, B, P, Q, _, p.2.2.1.1, p.2.2.1.2, e, ?_, fun r hr => p.2.2.2.1 r (by rw [e]; exact hr), rfl, c.1, rfl⟩
  unfold brM
  rw [if_pos c, w, Int.toNat_natCast, gP]
  generalize thenM (thenM P Q) (invM P) = R
  rw [e, ← a]
  simp
theorem Braid.pP {l b A B : List (List Int)} {n : Nat} {P Q R : List Int} (h : Braid l b n A B P Q R) : permN n P ∧ permN n Q ∧ permN n R := by
  have a := h.rows P (by simp)
  have b := h.rows Q (by simp)
  refine ⟨a, b, ?_⟩
  rw [h.eR]
  exact perm_then (perm_then a b) (perm_inv a h.n1 h.n5)
theorem Braid.turn {l b A B : List (List Int)} {n : Nat} {P Q R : List Int} (h : Braid l b n A B P Q R) : thenM R P = thenM P Q := by
  have p := h.pP
  have v := inv_both p.1 h.n1 h.n5
  rw [h.eR, then_assocM P (perm_then p.1 p.2.1) v.2.2, v.1, then_idM (perm_then p.1 p.2.1)]
theorem Braid.brows {l b A B : List (List Int)} {n : Nat} {P Q R : List Int} (h : Braid l b n A B P Q R) : ∀ r ∈ A ++ R :: P :: B, permN n r := by
  intro r hr
  simp only [List.mem_append, List.mem_cons] at hr
  rcases hr with h' | h' | h' | h'
  · exact h.rows r (by simp [h'])
  · rw [h']; exact h.pP.2.2
  · rw [h']; exact h.pP.1
  · exact h.rows r (by simp [h'])
theorem Braid.pass {l b A B : List (List Int)} {n : Nat} {P Q R : List Int} (h : Braid l b n A B P Q R) : passB b = true ∧ d0 b = n := by
  have p := h.pP
  have lp := pass_of h.pl
  have ln := lp.1
  have lf := lp.2.2.2.2
  rw [h.dl, h.el, List.foldl_append, List.foldl_cons, List.foldl_cons] at lf
  rw [h.el] at ln
  have ln' : 1 ≤ (A ++ R :: P :: B).length ∧ (A ++ R :: P :: B).length ≤ 5 := by simpa using ln
  rw [h.eb]
  refine ⟨(passB_iff h.n1 h.n5 ln' h.brows).2 ?_, (sheetsB_mk (by omega) h.n1 h.n5 h.brows).1⟩
  rw [List.foldl_append, List.foldl_cons, List.foldl_cons]
  have pA : permN n (A.foldl thenM (idM n)) := fold_perm A _ (fun q hq => h.rows q (by simp [hq])) (perm_id _)
  rw [then_assocM P pA p.2.2.1, h.turn, ← then_assocM Q pA p.1.1]
  exact lf
def invN (p : List Nat) : List Nat := (List.range p.length).map fun i => p.findIdx fun y => Nat.beq y i
set_option synthInstance.maxHeartbeats 2000000 in
set_option synthInstance.maxSize 4000 in
theorem NN_inv {n : Nat} {p : List Int} (h : permN n p) (h1 : 1 ≤ n) (h5 : n ≤ 5) : NN (invM p) = invN (NN p) := by
  have := perm_all (fun p => decide (NN (invM p) = invN (NN p))) (by decide +kernel) (by decide +kernel) (by decide +kernel) (by decide +kernel) (by decide +kernel) h.2 (by have := h.1; omega) (by have := h.1; omega)
  simpa using this
def cjB (n : Nat) (P : List Nat) : Bool := let V := invN P; (permsN n).all fun Q => Nat.beq (cyN (thenN (thenN P Q) V)) (cyN Q)
theorem cj_4 : ∀ n : Nat, n < 5 → (permsN n).all (cjB n) = true := by decide +kernel
theorem cj5_0 : ((permsN 5).take 30).all (cjB 5) = true := by decide +kernel
theorem cj5_1 : (((permsN 5).drop 30).take 30).all (cjB 5) = true := by decide +kernel
theorem cj5_2 : ((((permsN 5).drop 30).drop 30).take 30).all (cjB 5) = true := by decide +kernel
theorem cj5_3 : ((((permsN 5).drop 30).drop 30).drop 30).all (cjB 5) = true := by decide +kernel
theorem cj_ok (n : Nat) (h : n < 6) : (permsN n).all (cjB n) = true := by
  by_cases e : n = 5
  · subst e
    rw [all_split _ _ 30, cj5_0, all_split _ _ 30, cj5_1, all_split _ _ 30, cj5_2, cj5_3]; rfl
  · exact cj_4 n (by omega)
theorem Braid.less {l b A B : List (List Int)} {n : Nat} {P Q R : List Int} (h : Braid l b n A B P Q R) : lessN b = lessN l := by
  have p := h.pP
  have c := List.all_eq_true.1 (cj_ok n (by have := h.n5; omega)) _ (mem_of (NN_perm p.1 h.n1 h.n5))
  have c2 := List.all_eq_true.1 c _ (mem_of (NN_perm p.2.1 h.n1 h.n5))
  have c3 : cyN (NN R) = cyN (NN Q) := by
    rw [h.eR, NN_then, NN_then, NN_inv p.1 h.n1 h.n5]
    exact Nat.eq_of_beq_eq_true c2
  rw [h.eb, h.el, lessN_app, lessN_app]
  simp only [lessN, c3, p.1.1, p.2.1.1, p.2.2.1]
  omega
theorem labI_all {n : Nat} : ∀ (xs : List (List Int)) (up : List Int), (∀ p ∈ xs, permN n p) → upB n up → labI n (xs.foldl (rowM n) up) = (xs.map NN).foldl rowN (labI n up)
  | [], up, _, _ => rfl
  | p :: xs, up, hx, hu => by
    have po := permN_of (hx p (by simp))
    rw [List.foldl_cons, List.map_cons, List.foldl_cons, labI_all xs _ (fun q hq => hx q (by simp [hq])) (rowM_I po.1 po.2.1 hu), labI_rowM po.1 po.2.1 hu]
theorem parts_lab {l : List (List Int)} {n : Nat} (hs : sheetsB l = true) (hd : d0 l = n) (hr : ∀ p ∈ l, permN n p) : (partsM l).length = partN ((l.map NN).foldl rowN (idN n)) := by
  have e : (partsM l).length = partN (labI (d0 l) (allM l)) := outM2_len (allM_I hs)
  rw [e, hd, ← labI_id n, ← labI_all l _ hr (upB_id n)]
  unfold allM
  rw [hd]
theorem NN_lt {n : Nat} {p : List Int} (h : permN n p) {s : Nat} (hs : s < n) : (NN p).getD s 0 < n := by
  have P := permN_of h
  rw [← NN_getD]
  have hi : s < p.length := by omega
  rw [List.getD_eq_getElem?_getD, List.getElem?_eq_getElem hi, Option.getD_some]
  have := P.2.1 _ (List.getElem_mem hi)
  omega
theorem thenN_get {a b : List Nat} {x : Nat} (h : x < a.length) : (thenN a b).getD x 0 = b.getD (a.getD x 0) 0 := by
  simp only [thenN, List.getD_eq_getElem?_getD, List.getElem?_map, List.getElem?_eq_getElem h, Option.map_some, Option.getD_some]
theorem Braid.parts {l b A B : List (List Int)} {n : Nat} {P Q R : List Int} (h : Braid l b n A B P Q R) : (partsM b).length = (partsM l).length := by
  have p := h.pP
  have bp := h.pass
  have lr : ∀ r ∈ l, permN n r := by rw [h.el]; exact h.rows
  have br : ∀ r ∈ b, permN n r := by rw [h.eb]; exact h.brows
  rw [parts_lab (passB_of bp.1).2 bp.2 br, parts_lab (passB_of h.pl).2 h.dl lr]
  have hl : ∀ q ∈ l.map NN, ∀ s, s < n → q.getD s 0 < n := by
    intro q hq s hs
    obtain ⟨r, hr, rfl⟩ := List.mem_map.1 hq
    exact NN_lt (lr r hr) hs
  have hb : ∀ q ∈ b.map NN, ∀ s, s < n → q.getD s 0 < n := by
    intro q hq s hs
    obtain ⟨r, hr, rfl⟩ := List.mem_map.1 hq
    exact NN_lt (br r hr) hs
  have len : ∀ {q : List Int}, permN n q → (NN q).length = n := fun hq => by simp [NN, hq.1]
  have T : ∀ x, x < n → (NN P).getD ((NN R).getD x 0) 0 = (NN Q).getD ((NN P).getD x 0) 0 := by
    intro x hx
    have e := congrArg NN h.turn
    rw [NN_then, NN_then] at e
    rw [← thenN_get (by rw [len p.2.2]; exact hx), ← thenN_get (by rw [len p.1]; exact hx), e]
  have inP : ∀ x, x < n → rowsR n (l.map NN) x ((NN P).getD x 0) := fun x hx => ⟨NN P, by rw [h.el]; simp, hx, rfl⟩
  have inQ : ∀ x, x < n → rowsR n (l.map NN) x ((NN Q).getD x 0) := fun x hx => ⟨NN Q, by rw [h.el]; simp, hx, rfl⟩
  have bP : ∀ x, x < n → rowsR n (b.map NN) x ((NN P).getD x 0) := fun x hx => ⟨NN P, by rw [h.eb]; simp, hx, rfl⟩
  have bR : ∀ x, x < n → rowsR n (b.map NN) x ((NN R).getD x 0) := fun x hx => ⟨NN R, by rw [h.eb]; simp, hx, rfl⟩
  refine congrArg partN (labs_eq hb hl ?_ ?_)
  · rintro x y ⟨q, hq, hx, rfl⟩
    obtain ⟨r, hr, rfl⟩ := List.mem_map.1 hq
    rw [h.eb] at hr
    simp only [List.mem_append, List.mem_cons] at hr
    have keep : r ∈ l → Con (rowsR n (l.map NN)) x ((NN r).getD x 0) := fun hr => .rel ⟨NN r, List.mem_map.2 ⟨r, hr, rfl⟩, hx, rfl⟩
    rcases hr with h' | h' | h' | h'
    · exact keep (by rw [h.el]; simp [h'])
    · subst h'
      have a := inP x hx
      have b := inQ _ (NN_lt p.1 hx)
      have c := inP _ (NN_lt p.2.2 hx)
      rw [T x hx] at c
      exact .trans (.rel a) (.trans (.rel b) (.symm (.rel c)))
    · subst h'; exact .rel (inP x hx)
    · exact keep (by rw [h.el]; simp [h'])
  · rintro x y ⟨q, hq, hx, rfl⟩
    obtain ⟨r, hr, rfl⟩ := List.mem_map.1 hq
    rw [h.el] at hr
    simp only [List.mem_append, List.mem_cons] at hr
    have keep : r ∈ b → Con (rowsR n (b.map NN)) x ((NN r).getD x 0) := fun hr => .rel ⟨NN r, List.mem_map.2 ⟨r, hr, rfl⟩, hx, rfl⟩
    rcases hr with h' | h' | h' | h'
    · exact keep (by rw [h.eb]; simp [h'])
    · subst h'; exact .rel (bP x hx)
    · subst h'
      have v := inv_both p.1 h.n1 h.n5
      have pI := perm_inv p.1 h.n1 h.n5
      have ev := congrArg NN v.1
      rw [NN_then, NN_id] at ev
      have ex : (NN P).getD ((NN (invM P)).getD x 0) 0 = x := by
        rw [← thenN_get (by rw [len pI]; exact hx), ev]; simp [idN, hx]
      have zl := NN_lt pI hx
      have a := bP _ zl
      rw [ex] at a
      have b := bR _ zl
      have c := bP _ (NN_lt p.2.2 zl)
      rw [T _ zl, ex] at c
      exact .trans (.symm (.rel a)) (.trans (.rel b) (.rel c))
    · exact keep (by rw [h.eb]; simp [h'])
theorem ree {l : List (List Int)} (h : passB l = true) : 2 * d0 l ≤ lessN l + 2 * (partsM l).length ∧ lessN l % 2 = 0 := by
  have hq := h
  simp only [passB, Bool.and_eq_true, decide_eq_true_iff] at hq
  have s := sheetsB_of hq.2.1
  have I := inv_rows s.2.1 (by omega) l (idM (d0 l)) (idM (d0 l)) 0 s.2.2.2 (upB_id _) (by rw [labI_id, NN_id]; exact inv_zero (by omega))
  have e : l.foldl thenM (idM (d0 l)) = idM (d0 l) := by
    rw [← product_eq, actK_eq]; exact hq.2.2
  rw [e, NN_id] at I
  have A := allS_ok (d0 l) (by omega)
  simp only [allS, Bool.and_eq_true] at A
  have s4 := A.2.2.2.1
  simp only [S4, Bool.and_eq_true, beq_iff_eq] at s4
  have c := s4.2
  have le := I.le
  have par := I.par
  rw [c] at le par
  have pl : (partsM l).length = partN (labI (d0 l) (allM l)) := outM2_len (allM_I hq.2.1)
  rw [pl]
  have : allM l = l.foldl (rowM (d0 l)) (idM (d0 l)) := rfl
  rw [this]
  omega
theorem branch_val (l : List (List Int)) (hs : sheetsB l = true) (hl : l.length ≤ 5) : ∀ (n i : Nat) (acc : Int), i + n = l.length → acc.natAbs ≤ 10 * i →
    EV (fun k => spec_BranchSum.l0 k l acc (i : Int)) (acc + lessN (l.drop i)) ∧ EV (fun k => impl_BranchSum.l0 k acc l (l.length : Int) (i : Int)) (acc + lessN (l.drop i)) := by
  have S := sheetsB_of hs
  intro n
  induction n with
  | zero =>
    intro i acc h _
    rw [List.drop_of_length_le (by omega)]
    refine ⟨?_, ?_⟩
    · refine EV.step (fun k => by rw [spec_BranchSum.l0]) ?_
      exact EV.neg (by omega) ((EV.now _).eq (by simp [lessN]))
    · refine EV.step (fun k => by rw [impl_BranchSum.l0]) ?_
      exact EV.neg (by omega) ((EV.now _).eq (by simp [lessN]))
  | succ n ih =>
    intro i acc h ha
    have hi : i < l.length := by omega
    have row := S.2.2.2 _ (List.getElem_mem hi)
    obtain ⟨c, hc1, hc2, hcl, hc5⟩ := cyc_len (n := d0 l) row S.2.1 S.2.2.1
    have le := (inv_row (n := d0 l) (by omega) (inv_zero (by omega)) (NN_perm row S.2.1 S.2.2.1)).2
    obtain ⟨h1, h2⟩ := ih (i + 1) (acc + ((l[i]).length : Int) - (c.length : Int)) (by omega) (by omega)
    have e : acc + ((l[i]).length : Int) - (c.length : Int) + lessN (l.drop (i + 1)) = acc + lessN (l.drop i) := by
      rw [List.drop_eq_getElem_cons hi]
      simp only [lessN]
      have := row.1
      omega
    rw [e] at h1 h2
    refine ⟨?_, ?_⟩
    · refine EV.step (fun k => by rw [spec_BranchSum.l0]) ?_
      rw [rdL_nat _ _ hi, w64 (x := (i : Int) + 1) (by omega) (by omega), w64 (x := acc + ((l[i]).length : Int)) (by omega) (by omega)]
      refine EV.pos (by omega) (EV.pos (by omega) (EV.bind hc1 ?_))
      rw [w64 (x := acc + ((l[i]).length : Int) - (c.length : Int)) (by omega) (by omega)]
      exact_mod_cast h1
    · refine EV.step (fun k => by rw [impl_BranchSum.l0]) ?_
      rw [rdL_nat _ _ hi, w64 (x := (i : Int) + 1) (by omega) (by omega)]
      refine EV.pos (by omega) (EV.pos (by omega) (EV.pos (by omega) (EV.bind hc2 ?_)))
      rw [w64 (x := ((l[i]).length : Int) - (c.length : Int)) (by omega) (by omega), w64 (x := acc + (((l[i]).length : Int) - (c.length : Int))) (by omega) (by omega), show acc + (((l[i]).length : Int) - (c.length : Int)) = acc + ((l[i]).length : Int) - (c.length : Int) by omega]
      exact_mod_cast h2
theorem less_le {n : Nat} : ∀ (xs : List (List Int)), (∀ p ∈ xs, p.length = n) → lessN xs ≤ n * xs.length
  | [], _ => by simp [lessN]
  | p :: xs, h => by
    have := less_le xs (fun q hq => h q (by simp [hq]))
    have := h p (by simp)
    simp only [lessN, List.length_cons, Nat.mul_add]; omega
theorem impl_surf_is (h : Nat) (hh : h ≤ 20) : impl_surfaceWith.f (2 - 2 * (h : Int)) 0 true = some ((h : Int), 0, 0, true) := by
  unfold impl_surfaceWith.f
  rw [if_pos rfl]
  have e1 : wrap64 (wrap64 (2 - (2 - 2 * (h : Int))) - 0) = ((2 * h : Nat) : Int) := by
    rw [w64 (x := 2 - (2 - 2 * (h : Int))) (by omega) (by omega), w64 (by omega) (by omega)]; omega
  rw [e1, show (2 : Int) = ((2 : Nat) : Int) from rfl, impl_mod_is (2 * h) 2 (by decide)]
  simp only [Option.bind_some]
  rw [if_pos (by omega)]
  have e2 : wrap64 (Int.tdiv ((2 * h : Nat) : Int) ((2 : Nat) : Int)) = (h : Int) := by
    rw [show Int.tdiv ((2 * h : Nat) : Int) ((2 : Nat) : Int) = (h : Int) by
      rw [Int.tdiv_eq_ediv_of_nonneg (by omega)]; omega]
    exact w64 (by omega) (by omega)
  rw [e2]
  have e3 : impl_IsSurface.f (h : Int) 0 0 = some true := by
    unfold impl_IsSurface.f
    rw [impl_within_is, impl_within_is]
    have b1 : decide (0 ≤ (h : Int) ∧ (h : Int) ≤ 20) = true := by simp; omega
    rw [b1]
    simp
  rw [e3]; rfl
theorem p_len {n : Nat} {t : List (List Int)} (h : ∀ r ∈ t, permN n r) : ∀ r ∈ t, r.length = n := fun r hr => (h r hr).1
theorem spec_types_row {l acc c : List (List Int)} {i : Int} (hc : c.length ≤ 1000) (ha : acc.length ≤ 1000) (R : List (List Int))
    (H : EV (fun k => spec_CycleTypes.l0 k l (acc ++ [(lensL c).foldl putM []]) (wrap64 (i + 1))) R) : EV (fun k => spec_CycleTypes.l1 k l acc i [] c 0) R := by
  have e : (lensL c).foldl putM [] = c.foldl (fun s r => putM s (r.length : Int)) [] := by simp [lensL, List.foldl_map]
  rw [e] at H
  refine EV.foldC (g := fun k s j => spec_CycleTypes.l1 k l acc i s c j) c (fun s r => putM s (r.length : Int)) (fun i s => s.length = i) R (fun j hj s hs H => ?_) [] rfl (fun hI => ?_)
  · refine EV.step (fun k => by rw [spec_CycleTypes.l1]) ?_
    rw [rdL_nat _ _ hj, w64 (x := (j : Int) + 1) (by omega) (by omega)]
    refine EV.pos (by omega) (EV.pos (by omega) (EV.bind (spec_l9Put_is s _ (by omega)) ?_))
    exact H (by rw [putM_len]; omega)
  · refine EV.step (fun k => by rw [spec_CycleTypes.l1]) ?_
    exact EV.neg (by omega) (EV.pos (by omega) H)
theorem types_both (l : List (List Int)) (hp : passB l = true) (hn : l.length < 4294967296) (hr : ∀ r ∈ l, r.length < 4294967296) : ∀ (n i : Nat) (acc : List (List Int)), i + n = l.length → acc.length = i → (∀ r ∈ acc, r.length ≤ 5) →
    ∃ R, EV (fun k => spec_CycleTypes.l0 k l acc (i : Int)) R ∧ EV (fun k => impl_CycleTypes.l0 k acc l (l.length : Int) (i : Int)) R ∧ R.length = l.length ∧ ∀ r ∈ R, r.length ≤ 5 := by
  have hq := hp
  simp only [passB, Bool.and_eq_true, decide_eq_true_iff] at hq
  have S := sheetsB_of hq.2.1
  intro n
  induction n with
  | zero =>
    intro i acc h ha hb
    refine ⟨acc, ?_, ?_, by omega, hb⟩
    · refine EV.step (fun k => by rw [spec_CycleTypes.l0]) ?_
      refine EV.neg (by omega) (EV.step (fun k => by rw [spec_CycleTypes.j1]) ?_)
      exact EV.neg (by simp) (EV.now _)
    · refine EV.step (fun k => by rw [impl_CycleTypes.l0]) ?_
      exact EV.neg (by omega) (EV.now _)
  | succ n ih =>
    intro i acc h ha hb
    have hi : i < l.length := by omega
    have row := S.2.2.2 _ (List.getElem_mem hi)
    obtain ⟨c, c1, c2, c5⟩ := cyc_is row.2 (by omega) (by omega)
    obtain ⟨R, h1, h2, h3, h4⟩ := ih (i + 1) (acc ++ [(lensL c).foldl putM []]) (by omega) (by simp [ha]) (fun r hr => by
      rcases List.mem_append.1 hr with h | h
      · exact hb r h
      · rw [List.mem_singleton.1 h, puts_len]; simp [lensL]; omega)
    refine ⟨R, ?_, ?_, h3, h4⟩
    · refine EV.step (fun k => by rw [spec_CycleTypes.l0]) ?_
      refine EV.pos (by omega) (EV.bind (spec_IsPassport_is l hn hr) ?_)
      rw [hp]
      refine EV.step (fun k => by rw [spec_CycleTypes.j1]) ?_
      rw [rdL_nat _ _ hi]
      refine EV.pos rfl (EV.pos (by omega) (EV.pos (by omega) (EV.bind c1 (spec_types_row (by omega) (by omega) R ?_))))
      rw [w64 (x := (i : Int) + 1) (by omega) (by omega)]
      exact_mod_cast h1
    · refine EV.step (fun k => by rw [impl_CycleTypes.l0]) ?_
      rw [rdL_nat _ _ hi, w64 (x := (i : Int) + 1) (by omega) (by omega)]
      refine EV.pos (by omega) (EV.pos (by omega) (EV.pos (by omega) (EV.bind (impl_lengths_of c2 (by omega)) (EV.pos (by omega) ?_))))
      exact_mod_cast h2
theorem types_is (t : List (List Int)) (hn : t.length ≤ 1048576) (h1 : ∀ r ∈ t, r.length < 4294967296) :
    ∃ R : List (List Int), EV (fun k => spec_CycleTypes.f k t) R ∧ EV (fun k => impl_CycleTypes.f k t) R ∧ R.length ≤ 1048576 ∧ total R ≤ 1048576 := by
  have A := spec_IsPassport_is t (by omega) h1
  have B := impl_IsPassport_is t (by omega) h1
  by_cases h : passB t = true
  · obtain ⟨R, s, i, hl, h5⟩ := types_both t h (by omega) h1 t.length 0 [] (by omega) rfl (fun r hr => by cases hr)
    have := total_le5 h5
    have hq := h
    simp only [passB, Bool.and_eq_true, decide_eq_true_iff] at hq
    exact ⟨R, s, EV.bind B (EV.pos h i), by omega, by omega⟩
  · refine ⟨[], ?_, EV.bind B (EV.neg h (EV.now _)), by simp, by simp [total]⟩
    show EV (fun k => spec_CycleTypes.l0 k t [] 0) []
    refine EV.step (fun k => by rw [spec_CycleTypes.l0]) ?_
    have fin : EV (fun k => spec_CycleTypes.j1 k t [] 0 false) [] := by
      refine EV.step (fun k => by rw [spec_CycleTypes.j1]) ?_
      exact EV.neg (by simp) (EV.now _)
    refine EV.cases (fun _ => EV.bind A ?_) (fun _ => fin)
    rw [show passB t = false by simpa using h]
    exact fin
def bcM (t : List (List Int)) : Int × Int × Int × Bool := if passB t = true ∧ (partsM t).length = 1 then ((((lessN t + 2 - 2 * d0 t) / 2 : Nat) : Int), 0, 0, true) else (0, 0, 0, false)
def bsM (t : List (List Int)) : Int := if passB t = true then (lessN t : Int) else -1
theorem bc_yes {t : List (List Int)} (h : passB t = true) (h2 : (partsM t).length = 1) : ∃ q : Nat, lessN t + 2 = 2 * q + 2 * d0 t ∧ bcM t = ((q : Int), 0, 0, true) ∧ lessN t ≤ 25 ∧ q ≤ 20 ∧ 1 ≤ d0 t ∧ d0 t ≤ 5 := by
  have p := pass_of h
  have R := ree h
  rw [h2] at R
  have ll := less_le t (fun p hp' => (p_len (pass_of h).2.2.2.1 p hp'))
  have l25 : lessN t ≤ 25 := Nat.le_trans ll (Nat.mul_le_mul p.2.2.1.2 p.1.2)
  refine ⟨(lessN t + 2 - 2 * d0 t) / 2, by omega, ?_, l25, by omega, p.2.2.1.1, p.2.2.1.2⟩
  unfold bcM; rw [if_pos ⟨h, h2⟩]
theorem bs_is (t : List (List Int)) (hn : t.length ≤ 1048576) (hr : ∀ r ∈ t, r.length ≤ 1048576) : EV (fun k => spec_BranchSum.f k t) (bsM t) ∧ EV (fun k => impl_BranchSum.f k t) (bsM t) := by
  have h1 : ∀ r ∈ t, r.length < 4294967296 := fun r h => by have := hr r h; omega
  have A := spec_IsPassport_is t (by omega) h1
  have B := impl_IsPassport_is t (by omega) h1
  unfold bsM
  by_cases h : passB t = true
  · have p := pass_of h
    have V := branch_val t p.2.1 p.1.2 t.length 0 0 (by omega) (by omega)
    simp only [List.drop_zero, Int.zero_add] at V
    rw [if_pos h]
    exact ⟨EV.bind A (EV.pos h V.1), EV.bind B (EV.pos h V.2)⟩
  · rw [if_neg h]
    exact ⟨EV.bind A (EV.neg h (EV.now _)), EV.bind B (EV.neg h (EV.now _))⟩
theorem bc_is (t : List (List Int)) (hn : t.length ≤ 1048576) (hr : ∀ r ∈ t, r.length ≤ 1048576) : EV (fun k => spec_BranchCover.f k t) (bcM t) ∧ EV (fun k => impl_BranchCover.f k t) (bcM t) := by
  have h1 : ∀ r ∈ t, r.length < 4294967296 := fun r h => by have := hr r h; omega
  have A := spec_IsPassport_is t (by omega) h1
  have B := impl_IsPassport_is t (by omega) h1
  have no : EV (fun k => impl_BranchCover.j0 k t true) (0, 0, 0, false) := by
    refine EV.step (fun k => by rw [impl_BranchCover.j0]) ?_
    exact EV.pos rfl (EV.now _)
  by_cases h : passB t = true
  · have p := pass_of h
    have P1 := spec_l9Parts_is p.2.1 (by omega)
    have P2 := impl_parts_is p.2.1 (by omega)
    by_cases h2 : (partsM t).length = 1
    · obtain ⟨q, hq, e, l25, q20, n1, n5⟩ := bc_yes h h2
      have S := bs_is t hn hr
      have eS : bsM t = (lessN t : Int) := by unfold bsM; rw [if_pos h]
      rw [eS] at S
      have hrow : ((rd_L3 t 0).length : Int) = (d0 t : Int) := by rw [rdL_zero]; rfl
      rw [e]
      refine ⟨EV.bind A (EV.pos h (EV.bind P1 (EV.pos (by omega) (EV.pos (by omega) (EV.bind S.1 ((EV.now _).eq ?_)))))), EV.bind B (EV.pos h (EV.bind P2 ?_))⟩
      · rw [hrow, w64 (x := 2 * (d0 t : Int)) (by omega) (by omega), w64 (x := 2 - 2 * (d0 t : Int)) (by omega) (by omega), w64 (x := 2 - 2 * (d0 t : Int) + (lessN t : Int)) (by omega) (by omega)]
        rw [show Int.tdiv (2 - 2 * (d0 t : Int) + (lessN t : Int)) 2 = (q : Int) by
          rw [Int.tdiv_eq_ediv_of_nonneg (by omega)]; omega]
        rw [w64 (by omega) (by omega)]
      · rw [show (((partsM t).length : Int) != 1) = false by simp [h2]]
        refine EV.step (fun k => by rw [impl_BranchCover.j0]) ?_
        refine EV.neg (by simp) (EV.pos (by omega) (EV.bind S.2 (EV.by (a := ((q : Int), 0, 0, true)) ?_ (EV.now _))))
        rw [hrow, w64 (x := 2 * (d0 t : Int)) (by omega) (by omega), w64 (x := 2 * (d0 t : Int) - (lessN t : Int)) (by omega) (by omega)]
        rw [show 2 * (d0 t : Int) - (lessN t : Int) = 2 - 2 * (q : Int) by omega]
        exact impl_surf_is q (by omega)
    · have e : bcM t = (0, 0, 0, false) := by unfold bcM; rw [if_neg (fun c => h2 c.2)]
      rw [e]
      refine ⟨EV.bind A (EV.pos h (EV.bind P1 (EV.neg (by omega) (EV.now _)))), EV.bind B (EV.pos h (EV.bind P2 ?_))⟩
      rw [show (((partsM t).length : Int) != 1) = true by simp; omega]
      exact no
  · have e : bcM t = (0, 0, 0, false) := by unfold bcM; rw [if_neg (fun c => h c.1)]
    rw [e]
    exact ⟨EV.bind A (EV.neg h (EV.now _)), EV.bind B (EV.neg h no)⟩
/-! ### maps of at most four darts -/
def mapOk (m : List Int) : Bool := match spec_MapParts.f 60 m with
  | none => false
  | some P => if P = 1 then (match spec_GenusOf.f 60 m with
    | none => false
    | some g => decide (bcM (mapPassM m).1 = (g, 0, 0, true))) else true
def evenOk (m : List Int) : Bool := !(decide (m.length % 2 = 0)) || mapOk m
set_option synthInstance.maxHeartbeats 2000000 in
set_option synthInstance.maxSize 4000 in
theorem map_ok {m : List Int} (h : permB m = true) (h1 : 1 ≤ m.length) (h5 : m.length ≤ 5) (h2 : m.length % 2 = 0) : mapOk m = true := by
  have := perm_all evenOk (by decide +kernel) (by decide +kernel) (by decide +kernel) (by decide +kernel) (by decide +kernel) h h1 h5
  simpa [evenOk, h2] using this
theorem map_all {m : List Int} (h : (mapPassM m).2 = true) : ∃ P, EV (fun k => spec_MapParts.f k m) P ∧ (P = 1 → ∃ g, EV (fun k => spec_GenusOf.f k m) g ∧ bcM (mapPassM m).1 = (g, 0, 0, true)) := by
  have c : isMapB m = true ∧ m.length ≤ 5 := by
    unfold mapPassM at h
    split at h
    · assumption
    · cases h
  have d := c.1
  simp only [isMapB, Bool.and_eq_true, decide_eq_true_iff] at d
  have ok := map_ok d.2.2 (by omega) c.2 d.2.1
  unfold mapOk at ok
  split at ok
  · cases ok
  · rename_i P eP
    refine ⟨P, EV.mono (spec_MapParts.mono m) eP, fun h1 => ?_⟩
    rw [if_pos h1] at ok
    split at ok
    · cases ok
    · rename_i g eg
      exact ⟨g, EV.mono (spec_GenusOf.mono m) eg, by simpa using ok⟩
/-! ### the law -/
theorem euler_is (q : Nat) (h : q ≤ 20) : spec_EulerNumber.f (q : Int) 0 0 = some (2 - 2 * (q : Int)) := by
  have e : spec_IsSurface.f (q : Int) 0 0 = some true := by
    unfold spec_IsSurface.f
    rw [spec_l1In_is, spec_l1In_is]
    have b1 : decide (0 ≤ (q : Int) ∧ (q : Int) ≤ 20) = true := by simp; omega
    rw [b1]; simp
  unfold spec_EulerNumber.f
  rw [e]
  simp only [Option.bind_some, if_true]
  rw [w64 (x := 2 * (q : Int)) (by omega) (by omega), w64 (x := 2 - 2 * (q : Int)) (by omega) (by omega), w64 (x := 2 - 2 * (q : Int) - 0) (by omega) (by omega), w64 (by omega) (by omega)]
  simp
theorem fb_j3 (m : List Int) (y : List (List Int)) : EV (fun k => laws_FnBranches.j3 k m y false) true := by
  refine EV.step (fun k => by rw [laws_FnBranches.j3]) ?_
  exact EV.neg (by simp) (EV.now _)
theorem fb_j2 (m : List Int) : EV (fun k => laws_FnBranches.j2 k m (mapPassM m).1 (mapPassM m).2) true := by
  refine EV.step (fun k => by rw [laws_FnBranches.j2]) ?_
  have z := mapPass_sz m
  refine EV.cases (fun h => ?_) (fun _ => fb_j3 m _)
  obtain ⟨P, E, H⟩ := map_all h
  refine EV.bind E ?_
  by_cases h1 : P = 1
  · obtain ⟨g, Eg, eb⟩ := H h1
    have B := (bc_is (mapPassM m).1 (by omega) (fun r hr => by have := z.2 r hr; omega)).2
    rw [eb] at B
    rw [show (P == 1) = true by simpa using h1]
    refine EV.step (fun k => by rw [laws_FnBranches.j3]) ?_
    exact EV.pos rfl (EV.bind B (EV.pos rfl (EV.bind Eg ((EV.now _).eq (by simp)))))
  · rw [show (P == 1) = false by simpa using h1]
    exact fb_j3 m _
theorem fb_j1 (p : List (List Int)) (i : Int) (hp : p.length ≤ 5) (hr : ∀ r ∈ p, r.length ≤ 5) (m : List Int) : EV (fun k => laws_FnBranches.j1 k p (brM p i).1 (brM p i).2 m (mapPassM m).1 (mapPassM m).2 false) true := by
  refine EV.step (fun k => by rw [laws_FnBranches.j1]) ?_
  refine EV.neg (by simp) (EV.cases (fun h => ?_) (fun _ => fb_j2 m))
  obtain ⟨n, A, B, P, Q, R, br⟩ := brM_braid h
  have z := brM_sz p i
  have zr : ∀ r ∈ (brM p i).1, r.length ≤ 1048576 := fun r hr => by have := z.2 r hr; omega
  have pr : ∀ r ∈ p, r.length ≤ 1048576 := fun r h => by have := hr r h; omega
  have ps := br.pass
  have pp := pass_of br.pl
  have e1 : bcM (brM p i).1 = bcM p := by
    unfold bcM
    rw [br.parts, br.less, ps.2, ← br.dl, ps.1, br.pl]
  have e2 : bsM (brM p i).1 = bsM p := by
    unfold bsM
    rw [br.less, ps.1, br.pl]
  have B1 := (bc_is p (by omega) pr).2
  have B2 := (bc_is (brM p i).1 (by omega) zr).2
  have S1 := (bs_is p (by omega) pr).2
  have S2 := (bs_is (brM p i).1 (by omega) zr).2
  rw [e1] at B2
  rw [e2] at S2
  have I := impl_IsPassport_is (brM p i).1 (by omega) (fun r hr => by have := z.2 r hr; omega)
  rw [ps.1] at I
  exact EV.bind B1 (EV.bind B2 (EV.bind I (EV.pos rfl (EV.neg (by simp) (EV.neg (by simp) (EV.bind S2 (EV.bind S1 (EV.pos rfl (fb_j2 m)))))))))
theorem fb_mid (l p : List (List Int)) (i : Int) (hl : l.length ≤ 5) (hlr : ∀ r ∈ l, r.length ≤ 5) (hp : p.length ≤ 5) (hr : ∀ r ∈ p, r.length ≤ 5) (m : List Int) :
    EV (fun k => if (bcM l).2.2.2 = true then (if (bcM l).1 < 0 then (laws_FnBranches.j1 k p (brM p i).1 (brM p i).2 m (mapPassM m).1 (mapPassM m).2 true) else ((spec_EulerNumber.f (bcM l).1 (bcM l).2.1 (bcM l).2.2.1).bind fun t857 => (if 0 < (l.length : Int) then ((impl_BranchSum.f k l).bind fun t859 => (laws_FnBranches.j1 k p (brM p i).1 (brM p i).2 m (mapPassM m).1 (mapPassM m).2 (t857 != (wrap64 ((wrap64 (2 * ((rd_L3 l 0).length : Int))) - t859))))) else (none)))) else (laws_FnBranches.j1 k p (brM p i).1 (brM p i).2 m (mapPassM m).1 (mapPassM m).2 false)) true := by
  refine EV.cases (fun h => ?_) (fun _ => fb_j1 p i hp hr m)
  have c : passB l = true ∧ (partsM l).length = 1 := by
    unfold bcM at h
    split at h
    · assumption
    · cases h
  obtain ⟨q, hq, e, l25, q20, n1, n5⟩ := bc_yes c.1 c.2
  have S := (bs_is l (by omega) (fun r hr => by have := hlr r hr; omega)).2
  have eS : bsM l = (lessN l : Int) := by unfold bsM; rw [if_pos c.1]
  rw [eS] at S
  have pl := (pass_of c.1).1
  have hrow : ((rd_L3 l 0).length : Int) = (d0 l : Int) := by rw [rdL_zero]; rfl
  rw [e]
  refine EV.neg (by show ¬ ((q : Int) < 0); omega) (EV.by (euler_is q q20) (EV.pos (by omega) (EV.bind S ?_)))
  rw [hrow, w64 (x := 2 * (d0 l : Int)) (by omega) (by omega), w64 (x := 2 * (d0 l : Int) - (lessN l : Int)) (by omega) (by omega)]
  rw [show (2 - 2 * (q : Int) != 2 * (d0 l : Int) - (lessN l : Int)) = false by simp; omega]
  exact fb_j1 p i hp hr m
theorem fb_j0 (l c p : List (List Int)) (i : Int) (hl : l.length ≤ 5) (hlr : ∀ r ∈ l, r.length ≤ 5) (hp : p.length ≤ 5) (hr : ∀ r ∈ p, r.length ≤ 5) (m : List Int) :
    EV (fun k => laws_FnBranches.j0 k l (bcM l).2.2.2 (closeM c).1 (closeM c).2 p (brM p i).1 (brM p i).2 m (mapPassM m).1 (mapPassM m).2 false (bcM l).1 (bcM l).2.1 (bcM l).2.2.1) true := by
  refine EV.step (fun k => by rw [laws_FnBranches.j0]) ?_
  have z := closeM_sz c
  refine EV.neg (by simp) (EV.cases (fun h => ?_) (fun _ => fb_mid l p i hl hlr hp hr m))
  have I := impl_IsPassport_is (closeM c).1 (by omega) (fun r hr => by have := z.2 r hr; omega)
  rw [close_pass h] at I
  exact EV.bind I (EV.pos rfl (fb_mid l p i hl hlr hp hr m))
theorem FnBranches_ev (b : List Int) (hb : b.length ≤ 140737488351232) : EV (fun k => laws_FnBranches.f k b) true := by
  by_cases h : (b.length : Int) > 1048576
  · refine EV.by (show laws_big.f b = some true by unfold laws_big.f; rw [decide_eq_true h]) ?_
    exact EV.pos rfl (EV.now _)
  · have hb' : b.length ≤ 1048576 := by omega
    obtain ⟨l, El, dl⟩ := spec_DrawBranchCover_is b hb'
    obtain ⟨c, Ec, dc⟩ := spec_DrawCloseUp_is b hb'
    obtain ⟨p, i, Ep, dp, i0, i5⟩ := spec_DrawBraidPassport_is b hb'
    obtain ⟨m, Em, dm⟩ := spec_DrawMapPassport_is b hb'
    have l5 := dl.2.1
    have c5 := dc.2.1
    have p5 := dp.2.1
    have big : ∀ {t : List (List Int)}, drawnP t → ∀ r ∈ t, r.length ≤ 1048576 := fun d r hr => by have := d.2.2 r hr; omega
    have big' : ∀ {t : List (List Int)}, drawnP t → ∀ r ∈ t, r.length < 4294967296 := fun d r hr => by have := d.2.2 r hr; omega
    have wi : (Lit.int .i64 i).wf = true := by simp [Lit.wf, IntKind.min, IntKind.max, IntKind.signed, IntKind.bits]; omega
    have zc := closeM_sz c
    have zb := brM_sz p i
    have zm := mapPass_sz m
    have BC := bc_is l (by omega) (big dl)
    have BS := bs_is l (by omega) (big dl)
    obtain ⟨T, t1, t2, tl, tt⟩ := types_is l (by omega) (big' dl)
    have tr : ∀ r ∈ T, r.length ≤ 1048576 := fun r hr => Nat.le_trans (total_mem hr) tt
    refine EV.by (laws_big_no b h) (EV.neg (by simp) ?_)
    refine EV.bind El (EV.bind BC.2 (EV.bind BC.1 ?_))
    refine EV.bind Ec (EV.bind (impl_CloseUp_is c (by omega) (big dc)) (EV.bind (spec_CloseUp_is c (by omega) (big dc)) ?_))
    refine EV.bind Ep (EV.bind (impl_BraidPassport_is p i wi (by omega) (big dp)) (EV.bind (spec_BraidPassport_is p i wi (by omega) (big dp)) ?_))
    refine EV.bind Em (EV.bind (impl_MapPassport_is m (by omega)) (EV.bind (spec_MapPassport_is m (by omega)) ?_))
    refine EV.neg (by simp) (EV.neg (by simp) (EV.neg (by simp) (EV.bind (laws_sameLists_self _ (by omega) (fun r hr => by have := zc.2 r hr; omega)) (EV.pos rfl ?_))))
    refine EV.neg (by simp) (EV.bind (laws_sameLists_self _ (by omega) (fun r hr => by have := zb.2 r hr; omega)) (EV.pos rfl ?_))
    refine EV.neg (by simp) (EV.bind (laws_sameLists_self _ (by omega) (fun r hr => by have := zm.2 r hr; omega)) (EV.pos rfl ?_))
    refine EV.bind (impl_IsPassport_is l (by omega) (big' dl)) (EV.bind (spec_IsPassport_is l (by omega) (big' dl)) (EV.neg (by simp) ?_))
    refine EV.bind BS.2 (EV.bind BS.1 (EV.pos rfl ?_))
    refine EV.bind t2 (EV.bind t1 (EV.bind (laws_sameLists_self _ (by omega) (fun r hr => by have := tr r hr; omega)) ?_))
    exact fb_j0 l c p i (by omega) dl.2.2 (by omega) dp.2.2 m
theorem FnBranches : laws_FnBranches.Pure := by
  intro b h1 h2 h3
  exact EV.rounds (FnBranches_ev b (by omega))

end Go.Proofs.Ytkbkkpgllphdhaa.Pure
