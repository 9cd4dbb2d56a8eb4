/- Pure side of FnCovers: coverings have Euler numbers that are multiplied, and their numbers are those of the formula: the printed law answers true at every code; no condition beyond the printed statement's bounds. -/
import Derived.Test.YtepogblkmiidnaaVFnCovers
import Derived.Test.YtepogblkmiidnaaWSized
set_option linter.unusedVariables false
set_option linter.unusedSimpArgs false
set_option linter.unnecessarySimpa false
set_option maxRecDepth 10000
/-- the printed row calls the print's word by this name -/
abbrev Go.Proofs.Ytepogblkmiidnaa.PrintWords.sized_ints := @Go.Proofs.YtepogblkmiidnaaW.PrintWords.sized_ints
namespace Go.Proofs.Ytepogblkmiidnaa.Pure
open Go.RowKit Go.Proofs.Ytepogblkmiidnaa.PFnCovers Go.Proofs.YtepogblkmiidnaaW.PrintWords Go.Proofs.YtepogblkmiidnaaW.PrintLast Go.Proofs.YtepogblkmiidnaaW.PrintMore

/-! ### Base: words of our own, of no program -/
section
theorem w64 {x : Int} (h1 : -9223372036854775808 ≤ x) (h2 : x ≤ 9223372036854775807) : wrap64 x = x := by
  unfold wrap64; omega
theorem wf64 {x : Int} (h : (Lit.int .i64 x).wf = true) : -9223372036854775808 ≤ x ∧ x ≤ 9223372036854775807 := by
  simp only [Lit.wf, IntKind.min, IntKind.max, IntKind.signed, IntKind.bits, Bool.and_eq_true, decide_eq_true_eq, if_true] at h
  omega
/-- from some number of rounds on it answers r -/
structure EV {α : Type} (g : Nat → Option α) (r : α) : Prop where mk :: (out : ∃ K, ∀ k, K ≤ k → g k = some r)
theorem EV.now {α : Type} (r : α) : EV (fun _ => some r) r := ⟨0, fun _ _ => rfl⟩
theorem EV.rounds {α : Type} {g : Nat → Option α} {r : α} (h : EV g r) : ∃ k, g k = some r := by
  obtain ⟨K, h⟩ := h
  exact ⟨K, h K (Nat.le_refl _)⟩
theorem EV.bind {α β : Type} {g : Nat → Option α} {f : Nat → α → Option β} {a : α} {r : β} (h : EV g a) (k : EV (fun n => f n a) r) : EV (fun n => (g n).bind (f n)) r := by
  obtain ⟨K, h⟩ := h
  obtain ⟨K', k⟩ := k
  refine ⟨max K K', fun n hn => ?_⟩
  have h1 := h n (by omega)
  have h2 := k n (by omega)
  simp only [h1, Option.bind_some]
  exact h2
theorem EV.step {α : Type} {g f : Nat → Option α} {r : α} (h : ∀ k, g (k + 1) = f k) (k : EV f r) : EV g r := by
  obtain ⟨K, k⟩ := k
  refine ⟨K + 1, fun n hn => ?_⟩
  obtain ⟨m, rfl⟩ : ∃ m, n = m + 1 := ⟨n - 1, by omega⟩
  rw [h]
  exact k m (by omega)
theorem EV.congr {α : Type} {g f : Nat → Option α} {r : α} (h : ∀ k, g k = f k) (k : EV f r) : EV g r := by
  obtain ⟨K, k⟩ := k
  exact ⟨K, fun n hn => (h n).trans (k n hn)⟩
theorem EV.pos {α : Type} {c : Prop} [Decidable c] {a b : Nat → Option α} {r : α} (h : c) (k : EV a r) : EV (fun n => if c then a n else b n) r :=
  EV.congr (fun n => if_pos h) k
theorem EV.neg {α : Type} {c : Prop} [Decidable c] {a b : Nat → Option α} {r : α} (h : ¬ c) (k : EV b r) : EV (fun n => if c then a n else b n) r :=
  EV.congr (fun n => if_neg h) k
theorem EV.cases {α : Type} {c : Prop} [Decidable c] {a b : Nat → Option α} {r : α} (h : c → EV a r) (h' : ¬ c → EV b r) : EV (fun n => if c then a n else b n) r := by
  by_cases hc : c
  · exact EV.pos hc (h hc)
  · exact EV.neg hc (h' hc)
/-- a callee without rounds -/
theorem EV.by {α β : Type} {g : Option α} {f : Nat → α → Option β} {a : α} {r : β} (h : g = some a) (k : EV (fun n => f n a) r) : EV (fun n => g.bind (f n)) r := by
  subst h; exact k
theorem EV.is {α : Type} {g : Option α} {r : α} (h : g = some r) : EV (fun _ => g) r := ⟨0, fun _ _ => h⟩
theorem EV.eq {α : Type} {g : Nat → Option α} {r r' : α} (h : EV g r) (e : r = r') : EV g r' := e ▸ h
theorem rd_app (pre : List Int) (x : Int) (suf : List Int) : rd (pre ++ x :: suf) (pre.length : Int) = x := by
  simp [rd]
theorem rd_nat (xs : List Int) (i : Nat) (h : i < xs.length) : rd xs (i : Int) = xs[i] := by
  simp [rd, h]
end
/-- one index on -/
theorem up {α : Type} {x : α} {pre : List α} (h : pre.length < 4611686018427387904) : wrap64 ((pre.length : Int) + 1) = ((pre ++ [x]).length : Int) := by
  rw [w64 (by omega) (by omega)]; simp
theorem lt_app {α : Type} (pre : List α) (x : α) (suf : List α) : (pre.length : Int) < ((pre ++ x :: suf).length : Int) := by simp; omega
theorem EV.uniq {α : Type} {g : Nat → Option α} {r r' : α} (h : EV g r) (h' : EV g r') : r = r' := by
  obtain ⟨K, h⟩ := h
  obtain ⟨K', h'⟩ := h'
  have a := h (max K K') (by omega)
  have b := h' (max K K') (by omega)
  rw [a] at b; exact Option.some.inj b
/-- from some number of rounds on -/
def Evt (P : Nat → Prop) : Prop := ∃ K, ∀ k, K ≤ k → P k
theorem Evt.and {P Q : Nat → Prop} (h : Evt P) (h' : Evt Q) : Evt (fun k => P k ∧ Q k) := by
  obtain ⟨K, h⟩ := h
  obtain ⟨K', h'⟩ := h'
  exact ⟨max K K', fun k hk => ⟨h k (by omega), h' k (by omega)⟩⟩
theorem Evt.imp {P Q : Nat → Prop} (h : Evt P) (f : ∀ k, P k → Q k) : Evt Q := by
  obtain ⟨K, h⟩ := h
  exact ⟨K, fun k hk => f k (h k hk)⟩
theorem Evt.rounds {P : Nat → Prop} (h : Evt P) : ∃ k, P k := by
  obtain ⟨K, h⟩ := h
  exact ⟨K, h K (Nat.le_refl _)⟩
theorem EV.mono {α : Type} {g : Nat → Option α} (hg : ∀ k, LeO (g k) (g (k + 1))) {k : Nat} {r : α} (h : g k = some r) : EV g r := ⟨k, fun _ hk => at_rounds hg hk h⟩

theorem rdL_nat (xs : List (List Int)) (i : Nat) (h : i < xs.length) : rd_L2 xs (i : Int) = xs[i] := by
  simp [rd_L2, h]

/-- a loop that looks at each member and answers early, or goes on -/
theorem EV.scan {α : Type} {g : Nat → Int → Option Bool} (xs : List α) (p : α → Bool) (fin : Bool)
    (hs : ∀ (i : Nat) (h : i < xs.length) (r : Bool), (p xs[i] = true → EV (fun k => g k ((i : Int) + 1)) r) → (p xs[i] = false → r = false) → EV (fun k => g k (i : Int)) r)
    (hf : EV (fun k => g k (xs.length : Int)) fin) : EV (fun k => g k 0) (xs.all p && fin) := by
  suffices h : ∀ (n i : Nat), i + n = xs.length → EV (fun k => g k (i : Int)) ((xs.drop i).all p && fin) by
    have := h xs.length 0 (by omega)
    simpa using this
  intro n
  induction n with
  | zero =>
    intro i hi
    have e : i = xs.length := by omega
    subst e
    simpa using hf
  | succ n ih =>
    intro i hi
    have hlt : i < xs.length := by omega
    have e : xs.drop i = xs[i] :: xs.drop (i + 1) := List.drop_eq_getElem_cons hlt
    rw [e, List.all_cons]
    refine hs i hlt _ (fun hp => ?_) (fun hp => by simp [hp])
    rw [hp, Bool.true_and]
    exact_mod_cast ih (i + 1) (by omega)
/-- a fold over the members -/
theorem EV.fold {α σ ρ : Type} {g : Nat → σ → Int → Option ρ} (xs : List α) (f : σ → α → σ) (fin : σ → ρ) (I : Nat → σ → Prop)
    (hs : ∀ (i : Nat) (h : i < xs.length) (s : σ) (r : ρ), I i s → (I (i + 1) (f s xs[i]) → EV (fun k => g k (f s xs[i]) ((i : Int) + 1)) r) → EV (fun k => g k s (i : Int)) r)
    (hf : ∀ s, I xs.length s → EV (fun k => g k s (xs.length : Int)) (fin s)) : ∀ s, I 0 s → EV (fun k => g k s 0) (fin (xs.foldl f s)) := by
  suffices h : ∀ (n i : Nat), i + n = xs.length → ∀ s, I i s → EV (fun k => g k s (i : Int)) (fin ((xs.drop i).foldl f s)) by
    intro s hI
    have := h xs.length 0 (by omega) s hI
    simpa using this
  intro n
  induction n with
  | zero =>
    intro i hi s hI
    have e : i = xs.length := by omega
    subst e
    simpa using hf s hI
  | succ n ih =>
    intro i hi s hI
    have hlt : i < xs.length := by omega
    have e : xs.drop i = xs[i] :: xs.drop (i + 1) := List.drop_eq_getElem_cons hlt
    rw [e, List.foldl_cons]
    refine hs i hlt s _ hI (fun hI' => ?_)
    exact_mod_cast ih (i + 1) (by omega) _ hI'
/-- counting up to n, the state told by the count -/
theorem EV.count {σ ρ : Type} {g : Nat → σ → Int → Option ρ} (n : Nat) (f : Nat → σ) (r : ρ)
    (hs : ∀ i, i < n → EV (fun k => g k (f (i + 1)) ((i : Int) + 1)) r → EV (fun k => g k (f i) (i : Int)) r)
    (hf : EV (fun k => g k (f n) (n : Int)) r) : EV (fun k => g k (f 0) 0) r := by
  suffices h : ∀ (m i : Nat), i + m = n → EV (fun k => g k (f i) (i : Int)) r by exact h n 0 (by omega)
  intro m
  induction m with
  | zero => intro i hi; have : i = n := by omega
            subst this; exact hf
  | succ m ih => intro i hi; exact hs i (by omega) (by exact_mod_cast ih (i + 1) (by omega))
/-- counting up to n with an early answer -/
theorem EV.countB {g : Nat → Int → Option Bool} (n : Nat) (p : Nat → Bool) (fin : Bool)
    (hs : ∀ (i : Nat) (h : i < n) (r : Bool), (p i = true → EV (fun k => g k ((i : Int) + 1)) r) → (p i = false → r = false) → EV (fun k => g k (i : Int)) r)
    (hf : EV (fun k => g k (n : Int)) fin) : EV (fun k => g k 0) ((List.range n).all p && fin) := by
  refine EV.scan (List.range n) p fin (fun i h r H1 H2 => ?_) (by rw [List.length_range]; exact hf)
  rw [List.getElem_range] at H1 H2
  exact hs i (by simpa using h) r H1 H2
/-- counting up to n with an early answer, into what comes behind -/
theorem EV.countC {ρ : Type} {g : Nat → Int → Option ρ} (n : Nat) (p : Nat → Bool) (r early : ρ)
    (hs : ∀ i, i < n → (p i = true → EV (fun k => g k ((i : Int) + 1)) r) → (p i = false → r = early) → EV (fun k => g k (i : Int)) r)
    (hf : (List.range n).all p = true → EV (fun k => g k (n : Int)) r) (he : (List.range n).all p = false → r = early) : EV (fun k => g k 0) r := by
  suffices h : ∀ (m i : Nat), i + m = n → (∀ j, j < i → p j = true) → EV (fun k => g k (i : Int)) r by exact h n 0 (by omega) (fun j hj => by omega)
  intro m
  induction m with
  | zero =>
    intro i hi ha
    have : i = n := by omega
    subst this
    exact hf (by rw [List.all_eq_true]; intro x hx; exact ha x (List.mem_range.1 hx))
  | succ m ih =>
    intro i hi ha
    refine hs i (by omega) (fun hp => ?_) (fun hp => he ?_)
    · have := ih (i + 1) (by omega) (fun j hj => by
        by_cases e : j = i
        · rw [e]; exact hp
        · exact ha j (by omega))
      exact_mod_cast this
    · rw [List.all_eq_false]
      exact ⟨i, List.mem_range.2 (by omega), by simp [hp]⟩
/-- looking at each member with an early answer, into what comes behind -/
theorem EV.scanC {α ρ : Type} {g : Nat → Int → Option ρ} (xs : List α) (p : α → Bool) (r early : ρ)
    (hs : ∀ (i : Nat) (h : i < xs.length), (p xs[i] = true → EV (fun k => g k ((i : Int) + 1)) r) → (p xs[i] = false → r = early) → EV (fun k => g k (i : Int)) r)
    (hf : xs.all p = true → EV (fun k => g k (xs.length : Int)) r) (he : xs.all p = false → r = early) : EV (fun k => g k 0) r := by
  have e : xs.all p = (List.range xs.length).all (fun i => (xs[i]?.map p).getD true) := by
    rw [Bool.eq_iff_iff, List.all_eq_true, List.all_eq_true]
    constructor
    · intro h i hi
      have := List.mem_range.1 hi
      simpa [this] using h _ (List.getElem_mem this)
    · intro h x hx
      obtain ⟨i, hi, rfl⟩ := List.mem_iff_getElem.1 hx
      have := h i (List.mem_range.2 hi)
      simpa [hi] using this
  rw [e] at hf he
  refine EV.countC xs.length _ r early (fun i hi H1 H2 => ?_) hf he
  exact hs i hi (fun h => H1 (by simpa [hi] using h)) (fun h => H2 (by simpa [hi] using h))
theorem wrap_1 : wrap64 1 = 1 := w64 (by omega) (by omega)
/-- a fold over the members, into what comes behind -/
theorem EV.foldC {α σ ρ : Type} {g : Nat → σ → Int → Option ρ} (xs : List α) (f : σ → α → σ) (I : Nat → σ → Prop) (r : ρ)
    (hs : ∀ (i : Nat) (h : i < xs.length) (s : σ), I i s → (I (i + 1) (f s xs[i]) → EV (fun k => g k (f s xs[i]) ((i : Int) + 1)) r) → EV (fun k => g k s (i : Int)) r)
    (s : σ) (hI : I 0 s) (hf : I xs.length (xs.foldl f s) → EV (fun k => g k (xs.foldl f s) (xs.length : Int)) r) : EV (fun k => g k s 0) r := by
  suffices h : ∀ (n i : Nat), i + n = xs.length → ∀ s, I i s → (I xs.length ((xs.drop i).foldl f s) → EV (fun k => g k ((xs.drop i).foldl f s) (xs.length : Int)) r) → EV (fun k => g k s (i : Int)) r by
    have := h xs.length 0 (by omega) s hI (by simpa using hf)
    simpa using this
  intro n
  induction n with
  | zero =>
    intro i hi s hI hf
    have e : i = xs.length := by omega
    subst e
    simpa using hf (by simpa using hI)
  | succ n ih =>
    intro i hi s hI hf
    have hlt : i < xs.length := by omega
    have e : xs.drop i = xs[i] :: xs.drop (i + 1) := List.drop_eq_getElem_cons hlt
    rw [e, List.foldl_cons] at hf
    refine hs i hlt s hI (fun hI' => ?_)
    exact_mod_cast ih (i + 1) (by omega) _ hI' hf

def letterB (x : Int) : Bool := decide (-8 ≤ x ∧ x ≤ 8 ∧ x ≠ 0)
def wordB (xs : List Int) : Bool := xs.all letterB && decide (xs.length ≤ 24)
theorem letterB_of {x : Int} (h : letterB x = true) : -8 ≤ x ∧ x ≤ 8 ∧ x ≠ 0 := by simpa [letterB] using h
theorem wordB_of {xs : List Int} (h : wordB xs = true) : (∀ x ∈ xs, letterB x = true) ∧ xs.length ≤ 24 := by simpa [wordB] using h
def leB (m : Int) (x : Int) : Bool := decide ((x.natAbs : Int) ≤ m)
def hasB (m : Int) (xs : List Int) : Bool := xs.all (leB m) && wordB xs
theorem all_getElem {α : Type} {p : α → Bool} {xs : List α} (h : ∀ x ∈ xs, p x = true) (i : Nat) (hi : i < xs.length) : p xs[i] = true := h _ (List.getElem_mem hi)
/-- a table, changed at one place -/
theorem tab_set {α : Type} (n : Nat) (f : Nat → α) (a : Nat) (y : α) : ((List.range n).map f).set a y = (List.range n).map fun v => if v = a then y else f v := by
  apply List.ext_getElem
  · simp
  · intro i h1 h2
    rw [List.getElem_set]
    simp only [List.getElem_map, List.getElem_range]
    by_cases h : a = i
    · rw [if_pos h, if_pos h.symm]
    · rw [if_neg h, if_neg (fun e => h e.symm)]
def inB (n : Nat) (x : Int) : Bool := decide (0 ≤ x ∧ x < n)
def permB (p : List Int) : Bool := p.all (inB p.length) && decide p.Nodup
def seenM (n : Nat) (pre : List Int) : List Bool := (List.range n).map fun i : Nat => decide ((i : Int) ∈ pre)
theorem rdOf_tab {α : Type} (d : α) (n : Nat) (f : Nat → α) (a : Int) (h0 : 0 ≤ a) (h : a < n) : rdOf d ((List.range n).map f) a = f a.toNat := by
  have : a.toNat < n := by omega
  simp [rdOf, this]
theorem seenM_snoc (n : Nat) (pre : List Int) (x : Int) (h0 : 0 ≤ x) : (seenM n pre).set x.toNat true = seenM n (pre ++ [x]) := by
  unfold seenM
  rw [tab_set]
  apply List.map_congr_left
  intro i hi
  by_cases h : i = x.toNat
  · rw [if_pos h, decide_eq_true]; rw [List.mem_append, List.mem_singleton]; right; omega
  · rw [if_neg h]
    congr 1
    rw [List.mem_append, List.mem_singleton]
    have : ¬ (i : Int) = x := by omega
    simp [this]
theorem seenM_nil (n : Nat) : seenM n [] = List.replicate n false := by
  apply List.ext_getElem
  · simp [seenM]
  · intro i h1 h2
    simp [seenM]
theorem inB_of {n : Nat} {x : Int} (h : inB n x = true) : 0 ≤ x ∧ x < n := by simpa [inB] using h
theorem permB_of {p : List Int} (h : permB p = true) : (∀ x ∈ p, 0 ≤ x ∧ x < p.length) ∧ p.Nodup := by
  simp only [permB, Bool.and_eq_true, List.all_eq_true, decide_eq_true_iff] at h
  exact ⟨fun x hx => inB_of (h.1 x hx), h.2⟩
/-- how many sheets -/
def d0 (l : List (List Int)) : Nat := (l.getD 0 []).length
def sheetB (n : Nat) (r : List Int) : Bool := decide (r.length = n) && permB r
def sheetsB (l : List (List Int)) : Bool := decide (0 < l.length) && (decide (1 ≤ d0 l ∧ d0 l ≤ 5) && l.all (sheetB (d0 l)))
def permsB (l : List (List Int)) : Bool := sheetsB l && decide (l.length ≤ 8)
theorem rdL_zero (l : List (List Int)) : rd_L2 l 0 = l.getD 0 [] := by simp [rd_L2]
theorem sheetsB_of {l : List (List Int)} (h : sheetsB l = true) : 0 < l.length ∧ 1 ≤ d0 l ∧ d0 l ≤ 5 ∧ ∀ r ∈ l, r.length = d0 l ∧ permB r = true := by
  simp only [sheetsB, sheetB, Bool.and_eq_true, List.all_eq_true, decide_eq_true_iff] at h
  exact ⟨h.1, h.2.1.1, h.2.1.2, h.2.2⟩
/-- the inverse: i of its places set -/
def invK (p : List Int) (i : Nat) : List Int := (List.range i).foldl (fun acc j => acc.set (p.getD j 0).toNat (j : Int)) (List.replicate p.length 0)
def invM (p : List Int) : List Int := invK p p.length
theorem invK_succ (p : List Int) (i : Nat) : invK p (i + 1) = (invK p i).set (p.getD i 0).toNat (i : Int) := by
  unfold invK
  rw [List.range_succ, List.foldl_append]; rfl
theorem invK_I (p : List Int) (hp : 1 ≤ p.length) : ∀ i, i ≤ p.length → (invK p i).length = p.length ∧ ∀ x ∈ invK p i, 0 ≤ x ∧ x < p.length
  | 0, _ => by
    refine ⟨by simp [invK], fun x hx => ?_⟩
    have hx' : x ∈ List.replicate p.length (0 : Int) := hx
    have : x = 0 := (List.mem_replicate.1 hx').2
    omega
  | i + 1, h => by
    have ih := invK_I p hp i (by omega)
    rw [invK_succ]
    refine ⟨by simp [ih.1], fun x hx => ?_⟩
    rcases List.mem_or_eq_of_mem_set hx with h' | h'
    · exact ih.2 x h'
    · omega
def thenM (p q : List Int) : List Int := p.map fun y => q.getD y.toNat 0
def idM (n : Nat) : List Int := (List.range n).map fun i : Nat => (i : Int)
def stepP (l : List (List Int)) (a : Int) : List Int := if a < 0 then invM (l.getD (a.natAbs - 1) []) else l.getD (a.natAbs - 1) []
def actS (l : List (List Int)) (w : List Int) (s : Int) : Int := w.foldl (fun s a => (stepP l a).getD s.toNat 0) s
def actK (l : List (List Int)) (w : List Int) (out : List Int) : List Int := w.foldl (fun out a => thenM out (stepP l a)) out
theorem actK_eq (l : List (List Int)) : ∀ (w out : List Int), actK l w out = out.map (actS l w)
  | [], out => by
    have : actS l [] = id := rfl
    rw [this, List.map_id]; rfl
  | a :: w, out => by
    have := actK_eq l w (thenM out (stepP l a))
    unfold actK actS at this ⊢
    rw [List.foldl_cons, this, thenM, List.map_map]; rfl
def actL (l : List (List Int)) (w : List Int) : List Int := (idM (d0 l)).map (actS l w)
def lettersB (l : List (List Int)) (w : List Int) : Prop := ∀ a ∈ w, 1 ≤ a.natAbs ∧ a.natAbs ≤ l.length ∧ a.natAbs ≤ 1000000
theorem stepP_I {l : List (List Int)} (h : sheetsB l = true) {a : Int} (h1 : 1 ≤ a.natAbs) (h2 : a.natAbs ≤ l.length) : (stepP l a).length = d0 l ∧ ∀ x ∈ stepP l a, 0 ≤ x ∧ x < d0 l := by
  have s := sheetsB_of h
  have hi : a.natAbs - 1 < l.length := by omega
  have hr := s.2.2.2 _ (List.getElem_mem hi)
  have e : l.getD (a.natAbs - 1) [] = l[a.natAbs - 1] := by simp [hi]
  unfold stepP
  rw [e]
  split
  · have := invK_I l[a.natAbs - 1] (by omega) _ (Nat.le_refl _)
    unfold invM
    rw [hr.1] at this ⊢
    exact this
  · have := (permB_of hr.2).1
    rw [hr.1] at this
    exact ⟨hr.1, this⟩
theorem getD_in {n : Nat} {q : List Int} (hl : q.length = n) (hq : ∀ x ∈ q, 0 ≤ x ∧ x < n) {s : Int} (h0 : 0 ≤ s) (h1 : s < n) : 0 ≤ q.getD s.toNat 0 ∧ q.getD s.toNat 0 < n := by
  have : s.toNat < q.length := by omega
  rw [List.getD_eq_getElem?_getD, List.getElem?_eq_getElem this]
  exact hq _ (List.getElem_mem this)
theorem rd_getD (q : List Int) (s : Int) : rd q s = q.getD s.toNat 0 := rfl

def wordOk (l : List (List Int)) (w : List Int) : Bool := wordB w && w.all (leB l.length)
def actM (l : List (List Int)) (w : List Int) : List Int := if permsB l = true ∧ wordOk l w = true then actL l w else []
theorem letters_of {l : List (List Int)} {w : List Int} (h : wordOk l w = true) : lettersB l w ∧ w.length ≤ 24 := by
  simp only [wordOk, Bool.and_eq_true, List.all_eq_true, leB, decide_eq_true_iff] at h
  have a := wordB_of h.1
  refine ⟨fun x hx => ?_, a.2⟩
  have := letterB_of (a.1 x hx)
  have := h.2 x hx
  omega
theorem actL_len (l : List (List Int)) (w : List Int) : (actL l w).length = d0 l := by simp [actL, idM]
theorem actM_len (l : List (List Int)) (w : List Int) : (actM l w).length ≤ 5 := by
  unfold actM
  split
  · rename_i h
    have h1 : sheetsB l = true := by have := h.1; simp only [permsB, Bool.and_eq_true] at this; exact this.1
    have := sheetsB_of h1
    rw [actL_len]; omega
  · simp
def wholeB (t : List Int) : Bool := (List.range t.length).all (fun i => decide (t.getD i 0 = (i : Int))) && decide (0 < t.length)
theorem wholeB_eq {t : List Int} {n : Nat} (h : t.length = n) (h1 : 1 ≤ n) : wholeB t = decide (t = idM n) := by
  subst h
  rw [Bool.eq_iff_iff]
  simp only [wholeB, Bool.and_eq_true, List.all_eq_true, decide_eq_true_iff, List.mem_range]
  constructor
  · intro h
    apply List.ext_getElem
    · simp [idM]
    · intro i h1 h2
      have := h.1 i h1
      rw [List.getD_eq_getElem?_getD, List.getElem?_eq_getElem h1, Option.getD_some] at this
      simp [idM, this]
  · intro h
    refine ⟨fun i hi => ?_, by omega⟩
    rw [h]
    simp [idM, hi]
theorem thenM_I {n : Nat} {p q : List Int} (hp : p.length = n ∧ ∀ x ∈ p, 0 ≤ x ∧ x < n) (hq : q.length = n ∧ ∀ x ∈ q, 0 ≤ x ∧ x < n) : (thenM p q).length = n ∧ ∀ x ∈ thenM p q, 0 ≤ x ∧ x < n := by
  refine ⟨by simp [thenM, hp.1], fun x hx => ?_⟩
  simp only [thenM, List.mem_map] at hx
  obtain ⟨y, hy, rfl⟩ := hx
  exact getD_in hq.1 hq.2 (hp.2 y hy).1 (hp.2 y hy).2
theorem idM_I (n : Nat) : (idM n).length = n ∧ ∀ x ∈ idM n, 0 ≤ x ∧ x < n := by
  refine ⟨by simp [idM], fun x hx => ?_⟩
  simp only [idM, List.mem_map, List.mem_range] at hx
  obtain ⟨i, hi, rfl⟩ := hx
  omega
theorem permsB_le {l : List (List Int)} (h : l.length ≤ 8) : permsB l = sheetsB l := by
  unfold permsB
  rw [decide_eq_true h, Bool.and_true]

theorem natOf {n : Nat} {x : Int} (h : 0 ≤ x ∧ x < n) : ∃ m : Nat, x = m ∧ m < n := ⟨x.toNat, by omega, by omega⟩
/-- what holds of all permutations of at most five, each told by its numbers -/
theorem perm_all (P : List Int → Bool)
    (h1 : ∀ a : Nat, a < 1 → permB [(a : Int)] = true → P [(a : Int)] = true)
    (h2 : ∀ a : Nat, a < 2 → ∀ b : Nat, b < 2 → permB [(a : Int), (b : Int)] = true → P [(a : Int), (b : Int)] = true)
    (h3 : ∀ a : Nat, a < 3 → ∀ b : Nat, b < 3 → ∀ c : Nat, c < 3 → permB [(a : Int), (b : Int), (c : Int)] = true → P [(a : Int), (b : Int), (c : Int)] = true)
    (h4 : ∀ a : Nat, a < 4 → ∀ b : Nat, b < 4 → ∀ c : Nat, c < 4 → ∀ d : Nat, d < 4 → permB [(a : Int), (b : Int), (c : Int), (d : Int)] = true → P [(a : Int), (b : Int), (c : Int), (d : Int)] = true)
    (h5 : ∀ a : Nat, a < 5 → ∀ b : Nat, b < 5 → ∀ c : Nat, c < 5 → ∀ d : Nat, d < 5 → ∀ e : Nat, e < 5 → permB [(a : Int), (b : Int), (c : Int), (d : Int), (e : Int)] = true → P [(a : Int), (b : Int), (c : Int), (d : Int), (e : Int)] = true)
    {p : List Int} (h : permB p = true) (hl : 1 ≤ p.length) (hm : p.length ≤ 5) : P p = true := by
  have R := (permB_of h).1
  match p, hl, hm with
  | [a], _, _ =>
    obtain ⟨a, rfl, ha⟩ := natOf (R a (by simp))
    exact h1 a ha h
  | [a, b], _, _ =>
    obtain ⟨a, rfl, ha⟩ := natOf (R a (by simp))
    obtain ⟨b, rfl, hb⟩ := natOf (R b (by simp))
    exact h2 a ha b hb h
  | [a, b, c], _, _ =>
    obtain ⟨a, rfl, ha⟩ := natOf (R a (by simp))
    obtain ⟨b, rfl, hb⟩ := natOf (R b (by simp))
    obtain ⟨c, rfl, hc⟩ := natOf (R c (by simp))
    exact h3 a ha b hb c hc h
  | [a, b, c, d], _, _ =>
    obtain ⟨a, rfl, ha⟩ := natOf (R a (by simp))
    obtain ⟨b, rfl, hb⟩ := natOf (R b (by simp))
    obtain ⟨c, rfl, hc⟩ := natOf (R c (by simp))
    obtain ⟨d, rfl, hd⟩ := natOf (R d (by simp))
    exact h4 a ha b hb c hc d hd h
  | [a, b, c, d, e], _, _ =>
    obtain ⟨a, rfl, ha⟩ := natOf (R a (by simp))
    obtain ⟨b, rfl, hb⟩ := natOf (R b (by simp))
    obtain ⟨c, rfl, hc⟩ := natOf (R c (by simp))
    obtain ⟨d, rfl, hd⟩ := natOf (R d (by simp))
    obtain ⟨e, rfl, he⟩ := natOf (R e (by simp))
    exact h5 a ha b hb c hc d hd e he h
def permN (n : Nat) (p : List Int) : Prop := p.length = n ∧ permB p = true
theorem permN_mk {n : Nat} {p : List Int} (h : p.length = n) (h1 : ∀ x ∈ p, 0 ≤ x ∧ x < n) (h2 : p.Nodup) : permN n p := by
  refine ⟨h, ?_⟩
  simp only [permB, Bool.and_eq_true, List.all_eq_true, decide_eq_true_iff]
  exact ⟨fun x hx => by simp only [inB, decide_eq_true_iff, h]; exact h1 x hx, h2⟩
theorem permN_of {n : Nat} {p : List Int} (h : permN n p) : p.length = n ∧ (∀ x ∈ p, 0 ≤ x ∧ x < n) ∧ p.Nodup := by
  have := permB_of h.2
  rw [h.1] at this
  exact ⟨h.1, this⟩
theorem perm_then {n : Nat} {p q : List Int} (hp : permN n p) (hq : permN n q) : permN n (thenM p q) := by
  have P := permN_of hp
  have Q := permN_of hq
  have G : ∀ x (hx : x ∈ p), q.getD x.toNat 0 = q[x.toNat]'(by have := P.2.1 x hx; omega) := fun x hx => by
    have := P.2.1 x hx
    rw [List.getD_eq_getElem?_getD, List.getElem?_eq_getElem (by omega)]; rfl
  refine permN_mk (by simp [thenM, P.1]) (fun y hy => ?_) ?_
  · simp only [thenM, List.mem_map] at hy
    obtain ⟨x, hx, rfl⟩ := hy
    rw [G x hx]; exact Q.2.1 _ (List.getElem_mem _)
  · unfold thenM List.Nodup
    rw [List.pairwise_map]
    refine List.Pairwise.imp_of_mem (fun {a b} ha hb hne he => ?_) P.2.2
    rw [G a ha, G b hb] at he
    have pa := P.2.1 a ha
    have pb := P.2.1 b hb
    rcases Nat.lt_trichotomy a.toNat b.toNat with h | h | h
    · exact List.pairwise_iff_getElem.1 Q.2.2 _ _ (by omega) (by omega) h he
    · omega
    · exact List.pairwise_iff_getElem.1 Q.2.2 _ _ (by omega) (by omega) h he.symm
theorem perm_id (n : Nat) : permN n (idM n) := by
  refine permN_mk (by simp [idM]) (fun x hx => ?_) ?_
  · simp only [idM, List.mem_map, List.mem_range] at hx
    obtain ⟨i, hi, rfl⟩ := hx; omega
  · unfold idM List.Nodup
    rw [List.pairwise_map]
    exact List.Pairwise.imp (fun {a b} h he => h (by omega)) List.nodup_range
set_option synthInstance.maxHeartbeats 2000000 in
set_option synthInstance.maxSize 4000 in
theorem perm_inv {n : Nat} {p : List Int} (h : permN n p) (h1 : 1 ≤ n) (h5 : n ≤ 5) : permN n (invM p) := by
  have := perm_all (fun p => permB (invM p) && decide ((invM p).length = p.length)) (by decide +kernel) (by decide +kernel) (by decide +kernel) (by decide +kernel) (by decide +kernel) h.2 (by have := h.1; omega) (by have := h.1; omega)
  simp only [Bool.and_eq_true, decide_eq_true_iff] at this
  exact ⟨by rw [this.2, h.1], this.1⟩
theorem perm_step {l : List (List Int)} (hs : sheetsB l = true) {a : Int} (h1 : 1 ≤ a.natAbs) (h2 : a.natAbs ≤ l.length) : permN (d0 l) (stepP l a) := by
  have s := sheetsB_of hs
  have hi : a.natAbs - 1 < l.length := by omega
  have hr := s.2.2.2 _ (List.getElem_mem hi)
  have e : l.getD (a.natAbs - 1) [] = l[a.natAbs - 1] := by rw [List.getD_eq_getElem?_getD, List.getElem?_eq_getElem hi]; rfl
  unfold stepP
  rw [e]
  split
  · exact perm_inv hr s.2.1 s.2.2.1
  · exact hr
theorem perm_actK {l : List (List Int)} (hs : sheetsB l = true) : ∀ (w out : List Int), lettersB l w → permN (d0 l) out → permN (d0 l) (actK l w out)
  | [], out, _, h => h
  | a :: w, out, hw, h => by
    have ha := hw a (by simp)
    exact perm_actK hs w (thenM out (stepP l a)) (fun x hx => hw x (by simp [hx])) (perm_then h (perm_step hs ha.1 ha.2.1))
theorem perm_actL {l : List (List Int)} (hs : sheetsB l = true) {w : List Int} (hw : lettersB l w) : permN (d0 l) (actL l w) := by
  have := perm_actK hs w (idM (d0 l)) hw (perm_id _)
  rwa [actK_eq] at this
theorem actM_perm (l : List (List Int)) (w : List Int) : actM l w = [] ∨ (∃ n, 1 ≤ n ∧ n ≤ 5 ∧ permN n (actM l w)) := by
  unfold actM
  split
  · rename_i h
    have h1 : sheetsB l = true := by have := h.1; simp only [permsB, Bool.and_eq_true] at this; exact this.1
    have s := sheetsB_of h1
    exact .inr ⟨d0 l, s.2.1, s.2.2.1, perm_actL h1 (letters_of h.2).1⟩
  · exact .inl rfl

/-! ### sets of sheets that lead to each other -/
def upB (n : Nat) (up : List Int) : Prop := up.length = n ∧ ∀ i (h : i < up.length), 0 ≤ up[i] ∧ up[i] ≤ i
def rootN (up : List Int) : Nat → Int → Int
  | 0, s => s
  | k + 1, s => if up.getD s.toNat 0 = s then s else rootN up k (up.getD s.toNat 0)
def rootI (up : List Int) (s : Int) : Int := rootN up s.toNat s
theorem up_get {n : Nat} {up : List Int} (hu : upB n up) {s : Int} (h0 : 0 ≤ s) (h1 : s < n) : 0 ≤ up.getD s.toNat 0 ∧ up.getD s.toNat 0 ≤ s := by
  have h : s.toNat < up.length := by have := hu.1; omega
  rw [List.getD_eq_getElem?_getD, List.getElem?_eq_getElem h, Option.getD_some]
  have := hu.2 _ h; omega
theorem rootN_le {n : Nat} {up : List Int} (hu : upB n up) : ∀ (m : Nat) (s : Int), 0 ≤ s → s < n → 0 ≤ rootN up m s ∧ rootN up m s ≤ s
  | 0, s, h0, h1 => ⟨h0, Int.le_refl _⟩
  | m + 1, s, h0, h1 => by
    have a := up_get hu h0 h1
    simp only [rootN]
    split
    · exact ⟨h0, Int.le_refl _⟩
    · have := rootN_le hu m (up.getD s.toNat 0) a.1 (by omega); omega
theorem rootI_le {n : Nat} {up : List Int} (hu : upB n up) {s : Int} (h0 : 0 ≤ s) (h1 : s < n) : 0 ≤ rootI up s ∧ rootI up s ≤ s := rootN_le hu _ s h0 h1
theorem rootI_self {n : Nat} {up : List Int} (hu : upB n up) {s : Int} (h0 : 0 ≤ s) (h1 : s < n) : rootI up s = s ↔ up.getD s.toNat 0 = s := by
  have a := up_get hu h0 h1
  unfold rootI
  rcases hs : s.toNat with _ | m
  · have : s = 0 := by omega
    subst this
    simp only [rootN, true_iff]
    have := up_get hu (s := 0) (by omega) h1
    simp only [Int.toNat_zero] at this ⊢; omega
  · simp only [rootN, hs]
    rw [hs] at a
    constructor
    · intro h
      split at h
      · rename_i e; exact e
      · rename_i hne
        have := rootN_le hu m (up.getD (m + 1) 0) a.1 (by omega)
        omega
    · intro h
      rw [if_pos h]
def joinM (up : List Int) (a b : Int) : List Int := if rootI up a > rootI up b then up.set (rootI up a).toNat (rootI up b) else up.set (rootI up b).toNat (rootI up a)
theorem upB_set {n : Nat} {up : List Int} (hu : upB n up) {i v : Int} (h0 : 0 ≤ v) (h1 : v ≤ i) : upB n (up.set i.toNat v) := by
  refine ⟨by simp [hu.1], fun j hj => ?_⟩
  rw [List.getElem_set]
  rw [List.length_set] at hj
  split
  · omega
  · exact hu.2 j hj
theorem joinM_I {n : Nat} {up : List Int} (hu : upB n up) {a b : Int} (ha : 0 ≤ a ∧ a < n) (hb : 0 ≤ b ∧ b < n) : upB n (joinM up a b) := by
  have ra := rootI_le hu ha.1 ha.2
  have rb := rootI_le hu hb.1 hb.2
  unfold joinM
  split
  · exact upB_set hu rb.1 (by omega)
  · exact upB_set hu ra.1 (by omega)
def rowM (n : Nat) (up p : List Int) : List Int := (List.range n).foldl (fun up (s : Nat) => joinM up (s : Int) (p.getD s 0)) up
def allM (l : List (List Int)) : List Int := l.foldl (rowM (d0 l)) (idM (d0 l))
def ownM (n : Nat) (up : List Int) (s : Nat) : List Int := (List.range n).foldl (fun own (t : Nat) => if rootI up (t : Int) = (s : Int) then own ++ [(t : Int)] else own) []
def outM2 (n : Nat) (up : List Int) : List (List Int) := (List.range n).foldl (fun out (s : Nat) => if up.getD s 0 = (s : Int) then out ++ [ownM n up s] else out) []
def partsM (l : List (List Int)) : List (List Int) := outM2 (d0 l) (allM l)
theorem upB_id (n : Nat) : upB n (idM n) := by
  refine ⟨by simp [idM], fun i h => ?_⟩
  simp [idM]
theorem fold_upB {n : Nat} {p : List Int} (hp : p.length = n) (hr : ∀ x ∈ p, 0 ≤ x ∧ x < n) : ∀ (m : Nat) (up : List Int), m ≤ n → upB n up → upB n ((List.range m).foldl (fun up (s : Nat) => joinM up (s : Int) (p.getD s 0)) up)
  | 0, up, _, h => h
  | m + 1, up, hm, h => by
    rw [List.range_succ, List.foldl_append]
    have ih := fold_upB hp hr m up (by omega) h
    refine joinM_I ih ⟨by omega, by omega⟩ ?_
    have hlt : m < p.length := by omega
    rw [List.getD_eq_getElem?_getD, List.getElem?_eq_getElem hlt]
    exact hr _ (List.getElem_mem _)
theorem rowM_I {n : Nat} {up p : List Int} (hp : p.length = n) (hr : ∀ x ∈ p, 0 ≤ x ∧ x < n) (h : upB n up) : upB n (rowM n up p) := fold_upB hp hr n up (Nat.le_refl _) h
theorem ownM_len (n : Nat) (up : List Int) (s : Nat) : ∀ m, ((List.range m).foldl (fun own (t : Nat) => if rootI up (t : Int) = (s : Int) then own ++ [(t : Int)] else own) []).length ≤ m
  | 0 => by simp
  | m + 1 => by
    rw [List.range_succ, List.foldl_append]
    have := ownM_len n up s m
    simp only [List.foldl_cons, List.foldl_nil]
    split
    · simp; omega
    · omega
theorem outM2_sz (n : Nat) (up : List Int) : ∀ m, ((List.range m).foldl (fun out (s : Nat) => if up.getD s 0 = (s : Int) then out ++ [ownM n up s] else out) []).length ≤ m ∧ ∀ r ∈ ((List.range m).foldl (fun out (s : Nat) => if up.getD s 0 = (s : Int) then out ++ [ownM n up s] else out) []), r.length ≤ n
  | 0 => by simp
  | m + 1 => by
    rw [List.range_succ, List.foldl_append]
    have := outM2_sz n up m
    simp only [List.foldl_cons, List.foldl_nil]
    split
    · refine ⟨by rw [List.length_append]; simp only [List.length_singleton]; omega, fun r hr => ?_⟩
      rcases List.mem_append.1 hr with h | h
      · exact this.2 r h
      · rw [List.mem_singleton.1 h]; exact ownM_len n up m n
    · exact ⟨by omega, this.2⟩
theorem partsM_sz {l : List (List Int)} (hs : sheetsB l = true) : (partsM l).length ≤ 5 ∧ ∀ r ∈ partsM l, r.length ≤ 5 := by
  have s := sheetsB_of hs
  have := outM2_sz (d0 l) (allM l) (d0 l)
  exact ⟨by unfold partsM outM2; omega, fun r hr => by have := this.2 r hr; omega⟩
theorem allM_I {l : List (List Int)} (hs : sheetsB l = true) : upB (d0 l) (allM l) := by
  have s := sheetsB_of hs
  unfold allM
  have : ∀ (xs : List (List Int)) (up : List Int), (∀ p ∈ xs, p.length = d0 l ∧ permB p = true) → upB (d0 l) up → upB (d0 l) (xs.foldl (rowM (d0 l)) up) := by
    intro xs
    induction xs with
    | nil => intro up _ h; exact h
    | cons p xs ih =>
      intro up hx h
      have hp := hx p (by simp)
      refine ih _ (fun q hq => hx q (by simp [hq])) (rowM_I hp.1 (fun x hx' => ?_) h)
      have := (permB_of hp.2).1 x hx'
      omega
  exact this l _ s.2.2.2 (upB_id _)

def cycOk (p : List Int) : Bool := decide (spec_l6Cycles.f 40 p = impl_cycles.f 40 p) && ((impl_cycles.f 40 p).map fun c => decide (c.length ≤ 5)) == some true
theorem cyc1 : ∀ a : Nat, a < 1 → permB [(a : Int)] = true → cycOk [(a : Int)] = true := by decide +kernel
theorem cyc2 : ∀ a : Nat, a < 2 → ∀ b : Nat, b < 2 → permB [(a : Int), (b : Int)] = true → cycOk [(a : Int), (b : Int)] = true := by decide +kernel
theorem cyc3 : ∀ a : Nat, a < 3 → ∀ b : Nat, b < 3 → ∀ c : Nat, c < 3 → permB [(a : Int), (b : Int), (c : Int)] = true → cycOk [(a : Int), (b : Int), (c : Int)] = true := by decide +kernel
theorem cyc4 : ∀ a : Nat, a < 4 → ∀ b : Nat, b < 4 → ∀ c : Nat, c < 4 → ∀ d : Nat, d < 4 → permB [(a : Int), (b : Int), (c : Int), (d : Int)] = true → cycOk [(a : Int), (b : Int), (c : Int), (d : Int)] = true := by decide +kernel
set_option synthInstance.maxHeartbeats 2000000 in
set_option synthInstance.maxSize 4000 in
theorem cyc5 : ∀ a : Nat, a < 5 → ∀ b : Nat, b < 5 → ∀ c : Nat, c < 5 → ∀ d : Nat, d < 5 → ∀ e : Nat, e < 5 → permB [(a : Int), (b : Int), (c : Int), (d : Int), (e : Int)] = true → cycOk [(a : Int), (b : Int), (c : Int), (d : Int), (e : Int)] = true := by decide +kernel
theorem toNat_of {n : Nat} {x : Int} (h : 0 ≤ x ∧ x < n) : ∃ m : Nat, x = m ∧ m < n := ⟨x.toNat, by omega, by omega⟩
theorem cyc_all {p : List Int} (h : permB p = true) (h1 : 1 ≤ p.length) (h5 : p.length ≤ 5) : cycOk p = true := by
  have P := (permB_of h).1
  match p, h1, h5 with
  | [a], _, _ =>
    obtain ⟨a, rfl, ha⟩ := toNat_of (P a (by simp))
    exact cyc1 a ha h
  | [a, b], _, _ =>
    obtain ⟨a, rfl, ha⟩ := toNat_of (P a (by simp))
    obtain ⟨b, rfl, hb⟩ := toNat_of (P b (by simp))
    exact cyc2 a ha b hb h
  | [a, b, c], _, _ =>
    obtain ⟨a, rfl, ha⟩ := toNat_of (P a (by simp))
    obtain ⟨b, rfl, hb⟩ := toNat_of (P b (by simp))
    obtain ⟨c, rfl, hc⟩ := toNat_of (P c (by simp))
    exact cyc3 a ha b hb c hc h
  | [a, b, c, d], _, _ =>
    obtain ⟨a, rfl, ha⟩ := toNat_of (P a (by simp))
    obtain ⟨b, rfl, hb⟩ := toNat_of (P b (by simp))
    obtain ⟨c, rfl, hc⟩ := toNat_of (P c (by simp))
    obtain ⟨d, rfl, hd⟩ := toNat_of (P d (by simp))
    exact cyc4 a ha b hb c hc d hd h
  | [a, b, c, d, e], _, _ =>
    obtain ⟨a, rfl, ha⟩ := toNat_of (P a (by simp))
    obtain ⟨b, rfl, hb⟩ := toNat_of (P b (by simp))
    obtain ⟨c, rfl, hc⟩ := toNat_of (P c (by simp))
    obtain ⟨d, rfl, hd⟩ := toNat_of (P d (by simp))
    obtain ⟨e, rfl, he⟩ := toNat_of (P e (by simp))
    exact cyc5 a ha b hb c hc d hd e he h
theorem cyc_is {p : List Int} (h : permB p = true) (h1 : 1 ≤ p.length) (h5 : p.length ≤ 5) : ∃ c, EV (fun k => spec_l6Cycles.f k p) c ∧ EV (fun k => impl_cycles.f k p) c ∧ c.length ≤ 5 := by
  have := cyc_all h h1 h5
  simp only [cycOk, Bool.and_eq_true, decide_eq_true_iff, beq_iff_eq] at this
  obtain ⟨e, hs⟩ := this
  rcases hx : impl_cycles.f 40 p with _ | c
  · rw [hx] at hs; cases hs
  · rw [hx] at e hs
    simp only [Option.map_some, Option.some.injEq, decide_eq_true_iff] at hs
    exact ⟨c, EV.mono (spec_l6Cycles.mono p) e, EV.mono (impl_cycles.mono p) hx, hs⟩

/-! ### permutations of at most five: the inequality of Riemann, Hurwitz and Ree -/

def thenN (p q : List Nat) : List Nat := p.map fun y => q.getD y 0
def trN (n a b : Nat) : List Nat := (List.range n).map fun i => if i = a then b else if i = b then a else i
def itN (p : List Nat) (s : Nat) : Nat → Nat → Bool
  | 0, _ => true
  | k + 1, x => Nat.ble s x && itN p s k (p.getD x 0)
def cyN (p : List Nat) : Nat := ((List.range p.length).filter fun s => itN p s p.length s).length
def jl (lab : List Nat) (a b : Nat) : List Nat := let x := lab.getD a 0; let y := lab.getD b 0; lab.map fun z => if z = max x y then min x y else z
def partN (lab : List Nat) : Nat := ((List.range lab.length).filter fun s => Nat.beq (lab.getD s 0) s).length
def insAll (x : Nat) : List Nat → List (List Nat)
  | [] => [[x]]
  | y :: ys => (x :: y :: ys) :: (insAll x ys).map (y :: ·)
def permsN : Nat → List (List Nat)
  | 0 => [[]]
  | n + 1 => (permsN n).flatMap (insAll n)
def labsN : Nat → List (List Nat)
  | 0 => [[]]
  | n + 1 => (labsN n).flatMap fun l => ((List.range n).filter fun s => Nat.beq (l.getD s 0) s).map (fun s => l ++ [s]) ++ [l ++ [n]]
def refN (lab P : List Nat) : Bool := (List.range lab.length).all fun s => Nat.beq (lab.getD (P.getD s 0) 0) (lab.getD s 0)
/-- transpositions whose product is p -/
def decN : Nat → List Nat → List (Nat × Nat)
  | 0, _ => []
  | k + 1, p => match (List.range p.length).find? fun s => !Nat.beq (p.getD s 0) s with
    | none => []
    | some s => decN k (thenN p (trN p.length s (p.getD s 0))) ++ [(s, p.getD s 0)]
def dec (p : List Nat) : List (Nat × Nat) := decN p.length p
def idN (n : Nat) : List Nat := List.range n
def stepOk (n : Nat) (lab P : List Nat) (a b : Nat) : Bool :=
  Nat.ble (2 * partN lab + cyN (thenN P (trN n a b))) (2 * partN (jl lab a b) + cyN P + 1) && ((cyN (thenN P (trN n a b)) + cyN P) % 2 == 1) && refN (jl lab a b) (thenN P (trN n a b)) && (labsN n).contains (jl lab a b) && (permsN n).contains (thenN P (trN n a b))
def S1a (n : Nat) (lab : List Nat) : Bool := (permsN n).all fun P => !refN lab P || ((List.range n).all fun a => (List.range n).all fun b => Nat.ble b a || stepOk n lab P a b)
def S1 (n : Nat) : Bool := (labsN n).all (S1a n)
def S2 (n : Nat) : Bool := (permsN n).all fun p => ((dec p).foldl (fun q t => thenN q (trN n t.1 t.2)) (idN n) == p) && ((dec p).length + cyN p == n) && ((dec p).all fun t => Nat.blt t.2 n && Nat.blt t.1 t.2)
def rowN (lab p : List Nat) : List Nat := (List.range lab.length).foldl (fun lab s => jl lab s (p.getD s 0)) lab
def NN (p : List Int) : List Nat := p.map Int.toNat
theorem NN_getD (q : List Int) (i : Nat) : (q.getD i 0).toNat = (NN q).getD i 0 := by
  unfold NN
  rw [List.getD_eq_getElem?_getD, List.getD_eq_getElem?_getD, List.getElem?_map]
  cases q[i]? <;> rfl
theorem NN_then (p q : List Int) : NN (thenM p q) = thenN (NN p) (NN q) := by
  unfold thenN thenM
  rw [show NN (p.map fun y => q.getD y.toNat 0) = p.map fun y => (q.getD y.toNat 0).toNat by simp [NN, List.map_map, Function.comp_def]]
  rw [show (NN p).map (fun y => (NN q).getD y 0) = p.map fun y => (NN q).getD y.toNat 0 by simp [NN, List.map_map, Function.comp_def]]
  exact List.map_congr_left fun y _ => NN_getD q y.toNat
theorem NN_id (n : Nat) : NN (idM n) = idN n := by
  simp [NN, idM, idN, List.map_map, Function.comp_def]
set_option maxHeartbeats 8000000 in
set_option synthInstance.maxHeartbeats 2000000 in
set_option synthInstance.maxSize 4000 in
theorem NN_perm {n : Nat} {p : List Int} (h : permN n p) (h1 : 1 ≤ n) (h5 : n ≤ 5) : (permsN n).contains (NN p) = true := by
  have := perm_all (fun p => (permsN p.length).contains (NN p)) (by decide +kernel) (by decide +kernel) (by decide +kernel) (by decide +kernel) (by decide +kernel) h.2 (by have := h.1; omega) (by have := h.1; omega)
  rw [h.1] at this; exact this
/-! roots and labels -/
theorem rootN_fuel {n : Nat} {up : List Int} (hu : upB n up) : ∀ (m m' : Nat) (s : Int), 0 ≤ s → s < n → s.toNat ≤ m → s.toNat ≤ m' → rootN up m s = rootN up m' s
  | 0, 0, s, _, _, _, _ => rfl
  | 0, m' + 1, s, h0, h1, h2, h3 => by
    have a := up_get hu h0 h1
    simp only [rootN]
    rw [if_pos (by omega)]
  | m + 1, 0, s, h0, h1, h2, h3 => by
    have a := up_get hu h0 h1
    simp only [rootN]
    rw [if_pos (by omega)]
  | m + 1, m' + 1, s, h0, h1, h2, h3 => by
    have a := up_get hu h0 h1
    simp only [rootN]
    by_cases e : up.getD s.toNat 0 = s
    · rw [if_pos e, if_pos e]
    · rw [if_neg e, if_neg e]
      exact rootN_fuel hu m m' _ a.1 (by omega) (by omega) (by omega)
theorem rootI_step {n : Nat} {up : List Int} (hu : upB n up) {s : Int} (h0 : 0 ≤ s) (h1 : s < n) : rootI up s = if up.getD s.toNat 0 = s then s else rootI up (up.getD s.toNat 0) := by
  have a := up_get hu h0 h1
  unfold rootI
  rw [rootN_fuel hu s.toNat (s.toNat + 1) s h0 h1 (Nat.le_refl _) (by omega)]
  simp only [rootN]
  by_cases e : up.getD s.toNat 0 = s
  · rw [if_pos e, if_pos e]
  · rw [if_neg e, if_neg e]
    exact rootN_fuel hu _ _ _ a.1 (by omega) (by omega) (Nat.le_refl _)
theorem root_root {n : Nat} {up : List Int} (hu : upB n up) : ∀ (m : Nat) (s : Int), s.toNat ≤ m → 0 ≤ s → s < n → up.getD (rootI up s).toNat 0 = rootI up s
  | m, s, hm, h0, h1 => by
    have a := up_get hu h0 h1
    rw [rootI_step hu h0 h1]
    by_cases e : up.getD s.toNat 0 = s
    · rw [if_pos e]; exact e
    · rw [if_neg e]
      match m, hm with
      | 0, hm => exact absurd (show up.getD s.toNat 0 = s by omega) e
      | m + 1, hm => exact root_root hu m _ (by omega) a.1 (by omega)
theorem getD_set (up : List Int) (i j : Nat) (v : Int) (hj : i < up.length) : (up.set i v).getD j 0 = if i = j then v else up.getD j 0 := by
  rw [List.getD_eq_getElem?_getD, List.getElem?_set, List.getD_eq_getElem?_getD]
  split
  · subst_vars; simp [hj]
  · rfl
theorem root_set {n : Nat} {up : List Int} (hu : upB n up) {hi lo : Int} (l0 : 0 ≤ lo) (lh : lo ≤ hi) (hn : hi < n) (rh : up.getD hi.toNat 0 = hi) (rl : up.getD lo.toNat 0 = lo) :
    ∀ (m : Nat) (s : Int), s.toNat ≤ m → 0 ≤ s → s < n → rootI (up.set hi.toNat lo) s = if rootI up s = hi then lo else rootI up s
  | m, s, hm, h0, h1 => by
    have hu2 := upB_set hu (i := hi) (v := lo) l0 lh
    have hl : hi.toNat < up.length := by have := hu.1; omega
    have hlo : rootI (up.set hi.toNat lo) lo = lo := (rootI_self hu2 l0 (by omega)).2 (by
      rw [getD_set _ _ _ _ hl]
      split
      · rfl
      · exact rl)
    have a := up_get hu h0 h1
    rw [rootI_step hu2 h0 h1, getD_set _ _ _ _ hl]
    by_cases es : s = hi
    · subst es
      rw [if_pos rfl]
      have : rootI up s = s := (rootI_self hu h0 h1).2 rh
      rw [this, if_pos rfl]
      by_cases e2 : lo = s
      · rw [if_pos e2]; exact e2.symm
      · rw [if_neg e2]; exact hlo
    · have hne : ¬ hi.toNat = s.toNat := by omega
      simp only [if_neg hne]
      rw [rootI_step hu h0 h1]
      by_cases e : up.getD s.toNat 0 = s
      · rw [if_pos e, if_pos e, if_neg es]
      · rw [if_neg e, if_neg e]
        match m, hm with
        | 0, hm => exact absurd (show up.getD s.toNat 0 = s by omega) e
        | m + 1, hm => exact root_set hu l0 lh hn rh rl m _ (by omega) a.1 (by omega)
def labI (n : Nat) (up : List Int) : List Nat := (List.range n).map fun (s : Nat) => (rootI up (s : Int)).toNat
theorem labI_get (n : Nat) (up : List Int) (s : Nat) (h : s < n) : (labI n up).getD s 0 = (rootI up (s : Int)).toNat := by
  simp [labI, h]
theorem labI_join {n : Nat} {up : List Int} (hu : upB n up) {a b : Nat} (ha : a < n) (hb : b < n) : labI n (joinM up (a : Int) (b : Int)) = jl (labI n up) a b := by
  have ra := rootI_le hu (s := (a : Int)) (by omega) (by omega)
  have rb := rootI_le hu (s := (b : Int)) (by omega) (by omega)
  have fa := root_root hu a (a : Int) (by omega) (by omega) (by omega)
  have fb := root_root hu b (b : Int) (by omega) (by omega) (by omega)
  unfold jl
  simp only [labI_get _ _ _ ha, labI_get _ _ _ hb]
  unfold labI joinM
  rw [List.map_map]
  apply List.map_congr_left
  intro s hs
  have hs' := List.mem_range.1 hs
  have rs := rootI_le hu (s := (s : Int)) (by omega) (by omega)
  simp only [Function.comp]
  by_cases h : rootI up (a : Int) > rootI up (b : Int)
  · rw [if_pos h, root_set hu rb.1 (by omega) (by omega) fa fb s (s : Int) (by omega) (by omega) (by omega)]
    by_cases e : rootI up (s : Int) = rootI up (a : Int)
    · rw [if_pos e, if_pos (by omega)]; omega
    · rw [if_neg e, if_neg (by omega)]
  · rw [if_neg h, root_set hu ra.1 (by omega) (by omega) fb fa s (s : Int) (by omega) (by omega) (by omega)]
    by_cases e : rootI up (s : Int) = rootI up (b : Int)
    · rw [if_pos e, if_pos (by omega)]; omega
    · rw [if_neg e, if_neg (by omega)]
theorem labI_len (n : Nat) (up : List Int) : (labI n up).length = n := by simp [labI]
theorem labI_row {n : Nat} {p : List Int} (hp : p.length = n) (hr : ∀ x ∈ p, 0 ≤ x ∧ x < n) : ∀ (m : Nat) (up : List Int), m ≤ n → upB n up →
    labI n ((List.range m).foldl (fun up (s : Nat) => joinM up (s : Int) (p.getD s 0)) up) = (List.range m).foldl (fun lab (s : Nat) => jl lab s ((NN p).getD s 0)) (labI n up)
  | 0, up, _, _ => rfl
  | m + 1, up, hm, hu => by
    rw [List.range_succ, List.foldl_append, List.foldl_append]
    have ih := labI_row hp hr m up (by omega) hu
    have I := fold_upB hp hr m up (by omega) hu
    have hx : 0 ≤ p.getD m 0 ∧ p.getD m 0 < (n : Int) := by
      have hlt : m < p.length := by omega
      rw [List.getD_eq_getElem?_getD, List.getElem?_eq_getElem hlt]
      exact hr _ (List.getElem_mem _)
    simp only [List.foldl_cons, List.foldl_nil]
    rw [← ih, ← NN_getD]
    generalize p.getD m 0 = x at hx ⊢
    obtain ⟨v, rfl⟩ : ∃ v : Nat, x = v := ⟨x.toNat, by omega⟩
    rw [labI_join I (by omega) (by omega), Int.toNat_natCast]
theorem labI_rowM {n : Nat} {up p : List Int} (hp : p.length = n) (hr : ∀ x ∈ p, 0 ≤ x ∧ x < n) (hu : upB n up) : labI n (rowM n up p) = rowN (labI n up) (NN p) := by
  unfold rowM rowN
  rw [labI_row hp hr n up (Nat.le_refl _) hu, labI_len]
theorem labI_id (n : Nat) : labI n (idM n) = idN n := by
  unfold labI idN
  conv => rhs; rw [← List.map_id (List.range n)]
  apply List.map_congr_left
  intro s hs
  have hs' := List.mem_range.1 hs
  have : rootI (idM n) (s : Int) = s := (rootI_self (upB_id n) (by omega) (by omega)).2 (by simp [idM, hs'])
  rw [this]; simp
theorem outM2_len {n : Nat} {up : List Int} (hu : upB n up) : (outM2 n up).length = partN (labI n up) := by
  unfold outM2 partN
  rw [labI_len]
  suffices h : ∀ m, m ≤ n → ((List.range m).foldl (fun out (s : Nat) => if up.getD s 0 = (s : Int) then out ++ [ownM n up s] else out) []).length = ((List.range m).filter fun s => Nat.beq ((labI n up).getD s 0) s).length from h n (Nat.le_refl _)
  intro m
  induction m with
  | zero => intro _; rfl
  | succ m ih =>
    intro hm
    rw [List.range_succ, List.foldl_append, List.filter_append, List.length_append, ← ih (by omega)]
    simp only [List.foldl_cons, List.foldl_nil]
    have sf := rootI_self hu (s := (m : Int)) (by omega) (by omega)
    have rm := rootI_le hu (s := (m : Int)) (by omega) (by omega)
    rw [Int.toNat_natCast] at sf
    by_cases e : up.getD m 0 = (m : Int)
    · have h2 : Nat.beq ((labI n up).getD m 0) m = true := by rw [labI_get _ _ _ (by omega), sf.2 e]; simp
      have fs : [m].filter (fun s => Nat.beq ((labI n up).getD s 0) s) = [m] := by rw [List.filter_cons, if_pos h2]; rfl
      rw [if_pos e, fs, List.length_append]; rfl
    · have h2 : ¬ Nat.beq ((labI n up).getD m 0) m = true := by
        rw [labI_get _ _ _ (by omega)]
        exact fun h => e (sf.1 (by have := Nat.eq_of_beq_eq_true h; omega))
      have fs : [m].filter (fun s => Nat.beq ((labI n up).getD s 0) s) = [] := by rw [List.filter_cons, if_neg h2]; rfl
      rw [if_neg e, fs]; rfl
/-! the inequality, carried over transpositions and rows -/
/-! ### classes of an equivalence over the numbers below n -/
/-- the least equivalence over a relation -/
inductive Con (g : Nat → Nat → Prop) : Nat → Nat → Prop
  | rel {a b : Nat} : g a b → Con g a b
  | refl (a : Nat) : Con g a a
  | symm {a b : Nat} : Con g a b → Con g b a
  | trans {a b c : Nat} : Con g a b → Con g b c → Con g a c
structure Eqv (E : Nat → Nat → Prop) : Prop where
  refl : ∀ a, E a a
  symm : ∀ {a b}, E a b → E b a
  trans : ∀ {a b c}, E a b → E b c → E a c
theorem Con.eqv (g : Nat → Nat → Prop) : Eqv (Con g) := ⟨.refl, .symm, .trans⟩
theorem Con.least {g E : Nat → Nat → Prop} (hE : Eqv E) (h : ∀ a b, g a b → E a b) {a b : Nat} (hc : Con g a b) : E a b := by
  induction hc with
  | rel h1 => exact h _ _ h1
  | refl a => exact hE.refl a
  | symm _ ih => exact hE.symm ih
  | trans _ _ ih1 ih2 => exact hE.trans ih1 ih2
theorem Con.mono {g g' : Nat → Nat → Prop} (h : ∀ a b, g a b → Con g' a b) {a b : Nat} (hc : Con g a b) : Con g' a b := Con.least (Con.eqv g') h hc
/-- two classes made one -/
def jn (E : Nat → Nat → Prop) (a b : Nat) (x y : Nat) : Prop := E x y ∨ (E x a ∧ E b y) ∨ (E x b ∧ E a y)
theorem jn_eqv {E : Nat → Nat → Prop} (hE : Eqv E) (a b : Nat) : Eqv (jn E a b) where
  refl := fun x => .inl (hE.refl x)
  symm := by
    rintro x y (h | ⟨h1, h2⟩ | ⟨h1, h2⟩)
    · exact .inl (hE.symm h)
    · exact .inr (.inr ⟨hE.symm h2, hE.symm h1⟩)
    · exact .inr (.inl ⟨hE.symm h2, hE.symm h1⟩)
  trans := by
    rintro x y z (h | ⟨h1, h2⟩ | ⟨h1, h2⟩) (k | ⟨k1, k2⟩ | ⟨k1, k2⟩)
    · exact .inl (hE.trans h k)
    · exact .inr (.inl ⟨hE.trans h k1, k2⟩)
    · exact .inr (.inr ⟨hE.trans h k1, k2⟩)
    · exact .inr (.inl ⟨h1, hE.trans h2 k⟩)
    · exact .inr (.inl ⟨h1, k2⟩)
    · exact .inl (hE.trans h1 k2)
    · exact .inr (.inr ⟨h1, hE.trans h2 k⟩)
    · exact .inl (hE.trans h1 k2)
    · exact .inr (.inr ⟨h1, k2⟩)
theorem jn_con {g : Nat → Nat → Prop} (a b : Nat) {x y : Nat} : Con (fun x y => g x y ∨ (x = a ∧ y = b)) x y ↔ jn (Con g) a b x y := by
  constructor
  · intro h
    refine Con.least (jn_eqv (Con.eqv g) a b) ?_ h
    rintro x y (h | ⟨rfl, rfl⟩)
    · exact .inl (.rel h)
    · exact .inr (.inl ⟨.refl _, .refl _⟩)
  · have up : ∀ {x y}, Con g x y → Con (fun x y => g x y ∨ (x = a ∧ y = b)) x y := fun h => Con.mono (fun _ _ h => .rel (.inl h)) h
    have e : Con (fun x y => g x y ∨ (x = a ∧ y = b)) a b := .rel (.inr ⟨rfl, rfl⟩)
    rintro (h | ⟨h1, h2⟩ | ⟨h1, h2⟩)
    · exact up h
    · exact .trans (up h1) (.trans e (up h2))
    · exact .trans (up h1) (.trans (.symm e) (up h2))
/-! ### labels tell their classes: equal classes, equal labels -/
structure Canon (n : Nat) (lab : List Nat) (E : Nat → Nat → Prop) : Prop where
  len : lab.length = n
  eqv : Eqv E
  own : ∀ s, s < n → E (lab.getD s 0) s
  low : ∀ s, s < n → ∀ t, E t s → lab.getD s 0 ≤ t
theorem Canon.lt {n : Nat} {lab : List Nat} {E : Nat → Nat → Prop} (C : Canon n lab E) {s : Nat} (h : s < n) : lab.getD s 0 ≤ s := C.low s h s (C.eqv.refl s)
theorem Canon.same {n : Nat} {lab : List Nat} {E : Nat → Nat → Prop} (C : Canon n lab E) {s t : Nat} (hs : s < n) (ht : t < n) (h : E s t) : lab.getD s 0 = lab.getD t 0 :=
  Nat.le_antisymm (C.low s hs _ (C.eqv.trans (C.own t ht) (C.eqv.symm h))) (C.low t ht _ (C.eqv.trans (C.own s hs) h))
theorem Canon.congr {n : Nat} {lab : List Nat} {E E' : Nat → Nat → Prop} (C : Canon n lab E) (h : ∀ x y, E x y ↔ E' x y) : Canon n lab E' := by
  have : E = E' := by funext x y; exact propext (h x y)
  rw [← this]; exact C
theorem Canon.uniq {n : Nat} {lab lab' : List Nat} {E : Nat → Nat → Prop} (C : Canon n lab E) (C' : Canon n lab' E) : lab = lab' := by
  apply List.ext_getElem (by rw [C.len, C'.len])
  intro i h1 h2
  have hi : i < n := by have := C.len; omega
  have a := C.low i hi _ (C'.own i hi)
  have b := C'.low i hi _ (C.own i hi)
  simp only [List.getD_eq_getElem?_getD, List.getElem?_eq_getElem h1, List.getElem?_eq_getElem h2, Option.getD_some] at a b
  omega
theorem jl_get (lab : List Nat) (a b s : Nat) (h : s < lab.length) : (jl lab a b).getD s 0 = if lab.getD s 0 = max (lab.getD a 0) (lab.getD b 0) then min (lab.getD a 0) (lab.getD b 0) else lab.getD s 0 := by
  simp only [jl, List.getD_eq_getElem?_getD, List.getElem?_map, List.getElem?_eq_getElem h, Option.map_some, Option.getD_some]
theorem Canon.join {n : Nat} {lab : List Nat} {E : Nat → Nat → Prop} (C : Canon n lab E) {a b : Nat} (ha : a < n) (hb : b < n) : Canon n (jl lab a b) (jn E a b) := by
  have oa := C.own a ha
  have ob := C.own b hb
  refine ⟨by simp [jl, C.len], jn_eqv C.eqv a b, fun s hs => ?_, fun s hs t ht => ?_⟩
  · rw [jl_get _ _ _ _ (by rw [C.len]; exact hs)]
    have os := C.own s hs
    split
    · rename_i e
      by_cases h : lab.getD a 0 ≤ lab.getD b 0
      · rw [Nat.max_eq_right h] at e
        rw [Nat.min_eq_left h]
        rw [e] at os
        exact .inr (.inl ⟨oa, C.eqv.trans (C.eqv.symm ob) os⟩)
      · rw [Nat.max_eq_left (by omega)] at e
        rw [Nat.min_eq_right (by omega)]
        rw [e] at os
        exact .inr (.inr ⟨ob, C.eqv.trans (C.eqv.symm oa) os⟩)
    · exact .inl os
  · rw [jl_get _ _ _ _ (by rw [C.len]; exact hs)]
    rcases ht with h | ⟨h1, h2⟩ | ⟨h1, h2⟩
    · have := C.low s hs t h
      split <;> omega
    · have e := C.same hb hs h2
      have := C.low a ha t h1
      split <;> omega
    · have e := C.same ha hs h2
      have := C.low b hb t h1
      split <;> omega
theorem Canon.row {n : Nat} {lab : List Nat} {E : Nat → Nat → Prop} (C : Canon n lab E) {p : List Nat} (hp : ∀ s, s < n → p.getD s 0 < n) : Canon n (rowN lab p) (Con fun x y => E x y ∨ (x < n ∧ y = p.getD x 0)) := by
  have go : ∀ m, m ≤ n → Canon n ((List.range m).foldl (fun lab s => jl lab s (p.getD s 0)) lab) (Con fun x y => E x y ∨ (x < m ∧ y = p.getD x 0)) := by
    intro m
    induction m with
    | zero =>
      intro _
      refine C.congr fun x y => ⟨fun h => .rel (.inl h), fun h => Con.least C.eqv ?_ h⟩
      rintro x y (h | ⟨h, _⟩)
      · exact h
      · omega
    | succ m ih =>
      intro hm
      rw [List.range_succ, List.foldl_append]
      refine ((ih (by omega)).join (a := m) (by omega) (hp m (by omega))).congr fun x y => ?_
      rw [← jn_con]
      constructor
      · refine Con.mono ?_
        rintro x y ((h | ⟨h1, h2⟩) | ⟨rfl, rfl⟩)
        · exact .rel (.inl h)
        · exact .rel (.inr ⟨by omega, h2⟩)
        · exact .rel (.inr ⟨by omega, rfl⟩)
      · refine Con.mono ?_
        rintro x y (h | ⟨h1, h2⟩)
        · exact .rel (.inl (.inl h))
        · by_cases e : x = m
          · subst e; exact .rel (.inr ⟨rfl, h2⟩)
          · exact .rel (.inl (.inr ⟨by omega, h2⟩))
  have := go n (Nat.le_refl _)
  unfold rowN
  rw [C.len]; exact this
def rowsR (n : Nat) (xs : List (List Nat)) (x y : Nat) : Prop := ∃ p ∈ xs, x < n ∧ y = p.getD x 0
theorem Canon.rows {n : Nat} : ∀ (xs : List (List Nat)) {lab : List Nat} {E : Nat → Nat → Prop}, Canon n lab E → (∀ p ∈ xs, ∀ s, s < n → p.getD s 0 < n) → Canon n (xs.foldl rowN lab) (Con fun x y => E x y ∨ rowsR n xs x y)
  | [], lab, E, C, _ => C.congr fun x y => ⟨fun h => .rel (.inl h), fun h => Con.least C.eqv (by
      rintro x y (h | ⟨p, hp, _⟩)
      · exact h
      · cases hp) h⟩
  | p :: xs, lab, E, C, hp => by
    refine (Canon.rows xs (C.row (hp p (by simp))) (fun q hq => hp q (by simp [hq]))).congr fun x y => ⟨Con.mono ?_, Con.mono ?_⟩
    · rintro x y (h | ⟨q, hq, h⟩)
      · refine Con.mono ?_ h
        rintro x y (h | h)
        · exact .rel (.inl h)
        · exact .rel (.inr ⟨p, by simp, h⟩)
      · exact .rel (.inr ⟨q, by simp [hq], h⟩)
    · rintro x y (h | ⟨q, hq, h⟩)
      · exact .rel (.inl (.rel (.inl h)))
      · rcases List.mem_cons.1 hq with e | e
        · subst e; exact .rel (.inl (.rel (.inr h)))
        · exact .rel (.inr ⟨q, e, h⟩)
theorem Canon.id (n : Nat) : Canon n (idN n) (fun x y => x = y) := by
  have g : ∀ s, s < n → (idN n).getD s 0 = s := fun s h => by simp [idN, h]
  refine ⟨by simp [idN], ⟨fun _ => rfl, fun h => h.symm, fun h k => h.trans k⟩, fun s hs => g s hs, fun s hs t e => ?_⟩
  rw [g s hs]; omega
/-! ### permutations: products, inverses; parts by labels -/
theorem then_idM {n : Nat} {p : List Int} (h : permN n p) : thenM p (idM n) = p := by
  unfold thenM
  have H := (permN_of h).2.1
  conv => rhs; rw [← List.map_id p]
  refine List.map_congr_left fun y hy => ?_
  have := H y hy
  have e : (idM n).getD y.toNat 0 = (y.toNat : Int) := by simp [idM, show y.toNat < n by omega]
  rw [e]; simp; omega
theorem idM_then {n : Nat} {p : List Int} (h : p.length = n) : thenM (idM n) p = p := by
  apply List.ext_getElem (by simp [thenM, idM, h])
  intro i h1 h2
  simp [thenM, idM, h2]
theorem then_assocM {n : Nat} {p q : List Int} (r : List Int) (hp : permN n p) (hq : q.length = n) : thenM (thenM p q) r = thenM p (thenM q r) := by
  unfold thenM
  rw [List.map_map]
  refine List.map_congr_left fun y hy => ?_
  have := (permN_of hp).2.1 y hy
  have hi : y.toNat < q.length := by omega
  simp only [Function.comp, List.getD_eq_getElem?_getD, List.getElem?_map, List.getElem?_eq_getElem hi, Option.map_some, Option.getD_some]
set_option synthInstance.maxHeartbeats 2000000 in
set_option synthInstance.maxSize 4000 in
theorem inv_both {n : Nat} {p : List Int} (h : permN n p) (h1 : 1 ≤ n) (h5 : n ≤ 5) : thenM (invM p) p = idM n ∧ thenM p (invM p) = idM n ∧ (invM p).length = n := by
  have := perm_all (fun p => decide (thenM (invM p) p = idM p.length) && (decide (thenM p (invM p) = idM p.length) && decide ((invM p).length = p.length))) (by decide +kernel) (by decide +kernel) (by decide +kernel) (by decide +kernel) (by decide +kernel) h.2 (by have := h.1; omega) (by have := h.1; omega)
  simp only [Bool.and_eq_true, decide_eq_true_iff, h.1] at this
  exact this
theorem labI_all {n : Nat} : ∀ (xs : List (List Int)) (up : List Int), (∀ p ∈ xs, permN n p) → upB n up → labI n (xs.foldl (rowM n) up) = (xs.map NN).foldl rowN (labI n up)
  | [], up, _, _ => rfl
  | p :: xs, up, hx, hu => by
    have po := permN_of (hx p (by simp))
    rw [List.foldl_cons, List.map_cons, List.foldl_cons, labI_all xs _ (fun q hq => hx q (by simp [hq])) (rowM_I po.1 po.2.1 hu), labI_rowM po.1 po.2.1 hu]
theorem parts_lab {l : List (List Int)} {n : Nat} (hs : sheetsB l = true) (hd : d0 l = n) (hr : ∀ p ∈ l, permN n p) : (partsM l).length = partN ((l.map NN).foldl rowN (idN n)) := by
  have e : (partsM l).length = partN (labI (d0 l) (allM l)) := outM2_len (allM_I hs)
  rw [e, hd, ← labI_id n, ← labI_all l _ hr (upB_id n)]
  unfold allM
  rw [hd]
theorem NN_lt {n : Nat} {p : List Int} (h : permN n p) {s : Nat} (hs : s < n) : (NN p).getD s 0 < n := by
  have P := permN_of h
  rw [← NN_getD]
  have hi : s < p.length := by omega
  rw [List.getD_eq_getElem?_getD, List.getElem?_eq_getElem hi, Option.getD_some]
  have := P.2.1 _ (List.getElem_mem hi)
  omega
theorem thenN_get {a b : List Nat} {x : Nat} (h : x < a.length) : (thenN a b).getD x 0 = b.getD (a.getD x 0) 0 := by
  simp only [thenN, List.getD_eq_getElem?_getD, List.getElem?_map, List.getElem?_eq_getElem h, Option.map_some, Option.getD_some]

def relM (g : Int) : List Int := if g = 1 then [1, 2, -1, -2] else if g = 2 then [1, 2, -1, -2, 3, 4, -3, -4] else []
theorem spec_Relator_is (g : Int) : spec_Relator.f g = some (relM g) := by
  unfold spec_Relator.f relM
  split
  · rfl
  · split <;> rfl

def permsI (n : Nat) : List (List Int) := (permsN n).map fun p => p.map fun x : Nat => (x : Int)
/-- how many of the cycles begin in a part -/
def bN (S : List Int) (cs : List (List Int)) : Nat := cs.countP fun c => S.contains (c.getD 0 0)
/-- in each part of two permutations: as many sheets as cycles of the commutator, but for an even number, and no fewer -/
def covOk (p q : List Int) : Bool := match impl_cycles.f 40 (actL [p, q] (relM 1)) with
  | some cs => (partsM [p, q]).all fun S => (S.length + bN S cs) % 2 == 0 && Nat.ble (bN S cs) S.length
  | none => false
theorem cov1 : (permsI 1).all (fun p => (permsI 1).all (covOk p)) = true := by decide +kernel
theorem cov2 : (permsI 2).all (fun p => (permsI 2).all (covOk p)) = true := by decide +kernel
theorem cov3 : (permsI 3).all (fun p => (permsI 3).all (covOk p)) = true := by decide +kernel
set_option maxHeartbeats 100000000 in
theorem cov4 : (permsI 4).all (fun p => (permsI 4).all (covOk p)) = true := by decide +kernel
def cov5At (i : Nat) : Bool := (((permsI 5).drop (8 * i)).take 8).all (fun p => (permsI 5).all (covOk p))
set_option maxHeartbeats 100000000 in
theorem cov5_0 : cov5At 0 = true := by decide +kernel
set_option maxHeartbeats 100000000 in
theorem cov5_1 : cov5At 1 = true := by decide +kernel
set_option maxHeartbeats 100000000 in
theorem cov5_2 : cov5At 2 = true := by decide +kernel
set_option maxHeartbeats 100000000 in
theorem cov5_3 : cov5At 3 = true := by decide +kernel
set_option maxHeartbeats 100000000 in
theorem cov5_4 : cov5At 4 = true := by decide +kernel
set_option maxHeartbeats 100000000 in
theorem cov5_5 : cov5At 5 = true := by decide +kernel
set_option maxHeartbeats 100000000 in
theorem cov5_6 : cov5At 6 = true := by decide +kernel
set_option maxHeartbeats 100000000 in
theorem cov5_7 : cov5At 7 = true := by decide +kernel
set_option maxHeartbeats 100000000 in
theorem cov5_8 : cov5At 8 = true := by decide +kernel
set_option maxHeartbeats 100000000 in
theorem cov5_9 : cov5At 9 = true := by decide +kernel
set_option maxHeartbeats 100000000 in
theorem cov5_10 : cov5At 10 = true := by decide +kernel
set_option maxHeartbeats 100000000 in
theorem cov5_11 : cov5At 11 = true := by decide +kernel
set_option maxHeartbeats 100000000 in
theorem cov5_12 : cov5At 12 = true := by decide +kernel
set_option maxHeartbeats 100000000 in
theorem cov5_13 : cov5At 13 = true := by decide +kernel
set_option maxHeartbeats 100000000 in
theorem cov5_14 : cov5At 14 = true := by decide +kernel
theorem cov5_all (i : Nat) (h : i < 15) : cov5At i = true := by
  match i, h with
  | 0, _ => exact cov5_0
  | 1, _ => exact cov5_1
  | 2, _ => exact cov5_2
  | 3, _ => exact cov5_3
  | 4, _ => exact cov5_4
  | 5, _ => exact cov5_5
  | 6, _ => exact cov5_6
  | 7, _ => exact cov5_7
  | 8, _ => exact cov5_8
  | 9, _ => exact cov5_9
  | 10, _ => exact cov5_10
  | 11, _ => exact cov5_11
  | 12, _ => exact cov5_12
  | 13, _ => exact cov5_13
  | 14, _ => exact cov5_14
theorem all_chunks {α : Type} (p : α → Bool) (m : Nat) (hm : 0 < m) : ∀ (n : Nat) (xs : List α), xs.length ≤ m * n → (∀ i, i < n → ((xs.drop (m * i)).take m).all p = true) → xs.all p = true
  | 0, xs, h, _ => by
    have : xs = [] := List.eq_nil_of_length_eq_zero (by omega)
    subst this; rfl
  | n + 1, xs, h, H => by
    rw [← List.take_append_drop m xs, List.all_append, Bool.and_eq_true]
    refine ⟨by simpa using H 0 (by omega), all_chunks p m hm n (xs.drop m) (by rw [List.length_drop, Nat.mul_succ] at *; omega) (fun i hi => ?_)⟩
    have := H (i + 1) (by omega)
    rw [List.drop_drop]
    rwa [Nat.mul_succ, Nat.add_comm] at this
theorem permsI5_len : (permsI 5).length = 120 := by decide +kernel
theorem cov_all (n : Nat) (h1 : 1 ≤ n) (h5 : n ≤ 5) : (permsI n).all (fun p => (permsI n).all (covOk p)) = true := by
  rcases (by omega : n = 1 ∨ n = 2 ∨ n = 3 ∨ n = 4 ∨ n = 5) with rfl | rfl | rfl | rfl | rfl
  · exact cov1
  · exact cov2
  · exact cov3
  · exact cov4
  · refine all_chunks _ 8 (by omega) 15 _ (by rw [permsI5_len]; decide) (fun i hi => ?_)
    exact cov5_all i hi
theorem permsI_mem {n : Nat} {p : List Int} (h : permN n p) (h1 : 1 ≤ n) (h5 : n ≤ 5) : p ∈ permsI n := by
  have c := NN_perm h h1 h5
  rw [List.contains_iff_mem] at c
  refine List.mem_map.2 ⟨NN p, c, ?_⟩
  unfold NN
  rw [List.map_map]
  have P := (permN_of h).2.1
  conv => rhs; rw [← List.map_id p]
  refine List.map_congr_left fun x hx => ?_
  have := P x hx
  simp only [Function.comp, id]
  omega
theorem cov_pair {n : Nat} {p q : List Int} (hp : permN n p) (hq : permN n q) (h1 : 1 ≤ n) (h5 : n ≤ 5) : covOk p q = true := by
  have := cov_all n h1 h5
  rw [List.all_eq_true] at this
  have := this p (permsI_mem hp h1 h5)
  rw [List.all_eq_true] at this
  exact this q (permsI_mem hq h1 h5)

/-- the orders of xs from place k on, m places left -/
def ordB (A : List Int → List (List Int)) (k : Nat) (xs : List Int) : Nat → Nat → List (List Int)
  | 0, _ => []
  | c + 1, i => A (impl_SheetSymmetries.swp xs k i) ++ ordB A k xs c (i + 1)
def ordA : Nat → Nat → List Int → List (List Int)
  | 0, _, xs => [xs]
  | m + 1, k, xs => ordB (ordA m (k + 1)) k xs (m + 1) k
def rowI (n : Nat) (x : List Int) : Prop := x.length = n ∧ ∀ y ∈ x, 0 ≤ y ∧ y < n
theorem rowI_swp {n : Nat} {x : List Int} (h : rowI n x) (k i : Nat) (hk : k < n) (hi : i < n) : rowI n (impl_SheetSymmetries.swp x k i) := by
  obtain ⟨hl, hx⟩ := h
  have g : ∀ j, j < n → 0 ≤ x.getD j 0 ∧ x.getD j 0 < n := fun j hj => by
    rw [List.getD_eq_getElem?_getD, List.getElem?_eq_getElem (by omega)]
    exact hx _ (List.getElem_mem _)
  refine ⟨by simp [impl_SheetSymmetries.swp, hl], fun y hy => ?_⟩
  unfold impl_SheetSymmetries.swp at hy
  rcases List.mem_or_eq_of_mem_set hy with h1 | rfl
  · rcases List.mem_or_eq_of_mem_set h1 with h2 | rfl
    · exact hx y h2
    · exact g i hi
  · exact g k hk
theorem ordA_I {n : Nat} : ∀ (m k : Nat) (xs : List Int), k + m = n → rowI n xs → ∀ x ∈ ordA m k xs, rowI n x := by
  intro m
  induction m with
  | zero => intro k xs hk h x hx; simp only [ordA, List.mem_singleton] at hx; subst hx; exact h
  | succ m ih =>
    intro k xs hk h x hx
    have go : ∀ c i, i + c ≤ n → x ∈ ordB (ordA m (k + 1)) k xs c i → rowI n x := by
      intro c
      induction c with
      | zero => intro i _ hx; simp [ordB] at hx
      | succ c ihc =>
        intro i hi hx
        simp only [ordB, List.mem_append] at hx
        rcases hx with hx | hx
        · exact ih (k + 1) _ (by omega) (rowI_swp h k i (by omega) (by omega)) x hx
        · exact ihc (i + 1) (by omega) hx
    exact go (m + 1) k (by omega) hx
theorem oR_is {n : Nat} (f : Nat → List Int → Int → Option Int) (g : Int → List Int → Int) (hf : ∀ x s, rowI n x → EV (fun k => f k x s) (g s x)) :
    ∀ (m k : Nat) (xs : List Int) (s : Int), k + m = n → rowI n xs → EV (fun K => impl_SheetSymmetries.oR (f K) m k xs s) ((ordA m k xs).foldl g s) := by
  intro m
  induction m with
  | zero => intro k xs s _ h; simpa [impl_SheetSymmetries.oR, ordA] using hf xs s h
  | succ m ih =>
    intro k xs s hk h
    have go : ∀ c i s, i + c ≤ n → EV (fun K => impl_SheetSymmetries.oL (impl_SheetSymmetries.oR (f K) m (k + 1)) k xs c i s) ((ordB (ordA m (k + 1)) k xs c i).foldl g s) := by
      intro c
      induction c with
      | zero => intro i s _; exact EV.now _
      | succ c ihc =>
        intro i s hi
        refine EV.bind (ih (k + 1) (impl_SheetSymmetries.swp xs k i) s (by omega) (rowI_swp h k i (by omega) (by omega))) ((ihc (i + 1) _ (by omega)).eq ?_)
        simp [ordB, List.foldl_append]
    exact go (m + 1) k s (by omega)
/-- whether an order commutes with all -/
def fineB (l : List (List Int)) (x : List Int) : Bool := l.all fun p => decide (thenM x p = thenM p x)
theorem count_fold (c : List Int → Bool) : ∀ (xs : List (List Int)) (s : Int), 0 ≤ s → s + xs.length < 4611686018427387904 →
    xs.foldl (fun s x => if c x = true then wrap64 (s + 1) else s) s = s + (xs.countP c : Nat)
  | [], s, _, _ => by simp
  | x :: r, s, h0, h => by
    simp only [List.length_cons] at h
    rw [List.foldl_cons]
    by_cases hc : c x = true
    · rw [if_pos hc, w64 (by omega) (by omega), count_fold c r (s + 1) (by omega) (by omega), List.countP_cons_of_pos hc]; omega
    · rw [if_neg hc, count_fold c r s h0 (by omega), List.countP_cons_of_neg hc]
theorem count_sum (c : List Int → Bool) : ∀ (xs : List (List Int)) (s : Int), 0 ≤ s → s + xs.length < 4611686018427387904 →
    xs.foldl (fun s x => wrap64 (s + (if c x = true then 1 else 0))) s = s + (xs.countP c : Nat)
  | [], s, _, _ => by simp
  | x :: r, s, h0, h => by
    simp only [List.length_cons] at h
    rw [List.foldl_cons]
    by_cases hc : c x = true
    · rw [if_pos hc, w64 (by omega) (by omega), count_sum c r (s + 1) (by omega) (by omega), List.countP_cons_of_pos hc]; omega
    · rw [if_neg hc, w64 (by omega) (by omega), count_sum c r (s + 0) (by omega) (by omega), List.countP_cons_of_neg hc]; omega
theorem rowI_id (n : Nat) : rowI n (idM n) := by
  refine ⟨by simp [idM], fun y hy => ?_⟩
  simp only [idM, List.mem_map, List.mem_range] at hy
  obtain ⟨i, hi, rfl⟩ := hy
  omega

/-! ### the permutations that commute with a transitive list: their number divides the sheets' -/
theorem filter_two {α : Type} (p : α → Bool) : ∀ (l : List α), l.length = (l.filter p).length + (l.filter fun x => !p x).length
  | [] => rfl
  | a :: l => by
    have := filter_two p l
    cases h : p a <;> simp [h] <;> omega
theorem sub_len {α : Type} [DecidableEq α] : ∀ (l l' : List α), l.Nodup → (∀ a ∈ l, a ∈ l') → l.length ≤ l'.length
  | [], _, _, _ => by simp
  | a :: l, l', hn, hs => by
    have ⟨h1, h2⟩ := List.nodup_cons.1 hn
    have hm := hs a (by simp)
    have := sub_len l (l'.erase a) h2 (fun b hb => by
      have hb' := hs b (by simp [hb])
      refine (List.mem_erase_of_ne ?_).2 hb'
      intro e; subst e; exact h1 hb)
    rw [List.length_erase_of_mem hm] at this
    have := List.length_pos_of_mem hm
    simp only [List.length_cons]; omega
theorem orb_div {n m : Nat} (O : Nat → List Nat) (h1 : ∀ i, i < n → (O i).Nodup ∧ (O i).length = m ∧ i ∈ O i ∧ ∀ a ∈ O i, a < n)
    (h2 : ∀ i j a, i < n → j < n → a ∈ O i → a ∈ O j → ∀ b ∈ O j, b ∈ O i) : m ∣ n := by
  have go : ∀ (k : Nat) (L : List Nat), L.length ≤ k → L.Nodup → (∀ i ∈ L, i < n) → (∀ i ∈ L, ∀ a ∈ O i, a ∈ L) → m ∣ L.length := by
    intro k
    induction k with
    | zero => intro L hk _ _ _; rw [Nat.le_zero.1 hk]; exact Nat.dvd_zero m
    | succ k ih =>
      intro L hk hn hl hc
      cases hL : L with
      | nil => exact Nat.dvd_zero m
      | cons i T =>
        rw [← hL]
        have hi : i ∈ L := by rw [hL]; simp
        have oi := h1 i (hl i hi)
        have e := filter_two (fun a => decide (a ∈ O i)) L
        have e1 : (L.filter fun a => decide (a ∈ O i)).length = m := by
          refine Nat.le_antisymm ?_ ?_
          · rw [← oi.2.1]
            exact sub_len _ _ (hn.filter _) (fun a ha => by simpa using (List.mem_filter.1 ha).2)
          · rw [← oi.2.1]
            exact sub_len _ _ oi.1 (fun a ha => List.mem_filter.2 ⟨hc i hi a ha, by simpa using ha⟩)
        have mpos : 0 < m := by rw [← oi.2.1]; exact List.length_pos_of_mem oi.2.2.1
        rw [e1] at e
        rw [e]
        refine (Nat.dvd_add_right (Nat.dvd_refl m)).2 (ih _ (by omega) (hn.filter _) (fun j hj => hl j (List.mem_filter.1 hj).1) (fun j hj a ha => ?_))
        have hj' := List.mem_filter.1 hj
        have hjn : j ∉ O i := by simpa using hj'.2
        refine List.mem_filter.2 ⟨hc j hj'.1 a ha, ?_⟩
        have : a ∉ O i := fun hai => hjn (h2 i j a (hl i hi) (hl j hj'.1) hai ha j (h1 j (hl j hj'.1)).2.2.1)
        simpa using this
  have := go n (List.range n) (by simp) List.nodup_range (fun i hi => List.mem_range.1 hi) (fun i hi a ha => List.mem_range.2 ((h1 i (List.mem_range.1 hi)).2.2.2 a ha))
  simpa using this
def ordOk (n : Nat) : Bool := (ordA n 0 (idM n)).all (fun p => permB p && decide (p.length = n)) && (decide (ordA n 0 (idM n)).Nodup && (permsI n).all fun p => (ordA n 0 (idM n)).contains p)
theorem ordOk_4 : ∀ n : Nat, n < 5 → ordOk n = true := by decide +kernel
theorem ordOk_5 : ordOk 5 = true := by decide +kernel
theorem ord_facts {n : Nat} (h1 : 1 ≤ n) (h5 : n ≤ 5) : (ordA n 0 (idM n)).Nodup ∧ ∀ x, x ∈ ordA n 0 (idM n) ↔ permN n x := by
  have ok : ordOk n = true := by
    by_cases e : n = 5
    · subst e; exact ordOk_5
    · exact ordOk_4 n (by omega)
  simp only [ordOk, Bool.and_eq_true, List.all_eq_true, decide_eq_true_iff] at ok
  refine ⟨ok.2.1, fun x => ⟨fun h => ?_, fun h => ?_⟩⟩
  · have := ok.1 x h; exact ⟨this.2, this.1⟩
  · simpa using ok.2.2 x (permsI_mem h h1 h5)
def comP (l : List (List Int)) (n : Nat) (x : List Int) : Prop := permN n x ∧ ∀ p ∈ l, thenM x p = thenM p x
theorem NN_ext {n : Nat} {x y : List Int} (hx : permN n x) (hy : permN n y) (h : ∀ s, s < n → (NN x).getD s 0 = (NN y).getD s 0) : x = y := by
  have X := permN_of hx
  have Y := permN_of hy
  apply List.ext_getElem (by rw [X.1, Y.1])
  intro i h1 h2
  have := h i (by omega)
  rw [← NN_getD, ← NN_getD] at this
  simp only [List.getD_eq_getElem?_getD, List.getElem?_eq_getElem h1, List.getElem?_eq_getElem h2, Option.getD_some] at this
  have a := X.2.1 _ (List.getElem_mem h1)
  have b := Y.2.1 _ (List.getElem_mem h2)
  omega
theorem NN_inj {n : Nat} {p : List Int} (h : permN n p) {s t : Nat} (hs : s < n) (ht : t < n) (e : (NN p).getD s 0 = (NN p).getD t 0) : s = t := by
  have P := permN_of h
  rw [← NN_getD, ← NN_getD] at e
  have h1 : s < p.length := by omega
  have h2 : t < p.length := by omega
  simp only [List.getD_eq_getElem?_getD, List.getElem?_eq_getElem h1, List.getElem?_eq_getElem h2, Option.getD_some] at e
  have a := P.2.1 _ (List.getElem_mem h1)
  have b := P.2.1 _ (List.getElem_mem h2)
  have e' : p[s] = p[t] := by omega
  rcases Nat.lt_trichotomy s t with h' | h' | h'
  · exact absurd e' (List.pairwise_iff_getElem.1 P.2.2 _ _ h1 h2 h')
  · exact h'
  · exact absurd e'.symm (List.pairwise_iff_getElem.1 P.2.2 _ _ h2 h1 h')
theorem NN_at {n : Nat} {x y : List Int} (hx : permN n x) {s : Nat} (hs : s < n) : (NN (thenM x y)).getD s 0 = (NN y).getD ((NN x).getD s 0) 0 := by
  rw [NN_then, thenN_get (by simp [NN, hx.1]; exact hs)]
theorem canon_all {l : List (List Int)} {n : Nat} (hr : ∀ p ∈ l, permN n p) : Canon n ((l.map NN).foldl rowN (idN n)) (Con (rowsR n (l.map NN))) := by
  refine (Canon.rows (l.map NN) (Canon.id n) (fun q hq s hs => ?_)).congr fun x y => ⟨Con.mono ?_, Con.mono fun x y h => .rel (.inr h)⟩
  · obtain ⟨r, hr', rfl⟩ := List.mem_map.1 hq
    exact NN_lt (hr r hr') hs
  · rintro x y (rfl | h)
    · exact .refl _
    · exact .rel h
theorem one_class {n : Nat} {lab : List Nat} {E : Nat → Nat → Prop} (C : Canon n lab E) (h1 : partN lab = 1) (hn : 1 ≤ n) : ∀ s, s < n → E 0 s := by
  intro s hs
  have l0 : lab.getD 0 0 = 0 := by have := C.lt (s := 0) (by omega); omega
  have lt := C.lt hs
  have lt' : lab.getD s 0 < n := by omega
  have ll : lab.getD (lab.getD s 0) 0 = lab.getD s 0 := C.same lt' hs (C.own s hs)
  unfold partN at h1
  rw [C.len] at h1
  obtain ⟨x, e⟩ := List.length_eq_one_iff.1 h1
  have m0 : (0 : Nat) ∈ (List.range n).filter fun s => Nat.beq (lab.getD s 0) s := List.mem_filter.2 ⟨List.mem_range.2 (by omega), by rw [l0]; rfl⟩
  have ms : lab.getD s 0 ∈ (List.range n).filter fun s => Nat.beq (lab.getD s 0) s := List.mem_filter.2 ⟨List.mem_range.2 lt', by rw [ll]; exact Nat.beq_refl _⟩
  rw [e] at m0 ms
  have a := List.mem_singleton.1 m0
  have b := List.mem_singleton.1 ms
  have o := C.own s hs
  rw [b, ← a] at o
  exact o
theorem com_eq {l : List (List Int)} {n : Nat} (hr : ∀ p ∈ l, permN n p) (ht : ∀ s, s < n → Con (rowsR n (l.map NN)) 0 s) {x y : List Int} (hx : comP l n x) (hy : comP l n y) {i : Nat} (hi : i < n)
    (e : (NN x).getD i 0 = (NN y).getD i 0) : x = y := by
  have key : ∀ s t, Con (rowsR n (l.map NN)) s t → ((NN x).getD s 0 = (NN y).getD s 0 ↔ (NN x).getD t 0 = (NN y).getD t 0) := by
    intro s t h
    refine Con.least (E := fun s t => ((NN x).getD s 0 = (NN y).getD s 0 ↔ (NN x).getD t 0 = (NN y).getD t 0)) ⟨fun _ => Iff.rfl, fun h => h.symm, fun h k => h.trans k⟩ ?_ h
    rintro s t ⟨q, hq, hs, rfl⟩
    obtain ⟨p, hp, rfl⟩ := List.mem_map.1 hq
    have pp := hr p hp
    have cx : (NN x).getD ((NN p).getD s 0) 0 = (NN p).getD ((NN x).getD s 0) 0 := by
      rw [← NN_at pp hs, ← NN_at hx.1 hs, hx.2 p hp]
    have cy : (NN y).getD ((NN p).getD s 0) 0 = (NN p).getD ((NN y).getD s 0) 0 := by
      rw [← NN_at pp hs, ← NN_at hy.1 hs, hy.2 p hp]
    rw [cx, cy]
    exact ⟨fun h => by rw [h], fun h => NN_inj pp (NN_lt hx.1 hs) (NN_lt hy.1 hs) h⟩
  have e0 := (key 0 i (ht i hi)).2 e
  exact NN_ext hx.1 hy.1 fun s hs => (key 0 s (ht s hs)).1 e0
theorem com_then {l : List (List Int)} {n : Nat} (hr : ∀ p ∈ l, permN n p) {x y : List Int} (hx : comP l n x) (hy : comP l n y) : comP l n (thenM x y) := by
  refine ⟨perm_then hx.1 hy.1, fun p hp => ?_⟩
  have pp := hr p hp
  rw [then_assocM p hx.1 hy.1.1, hy.2 p hp, ← then_assocM y hx.1 pp.1, hx.2 p hp, then_assocM y pp hx.1.1]
theorem com_inv {l : List (List Int)} {n : Nat} (h1 : 1 ≤ n) (h5 : n ≤ 5) (hr : ∀ p ∈ l, permN n p) {y : List Int} (hy : comP l n y) : comP l n (invM y) := by
  have v := inv_both hy.1 h1 h5
  have pv := perm_inv hy.1 h1 h5
  refine ⟨pv, fun p hp => ?_⟩
  have pp := hr p hp
  have a : thenM (invM y) p = thenM (thenM (invM y) p) (thenM y (invM y)) := by rw [v.2.1, then_idM (perm_then pv pp)]
  rw [a, ← then_assocM (invM y) (perm_then pv pp) hy.1.1, then_assocM y pv pp.1, ← hy.2 p hp, ← then_assocM p pv hy.1.1, v.1, idM_then pp.1]
theorem sym_div {l : List (List Int)} (hs : sheetsB l = true) (h : (partsM l).length = 1) : (ordA (d0 l) 0 (idM (d0 l))).countP (fineB l) ∣ d0 l := by
  have S := sheetsB_of hs
  have hr : ∀ p ∈ l, permN (d0 l) p := fun p hp => S.2.2.2 p hp
  have n1 := S.2.1
  have n5 := S.2.2.1
  rw [parts_lab hs rfl hr] at h
  have ht := one_class (canon_all hr) h n1
  have F := ord_facts n1 n5
  generalize hn : d0 l = n at *
  have mem : ∀ x, x ∈ (ordA n 0 (idM n)).filter (fineB l) ↔ comP l n x := by
    intro x
    rw [List.mem_filter, F.2 x]
    simp only [fineB, List.all_eq_true, decide_eq_true_iff, comP]
  have nd : ((ordA n 0 (idM n)).filter (fineB l)).Nodup := F.1.filter _
  rw [List.countP_eq_length_filter]
  generalize hC : (ordA n 0 (idM n)).filter (fineB l) = C at *
  refine orb_div (fun i => C.map fun x => (NN x).getD i 0) (fun i hi => ⟨?_, by simp, ?_, ?_⟩) ?_
  · unfold List.Nodup
    rw [List.pairwise_map]
    exact List.Pairwise.imp_of_mem (fun {a b} ha hb hne he => hne (com_eq hr ht ((mem a).1 ha) ((mem b).1 hb) hi he)) nd
  · refine List.mem_map.2 ⟨idM n, (mem _).2 ⟨perm_id n, fun p hp => by rw [idM_then (hr p hp).1, then_idM (hr p hp)]⟩, ?_⟩
    rw [NN_id]; simp [idN, hi]
  · intro a ha
    obtain ⟨x, hx, rfl⟩ := List.mem_map.1 ha
    exact NN_lt ((mem x).1 hx).1 hi
  · intro i j a hi hj hai haj b hb
    obtain ⟨x, hx, rfl⟩ := List.mem_map.1 hai
    obtain ⟨y, hy, ey⟩ := List.mem_map.1 haj
    obtain ⟨z, hz, rfl⟩ := List.mem_map.1 hb
    have cx := (mem x).1 hx
    have cy := (mem y).1 hy
    have cz := (mem z).1 hz
    have ci := com_inv n1 n5 hr cy
    refine List.mem_map.2 ⟨thenM (thenM x (invM y)) z, (mem _).2 (com_then hr (com_then hr cx ci) cz), ?_⟩
    rw [NN_at (perm_then cx.1 ci.1) hi, NN_at cx.1 hi, ← ey, ← NN_at cy.1 hj, (inv_both cy.1 n1 n5).2.1, NN_id]
    simp [idN, hj]

/-- where x goes in an ascending list, from the n-th place down -/
def posP (l : List Int) (x : Int) : Nat → Nat
  | 0 => 0
  | k + 1 => if l.getD k 0 > x then posP l x k else k + 1
theorem posP_le (l : List Int) (x : Int) : ∀ n, posP l x n ≤ n
  | 0 => Nat.le_refl _
  | n + 1 => by
    have := posP_le l x n
    simp only [posP]; split <;> omega
def insM (l : List Int) (x : Int) (n : Nat) : List Int := l.take (posP l x n) ++ x :: l.drop (posP l x n)
def putM (l : List Int) (x : Int) : List Int := insM l x l.length
theorem putM_len (l : List Int) (x : Int) : (putM l x).length = l.length + 1 := by
  have := posP_le l x l.length
  simp [putM, insM]; omega
theorem puts_len (c : List Int) : ∀ acc : List Int, (c.foldl putM acc).length = acc.length + c.length := by
  induction c with
  | nil => intro acc; simp
  | cons a c ih => intro acc; rw [List.foldl_cons, ih, putM_len]; simp; omega
def lensL (c : List (List Int)) : List Int := c.map fun r => (r.length : Int)

/-! ### sums: of what is put in order, of parts, of cycles -/
theorem sum_put (l : List Int) (x : Int) : (putM l x).sum = l.sum + x := by
  have e : (l.take (posP l x l.length)).sum + (l.drop (posP l x l.length)).sum = l.sum := by
    rw [← List.sum_append, List.take_append_drop]
  simp only [putM, insM, List.sum_append, List.sum_cons]
  omega
theorem sum_puts : ∀ (c acc : List Int), (c.foldl putM acc).sum = acc.sum + c.sum
  | [], acc => by simp
  | x :: c, acc => by rw [List.foldl_cons, sum_puts c, sum_put, List.sum_cons]; omega
theorem foldl_filter {α β : Type} (P : α → Prop) [DecidablePred P] (f : α → β) : ∀ (xs : List α) (acc : List β), xs.foldl (fun out s => if P s then out ++ [f s] else out) acc = acc ++ (xs.filter fun s => decide (P s)).map f
  | [], acc => by simp
  | x :: xs, acc => by
    rw [List.foldl_cons, foldl_filter P f xs]
    by_cases h : P x <;> simp [h]
theorem one_hot : ∀ (R : List Nat) (a : Nat), R.Nodup → a ∈ R → (R.map fun s => if a = s then 1 else 0).sum = 1
  | [], a, _, h => by cases h
  | s :: R, a, hn, h => by
    obtain ⟨h1, h2⟩ := List.nodup_cons.1 hn
    rw [List.map_cons, List.sum_cons]
    by_cases e : a = s
    · subst e
      have z : (R.map fun s => if a = s then 1 else 0) = R.map fun _ => 0 := List.map_congr_left fun x hx => by
        rw [if_neg]; intro e; subst e; exact h1 hx
      rw [z, if_pos rfl]
      have : ∀ R : List Nat, (R.map fun _ => 0).sum = 0 := fun R => by induction R <;> simp_all
      rw [this]
    · rw [if_neg e, one_hot R a h2 ((List.mem_cons.1 h).resolve_left e)]
theorem count_sum_all (R : List Nat) (hR : R.Nodup) (r : Nat → Nat) : ∀ (ts : List Nat), (∀ t ∈ ts, r t ∈ R) → (R.map fun s => ts.countP fun t => decide (r t = s)).sum = ts.length
  | [], _ => by
    have : ∀ R : List Nat, (R.map fun s => ([] : List Nat).countP fun t => decide (r t = s)).sum = 0 := fun R => by induction R <;> simp_all
    rw [this]; rfl
  | t :: ts, h => by
    have ih := count_sum_all R hR r ts (fun u hu => h u (by simp [hu]))
    have o := one_hot R (r t) hR (h t (by simp))
    have add : ∀ R : List Nat, (R.map fun s => (t :: ts).countP fun t => decide (r t = s)).sum = (R.map fun s => ts.countP fun t => decide (r t = s)).sum + (R.map fun s => if r t = s then 1 else 0).sum := by
      intro R
      induction R with
      | nil => rfl
      | cons s R ihR =>
        rw [List.map_cons, List.sum_cons, ihR, List.map_cons, List.sum_cons, List.map_cons, List.sum_cons, List.countP_cons]
        by_cases e : r t = s <;> simp [e] <;> omega
    rw [add, ih, o]; rfl
theorem own_len (n : Nat) (up : List Int) (s : Nat) : (ownM n up s).length = (List.range n).countP fun t : Nat => decide ((rootI up (t : Int)) = (s : Int)) := by
  unfold ownM
  rw [foldl_filter (fun t : Nat => rootI up (t : Int) = (s : Int)) (fun t : Nat => (t : Int)) (List.range n) []]
  rw [List.nil_append, List.length_map, List.countP_eq_length_filter]
theorem out_sum {n : Nat} {up : List Int} (hu : upB n up) : ((outM2 n up).map List.length).sum = n := by
  unfold outM2
  rw [foldl_filter (fun s : Nat => up.getD s 0 = (s : Int)) (fun s : Nat => ownM n up s) (List.range n) [], List.nil_append, List.map_map]
  have e : (((List.range n).filter fun s : Nat => decide (up.getD s 0 = (s : Int))).map (List.length ∘ fun s => ownM n up s)) = ((List.range n).filter fun s : Nat => decide (up.getD s 0 = (s : Int))).map fun s => (List.range n).countP fun t : Nat => decide ((rootI up (t : Int)).toNat = s) := by
    refine List.map_congr_left fun s _ => ?_
    rw [Function.comp, own_len]
    refine List.countP_congr fun t ht => ?_
    have b := rootI_le hu (s := (t : Int)) (by omega) (by have := List.mem_range.1 ht; omega)
    simp only [decide_eq_true_eq]; omega
  rw [e, count_sum_all _ (List.nodup_range.filter _) (fun t : Nat => (rootI up (t : Int)).toNat) (List.range n), List.length_range]
  intro t ht
  have tn := List.mem_range.1 ht
  have b := rootI_le hu (s := (t : Int)) (by omega) (by omega)
  refine List.mem_filter.2 ⟨List.mem_range.2 (by omega), ?_⟩
  rw [decide_eq_true_eq, root_root hu t (t : Int) (by omega) (by omega) (by omega)]
  omega
theorem parts_sum {l : List (List Int)} (hs : sheetsB l = true) : ((partsM l).map List.length).sum = d0 l := out_sum (allM_I hs)
theorem mem_puts : ∀ (c acc : List Int) (x : Int), x ∈ c.foldl putM acc → x ∈ acc ∨ x ∈ c
  | [], acc, x, h => .inl h
  | y :: c, acc, x, h => by
    rcases mem_puts c (putM acc y) x h with h' | h'
    · simp only [putM, insM, List.mem_append, List.mem_cons] at h'
      rcases h' with h' | h' | h'
      · exact .inl (List.mem_of_mem_take h')
      · exact .inr (by rw [h']; simp)
      · exact .inl (List.mem_of_mem_drop h')
    · exact .inr (by simp [h'])
theorem mem_le_sum : ∀ (xs : List Int), (∀ x ∈ xs, 0 ≤ x) → ∀ x ∈ xs, x ≤ xs.sum
  | [], _, x, h => by cases h
  | y :: xs, h0, x, h => by
    have hy := h0 y (by simp)
    have nn : ∀ zs : List Int, (∀ z ∈ zs, 0 ≤ z) → 0 ≤ zs.sum := by
      intro zs
      induction zs with
      | nil => intro _; simp
      | cons z zs ih => intro h; have := h z (by simp); have := ih (fun u hu => h u (by simp [hu])); rw [List.sum_cons]; omega
    rw [List.sum_cons]
    rcases List.mem_cons.1 h with e | e
    · have := nn xs (fun u hu => h0 u (by simp [hu])); rw [e]; omega
    · have := mem_le_sum xs (fun u hu => h0 u (by simp [hu])) x e; omega

set_option synthInstance.maxHeartbeats 2000000 in
set_option synthInstance.maxSize 4000 in
theorem lens_sum {n : Nat} {p : List Int} (h : permN n p) (h1 : 1 ≤ n) (h5 : n ≤ 5) {cs : List (List Int)} (hc : EV (fun k => impl_cycles.f k p) cs) : (lensL cs).sum = (n : Int) := by
  have := perm_all (fun p => ((impl_cycles.f 40 p).map fun c => (lensL c).sum) == some (p.length : Int)) (by decide +kernel) (by decide +kernel) (by decide +kernel) (by decide +kernel) (by decide +kernel) h.2 (by have := h.1; omega) (by have := h.1; omega)
  rw [beq_iff_eq] at this
  rcases hx : impl_cycles.f 40 p with _ | c'
  · rw [hx] at this; cases this
  · rw [hx] at this
    have e := EV.uniq hc (EV.mono (impl_cycles.mono p) hx)
    subst e
    simp only [Option.map_some, Option.some.injEq] at this
    rw [this, h.1]

theorem laws_big_no (l : List Int) (h : ¬ (l.length : Int) > 1048576) : laws_big.f l = some false := by
  unfold laws_big.f; rw [decide_eq_false h]

theorem and255 (x : Int) : 0 ≤ Go.bits .and .i64 x 255 ∧ Go.bits .and .i64 x 255 ≤ 255 := by
  have h : (BitVec.ofInt 64 x &&& BitVec.ofInt 64 255).toNat ≤ 255 := by
    rw [BitVec.toNat_and]; exact Nat.le_trans Nat.and_le_right (by decide)
  have e : Go.bits .and .i64 x 255 = IntKind.i64.wrap (((BitVec.ofInt 64 x &&& BitVec.ofInt 64 255).toNat : Nat) : Int) := rfl
  rw [e, IntKind.wrap_i64]
  omega

theorem spec_l1Byte_is (b : List Int) (i h : Int) (hb : b.length ≤ 1048576) (hi : 0 ≤ i) : ∃ x i' h', spec_l1Byte.f b i h = some (x, i', h') ∧ 0 ≤ x ∧ x ≤ 255 ∧ 0 ≤ i' := by
  unfold spec_l1Byte.f
  by_cases hc : i < (b.length : Int)
  · rw [if_pos hc, if_pos hi, w64 (x := i + 1) (by omega) (by omega)]
    exact ⟨_, _, _, rfl, (and255 _).1, (and255 _).2, by omega⟩
  · rw [if_neg hc]
    exact ⟨_, _, _, rfl, (and255 _).1, (and255 _).2, hi⟩

theorem spec_l1Below_is (b : List Int) (i h n : Int) (hb : b.length ≤ 1048576) (hi : 0 ≤ i) (h1 : 0 < n) (h2 : n ≤ 256) : ∃ x i' h', spec_l1Below.f b i h n = some (x, i', h') ∧ 0 ≤ x ∧ x < n ∧ 0 ≤ i' := by
  obtain ⟨x, i', h', e, a, c, d⟩ := spec_l1Byte_is b i h hb hi
  unfold spec_l1Below.f
  rw [if_neg (by omega), if_pos h2, e]
  simp only [Option.bind_some]
  rw [if_neg (by omega)]
  refine ⟨_, _, _, rfl, ?_, ?_, d⟩
  · exact Int.tmod_nonneg _ a
  · exact Int.tmod_lt_of_pos _ h1

theorem spec_l1Once_is (b : List Int) (i h n : Int) (hb : b.length ≤ 1048576) (hi : 0 ≤ i) (h1 : 0 < n) (h2 : n ≤ 256) : ∃ x i' h', spec_l1Once.f b i h n = some (x, i', h') ∧ 0 ≤ i' := by
  obtain ⟨x, i', h', e, a, c, d⟩ := spec_l1Below_is b i h n hb hi h1 h2
  unfold spec_l1Once.f
  rw [e]
  exact ⟨_, _, _, rfl, d⟩

theorem spec_l9Perm_l0 (b : List Int) (hb : b.length ≤ 1048576) : ∀ (m i : Nat) (out : List Int) (c h : Int), out.length = i → 0 ≤ c → i + m ≤ 100 → ∃ p c' h', EV (fun k => spec_l9Perm.l0 k ((i + m : Nat) : Int) out (i : Int) b c h) (p, c', h') ∧ p.length = i + m ∧ 0 ≤ c'
  | 0, i, out, c, h, ho, hc, hi => ⟨out, c, h, EV.step (fun k => by rw [spec_l9Perm.l0]) (EV.neg (by omega) (EV.now _)), by omega, hc⟩
  | m + 1, i, out, c, h, ho, hc, hi => by
    obtain ⟨x, c1, h1, e, x0, x1, hc1⟩ := spec_l1Below_is b c h ((out.length : Int) + 1) hb hc (by omega) (by omega)
    have lx : ((out.take x.toNat ++ [(i : Int)]) ++ ([] ++ out.drop x.toNat)).length = i + 1 := by simp; omega
    obtain ⟨p, c2, h2, E, pl, hc2⟩ := spec_l9Perm_l0 b hb m (i + 1) _ c1 h1 lx hc1 (by omega)
    refine ⟨p, c2, h2, EV.step (fun k => by rw [spec_l9Perm.l0]) ?_, by omega, hc2⟩
    rw [w64 (x := (out.length : Int) + 1) (by omega) (by omega), w64 (x := (i : Int) + 1) (by omega) (by omega)]
    refine EV.pos (by omega) (EV.by e (EV.by rfl (EV.pos x0 (EV.pos (by omega) (EV.by rfl (EV.pos (by simp; omega) (EV.by rfl (EV.by rfl (EV.pos (by simp; omega) (EV.by rfl (EV.pos (by simp; omega) ?_)))))))))))
    rw [show ((i + 1 + m : Nat) : Int) = ((i + (m + 1) : Nat) : Int) by omega, show ((i + 1 : Nat) : Int) = (i : Int) + 1 by omega] at E
    exact E
theorem spec_l9Perm_in_l0 (b : List Int) (hb : b.length ≤ 1048576) : ∀ (m i : Nat) (out : List Int) (c h : Int), out.length = i → 0 ≤ c → i + m ≤ 100 → (∀ x ∈ out, 0 ≤ x ∧ x < (i : Int)) → ∃ p c' h', EV (fun k => spec_l9Perm.l0 k ((i + m : Nat) : Int) out (i : Int) b c h) (p, c', h') ∧ p.length = i + m ∧ (∀ x ∈ p, 0 ≤ x ∧ x < ((i + m : Nat) : Int)) ∧ 0 ≤ c'
  | 0, i, out, c, h, ho, hc, hi, hx => ⟨out, c, h, EV.step (fun k => by rw [spec_l9Perm.l0]) (EV.neg (by omega) (EV.now _)), by omega, hx, hc⟩
  | m + 1, i, out, c, h, ho, hc, hi, hx => by
    obtain ⟨x, c1, h1, e, x0, x1, hc1⟩ := spec_l1Below_is b c h ((out.length : Int) + 1) hb hc (by omega) (by omega)
    have lx : ((out.take x.toNat ++ [(i : Int)]) ++ ([] ++ out.drop x.toNat)).length = i + 1 := by simp; omega
    obtain ⟨p, c2, h2, E, pl, px, hc2⟩ := spec_l9Perm_in_l0 b hb m (i + 1) _ c1 h1 lx hc1 (by omega) (fun y hy => by
      simp only [List.nil_append, List.mem_append, List.mem_singleton] at hy
      rcases hy with (h' | h') | h'
      · have := hx y (List.mem_of_mem_take h'); omega
      · omega
      · have := hx y (List.mem_of_mem_drop h'); omega)
    refine ⟨p, c2, h2, EV.step (fun k => by rw [spec_l9Perm.l0]) ?_, by omega, fun y hy => by have := px y hy; omega, hc2⟩
    rw [w64 (x := (out.length : Int) + 1) (by omega) (by omega), w64 (x := (i : Int) + 1) (by omega) (by omega)]
    refine EV.pos (by omega) (EV.by e (EV.by rfl (EV.pos x0 (EV.pos (by omega) (EV.by rfl (EV.pos (by simp; omega) (EV.by rfl (EV.by rfl (EV.pos (by simp; omega) (EV.by rfl (EV.pos (by simp; omega) ?_)))))))))))
    rw [show ((i + 1 + m : Nat) : Int) = ((i + (m + 1) : Nat) : Int) by omega, show ((i + 1 : Nat) : Int) = (i : Int) + 1 by omega] at E
    exact E
theorem spec_l9Perm_in (b : List Int) (c h : Int) (n : Nat) (hb : b.length ≤ 1048576) (hc : 0 ≤ c) (hn : n ≤ 100) : ∃ p c' h', EV (fun k => spec_l9Perm.f k b c h (n : Int)) (p, c', h') ∧ p.length = n ∧ (∀ x ∈ p, 0 ≤ x ∧ x < (n : Int)) ∧ 0 ≤ c' := by
  obtain ⟨p, c', h', E, l, x, k⟩ := spec_l9Perm_in_l0 b hb n 0 [] c h rfl hc (by omega) (fun x hx => by cases hx)
  rw [Nat.zero_add] at E l x
  exact ⟨p, c', h', E, l, x, k⟩
theorem spec_l9Perm_is (b : List Int) (c h : Int) (n : Nat) (hb : b.length ≤ 1048576) (hc : 0 ≤ c) (hn : n ≤ 100) : ∃ p c' h', EV (fun k => spec_l9Perm.f k b c h (n : Int)) (p, c', h') ∧ p.length = n ∧ 0 ≤ c' := by
  obtain ⟨p, c', h', E, l, k⟩ := spec_l9Perm_l0 b hb n 0 [] c h rfl hc (by omega)
  rw [Nat.zero_add] at E l
  exact ⟨p, c', h', E, l, k⟩

theorem spec_l1PickInt_is (b : List Int) (i h : Int) (l : List Int) (hb : b.length ≤ 1048576) (hi : 0 ≤ i) (h1 : 0 < l.length) (h2 : l.length ≤ 256) : ∃ x i' h', spec_l1PickInt.f b i h l = some (x, i', h') ∧ x ∈ l ∧ 0 ≤ i' := by
  obtain ⟨x, i', h', e, a, c, d⟩ := spec_l1Below_is b i h l.length hb hi (by omega) (by omega)
  unfold spec_l1PickInt.f
  rw [e]
  simp only [Option.bind_some]
  rw [if_pos a, if_pos c]
  refine ⟨_, _, _, rfl, ?_, d⟩
  have hx : x.toNat < l.length := by omega
  have : rd l x = l[x.toNat] := by simp [rd, hx]
  rw [this]; exact List.getElem_mem _

/-- what is drawn: one to four rows of one to four numbers -/
def drawnA (l : List (List Int)) : Prop := 1 ≤ l.length ∧ l.length ≤ 4 ∧ ∀ r ∈ l, r.length ≤ 5
theorem spec_l9Draw_l0 (a : List Int) (n : Nat) (hn : a.length = n) (hn5 : n ≤ 5) (ha : ∀ x ∈ a, 0 ≤ x ∧ x < n) : ∀ (m s : Nat) (p : List Int), s + m = n → p.length = s → ∃ R, EV (fun k => spec_l9Draw.l0 k a p (s : Int) (n : Int)) R ∧ R.length = n
  | 0, s, p, hs, hp => ⟨p, EV.step (fun k => by rw [spec_l9Draw.l0]) (EV.neg (by omega) (EV.now _)), by omega⟩
  | m + 1, s, p, hs, hp => by
    obtain ⟨R, E, l⟩ := spec_l9Draw_l0 a n hn hn5 ha m (s + 1) (p ++ [rd a (rd a (s : Int))]) (by omega) (by simp; omega)
    have hx := ha _ (List.getElem_mem (show s < a.length by omega))
    have e := rd_nat a s (by omega)
    refine ⟨R, EV.step (fun k => by rw [spec_l9Draw.l0]) ?_, l⟩
    rw [w64 (x := (s : Int) + 1) (by omega) (by omega)]
    rw [show ((s + 1 : Nat) : Int) = (s : Int) + 1 by omega] at E
    exact EV.pos (by omega) (EV.pos (by omega) (EV.pos (by omega) (EV.pos (by rw [e]; exact hx.1) (EV.pos (by rw [e]; have := hx.2; omega) (EV.pos (by omega) E)))))
theorem spec_l9Draw_j0 (b : List Int) (c h g : Int) (n : Nat) (l : List (List Int)) (hb : b.length ≤ 1048576) (hc : 0 ≤ c) (hn : n ≤ 5) (hg : -1 ≤ g ∧ g ≤ 3) (hl : 2 ≤ l.length ∧ l.length ≤ 4) (hr : ∀ r ∈ l, r.length ≤ 5) :
    ∃ G R c' h', EV (fun k => spec_l9Draw.j0 k b c h (n : Int) g l) (G, R, c', h') ∧ drawnA R ∧ (-1 ≤ G ∧ G ≤ 3) ∧ 0 ≤ c' := by
  obtain ⟨x, c1, h1, e1, x0, x1, k1⟩ := spec_l1Below_is b c h 16 hb hc (by omega) (by omega)
  unfold spec_l9Draw.j0
  by_cases h0 : x = 0
  · obtain ⟨p, c2, h2, E, pl, k2⟩ := spec_l9Perm_is b c1 h1 n hb k1 (by omega)
    refine ⟨g, l.set 0 p, c2, h2, EV.by e1 (EV.pos h0 (EV.bind E (EV.pos (by omega) (EV.now _)))), ⟨by simp; omega, by simp; omega, fun r hr' => ?_⟩, hg, k2⟩
    rcases List.mem_or_eq_of_mem_set hr' with h' | h'
    · exact hr r h'
    · rw [h']; omega
  · by_cases h1' : x = 1
    · exact ⟨g, l.take (l.length - 1), c1, h1, EV.by e1 (EV.neg h0 (EV.pos h1' (EV.pos (by omega) (EV.now _)))), ⟨by simp; omega, by simp; omega, fun r hr' => hr r (List.mem_of_mem_take hr')⟩, hg, k1⟩
    · by_cases h2' : x = 2
      · obtain ⟨y, c2, h2, e2, hy, k2⟩ := spec_l1PickInt_is b c1 h1 [(-1), 3, 0, 1] hb k1 (by decide) (by decide)
        refine ⟨y, l, c2, h2, EV.by e1 (EV.neg h0 (EV.neg h1' (EV.pos h2' (EV.by e2 (EV.now _))))), ⟨by omega, by omega, hr⟩, ?_, k2⟩
        simp only [List.mem_cons, List.not_mem_nil, or_false] at hy; omega
      · exact ⟨g, l, c1, h1, EV.by e1 (EV.neg h0 (EV.neg h1' (EV.neg h2' (EV.now _)))), ⟨by omega, by omega, hr⟩, hg, k1⟩
theorem spec_l9Draw_is (b : List Int) (c h : Int) (hb : b.length ≤ 1048576) (hc : 0 ≤ c) : ∃ G R c' h', EV (fun k => spec_l9Draw.f k b c h) (G, R, c', h') ∧ drawnA R ∧ (-1 ≤ G ∧ G ≤ 3) ∧ 0 ≤ c' := by
  obtain ⟨g, c1, h1, e1, g0, g1, k1⟩ := spec_l1Below_is b c h 3 hb hc (by omega) (by omega)
  obtain ⟨x, c2, h2, e2, x0, x1, k2⟩ := spec_l1Below_is b c1 h1 4 hb k1 (by omega) (by omega)
  obtain ⟨m, rfl⟩ : ∃ m : Nat, x = m := ⟨x.toNat, by omega⟩
  have ew : wrap64 (1 + (m : Int)) = ((m + 1 : Nat) : Int) := by rw [w64 (by omega) (by omega)]; omega
  obtain ⟨a, c3, h3, E3, la, ra, k3⟩ := spec_l9Perm_in b c2 h2 (m + 1) hb k2 (by omega)
  obtain ⟨d, c4, h4, E4, ld, k4⟩ := spec_l9Perm_is b c3 h3 (m + 1) hb k3 (by omega)
  have head : ∀ R, EV (fun k => if g = 1 then ((spec_l9Draw.l0 k a [] 0 ((m + 1 : Nat) : Int)).bind fun p => (spec_l1Once.f b c4 h4 4).bind fun bo => if bo.1 = true then (spec_l9Draw.j0 k b bo.2.1 bo.2.2 ((m + 1 : Nat) : Int) g [a, a]) else (spec_l9Draw.j0 k b bo.2.1 bo.2.2 ((m + 1 : Nat) : Int) g [a, p])) else (if g = 2 then (spec_l9Draw.j0 k b c4 h4 ((m + 1 : Nat) : Int) g [a, d, d, a]) else (spec_l9Draw.j0 k b c4 h4 ((m + 1 : Nat) : Int) g [a, d]))) R → EV (fun k => spec_l9Draw.f k b c h) R := by
    intro R H
    unfold spec_l9Draw.f
    refine EV.by e1 (EV.by e2 ?_)
    rw [ew]
    exact EV.bind E3 (EV.bind E4 H)
  have two : ∀ p q : List Int, p.length ≤ 5 → q.length ≤ 5 → ∀ r ∈ [p, q], r.length ≤ 5 := fun p q hp hq r hr => by
    simp only [List.mem_cons, List.not_mem_nil, or_false] at hr
    rcases hr with rfl | rfl <;> assumption
  by_cases hg1 : g = 1
  · obtain ⟨p, E, lp⟩ := spec_l9Draw_l0 a (m + 1) la (by omega) (fun x hx => by have := ra x hx; omega) (m + 1) 0 [] (by omega) rfl
    obtain ⟨t, c5, h5, e5, k5⟩ := spec_l1Once_is b c4 h4 4 hb k4 (by omega) (by omega)
    by_cases ht : t = true
    · obtain ⟨G, R, c6, h6, E6, r⟩ := spec_l9Draw_j0 b c5 h5 g (m + 1) [a, a] hb k5 (by omega) (by omega) (by simp) (two _ _ (by omega) (by omega))
      exact ⟨G, R, c6, h6, head _ (EV.pos hg1 (EV.bind E (EV.by e5 (EV.pos ht E6)))), r⟩
    · obtain ⟨G, R, c6, h6, E6, r⟩ := spec_l9Draw_j0 b c5 h5 g (m + 1) [a, p] hb k5 (by omega) (by omega) (by simp) (two _ _ (by omega) (by omega))
      exact ⟨G, R, c6, h6, head _ (EV.pos hg1 (EV.bind E (EV.by e5 (EV.neg ht E6)))), r⟩
  · by_cases hg2 : g = 2
    · obtain ⟨G, R, c6, h6, E6, r⟩ := spec_l9Draw_j0 b c4 h4 g (m + 1) [a, d, d, a] hb k4 (by omega) (by omega) (by simp) (fun r hr => by
        simp only [List.mem_cons, List.not_mem_nil, or_false] at hr
        rcases hr with rfl | rfl | rfl | rfl <;> omega)
      exact ⟨G, R, c6, h6, head _ (EV.neg hg1 (EV.pos hg2 E6)), r⟩
    · obtain ⟨G, R, c6, h6, E6, r⟩ := spec_l9Draw_j0 b c4 h4 g (m + 1) [a, d] hb k4 (by omega) (by omega) (by simp) (two _ _ (by omega) (by omega))
      exact ⟨G, R, c6, h6, head _ (EV.neg hg1 (EV.neg hg2 E6)), r⟩

theorem spec_l1New_l0 (b : List Int) (hb : b.length ≤ 1048576) : ∀ (n i : Nat) (x : Int), i + n = b.length → ∃ h, EV (fun k => spec_l1New.l0 k b x (i : Int)) (b, 0, h)
  | 0, i, x, hi => ⟨x, EV.step (fun k => by rw [spec_l1New.l0]) (EV.neg (by omega) (EV.now _))⟩
  | n + 1, i, x, hi => by
    by_cases h4 : (i : Int) < 4000
    · obtain ⟨h, H⟩ := spec_l1New_l0 b hb n (i + 1) (Go.bits .and .i64 (wrap64 ((wrap64 ((wrap64 (x * 131)) + (wrap64 (rd b (i : Int))))) + 7)) 1073741823) (by omega)
      refine ⟨h, EV.step (fun k => by rw [spec_l1New.l0]) (EV.pos (by omega) (EV.pos h4 (EV.pos (by omega) ?_)))⟩
      rw [w64 (x := (i : Int) + 1) (by omega) (by omega)]
      rw [show ((i + 1 : Nat) : Int) = (i : Int) + 1 by omega] at H
      exact H
    · exact ⟨x, EV.step (fun k => by rw [spec_l1New.l0]) (EV.pos (by omega) (EV.neg h4 (EV.now _)))⟩
theorem spec_l1New_is (b : List Int) (hb : b.length ≤ 1048576) : ∃ h, EV (fun k => spec_l1New.f k b) (b, 0, h) :=
  spec_l1New_l0 b hb b.length 0 _ (by omega)

theorem spec_DrawCoverOf_is (b : List Int) (hb : b.length ≤ 1048576) : ∃ g R, EV (fun k => spec_DrawCoverOf.f k b) (g, R) ∧ drawnA R ∧ (-1 ≤ g ∧ g ≤ 3) := by
  obtain ⟨h, E⟩ := spec_l1New_is b hb
  obtain ⟨g, R, c, h', E2, D, hg, _⟩ := spec_l9Draw_is b 0 h hb (by omega)
  exact ⟨g, R, EV.bind E (EV.bind E2 (EV.now _)), D, hg⟩

theorem impl_identity_is (n : Nat) (hn : n < 4294967296) : EV (fun k => impl_identity.f k (n : Int)) (idM n) := by
  refine EV.count (g := fun k s i => impl_identity.l0 k s (n : Int) i) n idM _ (fun i hi H => ?_) ?_
  · refine EV.step (fun k => by rw [impl_identity.l0]) ?_
    rw [w64 (x := (i : Int) + 1) (by omega) (by omega)]
    refine EV.pos (by omega) (EV.pos (by simp [idM]; omega) ?_)
    simpa [idM, List.range_succ] using H
  · refine EV.step (fun k => by rw [impl_identity.l0]) ?_
    exact EV.neg (by omega) (EV.now _)

theorem impl_then_is (p q : List Int) (hp : ∀ x ∈ p, 0 ≤ x ∧ x < q.length) (hn : p.length < 4294967296) : EV (fun k => impl_then.f k p q) (thenM p q) := by
  have := EV.count (g := fun k s i => impl_then.l0 k q s p (p.length : Int) i) p.length (fun i => thenM (p.take i) q) (thenM p q) (fun i hi H => ?_) ?_
  · exact this
  · have hx := hp _ (List.getElem_mem hi)
    refine EV.step (fun k => by rw [impl_then.l0]) ?_
    rw [rd_nat _ _ hi, w64 (x := (i : Int) + 1) (by omega) (by omega)]
    refine EV.pos (by omega) (EV.pos (by omega) (EV.pos (by omega) (EV.pos hx.1 (EV.pos hx.2 (EV.pos (by simp [thenM]; omega) ?_)))))
    rw [List.take_succ_eq_append_getElem hi] at H
    have e : thenM (p.take i ++ [p[i]]) q = thenM (p.take i) q ++ [rd q p[i]] := by rw [thenM, List.map_append]; rfl
    rw [e] at H
    exact H
  · refine EV.step (fun k => by rw [impl_then.l0]) ?_
    rw [List.take_length]
    exact EV.neg (by omega) (EV.now _)

theorem impl_size_is (a : Int) (h : -9223372036854775808 < a) (h' : a ≤ 9223372036854775807) : impl_size.f a = some (a.natAbs : Int) := by
  unfold impl_size.f mx
  rw [w64 (by omega) (by omega)]
  congr 1
  split <;> omega
theorem impl_size_some (a : Int) : ∃ r, impl_size.f a = some r := ⟨_, rfl⟩

theorem impl_inversePermutation_is (p : List Int) (hp : ∀ x ∈ p, 0 ≤ x ∧ x < p.length) (hn : p.length < 4294967296) : EV (fun k => impl_inversePermutation.f k p) (invM p) := by
  refine EV.pos (by omega) (EV.pos (by omega) ?_)
  refine EV.count (g := fun k s i => impl_inversePermutation.l0 k s p (p.length : Int) i) p.length (invK p) _ (fun i hi H => ?_) ?_
  · have hx := hp _ (List.getElem_mem hi)
    have hl : (invK p i).length = p.length := (invK_I p (by omega) i (by omega)).1
    refine EV.step (fun k => by rw [impl_inversePermutation.l0]) ?_
    rw [rd_nat _ _ hi, w64 (x := (i : Int) + 1) (by omega) (by omega)]
    refine EV.pos (by omega) (EV.pos (by omega) (EV.pos (by omega) (EV.pos (by omega) (EV.pos (by omega) ?_))))
    rw [invK_succ] at H
    have e : p.getD i 0 = p[i] := by simp [hi]
    rw [e] at H
    exact H
  · refine EV.step (fun k => by rw [impl_inversePermutation.l0]) ?_
    exact EV.neg (by omega) (EV.now _)

theorem impl_act_is (l : List (List Int)) (w : List Int) (hs : sheetsB l = true) (hw : lettersB l w) (hn : w.length < 4294967296) : EV (fun k => impl_act.f k l w) (actL l w) := by
  have S := sheetsB_of hs
  have e : actL l w = actK l w (idM (d0 l)) := by rw [actK_eq]; rfl
  rw [e]
  refine EV.pos (by omega) (EV.bind (a := idM (d0 l)) ?_ ?_)
  · rw [rdL_zero]; exact impl_identity_is (d0 l) (by omega)
  · refine EV.fold (g := fun k s i => impl_act.l0 k l s w (w.length : Int) i) w (fun out a => thenM out (stepP l a)) id (fun _ s => s.length = d0 l ∧ ∀ x ∈ s, 0 ≤ x ∧ x < d0 l) (fun i h s r hI H => ?_) (fun s hI => ?_) _ (idM_I _)
    · have ha := hw _ (List.getElem_mem h)
      have I := stepP_I hs ha.1 ha.2.1
      have hi : (w[i]).natAbs - 1 < l.length := by omega
      have row := S.2.2.2 _ (List.getElem_mem hi)
      have e : l.getD ((w[i]).natAbs - 1) [] = l[(w[i]).natAbs - 1] := by simp [hi]
      have H := H (thenM_I hI I)
      refine EV.step (fun k => by rw [impl_act.l0]) ?_
      rw [rd_nat _ _ h, w64 (x := (i : Int) + 1) (by omega) (by omega)]
      refine EV.pos (by omega) (EV.pos (by omega) (EV.pos (by omega) (EV.by (impl_size_is _ (by omega) (by omega)) ?_)))
      rw [w64 (x := ((w[i]).natAbs : Int) - 1) (by omega) (by omega), show (((w[i]).natAbs : Int) - 1) = (((w[i]).natAbs - 1 : Nat) : Int) by omega, rdL_nat _ _ hi]
      refine EV.pos (by omega) (EV.pos (by omega) ?_)
      by_cases hneg : w[i] < 0
      · have e2 : stepP l w[i] = invM l[(w[i]).natAbs - 1] := by unfold stepP; rw [if_pos hneg, e]
        rw [e2] at I H
        exact EV.pos hneg (EV.bind (impl_inversePermutation_is _ (permB_of row.2).1 (by omega)) (EV.bind (impl_then_is s _ (by rw [I.1]; exact hI.2) (by omega)) H))
      · have e2 : stepP l w[i] = l[(w[i]).natAbs - 1] := by unfold stepP; rw [if_neg hneg, e]
        rw [e2] at I H
        exact EV.neg hneg (EV.bind (impl_then_is s _ (by rw [I.1]; exact hI.2) (by omega)) H)
    · refine EV.step (fun k => by rw [impl_act.l0]) ?_
      exact EV.neg (by omega) (EV.now _)

theorem impl_relator_is (g : Int) : impl_relator.f g = some (if g = 1 then [1, 2, -1, -2] else [1, 2, -1, -2, 3, 4, -3, -4]) := by
  unfold impl_relator.f
  split <;> rfl

theorem impl_within_is (a b c : Int) : impl_within.f a b c = some (decide (b ≤ a ∧ a ≤ c)) := by
  unfold impl_within.f
  by_cases h : a ≥ b
  · rw [if_pos h]; simp [show b ≤ a from h]
  · rw [if_neg h]; simp; omega

theorem impl_isPermutation_l0 (p : List Int) (hn : p.length < 4611686018427387904) : ∀ (suf pre : List Int), p = pre ++ suf → pre.Nodup →
    EV (fun k => impl_isPermutation.l0 k p (seenM p.length pre) p (p.length : Int) (pre.length : Int)) (suf.all (inB p.length) && decide (pre ++ suf).Nodup) := by
  intro suf
  induction suf with
  | nil =>
    intro pre h hp
    refine EV.step (fun k => by rw [impl_isPermutation.l0]) ?_
    exact EV.neg (by subst h; simp) ((EV.now _).eq (by simp [hp]))
  | cons x suf ih =>
    intro pre h hp
    have hpl : pre.length < 4611686018427387904 := by subst h; simp at hn; omega
    have hlt : (pre.length : Int) < (p.length : Int) := by subst h; exact lt_app ..
    have hx : rd p (pre.length : Int) = x := by subst h; exact rd_app ..
    refine EV.step (fun k => by rw [impl_isPermutation.l0]) ?_
    rw [hx, up (x := x) hpl, w64 (x := (p.length : Int) - 1) (by omega) (by omega)]
    refine EV.pos hlt (EV.pos (by omega) (EV.pos hlt (EV.by (impl_within_is _ _ _) ?_)))
    by_cases hb : inB p.length x = true
    · have b := inB_of hb
      refine EV.pos (by simp; omega) (EV.pos b.1 (EV.pos (by simp [seenM]; omega) ?_))
      rw [show rdOf false (seenM p.length pre) x = decide (x ∈ pre) by unfold seenM; rw [rdOf_tab _ _ _ _ b.1 b.2, show ((x.toNat : Nat) : Int) = x by omega]]
      by_cases hm : x ∈ pre
      · refine EV.pos (by simpa using hm) ((EV.now _).eq ?_)
        rw [decide_eq_false, Bool.and_false]
        intro c
        exact (List.nodup_append.1 c).2.2 x hm x (by simp) rfl
      · refine EV.neg (by simpa using hm) ?_
        rw [seenM_snoc _ _ _ b.1]
        refine (ih (pre ++ [x]) (by simp [h]) ?_).eq (by simp [hb])
        rw [List.nodup_append]
        refine ⟨hp, by simp, fun a ha c hc => ?_⟩
        rw [List.mem_singleton] at hc
        intro e; exact hm (by rw [← hc, ← e]; exact ha)
    · refine EV.neg (by simp only [inB, decide_eq_true_iff] at hb; simp; omega) ((EV.now _).eq ?_)
      rw [List.all_cons, show inB p.length x = false by simpa using hb]; simp
theorem impl_isPermutation_is (p : List Int) (hn : p.length < 4294967296) : EV (fun k => impl_isPermutation.f k p) (permB p) := by
  refine EV.pos (by omega) (EV.pos (by omega) ?_)
  have := impl_isPermutation_l0 p (by omega) p [] rfl List.nodup_nil
  rw [seenM_nil] at this
  exact this

theorem impl_areSheets_is (l : List (List Int)) (hn : l.length < 4294967296) (hr : ∀ r ∈ l, r.length < 4294967296) : EV (fun k => impl_areSheets.f k l) (sheetsB l) := by
  have := EV.scan (g := fun k i => impl_areSheets.l0 k l l (l.length : Int) i) l (fun r => decide (1 ≤ r.length ∧ r.length ≤ 5) && sheetB (d0 l) r) (decide (0 < l.length)) (fun i h r H1 H2 => ?_) ?_
  · refine EV.eq this ?_
    rw [Bool.eq_iff_iff]
    simp only [sheetsB, sheetB, Bool.and_eq_true, decide_eq_true_iff, List.all_eq_true]
    constructor
    · intro h
      have z := h.1 _ (List.getElem_mem h.2)
      exact ⟨h.2, by omega, fun r hr => (h.1 r hr).2⟩
    · intro h
      exact ⟨fun r hr => ⟨by have := h.2.2 r hr; omega, h.2.2 r hr⟩, h.1⟩
  · refine EV.step (fun k => by rw [impl_areSheets.l0]) ?_
    rw [rdL_nat _ _ h, w64 (x := (i : Int) + 1) (by omega) (by omega), rdL_zero]
    refine EV.pos (by omega) (EV.pos (by omega) (EV.pos (by omega) (EV.pos (by omega) ?_)))
    by_cases hl : (l[i]).length = d0 l
    · refine EV.pos (by unfold d0 at hl; omega) (EV.by (impl_within_is _ _ _) ?_)
      by_cases h5 : 1 ≤ (l[i]).length ∧ (l[i]).length ≤ 5
      · refine EV.pos (by simp; omega) (EV.bind (impl_isPermutation_is _ (hr _ (List.getElem_mem h))) ?_)
        exact EV.cases (fun c => H1 (by simp only [sheetB, c, decide_eq_true hl, decide_eq_true h5, Bool.and_self])) (fun c => (EV.now _).eq (H2 (by simp only [sheetB, show permB l[i] = false by simpa using c, Bool.and_false])).symm)
      · exact EV.neg (by simp; omega) ((EV.now _).eq (H2 (by simp only [decide_eq_false h5, Bool.false_and])).symm)
    · exact EV.neg (by unfold d0 at hl; omega) ((EV.now _).eq (H2 (by simp [sheetB, hl])).symm)
  · refine EV.step (fun k => by rw [impl_areSheets.l0]) ?_
    exact EV.neg (by omega) ((EV.now _).eq (by rw [Bool.eq_iff_iff]; simp))

theorem impl_sameInts_is (xs ys : List Int) (hn : xs.length < 4294967296) : EV (fun k => impl_sameInts.f k xs ys) (decide (xs = ys)) := by
  by_cases h : xs.length = ys.length
  · refine EV.pos (by omega) ?_
    have := EV.countB (g := fun k i => impl_sameInts.l0 k xs ys (xs.length : Int) i) xs.length (fun i => decide (xs.getD i 0 = ys.getD i 0)) true (fun i hi r H1 H2 => ?_) ?_
    · refine EV.eq this ?_
      rw [Bool.eq_iff_iff, Bool.and_true, List.all_eq_true, decide_eq_true_iff]
      constructor
      · intro hh
        apply List.ext_getElem h
        intro i h1 h2
        have := hh i (List.mem_range.2 h1)
        rw [decide_eq_true_iff] at this
        simpa [h1, h2] using this
      · intro e i _; rw [e]; simp
    · have hi' : i < ys.length := by omega
      have e1 : xs.getD i 0 = xs[i] := by simp [hi]
      have e2 : ys.getD i 0 = ys[i] := by simp [hi']
      rw [e1, e2] at H1 H2
      refine EV.step (fun k => by rw [impl_sameInts.l0]) ?_
      rw [rd_nat _ _ hi, rd_nat _ _ hi', w64 (x := (i : Int) + 1) (by omega) (by omega)]
      refine EV.pos (by omega) (EV.pos (by omega) (EV.pos (by omega) (EV.pos (by omega) ?_)))
      exact EV.cases (fun c => H1 (by simpa using c)) (fun c => (EV.now _).eq (H2 (by simpa using c)).symm)
    · refine EV.step (fun k => by rw [impl_sameInts.l0]) ?_
      exact EV.neg (by omega) (EV.now _)
  · exact EV.neg (by omega) ((EV.now _).eq (by simp; intro e; exact h (by rw [e])))

def mxM (a : Int) : Int := if 1 > a then 1 else a
def actionB (g : Int) (l : List (List Int)) : Bool := decide (0 ≤ g ∧ g ≤ 2) && (decide ((l.length : Int) = 2 * mxM g) && (sheetsB l && (decide (g = 0) || decide (actL l (relM g) = idM (d0 l)))))
theorem rel_ok {g : Int} {l : List (List Int)} (h : g = 1 ∨ g = 2) (hl : (l.length : Int) = 2 * g) : wordOk l (relM g) = true := by
  rcases h with rfl | rfl
  · have : l.length = 2 := by omega
    simp [wordOk, wordB, relM, letterB, leB, this]
  · have : l.length = 4 := by omega
    simp [wordOk, wordB, relM, letterB, leB, this]
theorem mxM_of {g : Int} (h : 0 ≤ g ∧ g ≤ 2) : (g = 0 ∧ mxM g = 1) ∨ ((g = 1 ∨ g = 2) ∧ mxM g = g) := by
  unfold mxM; split <;> omega
theorem relM_len {g : Int} : (relM g).length ≤ 8 := by
  unfold relM; split
  · simp
  · split <;> simp

theorem impl_IsAction_is (g : Int) (l : List (List Int)) (hn : l.length < 4294967296) (hr : ∀ r ∈ l, r.length < 4294967296) : EV (fun k => impl_IsAction.f k g l) (actionB g l) := by
  have no : EV (fun k => impl_IsAction.j0 k g l true) false := by
    refine EV.step (fun k => by rw [impl_IsAction.j0]) ?_
    exact EV.pos rfl (EV.now _)
  unfold actionB
  refine EV.by (impl_within_is _ _ _) ?_
  by_cases h1 : 0 ≤ g ∧ g ≤ 2
  · rw [decide_eq_true h1, Bool.true_and]
    have m := mxM_of h1
    have e : mx (wrap64 (2 * g)) 2 = 2 * mxM g := by
      rw [w64 (by omega) (by omega)]; unfold mx; split <;> omega
    rw [e]
    refine EV.pos rfl ?_
    by_cases h3 : (l.length : Int) = 2 * mxM g
    · rw [decide_eq_true h3, Bool.true_and]
      refine EV.pos h3 (EV.bind (impl_areSheets_is l hn hr) ?_)
      by_cases h2 : sheetsB l = true
      · have S := sheetsB_of h2
        rw [h2, Bool.true_and]
        refine EV.step (fun k => by rw [impl_IsAction.j0]) ?_
        refine EV.neg (by simp) ?_
        by_cases h0 : g = 0
        · exact EV.pos h0 ((EV.now _).eq (by simp [h0]))
        · have hm : (g = 1 ∨ g = 2) ∧ mxM g = g := by omega
          have er : (if g = 1 then [1, 2, -1, -2] else [1, 2, -1, -2, 3, 4, -3, -4] : List Int) = relM g := by
            unfold relM
            split
            · rfl
            · rw [if_pos (by omega)]
          refine EV.neg h0 (EV.by (impl_relator_is _) ?_)
          rw [er]
          have hok := rel_ok (l := l) hm.1 (by rw [h3, hm.2])
          refine EV.bind (impl_act_is l _ h2 (letters_of hok).1 (by have := @relM_len g; omega)) (EV.pos (by omega) (EV.bind (a := idM (d0 l)) ?_ ?_))
          · rw [rdL_zero]; exact impl_identity_is (d0 l) (by omega)
          · refine EV.bind (impl_sameInts_is _ _ (by rw [actL_len]; omega)) ((EV.now _).eq ?_)
            rw [decide_eq_false h0, Bool.false_or]
      · rw [show sheetsB l = false by simpa using h2, Bool.false_and]; exact no
    · rw [decide_eq_false h3, Bool.false_and]
      exact EV.neg h3 no
  · rw [decide_eq_false h1, Bool.false_and]
    exact EV.neg (by simp) no

theorem impl_top_N {n : Nat} {up : List Int} (hu : upB n up) : ∀ (m : Nat) (s : Int), 0 ≤ s → s < n → s.toNat ≤ m → EV (fun k => impl_parts.top k up s) (rootN up m s)
  | 0, s, h0, h1, hm => by
    have a := up_get hu h0 h1
    refine EV.step (fun k => by rw [impl_parts.top]) ?_
    rw [rd_getD]
    refine EV.pos h0 (EV.pos (by have := hu.1; omega) (EV.pos (by omega) ((EV.now _).eq rfl)))
  | m + 1, s, h0, h1, hm => by
    have a := up_get hu h0 h1
    refine EV.step (fun k => by rw [impl_parts.top]) ?_
    rw [rd_getD]
    refine EV.pos h0 (EV.pos (by have := hu.1; omega) ?_)
    simp only [rootN]
    by_cases e : up.getD s.toNat 0 = s
    · rw [if_pos e]; exact EV.pos e (EV.now _)
    · rw [if_neg e]
      exact EV.neg e (impl_top_N hu m _ a.1 (by omega) (by omega))
theorem impl_top_is {n : Nat} {up : List Int} (hu : upB n up) {s : Int} (h0 : 0 ≤ s) (h1 : s < n) : EV (fun k => impl_parts.top k up s) (rootI up s) := impl_top_N hu _ s h0 h1 (Nat.le_refl _)
theorem impl_join_is {n : Nat} {up : List Int} (hu : upB n up) {a b : Int} (ha : 0 ≤ a ∧ a < n) (hb : 0 ≤ b ∧ b < n) : EV (fun k => impl_parts.join k up a b) (joinM up a b) := by
  have ra := rootI_le hu ha.1 ha.2
  have rb := rootI_le hu hb.1 hb.2
  have hl := hu.1
  refine EV.bind (impl_top_is hu ha.1 ha.2) (EV.bind (impl_top_is hu hb.1 hb.2) ?_)
  exact EV.cases (fun h => EV.pos (by omega) (EV.pos (by omega) ((EV.now _).eq (by unfold joinM; rw [if_pos h])))) (fun h => EV.pos (by omega) (EV.pos (by omega) ((EV.now _).eq (by unfold joinM; rw [if_neg h]))))
theorem impl_parts_own {l : List (List Int)} {up : List Int} (hu : upB (d0 l) up) (hn : d0 l ≤ 5) (s : Nat) (hs : s < d0 l) (out : List (List Int)) (ho : out.length ≤ 5) (R : List (List Int))
    (H : EV (fun k => impl_parts.l3 k l up (out ++ [ownM (d0 l) up s]) (wrap64 ((s : Int) + 1))) R) : EV (fun k => impl_parts.l4 k l up out (s : Int) [] 0) R := by
  have hrow : (rd_L2 l 0).length = d0 l := by rw [rdL_zero]; rfl
  refine EV.foldC (g := fun k own t => impl_parts.l4 k l up out (s : Int) own t) (List.range (d0 l)) (fun own (t : Nat) => if rootI up (t : Int) = (s : Int) then own ++ [(t : Int)] else own) (fun i own => own.length ≤ i) R (fun i hi own hI K => ?_) [] (by simp) (fun hI => ?_)
  · have hi' : i < d0 l := by simpa using hi
    rw [List.getElem_range] at K
    refine EV.step (fun k => by rw [impl_parts.l4]) ?_
    rw [hrow, w64 (x := (i : Int) + 1) (by omega) (by omega)]
    refine EV.pos (by omega) (EV.bind (impl_top_is hu (by omega) (by omega)) ?_)
    by_cases e : rootI up (i : Int) = (s : Int)
    · rw [if_pos e] at K
      exact EV.pos e (EV.pos (by omega) (K (by simp; omega)))
    · rw [if_neg e] at K
      exact EV.neg e (K (by omega))
  · rw [List.length_range]
    refine EV.step (fun k => by rw [impl_parts.l4]) ?_
    rw [hrow]
    exact EV.neg (by omega) (EV.pos (by omega) H)
theorem impl_parts_out {l : List (List Int)} {up : List Int} (hu : upB (d0 l) up) (hn : d0 l ≤ 5) : EV (fun k => impl_parts.l3 k l up [] 0) (outM2 (d0 l) up) := by
  have hrow : (rd_L2 l 0).length = d0 l := by rw [rdL_zero]; rfl
  refine EV.fold (g := fun k out s => impl_parts.l3 k l up out s) (List.range (d0 l)) (fun out (s : Nat) => if up.getD s 0 = (s : Int) then out ++ [ownM (d0 l) up s] else out) id (fun i out => out.length ≤ i) (fun i hi out r hI K => ?_) (fun out hI => ?_) [] (by simp)
  · have hi' : i < d0 l := by simpa using hi
    rw [List.getElem_range] at K
    refine EV.step (fun k => by rw [impl_parts.l3]) ?_
    rw [hrow]
    refine EV.pos (by omega) (EV.bind (impl_top_is hu (by omega) (by omega)) ?_)
    have sf := rootI_self hu (s := (i : Int)) (by omega) (by omega)
    rw [Int.toNat_natCast] at sf
    by_cases e : up.getD i 0 = (i : Int)
    · rw [if_pos e] at K
      refine EV.pos (sf.2 e) (impl_parts_own hu hn i hi' out (by omega) r ?_)
      rw [w64 (x := (i : Int) + 1) (by omega) (by omega)]
      exact K (by simp; omega)
    · rw [if_neg e] at K
      rw [w64 (x := (i : Int) + 1) (by omega) (by omega)]
      exact EV.neg (fun h => e (sf.1 h)) (K (by omega))
  · rw [List.length_range]
    refine EV.step (fun k => by rw [impl_parts.l3]) ?_
    rw [hrow]
    exact EV.neg (by omega) (EV.now _)
theorem impl_parts_row {l : List (List Int)} (hs : sheetsB l = true) (hn : l.length ≤ 1000) (i : Nat) (hi : i < l.length) (up : List Int) (hu : upB (d0 l) up) (R : List (List Int))
    (H : upB (d0 l) (rowM (d0 l) up l[i]) → EV (fun k => impl_parts.l1 k l (rowM (d0 l) up l[i]) (wrap64 ((i : Int) + 1))) R) : EV (fun k => impl_parts.l2 k l up (i : Int) 0) R := by
  have s := sheetsB_of hs
  have row := s.2.2.2 _ (List.getElem_mem hi)
  have P := (permB_of row.2).1
  refine EV.foldC (g := fun k up s => impl_parts.l2 k l up (i : Int) s) (List.range (d0 l)) (fun up (s : Nat) => joinM up (s : Int) (l[i].getD s 0)) (fun _ up => upB (d0 l) up) R (fun j hj up hI K => ?_) up hu (fun hI => ?_)
  · have hj' : j < d0 l := by simpa using hj
    have hj2 : j < l[i].length := by omega
    rw [List.getElem_range] at K
    have hx : 0 ≤ l[i].getD j 0 ∧ l[i].getD j 0 < (d0 l : Nat) := by
      rw [List.getD_eq_getElem?_getD, List.getElem?_eq_getElem hj2]
      have := P _ (List.getElem_mem hj2)
      simp only [Option.getD_some]; omega
    refine EV.step (fun k => by rw [impl_parts.l2]) ?_
    rw [rdL_nat _ _ hi, rd_getD, Int.toNat_natCast, w64 (x := (j : Int) + 1) (by omega) (by omega)]
    exact EV.pos (by omega) (EV.pos (by omega) (EV.bind (impl_join_is hI (by omega) hx) (K (joinM_I hI (by omega) hx))))
  · rw [List.length_range]
    refine EV.step (fun k => by rw [impl_parts.l2]) ?_
    rw [rdL_nat _ _ hi]
    exact EV.neg (by omega) (H hI)
theorem impl_parts_is {l : List (List Int)} (hs : sheetsB l = true) (hn : l.length ≤ 1000) : EV (fun k => impl_parts.f k l) (partsM l) := by
  have s := sheetsB_of hs
  have hrow : (rd_L2 l 0).length = d0 l := by rw [rdL_zero]; rfl
  refine EV.pos (by omega) (EV.bind (a := idM (d0 l)) ?_ ?_)
  · rw [hrow]
    refine EV.count (g := fun k up i => impl_parts.new k up ((d0 l : Nat) : Int) i) (d0 l) (fun i => idM i) _ (fun i hi H => ?_) ?_
    · refine EV.step (fun k => by rw [impl_parts.new]) ?_
      rw [w64 (x := (i : Int) + 1) (by omega) (by omega)]
      refine EV.pos (by omega) (EV.pos (by simp [idM]; omega) ?_)
      have e : idM (i + 1) = idM i ++ [(i : Int)] := by simp [idM, List.range_succ]
      rw [e] at H; exact H
    · refine EV.step (fun k => by rw [impl_parts.new]) ?_
      exact EV.neg (by omega) (EV.now _)
  · refine EV.foldC (g := fun k up i => impl_parts.l1 k l up i) l (rowM (d0 l)) (fun _ up => upB (d0 l) up) _ (fun i hi up hI K => ?_) (idM (d0 l)) (upB_id _) (fun hI => ?_)
    · refine EV.step (fun k => by rw [impl_parts.l1]) ?_
      refine EV.pos (by omega) (EV.pos (by omega) (impl_parts_row hs hn i hi up hI _ (fun h => ?_)))
      rw [w64 (x := (i : Int) + 1) (by omega) (by omega)]
      exact K h
    · refine EV.step (fun k => by rw [impl_parts.l1]) ?_
      exact EV.neg (by omega) (impl_parts_out (allM_I hs) s.2.2.1)

theorem impl_indexOf_is (xs : List Int) (x : Int) (h : xs.length < 4611686018427387904) : ∃ j, EV (fun k => impl_indexOf.f k xs x) j ∧ (0 ≤ j ↔ xs.contains x = true) := by
  suffices H : ∀ (n i : Nat), i + n = xs.length → ∃ j, EV (fun k => impl_indexOf.l0 k x xs (xs.length : Int) (i : Int)) j ∧ (0 ≤ j ↔ x ∈ xs.drop i) by
    obtain ⟨j, h1, h2⟩ := H xs.length 0 (by omega)
    exact ⟨j, h1, by simpa using h2⟩
  intro n
  induction n with
  | zero =>
    intro i hi
    refine ⟨-1, ?_, by rw [List.drop_of_length_le (by omega)]; simp⟩
    refine EV.step (fun k => by rw [impl_indexOf.l0]) ?_
    exact EV.neg (by omega) (EV.now _)
  | succ n ih =>
    intro i hi
    have hlt : i < xs.length := by omega
    rw [List.drop_eq_getElem_cons hlt]
    obtain ⟨j, h1, h2⟩ := ih (i + 1) (by omega)
    by_cases e : xs[i] = x
    · refine ⟨(i : Int), ?_, by simp [e]⟩
      refine EV.step (fun k => by rw [impl_indexOf.l0]) ?_
      rw [rd_nat _ _ hlt]
      exact EV.pos (by omega) (EV.pos (by omega) (EV.pos (by omega) (EV.pos e (EV.now _))))
    · refine ⟨j, ?_, by
        rw [h2, List.mem_cons]
        exact ⟨.inr, fun h => h.elim (fun h => absurd h.symm e) id⟩⟩
      refine EV.step (fun k => by rw [impl_indexOf.l0]) ?_
      rw [rd_nat _ _ hlt, w64 (x := (i : Int) + 1) (by omega) (by omega)]
      exact EV.pos (by omega) (EV.pos (by omega) (EV.pos (by omega) (EV.neg e (by exact_mod_cast h1))))

theorem impl_mod_is (a n : Nat) (hn : 0 < n) : impl_mod.f (a : Int) (n : Int) = some ((a % n : Nat) : Int) := by
  unfold impl_mod.f
  have e : Int.tmod (a : Int) (n : Int) = ((a % n : Nat) : Int) := by
    rw [Int.tmod_eq_emod_of_nonneg (by omega)]; omega
  rw [e, if_neg (by omega), if_neg (by omega)]

theorem impl_surf_b (h b : Nat) (hh : h ≤ 20) (hb : b ≤ 20) (e : Int) (he : e = 2 - 2 * (h : Int) - (b : Int)) : impl_surfaceWith.f e (b : Int) true = some ((h : Int), 0, (b : Int), true) := by
  unfold impl_surfaceWith.f
  rw [if_pos rfl]
  have e1 : wrap64 (wrap64 (2 - e) - (b : Int)) = ((2 * h : Nat) : Int) := by
    rw [w64 (x := 2 - e) (by omega) (by omega), w64 (by omega) (by omega)]; omega
  rw [e1, show (2 : Int) = ((2 : Nat) : Int) from rfl, impl_mod_is (2 * h) 2 (by decide)]
  simp only [Option.bind_some]
  rw [if_pos (by omega)]
  have e2 : wrap64 (Int.tdiv ((2 * h : Nat) : Int) ((2 : Nat) : Int)) = (h : Int) := by
    rw [show Int.tdiv ((2 * h : Nat) : Int) ((2 : Nat) : Int) = (h : Int) by
      rw [Int.tdiv_eq_ediv_of_nonneg (by omega)]; omega]
    exact w64 (by omega) (by omega)
  rw [e2]
  have e3 : impl_IsSurface.f (h : Int) 0 (b : Int) = some true := by
    unfold impl_IsSurface.f
    rw [impl_within_is, impl_within_is, impl_within_is]
    have b1 : decide (0 ≤ (h : Int) ∧ (h : Int) ≤ 20) = true := by simp; omega
    have b2 : decide (0 ≤ (b : Int) ∧ (b : Int) ≤ 20) = true := by simp; omega
    rw [b1, b2]
    simp
  rw [e3]; rfl

theorem spec_l1In_is (a b c : Int) : spec_l1In.f a b c = some (decide (b ≤ a ∧ a ≤ c)) := by
  unfold spec_l1In.f
  by_cases h : a ≥ b
  · rw [if_pos h]; simp [show b ≤ a from h]
  · rw [if_neg h]; simp; omega

theorem spec_l6Perm_l0 (p : List Int) (hn : p.length < 4611686018427387904) : ∀ (suf pre : List Int), p = pre ++ suf → pre.Nodup →
    EV (fun k => spec_l6Perm.l0 k p (seenM p.length pre) (pre.length : Int)) (suf.all (inB p.length) && decide (pre ++ suf).Nodup) := by
  intro suf
  induction suf with
  | nil =>
    intro pre h hp
    refine EV.step (fun k => by rw [spec_l6Perm.l0]) ?_
    exact EV.neg (by subst h; simp) ((EV.now _).eq (by simp [hp]))
  | cons x suf ih =>
    intro pre h hp
    have hpl : pre.length < 4611686018427387904 := by subst h; simp at hn; omega
    have hlt : (pre.length : Int) < (p.length : Int) := by subst h; exact lt_app ..
    have hx : rd p (pre.length : Int) = x := by subst h; exact rd_app ..
    refine EV.step (fun k => by rw [spec_l6Perm.l0]) ?_
    rw [hx, up (x := x) hpl, w64 (x := (p.length : Int) - 1) (by omega) (by omega)]
    refine EV.pos hlt (EV.pos (by omega) (EV.by (spec_l1In_is _ _ _) ?_))
    by_cases hb : inB p.length x = true
    · have b := inB_of hb
      refine EV.pos (by simp; omega) (EV.pos b.1 (EV.pos (by simp [seenM]; omega) ?_))
      rw [show rdOf false (seenM p.length pre) x = decide (x ∈ pre) by unfold seenM; rw [rdOf_tab _ _ _ _ b.1 b.2, show ((x.toNat : Nat) : Int) = x by omega]]
      by_cases hm : x ∈ pre
      · refine EV.pos (by simpa using hm) ((EV.now _).eq ?_)
        rw [decide_eq_false, Bool.and_false]
        intro c
        exact (List.nodup_append.1 c).2.2 x hm x (by simp) rfl
      · refine EV.neg (by simpa using hm) ?_
        rw [seenM_snoc _ _ _ b.1]
        refine (ih (pre ++ [x]) (by simp [h]) ?_).eq (by simp [hb])
        rw [List.nodup_append]
        refine ⟨hp, by simp, fun a ha c hc => ?_⟩
        rw [List.mem_singleton] at hc
        intro e; exact hm (by rw [← hc, ← e]; exact ha)
    · refine EV.neg (by simp only [inB, decide_eq_true_iff] at hb; simp; omega) ((EV.now _).eq ?_)
      rw [List.all_cons, show inB p.length x = false by simpa using hb]; simp
theorem spec_l6Perm_is (p : List Int) (hn : p.length < 4294967296) : EV (fun k => spec_l6Perm.f k p) (permB p) := by
  refine EV.pos (by omega) (EV.pos (by omega) ?_)
  have := spec_l6Perm_l0 p (by omega) p [] rfl List.nodup_nil
  rw [seenM_nil] at this
  exact this

theorem spec_l9Perms_is (l : List (List Int)) (hn : l.length < 4294967296) (hr : ∀ r ∈ l, r.length < 4294967296) : EV (fun k => spec_l9Perms.f k l) (permsB l) := by
  have := EV.scan (g := fun k i => spec_l9Perms.l0 k l i) l (sheetB (d0 l)) (decide (1 ≤ l.length ∧ l.length ≤ 8) && decide (1 ≤ d0 l ∧ d0 l ≤ 5)) (fun i h r H1 H2 => ?_) ?_
  · refine EV.eq this ?_
    rw [Bool.eq_iff_iff]
    simp only [permsB, sheetsB, Bool.and_eq_true, decide_eq_true_iff]
    constructor
    · intro h; exact ⟨⟨by omega, h.2.2, h.1⟩, by omega⟩
    · intro h; exact ⟨h.1.2.2, ⟨by omega, by omega⟩, h.1.2.1⟩
  · refine EV.step (fun k => by rw [spec_l9Perms.l0]) ?_
    rw [rdL_nat _ _ h, w64 (x := (i : Int) + 1) (by omega) (by omega), rdL_zero]
    refine EV.pos (by omega) (EV.pos (by omega) (EV.pos (by omega) ?_))
    by_cases hl : (l[i]).length = d0 l
    · refine EV.pos (by unfold d0 at hl; omega) (EV.bind (spec_l6Perm_is _ (hr _ (List.getElem_mem h))) ?_)
      exact EV.cases (fun c => H1 (by simp [sheetB, hl, c])) (fun c => (EV.now _).eq (H2 (by simp [sheetB, hl]; simpa using c)).symm)
    · exact EV.neg (by unfold d0 at hl; omega) ((EV.now _).eq (H2 (by simp [sheetB, hl])).symm)
  · refine EV.step (fun k => by rw [spec_l9Perms.l0]) ?_
    refine EV.neg (by omega) (EV.by (spec_l1In_is _ _ _) ?_)
    by_cases h : 1 ≤ l.length ∧ l.length ≤ 8
    · refine EV.pos (by simp; omega) (EV.pos (by omega) (EV.by (spec_l1In_is _ _ _) ((EV.now _).eq ?_)))
      rw [rdL_zero, Bool.eq_iff_iff]
      simp [d0]; omega
    · refine EV.neg (by simp; omega) ((EV.now _).eq ?_)
      simp [h]

theorem spec_l2Letter_is (a : Int) : spec_l2Letter.f a = some (letterB a) := by
  unfold spec_l2Letter.f
  rw [spec_l1In_is, spec_l1In_is]
  simp only [Option.bind_some]
  by_cases h : 1 ≤ a ∧ a ≤ 8
  · rw [if_pos (by simp [h])]; simp [letterB]; omega
  · rw [if_neg (by simpa using h)]; simp [letterB]; congr 1; rw [Bool.eq_iff_iff]; simp; omega

theorem spec_IsWord_is (xs : List Int) (hn : xs.length < 4611686018427387904) : EV (fun k => spec_IsWord.f k xs) (wordB xs) := by
  refine EV.scan (g := fun k i => spec_IsWord.l0 k xs i) xs letterB (decide (xs.length ≤ 24)) (fun i h r H1 H2 => ?_) ?_
  · refine EV.step (fun k => by rw [spec_IsWord.l0]) ?_
    rw [rd_nat _ _ h, w64 (x := (i : Int) + 1) (by omega) (by omega)]
    refine EV.pos (by omega) (EV.pos (by omega) (EV.by (spec_l2Letter_is _) ?_))
    exact EV.cases H1 (fun c => (EV.now _).eq (H2 (by simpa using c)).symm)
  · refine EV.step (fun k => by rw [spec_IsWord.l0]) ?_
    refine EV.neg (by omega) ((EV.now _).eq ?_)
    rw [Bool.eq_iff_iff]; simp; omega

theorem spec_l1Max_is (a b : Int) : spec_l1Max.f a b = some (if a > b then a else b) := by
  unfold spec_l1Max.f; split <;> rfl

theorem spec_l3Abs_is (a : Int) (h : -9223372036854775808 < a) (h' : a ≤ 9223372036854775807) : spec_l3Abs.f a = some (a.natAbs : Int) := by
  unfold spec_l3Abs.f
  rw [spec_l1Max_is, w64 (by omega) (by omega)]
  simp only [Option.bind_some]
  congr 1
  split <;> omega

theorem spec_l6Inverse_is (p : List Int) (hp : ∀ x ∈ p, 0 ≤ x ∧ x < p.length) (hn : p.length < 4294967296) : EV (fun k => spec_l6Inverse.f k p) (invM p) := by
  refine EV.pos (by omega) (EV.pos (by omega) ?_)
  refine EV.count (g := fun k s i => spec_l6Inverse.l0 k p s i) p.length (invK p) _ (fun i hi H => ?_) ?_
  · have hx := hp _ (List.getElem_mem hi)
    have hl : (invK p i).length = p.length := (invK_I p (by omega) i (by omega)).1
    refine EV.step (fun k => by rw [spec_l6Inverse.l0]) ?_
    rw [rd_nat _ _ hi, w64 (x := (i : Int) + 1) (by omega) (by omega)]
    refine EV.pos (by omega) (EV.pos (by omega) (EV.pos (by omega) (EV.pos (by omega) ?_)))
    rw [invK_succ] at H
    have e : p.getD i 0 = p[i] := by simp [hi]
    rw [e] at H
    exact H
  · refine EV.step (fun k => by rw [spec_l6Inverse.l0]) ?_
    exact EV.neg (by omega) (EV.now _)

theorem spec_l9Act_is (l : List (List Int)) (w : List Int) (s : Int) (hs : sheetsB l = true) (hw : lettersB l w) (hn : w.length < 4294967296) (h0 : 0 ≤ s) (h1 : s < d0 l) : EV (fun k => spec_l9Act.f k l w s) (actS l w s) := by
  have S := sheetsB_of hs
  refine EV.fold (g := fun k s i => spec_l9Act.l0 k l w s i) w (fun s a => (stepP l a).getD s.toNat 0) id (fun _ s => 0 ≤ s ∧ s < d0 l) (fun i h s r hI H => ?_) (fun s hI => ?_) s ⟨h0, h1⟩
  · have ha := hw _ (List.getElem_mem h)
    have I := stepP_I hs ha.1 ha.2.1
    have hi : (w[i]).natAbs - 1 < l.length := by omega
    have row := S.2.2.2 _ (List.getElem_mem hi)
    have e : l.getD ((w[i]).natAbs - 1) [] = l[(w[i]).natAbs - 1] := by simp [hi]
    have H := H (getD_in I.1 I.2 hI.1 hI.2)
    refine EV.step (fun k => by rw [spec_l9Act.l0]) ?_
    rw [rd_nat _ _ h, w64 (x := (i : Int) + 1) (by omega) (by omega)]
    refine EV.pos (by omega) (EV.pos (by omega) (EV.by (spec_l3Abs_is _ (by omega) (by omega)) ?_))
    rw [w64 (x := ((w[i]).natAbs : Int) - 1) (by omega) (by omega), show (((w[i]).natAbs : Int) - 1) = (((w[i]).natAbs - 1 : Nat) : Int) by omega, rdL_nat _ _ hi]
    refine EV.pos (by omega) (EV.pos (by omega) ?_)
    by_cases hneg : w[i] < 0
    · refine EV.pos hneg (EV.bind (spec_l6Inverse_is _ (permB_of row.2).1 (by omega)) ?_)
      have e2 : stepP l w[i] = invM l[(w[i]).natAbs - 1] := by unfold stepP; rw [if_pos hneg, e]
      rw [e2] at I H
      exact EV.pos hI.1 (EV.pos (by omega) H)
    · refine EV.neg hneg ?_
      have e2 : stepP l w[i] = l[(w[i]).natAbs - 1] := by unfold stepP; rw [if_neg hneg, e]
      rw [e2] at I H
      exact EV.pos hI.1 (EV.pos (by omega) H)
  · refine EV.step (fun k => by rw [spec_l9Act.l0]) ?_
    exact EV.neg (by omega) (EV.now _)

theorem spec_ActWord_is (l : List (List Int)) (w : List Int) (hn : l.length < 4294967296) (hr : ∀ r ∈ l, r.length < 4294967296) (hw : w.length < 4294967296) : EV (fun k => spec_ActWord.f k l w) (actM l w) := by
  have no : EV (fun k => spec_ActWord.j0 k l w true) [] := by
    refine EV.step (fun k => by rw [spec_ActWord.j0]) ?_
    exact EV.pos rfl (EV.now _)
  unfold actM
  refine EV.bind (spec_l9Perms_is l hn hr) ?_
  by_cases h1 : permsB l = true
  · refine EV.pos h1 (EV.bind (spec_IsWord_is w (by omega)) ?_)
    have hs : sheetsB l = true := by have := h1; simp only [permsB, Bool.and_eq_true] at this; exact this.1
    have S := sheetsB_of hs
    by_cases h2 : wordB w = true
    · rw [h2]
      refine EV.step (fun k => by rw [spec_ActWord.j0]) ?_
      refine EV.neg (by simp) ?_
      refine EV.scanC (g := fun k i => spec_ActWord.l0 k l w i) w (leB l.length) _ [] (fun i h H1 H2 => ?_) (fun h3 => ?_) (fun h3 => ?_)
      · have hx := letterB_of (all_getElem (wordB_of h2).1 i h)
        refine EV.step (fun k => by rw [spec_ActWord.l0]) ?_
        rw [rd_nat _ _ h, w64 (x := (i : Int) + 1) (by omega) (by omega)]
        refine EV.pos (by omega) (EV.pos (by omega) (EV.by (spec_l3Abs_is _ (by omega) (by omega)) ?_))
        exact EV.cases (fun c => (EV.now _).eq (H2 (by simp [leB]; omega)).symm) (fun c => H1 (by simp [leB]; omega))
      · have hok : wordOk l w = true := by unfold wordOk; rw [h2, h3]; rfl
        rw [if_pos ⟨h1, hok⟩]
        have L := letters_of hok
        refine EV.step (fun k => by rw [spec_ActWord.l0]) ?_
        refine EV.neg (by omega) ?_
        refine EV.count (g := fun k s i => spec_ActWord.l1 k l w s i) (d0 l) (fun i => (List.range i).map fun j : Nat => actS l w (j : Int)) _ (fun i hi H => ?_) ?_
        · refine EV.step (fun k => by rw [spec_ActWord.l1]) ?_
          rw [w64 (x := (i : Int) + 1) (by omega) (by omega), rdL_zero]
          refine EV.pos (by omega) (EV.pos (by unfold d0 at hi; omega) (EV.bind (spec_l9Act_is l w (i : Int) hs L.1 hw (by omega) (by omega)) (EV.pos (by simp; omega) ?_)))
          simpa [List.range_succ] using H
        · refine EV.step (fun k => by rw [spec_ActWord.l1]) ?_
          rw [rdL_zero]
          refine EV.pos (by omega) (EV.neg (by unfold d0; omega) ((EV.now _).eq ?_))
          simp [actL, idM, Function.comp_def]
      · rw [if_neg]
        intro c
        have := c.2
        unfold wordOk at this
        rw [h3, Bool.and_false] at this; cases this
    · rw [show wordB w = false by simpa using h2, if_neg]
      · exact no
      · intro c
        have := c.2
        unfold wordOk at this
        rw [Bool.and_eq_true] at this; exact h2 this.1
  · rw [if_neg (fun c => h1 c.1)]
    exact EV.neg h1 no

theorem spec_l9Whole_is (t : List Int) (hn : t.length < 4294967296) : EV (fun k => spec_l9Whole.f k t) (wholeB t) := by
  refine EV.countB (g := fun k i => spec_l9Whole.l0 k t i) t.length _ (decide (0 < t.length)) (fun i h r H1 H2 => ?_) ?_
  · have e : t.getD i 0 = t[i] := by simp [h]
    rw [e] at H1 H2
    refine EV.step (fun k => by rw [spec_l9Whole.l0]) ?_
    rw [rd_nat _ _ h, w64 (x := (i : Int) + 1) (by omega) (by omega)]
    refine EV.pos (by omega) (EV.pos (by omega) ?_)
    exact EV.cases (fun c => H1 (by simpa using c)) (fun c => (EV.now _).eq (H2 (by simpa using c)).symm)
  · refine EV.step (fun k => by rw [spec_l9Whole.l0]) ?_
    exact EV.neg (by omega) ((EV.now _).eq (by rw [Bool.eq_iff_iff]; simp))

theorem spec_IsAction_is (g : Int) (l : List (List Int)) (hn : l.length < 4294967296) (hr : ∀ r ∈ l, r.length < 4294967296) : EV (fun k => spec_IsAction.f k g l) (actionB g l) := by
  have no : EV (fun k => spec_IsAction.j0 k g l true) false := by
    refine EV.step (fun k => by rw [spec_IsAction.j0]) ?_
    exact EV.pos rfl (EV.now _)
  unfold actionB
  refine EV.by (spec_l1In_is _ _ _) ?_
  by_cases h1 : 0 ≤ g ∧ g ≤ 2
  · rw [decide_eq_true h1, Bool.true_and]
    refine EV.pos rfl (EV.bind (spec_l9Perms_is l hn hr) ?_)
    have m := mxM_of h1
    by_cases h2 : permsB l = true
    · have hs : sheetsB l = true := by have := h2; simp only [permsB, Bool.and_eq_true] at this; exact this.1
      have S := sheetsB_of hs
      refine EV.pos h2 (EV.by (spec_l1Max_is _ _) ?_)
      rw [show (if (1 : Int) > g then 1 else g) = mxM g from rfl, w64 (x := 2 * mxM g) (by omega) (by omega), hs, Bool.true_and]
      by_cases h3 : (l.length : Int) = 2 * mxM g
      · rw [decide_eq_true h3, Bool.true_and, show ((l.length : Int) != 2 * mxM g) = false by simp [h3]]
        refine EV.step (fun k => by rw [spec_IsAction.j0]) ?_
        refine EV.neg (by simp) ?_
        by_cases h0 : g = 0
        · exact EV.pos h0 ((EV.now _).eq (by simp [h0]))
        · refine EV.neg h0 (EV.by (spec_Relator_is _) (EV.bind (spec_ActWord_is l _ hn hr (by have := @relM_len g; omega)) ?_))
          have hm : (g = 1 ∨ g = 2) ∧ mxM g = g := by omega
          have e2 : actM l (relM g) = actL l (relM g) := by unfold actM; rw [if_pos ⟨h2, rel_ok hm.1 (by rw [h3, hm.2])⟩]
          rw [e2]
          refine EV.bind (spec_l9Whole_is _ (by rw [actL_len]; omega)) ((EV.now _).eq ?_)
          rw [wholeB_eq (actL_len _ _) S.2.1, decide_eq_false h0, Bool.false_or]
      · rw [decide_eq_false h3, Bool.false_and, show ((l.length : Int) != 2 * mxM g) = true by simpa using h3]
        exact no
    · refine EV.neg h2 ?_
      have : (decide ((l.length : Int) = 2 * mxM g) && (sheetsB l && (decide (g = 0) || decide (actL l (relM g) = idM (d0 l))))) = false := by
        by_cases h3 : (l.length : Int) = 2 * mxM g
        · have e := permsB_le (l := l) (by omega)
          rw [e] at h2
          rw [show sheetsB l = false by simpa using h2, Bool.false_and, Bool.and_false]
        · rw [decide_eq_false h3, Bool.false_and]
      rw [this]; exact no
  · rw [decide_eq_false h1, Bool.false_and]
    exact EV.neg (by simp) no

theorem spec_l3Find_N {n : Nat} {up : List Int} (hu : upB n up) : ∀ (m : Nat) (s : Int), 0 ≤ s → s < n → s.toNat ≤ m → EV (fun k => spec_l3Find.l0 k up s) (rootN up m s)
  | 0, s, h0, h1, hm => by
    have a := up_get hu h0 h1
    refine EV.step (fun k => by rw [spec_l3Find.l0]) ?_
    rw [rd_getD]
    refine EV.pos h0 (EV.pos (by have := hu.1; omega) (EV.pos (by omega) ((EV.now _).eq rfl)))
  | m + 1, s, h0, h1, hm => by
    have a := up_get hu h0 h1
    refine EV.step (fun k => by rw [spec_l3Find.l0]) ?_
    rw [rd_getD]
    refine EV.pos h0 (EV.pos (by have := hu.1; omega) ?_)
    simp only [rootN]
    by_cases e : up.getD s.toNat 0 = s
    · rw [if_pos e]; exact EV.pos e (EV.now _)
    · rw [if_neg e]
      exact EV.neg e (spec_l3Find_N hu m _ a.1 (by omega) (by omega))
theorem spec_l3Find_is {n : Nat} {up : List Int} (hu : upB n up) {s : Int} (h0 : 0 ≤ s) (h1 : s < n) : EV (fun k => spec_l3Find.f k up s) (rootI up s) := spec_l3Find_N hu _ s h0 h1 (Nat.le_refl _)

theorem spec_l1Min_is (a b : Int) : spec_l1Min.f a b = some (if a < b then a else b) := by
  unfold spec_l1Min.f; split <;> rfl

theorem join_max {n : Nat} {up : List Int} (hu : upB n up) {a b : Int} (ha : 0 ≤ a ∧ a < n) (hb : 0 ≤ b ∧ b < n) :
    up.set (if rootI up a > rootI up b then rootI up a else rootI up b).toNat (if rootI up a < rootI up b then rootI up a else rootI up b) = joinM up a b := by
  unfold joinM
  by_cases h : rootI up a > rootI up b
  · rw [if_pos h, if_pos h, if_neg (by omega)]
  · rw [if_neg h, if_neg h]
    by_cases h2 : rootI up a < rootI up b
    · rw [if_pos h2]
    · rw [if_neg h2]
      have : rootI up a = rootI up b := by omega
      rw [this]
theorem spec_parts_own {n : Nat} {up : List Int} (hu : upB n up) (hn : n ≤ 5) (s : Nat) (hs : s < n) (out : List (List Int)) (ho : out.length ≤ 5) (R : List (List Int))
    (H : EV (fun k => spec_l9Parts.l3 k up (out ++ [ownM n up s]) (wrap64 ((s : Int) + 1))) R) : EV (fun k => spec_l9Parts.l4 k up out (s : Int) [] 0) R := by
  have hl := hu.1
  refine EV.foldC (g := fun k own t => spec_l9Parts.l4 k up out (s : Int) own t) (List.range n) (fun own (t : Nat) => if rootI up (t : Int) = (s : Int) then own ++ [(t : Int)] else own) (fun i own => own.length ≤ i) R (fun i hi own hI K => ?_) [] (by simp) (fun hI => ?_)
  · have hi' : i < n := by simpa using hi
    rw [List.getElem_range] at K
    refine EV.step (fun k => by rw [spec_l9Parts.l4]) ?_
    rw [w64 (x := (i : Int) + 1) (by omega) (by omega)]
    refine EV.pos (by omega) (EV.bind (spec_l3Find_is hu (by omega) (by omega)) ?_)
    by_cases e : rootI up (i : Int) = (s : Int)
    · rw [if_pos e] at K
      exact EV.pos e (EV.pos (by omega) (K (by simp; omega)))
    · rw [if_neg e] at K
      exact EV.neg e (K (by omega))
  · rw [List.length_range]
    refine EV.step (fun k => by rw [spec_l9Parts.l4]) ?_
    exact EV.neg (by omega) (EV.pos (by omega) H)
theorem spec_parts_out {n : Nat} {up : List Int} (hu : upB n up) (hn : n ≤ 5) : EV (fun k => spec_l9Parts.l3 k up [] 0) (outM2 n up) := by
  have hl := hu.1
  refine EV.fold (g := fun k out s => spec_l9Parts.l3 k up out s) (List.range n) (fun out (s : Nat) => if up.getD s 0 = (s : Int) then out ++ [ownM n up s] else out) id (fun i out => out.length ≤ i) (fun i hi out r hI K => ?_) (fun out hI => ?_) [] (by simp)
  · have hi' : i < n := by simpa using hi
    rw [List.getElem_range] at K
    refine EV.step (fun k => by rw [spec_l9Parts.l3]) ?_
    rw [rd_getD, Int.toNat_natCast]
    refine EV.pos (by omega) (EV.pos (by omega) ?_)
    by_cases e : up.getD i 0 = (i : Int)
    · rw [if_pos e] at K
      refine EV.pos e (spec_parts_own hu hn i hi' out (by omega) r ?_)
      rw [w64 (x := (i : Int) + 1) (by omega) (by omega)]
      exact K (by simp; omega)
    · rw [if_neg e] at K
      rw [w64 (x := (i : Int) + 1) (by omega) (by omega)]
      exact EV.neg e (K (by omega))
  · rw [List.length_range]
    refine EV.step (fun k => by rw [spec_l9Parts.l3]) ?_
    exact EV.neg (by omega) (EV.now _)
theorem spec_parts_row {l : List (List Int)} (hs : sheetsB l = true) (hn : l.length ≤ 1000) (i : Nat) (hi : i < l.length) (up : List Int) (hu : upB (d0 l) up) (R : List (List Int))
    (H : upB (d0 l) (rowM (d0 l) up l[i]) → EV (fun k => spec_l9Parts.l1 k l (rowM (d0 l) up l[i]) (wrap64 ((i : Int) + 1))) R) : EV (fun k => spec_l9Parts.l2 k l up (i : Int) 0) R := by
  have s := sheetsB_of hs
  have row := s.2.2.2 _ (List.getElem_mem hi)
  have P := (permB_of row.2).1
  refine EV.foldC (g := fun k up s => spec_l9Parts.l2 k l up (i : Int) s) (List.range (d0 l)) (fun up (s : Nat) => joinM up (s : Int) (l[i].getD s 0)) (fun _ up => upB (d0 l) up) R (fun j hj up hI K => ?_) up hu (fun hI => ?_)
  · have hj' : j < d0 l := by simpa using hj
    have hj2 : j < l[i].length := by omega
    rw [List.getElem_range] at K
    have hx : 0 ≤ l[i].getD j 0 ∧ l[i].getD j 0 < (d0 l : Nat) := by
      rw [List.getD_eq_getElem?_getD, List.getElem?_eq_getElem hj2]
      have := P _ (List.getElem_mem hj2)
      simp only [Option.getD_some]; omega
    have ra := rootI_le hI (s := (j : Int)) (by omega) (by omega)
    have rb := rootI_le hI hx.1 hx.2
    have hl := hI.1
    refine EV.step (fun k => by rw [spec_l9Parts.l2]) ?_
    rw [rdL_nat _ _ hi, rd_getD, Int.toNat_natCast, w64 (x := (j : Int) + 1) (by omega) (by omega)]
    refine EV.pos (by omega) (EV.bind (spec_l3Find_is hI (by omega) (by omega)) (EV.pos (by omega) (EV.pos (by omega) (EV.pos (by omega) (EV.pos (by omega) (EV.bind (spec_l3Find_is hI hx.1 hx.2) (EV.by (spec_l1Max_is _ _) (EV.by (spec_l1Min_is _ _) ?_))))))))
    rw [join_max hI (by omega) hx]
    refine EV.pos (by split <;> omega) (EV.pos (by split <;> omega) (K (joinM_I hI (by omega) hx)))
  · rw [List.length_range]
    have hl := hI.1
    refine EV.step (fun k => by rw [spec_l9Parts.l2]) ?_
    exact EV.neg (by omega) (H hI)
theorem spec_l9Parts_is {l : List (List Int)} (hs : sheetsB l = true) (hn : l.length ≤ 1000) : EV (fun k => spec_l9Parts.f k l) (partsM l) := by
  have s := sheetsB_of hs
  have hrow : (rd_L2 l 0).length = d0 l := by rw [rdL_zero]; rfl
  refine EV.count (g := fun k up i => spec_l9Parts.l0 k l up i) (d0 l) (fun i => idM i) _ (fun i hi H => ?_) ?_
  · refine EV.step (fun k => by rw [spec_l9Parts.l0]) ?_
    rw [hrow, w64 (x := (i : Int) + 1) (by omega) (by omega)]
    refine EV.pos (by omega) (EV.pos (by omega) (EV.pos (by simp [idM]; omega) ?_))
    have e : idM (i + 1) = idM i ++ [(i : Int)] := by simp [idM, List.range_succ]
    rw [e] at H; exact H
  · refine EV.step (fun k => by rw [spec_l9Parts.l0]) ?_
    rw [hrow]
    refine EV.pos (by omega) (EV.neg (by omega) ?_)
    refine EV.foldC (g := fun k up i => spec_l9Parts.l1 k l up i) l (rowM (d0 l)) (fun _ up => upB (d0 l) up) _ (fun i hi up hI K => ?_) (idM (d0 l)) (upB_id _) (fun hI => ?_)
    · refine EV.step (fun k => by rw [spec_l9Parts.l1]) ?_
      refine EV.pos (by omega) (spec_parts_row hs hn i hi up hI _ (fun h => ?_))
      rw [w64 (x := (i : Int) + 1) (by omega) (by omega)]
      exact K h
    · refine EV.step (fun k => by rw [spec_l9Parts.l1]) ?_
      exact EV.neg (by omega) (spec_parts_out (allM_I hs) s.2.2.1)

theorem spec_l1Bit_is (b : Bool) : spec_l1Bit.f b = some (if b = true then 1 else 0) := by
  cases b <;> rfl
theorem spec_l1Bit_bd (t : Bool) : ∃ x, spec_l1Bit.f t = some x ∧ 0 ≤ x ∧ x ≤ 1 := by
  cases t
  · exact ⟨0, rfl, by omega, by omega⟩
  · exact ⟨1, rfl, by omega, by omega⟩

theorem spec_l3Find2_is (xs : List Int) (x : Int) (h : xs.length < 4611686018427387904) : EV (fun k => spec_l3Find2.f k xs x) (xs.contains x) := by
  refine EV.scanC (g := fun k i => spec_l3Find2.l0 k xs x i) xs (fun y => decide (¬ y = x)) (xs.contains x) true (fun i hi H1 H2 => ?_) (fun ha => ?_) (fun hn => ?_)
  · refine EV.step (fun k => by rw [spec_l3Find2.l0]) ?_
    rw [rd_nat _ _ hi, w64 (x := (i : Int) + 1) (by omega) (by omega)]
    refine EV.pos (by omega) (EV.pos (by omega) ?_)
    by_cases e : xs[i] = x
    · exact EV.pos e ((EV.now _).eq (H2 (by simpa using e)).symm)
    · exact EV.neg e (H1 (by simpa using e))
  · refine EV.step (fun k => by rw [spec_l3Find2.l0]) ?_
    refine EV.neg (by omega) ((EV.now _).eq ?_)
    simp only [List.all_eq_true, decide_eq_true_eq] at ha
    rw [eq_comm, Bool.eq_false_iff]
    intro hc
    exact ha x (by simpa using hc) rfl
  · simp only [List.all_eq_false, decide_eq_true_eq, Classical.not_not] at hn
    obtain ⟨y, hy, e⟩ := hn
    subst e; simpa using hy

theorem spec_l2Draw_l0 (b : List Int) (hb : b.length ≤ 1048576) (q : Nat) (h1 : 1 ≤ q) (hq : q ≤ 100) : ∀ (m : Nat) (out : List Int) (c h : Int), 0 ≤ c → out.length + m ≤ 100 → (∀ x ∈ out, x.natAbs ≤ q) → ∃ R c' h', EV (fun k => spec_l2Draw.l0 k (q : Int) out (m : Int) b c h) (R, c', h') ∧ R.length ≤ 100 ∧ (∀ x ∈ R, x.natAbs ≤ q) ∧ 0 ≤ c'
  | 0, out, c, h, hc, hl, ho => ⟨out, c, h, EV.step (fun k => by rw [spec_l2Draw.l0]) (EV.neg (by omega) (EV.now _)), by omega, ho, hc⟩
  | m + 1, out, c, h, hc, hl, ho => by
    obtain ⟨x, c1, h1', e1, x0, x1, k1⟩ := spec_l1Below_is b c h (q : Int) hb hc (by omega) (by omega)
    obtain ⟨t, c2, h2, e2, k2⟩ := spec_l1Once_is b c1 h1' 2 hb k1 (by omega) (by omega)
    have go : ∀ y : Int, y.natAbs ≤ q → ∃ R c' h', EV (fun k => spec_l2Draw.l0 k (q : Int) (out ++ [y]) (m : Int) b c2 h2) (R, c', h') ∧ R.length ≤ 100 ∧ (∀ x ∈ R, x.natAbs ≤ q) ∧ 0 ≤ c' := fun y hy =>
      spec_l2Draw_l0 b hb q h1 hq m (out ++ [y]) c2 h2 k2 (by simp; omega) (fun z hz => by
        rcases List.mem_append.1 hz with h' | h'
        · exact ho z h'
        · rw [List.mem_singleton.1 h']; exact hy)
    have em : wrap64 (((m + 1 : Nat) : Int) - 1) = (m : Int) := by rw [w64 (by omega) (by omega)]; omega
    by_cases ht : t = true
    · obtain ⟨R, c3, h3, E, r1, r2, k3⟩ := go (wrap64 (-(wrap64 (1 + x)))) (by rw [w64 (x := 1 + x) (by omega) (by omega), w64 (by omega) (by omega)]; omega)
      refine ⟨R, c3, h3, EV.step (fun k => by rw [spec_l2Draw.l0]) ?_, r1, r2, k3⟩
      rw [em]
      exact EV.pos (by omega) (EV.by e1 (EV.by e2 (EV.pos ht (EV.pos (by omega) E))))
    · obtain ⟨R, c3, h3, E, r1, r2, k3⟩ := go (wrap64 (1 + x)) (by rw [w64 (by omega) (by omega)]; omega)
      refine ⟨R, c3, h3, EV.step (fun k => by rw [spec_l2Draw.l0]) ?_, r1, r2, k3⟩
      rw [em]
      exact EV.pos (by omega) (EV.by e1 (EV.by e2 (EV.neg ht (EV.pos (by omega) E))))
theorem spec_l2Draw_is (b : List Int) (c h : Int) (q m : Nat) (hb : b.length ≤ 1048576) (hc : 0 ≤ c) (h1 : 1 ≤ q) (hq : q ≤ 100) (hm : m ≤ 50) : ∃ R c' h', EV (fun k => spec_l2Draw.f k b c h (q : Int) (m : Int)) (R, c', h') ∧ R.length ≤ 100 ∧ (∀ x ∈ R, x.natAbs ≤ q) ∧ 0 ≤ c' := by
  obtain ⟨x, c1, h1', e1, x0, x1, k1⟩ := spec_l1Below_is b c h ((m : Int) + 1) hb hc (by omega) (by omega)
  obtain ⟨n, rfl⟩ : ∃ n : Nat, x = n := ⟨x.toNat, by omega⟩
  obtain ⟨R, c2, h2, E, r1, r2, k2⟩ := spec_l2Draw_l0 b hb q h1 hq n [] c1 h1' k1 (by simp; omega) (fun z hz => by cases hz)
  refine ⟨R, c2, h2, ?_, r1, r2, k2⟩
  rw [show (m : Int) + 1 = wrap64 ((m : Int) + 1) by rw [w64 (by omega) (by omega)]] at e1
  exact EV.by e1 E

theorem spec_DrawActWord_is (b : List Int) (hb : b.length ≤ 1048576) : ∃ R w, EV (fun k => spec_DrawActWord.f k b) (R, w) ∧ drawnA R ∧ w.length ≤ 100 ∧ ∀ x ∈ w, x.natAbs ≤ 2 := by
  obtain ⟨h, E⟩ := spec_l1New_is b hb
  obtain ⟨g, R, c, h', E2, D, hg, hc⟩ := spec_l9Draw_is b 0 h hb (by omega)
  obtain ⟨w, c2, h2, E3, w1, w2, _⟩ := spec_l2Draw_is b c h' 2 6 hb hc (by omega) (by omega) (by omega)
  exact ⟨R, w, EV.bind E (EV.bind E2 (EV.bind E3 (EV.now _))), D, w1, w2⟩

theorem impl_isLetter_is (a : Int) : impl_isLetter.f a = some (letterB a) := by
  unfold impl_isLetter.f
  rw [impl_within_is]
  by_cases h : a = 0
  · rw [if_pos h]; simp [letterB, h]
  · rw [if_neg h]; simp [letterB, h]

theorem impl_IsWord_is (xs : List Int) (hn : xs.length < 4611686018427387904) : EV (fun k => impl_IsWord.f k xs) (wordB xs) := by
  refine EV.scan (g := fun k i => impl_IsWord.l0 k xs xs (xs.length : Int) i) xs letterB (decide (xs.length ≤ 24)) (fun i h r H1 H2 => ?_) ?_
  · refine EV.step (fun k => by rw [impl_IsWord.l0]) ?_
    rw [rd_nat _ _ h, w64 (x := (i : Int) + 1) (by omega) (by omega)]
    refine EV.pos (by omega) (EV.pos (by omega) (EV.pos (by omega) (EV.by (impl_isLetter_is _) ?_)))
    exact EV.cases H1 (fun c => (EV.now _).eq (H2 (by simpa using c)).symm)
  · refine EV.step (fun k => by rw [impl_IsWord.l0]) ?_
    refine EV.neg (by omega) ((EV.now _).eq ?_)
    rw [Bool.eq_iff_iff]; simp; omega

theorem impl_hasLetters_is (xs : List Int) (m : Int) (hm : m < 9223372036854775807) (hn : xs.length < 4611686018427387904) (hw : ∀ x ∈ xs, (Lit.int .i64 x).wf = true) : EV (fun k => impl_hasLetters.f k xs m) (hasB m xs) := by
  by_cases lo : ∀ x ∈ xs, -9223372036854775808 < x
  · refine EV.scan (g := fun k i => impl_hasLetters.l0 k xs m xs (xs.length : Int) i) xs (leB m) (wordB xs) (fun i h r H1 H2 => ?_) ?_
    · have hx := wf64 (hw _ (List.getElem_mem h))
      have hx' := lo _ (List.getElem_mem h)
      refine EV.step (fun k => by rw [impl_hasLetters.l0]) ?_
      rw [rd_nat _ _ h, w64 (x := (i : Int) + 1) (by omega) (by omega)]
      refine EV.pos (by omega) (EV.pos (by omega) (EV.pos (by omega) (EV.by (impl_size_is _ hx' hx.2) ?_)))
      exact EV.cases (fun c => (EV.now _).eq (H2 (by simp [leB]; omega)).symm) (fun c => H1 (by simp [leB]; omega))
    · refine EV.step (fun k => by rw [impl_hasLetters.l0]) ?_
      exact EV.neg (by omega) (EV.bind (impl_IsWord_is xs hn) (EV.now _))
  · have no : wordB xs = false := by
      rw [Bool.eq_false_iff]
      intro c
      exact lo fun x hx => by have := letterB_of ((wordB_of c).1 x hx); omega
    have := EV.scan (g := fun k i => impl_hasLetters.l0 k xs m xs (xs.length : Int) i) xs (fun x => ((impl_size.f x).getD 0 ≤ m : Bool)) (wordB xs) (fun i h r H1 H2 => ?_) ?_
    · refine this.eq ?_
      rw [hasB, no, Bool.and_false, Bool.and_false]
    · obtain ⟨v, hv⟩ := impl_size_some xs[i]
      refine EV.step (fun k => by rw [impl_hasLetters.l0]) ?_
      rw [rd_nat _ _ h, w64 (x := (i : Int) + 1) (by omega) (by omega)]
      refine EV.pos (by omega) (EV.pos (by omega) (EV.pos (by omega) (EV.by hv ?_)))
      rw [hv] at H1 H2
      exact EV.cases (fun c => (EV.now _).eq (H2 (by simp; omega)).symm) (fun c => H1 (by simp; omega))
    · refine EV.step (fun k => by rw [impl_hasLetters.l0]) ?_
      exact EV.neg (by omega) (EV.bind (impl_IsWord_is xs hn) (EV.now _))

theorem impl_ActWord_is (l : List (List Int)) (w : List Int) (hn : l.length < 4294967296) (hr : ∀ r ∈ l, r.length < 4294967296) (hw : w.length < 4294967296) (hwf : ∀ x ∈ w, (Lit.int .i64 x).wf = true) : EV (fun k => impl_ActWord.f k l w) (actM l w) := by
  unfold actM
  by_cases h8 : (l.length : Int) > 8
  · refine EV.pos h8 ((EV.now _).eq ?_)
    rw [if_neg]
    intro c
    have := c.1
    simp only [permsB, Bool.and_eq_true, decide_eq_true_iff] at this
    omega
  · refine EV.neg h8 (EV.bind (impl_areSheets_is l hn hr) ?_)
    have e := permsB_le (l := l) (by omega)
    rw [e]
    by_cases h1 : sheetsB l = true
    · refine EV.pos h1 (EV.bind (impl_hasLetters_is w _ (by omega) (by omega) hwf) ?_)
      have e2 : hasB (l.length : Int) w = wordOk l w := by unfold hasB wordOk; rw [Bool.and_comm]
      rw [e2]
      by_cases h2 : wordOk l w = true
      · rw [if_pos ⟨h1, h2⟩]
        exact EV.pos h2 (EV.bind (impl_act_is l w h1 (letters_of h2).1 hw) (EV.now _))
      · rw [if_neg (fun c => h2 c.2)]
        exact EV.neg h2 (EV.now _)
    · rw [if_neg (fun c => h1 c.1)]
      exact EV.neg h1 (EV.now _)

theorem cpIn_set (out : List Int) (x : Int) (n : Nat) (h : n ≤ out.length) : (cpIn (out ++ [0]) (n : Int)).set (n : Int).toNat x = out.take n ++ x :: out.drop n := by
  obtain ⟨a, b, rfl, ha⟩ : ∃ a b, out = a ++ b ∧ a.length = n := ⟨out.take n, out.drop n, (List.take_append_drop n out).symm, by simp; omega⟩
  subst ha
  rcases b with _ | ⟨c, t⟩
  · simp only [cpIn, List.append_nil, Int.toNat_natCast, List.length_append, List.length_singleton]
    rw [List.take_of_length_le (by simp)]
    simp
  · simp only [cpIn, Int.toNat_natCast, List.append_assoc, List.cons_append]
    have e1 : (a ++ c :: (t ++ [0])).length - (a.length + 1) = t.length + 1 := by simp; omega
    rw [e1]
    simp [List.take_append, List.take_of_length_le, List.drop_append]
theorem impl_sorted_l1 (l out : List Int) (x ln i : Int) (ho : out.length ≤ 1000) (R : List Int) : ∀ n, n ≤ out.length → EV (fun k => impl_sorted.l0 k (insM out x n) l ln (wrap64 (i + 1))) R → EV (fun k => impl_sorted.l1 k out x (n : Int) l ln i) R
  | 0, _, H => by
    refine EV.step (fun k => by rw [impl_sorted.l1]) ?_
    refine EV.neg (by omega) (EV.pos (by omega) (EV.by rfl (EV.pos (by omega) (EV.pos (by simp only [List.length_append, List.length_singleton]; omega) ?_))))
    rw [cpIn_set out x 0 (by omega)]
    exact H
  | n + 1, h, H => by
    refine EV.step (fun k => by rw [impl_sorted.l1]) ?_
    have e1 : wrap64 (((n + 1 : Nat) : Int) - 1) = (n : Int) := by rw [w64 (by omega) (by omega)]; omega
    rw [e1, rd_nat _ _ (by omega)]
    refine EV.pos (by omega) (EV.pos (by omega) (EV.pos (by omega) ?_))
    have eg : out.getD n 0 = out[n] := by rw [List.getD_eq_getElem?_getD, List.getElem?_eq_getElem (by omega)]; rfl
    by_cases hc : out[n] > x
    · have : insM out x (n + 1) = insM out x n := by simp only [insM, posP, eg, if_pos hc]
      rw [this] at H
      exact EV.pos hc (impl_sorted_l1 l out x ln i ho R n (by omega) H)
    · refine EV.neg hc (EV.pos (by omega) (EV.by rfl (EV.pos (by omega) (EV.pos (by simp only [List.length_append, List.length_singleton]; omega) ?_))))
      rw [cpIn_set out x (n + 1) (by omega)]
      simp only [insM, posP, eg, if_neg hc] at H
      exact H
theorem impl_sorted_is (l : List Int) (hl : l.length ≤ 1000) : EV (fun k => impl_sorted.f k l) (l.foldl putM []) := by
  refine EV.fold (g := fun k s i => impl_sorted.l0 k s l (l.length : Int) i) l putM id (fun i s => s.length = i) (fun i hi s r hs H => ?_) (fun s hs => ?_) [] rfl
  · refine EV.step (fun k => by rw [impl_sorted.l0]) ?_
    rw [rd_nat _ _ hi]
    refine EV.pos (by omega) (EV.pos (by omega) (EV.pos (by omega) ?_))
    refine impl_sorted_l1 l s l[i] _ _ (by omega) r s.length (Nat.le_refl _) ?_
    rw [w64 (x := (i : Int) + 1) (by omega) (by omega)]
    exact H (by rw [putM_len]; omega)
  · refine EV.step (fun k => by rw [impl_sorted.l0]) ?_
    exact EV.neg (by omega) (EV.now _)

theorem impl_lengths_of {p : List Int} {c : List (List Int)} (h : EV (fun k => impl_cycles.f k p) c) (hc : c.length ≤ 1000) : EV (fun k => impl_lengths.f k p) ((lensL c).foldl putM []) := by
  refine EV.bind h ?_
  refine EV.foldC (g := fun k s i => impl_lengths.l0 k s c (c.length : Int) i) c (fun s r => s ++ [(r.length : Int)]) (fun i s => s.length = i) _ (fun i hi s hs H => ?_) [] rfl (fun hI => ?_)
  · refine EV.step (fun k => by rw [impl_lengths.l0]) ?_
    rw [rdL_nat _ _ hi, w64 (x := (i : Int) + 1) (by omega) (by omega)]
    refine EV.pos (by omega) (EV.pos (by omega) (EV.pos (by omega) (EV.pos (by omega) ?_)))
    exact H (by simp [hs])
  · have e : c.foldl (fun s r => s ++ [(r.length : Int)]) [] = lensL c := by
      have : ∀ (c : List (List Int)) (s : List Int), c.foldl (fun s r => s ++ [(r.length : Int)]) s = s ++ lensL c := by
        intro c
        induction c with
        | nil => intro s; simp [lensL]
        | cons a c ih => intro s; rw [List.foldl_cons, ih]; simp [lensL]
      simpa using this c []
    rw [e]
    refine EV.step (fun k => by rw [impl_lengths.l0]) ?_
    exact EV.neg (by omega) (EV.bind (impl_sorted_is _ (by simp [lensL]; omega)) (EV.now _))

theorem spec_DrawCountActions_is (b : List Int) (hb : b.length ≤ 1048576) : ∃ g n : Int, EV (fun k => spec_DrawCountActions.f k b) (g, n) ∧ (-1 ≤ g ∧ g ≤ 4) ∧ (0 ≤ n ∧ n ≤ 4) := by
  obtain ⟨h, E⟩ := spec_l1New_is b hb
  obtain ⟨x, c1, h1, e1, x0, x1, k1⟩ := spec_l1Below_is b 0 h 4 hb (by omega) (by omega) (by omega)
  obtain ⟨t, c2, h2, e2, k2⟩ := spec_l1Once_is b c1 h1 9 hb k1 (by omega) (by omega)
  obtain ⟨y, e3, y0, y1⟩ := spec_l1Bit_bd t
  obtain ⟨z, c3, h3, e4, z0, z1, _⟩ := spec_l1Below_is b c2 h2 4 hb k2 (by omega) (by omega)
  refine ⟨x - y, z, EV.bind E (EV.by e1 (EV.by e2 (EV.by e3 (EV.by e4 ?_)))), by omega, by omega⟩
  rw [w64 (x := x - y) (by omega) (by omega)]
  exact EV.now _

def leafN (g : Int) (w : Bool) (l : List (List Int)) : Nat := if actionB g l = true ∧ (w = true → (partsM l).length = 1) then 1 else 0
/-- how many lists continue l by m more of a's -/
def cN (g : Int) (w : Bool) (a : List (List Int)) : Nat → List (List Int) → Nat
  | 0, l => leafN g w l
  | m + 1, l => (a.map fun p => cN g w a m (l ++ [p])).sum
theorem sum_le_mul {α : Type} (f : α → Nat) (B : Nat) : ∀ (a : List α), (∀ x ∈ a, f x ≤ B) → (a.map f).sum ≤ a.length * B
  | [], _ => by simp
  | x :: r, h => by
    have h1 := sum_le_mul f B r (fun y hy => h y (List.mem_cons_of_mem _ hy))
    have h2 := h x List.mem_cons_self
    simp only [List.map_cons, List.sum_cons, List.length_cons, Nat.add_mul]
    omega
theorem cN_le (g : Int) (w : Bool) (a : List (List Int)) : ∀ m l, cN g w a m l ≤ a.length ^ m
  | 0, l => by unfold cN leafN; split <;> simp
  | m + 1, l => by
    have h := sum_le_mul (fun p => cN g w a m (l ++ [p])) (a.length ^ m) a (fun p _ => cN_le g w a m _)
    rw [Nat.pow_succ, Nat.mul_comm]
    exact h
theorem perm_sum {α : Type} (f : α → Nat) {a b : List α} (h : a.Perm b) : (a.map f).sum = (b.map f).sum := by
  induction h with
  | nil => rfl
  | cons x _ ih => simp [ih]
  | swap x y l => simp; omega
  | trans _ _ h1 h2 => exact h1.trans h2
theorem cN_perm (g : Int) (w : Bool) {a b : List (List Int)} (h : a.Perm b) : ∀ m l, cN g w a m l = cN g w b m l
  | 0, l => rfl
  | m + 1, l => by
    unfold cN
    rw [List.map_congr_left (fun p _ => cN_perm g w h m (l ++ [p]))]
    exact perm_sum _ h
theorem cN_small (g : Int) (w : Bool) {a : List (List Int)} (ha : a.length ≤ 6) {m : Nat} (hm : m ≤ 4) (l : List (List Int)) : cN g w a m l ≤ 1296 := by
  refine Nat.le_trans (cN_le g w a m l) ?_
  refine Nat.le_trans (Nat.pow_le_pow_left ha m) ?_
  exact Nat.le_trans (Nat.pow_le_pow_right (by omega) hm) (by decide)
theorem leaf_true {g : Int} {l : List (List Int)} (h : actionB g l = true) : sheetsB l = true := by
  simp only [actionB, Bool.and_eq_true] at h
  exact h.2.2.1

set_option maxHeartbeats 2000000 in
theorem spec_l9Count_is (g : Int) (hg : 0 ≤ g ∧ g ≤ 2) (w : Bool) (a : List (List Int)) (ha : a.length ≤ 6) (hr : ∀ r ∈ a, r.length < 4294967296) : ∀ (m : Nat) (l : List (List Int)), (l.length : Int) + m = 2 * mxM g → (∀ r ∈ l, r.length < 4294967296) →
    EV (fun k => spec_l9Count.f k g a l w) (cN g w a m l : Int) := by
  have hx := mxM_of hg
  intro m
  induction m with
  | zero =>
    intro l hl hlr
    refine EV.step (fun k => by rw [spec_l9Count.f]) (EV.by (spec_l1Max_is 1 g) ?_)
    refine EV.pos (by show (l.length : Int) = wrap64 (2 * mxM g); rw [w64 (by omega) (by omega)]; omega) (EV.bind (spec_IsAction_is g l (by omega) hlr) ?_)
    refine EV.cases (fun h => ?_) (fun h => ?_)
    · refine EV.cases (fun hw => ?_) (fun hw => ?_)
      · refine EV.bind (spec_l9Parts_is (leaf_true h) (by omega)) ((EV.is (spec_l1Bit_is _)).eq ?_)
        unfold cN leafN
        by_cases hp : (partsM l).length = 1
        · rw [if_pos (by simp [hp]), if_pos ⟨h, fun _ => hp⟩]; rfl
        · rw [if_neg (by simp; omega), if_neg (fun q => hp (q.2 hw))]; rfl
      · refine (EV.is (spec_l1Bit_is _)).eq ?_
        unfold cN leafN
        rw [if_pos rfl, if_pos ⟨h, fun q => absurd q hw⟩]; rfl
    · refine (EV.is (spec_l1Bit_is _)).eq ?_
      unfold cN leafN
      rw [if_neg (by decide), if_neg (fun q => h q.1)]; rfl
  | succ m ih =>
    intro l hl hlr
    refine EV.step (fun k => by rw [spec_l9Count.f]) (EV.by (spec_l1Max_is 1 g) ?_)
    refine EV.neg (by show ¬ (l.length : Int) = wrap64 (2 * mxM g); rw [w64 (by omega) (by omega)]; omega) ?_
    have go : ∀ (r : List (List Int)) (i : Nat) (s : Nat), a.drop i = r → i + r.length = a.length → s + (r.map fun p => cN g w a m (l ++ [p])).sum ≤ 1296 →
        EV (fun k => spec_l9Count.l0 k g a l w (s : Int) (i : Int)) ((s + (r.map fun p => cN g w a m (l ++ [p])).sum : Nat) : Int) := by
      intro r
      induction r with
      | nil => intro i s hd hi hs; exact EV.step (fun k => by rw [spec_l9Count.l0]) (EV.neg (by simp at hi; omega) ((EV.now _).eq (by simp)))
      | cons p r ihr =>
        intro i s hd hi hs
        have hil : i < a.length := by simp at hi; omega
        have e := List.drop_eq_getElem_cons hil
        rw [hd] at e
        injection e with e1 e2
        simp only [List.map_cons, List.sum_cons] at hs ⊢
        refine EV.step (fun k => by rw [spec_l9Count.l0]) (EV.pos (by omega) (EV.pos (by omega) (EV.pos (by omega) ?_)))
        rw [rdL_nat a i hil, ← e1]
        have hcn0 := ih (l ++ [p]) (by simp; omega) (fun q hq => by
          rcases List.mem_append.1 hq with hq | hq
          · exact hlr q hq
          · simp at hq; subst hq; exact hr _ (by rw [e1]; exact List.getElem_mem _))
        have hih := fun s' => ihr (i + 1) s' e2.symm (by simp at hi; omega)
        generalize cN g w a m (l ++ [p]) = cn at hs hcn0 ⊢
        generalize (r.map fun p => cN g w a m (l ++ [p])).sum = S at hs hih ⊢
        refine EV.bind hcn0 ?_
        · have ew : wrap64 ((i : Int) + 1) = ((i + 1 : Nat) : Int) := by rw [w64 (by omega) (by omega)]; omega
          have es : wrap64 ((s : Int) + (cn : Int)) = ((s + cn : Nat) : Int) := by rw [w64 (by omega) (by omega)]; omega
          rw [ew, es]
          refine (hih (s + cn) (by rw [Nat.add_assoc]; exact hs)).eq ?_
          rw [Nat.add_assoc]
    have h9 : (a.map fun p => cN g w a m (l ++ [p])).sum ≤ 1296 := cN_small g w ha (m := m + 1) (by omega) l
    have h8 := go a 0 0 rfl (by omega) (by rw [Nat.zero_add]; exact h9)
    rw [Nat.zero_add] at h8
    exact h8

set_option maxHeartbeats 2000000 in
theorem impl_count_rF (g : Int) (a : List (List Int)) (ha : a.length ≤ 6) (hr : ∀ r ∈ a, r.length < 4294967296) : ∀ (m : Nat) (l : List (List Int)) (x y : Nat), l.length + m ≤ 4 → x + cN g false a m l ≤ 100000 → y + cN g true a m l ≤ 100000 → (∀ r ∈ l, r.length < 4294967296) →
    EV (fun k => impl_countActions.rF k g a m l ((x : Int), (y : Int))) (((x + cN g false a m l : Nat) : Int), ((y + cN g true a m l : Nat) : Int)) := by
  intro m
  induction m with
  | zero =>
    intro l x y hl hx hy hlr
    refine EV.congr (fun k => by rw [impl_countActions.rF]) (EV.bind (impl_IsAction_is g l (by omega) hlr) ?_)
    refine EV.cases (fun h => ?_) (fun h => ?_)
    · have w1 : wrap64 ((x : Int) + 1) = ((x + 1 : Nat) : Int) := by rw [w64 (by omega) (by omega)]; omega
      have w2 : wrap64 ((y : Int) + 1) = ((y + 1 : Nat) : Int) := by rw [w64 (by omega) (by omega)]; omega
      refine EV.bind (impl_parts_is (leaf_true h) (by omega)) (EV.cases (fun hp => (EV.now _).eq ?_) (fun hp => (EV.now _).eq ?_))
      · have q : (partsM l).length = 1 := by omega
        simp only [cN, leafN, h, q, w1, w2]; simp
      · have q : ¬ (partsM l).length = 1 := by omega
        simp only [cN, leafN, h, q, w1]; simp
    · refine (EV.now _).eq ?_
      simp [cN, leafN, h]
  | succ m ih =>
    intro l x y hl hx hy hlr
    refine EV.congr (fun k => by rw [impl_countActions.rF]) (EV.pos (show l.length < 1000 ∧ a.length < 100000 from ⟨by omega, by omega⟩) ?_)
    have go : ∀ (r : List (List Int)) (i c : Nat) (x y : Nat), c = r.length → a.drop i = r → i + r.length = a.length → x + (r.map fun p => cN g false a m (l ++ [p])).sum ≤ 100000 → y + (r.map fun p => cN g true a m (l ++ [p])).sum ≤ 100000 →
        EV (fun k => impl_countActions.rL (fun p st => impl_countActions.rF k g a m (l ++ [p]) st) a c i ((x : Int), (y : Int))) (((x + (r.map fun p => cN g false a m (l ++ [p])).sum : Nat) : Int), ((y + (r.map fun p => cN g true a m (l ++ [p])).sum : Nat) : Int)) := by
      intro r
      induction r with
      | nil => intro i c x y hc hd hi hx hy; subst hc; exact (EV.now _).eq (by simp)
      | cons p r ihr =>
        intro i c x y hc hd hi hx hy
        subst hc
        have hil : i < a.length := by simp at hi; omega
        have e := List.drop_eq_getElem_cons hil
        rw [hd] at e
        injection e with e1 e2
        simp only [List.map_cons, List.sum_cons] at hx hy ⊢
        have hp : ∀ q ∈ l ++ [p], q.length < 4294967296 := fun q hq => by
          rcases List.mem_append.1 hq with hq | hq
          · exact hlr q hq
          · simp at hq; subst hq; exact hr _ (by rw [e1]; exact List.getElem_mem _)
        have h1 := ih (l ++ [p]) x y (by simp; omega)
        have h2 := fun x y => ihr (i + 1) r.length x y rfl e2.symm (by simp at hi; omega)
        simp only [List.length_cons]
        generalize cN g false a m (l ++ [p]) = c1 at hx h1 ⊢
        generalize cN g true a m (l ++ [p]) = c2 at hy h1 ⊢
        generalize (r.map fun p => cN g false a m (l ++ [p])).sum = S1 at hx h2 ⊢
        generalize (r.map fun p => cN g true a m (l ++ [p])).sum = S2 at hy h2 ⊢
        have h1 := h1 (by omega) (by omega) hp
        have h2 := h2 (x + c1) (y + c2) (by omega) (by omega)
        refine EV.congr (fun k => by rw [impl_countActions.rL, rdL_nat a i hil, ← e1]) (EV.bind h1 (h2.eq ?_))
        rw [Nat.add_assoc, Nat.add_assoc]
    have := go a 0 a.length x y rfl rfl (by omega) hx hy
    exact this
/-- both enumerations are of the same orders -/
def cntOk (n : Nat) : Bool := match spec_l9All.f 3000 (n : Int), impl_countActions.oR impl_countActions.run1 n 0 (idM n) [] with
  | some a, some b => b.isPerm a && decide (a.length ≤ 6 ∧ b.length ≤ 6 ∧ (∀ r ∈ a, r.length ≤ 3) ∧ (∀ r ∈ b, r.length ≤ 3))
  | _, _ => false
theorem cntOk_1 : cntOk 1 = true := by decide +kernel
theorem cntOk_2 : cntOk 2 = true := by decide +kernel
theorem cntOk_3 : cntOk 3 = true := by decide +kernel
theorem both_orders (n : Nat) (h1 : 1 ≤ n) (h3 : n ≤ 3) : ∃ a b : List (List Int), EV (fun k => spec_l9All.f k (n : Int)) a ∧ impl_countActions.oR impl_countActions.run1 n 0 (idM n) [] = some b ∧ b.Perm a ∧ a.length ≤ 6 ∧ b.length ≤ 6 ∧ (∀ r ∈ a, r.length < 4294967296) ∧ (∀ r ∈ b, r.length < 4294967296) := by
  have ok : cntOk n = true := by
    have : n = 1 ∨ n = 2 ∨ n = 3 := by omega
    rcases this with rfl | rfl | rfl
    · exact cntOk_1
    · exact cntOk_2
    · exact cntOk_3
  unfold cntOk at ok
  cases e : spec_l9All.f 3000 (n : Int) with
  | none => rw [e] at ok; cases ok
  | some a =>
    cases e2 : impl_countActions.oR impl_countActions.run1 n 0 (idM n) [] with
    | none => rw [e, e2] at ok; cases ok
    | some b =>
      rw [e, e2] at ok
      simp only [Bool.and_eq_true, decide_eq_true_eq] at ok
      obtain ⟨o1, o2, o3, o4, o5⟩ := ok
      exact ⟨a, b, EV.mono (g := fun k => spec_l9All.f k (n : Int)) (fun k => spec_l9All.mono _ k) e, rfl, List.isPerm_iff.1 o1, o2, o3, fun r hr => by have := o4 r hr; omega, fun r hr => by have := o5 r hr; omega⟩
/-- the numbers of actions: for both sides -/
theorem counts (g : Int) (hg : 0 ≤ g ∧ g ≤ 2) (n : Nat) (h1 : 1 ≤ n) (h3 : n ≤ 3) : ∃ (a : List (List Int)) (x y : Nat), x ≤ 1296 ∧ y ≤ 1296 ∧ EV (fun k => spec_l9All.f k (n : Int)) a ∧ EV (fun k => spec_l9Count.f k g a [] false) (x : Int) ∧ EV (fun k => spec_l9Count.f k g a [] true) (y : Int) ∧ EV (fun k => impl_countActions.f k g (n : Int)) ((x : Int), (y : Int)) := by
  obtain ⟨a, b, ea, eb, hp, la, lb, ra, rb⟩ := both_orders n h1 h3
  have hx := mxM_of hg
  have hm : ((2 * (mxM g).toNat : Nat) : Int) = 2 * mxM g := by omega
  have hm4 : 2 * (mxM g).toNat ≤ 4 := by omega
  refine ⟨a, cN g false a (2 * (mxM g).toNat) [], cN g true a (2 * (mxM g).toNat) [], cN_small g _ la hm4 _, cN_small g _ la hm4 _, ea, spec_l9Count_is g hg false a la ra _ [] (by simp; omega) (by simp), spec_l9Count_is g hg true a la ra _ [] (by simp; omega) (by simp), ?_⟩
  unfold impl_countActions.f
  have il : (idM n).length = n := by simp [idM]
  refine EV.pos (by omega) (EV.bind (impl_identity_is n (by omega)) (EV.pos (by omega) ?_))
  rw [il, eb]
  have hmx : max (2 * g.toNat) 2 = 2 * (mxM g).toNat := by omega
  rw [hmx]
  have h := impl_count_rF g b lb rb (2 * (mxM g).toNat) [] 0 0 (by simp; omega) (by have := cN_small g false lb hm4 []; omega) (by have := cN_small g true lb hm4 []; omega) (by simp)
  refine EV.by rfl (h.eq ?_)
  rw [cN_perm g false hp, cN_perm g true hp]; simp

theorem laws_sameSurfaces_self (a : List S46) (ha : a.length ≤ 1048576) : EV (fun k => laws_sameSurfaces.f k a a) true := by
  refine EV.pos rfl ?_
  have := EV.scan (g := fun k i => laws_sameSurfaces.l0 k a a i) a (fun _ => true) true (fun i hi r H1 _ => ?_) ?_
  · rw [show (a.all fun _ => true) = true from List.all_eq_true.2 (fun _ _ => rfl), Bool.true_and] at this
    exact this
  · refine EV.step (fun k => by rw [laws_sameSurfaces.l0]) ?_
    rw [w64 (x := (i : Int) + 1) (by omega) (by omega)]
    exact EV.pos (by omega) (EV.pos (by omega) (EV.pos (by omega) (EV.neg (by simp) (H1 rfl))))
  · refine EV.step (fun k => by rw [laws_sameSurfaces.l0]) ?_
    exact EV.neg (by omega) (EV.now _)

theorem laws_sameInts_self (a : List Int) (ha : a.length ≤ 1048576) : EV (fun k => laws_sameInts.f k a a) true := by
  refine EV.pos rfl ?_
  have := EV.scan (g := fun k i => laws_sameInts.l0 k a a i) a (fun _ => true) true (fun i hi r H1 _ => ?_) ?_
  · rw [show (a.all fun _ => true) = true from List.all_eq_true.2 (fun _ _ => rfl), Bool.true_and] at this
    exact this
  · refine EV.step (fun k => by rw [laws_sameInts.l0]) ?_
    rw [w64 (x := (i : Int) + 1) (by omega) (by omega)]
    exact EV.pos (by omega) (EV.pos (by omega) (EV.pos (by omega) (EV.pos rfl (H1 rfl))))
  · refine EV.step (fun k => by rw [laws_sameInts.l0]) ?_
    exact EV.neg (by omega) (EV.now _)

theorem spec_l9Put_l0 (l : List Int) (x : Int) (hl : l.length ≤ 1000) : ∀ n, n ≤ l.length → EV (fun k => spec_l9Put.l0 k l x (n : Int)) (insM l x n)
  | 0, _ => by
    refine EV.step (fun k => by rw [spec_l9Put.l0]) ?_
    refine EV.neg (by omega) (EV.by rfl (EV.pos (by omega) (EV.pos (by omega) (EV.by rfl (EV.pos (by simp; omega) (EV.by rfl (EV.by rfl (EV.pos (by simp) (EV.by rfl (EV.pos (by simp; omega) ((EV.now _).eq ?_)))))))))))
    simp [insM, posP]
  | n + 1, h => by
    have ih := spec_l9Put_l0 l x hl n (by omega)
    refine EV.step (fun k => by rw [spec_l9Put.l0]) ?_
    have e1 : wrap64 (((n + 1 : Nat) : Int) - 1) = (n : Int) := by rw [w64 (by omega) (by omega)]; omega
    rw [e1, rd_nat _ _ (by omega)]
    refine EV.pos (by omega) (EV.pos (by omega) (EV.pos (by omega) ?_))
    have eg : l.getD n 0 = l[n] := by rw [List.getD_eq_getElem?_getD, List.getElem?_eq_getElem (by omega)]; rfl
    by_cases hc : l[n] > x
    · have : insM l x (n + 1) = insM l x n := by simp only [insM, posP, eg, if_pos hc]
      rw [this]; exact EV.pos hc ih
    · refine EV.neg hc (EV.by rfl (EV.pos (by omega) (EV.pos (by omega) (EV.by rfl (EV.pos (by simp; omega) (EV.by rfl (EV.by rfl (EV.pos (by simp; omega) (EV.by rfl (EV.pos (by simp; omega) ((EV.now _).eq ?_)))))))))))
      simp only [insM, posP, eg, if_neg hc, Int.toNat_natCast]
      simp
theorem spec_l9Put_is (l : List Int) (x : Int) (hl : l.length ≤ 1000) : EV (fun k => spec_l9Put.f k l x) (putM l x) := spec_l9Put_l0 l x hl l.length (Nat.le_refl _)

def allOk (n : Nat) : Bool := match spec_l9All.f 3000 (n : Int) with | some a => (ordA n 0 (idM n)).isPerm a | none => false
theorem allOk_1 : allOk 1 = true := by decide +kernel
theorem allOk_2 : allOk 2 = true := by decide +kernel
theorem allOk_3 : allOk 3 = true := by decide +kernel
theorem allOk_4 : allOk 4 = true := by decide +kernel
theorem allOk_5 : allOk 5 = true := by decide +kernel
theorem spec_l9All_is (n : Nat) (h1 : 1 ≤ n) (h5 : n ≤ 5) : ∃ a : List (List Int), EV (fun k => spec_l9All.f k (n : Int)) a ∧ (ordA n 0 (idM n)).Perm a := by
  have ok : allOk n = true := by
    have : n = 1 ∨ n = 2 ∨ n = 3 ∨ n = 4 ∨ n = 5 := by omega
    rcases this with rfl | rfl | rfl | rfl | rfl
    · exact allOk_1
    · exact allOk_2
    · exact allOk_3
    · exact allOk_4
    · exact allOk_5
  unfold allOk at ok
  cases e : spec_l9All.f 3000 (n : Int) with
  | none => rw [e] at ok; cases ok
  | some a =>
    rw [e] at ok
    exact ⟨a, EV.mono (g := fun k => spec_l9All.f k (n : Int)) (fun k => spec_l9All.mono _ k) e, List.isPerm_iff.1 ok⟩

/-- lo * (lo + 1) * .. , c factors -/
def rise : Nat → Nat → Int
  | _, 0 => 1
  | lo, c + 1 => (lo : Int) * rise (lo + 1) c
theorem wrap64_mul (a b : Int) : wrap64 (wrap64 a * b) = wrap64 (a * b) := by
  have h : ∃ q : Int, wrap64 a = a + 18446744073709551616 * q := by
    unfold wrap64
    exact ⟨-((a + 9223372036854775808) / 18446744073709551616), by omega⟩
  obtain ⟨q, h⟩ := h
  rw [h, Int.add_mul, Int.mul_assoc]
  generalize q * b = m
  unfold wrap64; omega
theorem spec_l7Factorial_l0 (n : Int) (hn : n ≤ 100000) : ∀ (c lo : Nat) (acc : Int), c = (n + 1 - lo).toNat → lo ≤ 100001 → EV (fun k => spec_l7Factorial.l0 k n (wrap64 acc) (lo : Int)) (wrap64 (acc * rise lo c)) := by
  intro c
  induction c with
  | zero =>
    intro lo acc h hl
    refine EV.step (fun k => by rw [spec_l7Factorial.l0]) ?_
    exact EV.neg (by omega) ((EV.now _).eq (by simp [rise]))
  | succ c ih =>
    intro lo acc h hl
    refine EV.step (fun k => by rw [spec_l7Factorial.l0]) ?_
    rw [wrap64_mul, w64 (x := (lo : Int) + 1) (by omega) (by omega)]
    have := ih (lo + 1) (acc * lo) (by omega) (by omega)
    refine EV.pos (by omega) (EV.congr (fun k => by simp) (this.eq ?_))
    simp only [rise]; rw [Int.mul_assoc]
theorem spec_l7Factorial_is (n : Int) (hn : n ≤ 100000) : EV (fun k => spec_l7Factorial.f k n) (wrap64 (rise 2 (n - 1).toNat)) := by
  have := spec_l7Factorial_l0 n hn (n + 1 - 2).toNat 2 1 (by omega) (by omega)
  rw [wrap_1] at this
  exact EV.congr (fun k => rfl) (this.eq (by rw [Int.one_mul, show n + 1 - 2 = n - 1 by omega]))

theorem laws_sameLists_self (a : List (List Int)) (ha : a.length ≤ 1048576) (hr : ∀ r ∈ a, r.length ≤ 1048576) : EV (fun k => laws_sameLists.f k a a) true := by
  refine EV.pos rfl ?_
  have := EV.scan (g := fun k i => laws_sameLists.l0 k a a i) a (fun _ => true) true (fun i hi r H1 _ => ?_) ?_
  · rw [show (a.all fun _ => true) = true from List.all_eq_true.2 (fun _ _ => rfl), Bool.true_and] at this
    exact this
  · refine EV.step (fun k => by rw [laws_sameLists.l0]) ?_
    rw [w64 (x := (i : Int) + 1) (by omega) (by omega), rdL_nat _ _ hi]
    exact EV.pos (by omega) (EV.pos (by omega) (EV.pos (by omega) (EV.bind (laws_sameInts_self _ (hr _ (List.getElem_mem hi))) (EV.pos rfl (H1 rfl)))))
  · refine EV.step (fun k => by rw [laws_sameLists.l0]) ?_
    exact EV.neg (by omega) (EV.now _)

theorem impl_SheetSymmetries_l0 (l : List (List Int)) (n : Nat) (hn : n ≤ 5) (hl : ∀ p ∈ l, rowI n p) (hll : l.length ≤ 1000) (x : List Int) (hx : rowI n x) : ∀ (r : List (List Int)) (i : Nat), l.drop i = r → i + r.length = l.length →
    EV (fun k => impl_SheetSymmetries.l0 k x l (i : Int)) (fineB r x) := by
  intro r
  induction r with
  | nil => intro i hd hi; refine EV.step (fun k => by rw [impl_SheetSymmetries.l0]) ?_; exact EV.neg (by simp at hi; omega) (EV.now _)
  | cons p r ih =>
    intro i hd hi
    have hil : i < l.length := by simp at hi; omega
    have e := List.drop_eq_getElem_cons hil
    rw [hd] at e
    injection e with e1 e2
    have hp : rowI n p := hl p (by rw [e1]; exact List.getElem_mem _)
    have ew : wrap64 ((i : Int) + 1) = ((i + 1 : Nat) : Int) := by rw [w64 (by omega) (by omega)]; omega
    refine EV.step (fun k => by rw [impl_SheetSymmetries.l0]) (EV.pos (by omega) (EV.pos (by omega) ?_))
    rw [rdL_nat l i hil, ← e1, ew]
    refine EV.bind (impl_then_is x p (by rw [hp.1]; exact hx.2) (by have := hx.1; omega)) (EV.bind (impl_then_is p x (by rw [hx.1]; exact hp.2) (by have := hp.1; omega)) (EV.bind (impl_sameInts_is _ _ (by simp [thenM]; have := hx.1; omega)) ?_))
    refine EV.cases (fun h => ?_) (fun h => ?_)
    · refine (ih (i + 1) e2.symm (by simp at hi; omega)).eq ?_
      simp only [decide_eq_true_iff] at h
      simp [fineB, h]
    · refine (EV.now _).eq ?_
      simp only [decide_eq_true_iff] at h
      simp [fineB, h]
theorem impl_SheetSymmetries_is (l : List (List Int)) (hn : l.length < 4294967296) (hr : ∀ r ∈ l, r.length < 4294967296) :
    EV (fun k => impl_SheetSymmetries.f k l) (if permsB l = true then ((ordA (d0 l) 0 (idM (d0 l))).foldl (fun s x => if fineB l x = true then wrap64 (s + 1) else s) (0 : Int)) else -1) := by
  unfold impl_SheetSymmetries.f
  refine EV.cases (fun h8 => (EV.now _).eq ?_) (fun h8 => ?_)
  · rw [if_neg]
    simp only [permsB, Bool.and_eq_true, decide_eq_true_iff]; omega
  · refine EV.bind (impl_areSheets_is l hn hr) (EV.cases (fun hs => ?_) (fun hs => (EV.now _).eq ?_))
    · have s := sheetsB_of hs
      rw [if_pos (by simp only [permsB, hs, Bool.true_and, decide_eq_true_iff]; omega)]
      have e0 : (rd_L2 l 0).length = d0 l := by rw [rdL_zero]; rfl
      rw [e0]
      have hid := rowI_id (d0 l)
      refine EV.pos (by omega) (EV.pos (by omega) (EV.bind (impl_identity_is (d0 l) (by omega)) (EV.pos hid.1 ?_)))
      rw [hid.1]
      have hl : ∀ p ∈ l, rowI (d0 l) p := fun p hp => by
        obtain ⟨q1, q2⟩ := s.2.2.2 p hp
        have := (permB_of q2).1
        rw [q1] at this
        exact ⟨q1, this⟩
      refine oR_is (n := d0 l) (fun k => impl_SheetSymmetries.g0 k l) _ (fun x s' hx => ?_) (d0 l) 0 (idM (d0 l)) 0 (by omega) hid
      refine EV.bind (impl_SheetSymmetries_l0 l (d0 l) (by omega) hl (by omega) x hx l 0 rfl (by omega)) ?_
      exact EV.cases (fun h => (EV.now _).eq (by rw [if_pos h])) (fun h => (EV.now _).eq (by rw [if_neg h]))
    · rw [if_neg]
      simp only [permsB, Bool.and_eq_true]; exact fun h => hs h.1

theorem drop_at {α : Type} {l : List α} {i : Nat} {p : α} {r : List α} (hd : l.drop i = p :: r) : ∃ h : i < l.length, l[i] = p ∧ l.drop (i + 1) = r := by
  have hl : i < l.length := by
    rcases Nat.lt_or_ge i l.length with g | g
    · exact g
    · rw [List.drop_eq_nil_of_le g] at hd; cases hd
  have e := List.drop_eq_getElem_cons hl
  rw [hd] at e
  injection e with e1 e2
  exact ⟨hl, e1.symm, e2.symm⟩
/-- from place i on, p and x agree in either order -/
def colB (p x : List Int) (n : Nat) : Nat → Bool
  | 0 => true
  | c + 1 => decide (x.getD (p.getD (n - (c + 1)) 0).toNat 0 = p.getD (x.getD (n - (c + 1)) 0).toNat 0) && colB p x n c
theorem colB_all (p x : List Int) (n : Nat) : ∀ c, c ≤ n → (colB p x n c = true ↔ ∀ j, n - c ≤ j → j < n → x.getD (p.getD j 0).toNat 0 = p.getD (x.getD j 0).toNat 0)
  | 0, _ => by simp [colB]; omega
  | c + 1, h => by
    simp only [colB, Bool.and_eq_true, decide_eq_true_iff, colB_all p x n c (by omega)]
    constructor
    · rintro ⟨a, b⟩ j h1 h2
      by_cases hj : j = n - (c + 1)
      · subst hj; exact a
      · exact b j (by omega) h2
    · intro g
      exact ⟨g _ (by omega) (by omega), fun j h1 h2 => g j (by omega) h2⟩
theorem then_get (p q : List Int) (j : Nat) (h : j < p.length) : (thenM p q)[j]'(by simp [thenM]; exact h) = q.getD (p.getD j 0).toNat 0 := by
  simp [thenM, h]
theorem colB_then (p x : List Int) (n : Nat) (hp : p.length = n) (hx : x.length = n) : colB p x n n = decide (thenM x p = thenM p x) := by
  rw [Bool.eq_iff_iff, colB_all p x n n (Nat.le_refl _), decide_eq_true_iff]
  constructor
  · intro g
    apply List.ext_getElem (by simp [thenM, hp, hx])
    intro j h1 h2
    have hj : j < n := by simp [thenM, hx] at h1; exact h1
    rw [then_get x p j (by omega), then_get p x j (by omega)]
    exact (g j (by omega) hj).symm
  · intro e j _ hj
    have a := then_get x p j (by omega)
    have b := then_get p x j (by omega)
    have : (thenM x p)[j]'(by simp [thenM]; omega) = (thenM p x)[j]'(by simp [thenM]; omega) := by simp only [e]
    rw [a, b] at this
    exact this.symm
theorem spec_sym_l2 (l : List (List Int)) (n : Nat) (hn : n ≤ 5) (all : List (List Int)) (i5 : Nat) (h5 : i5 < all.length) (x : List Int) (hx5 : all[i5] = x) (hx : rowI n x) (h7 : Nat) (h7l : h7 < l.length) (p : List Int) (hp7 : l[h7] = p) (hp : rowI n p) (hl : l.length ≤ 1000) (s R : Int) :
    ∀ (c : Nat) (b : Bool), c ≤ n → EV (fun k => spec_SheetSymmetries.l1 k l s all (i5 : Int) (b && colB p x n c) ((h7 + 1 : Nat) : Int)) R → EV (fun k => spec_SheetSymmetries.l2 k l s all (i5 : Int) b (h7 : Int) ((n - c : Nat) : Int)) R := by
  have ew7 : wrap64 ((h7 : Int) + 1) = ((h7 + 1 : Nat) : Int) := by rw [w64 (by omega) (by omega)]; omega
  intro c
  induction c with
  | zero =>
    intro b _ H
    refine EV.step (fun k => by rw [spec_SheetSymmetries.l2]) (EV.pos (by omega) (EV.pos (by omega) ?_))
    rw [rdL_nat l h7 h7l, hp7, ew7]
    refine EV.neg (by rw [hp.1]; omega) ?_
    simpa [colB] using H
  | succ c ih =>
    intro b hc H
    have ew : wrap64 (((n - (c + 1) : Nat) : Int) + 1) = ((n - c : Nat) : Int) := by rw [w64 (by omega) (by omega)]; omega
    have hj : n - (c + 1) < n := by omega
    have gp : p.getD (n - (c + 1)) 0 = p[n - (c + 1)]'(by have := hp.1; omega) := by rw [List.getD_eq_getElem?_getD, List.getElem?_eq_getElem]; rfl
    have gx : x.getD (n - (c + 1)) 0 = x[n - (c + 1)]'(by have := hx.1; omega) := by rw [List.getD_eq_getElem?_getD, List.getElem?_eq_getElem]; rfl
    have bp := hp.2 _ (List.getElem_mem (l := p) (n := n - (c + 1)) (by have := hp.1; omega))
    have bx := hx.2 _ (List.getElem_mem (l := x) (n := n - (c + 1)) (by have := hx.1; omega))
    refine EV.step (fun k => by rw [spec_SheetSymmetries.l2]) (EV.pos (by omega) (EV.pos (by omega) ?_))
    rw [rdL_nat l h7 h7l, hp7, rdL_nat all i5 h5, hx5, ew]
    refine EV.pos (by rw [hp.1]; omega) ?_
    rw [rd_nat p _ (by have := hp.1; omega), rd_nat x _ (by have := hx.1; omega)]
    cases b with
    | true =>
      refine EV.pos rfl (EV.pos (by omega) (EV.pos (by omega) (EV.pos (by omega) (EV.pos bp.1 (EV.pos (by rw [hx.1]; exact bp.2) (EV.pos (by rw [hx.1]; omega) (EV.pos bx.1 (EV.pos (by rw [hp.1]; exact bx.2) ?_))))))))
      have e : (rd x (p[n - (c + 1)]'(by have := hp.1; omega)) == rd p (x[n - (c + 1)]'(by have := hx.1; omega))) = decide (x.getD (p.getD (n - (c + 1)) 0).toNat 0 = p.getD (x.getD (n - (c + 1)) 0).toNat 0) := by
        rw [gp, gx]
        have r : ∀ (y : List Int) (z : Int), rd y z = y.getD z.toNat 0 := fun y z => by simp [rd]
        rw [r, r]; rfl
      rw [e]
      refine ih _ (by omega) ?_
      simpa [colB] using H
    | false =>
      refine EV.neg (by decide) ?_
      refine ih _ (by omega) ?_
      simpa [colB] using H
theorem spec_sym_l1 (l : List (List Int)) (n : Nat) (hn : n ≤ 5) (hl : ∀ p ∈ l, rowI n p) (hll : l.length ≤ 1000) (all : List (List Int)) (i5 : Nat) (h5 : i5 < all.length) (h5b : all.length ≤ 1000) (x : List Int) (hx5 : all[i5] = x) (hx : rowI n x) (s R : Int) :
    ∀ (r : List (List Int)) (i : Nat) (b : Bool), l.drop i = r → i + r.length = l.length → EV (fun k => spec_SheetSymmetries.l0 k l (wrap64 (s + (if (b && fineB r x) = true then 1 else 0))) all ((i5 + 1 : Nat) : Int)) R → EV (fun k => spec_SheetSymmetries.l1 k l s all (i5 : Int) b (i : Int)) R := by
  have ew5 : wrap64 ((i5 : Int) + 1) = ((i5 + 1 : Nat) : Int) := by rw [w64 (by omega) (by omega)]; omega
  intro r
  induction r with
  | nil =>
    intro i b hd hi H
    refine EV.step (fun k => by rw [spec_SheetSymmetries.l1]) (EV.neg (by simp at hi; omega) (EV.by (spec_l1Bit_is b) ?_))
    rw [ew5]
    simpa [fineB] using H
  | cons p r ih =>
    intro i b hd hi H
    obtain ⟨hil, e1, e2⟩ := drop_at hd
    have hp : rowI n p := hl p (by rw [← e1]; exact List.getElem_mem _)
    refine EV.step (fun k => by rw [spec_SheetSymmetries.l1]) (EV.pos (by omega) ?_)
    have := spec_sym_l2 l n hn all i5 h5 x hx5 hx i hil p e1 hp hll s R n b (Nat.le_refl _) (ih (i + 1) _ e2 (by simp at hi; omega) (by
      rw [colB_then p x n hp.1 hx.1]
      simpa [fineB, Bool.and_assoc] using H))
    simpa using this
theorem spec_sym_l0 (l : List (List Int)) (n : Nat) (hn : n ≤ 5) (hl : ∀ p ∈ l, rowI n p) (hll : l.length ≤ 1000) (all : List (List Int)) (h5b : all.length ≤ 1000) (ha : ∀ x ∈ all, rowI n x) :
    ∀ (r : List (List Int)) (i : Nat) (s : Int), all.drop i = r → i + r.length = all.length → EV (fun k => spec_SheetSymmetries.l0 k l s all (i : Int)) (r.foldl (fun s x => wrap64 (s + (if fineB l x = true then 1 else 0))) s) := by
  intro r
  induction r with
  | nil => intro i s hd hi; refine EV.step (fun k => by rw [spec_SheetSymmetries.l0]) ?_; exact EV.neg (by simp at hi; omega) (EV.now _)
  | cons x r ih =>
    intro i s hd hi
    obtain ⟨hil, e1, e2⟩ := drop_at hd
    refine EV.step (fun k => by rw [spec_SheetSymmetries.l0]) (EV.pos (by omega) ?_)
    exact spec_sym_l1 l n hn hl hll all i hil h5b x e1 (ha x (by rw [← e1]; exact List.getElem_mem _)) s _ l 0 true rfl (by omega) (by
      simpa using ih (i + 1) _ e2 (by simp at hi; omega))
theorem spec_SheetSymmetries_is (l : List (List Int)) (hn : l.length < 4294967296) (hr : ∀ r ∈ l, r.length < 4294967296) :
    ∃ R, EV (fun k => spec_SheetSymmetries.f k l) R ∧ R = (if permsB l = true then ((ordA (d0 l) 0 (idM (d0 l))).foldl (fun s x => if fineB l x = true then wrap64 (s + 1) else s) (0 : Int)) else -1) := by
  by_cases h : permsB l = true
  · have hs : sheetsB l = true := by simp only [permsB, Bool.and_eq_true] at h; exact h.1
    have hl8 : l.length ≤ 8 := by simp only [permsB, Bool.and_eq_true, decide_eq_true_iff] at h; exact h.2
    have s := sheetsB_of hs
    have e0 : (rd_L2 l 0).length = d0 l := by rw [rdL_zero]; rfl
    have hl : ∀ p ∈ l, rowI (d0 l) p := fun p hp => by
      obtain ⟨q1, q2⟩ := s.2.2.2 p hp
      have := (permB_of q2).1
      rw [q1] at this
      exact ⟨q1, this⟩
    obtain ⟨a, ha, hP⟩ := spec_l9All_is (d0 l) (by omega) (by omega)
    have hlen : a.length ≤ 1000 := by
      rw [← hP.length_eq]
      have : d0 l = 1 ∨ d0 l = 2 ∨ d0 l = 3 ∨ d0 l = 4 ∨ d0 l = 5 := by omega
      rcases this with h | h | h | h | h <;> rw [h] <;> decide +kernel
    have hrow : ∀ x ∈ a, rowI (d0 l) x := fun x hx => ordA_I (d0 l) 0 _ (by omega) (rowI_id _) x (hP.mem_iff.2 hx)
    refine ⟨a.foldl (fun s x => wrap64 (s + (if fineB l x = true then 1 else 0))) 0, EV.bind (spec_l9Perms_is l hn hr) (EV.pos h (EV.pos (by omega) ?_)), ?_⟩
    · rw [e0]
      refine EV.bind ha ?_
      exact spec_sym_l0 l (d0 l) (by omega) hl (by omega) a hlen hrow a 0 0 rfl (by omega)
    · rw [if_pos h, count_fold _ _ 0 (by omega) (by have := hP.length_eq; omega), count_sum _ _ 0 (by omega) (by omega), hP.countP_eq]
  · exact ⟨-1, EV.bind (spec_l9Perms_is l hn hr) (EV.neg h (EV.now _)), (if_neg h).symm⟩

theorem laws_total_is (xs : List Int) (hl : xs.length ≤ 1000) (hx : ∀ x ∈ xs, 0 ≤ x ∧ x ≤ 1000) : EV (fun k => laws_total.f k xs) xs.sum := by
  have go : ∀ (n i : Nat) (s : Int), i + n = xs.length → 0 ≤ s → s ≤ 1000 * i → EV (fun k => laws_total.l0 k xs s (i : Int)) (s + (xs.drop i).sum) := by
    intro n
    induction n with
    | zero =>
      intro i s hi _ _
      rw [List.drop_of_length_le (by omega)]
      refine EV.step (fun k => by rw [laws_total.l0]) ?_
      exact EV.neg (by omega) ((EV.now _).eq (by simp))
    | succ n ih =>
      intro i s hi h0 h1
      have hlt : i < xs.length := by omega
      have e := rd_nat xs i hlt
      have b := hx _ (List.getElem_mem hlt)
      have H := ih (i + 1) (s + xs[i]) (by omega) (by omega) (by omega)
      refine EV.step (fun k => by rw [laws_total.l0]) ?_
      rw [e, w64 (x := s + xs[i]) (by omega) (by omega), w64 (x := (i : Int) + 1) (by omega) (by omega)]
      refine EV.pos (by omega) (EV.pos (by omega) ?_)
      rw [show ((i + 1 : Nat) : Int) = (i : Int) + 1 by omega] at H
      refine H.eq ?_
      rw [List.drop_eq_getElem_cons hlt, List.sum_cons]; omega
  exact (go xs.length 0 0 (by omega) (by omega) (by omega)).eq (by simp)

/-- the surface that covers by a part -/
def surfM (g : Int) (S : List Int) (cs : List (List Int)) : S46 := if g = 0 then ⟨(((2 + S.length - bN S cs) / 2 : Nat) : Int), 0, (bN S cs : Int)⟩ else ⟨1 + (S.length : Int) * (g - 1), 0, 0⟩
theorem bN_le (S : List Int) (cs : List (List Int)) : bN S cs ≤ cs.length := List.countP_le_length
theorem bN_cons (S : List Int) (c : List Int) (cs : List (List Int)) : (bN S (c :: cs) : Int) = (if S.contains (c.getD 0 0) = true then 1 else 0) + bN S cs := by
  unfold bN
  rw [List.countP_cons]
  split <;> omega
theorem spec_cover_in {g : Int} {parts cs acc : List _} {i : Nat} (hi : i < parts.length) (hS : (parts[i]).length ≤ 5) (hc : ∀ c ∈ cs, 0 < c.length) (hcl : cs.length ≤ 5) (ha : acc.length ≤ 5) (R : List S46 × Bool) : ∀ (n j : Nat) (b : Nat), j + n = cs.length → b ≤ j →
    EV (fun k => spec_CoverOf.l0 k g (acc ++ [⟨wrap64 (Int.tdiv (wrap64 (wrap64 (2 + ((parts[i]).length : Int)) - ((b + bN parts[i] (cs.drop j) : Nat) : Int))) 2), 0, ((b + bN parts[i] (cs.drop j) : Nat) : Int)⟩]) parts cs (wrap64 ((i : Int) + 1))) R →
    EV (fun k => spec_CoverOf.l1 k g acc parts cs (i : Int) ((parts[i]).length : Int) (j : Int) 0 0 (b : Int)) R := by
  intro n
  induction n with
  | zero =>
    intro j b hj hb H
    rw [List.drop_of_length_le (by omega)] at H
    refine EV.step (fun k => by rw [spec_CoverOf.l1]) ?_
    refine EV.neg (by omega) (EV.pos (by omega) ?_)
    simpa [bN] using H
  | succ n ih =>
    intro j b hj hb H
    have hlt : j < cs.length := by omega
    have pc := hc _ (List.getElem_mem hlt)
    rw [List.drop_eq_getElem_cons hlt] at H
    have hb1 := bN_cons parts[i] cs[j] (cs.drop (j + 1))
    refine EV.step (fun k => by rw [spec_CoverOf.l1]) ?_
    rw [rdL_nat _ _ hlt, rdL_nat _ _ hi, w64 (x := (j : Int) + 1) (by omega) (by omega)]
    refine EV.pos (by omega) (EV.pos (by omega) (EV.pos (by omega) (EV.pos (by omega) (EV.pos (by omega) (EV.bind (spec_l3Find2_is _ _ (by omega)) (EV.by (spec_l1Bit_is _) ?_))))))
    have e0 : rd cs[j] 0 = cs[j].getD 0 0 := rfl
    rw [e0]
    by_cases hm : parts[i].contains (cs[j].getD 0 0) = true
    · rw [if_pos hm] at hb1 ⊢
      rw [w64 (x := (b : Int) + 1) (by omega) (by omega)]
      have := ih (j + 1) (b + 1) (by omega) (by omega) (by rw [show b + 1 + bN parts[i] (cs.drop (j + 1)) = b + bN parts[i] (cs[j] :: cs.drop (j + 1)) by omega]; exact H)
      exact_mod_cast this
    · rw [if_neg hm] at hb1 ⊢
      rw [w64 (x := (b : Int) + 0) (by omega) (by omega), Int.add_zero]
      have := ih (j + 1) b (by omega) (by omega) (by rw [show b + bN parts[i] (cs.drop (j + 1)) = b + bN parts[i] (cs[j] :: cs.drop (j + 1)) by omega]; exact H)
      exact_mod_cast this
theorem impl_cover_in {g : Int} {l parts cs : List (List Int)} {acc : List S46} {i : Nat} {S : List Int} (hS : S.length ≤ 5) (hc : ∀ c ∈ cs, 0 < c.length) (hcl : cs.length ≤ 5) (e N : Int) (R : List S46 × Bool) : ∀ (n j : Nat) (b : Nat), j + n = cs.length → b ≤ j →
    EV (fun k => impl_CoverOf.l1 k g l acc S e ((b + bN S (cs.drop j) : Nat) : Int) parts N (i : Int) cs (cs.length : Int) (cs.length : Int)) R →
    EV (fun k => impl_CoverOf.l1 k g l acc S e (b : Int) parts N (i : Int) cs (cs.length : Int) (j : Int)) R := by
  intro n
  induction n with
  | zero =>
    intro j b hj hb H
    rw [List.drop_of_length_le (by omega)] at H
    have e : j = cs.length := by omega
    subst e
    simpa [bN] using H
  | succ n ih =>
    intro j b hj hb H
    have hlt : j < cs.length := by omega
    have pc := hc _ (List.getElem_mem hlt)
    rw [List.drop_eq_getElem_cons hlt] at H
    have hb1 := bN_cons S cs[j] (cs.drop (j + 1))
    obtain ⟨x, x1, x2⟩ := impl_indexOf_is S (rd cs[j] 0) (by omega)
    refine EV.step (fun k => by rw [impl_CoverOf.l1]) ?_
    rw [rdL_nat _ _ hlt, w64 (x := (j : Int) + 1) (by omega) (by omega)]
    refine EV.pos (by omega) (EV.pos (by omega) (EV.pos (by omega) (EV.pos (by omega) (EV.bind x1 ?_))))
    have e0 : rd cs[j] 0 = cs[j].getD 0 0 := rfl
    rw [e0] at x2
    by_cases hm : S.contains (cs[j].getD 0 0) = true
    · rw [if_pos hm] at hb1
      rw [w64 (x := (b : Int) + 1) (by omega) (by omega)]
      have := ih (j + 1) (b + 1) (by omega) (by omega) (by rw [show b + 1 + bN S (cs.drop (j + 1)) = b + bN S (cs[j] :: cs.drop (j + 1)) by omega]; exact H)
      exact EV.pos (x2.2 hm) (by exact_mod_cast this)
    · rw [if_neg hm] at hb1
      have := ih (j + 1) b (by omega) (by omega) (by rw [show b + bN S (cs.drop (j + 1)) = b + bN S (cs[j] :: cs.drop (j + 1)) by omega]; exact H)
      exact EV.neg (fun h => hm (x2.1 h)) (by exact_mod_cast this)
theorem cover_both {g : Int} (hg : 0 ≤ g ∧ g ≤ 2) {l parts cs w : List _} (hp : parts.length ≤ 5) (hS : ∀ S ∈ parts, S.length ≤ 5) (hc : ∀ c ∈ cs, 0 < c.length) (hcl : cs.length ≤ 5)
    (h0 : g = 0 → ∀ S ∈ parts, (S.length + bN S cs) % 2 = 0 ∧ bN S cs ≤ S.length)
    (hw : EV (fun k => impl_act.f k l [1, 2, -1, -2]) w) (hcy : EV (fun k => impl_cycles.f k w) cs) : ∀ (n i : Nat) (acc : List S46), i + n = parts.length → acc.length = i →
    EV (fun k => spec_CoverOf.l0 k g acc parts cs (i : Int)) (acc ++ (parts.drop i).map (fun S => surfM g S cs), true) ∧
    EV (fun k => impl_CoverOf.l0 k g l acc parts (parts.length : Int) (i : Int)) (acc ++ (parts.drop i).map (fun S => surfM g S cs), true) := by
  intro n
  induction n with
  | zero =>
    intro i acc hi ha
    rw [List.drop_of_length_le (by omega)]
    refine ⟨?_, ?_⟩
    · refine EV.step (fun k => by rw [spec_CoverOf.l0]) ?_
      exact EV.neg (by omega) ((EV.now _).eq (by simp))
    · refine EV.step (fun k => by rw [impl_CoverOf.l0]) ?_
      exact EV.neg (by omega) ((EV.now _).eq (by simp))
  | succ n ih =>
    intro i acc hi ha
    have hlt : i < parts.length := by omega
    have mS := List.getElem_mem hlt
    have sz := hS _ mS
    have bl := bN_le parts[i] cs
    obtain ⟨h1, h2⟩ := ih (i + 1) (acc ++ [surfM g parts[i] cs]) (by omega) (by simp [ha])
    have er : acc ++ (parts.drop i).map (fun S => surfM g S cs) = acc ++ [surfM g parts[i] cs] ++ (parts.drop (i + 1)).map (fun S => surfM g S cs) := by
      rw [List.drop_eq_getElem_cons hlt, List.map_cons, List.append_assoc]; rfl
    rw [er]
    by_cases z : g = 0
    · have par := h0 z _ mS
      obtain ⟨q, hq⟩ : ∃ q : Nat, 2 + parts[i].length = 2 * q + bN parts[i] cs := ⟨(2 + parts[i].length - bN parts[i] cs) / 2, by omega⟩
      have es : surfM g parts[i] cs = ⟨(q : Int), 0, (bN parts[i] cs : Int)⟩ := by
        unfold surfM; rw [if_pos z, show (2 + parts[i].length - bN parts[i] cs) / 2 = q by omega]
      rw [es] at h1 h2 ⊢
      refine ⟨?_, ?_⟩
      · refine EV.step (fun k => by rw [spec_CoverOf.l0]) ?_
        rw [rdL_nat _ _ hlt]
        refine EV.pos (by omega) (EV.pos (by omega) (EV.pos z ?_))
        refine spec_cover_in hlt sz hc hcl (by omega) _ cs.length 0 0 (by omega) (by omega) ?_
        simp only [List.drop_zero, Nat.zero_add]
        rw [w64 (x := 2 + (parts[i].length : Int)) (by omega) (by omega), w64 (x := 2 + (parts[i].length : Int) - (bN parts[i] cs : Int)) (by omega) (by omega), show Int.tdiv (2 + (parts[i].length : Int) - (bN parts[i] cs : Int)) 2 = (q : Int) by
          rw [Int.tdiv_eq_ediv_of_nonneg (by omega)]; omega]
        rw [w64 (x := (q : Int)) (by omega) (by omega), w64 (x := (i : Int) + 1) (by omega) (by omega)]
        exact_mod_cast h1
      · refine EV.step (fun k => by rw [impl_CoverOf.l0]) ?_
        rw [rdL_nat _ _ hlt]
        refine EV.pos (by omega) (EV.pos (by omega) (EV.pos (by omega) (EV.pos z (EV.by (impl_relator_is _) ?_))))
        rw [if_pos rfl]
        refine EV.bind hw (EV.bind hcy ?_)
        refine impl_cover_in sz hc hcl _ _ _ cs.length 0 0 (by omega) (by omega) ?_
        simp only [List.drop_zero, Nat.zero_add]
        refine EV.step (fun k => by rw [impl_CoverOf.l1]) ?_
        refine EV.neg (by omega) ?_
        rw [w64 (x := -(parts[i].length : Int)) (by omega) (by omega), w64 (x := (i : Int) + 1) (by omega) (by omega)]
        refine EV.by (impl_surf_b q (bN parts[i] cs) (by omega) (by omega) _ (by omega)) ?_
        exact EV.pos rfl (EV.pos (by omega) (by exact_mod_cast h2))
    · have es : surfM g parts[i] cs = ⟨1 + (parts[i].length : Int) * (g - 1), 0, 0⟩ := by
        unfold surfM; rw [if_neg z]
      rw [es] at h1 h2 ⊢
      have hq : ∃ q : Nat, 1 + (parts[i].length : Int) * (g - 1) = (q : Int) ∧ q ≤ 20 ∧ (parts[i].length : Int) * (2 - 2 * g) = 2 - 2 * (q : Int) ∧ (parts[i].length : Int) * (g - 1) = (q : Int) - 1 := by
        rcases (by omega : g = 1 ∨ g = 2) with rfl | rfl
        · exact ⟨1, by omega, by omega, by omega, by omega⟩
        · exact ⟨1 + parts[i].length, by omega, by omega, by omega, by omega⟩
      obtain ⟨q, q1, q2, q3, q4⟩ := hq
      rw [q1] at h1 h2 ⊢
      refine ⟨?_, ?_⟩
      · refine EV.step (fun k => by rw [spec_CoverOf.l0]) ?_
        rw [rdL_nat _ _ hlt]
        refine EV.pos (by omega) (EV.pos (by omega) (EV.neg z (EV.pos (by omega) ?_)))
        rw [w64 (x := g - 1) (by omega) (by omega), q4, w64 (x := (q : Int) - 1) (by omega) (by omega), w64 (x := 1 + ((q : Int) - 1)) (by omega) (by omega), show 1 + ((q : Int) - 1) = q by omega, w64 (x := (i : Int) + 1) (by omega) (by omega)]
        exact_mod_cast h1
      · refine EV.step (fun k => by rw [impl_CoverOf.l0]) ?_
        rw [rdL_nat _ _ hlt]
        refine EV.pos (by omega) (EV.pos (by omega) (EV.pos (by omega) (EV.neg z ?_)))
        rw [w64 (x := 2 * g) (by omega) (by omega), w64 (x := 2 - 2 * g) (by omega) (by omega), q3, w64 (x := 2 - 2 * (q : Int)) (by omega) (by omega), w64 (x := (i : Int) + 1) (by omega) (by omega)]
        refine EV.by (impl_surf_b q 0 (by omega) (by omega) _ (by omega)) ?_
        exact EV.pos rfl (EV.pos (by omega) (by exact_mod_cast h2))
set_option synthInstance.maxHeartbeats 2000000 in
set_option synthInstance.maxSize 4000 in
theorem cyc_pos {n : Nat} {p : List Int} (h : permN n p) (h1 : 1 ≤ n) (h5 : n ≤ 5) : ∃ c, EV (fun k => spec_l6Cycles.f k p) c ∧ EV (fun k => impl_cycles.f k p) c ∧ c.length ≤ 5 ∧ ∀ r ∈ c, 0 < r.length := by
  have := perm_all (fun p => ((impl_cycles.f 40 p).map fun c => c.all fun r => decide (0 < r.length)) == some true) (by decide +kernel) (by decide +kernel) (by decide +kernel) (by decide +kernel) (by decide +kernel) h.2 (by have := h.1; omega) (by have := h.1; omega)
  rw [beq_iff_eq] at this
  obtain ⟨c, c1, c2, c3⟩ := cyc_is h.2 (by have := h.1; omega) (by have := h.1; omega)
  rcases hx : impl_cycles.f 40 p with _ | c'
  · rw [hx] at this; cases this
  · rw [hx] at this
    have e := EV.uniq c2 (EV.mono (impl_cycles.mono p) hx)
    subst e
    refine ⟨c, c1, c2, c3, fun r hr => ?_⟩
    simp only [Option.map_some, Option.some.injEq, List.all_eq_true, decide_eq_true_eq] at this
    exact this r hr
theorem cov_par {l : List (List Int)} (hs : sheetsB l = true) (h2 : l.length = 2) {cs : List (List Int)} (hc : EV (fun k => impl_cycles.f k (actL l (relM 1))) cs) : ∀ S ∈ partsM l, (S.length + bN S cs) % 2 = 0 ∧ bN S cs ≤ S.length := by
  have s := sheetsB_of hs
  obtain ⟨p, q, rfl⟩ : ∃ p q, l = [p, q] := by
    match l, h2 with
    | [p, q], _ => exact ⟨p, q, rfl⟩
  have := cov_pair (s.2.2.2 p (by simp)) (s.2.2.2 q (by simp)) s.2.1 s.2.2.1
  unfold covOk at this
  rcases hx : impl_cycles.f 40 (actL [p, q] (relM 1)) with _ | c'
  · rw [hx] at this; cases this
  · rw [hx] at this
    have e := EV.uniq hc (EV.mono (impl_cycles.mono _) hx)
    subst e
    intro S hS
    simp only [List.all_eq_true, Bool.and_eq_true, beq_iff_eq] at this
    exact ⟨(this S hS).1, Nat.le_of_ble_eq_true (this S hS).2⟩
theorem spec_lens {c : List (List Int)} (hc : c.length ≤ 1000) : EV (fun k => spec_LiftLengths.l0 k [] c 0) ((lensL c).foldl putM []) := by
  have e : (lensL c).foldl putM [] = c.foldl (fun s r => putM s (r.length : Int)) [] := by simp [lensL, List.foldl_map]
  rw [e]
  refine EV.fold (g := fun k s i => spec_LiftLengths.l0 k s c i) c (fun s r => putM s (r.length : Int)) id (fun i s => s.length = i) (fun i hi s r hs H => ?_) (fun s hs => ?_) [] rfl
  · refine EV.step (fun k => by rw [spec_LiftLengths.l0]) ?_
    rw [rdL_nat _ _ hi, w64 (x := (i : Int) + 1) (by omega) (by omega)]
    refine EV.pos (by omega) (EV.pos (by omega) (EV.bind (spec_l9Put_is s _ (by omega)) ?_))
    exact H (by rw [putM_len]; omega)
  · refine EV.step (fun k => by rw [spec_LiftLengths.l0]) ?_
    exact EV.neg (by omega) (EV.now _)
theorem cover_is (g : Int) (t : List (List Int)) (hn : t.length ≤ 1000) (h1 : ∀ r ∈ t, r.length < 4294967296) :
    (actionB g t = true → ∃ cs, (g = 0 → ∀ S ∈ partsM t, (S.length + bN S cs) % 2 = 0 ∧ bN S cs ≤ S.length) ∧ EV (fun k => spec_CoverOf.f k g t) ((partsM t).map (fun S => surfM g S cs), true) ∧ EV (fun k => impl_CoverOf.f k g t) ((partsM t).map (fun S => surfM g S cs), true)) ∧
    (¬ actionB g t = true → EV (fun k => spec_CoverOf.f k g t) ([], false) ∧ EV (fun k => impl_CoverOf.f k g t) ([], false)) := by
  have A := spec_IsAction_is g t (by omega) h1
  have B := impl_IsAction_is g t (by omega) h1
  refine ⟨fun h => ?_, fun h => ⟨EV.bind A (EV.neg h (EV.now _)), EV.bind B (EV.neg h (EV.now _))⟩⟩
  have hp := h
  simp only [actionB, Bool.and_eq_true, decide_eq_true_iff] at hp
  obtain ⟨hg, hl, hs, -⟩ := hp
  have s := sheetsB_of hs
  have m := mxM_of hg
  have hl2 : 2 ≤ t.length ∧ t.length ≤ 4 := by omega
  have hpb : permsB t = true := by simp only [permsB, hs, Bool.true_and, decide_eq_true_iff]; omega
  have hok : wordOk t (relM 1) = true := by
    simp only [wordOk, wordB, relM, letterB, leB, List.all_cons, List.all_nil, if_true, Bool.and_eq_true, decide_eq_true_iff]
    simp; omega
  have eM : actM t (relM 1) = actL t (relM 1) := by unfold actM; rw [if_pos ⟨hpb, hok⟩]
  have P1 := spec_l9Parts_is hs (by omega)
  have P2 := impl_parts_is hs (by omega)
  have z := partsM_sz hs
  have W1 := spec_ActWord_is t (relM 1) (by omega) h1 (by simp [relM])
  rw [eM] at W1
  have W2 := impl_act_is t (relM 1) hs (letters_of hok).1 (by simp [relM])
  obtain ⟨cs, c1, c2, c5, cp⟩ := cyc_pos (perm_actL hs (letters_of hok).1) s.2.1 s.2.2.1
  have par : g = 0 → ∀ S ∈ partsM t, (S.length + bN S cs) % 2 = 0 ∧ bN S cs ≤ S.length := fun e => cov_par hs (by omega) c2
  obtain ⟨h3, h4⟩ := cover_both hg (l := t) z.1 z.2 cp c5 par W2 c2 (partsM t).length 0 [] (by omega) rfl
  rw [List.nil_append, List.drop_zero] at h3 h4
  exact ⟨cs, par, EV.bind A (EV.pos h (EV.bind P1 (EV.by (spec_Relator_is 1) (EV.bind W1 (EV.bind c1 h3))))), EV.bind B (EV.pos h (EV.bind P2 h4))⟩
theorem lift_is (l : List (List Int)) (n : l.length ≤ 1000) (h1 : ∀ r ∈ l, r.length < 4294967296) (w : List Int) (hw : ∀ x ∈ w, (Lit.int .i64 x).wf = true) (nw : w.length ≤ 1000) :
    ∃ R : List Int, EV (fun k => spec_LiftLengths.f k l w) R ∧ EV (fun k => impl_LiftLengths.f k l w) R ∧ R.length ≤ 5 ∧ (∀ x ∈ R, 0 ≤ x ∧ x ≤ 1000) ∧ R.sum = ((actM l w).length : Int) := by
  have A := spec_ActWord_is l w (by omega) h1 (by omega)
  have B := impl_ActWord_is l w (by omega) h1 (by omega) hw
  rcases actM_perm l w with h | ⟨m, hm1, hm5, hp⟩
  · rw [h] at A B ⊢
    exact ⟨[], EV.bind A (EV.bind (f := fun k t => spec_LiftLengths.l0 k [] t 0) (a := []) (EV.mono (spec_l6Cycles.mono []) (k := 5) (by decide +kernel)) (spec_lens (c := []) (by simp))), EV.bind B (EV.pos rfl (EV.now _)), by simp, by simp, by simp⟩
  · have hl := hp.1
    obtain ⟨c, c1, c2, c3⟩ := cyc_is hp.2 (by omega) (by omega)
    have s := lens_sum hp hm1 hm5 c2
    have l5 : (lensL c).length ≤ 5 := by simp [lensL]; omega
    have nn : ∀ x ∈ lensL c, 0 ≤ x := fun x hx => by
      simp only [lensL, List.mem_map] at hx
      obtain ⟨r, _, rfl⟩ := hx; omega
    have b5 : ∀ x ∈ lensL c, 0 ≤ x ∧ x ≤ 5 := fun x hx => ⟨nn x hx, by have := mem_le_sum (lensL c) nn x hx; omega⟩
    refine ⟨(lensL c).foldl putM [], EV.bind A (EV.bind c1 (spec_lens (by omega))), EV.bind B (EV.neg (by omega) (impl_lengths_of c2 (by omega))), by rw [puts_len]; simp; omega, fun x hx => ?_, by rw [sum_puts]; simp [s, hl]⟩
    rcases mem_puts (lensL c) [] x hx with h' | h'
    · cases h'
    · have := b5 x h'; omega
theorem parts_is (t : List (List Int)) (n : t.length ≤ 1000) (h1 : ∀ r ∈ t, r.length < 4294967296) : ∃ R, EV (fun k => spec_SheetParts.f k t) R ∧ EV (fun k => impl_SheetParts.f k t) R ∧ R.length ≤ 5 ∧ (∀ r ∈ R, r.length ≤ 5) ∧ (permsB t = true → R = partsM t) := by
  have A := spec_l9Perms_is t (by omega) h1
  have B := impl_areSheets_is t (by omega) h1
  by_cases h : permsB t = true
  · have hp := h
    simp only [permsB, Bool.and_eq_true, decide_eq_true_iff] at hp
    have z := partsM_sz hp.1
    exact ⟨partsM t, EV.bind A (EV.pos h (EV.bind (spec_l9Parts_is hp.1 (by omega)) (EV.now _))), EV.neg (by omega) (EV.bind B (EV.pos hp.1 (EV.bind (impl_parts_is hp.1 (by omega)) (EV.now _)))), z.1, z.2, fun _ => rfl⟩
  · refine ⟨[], EV.bind A (EV.neg h (EV.now _)), ?_, by simp, by simp, fun h' => absurd h' h⟩
    refine EV.cases (fun _ => EV.now _) (fun h8 => EV.bind B ?_)
    have : ¬ sheetsB t = true := fun hs => h (by simp only [permsB, hs, Bool.true_and, decide_eq_true_iff]; omega)
    exact EV.neg this (EV.now _)
theorem sym_is (l : List (List Int)) (n : l.length ≤ 1000) (hr : ∀ r ∈ l, r.length < 4294967296) : ∃ R : Int, EV (fun k => spec_SheetSymmetries.f k l) R ∧ EV (fun k => impl_SheetSymmetries.f k l) R ∧ (permsB l = true → R = (((ordA (d0 l) 0 (idM (d0 l))).countP (fineB l) : Nat) : Int)) := by
  obtain ⟨R, h1, h2⟩ := spec_SheetSymmetries_is l (by omega) hr
  have h3 := impl_SheetSymmetries_is l (by omega) hr
  rw [← h2] at h3
  refine ⟨R, h1, h3, fun hp => ?_⟩
  rw [h2, if_pos hp]
  have s := sheetsB_of (show sheetsB l = true by have := hp; simp only [permsB, Bool.and_eq_true] at this; exact this.1)
  have hlen : (ordA (d0 l) 0 (idM (d0 l))).length ≤ 1000 := by
    have : d0 l = 1 ∨ d0 l = 2 ∨ d0 l = 3 ∨ d0 l = 4 ∨ d0 l = 5 := by omega
    rcases this with h | h | h | h | h <;> rw [h] <;> decide +kernel
  rw [count_fold _ _ 0 (by omega) (by omega)]; simp
/-! ### numbers of actions and covers -/
def tabN (g n : Nat) : Nat := (([[1, 4, 36], [1, 4, 18], [1, 16, 486]] : List (List Nat)).getD g []).getD (n - 1) 0
def tabOk (g n : Nat) : Bool := match spec_l9All.f 3000 (n : Int) with
  | none => false
  | some A => decide (A.length ≤ 6) && (A.all (fun r => decide (r.length ≤ 6)) && decide (cN (g : Int) false A (2 * (mxM (g : Int)).toNat) [] = tabN g n))
theorem tab_ok : ∀ g : Nat, g < 3 → ∀ n : Nat, n < 4 → 1 ≤ n → tabOk g n = true := by decide +kernel
theorem count_is (g n : Int) (hg : -1 ≤ g ∧ g ≤ 4) (hn : 0 ≤ n ∧ n ≤ 4) : ∃ c d : Int, EV (fun k => spec_CountActions.f k g n) c ∧ EV (fun k => impl_CountActions.f k g n) c ∧ EV (fun k => spec_CountCovers.f k g n) d ∧ EV (fun k => impl_CountCovers.f k g n) d ∧ ((0 ≤ g ∧ g ≤ 2) ∧ (1 ≤ n ∧ n ≤ 3) → c = (tabN g.toNat n.toNat : Nat)) := by
  by_cases h : (0 ≤ g ∧ g ≤ 2) ∧ (1 ≤ n ∧ n ≤ 3)
  · obtain ⟨n, rfl⟩ : ∃ m : Nat, n = m := ⟨n.toNat, by omega⟩
    obtain ⟨a, x, y, hx, hy, e1, e2, e3, e4⟩ := counts g h.1 n (by omega) (by omega)
    obtain ⟨d, hd, hf, ht⟩ : ∃ d : Int, (d = 1 ∨ d = 2) ∧ EV (fun k => spec_l7Factorial.f k (wrap64 ((n : Int) - 1))) d ∧ rd [1, 1, 1, 2] (n : Int) = d := by
      have hn3 : n = 1 ∨ n = 2 ∨ n = 3 := by omega
      rcases hn3 with rfl | rfl | rfl
      · exact ⟨1, .inl rfl, (spec_l7Factorial_is _ (by decide +kernel)).eq (by decide +kernel), rfl⟩
      · exact ⟨1, .inl rfl, (spec_l7Factorial_is _ (by decide +kernel)).eq (by decide +kernel), rfl⟩
      · exact ⟨2, .inr rfl, (spec_l7Factorial_is _ (by decide +kernel)).eq (by decide +kernel), rfl⟩
    have hd0 : ¬ d = 0 := by rcases hd with rfl | rfl <;> decide
    refine ⟨x, wrap64 (Int.tdiv y d), ?_, ?_, ?_, ?_, fun _ => ?_⟩
    · unfold spec_CountActions.f
      refine EV.by (spec_l1In_is _ _ _) (EV.pos (by simp [h.1]) (EV.by (spec_l1In_is _ _ _) ?_))
      exact EV.step (fun k => by rw [spec_CountActions.j0]) (EV.neg (by simp; omega) (EV.bind e1 (EV.bind e2 (EV.now _))))
    · unfold impl_CountActions.f
      exact EV.by (impl_within_is _ _ _) (EV.pos (by simp [h.1]) (EV.by (impl_within_is _ _ _) (EV.pos (by simp; omega) (EV.bind e4 (EV.now _)))))
    · unfold spec_CountCovers.f
      refine EV.by (spec_l1In_is _ _ _) (EV.pos (by simp [h.1]) (EV.by (spec_l1In_is _ _ _) ?_))
      exact EV.step (fun k => by rw [spec_CountCovers.j0]) (EV.neg (by simp; omega) (EV.bind e1 (EV.bind e3 (EV.bind hf (EV.neg hd0 (EV.now _))))))
    · unfold impl_CountCovers.f
      refine EV.by (impl_within_is _ _ _) (EV.pos (by simp [h.1]) (EV.by (impl_within_is _ _ _) (EV.pos (by simp; omega) (EV.bind e4 (EV.by rfl (EV.pos (by omega) (EV.pos (by simp; omega) ?_)))))))
      rw [ht]
      exact EV.neg hd0 (EV.now _)
    · obtain ⟨q, rfl⟩ : ∃ q : Nat, g = q := ⟨g.toNat, by omega⟩
      have ok := tab_ok q (by omega) n (by omega) (by omega)
      unfold tabOk at ok
      split at ok
      · cases ok
      · rename_i A eA
        have e := EV.uniq e1 (EV.mono (spec_l9All.mono (n : Int)) eA)
        subst e
        simp only [Bool.and_eq_true, decide_eq_true_iff, List.all_eq_true] at ok
        have m := mxM_of h.1
        have E := spec_l9Count_is (q : Int) h.1 false a ok.1 (fun r hr => by have := ok.2.1 r hr; omega) (2 * (mxM (q : Int)).toNat) [] (by simp; omega) (by simp)
        have := EV.uniq e2 E
        rw [this, ok.2.2]; rfl
  · refine ⟨-1, -1, ?_, ?_, ?_, ?_, fun h' => absurd h' h⟩
    · unfold spec_CountActions.f
      refine EV.by (spec_l1In_is _ _ _) (EV.cases (fun h1 => EV.by (spec_l1In_is _ _ _) ?_) (fun h1 => ?_))
      · refine EV.step (fun k => by rw [spec_CountActions.j0]) (EV.pos ?_ (EV.now _))
        simp at h1 ⊢; omega
      · exact EV.step (fun k => by rw [spec_CountActions.j0]) (EV.pos rfl (EV.now _))
    · unfold impl_CountActions.f
      refine EV.by (impl_within_is _ _ _) (EV.cases (fun h1 => EV.by (impl_within_is _ _ _) (EV.neg ?_ (EV.now _))) (fun h1 => EV.now _))
      simp at h1 ⊢; omega
    · unfold spec_CountCovers.f
      refine EV.by (spec_l1In_is _ _ _) (EV.cases (fun h1 => EV.by (spec_l1In_is _ _ _) ?_) (fun h1 => ?_))
      · refine EV.step (fun k => by rw [spec_CountCovers.j0]) (EV.pos ?_ (EV.now _))
        simp at h1 ⊢; omega
      · exact EV.step (fun k => by rw [spec_CountCovers.j0]) (EV.pos rfl (EV.now _))
    · unfold impl_CountCovers.f
      refine EV.by (impl_within_is _ _ _) (EV.cases (fun h1 => EV.by (impl_within_is _ _ _) (EV.neg ?_ (EV.now _))) (fun h1 => EV.now _))
      simp at h1 ⊢; omega
/-! ### Euler numbers -/
def baseM (g : Int) : Int := if g = 0 then -1 else if g = 1 then 0 else -2
theorem base_rd {g : Int} (hg : 0 ≤ g ∧ g ≤ 2) : rd [(-1), 0, (-2)] g = baseM g := by
  have : g = 0 ∨ g = 1 ∨ g = 2 := by omega
  rcases this with rfl | rfl | rfl <;> rfl
theorem surface_is (h b : Int) (hh : 0 ≤ h ∧ h ≤ 20) (hb : 0 ≤ b ∧ b ≤ 20) : spec_IsSurface.f h 0 b = some true := by
  unfold spec_IsSurface.f
  rw [spec_l1In_is, spec_l1In_is, spec_l1In_is]
  have b1 : decide (0 ≤ h ∧ h ≤ 20) = true := by simp; omega
  have b2 : decide (0 ≤ b ∧ b ≤ 20) = true := by simp; omega
  rw [b1, b2]; simp
theorem euler_is (h b : Int) (hh : 0 ≤ h ∧ h ≤ 20) (hb : 0 ≤ b ∧ b ≤ 20) : spec_EulerNumber.f h 0 b = some (2 - 2 * h - b) := by
  unfold spec_EulerNumber.f
  rw [surface_is h b hh hb]
  simp only [Option.bind_some, if_true]
  rw [w64 (x := 2 * h) (by omega) (by omega), w64 (x := 2 - 2 * h) (by omega) (by omega), w64 (x := 2 - 2 * h - 0) (by omega) (by omega), w64 (by omega) (by omega)]
  simp
theorem surf_euler {g : Int} (hg : 0 ≤ g ∧ g ≤ 2) {S : List Int} (hS : S.length ≤ 5) {cs : List (List Int)} (par : g = 0 → (S.length + bN S cs) % 2 = 0 ∧ bN S cs ≤ S.length) :
    spec_EulerNumber.f (surfM g S cs).f0 (surfM g S cs).f1 (surfM g S cs).f2 = some (baseM g * S.length) := by
  by_cases h0 : g = 0
  · have p := par h0
    subst h0
    have e : surfM 0 S cs = ⟨(((2 + S.length - bN S cs) / 2 : Nat) : Int), 0, (bN S cs : Int)⟩ := by unfold surfM; rw [if_pos rfl]
    rw [e]
    show spec_EulerNumber.f ((((2 + S.length - bN S cs) / 2 : Nat) : Int)) 0 ((bN S cs : Nat) : Int) = _
    rw [euler_is _ _ (by omega) (by omega)]
    simp only [baseM, if_true]; congr 1; omega
  · have e : surfM g S cs = ⟨1 + (S.length : Int) * (g - 1), 0, 0⟩ := by unfold surfM; rw [if_neg h0]
    rw [e]
    have : g = 1 ∨ g = 2 := by omega
    rcases this with rfl | rfl
    · show spec_EulerNumber.f (1 + (S.length : Int) * (1 - 1)) 0 0 = _
      rw [euler_is _ _ (by omega) (by omega)]; simp [baseM]
    · show spec_EulerNumber.f (1 + (S.length : Int) * (2 - 1)) 0 0 = _
      rw [euler_is _ _ (by omega) (by omega)]; simp [baseM]; omega
theorem w_sum (s x : Int) (h : -60 ≤ s ∧ s ≤ 60) (k : -10 ≤ x ∧ x ≤ 10) : wrap64 (s + x) = s + x := w64 (by omega) (by omega)
theorem w_ten (x : Int) (k : -10 ≤ x ∧ x ≤ 10) : wrap64 x = x := w64 (by omega) (by omega)
theorem rdS_nat (xs : List S46) (i : Nat) (h : i < xs.length) : rd_T46 xs (i : Int) = xs[i] := by
  simp [rd_T46, h]
set_option maxHeartbeats 4000000 in
theorem fc_l0 {g : Int} {l : List (List Int)} (hg : 0 ≤ g ∧ g ≤ 2) (hs : sheetsB l = true) (hl : l.length ≤ 8) {cs : List (List Int)} (par : g = 0 → ∀ S ∈ partsM l, (S.length + bN S cs) % 2 = 0 ∧ bN S cs ≤ S.length) (hr : ∀ r ∈ l, r.length < 4294967296) :
    ∀ (n i : Nat) (s : Int), i + n = (partsM l).length → s = baseM g * ((((partsM l).take i).map List.length).sum : Nat) → EV (fun k => laws_FnCovers.l0 k g l ((partsM l).map (fun S => surfM g S cs)) (partsM l) s (i : Int)) true := by
  have z := partsM_sz hs
  have P := parts_sum hs
  have S := sheetsB_of hs
  have hb : baseM g = -1 ∨ baseM g = 0 ∨ baseM g = -2 := by
    have : g = 0 ∨ g = 1 ∨ g = 2 := by omega
    rcases this with rfl | rfl | rfl
    · exact .inl rfl
    · exact .inr (.inl rfl)
    · exact .inr (.inr rfl)
  have hrow : ((rd_L2 l 0).length : Int) = (d0 l : Int) := by rw [rdL_zero]; rfl
  have hp : permsB l = true := by simp only [permsB, hs, Bool.true_and, decide_eq_true_iff]; omega
  have fin : ∀ s : Int, s = baseM g * (d0 l : Int) → (s == wrap64 (rd [(-1), 0, (-2)] g * ((rd_L2 l 0).length : Int))) = true := by
    intro s e
    rw [hrow, base_rd hg, w64 (by rcases hb with h | h | h <;> rw [h] <;> omega) (by rcases hb with h | h | h <;> rw [h] <;> omega), e]
    simp
  intro n
  induction n with
  | zero =>
    intro i s hi he
    rw [List.take_of_length_le (by omega), P] at he
    refine EV.step (fun k => by rw [laws_FnCovers.l0]) ?_
    refine EV.neg (by simp; omega) ?_
    by_cases h1 : (partsM l).length = 1
    · obtain ⟨R, _, E, hR⟩ := sym_is l (by omega) hr
      have eR := hR hp
      have dv := sym_div hs h1
      have ne : (ordA (d0 l) 0 (idM (d0 l))).countP (fineB l) ≠ 0 := fun h => by
        rw [h] at dv
        have := Nat.eq_zero_of_zero_dvd dv; omega
      refine EV.pos (by omega) (EV.pos (by have := S.1; omega) (EV.bind E (EV.neg (by rw [eR]; omega) (EV.pos ?_ (EV.pos (by simp) (EV.by rfl (EV.pos hg.1 (EV.pos (by simp; omega) ((EV.now _).eq (fin s he))))))))))
      rw [eR, hrow]
      exact_mod_cast Nat.mod_eq_zero_of_dvd dv
    · exact EV.neg (by omega) (EV.pos (by simp) (EV.by rfl (EV.pos hg.1 (EV.pos (by simp; omega) (EV.pos (by have := S.1; omega) ((EV.now _).eq (fin s he)))))))
  | succ n ih =>
    intro i s hi he
    have hlt : i < (partsM l).length := by omega
    have hS := z.2 _ (List.getElem_mem hlt)
    have hm : i < ((partsM l).map (fun S => surfM g S cs)).length := by simpa using hlt
    have c1 : (i : Int) < (((partsM l).map (fun S => surfM g S cs)).length : Int) := by exact_mod_cast hm
    have c2 : (0 : Int) ≤ (i : Int) := Int.natCast_nonneg i
    have c3 : (i : Int) < ((partsM l).length : Int) := by exact_mod_cast hlt
    have c4 : g < (([(-1), 0, (-2)] : List Int).length : Int) := by simp; omega
    have c5 : ((i + 1 : Nat) : Int) = (i : Int) + 1 := by simp
    have e1 : rd_T46 ((partsM l).map (fun S => surfM g S cs)) (i : Int) = surfM g (partsM l)[i] cs := by rw [rdS_nat _ _ hm, List.getElem_map]
    have e2 : rd_L2 (partsM l) (i : Int) = (partsM l)[i] := rdL_nat _ _ hlt
    have EU := surf_euler hg hS (fun h => par h _ (List.getElem_mem hlt))
    have tk : ((((partsM l).take (i + 1)).map List.length).sum : Nat) = (((partsM l).take i).map List.length).sum + ((partsM l)[i]).length := by
      rw [List.take_succ_eq_append_getElem hlt, List.map_append, List.sum_append]; simp
    have tb : (((partsM l).take i).map List.length).sum ≤ 5 * i := by
      have : ∀ (xs : List (List Int)), (∀ r ∈ xs, r.length ≤ 5) → (xs.map List.length).sum ≤ 5 * xs.length := by
        intro xs
        induction xs with
        | nil => intro _; simp
        | cons a xs ih2 => intro h; have h1 := h a (by simp); have h2 := ih2 (fun r hr => h r (by simp [hr])); simp only [List.map_cons, List.sum_cons, List.length_cons]; omega
      have := this ((partsM l).take i) (fun r hr => z.2 r (List.mem_of_mem_take hr))
      rw [List.length_take] at this; omega
    have i5 : i ≤ 5 := by omega
    have sb : -60 ≤ s ∧ s ≤ 60 := by rcases hb with h | h | h <;> rw [h] at he <;> omega
    have eb : -10 ≤ baseM g * (((partsM l)[i]).length : Int) ∧ baseM g * (((partsM l)[i]).length : Int) ≤ 10 := by rcases hb with h | h | h <;> rw [h] <;> omega
    have H := ih (i + 1) (s + baseM g * (((partsM l)[i]).length : Int)) (by omega) (by rw [tk, he]; push_cast; rw [Int.mul_add])
    refine EV.step (fun k => by rw [laws_FnCovers.l0]) ?_
    have es : wrap64 (s + baseM g * (((partsM l)[i]).length : Int)) = s + baseM g * (((partsM l)[i]).length : Int) := w_sum s _ sb eb
    have ei : wrap64 ((i : Int) + 1) = (i : Int) + 1 := w_sum i 1 ⟨by omega, by omega⟩ ⟨by omega, by omega⟩
    have ew : baseM g * (((partsM l)[i]).length : Int) = wrap64 (rd [(-1), 0, (-2)] g * (((partsM l)[i]).length : Int)) := by rw [base_rd hg, w_ten _ eb]
    rw [c5, ← es, ← ei] at H
    rw [e1, e2]
    refine EV.pos c1 (EV.pos c2 (EV.by EU (EV.by rfl (EV.pos hg.1 (EV.pos c4 (EV.by EU (EV.pos c3 (EV.pos ew ?_))))))))
    exact H
set_option maxHeartbeats 4000000 in
theorem fc_ev (b : List Int) (hb : b.length ≤ 140737488351232) : EV (fun k => laws_FnCovers.f k b) true := by
  by_cases h : (b.length : Int) > 1048576
  · refine EV.by (show laws_big.f b = some true by unfold laws_big.f; rw [decide_eq_true h]) ?_
    exact EV.pos rfl (EV.now _)
  · have hb' : b.length ≤ 1048576 := by omega
    obtain ⟨g, l, El, dl, hg⟩ := spec_DrawCoverOf_is b hb'
    obtain ⟨t, w, Et, dt, w1, w2⟩ := spec_DrawActWord_is b hb'
    obtain ⟨a, n, En, ha, hn⟩ := spec_DrawCountActions_is b hb'
    have l4 := dl.2.1
    have t4 := dt.2.1
    have big : ∀ {t : List (List Int)}, drawnA t → ∀ r ∈ t, r.length < 4294967296 := fun d r hr => by have := d.2.2 r hr; omega
    have wf : ∀ x ∈ w, (Lit.int .i64 x).wf = true := fun x hx => by
      have := w2 x hx
      simp [Lit.wf, IntKind.min, IntKind.max, IntKind.signed, IntKind.bits]; omega
    obtain ⟨Q, q1, q2, q5, qx, qs⟩ := lift_is t (by omega) (big dt) w wf (by omega)
    obtain ⟨c, d, c1, c2, d1, d2, ct⟩ := count_is a n ha hn
    obtain ⟨R, r1, r2, r5, rr, rp⟩ := parts_is l (by omega) (big dl)
    obtain ⟨Y, y1, y2, yv⟩ := sym_is l (by omega) (big dl)
    have A1 := spec_ActWord_is t w (by omega) (big dt) (by omega)
    have A2 := impl_ActWord_is t w (by omega) (big dt) (by omega) wf
    have al := actM_len t w
    have I1 := spec_IsAction_is g l (by omega) (big dl)
    have I2 := impl_IsAction_is g l (by omega) (big dl)
    have C := cover_is g l (by omega) (big dl)
    have T := laws_total_is Q (by omega) qx
    rw [qs] at T
    -- the last way: what is a cover is summed
    have j2 : ∀ (X : List S46) (ok : Bool), (ok = true → ∀ s : Int, s = 0 → EV (fun k => laws_FnCovers.l0 k g l X R s 0) true) → EV (fun k => laws_FnCovers.j2 k g l X ok R false) true := by
      intro X ok H
      refine EV.step (fun k => by rw [laws_FnCovers.j2]) ?_
      exact EV.neg (by simp) (EV.cases (fun h => H h 0 rfl) (fun _ => EV.now _))
    have j1 : ∀ (X : List S46) (ok : Bool), EV (fun k => laws_FnCovers.j2 k g l X ok R false) true → EV (fun k => laws_FnCovers.j1 k g l X ok a n c R false) true := by
      intro X ok H
      refine EV.step (fun k => by rw [laws_FnCovers.j1]) ?_
      refine EV.neg (by simp) (EV.by rfl (EV.cases (fun h1 => EV.cases (fun h2 => EV.cases (fun h3 => EV.cases (fun h4 => ?_) (fun _ => H)) (fun _ => H)) (fun _ => H)) (fun _ => H)))
      have cv := ct ⟨⟨h3, h4⟩, ⟨h1, h2⟩⟩
      have ea : a = 0 ∨ a = 1 ∨ a = 2 := by omega
      have en : n = 1 ∨ n = 2 ∨ n = 3 := by omega
      rcases ea with rfl | rfl | rfl <;> rcases en with rfl | rfl | rfl <;> rw [cv] <;> refine EV.pos (by decide) (EV.pos (by decide +kernel) (EV.pos (by decide +kernel) (EV.pos (by decide +kernel) ?_))) <;> exact (congrArg (fun z => EV (fun k => laws_FnCovers.j2 k g l X ok R z) true) (show _ = false by decide +kernel)).mpr H
    have j0 : ∀ (X : List S46), EV (fun k => laws_FnCovers.j2 k g l X (actionB g l) R false) true → EV (fun k => laws_FnCovers.j0 k g l X (actionB g l) (actM t w) Q a n c R false) true := by
      intro X H
      refine EV.step (fun k => by rw [laws_FnCovers.j0]) ?_
      refine EV.neg (by simp) (EV.bind T (EV.pos rfl (EV.bind I2 ?_)))
      rw [show (actionB g l != actionB g l) = false by simp]
      exact j1 X _ H
    have all : ∀ (X : List S46), X.length ≤ 1000 → EV (fun k => spec_CoverOf.f k g l) (X, actionB g l) → EV (fun k => impl_CoverOf.f k g l) (X, actionB g l) → EV (fun k => laws_FnCovers.j2 k g l X (actionB g l) R false) true → EV (fun k => laws_FnCovers.f k b) true := by
      intro X hX e1 e2 H
      refine EV.by (laws_big_no b h) (EV.neg (by simp) ?_)
      refine EV.bind El (EV.bind e2 (EV.bind e1 (EV.bind Et (EV.bind A2 (EV.bind q2 (EV.bind En (EV.bind c2 (EV.bind r2 ?_))))))))
      refine EV.neg (by simp) (EV.bind (laws_sameSurfaces_self _ (show X.length ≤ 1048576 by omega)) (EV.pos rfl ?_))
      refine EV.bind A1 (EV.bind (laws_sameInts_self _ (by omega)) (EV.pos rfl ?_))
      refine EV.bind q1 (EV.bind (laws_sameInts_self _ (by omega)) (EV.pos rfl ?_))
      refine EV.bind c1 (EV.pos rfl (EV.bind d2 (EV.bind d1 (EV.pos rfl ?_))))
      refine EV.bind r1 (EV.bind (laws_sameLists_self _ (by omega) (fun r hr => by have := rr r hr; omega)) (EV.pos rfl ?_))
      refine EV.bind I2 (EV.bind I1 (EV.neg (by simp) (EV.bind y2 (EV.bind y1 ?_))))
      rw [show (Y != Y) = false by simp]
      exact j0 X H
    by_cases hact : actionB g l = true
    · obtain ⟨cs, par, e1, e2⟩ := C.1 hact
      have hp := hact
      simp only [actionB, Bool.and_eq_true, decide_eq_true_iff] at hp
      obtain ⟨hg2, hll, hs, -⟩ := hp
      have hpb : permsB l = true := by simp only [permsB, hs, Bool.true_and, decide_eq_true_iff]; omega
      have eR := rp hpb
      rw [← hact] at e1 e2
      refine all _ (by rw [List.length_map, ← eR]; omega) e1 e2 (j2 _ _ fun _ s hs0 => ?_)
      rw [eR]
      exact fc_l0 hg2 hs (by omega) par (big dl) (partsM l).length 0 s (by omega) (by rw [hs0]; simp)
    · have e := C.2 hact
      have ef : actionB g l = false := by simpa using hact
      rw [← ef] at e
      exact all [] (by simp) e.1 e.2 (j2 _ _ fun h => absurd h hact)
theorem FnCovers : laws_FnCovers.Pure := by
  intro b h1 h2 h3
  exact EV.rounds (fc_ev b (by omega))

end Go.Proofs.Ytepogblkmiidnaa.Pure
