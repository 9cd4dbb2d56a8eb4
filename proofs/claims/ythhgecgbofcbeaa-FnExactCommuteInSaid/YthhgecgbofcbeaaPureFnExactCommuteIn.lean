/- Pure side of FnExactCommuteIn: the printed functions of the program and of the reference answer alike at every input that the statement takes; no condition beyond the printed statement's bounds. -/
import Derived.Test.YthhgecgbofcbeaaPFnExactCommuteInx8
import Derived.Test.YthhgecgbofcbeaaWSized
set_option linter.unusedVariables false
set_option linter.unusedSimpArgs false
set_option linter.unnecessarySimpa false
set_option maxRecDepth 10000
/-- the printed row calls the print's word by this name -/
abbrev Go.Proofs.Ythhgecgbofcbeaa.PrintWords.sized_ints := @Go.Proofs.YthhgecgbofcbeaaW.PrintWords.sized_ints
namespace Go.Proofs.Ythhgecgbofcbeaa.Pure
open Go.RowKit Go.Proofs.Ythhgecgbofcbeaa.PFnExactCommuteIn Go.Proofs.YthhgecgbofcbeaaW.PrintWords Go.Proofs.YthhgecgbofcbeaaW.PrintLast Go.Proofs.YthhgecgbofcbeaaW.PrintMore

/-! ### Base: words of our own, of no program -/
section
theorem w64 {x : Int} (h1 : -9223372036854775808 ≤ x) (h2 : x ≤ 9223372036854775807) : wrap64 x = x := by
  unfold wrap64; omega
theorem wf64 {x : Int} (h : (Lit.int .i64 x).wf = true) : -9223372036854775808 ≤ x ∧ x ≤ 9223372036854775807 := by
  simp only [Lit.wf, IntKind.min, IntKind.max, IntKind.signed, IntKind.bits, Bool.and_eq_true, decide_eq_true_eq, if_true] at h
  omega
/-- from some number of rounds on it answers r -/
structure EV {α : Type} (g : Nat → Option α) (r : α) : Prop where mk :: (out : ∃ K, ∀ k, K ≤ k → g k = some r)
theorem EV.now {α : Type} (r : α) : EV (fun _ => some r) r := ⟨0, fun _ _ => rfl⟩
theorem EV.rounds {α : Type} {g : Nat → Option α} {r : α} (h : EV g r) : ∃ k, g k = some r := by
  obtain ⟨K, h⟩ := h
  exact ⟨K, h K (Nat.le_refl _)⟩
theorem EV.bind {α β : Type} {g : Nat → Option α} {f : Nat → α → Option β} {a : α} {r : β} (h : EV g a) (k : EV (fun n => f n a) r) : EV (fun n => (g n).bind (f n)) r := by
  obtain ⟨K, h⟩ := h
  obtain ⟨K', k⟩ := k
  refine ⟨max K K', fun n hn => ?_⟩
  have h1 := h n (by omega)
  have h2 := k n (by omega)
  simp only [h1, Option.bind_some]
  exact h2
theorem EV.step {α : Type} {g f : Nat → Option α} {r : α} (h : ∀ k, g (k + 1) = f k) (k : EV f r) : EV g r := by
  obtain ⟨K, k⟩ := k
  refine ⟨K + 1, fun n hn => ?_⟩
  obtain ⟨m, rfl⟩ : ∃ m, n = m + 1 := ⟨n - 1, by omega⟩
  rw [h]
  exact k m (by omega)
theorem EV.congr {α : Type} {g f : Nat → Option α} {r : α} (h : ∀ k, g k = f k) (k : EV f r) : EV g r := by
  obtain ⟨K, k⟩ := k
  exact ⟨K, fun n hn => (h n).trans (k n hn)⟩
theorem EV.pos {α : Type} {c : Prop} [Decidable c] {a b : Nat → Option α} {r : α} (h : c) (k : EV a r) : EV (fun n => if c then a n else b n) r :=
  EV.congr (fun n => if_pos h) k
theorem EV.neg {α : Type} {c : Prop} [Decidable c] {a b : Nat → Option α} {r : α} (h : ¬ c) (k : EV b r) : EV (fun n => if c then a n else b n) r :=
  EV.congr (fun n => if_neg h) k
theorem EV.cases {α : Type} {c : Prop} [Decidable c] {a b : Nat → Option α} {r : α} (h : c → EV a r) (h' : ¬ c → EV b r) : EV (fun n => if c then a n else b n) r := by
  by_cases hc : c
  · exact EV.pos hc (h hc)
  · exact EV.neg hc (h' hc)
/-- a callee without rounds -/
theorem EV.by {α β : Type} {g : Option α} {f : Nat → α → Option β} {a : α} {r : β} (h : g = some a) (k : EV (fun n => f n a) r) : EV (fun n => g.bind (f n)) r := by
  subst h; exact k
theorem EV.is {α : Type} {g : Option α} {r : α} (h : g = some r) : EV (fun _ => g) r := ⟨0, fun _ _ => h⟩
theorem EV.eq {α : Type} {g : Nat → Option α} {r r' : α} (h : EV g r) (e : r = r') : EV g r' := e ▸ h
theorem rd_app (pre : List Int) (x : Int) (suf : List Int) : rd (pre ++ x :: suf) (pre.length : Int) = x := by
  simp [rd]
theorem rd_nat (xs : List Int) (i : Nat) (h : i < xs.length) : rd xs (i : Int) = xs[i] := by
  simp [rd, h]
theorem set_app {α : Type} (pre : List α) (x y : α) (suf : List α) (n : Nat) (hn : n = pre.length) : (pre ++ x :: suf).set n y = pre ++ y :: suf := by
  subst hn; simp
end
def smallB (x : Int) : Bool := decide (-1000 ≤ x ∧ x ≤ 1000)
/-- one index on -/
theorem up {α : Type} {x : α} {pre : List α} (h : pre.length < 4611686018427387904) : wrap64 ((pre.length : Int) + 1) = ((pre ++ [x]).length : Int) := by
  rw [w64 (by omega) (by omega)]; simp
theorem lt_app {α : Type} (pre : List α) (x : α) (suf : List α) : (pre.length : Int) < ((pre ++ x :: suf).length : Int) := by simp; omega
def classB (g : Int) (xs : List Int) : Bool := decide (1 ≤ g ∧ g ≤ 3) && (decide ((xs.length : Int) = 2 * g) && xs.all smallB)
theorem EV.uniq {α : Type} {g : Nat → Option α} {r r' : α} (h : EV g r) (h' : EV g r') : r = r' := by
  obtain ⟨K, h⟩ := h
  obtain ⟨K', h'⟩ := h'
  have a := h (max K K') (by omega)
  have b := h' (max K K') (by omega)
  rw [a] at b; exact Option.some.inj b
/-- from some number of rounds on -/
def Evt (P : Nat → Prop) : Prop := ∃ K, ∀ k, K ≤ k → P k
theorem Evt.and {P Q : Nat → Prop} (h : Evt P) (h' : Evt Q) : Evt (fun k => P k ∧ Q k) := by
  obtain ⟨K, h⟩ := h
  obtain ⟨K', h'⟩ := h'
  exact ⟨max K K', fun k hk => ⟨h k (by omega), h' k (by omega)⟩⟩
theorem Evt.const {p : Prop} (h : p) : Evt (fun _ => p) := ⟨0, fun _ _ => h⟩
theorem EV.evt {α : Type} {g : Nat → Option α} {r : α} (h : EV g r) : Evt (fun k => g k = some r) := h.out
theorem Evt.imp {P Q : Nat → Prop} (h : Evt P) (f : ∀ k, P k → Q k) : Evt Q := by
  obtain ⟨K, h⟩ := h
  exact ⟨K, fun k hk => f k (h k hk)⟩
theorem Evt.rounds {P : Nat → Prop} (h : Evt P) : ∃ k, P k := by
  obtain ⟨K, h⟩ := h
  exact ⟨K, h K (Nat.le_refl _)⟩
theorem EV.mono {α : Type} {g : Nat → Option α} (hg : ∀ k, LeO (g k) (g (k + 1))) {k : Nat} {r : α} (h : g k = some r) : EV g r := ⟨k, fun _ hk => at_rounds hg hk h⟩

theorem spec_l1In_is (a b c : Int) : spec_l1In.f a b c = some (decide (b ≤ a ∧ a ≤ c)) := by
  unfold spec_l1In.f
  by_cases h : a ≥ b
  · rw [if_pos h]; simp [show b ≤ a from h]
  · rw [if_neg h]; simp; omega

/-- a loop that looks at each member and answers early, or goes on -/
theorem EV.scan {α : Type} {g : Nat → Int → Option Bool} (xs : List α) (p : α → Bool) (fin : Bool)
    (hs : ∀ (i : Nat) (h : i < xs.length) (r : Bool), (p xs[i] = true → EV (fun k => g k ((i : Int) + 1)) r) → (p xs[i] = false → r = false) → EV (fun k => g k (i : Int)) r)
    (hf : EV (fun k => g k (xs.length : Int)) fin) : EV (fun k => g k 0) (xs.all p && fin) := by
  suffices h : ∀ (n i : Nat), i + n = xs.length → EV (fun k => g k (i : Int)) ((xs.drop i).all p && fin) by
    have := h xs.length 0 (by omega)
    simpa using this
  intro n
  induction n with
  | zero =>
    intro i hi
    have e : i = xs.length := by omega
    subst e
    simpa using hf
  | succ n ih =>
    intro i hi
    have hlt : i < xs.length := by omega
    have e : xs.drop i = xs[i] :: xs.drop (i + 1) := List.drop_eq_getElem_cons hlt
    rw [e, List.all_cons]
    refine hs i hlt _ (fun hp => ?_) (fun hp => by simp [hp])
    rw [hp, Bool.true_and]
    exact_mod_cast ih (i + 1) (by omega)
/-- what a loop over the members answers: the state is carried on, or an answer is given early -/
def runM {α σ ρ : Type} (f : σ → α → σ ⊕ ρ) (fin : σ → ρ) : σ → List α → ρ
  | s, [] => fin s
  | s, x :: xs => (match f s x with
    | .inl s' => runM f fin s' xs
    | .inr r => r)
theorem EV.run {α σ ρ : Type} {g : Nat → σ → Int → Option ρ} (xs : List α) (f : σ → α → σ ⊕ ρ) (fin : σ → ρ) (I : Nat → σ → Prop)
    (hs : ∀ (i : Nat) (h : i < xs.length) (s : σ) (r : ρ), I i s → (∀ s', f s xs[i] = .inl s' → I (i + 1) s' → EV (fun k => g k s' ((i : Int) + 1)) r) → (∀ a, f s xs[i] = .inr a → r = a) → EV (fun k => g k s (i : Int)) r)
    (hf : ∀ s, I xs.length s → EV (fun k => g k s (xs.length : Int)) (fin s)) : ∀ s, I 0 s → EV (fun k => g k s 0) (runM f fin s xs) := by
  suffices h : ∀ (n i : Nat), i + n = xs.length → ∀ s, I i s → EV (fun k => g k s (i : Int)) (runM f fin s (xs.drop i)) by
    intro s hI
    have := h xs.length 0 (by omega) s hI
    simpa using this
  intro n
  induction n with
  | zero =>
    intro i hi s hI
    have e : i = xs.length := by omega
    subst e
    simpa [runM] using hf s hI
  | succ n ih =>
    intro i hi s hI
    have hlt : i < xs.length := by omega
    have e : xs.drop i = xs[i] :: xs.drop (i + 1) := List.drop_eq_getElem_cons hlt
    rw [e]
    refine hs i hlt s _ hI (fun s' h' hI' => ?_) (fun a ha => by simp [runM, ha])
    have := ih (i + 1) (by omega) s' hI'
    simp only [runM, h']
    exact_mod_cast this
/-- a fold over the members -/
theorem EV.fold {α σ ρ : Type} {g : Nat → σ → Int → Option ρ} (xs : List α) (f : σ → α → σ) (fin : σ → ρ) (I : Nat → σ → Prop)
    (hs : ∀ (i : Nat) (h : i < xs.length) (s : σ) (r : ρ), I i s → (I (i + 1) (f s xs[i]) → EV (fun k => g k (f s xs[i]) ((i : Int) + 1)) r) → EV (fun k => g k s (i : Int)) r)
    (hf : ∀ s, I xs.length s → EV (fun k => g k s (xs.length : Int)) (fin s)) : ∀ s, I 0 s → EV (fun k => g k s 0) (fin (xs.foldl f s)) := by
  suffices h : ∀ (n i : Nat), i + n = xs.length → ∀ s, I i s → EV (fun k => g k s (i : Int)) (fin ((xs.drop i).foldl f s)) by
    intro s hI
    have := h xs.length 0 (by omega) s hI
    simpa using this
  intro n
  induction n with
  | zero =>
    intro i hi s hI
    have e : i = xs.length := by omega
    subst e
    simpa using hf s hI
  | succ n ih =>
    intro i hi s hI
    have hlt : i < xs.length := by omega
    have e : xs.drop i = xs[i] :: xs.drop (i + 1) := List.drop_eq_getElem_cons hlt
    rw [e, List.foldl_cons]
    refine hs i hlt s _ hI (fun hI' => ?_)
    exact_mod_cast ih (i + 1) (by omega) _ hI'
/-- a loop that changes each member of a list once, in order -/
theorem EV.zip {α β ρ : Type} {g : Nat → List α → Int → Option ρ} (upd : α → β → α) (t : List α) (x : List β) (hl : t.length = x.length) (r : ρ)
    (hs : ∀ (i : Nat) (h : i < t.length) (h' : i < x.length) (s : List α), s.length = t.length → s[i]? = some t[i] → EV (fun k => g k (s.set i (upd t[i] x[i])) ((i : Int) + 1)) r → EV (fun k => g k s (i : Int)) r)
    (hf : EV (fun k => g k (List.zipWith upd t x) (t.length : Int)) r) : EV (fun k => g k t 0) r := by
  suffices h : ∀ (n i : Nat), i + n = t.length → EV (fun k => g k (List.zipWith upd (t.take i) (x.take i) ++ t.drop i) (i : Int)) r by
    have := h t.length 0 (by omega)
    simpa using this
  intro n
  induction n with
  | zero =>
    intro i hi
    have e : i = t.length := by omega
    subst e
    rw [List.take_length, List.drop_length, List.append_nil, hl, List.take_length, ← hl]
    exact hf
  | succ n ih =>
    intro i hi
    have h1 : i < t.length := by omega
    have h2 : i < x.length := by omega
    have e : t.drop i = t[i] :: t.drop (i + 1) := List.drop_eq_getElem_cons h1
    have hz : (List.zipWith upd (t.take i) (x.take i)).length = i := by simp; omega
    refine hs i h1 h2 _ (by simp; omega) ?_ ?_
    · rw [List.getElem?_append_right (by omega), hz, Nat.sub_self, e]; rfl
    · have := ih (i + 1) (by omega)
      rw [e, set_app _ _ _ _ _ hz.symm]
      have e2 : List.zipWith upd (t.take (i + 1)) (x.take (i + 1)) = List.zipWith upd (t.take i) (x.take i) ++ [upd t[i] x[i]] := by
        rw [List.take_succ_eq_append_getElem h1, List.take_succ_eq_append_getElem h2, List.zipWith_append (by simp; omega)]; rfl
      rw [e2, List.append_assoc, List.singleton_append] at this
      exact_mod_cast this
/-- counting up to n, the state told by the count -/
theorem EV.count {σ ρ : Type} {g : Nat → σ → Int → Option ρ} (n : Nat) (f : Nat → σ) (r : ρ)
    (hs : ∀ i, i < n → EV (fun k => g k (f (i + 1)) ((i : Int) + 1)) r → EV (fun k => g k (f i) (i : Int)) r)
    (hf : EV (fun k => g k (f n) (n : Int)) r) : EV (fun k => g k (f 0) 0) r := by
  suffices h : ∀ (m i : Nat), i + m = n → EV (fun k => g k (f i) (i : Int)) r by exact h n 0 (by omega)
  intro m
  induction m with
  | zero => intro i hi; have : i = n := by omega
            subst this; exact hf
  | succ m ih => intro i hi; exact hs i (by omega) (by exact_mod_cast ih (i + 1) (by omega))
/-- counting up to n with an early answer -/
theorem EV.countB {g : Nat → Int → Option Bool} (n : Nat) (p : Nat → Bool) (fin : Bool)
    (hs : ∀ (i : Nat) (h : i < n) (r : Bool), (p i = true → EV (fun k => g k ((i : Int) + 1)) r) → (p i = false → r = false) → EV (fun k => g k (i : Int)) r)
    (hf : EV (fun k => g k (n : Int)) fin) : EV (fun k => g k 0) ((List.range n).all p && fin) := by
  refine EV.scan (List.range n) p fin (fun i h r H1 H2 => ?_) (by rw [List.length_range]; exact hf)
  rw [List.getElem_range] at H1 H2
  exact hs i (by simpa using h) r H1 H2
/-- counting up to n with an early answer, into what comes behind -/
theorem EV.countC {ρ : Type} {g : Nat → Int → Option ρ} (n : Nat) (p : Nat → Bool) (r early : ρ)
    (hs : ∀ i, i < n → (p i = true → EV (fun k => g k ((i : Int) + 1)) r) → (p i = false → r = early) → EV (fun k => g k (i : Int)) r)
    (hf : (List.range n).all p = true → EV (fun k => g k (n : Int)) r) (he : (List.range n).all p = false → r = early) : EV (fun k => g k 0) r := by
  suffices h : ∀ (m i : Nat), i + m = n → (∀ j, j < i → p j = true) → EV (fun k => g k (i : Int)) r by exact h n 0 (by omega) (fun j hj => by omega)
  intro m
  induction m with
  | zero =>
    intro i hi ha
    have : i = n := by omega
    subst this
    exact hf (by rw [List.all_eq_true]; intro x hx; exact ha x (List.mem_range.1 hx))
  | succ m ih =>
    intro i hi ha
    refine hs i (by omega) (fun hp => ?_) (fun hp => he ?_)
    · have := ih (i + 1) (by omega) (fun j hj => by
        by_cases e : j = i
        · rw [e]; exact hp
        · exact ha j (by omega))
      exact_mod_cast this
    · rw [List.all_eq_false]
      exact ⟨i, List.mem_range.2 (by omega), by simp [hp]⟩
/-- looking at each member with an early answer, into what comes behind -/
theorem EV.scanC {α ρ : Type} {g : Nat → Int → Option ρ} (xs : List α) (p : α → Bool) (r early : ρ)
    (hs : ∀ (i : Nat) (h : i < xs.length), (p xs[i] = true → EV (fun k => g k ((i : Int) + 1)) r) → (p xs[i] = false → r = early) → EV (fun k => g k (i : Int)) r)
    (hf : xs.all p = true → EV (fun k => g k (xs.length : Int)) r) (he : xs.all p = false → r = early) : EV (fun k => g k 0) r := by
  have e : xs.all p = (List.range xs.length).all (fun i => (xs[i]?.map p).getD true) := by
    rw [Bool.eq_iff_iff, List.all_eq_true, List.all_eq_true]
    constructor
    · intro h i hi
      have := List.mem_range.1 hi
      simpa [this] using h _ (List.getElem_mem this)
    · intro h x hx
      obtain ⟨i, hi, rfl⟩ := List.mem_iff_getElem.1 hx
      have := h i (List.mem_range.2 hi)
      simpa [hi] using this
  rw [e] at hf he
  refine EV.countC xs.length _ r early (fun i hi H1 H2 => ?_) hf he
  exact hs i hi (fun h => H1 (by simpa [hi] using h)) (fun h => H2 (by simpa [hi] using h))
theorem wrap_01 : wrap64 ((0 : Int) + 1) = 1 := by rw [w64 (by omega) (by omega)]; rfl
theorem wrap_11 : wrap64 ((1 : Int) + 1) = 2 := by rw [w64 (by omega) (by omega)]; rfl
theorem wrap_1 : wrap64 1 = 1 := w64 (by omega) (by omega)
/-- a fold over the members, into what comes behind -/
theorem EV.foldC {α σ ρ : Type} {g : Nat → σ → Int → Option ρ} (xs : List α) (f : σ → α → σ) (I : Nat → σ → Prop) (r : ρ)
    (hs : ∀ (i : Nat) (h : i < xs.length) (s : σ), I i s → (I (i + 1) (f s xs[i]) → EV (fun k => g k (f s xs[i]) ((i : Int) + 1)) r) → EV (fun k => g k s (i : Int)) r)
    (s : σ) (hI : I 0 s) (hf : I xs.length (xs.foldl f s) → EV (fun k => g k (xs.foldl f s) (xs.length : Int)) r) : EV (fun k => g k s 0) r := by
  suffices h : ∀ (n i : Nat), i + n = xs.length → ∀ s, I i s → (I xs.length ((xs.drop i).foldl f s) → EV (fun k => g k ((xs.drop i).foldl f s) (xs.length : Int)) r) → EV (fun k => g k s (i : Int)) r by
    have := h xs.length 0 (by omega) s hI (by simpa using hf)
    simpa using this
  intro n
  induction n with
  | zero =>
    intro i hi s hI hf
    have e : i = xs.length := by omega
    subst e
    simpa using hf (by simpa using hI)
  | succ n ih =>
    intro i hi s hI hf
    have hlt : i < xs.length := by omega
    have e : xs.drop i = xs[i] :: xs.drop (i + 1) := List.drop_eq_getElem_cons hlt
    rw [e, List.foldl_cons] at hf
    refine hs i hlt s hI (fun hI' => ?_)
    exact_mod_cast ih (i + 1) (by omega) _ hI' hf

def letterB (x : Int) : Bool := decide (-8 ≤ x ∧ x ≤ 8 ∧ x ≠ 0)
def wordB (xs : List Int) : Bool := xs.all letterB && decide (xs.length ≤ 24)
theorem letterB_of {x : Int} (h : letterB x = true) : -8 ≤ x ∧ x ≤ 8 ∧ x ≠ 0 := by simpa [letterB] using h
theorem wordB_of {xs : List Int} (h : wordB xs = true) : (∀ x ∈ xs, letterB x = true) ∧ xs.length ≤ 24 := by simpa [wordB] using h
def leB (m : Int) (x : Int) : Bool := decide ((x.natAbs : Int) ≤ m)
def hasB (m : Int) (xs : List Int) : Bool := xs.all (leB m) && wordB xs
def fitsB (g : Int) (xs : List Int) : Bool := decide (1 ≤ g ∧ g ≤ 2) && hasB (2 * g) xs
theorem all_getElem {α : Type} {p : α → Bool} {xs : List α} (h : ∀ x ∈ xs, p x = true) (i : Nat) (hi : i < xs.length) : p xs[i] = true := h _ (List.getElem_mem hi)
/-- one letter counted -/
def addL (v : List Int) (x : Int) : List Int := v.set (x.natAbs - 1) (if 0 < x then v.getD (x.natAbs - 1) 0 + 1 else v.getD (x.natAbs - 1) 0 - 1)
def sumsM (xs : List Int) : List Int := xs.foldl addL (List.replicate 8 0)
def sumsI (i : Nat) (v : List Int) : Prop := v.length = 8 ∧ ∀ j, (v.getD j 0).natAbs ≤ i
theorem sumsI_zero : sumsI 0 (List.replicate 8 0) := by
  refine ⟨rfl, fun j => ?_⟩
  rw [List.getD_eq_getElem?_getD, List.getElem?_replicate]
  split <;> simp
theorem sumsI_next {i : Nat} {v : List Int} (h : sumsI i v) (x : Int) : sumsI (i + 1) (addL v x) := by
  refine ⟨by simp [addL, h.1], fun j => ?_⟩
  have h1 := h.2 j
  have h2 := h.2 (x.natAbs - 1)
  unfold addL
  rw [List.getD_eq_getElem?_getD, List.getElem?_set]
  split
  · split
    · simp only [Option.getD_some]; split <;> omega
    · simp
  · rw [← List.getD_eq_getElem?_getD]; omega
theorem sumsM_len (xs : List Int) : (sumsM xs).length = 8 := by
  suffices h : ∀ (v : List Int), (xs.foldl addL v).length = v.length by rw [sumsM, h]; rfl
  induction xs with
  | nil => intro v; rfl
  | cons x xs ih => intro v; rw [List.foldl_cons, ih]; simp [addL]
theorem fitsB_of {g : Int} {xs : List Int} (h : fitsB g xs = true) : 1 ≤ g ∧ g ≤ 2 ∧ wordB xs = true := by
  simp only [fitsB, hasB, Bool.and_eq_true, decide_eq_true_iff] at h; exact ⟨h.1.1, h.1.2, h.2.2⟩

theorem spec_l2Letter_is (a : Int) : spec_l2Letter.f a = some (letterB a) := by
  unfold spec_l2Letter.f
  rw [spec_l1In_is, spec_l1In_is]
  simp only [Option.bind_some]
  by_cases h : 1 ≤ a ∧ a ≤ 8
  · rw [if_pos (by simp [h])]; simp [letterB]; omega
  · rw [if_neg (by simpa using h)]; simp [letterB]; congr 1; rw [Bool.eq_iff_iff]; simp; omega

theorem spec_IsWord_is (xs : List Int) (hn : xs.length < 4611686018427387904) : EV (fun k => spec_IsWord.f k xs) (wordB xs) := by
  refine EV.scan (g := fun k i => spec_IsWord.l0 k xs i) xs letterB (decide (xs.length ≤ 24)) (fun i h r H1 H2 => ?_) ?_
  · refine EV.step (fun k => by rw [spec_IsWord.l0]) ?_
    rw [rd_nat _ _ h, w64 (x := (i : Int) + 1) (by omega) (by omega)]
    refine EV.pos (by omega) (EV.pos (by omega) (EV.by (spec_l2Letter_is _) ?_))
    exact EV.cases H1 (fun c => (EV.now _).eq (H2 (by simpa using c)).symm)
  · refine EV.step (fun k => by rw [spec_IsWord.l0]) ?_
    refine EV.neg (by omega) ((EV.now _).eq ?_)
    rw [Bool.eq_iff_iff]; simp; omega

theorem spec_l1Max_is (a b : Int) : spec_l1Max.f a b = some (if a > b then a else b) := by
  unfold spec_l1Max.f; split <;> rfl

theorem spec_l3Abs_is (a : Int) (h : -9223372036854775808 < a) (h' : a ≤ 9223372036854775807) : spec_l3Abs.f a = some (a.natAbs : Int) := by
  unfold spec_l3Abs.f
  rw [spec_l1Max_is, w64 (by omega) (by omega)]
  simp only [Option.bind_some]
  congr 1
  split <;> omega

theorem spec_l8Fits_is (g : Int) (xs : List Int) (hn : xs.length < 4611686018427387904) : EV (fun k => spec_l8Fits.f k g xs) (fitsB g xs) := by
  have no : EV (fun k => spec_l8Fits.j0 k g xs true) false := by
    refine EV.step (fun k => by rw [spec_l8Fits.j0]) ?_
    exact EV.pos rfl (EV.now _)
  unfold fitsB hasB
  refine EV.by (spec_l1In_is _ _ _) ?_
  by_cases h1 : 1 ≤ g ∧ g ≤ 2
  · refine EV.pos (by simpa using h1) (EV.bind (spec_IsWord_is xs hn) ?_)
    rw [show decide (1 ≤ g ∧ g ≤ 2) = true by simpa using h1, Bool.true_and]
    by_cases h2 : wordB xs = true
    · rw [h2]
      refine EV.step (fun k => by rw [spec_l8Fits.j0]) ?_
      refine EV.neg (by simp) ?_
      refine EV.scan (g := fun k i => spec_l8Fits.l0 k g xs i) xs (leB (2 * g)) true (fun i h r H1 H2 => ?_) ?_
      · have hx := letterB_of (all_getElem (wordB_of h2).1 i h)
        refine EV.step (fun k => by rw [spec_l8Fits.l0]) ?_
        rw [rd_nat _ _ h, w64 (x := (i : Int) + 1) (by omega) (by omega), w64 (x := 2 * g) (by omega) (by omega)]
        refine EV.pos (by omega) (EV.pos (by omega) (EV.by (spec_l3Abs_is _ (by omega) (by omega)) ?_))
        exact EV.cases (fun c => (EV.now _).eq (H2 (by simp [leB]; omega)).symm) (fun c => H1 (by simp [leB]; omega))
      · refine EV.step (fun k => by rw [spec_l8Fits.l0]) ?_
        exact EV.neg (by omega) (EV.now _)
    · rw [show wordB xs = false by simpa using h2, Bool.and_false]; exact no
  · rw [show decide (1 ≤ g ∧ g ≤ 2) = false by simpa using h1, Bool.false_and]
    exact EV.neg (by simpa using h1) no

theorem spec_l1Bit_is (b : Bool) : spec_l1Bit.f b = some (if b = true then 1 else 0) := by
  cases b <;> rfl

theorem rdL_app (pre : List (List Int)) (x : List Int) (suf : List (List Int)) : rd_L1 (pre ++ x :: suf) (pre.length : Int) = x := by
  simp [rd_L1]
theorem rdL_nat (xs : List (List Int)) (i : Nat) (h : i < xs.length) : rd_L1 xs (i : Int) = xs[i] := by
  simp [rd_L1, h]

def redStep (s : List Int) (x : Int) : List Int := if 0 < s.length ∧ s.getD (s.length - 1) 0 = -x then s.take (s.length - 1) else s ++ [x]
def redM (w : List Int) : List Int := w.foldl redStep []
def RedP (s : List Int) : Prop := ∀ i, i + 1 < s.length → s.getD i 0 ≠ -(s.getD (i + 1) 0)
theorem getD_take (s : List Int) (n i : Nat) (h : i < n) : (s.take n).getD i 0 = s.getD i 0 := by
  simp [List.getD_eq_getElem?_getD, List.getElem?_take, h]
theorem getD_app1 (s : List Int) (x : Int) (i : Nat) (h : i < s.length) : (s ++ [x]).getD i 0 = s.getD i 0 := by
  simp [List.getD_eq_getElem?_getD, List.getElem?_append_left h]
theorem getD_app2 (s : List Int) (x : Int) : (s ++ [x]).getD s.length 0 = x := by simp
theorem redStep_red {s : List Int} (h : RedP s) (x : Int) : RedP (redStep s x) := by
  unfold redStep
  split
  · intro i hi
    rw [List.length_take] at hi
    rw [getD_take _ _ _ (by omega), getD_take _ _ _ (by omega)]
    exact h i (by omega)
  · rename_i hc
    intro i hi
    rw [List.length_append, List.length_singleton] at hi
    rw [getD_app1 _ _ _ (by omega)]
    by_cases e : i + 1 = s.length
    · rw [e, getD_app2]
      intro c
      exact hc ⟨by omega, by rw [show s.length - 1 = i by omega]; exact c⟩
    · rw [getD_app1 _ _ _ (by omega)]
      exact h i (by omega)
theorem redM_red (w : List Int) : RedP (redM w) := by
  suffices h : ∀ s, RedP s → RedP (w.foldl redStep s) by exact h [] (fun i hi => by simp at hi)
  induction w with
  | nil => intro s h; exact h
  | cons x w ih => intro s h; exact ih _ (redStep_red h x)
theorem redM_id {s : List Int} (h : RedP s) : redM s = s := by
  suffices hh : ∀ n, n ≤ s.length → redM (s.take n) = s.take n by
    have := hh s.length (Nat.le_refl _)
    rwa [List.take_length] at this
  intro n
  induction n with
  | zero => intro _; simp [redM]
  | succ n ih =>
    intro hn
    have hlt : n < s.length := by omega
    have ih := ih (by omega)
    rw [List.take_succ_eq_append_getElem hlt]
    unfold redM at ih ⊢
    rw [List.foldl_append, ih, List.foldl_cons, List.foldl_nil, redStep, if_neg]
    rintro ⟨h1, h2⟩
    rw [List.length_take] at h1 h2
    have e : min n s.length - 1 = n - 1 := by omega
    rw [e, getD_take _ _ _ (by omega)] at h2
    have := h (n - 1) (by omega)
    rw [show n - 1 + 1 = n by omega, List.getD_eq_getElem?_getD (i := n), List.getElem?_eq_getElem hlt, Option.getD_some] at this
    exact this h2
theorem redStep_mem {p : Int → Prop} {s : List Int} {x : Int} (h : ∀ y ∈ s, p y) (hx : p x) : ∀ y ∈ redStep s x, p y := by
  unfold redStep
  intro y hy
  split at hy
  · exact h y (List.mem_of_mem_take hy)
  · rcases List.mem_append.1 hy with h' | h'
    · exact h y h'
    · rw [List.mem_singleton.1 h']; exact hx
theorem redStep_len (s : List Int) (x : Int) : (redStep s x).length ≤ s.length + 1 := by
  unfold redStep
  split
  · rw [List.length_take]; omega
  · simp
theorem redM_mem {p : Int → Prop} {w : List Int} (h : ∀ y ∈ w, p y) : ∀ y ∈ redM w, p y := by
  suffices hh : ∀ s, (∀ y ∈ s, p y) → ∀ y ∈ w.foldl redStep s, p y by exact hh [] (by simp)
  induction w with
  | nil => intro s hs; exact hs
  | cons x w ih => intro s hs; exact ih (fun y hy => h y (by simp [hy])) _ (redStep_mem hs (h x (by simp)))
theorem redM_len (w : List Int) : (redM w).length ≤ w.length := by
  suffices hh : ∀ s, (w.foldl redStep s).length ≤ s.length + w.length by have := hh []; simpa [redM] using this
  induction w with
  | nil => intro s; simp
  | cons x w ih => intro s; have := ih (redStep s x); have := redStep_len s x; simp only [List.foldl_cons, List.length_cons]; omega
def invW (w : List Int) : List Int := w.reverse.map fun x => -x
theorem invW_len (w : List Int) : (invW w).length = w.length := by simp [invW]
theorem invW_mem {p : Int → Prop} {w : List Int} (hp : ∀ x, p x → p (-x)) (h : ∀ y ∈ w, p y) : ∀ y ∈ invW w, p y := by
  intro y hy
  simp only [invW, List.mem_map, List.mem_reverse] at hy
  obtain ⟨x, hx, rfl⟩ := hy
  exact hp x (h x hx)
theorem invW_get (w : List Int) (i : Nat) (h : i < w.length) : (invW w)[i]'(by rw [invW_len]; exact h) = -(w[w.length - 1 - i]'(by omega)) := by
  simp [invW]
def turnM (w : List Int) (k : Nat) : List Int := w.drop k ++ w.take k
theorem turnM_len (w : List Int) (k : Nat) (h : k ≤ w.length) : (turnM w k).length = w.length := by simp [turnM]; omega
theorem turnM_get (w : List Int) (k i : Nat) (hk : k < w.length) (hi : i < w.length) : (turnM w k)[i]'(by rw [turnM_len _ _ (by omega)]; exact hi) = w[(k + i) % w.length]'(Nat.mod_lt _ (by omega)) := by
  simp only [turnM]
  rw [List.getElem_append]
  split
  · rename_i h
    rw [List.length_drop] at h
    rw [List.getElem_drop]
    congr 1
    rw [Nat.mod_eq_of_lt (by omega)]
  · rename_i h
    rw [List.length_drop] at h
    rw [List.getElem_take]
    congr 1
    rw [List.length_drop]
    have : k + i = (k + i - w.length) + w.length := by omega
    rw [this, Nat.add_mod_right, Nat.mod_eq_of_lt (by omega)]; omega
/-- the length of the common start -/
def lcpM : List Int → List Int → Nat
  | a :: u, b :: v => if a = b then lcpM u v + 1 else 0
  | _, _ => 0
theorem lcpM_le1 : ∀ (u v : List Int), lcpM u v ≤ u.length
  | [], _ => by simp [lcpM]
  | _ :: _, [] => by simp [lcpM]
  | a :: u, b :: v => by
    have := lcpM_le1 u v
    simp only [lcpM, List.length_cons]; split <;> omega
theorem lcpM_le2 : ∀ (u v : List Int), lcpM u v ≤ v.length
  | [], _ => by simp [lcpM]
  | _ :: _, [] => by simp [lcpM]
  | a :: u, b :: v => by
    have := lcpM_le2 u v
    simp only [lcpM, List.length_cons]; split <;> omega
/-- the relator and its inverse, each from each of its letters on -/
def pairsM (R : List Int) : List (List Int × Nat) := (List.range R.length).map (fun j => (R, j)) ++ (List.range R.length).map (fun j => (invW R, j))
def updM (u : List Int) (s : Nat × List Int) (c : List Int × Nat) : Nat × List Int :=
  if s.1 < lcpM u (turnM c.1 c.2) then (lcpM u (turnM c.1 c.2), (turnM c.1 c.2).drop (lcpM u (turnM c.1 c.2))) else s
def bestM (u : List Int) (b : Nat) (cs : List (List Int × Nat)) : Nat × List Int := cs.foldl (updM u) (b, [])
/-- a start from a higher bar finds the same, if anything -/
theorem best_rel (u : List Int) (m : Nat) : ∀ (cs : List (List Int × Nat)) (s t : Nat × List Int), t.1 = max s.1 m → (m < s.1 → t.2 = s.2) →
    (cs.foldl (updM u) t).1 = max (cs.foldl (updM u) s).1 m ∧ (m < (cs.foldl (updM u) s).1 → (cs.foldl (updM u) t).2 = (cs.foldl (updM u) s).2)
  | [], s, t, h1, h2 => ⟨h1, h2⟩
  | c :: cs, s, t, h1, h2 => by
    rw [List.foldl_cons, List.foldl_cons]
    apply best_rel u m cs
    · unfold updM
      split <;> split <;> first | omega | (simp only; omega)
    · unfold updM
      split
      · split
        · intro _; rfl
        · simp only; intro; omega
      · split
        · simp only; intro h; omega
        · exact h2
theorem bestM_of (u : List Int) (m : Nat) (cs : List (List Int × Nat)) : (m < (bestM u 0 cs).1 ↔ m < (bestM u m cs).1) ∧ (m < (bestM u 0 cs).1 → bestM u m cs = bestM u 0 cs) := by
  have := best_rel u m cs (0, []) (m, []) (by simp) (by simp)
  unfold bestM
  refine ⟨by omega, fun h => ?_⟩
  exact Prod.ext (by omega) (this.2 h)
theorem bestM_I (u : List Int) (n : Nat) : ∀ (cs : List (List Int × Nat)) (s : Nat × List Int), (∀ c ∈ cs, c.1.length = n ∧ c.2 ≤ n) → s.1 ≤ u.length → (s.2.length + s.1 = n ∨ s.2 = []) → (cs.foldl (updM u) s).1 ≤ u.length ∧ ((cs.foldl (updM u) s).2.length + (cs.foldl (updM u) s).1 = n ∨ (cs.foldl (updM u) s).2 = [])
  | [], s, _, h1, h2 => ⟨h1, h2⟩
  | c :: cs, s, hc, h1, h2 => by
    rw [List.foldl_cons]
    have hc0 := hc c (by simp)
    have a := lcpM_le1 u (turnM c.1 c.2)
    have b := lcpM_le2 u (turnM c.1 c.2)
    have hl := turnM_len c.1 c.2 (by omega)
    apply bestM_I u n cs _ (fun c' h' => hc c' (by simp [h']))
    · unfold updM; split
      · exact a
      · exact h1
    · unfold updM; split
      · left; simp only [List.length_drop]; omega
      · exact h2
theorem best_mem {p : Int → Prop} (u : List Int) : ∀ (cs : List (List Int × Nat)) (s : Nat × List Int), (∀ c ∈ cs, ∀ x ∈ c.1, p x) → (∀ x ∈ s.2, p x) → ∀ x ∈ (cs.foldl (updM u) s).2, p x
  | [], s, _, h => h
  | c :: cs, s, hc, h => by
    rw [List.foldl_cons]
    apply best_mem u cs _ (fun c' h' => hc c' (by simp [h']))
    unfold updM; split
    · intro x hx
      have hx := List.mem_of_mem_drop hx
      simp only [turnM, List.mem_append] at hx
      rcases hx with h' | h'
      · exact hc c (by simp) x (List.mem_of_mem_drop h')
      · exact hc c (by simp) x (List.mem_of_mem_take h')
    · exact h
def relG (g : Int) : List Int := if g = 1 then [1, 2, -1, -2] else [1, 2, -1, -2, 3, 4, -3, -4]
def bestAt (g : Int) (w : List Int) (i : Nat) : Nat × List Int := bestM (w.drop i) 0 (pairsM (relG g))
def cutM (w : List Int) (i : Nat) (b : Nat × List Int) : List Int := redM (w.take i ++ invW b.2 ++ w.drop (i + b.1))
def stepFrom (g : Int) (w : List Int) : Nat → Nat → List Int × Bool
  | 0, _ => ([], false)
  | n + 1, i => if 2 * g < (bestAt g w i).1 then (cutM w i (bestAt g w i), true) else stepFrom g w n (i + 1)
def dstepM (g : Int) (w : List Int) : List Int × Bool := stepFrom g w w.length 0
def dehnF (g : Int) : Nat → List Int → List Int
  | 0, w => w
  | n + 1, w => if (dstepM g w).2 = true then dehnF g n (dstepM g w).1 else w
def dehnM (g : Int) (w : List Int) : List Int := dehnF g (redM w).length (redM w)
def okL (g : Int) (x : Int) : Prop := letterB x = true ∧ (x.natAbs : Int) ≤ 2 * g
theorem okL_neg {g x : Int} (h : okL g x) : okL g (-x) := by
  have := letterB_of h.1
  refine ⟨by simp [letterB]; omega, by have := h.2; omega⟩
theorem relG_ok {g : Int} (hg : g = 1 ∨ g = 2) : (relG g).length = (4 * g).toNat ∧ ∀ x ∈ relG g, okL g x := by
  rcases hg with rfl | rfl
  · refine ⟨rfl, ?_⟩
    intro x hx
    simp [relG] at hx
    rcases hx with rfl | rfl | rfl | rfl <;> exact ⟨rfl, by decide⟩
  · refine ⟨rfl, ?_⟩
    intro x hx
    simp [relG] at hx
    rcases hx with rfl | rfl | rfl | rfl | rfl | rfl | rfl | rfl <;> exact ⟨rfl, by decide⟩
theorem pairs_ok {g : Int} (hg : g = 1 ∨ g = 2) : (∀ c ∈ pairsM (relG g), c.1.length = (4 * g).toNat ∧ c.2 < (4 * g).toNat) ∧ ∀ c ∈ pairsM (relG g), ∀ x ∈ c.1, okL g x := by
  have r := relG_ok hg
  constructor
  · intro c hc
    simp only [pairsM, List.mem_append, List.mem_map, List.mem_range] at hc
    rcases hc with ⟨j, hj, rfl⟩ | ⟨j, hj, rfl⟩
    · exact ⟨r.1, by omega⟩
    · exact ⟨by simp only [invW_len]; exact r.1, by omega⟩
  · intro c hc
    simp only [pairsM, List.mem_append, List.mem_map, List.mem_range] at hc
    rcases hc with ⟨j, hj, rfl⟩ | ⟨j, hj, rfl⟩
    · exact r.2
    · exact invW_mem (fun x hx => okL_neg hx) r.2
def okW (g : Int) (w : List Int) : Prop := (g = 1 ∨ g = 2) ∧ (∀ x ∈ w, okL g x) ∧ w.length ≤ 24
theorem fits_ok {g : Int} {w : List Int} (h : fitsB g w = true) : okW g w := by
  simp only [fitsB, hasB, Bool.and_eq_true, decide_eq_true_iff, List.all_eq_true, leB] at h
  have a := wordB_of h.2.2
  exact ⟨by omega, fun x hx => ⟨a.1 x hx, h.2.1 x hx⟩, a.2⟩
theorem ok_fits {g : Int} {w : List Int} (h : okW g w) : fitsB g w = true := by
  simp only [fitsB, hasB, wordB, Bool.and_eq_true, decide_eq_true_iff, List.all_eq_true, leB]
  exact ⟨by have := h.1; omega, fun x hx => (h.2.1 x hx).2, fun x hx => (h.2.1 x hx).1, h.2.2⟩
theorem red_ok {g : Int} {w : List Int} (h : okW g w) : okW g (redM w) := ⟨h.1, redM_mem h.2.1, by have := redM_len w; have := h.2.2; omega⟩
theorem bestAt_I {g : Int} (hg : g = 1 ∨ g = 2) (w : List Int) (i : Nat) : (bestAt g w i).1 ≤ w.length - i ∧ ((bestAt g w i).2.length + (bestAt g w i).1 = (4 * g).toNat ∨ (bestAt g w i).2 = []) ∧ ∀ x ∈ (bestAt g w i).2, okL g x := by
  have p := pairs_ok hg
  have := bestM_I (w.drop i) (4 * g).toNat (pairsM (relG g)) (0, []) (fun c hc => ⟨(p.1 c hc).1, by have := (p.1 c hc).2; omega⟩) (by simp) (Or.inr rfl)
  rw [List.length_drop] at this
  exact ⟨this.1, this.2, best_mem _ _ _ p.2 (by simp)⟩
theorem cut_ok {g : Int} {w : List Int} (h : okW g w) (i : Nat) (hi : i < w.length) (hb : 2 * g < (bestAt g w i).1) : okW g (cutM w i (bestAt g w i)) ∧ RedP (cutM w i (bestAt g w i)) ∧ (cutM w i (bestAt g w i)).length < w.length := by
  have b := bestAt_I h.1 w i
  have hl : (w.take i ++ invW (bestAt g w i).2 ++ w.drop (i + (bestAt g w i).1)).length < w.length := by
    simp only [List.length_append, List.length_take, List.length_drop, invW_len]
    have := h.1
    rcases b.2.1 with e | e
    · omega
    · rw [e]; simp only [List.length_nil]; omega
  have hr := redM_len (w.take i ++ invW (bestAt g w i).2 ++ w.drop (i + (bestAt g w i).1))
  refine ⟨⟨h.1, redM_mem ?_, by unfold cutM; have := h.2.2; omega⟩, redM_red _, by unfold cutM; omega⟩
  intro x hx
  rw [List.append_assoc, List.mem_append, List.mem_append] at hx
  rcases hx with h' | h' | h'
  · exact h.2.1 x (List.mem_of_mem_take h')
  · exact invW_mem (fun x hx => okL_neg hx) b.2.2 x h'
  · exact h.2.1 x (List.mem_of_mem_drop h')
theorem stepFrom_ok {g : Int} {w : List Int} (h : okW g w) : ∀ (n i : Nat), i + n = w.length → (stepFrom g w n i).2 = true → okW g (stepFrom g w n i).1 ∧ RedP (stepFrom g w n i).1 ∧ (stepFrom g w n i).1.length < w.length
  | 0, i, _, hb => by simp [stepFrom] at hb
  | n + 1, i, hi, hb => by
    unfold stepFrom at hb ⊢
    by_cases c : 2 * g < (bestAt g w i).1
    · rw [if_pos c] at hb ⊢
      exact cut_ok h i (by omega) c
    · rw [if_neg c] at hb ⊢
      exact stepFrom_ok h n (i + 1) (by omega) hb
theorem stepFrom_len {g : Int} {w : List Int} (h : okW g w) : ∀ (n i : Nat), i + n = w.length → (stepFrom g w n i).1.length ≤ 24
  | 0, i, _ => by simp [stepFrom]
  | n + 1, i, hi => by
    unfold stepFrom
    by_cases c : 2 * g < (bestAt g w i).1
    · rw [if_pos c]
      exact (cut_ok h i (by omega) c).1.2.2
    · rw [if_neg c]
      exact stepFrom_len h n (i + 1) (by omega)
theorem dehnF_len {g : Int} : ∀ (n : Nat) (w : List Int), okW g w → (dehnF g n w).length ≤ 24
  | 0, w, h => h.2.2
  | n + 1, w, h => by
    unfold dehnF
    split
    · rename_i hb; exact dehnF_len n _ (stepFrom_ok h _ _ (by omega) hb).1
    · exact h.2.2

theorem redM_take (w : List Int) (i : Nat) (h : i < w.length) : redM (w.take (i + 1)) = redStep (redM (w.take i)) w[i] := by
  unfold redM
  rw [List.take_succ_eq_append_getElem h, List.foldl_append]; rfl
theorem spec_l2Reduce_is (w : List Int) (hw : ∀ x ∈ w, letterB x = true) (hn : w.length < 4294967296) : EV (fun k => spec_l2Reduce.f k w) (redM w) := by
  refine EV.count (g := fun k s i => spec_l2Reduce.l0 k w s i) w.length (fun i => redM (w.take i)) _ (fun i h H => ?_) ?_
  · have hx := letterB_of (hw _ (List.getElem_mem h))
    have hl := redM_len (w.take i)
    rw [List.length_take] at hl
    rw [redM_take w i h] at H
    refine EV.step (fun k => by rw [spec_l2Reduce.l0]) ?_
    rw [rd_nat _ _ h, w64 (x := (i : Int) + 1) (by omega) (by omega), w64 (x := -w[i]) (by omega) (by omega)]
    refine EV.pos (by omega) ?_
    generalize redM (w.take i) = s at *
    unfold redStep at H
    by_cases h0 : 0 < s.length
    · have e : rd s ((s.length : Int) - 1) = s.getD (s.length - 1) 0 := by
        unfold rd; rw [show ((s.length : Int) - 1).toNat = s.length - 1 by omega]
      rw [w64 (x := (s.length : Int) - 1) (by omega) (by omega), e]
      refine EV.pos (by omega) (EV.pos (by omega) (EV.pos (by omega) (EV.pos (by omega) ?_)))
      by_cases hc : s.getD (s.length - 1) 0 = -w[i]
      · rw [if_pos ⟨h0, hc⟩] at H
        refine EV.pos hc (EV.pos (by omega) ?_)
        rw [show ((s.length : Int) - 1).toNat = s.length - 1 by omega]
        exact H
      · rw [if_neg (fun c => hc c.2)] at H
        exact EV.neg hc (EV.pos (by omega) H)
    · rw [if_neg (fun c => h0 c.1)] at H
      exact EV.neg (by omega) (EV.pos (by omega) (EV.pos (by omega) H))
  · refine EV.step (fun k => by rw [spec_l2Reduce.l0]) ?_
    rw [List.take_length]
    exact EV.neg (by omega) (EV.now _)

theorem spec_l2Inverse_is (w : List Int) (hw : ∀ x ∈ w, letterB x = true) (hn : w.length < 4294967296) : EV (fun k => spec_l2Inverse.f k w) (invW w) := by
  have h : ∀ (c i : Nat), i + c = w.length → EV (fun k => spec_l2Inverse.l0 k w ((invW w).take i) ((c : Int) - 1)) (invW w) := by
    intro c
    induction c with
    | zero =>
      intro i hi
      refine EV.step (fun k => by rw [spec_l2Inverse.l0]) ?_
      exact EV.neg (by omega) ((EV.now _).eq (by rw [List.take_of_length_le (by rw [invW_len]; omega)]))
    | succ c ih =>
      intro i hi
      have hc : c < w.length := by omega
      have hx := letterB_of (hw _ (List.getElem_mem hc))
      have hi' : i < (invW w).length := by rw [invW_len]; omega
      have e : (invW w)[i] = -w[c] := by
        rw [invW_get w i (by omega)]
        congr 2; omega
      have ih := ih (i + 1) (by omega)
      rw [List.take_succ_eq_append_getElem hi', e] at ih
      refine EV.step (fun k => by rw [spec_l2Inverse.l0]) ?_
      rw [show ((c + 1 : Nat) : Int) - 1 = (c : Int) by omega, rd_nat _ _ hc, w64 (x := -w[c]) (by omega) (by omega), w64 (x := (c : Int) - 1) (by omega) (by omega)]
      exact EV.pos (by omega) (EV.pos (by omega) (EV.pos (by omega) (EV.pos (by simp; omega) ih)))
  have := h w.length 0 (by omega)
  rw [List.take_zero] at this
  refine EV.congr (fun k => ?_) this
  rw [spec_l2Inverse.f, w64 (by omega) (by omega)]

def relM (g : Int) : List Int := if g = 1 then [1, 2, -1, -2] else if g = 2 then [1, 2, -1, -2, 3, 4, -3, -4] else []
theorem spec_Relator_is (g : Int) : spec_Relator.f g = some (relM g) := by
  unfold spec_Relator.f relM
  split
  · rfl
  · split <;> rfl

theorem spec_l2Turn_is (w : List Int) (a : Nat) (hw : 0 < w.length) (hn : w.length < 4294967296) : spec_l2Turn.f w (a : Int) = some (turnM w (a % w.length)) := by
  unfold spec_l2Turn.f
  have e : Int.tmod (a : Int) (w.length : Int) = ((a % w.length : Nat) : Int) := by
    rw [Int.tmod_eq_emod_of_nonneg (by omega)]; omega
  have hlt := Nat.mod_lt a hw
  rw [e, if_neg (by omega), if_neg (by omega)]
  simp only [Option.bind_some]
  rw [if_pos (by omega), if_pos (by omega), if_pos (by simp; omega), if_pos (by simp; omega)]
  simp only [Int.toNat_natCast, List.nil_append]; rfl

theorem lcpM_drop (u v : List Int) (i : Nat) (hu : i < u.length) (hv : i < v.length) : lcpM (u.drop i) (v.drop i) = if u[i] = v[i] then lcpM (u.drop (i + 1)) (v.drop (i + 1)) + 1 else 0 := by
  rw [List.drop_eq_getElem_cons hu, List.drop_eq_getElem_cons hv, lcpM]
theorem lcpM_end (u v : List Int) (i : Nat) (h : u.length ≤ i ∨ v.length ≤ i) : lcpM (u.drop i) (v.drop i) = 0 := by
  rcases h with h | h
  · rw [List.drop_of_length_le h]; simp [lcpM]
  · rw [List.drop_of_length_le h]; cases u.drop i <;> simp [lcpM]
theorem spec_l8Match_is (u v : List Int) (hn : v.length < 4294967296) : EV (fun k => spec_l8Match.f k u v (v.length : Int)) (lcpM u v : Int) := by
  have h : ∀ (n i : Nat), i + n = v.length → EV (fun k => spec_l8Match.l0 k u v (v.length : Int) (i : Int)) (((i + lcpM (u.drop i) (v.drop i) : Nat)) : Int) := by
    intro n
    induction n with
    | zero =>
      intro i hi
      refine EV.step (fun k => by rw [spec_l8Match.l0]) ?_
      exact EV.neg (by omega) ((EV.now _).eq (by rw [lcpM_end _ _ _ (Or.inr (by omega))]; rfl))
    | succ n ih =>
      intro i hi
      have hv : i < v.length := by omega
      refine EV.step (fun k => by rw [spec_l8Match.l0]) ?_
      refine EV.pos (by omega) ?_
      by_cases hu : i < u.length
      · rw [lcpM_drop u v i hu hv, rd_nat _ _ hu, rd_nat _ _ hv, w64 (x := (i : Int) + 1) (by omega) (by omega)]
        refine EV.pos (by omega) (EV.pos (by omega) (EV.pos (by omega) ?_))
        by_cases c : u[i] = v[i]
        · rw [if_pos c]
          exact EV.pos c ((ih (i + 1) (by omega)).eq (by omega))
        · rw [if_neg c]
          exact EV.neg c (EV.now _)
      · rw [lcpM_end _ _ _ (Or.inl (by omega))]
        exact EV.neg (by omega) (EV.now _)
  have := h v.length 0 (by omega)
  exact EV.congr (fun k => rfl) (this.eq (by simp))

theorem spec_l8Step_j2 (g : Int) (w R : List Int) (i : Nat) (s : Nat × List Int) (x : Nat) (rg : g = 1 ∨ g = 2) (hR : R.length = (4 * g).toNat) (hRo : ∀ y ∈ R, letterB y = true) (hw : w.length ≤ 24) (hi : i < w.length) (hx : x < 16) (r : List Int × Bool)
    (H : EV (fun k => spec_l8Step.l1 k g w (i : Int) ((updM (w.drop i) s (R, x % R.length)).1 : Int) (invW (updM (w.drop i) s (R, x % R.length)).2) ((x : Int) + 1)) r) :
    EV (fun k => spec_l8Step.j2 k g w (i : Int) (s.1 : Int) (invW s.2) (x : Int) R) r := by
  have hR0 : 0 < R.length := by omega
  have hm := Nat.mod_lt x hR0
  have hl := turnM_len R (x % R.length) (by omega)
  have e4 : wrap64 (4 * g) = ((turnM R (x % R.length)).length : Int) := by rw [w64 (by omega) (by omega)]; omega
  have hb := lcpM_le2 (w.drop i) (turnM R (x % R.length))
  have hmem : ∀ y ∈ turnM R (x % R.length), letterB y = true := by
    intro y hy
    simp only [turnM, List.mem_append] at hy
    rcases hy with h' | h'
    · exact hRo y (List.mem_of_mem_drop h')
    · exact hRo y (List.mem_of_mem_take h')
  refine EV.step (fun k => by rw [spec_l8Step.j2]) ?_
  refine EV.by (spec_l2Turn_is R x hR0 (by omega)) (EV.pos (by omega) (EV.pos (by omega) ?_))
  rw [e4, show ((i : Int)).toNat = i from rfl]
  refine EV.bind (spec_l8Match_is (w.drop i) (turnM R (x % R.length)) (by omega)) ?_
  unfold updM at H
  rw [w64 (x := (x : Int) + 1) (by omega) (by omega)]
  by_cases c : s.1 < lcpM (w.drop i) (turnM R (x % R.length))
  · rw [if_pos c] at H
    refine EV.pos (by omega) (EV.pos (by omega) (EV.pos (by omega) ?_))
    rw [show ((lcpM (w.drop i) (turnM R (x % R.length)) : Int)).toNat = lcpM (w.drop i) (turnM R (x % R.length)) from rfl]
    exact EV.bind (spec_l2Inverse_is _ (fun y hy => hmem y (List.mem_of_mem_drop hy)) (by rw [List.length_drop]; omega)) H
  · rw [if_neg c] at H
    exact EV.neg (by omega) H
theorem relM_relG {g : Int} (rg : g = 1 ∨ g = 2) : relM g = relG g := by
  rcases rg with rfl | rfl <;> rfl
theorem spec_l8Step_l0 (g : Int) (w : List Int) (h : okW g w) : ∀ (n i : Nat), i + n = w.length → EV (fun k => spec_l8Step.l0 k g w (i : Int)) (stepFrom g w n i) := by
  have rg := h.1
  have RG := relG_ok rg
  have hw := h.2.2
  have PO := pairs_ok rg
  have hlen : (pairsM (relG g)).length = (8 * g).toNat := by simp [pairsM]; omega
  intro n
  induction n with
  | zero =>
    intro i hi
    refine EV.step (fun k => by rw [spec_l8Step.l0]) ?_
    exact EV.neg (by omega) (EV.now _)
  | succ n ih =>
    intro i hi
    refine EV.step (fun k => by rw [spec_l8Step.l0]) ?_
    refine EV.pos (by omega) ?_
    have := EV.foldC (g := fun k (s : Nat × List Int) x => spec_l8Step.l1 k g w (i : Int) (s.1 : Int) (invW s.2) x) (pairsM (relG g)) (updM (w.drop i)) (fun _ _ => True) (stepFrom g w (n + 1) i) (fun x hx s _ H => ?_) (0, []) trivial (fun _ => ?_)
    · exact this
    · have H := H trivial
      rw [hlen] at hx
      refine EV.step (fun k => by rw [spec_l8Step.l1]) ?_
      rw [w64 (x := 8 * g) (by omega) (by omega), w64 (x := 4 * g) (by omega) (by omega)]
      refine EV.pos (by omega) (EV.by (spec_Relator_is _) ?_)
      rw [relM_relG rg]
      by_cases c : x < (relG g).length
      · have e : (pairsM (relG g))[x] = (relG g, x % (relG g).length) := by
          rw [Nat.mod_eq_of_lt c]
          simp only [pairsM]
          rw [List.getElem_append_left (by simpa using c)]
          simp
        rw [e] at H
        exact EV.neg (by omega) (spec_l8Step_j2 g w (relG g) i s x rg RG.1 (fun y hy => (RG.2 y hy).1) hw (by omega) (by omega) _ H)
      · have e : (pairsM (relG g))[x] = (invW (relG g), x % (invW (relG g)).length) := by
          have : x % (relG g).length = x - (relG g).length := by
            rw [Nat.mod_eq_sub_mod (by omega), Nat.mod_eq_of_lt (by omega)]
          rw [invW_len, this]
          simp only [pairsM]
          rw [List.getElem_append_right (by simpa using c)]
          simp
        rw [e] at H
        refine EV.pos (by omega) (EV.bind (spec_l2Inverse_is _ (fun y hy => (RG.2 y hy).1) (by omega)) ?_)
        exact spec_l8Step_j2 g w (invW (relG g)) i s x rg (by rw [invW_len]; exact RG.1) (fun y hy => (invW_mem (p := okL g) (fun x hx => okL_neg hx) RG.2 y hy).1) hw (by omega) (by omega) _ H
    · have b := bestAt_I rg w i
      have eb : bestAt g w i = (pairsM (relG g)).foldl (updM (w.drop i)) (0, []) := rfl
      rw [← eb]
      refine EV.step (fun k => by rw [spec_l8Step.l1]) ?_
      rw [hlen, w64 (x := 8 * g) (by omega) (by omega), w64 (x := 2 * g) (by omega) (by omega), w64 (x := (i : Int) + ((bestAt g w i).1 : Int)) (by omega) (by omega), w64 (x := (i : Int) + 1) (by omega) (by omega)]
      refine EV.neg (by omega) ?_
      unfold stepFrom
      by_cases c : 2 * g < ((bestAt g w i).1 : Int)
      · rw [if_pos c]
        have hinv : (invW (bestAt g w i).2).length ≤ 8 := by rw [invW_len]; rcases b.2.1 with e | e; omega; rw [e]; simp
        refine EV.pos (by omega) (EV.by rfl (EV.pos (by omega) (EV.pos (by omega) (EV.pos (by simp; omega) (EV.by rfl (EV.pos (by simp; omega) (EV.by rfl (EV.pos (by omega) (EV.pos (by omega) (EV.pos (by simp; omega) ?_))))))))))
        have ee : ([] ++ w.take ((i : Int)).toNat ++ invW (bestAt g w i).2) ++ w.drop (((i : Int) + ((bestAt g w i).1 : Int))).toNat = w.take i ++ invW (bestAt g w i).2 ++ w.drop (i + (bestAt g w i).1) := by
          rw [List.nil_append, show ((i : Int) + ((bestAt g w i).1 : Int)).toNat = i + (bestAt g w i).1 by omega, Int.toNat_natCast]
        rw [ee]
        have hl : ∀ y ∈ w.take i ++ invW (bestAt g w i).2 ++ w.drop (i + (bestAt g w i).1), letterB y = true := by
          intro y hy
          rw [List.append_assoc, List.mem_append, List.mem_append] at hy
          rcases hy with h' | h' | h'
          · exact (h.2.1 y (List.mem_of_mem_take h')).1
          · exact (invW_mem (p := okL g) (fun x hx => okL_neg hx) b.2.2 y h').1
          · exact (h.2.1 y (List.mem_of_mem_drop h')).1
        exact EV.bind (spec_l2Reduce_is _ hl (by simp only [List.length_append, List.length_take, List.length_drop]; omega)) (EV.now _)
      · rw [if_neg c]
        exact EV.neg (by omega) (ih (i + 1) (by omega))
theorem spec_l8Step_is (g : Int) (w : List Int) (h : okW g w) : EV (fun k => spec_l8Step.f k g w) (dstepM g w) := spec_l8Step_l0 g w h w.length 0 (by omega)

theorem spec_l8Dehn_l0 (g : Int) : ∀ (n : Nat) (w : List Int), okW g w → w.length ≤ n → EV (fun k => spec_l8Dehn.l0 k g w) (dehnF g n w) := by
  intro n
  induction n with
  | zero =>
    intro w h hn
    have e : w = [] := List.eq_nil_of_length_eq_zero (by omega)
    refine EV.step (fun k => by rw [spec_l8Dehn.l0]) ?_
    refine EV.bind (spec_l8Step_is g w h) (EV.neg ?_ (EV.now _))
    subst e; simp [dstepM, stepFrom]
  | succ n ih =>
    intro w h hn
    refine EV.step (fun k => by rw [spec_l8Dehn.l0]) ?_
    refine EV.bind (spec_l8Step_is g w h) ?_
    unfold dehnF
    by_cases c : (dstepM g w).2 = true
    · rw [if_pos c]
      have s := stepFrom_ok h _ _ (show 0 + w.length = w.length by omega) c
      have hlt : (dstepM g w).1.length < w.length := s.2.2
      exact EV.pos c (ih _ s.1 (by omega))
    · rw [if_neg c]
      exact EV.neg c (EV.now _)
theorem spec_l8Dehn_is (g : Int) (w : List Int) (h : okW g w) : EV (fun k => spec_l8Dehn.f k g w) (dehnM g w) :=
  EV.bind (spec_l2Reduce_is w (fun x hx => (h.2.1 x hx).1) (by have := h.2.2; omega)) (spec_l8Dehn_l0 g _ _ (red_ok h) (Nat.le_refl _))

def trivM (g : Int) (w : List Int) : Bool := if g = 2 then ((dehnM g w).length : Int) == 0 else (sumsM w).all fun v => decide (v = 0)
def sumsT (w : List Int) (i : Nat) : List Int := (w.take i).foldl addL (List.replicate 8 0)
theorem sumsT_succ (w : List Int) (i : Nat) (h : i < w.length) : sumsT w (i + 1) = addL (sumsT w i) w[i] := by
  unfold sumsT
  rw [List.take_succ_eq_append_getElem h, List.foldl_append]; rfl
theorem sumsT_I (w : List Int) (hw : ∀ x ∈ w, okL 1 x) : ∀ i, i ≤ w.length → sumsI i (sumsT w i) ∧ ∀ j, 2 ≤ j → (sumsT w i).getD j 0 = 0
  | 0, _ => by
    refine ⟨sumsI_zero, fun j hj => ?_⟩
    show (List.replicate 8 (0 : Int)).getD j 0 = 0
    rw [List.getD_eq_getElem?_getD, List.getElem?_replicate]; split <;> rfl
  | i + 1, h => by
    have ih := sumsT_I w hw i (by omega)
    have hi : i < w.length := by omega
    have hx := hw _ (List.getElem_mem hi)
    have hl := letterB_of hx.1
    rw [sumsT_succ w i hi]
    refine ⟨sumsI_next ih.1 _, fun j hj => ?_⟩
    unfold addL
    have := hx.2
    rw [List.getD_eq_getElem?_getD, List.getElem?_set_ne (by omega), ← List.getD_eq_getElem?_getD]
    exact ih.2 j hj
def eqM (g : Int) (x y : List Int) : Bool := fitsB g x && (fitsB g y && (decide (x.length + y.length ≤ 24) && trivM g (x ++ invW y)))
theorem ok_app {g : Int} {x y : List Int} (hx : okW g x) (hy : okW g y) (h : x.length + y.length ≤ 24) : okW g (x ++ y) := by
  refine ⟨hx.1, fun z hz => ?_, by simpa using h⟩
  rcases List.mem_append.1 hz with h' | h'
  · exact hx.2.1 z h'
  · exact hy.2.1 z h'
theorem ok_inv {g : Int} {x : List Int} (hx : okW g x) : okW g (invW x) := ⟨hx.1, invW_mem (fun y hy => okL_neg hy) hx.2.1, by rw [invW_len]; exact hx.2.2⟩

theorem spec_l8Trivial_is (g : Int) (w : List Int) (h : okW g w) : EV (fun k => spec_l8Trivial.f k g w) (trivM g w) := by
  unfold trivM
  by_cases g2 : g = 2
  · rw [if_pos g2]
    exact EV.pos g2 (EV.bind (spec_l8Dehn_is g w h) (EV.now _))
  · rw [if_neg g2]
    have g1 : g = 1 := by have := h.1; omega
    subst g1
    refine EV.neg g2 (EV.pos (by omega) ?_)
    have hn := h.2.2
    have he : sumsT w w.length = sumsM w := by unfold sumsT sumsM; rw [List.take_length]
    refine EV.count (g := fun k s i => spec_l8Trivial.l0 k w s i) w.length (fun i => (sumsT w i).take 2) _ (fun i hi H => ?_) ?_
    · have hx := h.2.1 _ (List.getElem_mem hi)
      have hl := letterB_of hx.1
      have I := sumsT_I w h.2.1 i (by omega)
      have hb := I.1.2 ((w[i]).natAbs - 1)
      have hx2 := hx.2
      rw [sumsT_succ w i hi] at H
      have h8 := I.1.1
      generalize sumsT w i = v at *
      have hlt : (v.take 2).length = 2 := by rw [List.length_take]; omega
      have eg : rd (v.take 2) (((w[i]).natAbs : Int) - 1) = v.getD ((w[i]).natAbs - 1) 0 := by
        unfold rd
        rw [show (((w[i]).natAbs : Int) - 1).toNat = (w[i]).natAbs - 1 by omega, getD_take _ _ _ (by omega)]
      refine EV.step (fun k => by rw [spec_l8Trivial.l0]) ?_
      rw [rd_nat _ _ hi, w64 (x := (i : Int) + 1) (by omega) (by omega)]
      refine EV.pos (by omega) (EV.pos (by omega) (EV.by (spec_l3Abs_is _ (by omega) (by omega)) (EV.by (spec_l3Abs_is _ (by omega) (by omega)) ?_)))
      rw [w64 (x := ((w[i]).natAbs : Int) - 1) (by omega) (by omega), eg]
      refine EV.pos (by omega) (EV.pos (by omega) (EV.by (spec_l1Bit_is _) (EV.by (spec_l1Bit_is _) (EV.pos (by omega) (EV.pos (by omega) ?_)))))
      have ev : wrap64 (wrap64 (v.getD ((w[i]).natAbs - 1) 0 + (if decide (w[i] > 0) = true then 1 else 0)) - (if decide (w[i] < 0) = true then 1 else 0)) = if 0 < w[i] then v.getD ((w[i]).natAbs - 1) 0 + 1 else v.getD ((w[i]).natAbs - 1) 0 - 1 := by
        by_cases hp : 0 < w[i]
        · rw [if_pos (by simpa using hp), if_neg (by simp; omega), if_pos hp, w64 (x := v.getD ((w[i]).natAbs - 1) 0 + 1) (by omega) (by omega), w64 (by omega) (by omega)]; omega
        · rw [if_neg (by simpa using hp), if_pos (by simp; omega), if_neg hp, w64 (x := v.getD ((w[i]).natAbs - 1) 0 + 0) (by omega) (by omega), w64 (by omega) (by omega)]; omega
      rw [ev, show (((w[i]).natAbs : Int) - 1).toNat = (w[i]).natAbs - 1 by omega]
      unfold addL at H
      rw [List.take_set] at H
      exact H
    · have I := sumsT_I w h.2.1 w.length (Nat.le_refl _)
      rw [he] at I ⊢
      have h8 := I.1.1
      generalize sumsM w = v at *
      have hlt : (v.take 2).length = 2 := by rw [List.length_take]; omega
      have r0 : rd (v.take 2) 0 = v.getD 0 0 := getD_take v 2 0 (by omega)
      have r1 : rd (v.take 2) 1 = v.getD 1 0 := getD_take v 2 1 (by omega)
      have eall : (v.all fun x => decide (x = 0)) = (decide (v.getD 0 0 = 0) && decide (v.getD 1 0 = 0)) := by
        rw [Bool.eq_iff_iff, List.all_eq_true, Bool.and_eq_true, decide_eq_true_iff, decide_eq_true_iff]
        have hget : ∀ j (hj : j < v.length), v[j] = v.getD j 0 := fun j hj => by simp [hj]
        constructor
        · intro hh
          have a0 := hh v[0] (List.getElem_mem (by omega))
          have a1 := hh v[1] (List.getElem_mem (by omega))
          rw [hget 0 (by omega), decide_eq_true_iff] at a0
          rw [hget 1 (by omega), decide_eq_true_iff] at a1
          exact ⟨a0, a1⟩
        · intro hh x hx
          obtain ⟨j, hj, rfl⟩ := List.mem_iff_getElem.1 hx
          rw [hget j hj, decide_eq_true_iff]
          by_cases e0 : j = 0
          · rw [e0]; exact hh.1
          · by_cases e1 : j = 1
            · rw [e1]; exact hh.2
            · exact I.2 j (by omega)
      rw [eall]
      refine EV.step (fun k => by rw [spec_l8Trivial.l0]) ?_
      rw [r0, r1]
      refine EV.neg (by omega) (EV.pos (by omega) ?_)
      by_cases c : v.getD 0 0 = 0
      · exact EV.pos c (EV.pos (by omega) ((EV.now _).eq (by rw [decide_eq_true c, Bool.true_and, Bool.eq_iff_iff]; simp)))
      · exact EV.neg c ((EV.now _).eq (by rw [decide_eq_false c, Bool.false_and]))

def comM (g : Int) (x y : List Int) : Bool := fitsB g x && (fitsB g y && (decide (2 * (x.length + y.length) ≤ 24) && trivM g ((x ++ y) ++ invW (y ++ x))))
theorem comM_eq (g : Int) (x y : List Int) : eqM g (x ++ y) (y ++ x) = comM g x y := by
  rw [Bool.eq_iff_iff]
  simp only [eqM, comM, Bool.and_eq_true, decide_eq_true_iff, List.length_append]
  constructor
  · rintro ⟨h1, h2, h3, h4⟩
    have a := fits_ok h1
    refine ⟨ok_fits ⟨a.1, fun z hz => a.2.1 z (by simp [hz]), by omega⟩, ok_fits ⟨a.1, fun z hz => a.2.1 z (by simp [hz]), by omega⟩, by omega, h4⟩
  · rintro ⟨h1, h2, h3, h4⟩
    have a := fits_ok h1
    have b := fits_ok h2
    exact ⟨ok_fits (ok_app a b (by omega)), ok_fits (ok_app b a (by omega)), by omega, h4⟩

theorem spec_CommuteIn_is (g : Int) (x y : List Int) (hx : x.length < 4294967296) (hy : y.length < 4294967296) : EV (fun k => spec_CommuteIn.f k g x y) (comM g x y) := by
  have no : EV (fun k => spec_CommuteIn.j0 k g x y true) false := by
    refine EV.step (fun k => by rw [spec_CommuteIn.j0]) ?_
    exact EV.pos rfl (EV.now _)
  unfold comM
  refine EV.bind (spec_l8Fits_is g x (by omega)) ?_
  by_cases h1 : fitsB g x = true
  · rw [h1, Bool.true_and]
    refine EV.pos rfl (EV.bind (spec_l8Fits_is g y (by omega)) ?_)
    by_cases h2 : fitsB g y = true
    · rw [h2, Bool.true_and, w64 (x := (x.length : Int) + (y.length : Int)) (by omega) (by omega), w64 (x := 2 * ((x.length : Int) + (y.length : Int))) (by omega) (by omega)]
      refine EV.pos rfl ?_
      by_cases h3 : 2 * (x.length + y.length) ≤ 24
      · rw [decide_eq_true h3, Bool.true_and, show decide (2 * ((x.length : Int) + (y.length : Int)) > 24) = false by simp; omega]
        have a := fits_ok h1
        have b := fits_ok h2
        have yx := ok_app b a (by omega)
        have ok := ok_app (ok_app a b (by omega)) (ok_inv yx) (by rw [invW_len]; simp only [List.length_append]; omega)
        refine EV.step (fun k => by rw [spec_CommuteIn.j0]) ?_
        refine EV.neg (by simp) (EV.by rfl (EV.pos (by simp; omega) (EV.by rfl (EV.pos (by simp; omega) (EV.by rfl (EV.by rfl (EV.pos (by simp; omega) (EV.by rfl (EV.pos (by simp; omega) ?_)))))))))
        simp only [List.nil_append]
        refine EV.bind (spec_l2Inverse_is (y ++ x) (fun z hz => (yx.2.1 z hz).1) (by simp; omega)) (EV.pos (by simp [invW_len]; omega) ?_)
        exact EV.bind (spec_l8Trivial_is g _ ok) (EV.now _)
      · rw [decide_eq_false h3, Bool.false_and, show decide (2 * ((x.length : Int) + (y.length : Int)) > 24) = true by simp; omega]
        exact no
    · rw [show fitsB g y = false by simpa using h2, Bool.false_and]
      exact EV.neg (by simp) no
  · rw [show fitsB g x = false by simpa using h1, Bool.false_and]
    exact EV.neg (by simp) no

theorem laws_toIntS_l0 (xs : List Int) (hn : xs.length < 4611686018427387904) : ∀ suf pre, xs = pre ++ suf → EV (fun k => laws_toIntS.l0 k xs (pre ++ List.replicate suf.length 0) (pre.length : Int)) xs := by
  intro suf
  induction suf with
  | nil =>
    intro pre h
    refine EV.step (fun k => by rw [laws_toIntS.l0]) ?_
    refine (EV.neg ?_ ((EV.now _).eq ?_))
    · subst h; simp
    · subst h; simp
  | cons x suf ih =>
    intro pre h
    have hl : pre.length < 4611686018427387904 := by subst h; simp at hn; omega
    have hlt : (pre.length : Int) < (xs.length : Int) := by subst h; exact lt_app ..
    have hx : rd xs (pre.length : Int) = x := by subst h; exact rd_app ..
    refine EV.step (fun k => by rw [laws_toIntS.l0]) ?_
    refine (EV.pos hlt (EV.pos (by omega) (EV.pos (by simp; omega) ?_)))
    rw [hx, up (x := x) hl, List.length_cons, List.replicate_succ, set_app _ _ _ _ _ (by simp)]
    have := ih (pre ++ [x]) (by simp [h])
    simpa using this
theorem laws_toIntS_is (xs : List Int) (hn : xs.length ≤ 1048576) : EV (fun k => laws_toIntS.f k xs) xs := by
  refine EV.pos (by omega) (EV.pos (by omega) ?_)
  exact laws_toIntS_l0 xs (by omega) xs [] rfl

theorem impl_copyOf_is (w : List Int) (hn : w.length < 4294967296) : impl_copyOf.f w = some w := by
  unfold impl_copyOf.f
  simp only [Option.bind_some]
  rw [if_pos (by simp; omega)]; simp

theorem impl_size_is (a : Int) (h : -9223372036854775808 < a) (h' : a ≤ 9223372036854775807) : impl_size.f a = some (a.natAbs : Int) := by
  unfold impl_size.f mx
  rw [w64 (by omega) (by omega)]
  congr 1
  split <;> omega
theorem impl_size_some (a : Int) : ∃ r, impl_size.f a = some r := ⟨_, rfl⟩

theorem impl_within_is (a b c : Int) : impl_within.f a b c = some (decide (b ≤ a ∧ a ≤ c)) := by
  unfold impl_within.f
  by_cases h : a ≥ b
  · rw [if_pos h]; simp [show b ≤ a from h]
  · rw [if_neg h]; simp; omega

theorem impl_isLetter_is (a : Int) : impl_isLetter.f a = some (letterB a) := by
  unfold impl_isLetter.f
  rw [impl_within_is]
  by_cases h : a = 0
  · rw [if_pos h]; simp [letterB, h]
  · rw [if_neg h]; simp [letterB, h]

theorem impl_IsWord_is (xs : List Int) (hn : xs.length < 4611686018427387904) : EV (fun k => impl_IsWord.f k xs) (wordB xs) := by
  refine EV.scan (g := fun k i => impl_IsWord.l0 k xs xs (xs.length : Int) i) xs letterB (decide (xs.length ≤ 24)) (fun i h r H1 H2 => ?_) ?_
  · refine EV.step (fun k => by rw [impl_IsWord.l0]) ?_
    rw [rd_nat _ _ h, w64 (x := (i : Int) + 1) (by omega) (by omega)]
    refine EV.pos (by omega) (EV.pos (by omega) (EV.pos (by omega) (EV.by (impl_isLetter_is _) ?_)))
    exact EV.cases H1 (fun c => (EV.now _).eq (H2 (by simpa using c)).symm)
  · refine EV.step (fun k => by rw [impl_IsWord.l0]) ?_
    refine EV.neg (by omega) ((EV.now _).eq ?_)
    rw [Bool.eq_iff_iff]; simp; omega

theorem impl_hasLetters_is (xs : List Int) (m : Int) (hm : m < 9223372036854775807) (hn : xs.length < 4611686018427387904) (hw : ∀ x ∈ xs, (Lit.int .i64 x).wf = true) : EV (fun k => impl_hasLetters.f k xs m) (hasB m xs) := by
  by_cases lo : ∀ x ∈ xs, -9223372036854775808 < x
  · refine EV.scan (g := fun k i => impl_hasLetters.l0 k xs m xs (xs.length : Int) i) xs (leB m) (wordB xs) (fun i h r H1 H2 => ?_) ?_
    · have hx := wf64 (hw _ (List.getElem_mem h))
      have hx' := lo _ (List.getElem_mem h)
      refine EV.step (fun k => by rw [impl_hasLetters.l0]) ?_
      rw [rd_nat _ _ h, w64 (x := (i : Int) + 1) (by omega) (by omega)]
      refine EV.pos (by omega) (EV.pos (by omega) (EV.pos (by omega) (EV.by (impl_size_is _ hx' hx.2) ?_)))
      exact EV.cases (fun c => (EV.now _).eq (H2 (by simp [leB]; omega)).symm) (fun c => H1 (by simp [leB]; omega))
    · refine EV.step (fun k => by rw [impl_hasLetters.l0]) ?_
      exact EV.neg (by omega) (EV.bind (impl_IsWord_is xs hn) (EV.now _))
  · have no : wordB xs = false := by
      rw [Bool.eq_false_iff]
      intro c
      exact lo fun x hx => by have := letterB_of ((wordB_of c).1 x hx); omega
    have := EV.scan (g := fun k i => impl_hasLetters.l0 k xs m xs (xs.length : Int) i) xs (fun x => ((impl_size.f x).getD 0 ≤ m : Bool)) (wordB xs) (fun i h r H1 H2 => ?_) ?_
    · refine this.eq ?_
      rw [hasB, no, Bool.and_false, Bool.and_false]
    · obtain ⟨v, hv⟩ := impl_size_some xs[i]
      refine EV.step (fun k => by rw [impl_hasLetters.l0]) ?_
      rw [rd_nat _ _ h, w64 (x := (i : Int) + 1) (by omega) (by omega)]
      refine EV.pos (by omega) (EV.pos (by omega) (EV.pos (by omega) (EV.by hv ?_)))
      rw [hv] at H1 H2
      exact EV.cases (fun c => (EV.now _).eq (H2 (by simp; omega)).symm) (fun c => H1 (by simp; omega))
    · refine EV.step (fun k => by rw [impl_hasLetters.l0]) ?_
      exact EV.neg (by omega) (EV.bind (impl_IsWord_is xs hn) (EV.now _))

theorem impl_isGroupWord_is (g : Int) (xs : List Int) (hn : xs.length < 4611686018427387904) (hw : ∀ x ∈ xs, (Lit.int .i64 x).wf = true) : EV (fun k => impl_isGroupWord.f k g xs) (fitsB g xs) := by
  unfold fitsB
  refine EV.cases (fun h => ?_) (fun h => EV.cases (fun h' => ?_) (fun h' => ?_))
  · subst h; exact EV.bind (impl_hasLetters_is xs _ (by rw [w64 (by omega) (by omega)]; omega) hn hw) ((EV.now _).eq (by rw [w64 (by omega) (by omega)]; simp))
  · subst h'; exact EV.bind (impl_hasLetters_is xs _ (by rw [w64 (by omega) (by omega)]; omega) hn hw) ((EV.now _).eq (by rw [w64 (by omega) (by omega)]; simp))
  · refine (EV.now _).eq ?_
    rw [show decide (1 ≤ g ∧ g ≤ 2) = false by simp; omega, Bool.false_and]

theorem impl_LetterSums_is (xs : List Int) (hn : xs.length < 4611686018427387904) : EV (fun k => impl_LetterSums.f k xs) (if wordB xs = true then sumsM xs else []) := by
  refine EV.bind (impl_IsWord_is xs hn) ?_
  by_cases hw : wordB xs = true
  · refine EV.pos hw (EV.pos (by omega) ?_)
    rw [if_pos hw]
    have hxs := wordB_of hw
    refine EV.fold (g := fun k v i => impl_LetterSums.l0 k v xs (xs.length : Int) i) xs addL id sumsI (fun i h v r hI H => ?_) (fun v hI => ?_) _ sumsI_zero
    · have hx := letterB_of (all_getElem hxs.1 i h)
      have hI' := sumsI_next hI xs[i]
      have hb := hI.2 (xs[i].natAbs - 1)
      have H := H hI'
      refine EV.step (fun k => by rw [impl_LetterSums.l0]) ?_
      rw [rd_nat _ _ h, w64 (x := (i : Int) + 1) (by omega) (by omega)]
      refine EV.pos (by omega) (EV.pos (by omega) (EV.pos (by omega) ?_))
      by_cases hp : xs[i] > 0
      · rw [w64 (x := xs[i] - 1) (by omega) (by omega)]
        refine EV.pos hp (EV.pos (by omega) (EV.pos (by have := hI.1; omega) ?_))
        have e : (xs[i] - 1).toNat = xs[i].natAbs - 1 := by omega
        unfold rd
        rw [e, w64 (by omega) (by omega)]
        simpa only [addL, if_pos hp] using H
      · rw [w64 (x := -xs[i]) (by omega) (by omega), w64 (x := -xs[i] - 1) (by omega) (by omega)]
        refine EV.neg hp (EV.pos (by omega) (EV.pos (by have := hI.1; omega) ?_))
        have e : (-xs[i] - 1).toNat = xs[i].natAbs - 1 := by omega
        unfold rd
        rw [e, w64 (by omega) (by omega)]
        simpa only [addL, if_neg (show ¬ 0 < xs[i] from hp)] using H
    · refine EV.step (fun k => by rw [impl_LetterSums.l0]) ?_
      exact EV.neg (by omega) (EV.now _)
  · exact EV.neg hw ((EV.now _).eq (by rw [if_neg hw]))

theorem redM_take' (w : List Int) (i : Nat) (h : i < w.length) : redM (w.take (i + 1)) = redStep (redM (w.take i)) w[i] := by
  unfold redM
  rw [List.take_succ_eq_append_getElem h, List.foldl_append]; rfl
theorem impl_reduce_is (w : List Int) (hw : ∀ x ∈ w, letterB x = true) (hn : w.length < 4294967296) : EV (fun k => impl_reduce.f k w) (redM w) := by
  refine EV.count (g := fun k s i => impl_reduce.l0 k s w (w.length : Int) i) w.length (fun i => redM (w.take i)) _ (fun i h H => ?_) ?_
  · have hx := letterB_of (hw _ (List.getElem_mem h))
    have hl := redM_len (w.take i)
    rw [List.length_take] at hl
    rw [redM_take' w i h] at H
    refine EV.step (fun k => by rw [impl_reduce.l0]) ?_
    rw [rd_nat _ _ h, w64 (x := (i : Int) + 1) (by omega) (by omega), w64 (x := -w[i]) (by omega) (by omega)]
    refine EV.pos (by omega) (EV.pos (by omega) (EV.pos (by omega) ?_))
    generalize redM (w.take i) = s at *
    unfold redStep at H
    by_cases h0 : 0 < s.length
    · have e : rd s ((s.length : Int) - 1) = s.getD (s.length - 1) 0 := by
        unfold rd; rw [show ((s.length : Int) - 1).toNat = s.length - 1 by omega]
      rw [w64 (x := (s.length : Int) - 1) (by omega) (by omega), e]
      refine EV.pos (by omega) (EV.pos (by omega) (EV.pos (by omega) ?_))
      by_cases hc : s.getD (s.length - 1) 0 = -w[i]
      · rw [if_pos ⟨h0, hc⟩] at H
        refine EV.pos hc (EV.pos (by omega) ?_)
        rw [show ((s.length : Int) - 1).toNat = s.length - 1 by omega]
        exact H
      · rw [if_neg (fun c => hc c.2)] at H
        exact EV.neg hc (EV.pos (by omega) H)
    · rw [if_neg (fun c => h0 c.1)] at H
      exact EV.neg (by omega) (EV.pos (by omega) H)
  · refine EV.step (fun k => by rw [impl_reduce.l0]) ?_
    rw [List.take_length]
    exact EV.neg (by omega) (EV.now _)

theorem impl_relator_is (g : Int) : impl_relator.f g = some (if g = 1 then [1, 2, -1, -2] else [1, 2, -1, -2, 3, 4, -3, -4]) := by
  unfold impl_relator.f
  split <;> rfl

theorem impl_inverse_is (w : List Int) (hw : ∀ x ∈ w, letterB x = true) (hn : w.length < 4294967296) : EV (fun k => impl_inverse.f k w) (invW w) := by
  have h : ∀ (c i : Nat), i + c = w.length → EV (fun k => impl_inverse.l0 k w ((invW w).take i) ((c : Int) - 1)) (invW w) := by
    intro c
    induction c with
    | zero =>
      intro i hi
      refine EV.step (fun k => by rw [impl_inverse.l0]) ?_
      exact EV.neg (by omega) ((EV.now _).eq (by rw [List.take_of_length_le (by rw [invW_len]; omega)]))
    | succ c ih =>
      intro i hi
      have hc : c < w.length := by omega
      have hx := letterB_of (hw _ (List.getElem_mem hc))
      have hi' : i < (invW w).length := by rw [invW_len]; omega
      have e : (invW w)[i] = -w[c] := by
        rw [invW_get w i (by omega)]
        congr 2; omega
      have ih := ih (i + 1) (by omega)
      rw [List.take_succ_eq_append_getElem hi', e] at ih
      refine EV.step (fun k => by rw [impl_inverse.l0]) ?_
      rw [show ((c + 1 : Nat) : Int) - 1 = (c : Int) by omega, rd_nat _ _ hc, w64 (x := -w[c]) (by omega) (by omega), w64 (x := (c : Int) - 1) (by omega) (by omega)]
      exact EV.pos (by omega) (EV.pos (by omega) (EV.pos (by omega) (EV.pos (by simp; omega) ih)))
  have := h w.length 0 (by omega)
  rw [List.take_zero] at this
  refine EV.congr (fun k => ?_) this
  rw [impl_inverse.f, w64 (by omega) (by omega)]

theorem lcpM_drop' (u v : List Int) (i : Nat) (hu : i < u.length) (hv : i < v.length) : lcpM (u.drop i) (v.drop i) = if u[i] = v[i] then lcpM (u.drop (i + 1)) (v.drop (i + 1)) + 1 else 0 := by
  rw [List.drop_eq_getElem_cons hu, List.drop_eq_getElem_cons hv, lcpM]
theorem lcpM_end' (u v : List Int) (i : Nat) (h : u.length ≤ i ∨ v.length ≤ i) : lcpM (u.drop i) (v.drop i) = 0 := by
  rcases h with h | h
  · rw [List.drop_of_length_le h]; simp [lcpM]
  · rw [List.drop_of_length_le h]; cases u.drop i <;> simp [lcpM]
theorem impl_common_is (w r : List Int) (p j : Nat) (hj : j < r.length) (hp : p ≤ w.length) (hn : r.length < 4294967296) (hw : w.length < 4294967296) : EV (fun k => impl_common.f k w (p : Int) r (j : Int)) (lcpM (w.drop p) (turnM r j) : Int) := by
  have hl := turnM_len r j (by omega)
  have h : ∀ (n i : Nat), i + n = r.length → EV (fun k => impl_common.l0 k w (p : Int) r (j : Int) (i : Int)) (((i + lcpM ((w.drop p).drop i) ((turnM r j).drop i) : Nat)) : Int) := by
    intro n
    induction n with
    | zero =>
      intro i hi
      refine EV.step (fun k => by rw [impl_common.l0]) ?_
      exact EV.neg (by omega) ((EV.now _).eq (by rw [lcpM_end' _ _ _ (Or.inr (by omega))]; rfl))
    | succ n ih =>
      intro i hi
      have hv : i < (turnM r j).length := by omega
      have em : Int.tmod ((j : Int) + (i : Int)) (r.length : Int) = (((j + i) % r.length : Nat) : Int) := by
        rw [show (j : Int) + (i : Int) = ((j + i : Nat) : Int) by omega, Int.tmod_eq_emod_of_nonneg (by omega)]; omega
      have hm := Nat.mod_lt (j + i) (show 0 < r.length by omega)
      refine EV.step (fun k => by rw [impl_common.l0]) ?_
      rw [w64 (x := (p : Int) + (i : Int)) (by omega) (by omega), w64 (x := (j : Int) + (i : Int)) (by omega) (by omega), em, w64 (x := (i : Int) + 1) (by omega) (by omega)]
      refine EV.pos (by omega) ?_
      by_cases hu : p + i < w.length
      · have hu' : i < (w.drop p).length := by rw [List.length_drop]; omega
        rw [lcpM_drop' _ _ i hu' hv, show (p : Int) + (i : Int) = ((p + i : Nat) : Int) by omega, rd_nat _ _ hu, rd_nat _ _ hm]
        refine EV.pos (by omega) (EV.pos (by omega) (EV.neg (by omega) (EV.pos (by omega) (EV.pos (by omega) ?_))))
        have e1 : (w.drop p)[i] = w[p + i] := by rw [List.getElem_drop]
        have e2 : (turnM r j)[i] = r[(j + i) % r.length] := turnM_get r j i hj (by omega)
        rw [e1, e2]
        by_cases c : w[p + i] = r[(j + i) % r.length]
        · rw [if_pos c]
          exact EV.pos c ((ih (i + 1) (by omega)).eq (by omega))
        · rw [if_neg c]
          exact EV.neg c (EV.now _)
      · rw [lcpM_end' _ _ _ (Or.inl (by rw [List.length_drop]; omega))]
        exact EV.neg (by omega) (EV.now _)
  have := h r.length 0 (by omega)
  exact EV.congr (fun k => rfl) (this.eq (by simp))

theorem impl_mod_is (a n : Nat) (hn : 0 < n) : impl_mod.f (a : Int) (n : Int) = some ((a % n : Nat) : Int) := by
  unfold impl_mod.f
  have e : Int.tmod (a : Int) (n : Int) = ((a % n : Nat) : Int) := by
    rw [Int.tmod_eq_emod_of_nonneg (by omega)]; omega
  rw [e, if_neg (by omega), if_neg (by omega)]

theorem impl_turn_is (w : List Int) (a : Nat) (hw : 0 < w.length) (hn : w.length < 4294967296) : impl_turn.f w (a : Int) = some (turnM w (a % w.length)) := by
  unfold impl_turn.f
  have hlt := Nat.mod_lt a hw
  rw [impl_mod_is a w.length hw, if_neg (by omega)]
  simp only [Option.bind_some]
  rw [if_pos (by omega), if_pos (by omega), impl_copyOf_is _ (by simp; omega)]
  simp only [Option.bind_some]
  rw [if_pos (by simp; omega)]
  simp only [Int.toNat_natCast]; rfl

theorem impl_DehnStep_l2 (g : Int) (w R : List Int) (i : Nat) (q : List (List Int)) (y : Nat) (m z : Int) (rg : g = 1 ∨ g = 2) (hR : R.length = (4 * g).toNat) (hw : w.length ≤ 24) (hi : i < w.length) (r : List Int × Bool) (s : Nat × List Int)
    (H : EV (fun k => impl_DehnStep.l1 k g w (i : Int) ((((List.range R.length).map fun j => (R, j)).foldl (updM (w.drop i)) s).1 : Int) (((List.range R.length).map fun j => (R, j)).foldl (updM (w.drop i)) s).2 m z q (q.length : Int) ((y : Int) + 1)) r) (hy : y < 16) :
    EV (fun k => impl_DehnStep.l2 k g w (i : Int) (s.1 : Int) s.2 R m z q (q.length : Int) (y : Int) (R.length : Int) 0) r := by
  have hlen : ((List.range R.length).map fun j => (R, j)).length = R.length := by simp
  refine EV.foldC (g := fun k (s : Nat × List Int) x => impl_DehnStep.l2 k g w (i : Int) (s.1 : Int) s.2 R m z q (q.length : Int) (y : Int) (R.length : Int) x) ((List.range R.length).map fun j => (R, j)) (updM (w.drop i)) (fun _ _ => True) r (fun x hx s _ H => ?_) s trivial (fun _ => ?_)
  · have H := H trivial
    rw [hlen] at hx
    have e : ((List.range R.length).map fun j => (R, j))[x] = (R, x) := by simp
    rw [e] at H
    have hl := turnM_len R x (by omega)
    have hb := lcpM_le2 (w.drop i) (turnM R x)
    refine EV.step (fun k => by rw [impl_DehnStep.l2]) ?_
    refine EV.pos (by omega) (EV.bind (impl_common_is w R i x hx (by omega) (by omega) (by omega)) ?_)
    unfold updM at H
    rw [w64 (x := (x : Int) + 1) (by omega) (by omega)]
    by_cases c : s.1 < lcpM (w.drop i) (turnM R x)
    · rw [if_pos c] at H
      rw [w64 (x := (x : Int) + (lcpM (w.drop i) (turnM R x) : Int)) (by omega) (by omega), w64 (x := (R.length : Int) - (lcpM (w.drop i) (turnM R x) : Int)) (by omega) (by omega), show (x : Int) + (lcpM (w.drop i) (turnM R x) : Int) = ((x + lcpM (w.drop i) (turnM R x) : Nat) : Int) by omega]
      have hmod := Nat.mod_lt (x + lcpM (w.drop i) (turnM R x)) (show 0 < R.length by omega)
      have hl2 := turnM_len R ((x + lcpM (w.drop i) (turnM R x)) % R.length) (by omega)
      refine EV.pos (by omega) (EV.by (impl_turn_is R _ (by omega) (by omega)) (EV.pos (by omega) (EV.pos (by omega) ?_)))
      have et : (turnM R ((x + lcpM (w.drop i) (turnM R x)) % R.length)).take ((R.length : Int) - (lcpM (w.drop i) (turnM R x) : Int)).toNat = (turnM R x).drop (lcpM (w.drop i) (turnM R x)) := by
        apply List.ext_getElem
        · simp only [List.length_take, List.length_drop]; omega
        · intro k h1 h2
          rw [List.length_drop] at h2
          rw [List.getElem_take, List.getElem_drop, turnM_get R _ k hmod (by omega), turnM_get R x _ hx (by omega)]
          congr 1
          rw [Nat.mod_add_mod]; congr 1; omega
      rw [et]
      exact H
    · rw [if_neg c] at H
      exact EV.neg (by omega) H
  · refine EV.step (fun k => by rw [impl_DehnStep.l2]) ?_
    rw [hlen, w64 (x := (y : Int) + 1) (by omega) (by omega)]
    exact EV.neg (by omega) H
theorem impl_DehnStep_l0 (g : Int) (w : List Int) (h : okW g w) : ∀ (n i : Nat), i + n = w.length → EV (fun k => impl_DehnStep.l0 k g w (w.length : Int) (i : Int)) (stepFrom g w n i) := by
  have rg := h.1
  have RG := relG_ok rg
  have hw := h.2.2
  have er : (if g = 1 then [1, 2, -1, -2] else [1, 2, -1, -2, 3, 4, -3, -4] : List Int) = relG g := rfl
  intro n
  induction n with
  | zero =>
    intro i hi
    refine EV.step (fun k => by rw [impl_DehnStep.l0]) ?_
    exact EV.neg (by omega) (EV.now _)
  | succ n ih =>
    intro i hi
    have e2 : wrap64 (2 * g) = (((2 * g).toNat : Nat) : Int) := by rw [w64 (by omega) (by omega)]; omega
    have bo := bestM_of (w.drop i) (2 * g).toNat (pairsM (relG g))
    refine EV.step (fun k => by rw [impl_DehnStep.l0]) ?_
    rw [e2]
    refine EV.pos (by omega) (EV.by (impl_relator_is g) (EV.by (impl_relator_is g) ?_))
    rw [er]
    refine EV.bind (impl_inverse_is _ (fun y hy => (RG.2 y hy).1) (by omega)) (EV.by rfl ?_)
    have fin : EV (fun k => impl_DehnStep.l1 k g w (i : Int) ((bestM (w.drop i) (2 * g).toNat (pairsM (relG g))).1 : Int) (bestM (w.drop i) (2 * g).toNat (pairsM (relG g))).2 (w.length : Int) (i : Int) [relG g, invW (relG g)] 2 2) (stepFrom g w (n + 1) i) := by
      have b := bestAt_I rg w i
      refine EV.step (fun k => by rw [impl_DehnStep.l1]) ?_
      refine EV.neg (by omega) ?_
      unfold stepFrom
      by_cases c : 2 * g < ((bestAt g w i).1 : Int)
      · rw [if_pos c]
        have eb : bestM (w.drop i) (2 * g).toNat (pairsM (relG g)) = bestAt g w i := bo.2 (by unfold bestAt at c; omega)
        rw [eb]
        have hinv : (invW (bestAt g w i).2).length ≤ 8 := by rw [invW_len]; rcases b.2.1 with e | e; omega; rw [e]; simp
        rw [e2, w64 (x := (i : Int) + ((bestAt g w i).1 : Int)) (by omega) (by omega)]
        refine EV.pos (by omega) (EV.pos (by omega) (EV.pos (by omega) (EV.by (impl_copyOf_is _ (by simp; omega)) (EV.bind (impl_inverse_is _ (fun y hy => (b.2.2 y hy).1) (by rw [← invW_len]; omega)) (EV.pos (by simp; omega) (EV.by rfl (EV.pos (by omega) (EV.pos (by omega) (EV.by rfl (EV.pos (by simp; omega) ?_))))))))))
        have ee : (w.take ((i : Int)).toNat ++ invW (bestAt g w i).2) ++ w.drop (((i : Int) + ((bestAt g w i).1 : Int))).toNat = w.take i ++ invW (bestAt g w i).2 ++ w.drop (i + (bestAt g w i).1) := by
          rw [show ((i : Int) + ((bestAt g w i).1 : Int)).toNat = i + (bestAt g w i).1 by omega, Int.toNat_natCast]
        rw [ee]
        have hl : ∀ y ∈ w.take i ++ invW (bestAt g w i).2 ++ w.drop (i + (bestAt g w i).1), letterB y = true := by
          intro y hy
          rw [List.append_assoc, List.mem_append, List.mem_append] at hy
          rcases hy with h' | h' | h'
          · exact (h.2.1 y (List.mem_of_mem_take h')).1
          · exact (invW_mem (p := okL g) (fun x hx => okL_neg hx) b.2.2 y h').1
          · exact (h.2.1 y (List.mem_of_mem_drop h')).1
        exact EV.bind (impl_reduce_is _ hl (by simp only [List.length_append, List.length_take, List.length_drop]; omega)) (EV.now _)
      · rw [if_neg c]
        have c' : ¬ (2 * g).toNat < (bestM (w.drop i) 0 (pairsM (relG g))).1 := by unfold bestAt at c; omega
        rw [bo.1] at c'
        rw [e2, w64 (x := (i : Int) + 1) (by omega) (by omega)]
        exact EV.neg (by omega) (ih (i + 1) (by omega))
    have efold : bestM (w.drop i) (2 * g).toNat (pairsM (relG g)) = ((List.range (invW (relG g)).length).map fun j => (invW (relG g), j)).foldl (updM (w.drop i)) (((List.range (relG g).length).map fun j => (relG g, j)).foldl (updM (w.drop i)) ((2 * g).toNat, [])) := by
      unfold bestM pairsM
      rw [List.foldl_append, invW_len]
    rw [efold] at fin
    refine EV.step (fun k => by rw [impl_DehnStep.l1]) ?_
    refine EV.pos (by simp) (EV.pos (by omega) (EV.pos (by simp) ?_))
    refine impl_DehnStep_l2 g w (relG g) i [relG g, invW (relG g)] 0 (w.length : Int) (i : Int) rg RG.1 hw (by omega) _ ((2 * g).toNat, []) ?_ (by omega)
    refine EV.step (fun k => by rw [impl_DehnStep.l1]) ?_
    refine EV.pos (by simp) (EV.pos (by omega) (EV.pos (by simp) ?_))
    exact impl_DehnStep_l2 g w (invW (relG g)) i [relG g, invW (relG g)] 1 (w.length : Int) (i : Int) rg (by rw [invW_len]; exact RG.1) hw (by omega) _ _ fin (by omega)
def dehnStepM (g : Int) (w : List Int) : List Int × Bool := if fitsB g w = true then dstepM g (redM w) else ([], false)
theorem impl_DehnStep_is (g : Int) (w : List Int) (hn : w.length < 4294967296) (hw : ∀ x ∈ w, (Lit.int .i64 x).wf = true) : EV (fun k => impl_DehnStep.f k g w) (dehnStepM g w) := by
  unfold dehnStepM
  refine EV.bind (impl_isGroupWord_is g w (by omega) hw) ?_
  by_cases h : fitsB g w = true
  · rw [if_pos h]
    have ok := fits_ok h
    refine EV.pos h (EV.bind (impl_reduce_is w (fun x hx => (ok.2.1 x hx).1) hn) ?_)
    exact impl_DehnStep_l0 g (redM w) (red_ok ok) (redM w).length 0 (by omega)
  · rw [if_neg h]
    exact EV.neg h (EV.now _)

theorem letter_wf {x : Int} (h : letterB x = true) : (Lit.int .i64 x).wf = true := by
  have := letterB_of h
  simp only [Lit.wf, IntKind.min, IntKind.max, IntKind.signed, IntKind.bits, Bool.and_eq_true, decide_eq_true_eq, if_true]
  omega
theorem impl_DehnWord_l0 (g : Int) : ∀ (n : Nat) (w : List Int), okW g w → RedP w → w.length ≤ n → EV (fun k => impl_DehnWord.l0 k g w) (dehnF g n w) := by
  have key : ∀ w, okW g w → RedP w → EV (fun k => impl_DehnStep.f k g w) (dstepM g w) := by
    intro w h hr
    refine (impl_DehnStep_is g w (by have := h.2.2; omega) (fun x hx => letter_wf (h.2.1 x hx).1)).eq ?_
    unfold dehnStepM
    rw [if_pos (ok_fits h), redM_id hr]
  intro n
  induction n with
  | zero =>
    intro w h hr hn
    have e : w = [] := List.eq_nil_of_length_eq_zero (by omega)
    refine EV.step (fun k => by rw [impl_DehnWord.l0]) ?_
    refine EV.bind (key w h hr) (EV.neg ?_ (EV.now _))
    subst e; simp [dstepM, stepFrom]
  | succ n ih =>
    intro w h hr hn
    refine EV.step (fun k => by rw [impl_DehnWord.l0]) ?_
    refine EV.bind (key w h hr) ?_
    unfold dehnF
    by_cases c : (dstepM g w).2 = true
    · rw [if_pos c]
      have s := stepFrom_ok h _ _ (show 0 + w.length = w.length by omega) c
      have hlt : (dstepM g w).1.length < w.length := s.2.2
      exact EV.pos c (ih _ s.1 s.2.1 (by omega))
    · rw [if_neg c]
      exact EV.neg c (EV.now _)
theorem impl_DehnWord_is (g : Int) (w : List Int) (hn : w.length < 4294967296) (hw : ∀ x ∈ w, (Lit.int .i64 x).wf = true) : EV (fun k => impl_DehnWord.f k g w) (if fitsB g w = true then dehnM g w else []) := by
  refine EV.bind (impl_isGroupWord_is g w (by omega) hw) ?_
  by_cases h : fitsB g w = true
  · rw [if_pos h]
    have ok := fits_ok h
    exact EV.pos h (EV.bind (impl_reduce_is w (fun x hx => (ok.2.1 x hx).1) hn) (impl_DehnWord_l0 g _ _ (red_ok ok) (redM_red w) (Nat.le_refl _)))
  · rw [if_neg h]
    exact EV.neg h (EV.now _)

theorem impl_IsTrivialWord_is (g : Int) (w : List Int) (hn : w.length < 4294967296) (hw : ∀ x ∈ w, (Lit.int .i64 x).wf = true) : EV (fun k => impl_IsTrivialWord.f k g w) (fitsB g w && trivM g w) := by
  refine EV.bind (impl_isGroupWord_is g w (by omega) hw) ?_
  by_cases h : fitsB g w = true
  · have ok := fits_ok h
    rw [h, Bool.true_and]
    refine EV.pos rfl ?_
    unfold trivM
    by_cases g1 : g = 1
    · rw [if_neg (by omega)]
      refine EV.pos g1 (EV.bind (impl_LetterSums_is w (by omega)) ?_)
      rw [if_pos (fitsB_of h).2.2]
      rw [← Bool.and_true (List.all _ _)]
      refine EV.scan (g := fun k i => impl_IsTrivialWord.l0 k (sumsM w) ((sumsM w).length : Int) i) (sumsM w) (fun v => decide (v = 0)) true (fun i hi r H1 H2 => ?_) ?_
      · have h8 := sumsM_len w
        refine EV.step (fun k => by rw [impl_IsTrivialWord.l0]) ?_
        rw [rd_nat _ _ hi, w64 (x := (i : Int) + 1) (by omega) (by omega)]
        refine EV.pos (by omega) (EV.pos (by omega) (EV.pos (by omega) ?_))
        exact EV.cases (fun c => H1 (by simpa using c)) (fun c => (EV.now _).eq (H2 (by simpa using c)).symm)
      · refine EV.step (fun k => by rw [impl_IsTrivialWord.l0]) ?_
        exact EV.neg (by omega) (EV.now _)
    · rw [if_pos (by have := ok.1; omega)]
      refine EV.neg g1 (EV.bind (impl_DehnWord_is g w hn hw) ?_)
      rw [if_pos h]
      exact EV.now _
  · rw [show fitsB g w = false by simpa using h, Bool.false_and]
    exact EV.neg (by simp) (EV.now _)

theorem impl_AreEqualWords_is (g : Int) (x y : List Int) (hx : x.length < 4294967296) (hy : y.length < 4294967296) (wx : ∀ z ∈ x, (Lit.int .i64 z).wf = true) (wy : ∀ z ∈ y, (Lit.int .i64 z).wf = true) : EV (fun k => impl_AreEqualWords.f k g x y) (eqM g x y) := by
  have no : EV (fun k => impl_AreEqualWords.j0 k g x y true) false := by
    refine EV.step (fun k => by rw [impl_AreEqualWords.j0]) ?_
    exact EV.pos rfl (EV.now _)
  unfold eqM
  refine EV.bind (impl_isGroupWord_is g x (by omega) wx) ?_
  by_cases h1 : fitsB g x = true
  · rw [h1, Bool.true_and]
    refine EV.pos rfl (EV.bind (impl_isGroupWord_is g y (by omega) wy) ?_)
    by_cases h2 : fitsB g y = true
    · rw [h2, Bool.true_and, w64 (x := (x.length : Int) + (y.length : Int)) (by omega) (by omega)]
      refine EV.pos rfl ?_
      by_cases h3 : x.length + y.length ≤ 24
      · rw [decide_eq_true h3, Bool.true_and, show decide ((x.length : Int) + (y.length : Int) > 24) = false by simp; omega]
        have ok := ok_app (fits_ok h1) (ok_inv (fits_ok h2)) (by rw [invW_len]; exact h3)
        refine EV.step (fun k => by rw [impl_AreEqualWords.j0]) ?_
        refine EV.neg (by simp) (EV.by (impl_copyOf_is x (by omega)) (EV.bind (impl_inverse_is y (fun z hz => ((fits_ok h2).2.1 z hz).1) hy) (EV.pos (by simp [invW_len]; omega) ?_)))
        refine EV.bind (impl_IsTrivialWord_is g _ (by have := ok.2.2; omega) (fun z hz => letter_wf (ok.2.1 z hz).1)) ((EV.now _).eq ?_)
        rw [ok_fits ok, Bool.true_and]
      · rw [decide_eq_false h3, Bool.false_and, show decide ((x.length : Int) + (y.length : Int) > 24) = true by simp; omega]
        exact no
    · rw [show fitsB g y = false by simpa using h2, Bool.false_and]
      exact EV.neg (by simp) no
  · rw [show fitsB g x = false by simpa using h1, Bool.false_and]
    exact EV.neg (by simp) no

theorem impl_CommuteIn_is (g : Int) (x y : List Int) (hx : x.length < 1073741824) (hy : y.length < 1073741824) (wx : ∀ z ∈ x, (Lit.int .i64 z).wf = true) (wy : ∀ z ∈ y, (Lit.int .i64 z).wf = true) : EV (fun k => impl_CommuteIn.f k g x y) (comM g x y) := by
  refine EV.by (impl_copyOf_is x (by omega)) (EV.pos (by omega) (EV.by (impl_copyOf_is y (by omega)) (EV.pos (by omega) ?_)))
  refine EV.bind (impl_AreEqualWords_is g (x ++ y) (y ++ x) (by simp; omega) (by simp; omega) (fun z hz => ?_) (fun z hz => ?_)) ((EV.now _).eq (comM_eq g x y))
  · rcases List.mem_append.1 hz with h | h
    · exact wx z h
    · exact wy z h
  · rcases List.mem_append.1 hz with h | h
    · exact wy z h
    · exact wx z h

theorem laws_eqIntS_l0 (xs ys : List Int) (hn : xs.length < 4611686018427387904) : ∀ (suf suf' pre : List Int), pre.length + suf.length = xs.length → pre.length + suf'.length = ys.length → suf.length = suf'.length → xs.drop pre.length = suf → ys.drop pre.length = suf' →
    EV (fun k => laws_eqIntS.l0 k xs ys (pre.length : Int)) (decide (suf = suf')) := by
  intro suf
  induction suf with
  | nil =>
    intro suf' pre h1 h2 h3 h4 h5
    have : suf' = [] := List.eq_nil_of_length_eq_zero (by simpa using h3.symm)
    subst this
    refine EV.step (fun k => by rw [laws_eqIntS.l0]) ?_
    refine (EV.neg ?_ ((EV.now _).eq (by simp)))
    simp at h1; omega
  | cons x suf ih =>
    intro suf' pre h1 h2 h3 h4 h5
    obtain ⟨y, suf', rfl⟩ : ∃ y t, suf' = y :: t := by
      cases suf' with
      | nil => simp at h3
      | cons y t => exact ⟨y, t, rfl⟩
    simp only [List.length_cons] at h1 h2 h3
    have hl : pre.length < 4611686018427387904 := by omega
    have hx : rd xs (pre.length : Int) = x := by
      rw [rd_nat _ _ (by omega)]
      have := List.getElem_drop (xs := xs) (i := pre.length) (j := 0) (h := by simp; omega)
      simp only [h4] at this; simpa using this.symm
    have hy : rd ys (pre.length : Int) = y := by
      rw [rd_nat _ _ (by omega)]
      have := List.getElem_drop (xs := ys) (i := pre.length) (j := 0) (h := by simp; omega)
      simp only [h5] at this; simpa using this.symm
    refine EV.step (fun k => by rw [laws_eqIntS.l0]) ?_
    refine (EV.pos (by omega) (EV.pos (by omega) (EV.pos (by omega) ?_)))
    rw [hx, hy, up (x := x) hl]
    by_cases hs : x = y
    · refine EV.pos hs ((ih suf' _ (by simp; omega) (by simp; omega) (by omega) ?_ ?_).eq (by simp [hs]))
      · rw [List.length_append, ← List.drop_drop, h4]; rfl
      · rw [List.length_append, ← List.drop_drop, h5]; rfl
    · exact (EV.neg hs (EV.now _)).eq (by simp [hs])
theorem laws_eqIntS_is (xs ys : List Int) (hn : xs.length < 4611686018427387904) : EV (fun k => laws_eqIntS.f k xs ys) (decide (xs = ys)) := by
  by_cases h : xs.length = ys.length
  · exact EV.pos (by omega) (laws_eqIntS_l0 xs ys hn xs ys [] (by simp) (by simp) h rfl rfl)
  · exact (EV.neg (by omega) (EV.now _)).eq (by simp; intro e; exact h (by rw [e]))
theorem laws_eqIntS_self (xs : List Int) (hn : xs.length < 4611686018427387904) : EV (fun k => laws_eqIntS.f k xs xs) true := (laws_eqIntS_is xs xs hn).eq (by simp)

theorem both (g : Int) (wg : (Lit.int .i64 g).wf = true) (x : List Int) (wx : ∀ z ∈ x, (Lit.int .i64 z).wf = true) (nx : x.length ≤ 1048576) (y : List Int) (wy : ∀ z ∈ y, (Lit.int .i64 z).wf = true) (ny : y.length ≤ 1048576) :
    ∃ R : Bool, EV (fun k => spec_CommuteIn.f k g x y) R ∧ EV (fun k => impl_CommuteIn.f k g x y) R ∧ True :=
  ⟨_, spec_CommuteIn_is g x y (by omega) (by omega), impl_CommuteIn_is g x y (by omega) (by omega) wx wy, trivial⟩

theorem FnExactCommuteIn : laws_FnExactCommuteIn.Pure := by
  intro a0 l1 l2 w0 x1 y1 w1 x2 y2 w2
  refine EV.rounds ?_
  refine EV.cases (fun _ => EV.now _) fun g1 => ?_
  have n1 : l1.length ≤ 1048576 := by omega
  refine EV.cases (fun _ => EV.now _) fun g2 => ?_
  have n2 : l2.length ≤ 1048576 := by omega
  obtain ⟨R, S, I, hR⟩ := both a0 w0 l1 w1 n1 l2 w2 n2
  repeat (first
    | exact EV.now _
    | (refine EV.bind (laws_toIntS_is _ (by omega)) ?_)
    | (refine EV.bind S ?_)
    | (refine EV.bind I ?_)
    | (refine EV.bind (laws_eqIntS_self _ (by omega)) ?_)
    | (refine EV.pos rfl ?_)
    | (refine EV.neg (by first | omega | (simp; done)) ?_)
    | (refine EV.pos (by first | omega | (simp; done)) ?_)
    | dsimp only)

end Go.Proofs.Ythhgecgbofcbeaa.Pure
