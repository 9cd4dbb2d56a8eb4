/- Pure side of FnExactHomologyOf: the printed functions of the program and of the reference answer alike at every input that the statement takes; no condition beyond the printed statement's bounds. -/
import Derived.Test.YtkhbhbplfgggkaaPFnExactHomologyOfx4
import Derived.Test.YtkhbhbplfgggkaaWSized
set_option linter.unusedVariables false
set_option linter.unusedSimpArgs false
set_option linter.unnecessarySimpa false
set_option maxRecDepth 10000
/-- the printed row calls the print's word by this name -/
abbrev Go.Proofs.Ytkhbhbplfgggkaa.PrintWords.sized_ints := @Go.Proofs.YtkhbhbplfgggkaaW.PrintWords.sized_ints
namespace Go.Proofs.Ytkhbhbplfgggkaa.Pure
open Go.RowKit Go.Proofs.Ytkhbhbplfgggkaa.PFnExactHomologyOf Go.Proofs.YtkhbhbplfgggkaaW.PrintWords Go.Proofs.YtkhbhbplfgggkaaW.PrintLast Go.Proofs.YtkhbhbplfgggkaaW.PrintMore

/-! ### Base: words of our own, of no program -/
section
theorem w64 {x : Int} (h1 : -9223372036854775808 ≤ x) (h2 : x ≤ 9223372036854775807) : wrap64 x = x := by
  unfold wrap64; omega
theorem wf64 {x : Int} (h : (Lit.int .i64 x).wf = true) : -9223372036854775808 ≤ x ∧ x ≤ 9223372036854775807 := by
  simp only [Lit.wf, IntKind.min, IntKind.max, IntKind.signed, IntKind.bits, Bool.and_eq_true, decide_eq_true_eq, if_true] at h
  omega
/-- from some number of rounds on it answers r -/
structure EV {α : Type} (g : Nat → Option α) (r : α) : Prop where mk :: (out : ∃ K, ∀ k, K ≤ k → g k = some r)
theorem EV.now {α : Type} (r : α) : EV (fun _ => some r) r := ⟨0, fun _ _ => rfl⟩
theorem EV.rounds {α : Type} {g : Nat → Option α} {r : α} (h : EV g r) : ∃ k, g k = some r := by
  obtain ⟨K, h⟩ := h
  exact ⟨K, h K (Nat.le_refl _)⟩
theorem EV.bind {α β : Type} {g : Nat → Option α} {f : Nat → α → Option β} {a : α} {r : β} (h : EV g a) (k : EV (fun n => f n a) r) : EV (fun n => (g n).bind (f n)) r := by
  obtain ⟨K, h⟩ := h
  obtain ⟨K', k⟩ := k
  refine ⟨max K K', fun n hn => ?_⟩
  have h1 := h n (by omega)
  have h2 := k n (by omega)
  simp only [h1, Option.bind_some]
  exact h2
theorem EV.step {α : Type} {g f : Nat → Option α} {r : α} (h : ∀ k, g (k + 1) = f k) (k : EV f r) : EV g r := by
  obtain ⟨K, k⟩ := k
  refine ⟨K + 1, fun n hn => ?_⟩
  obtain ⟨m, rfl⟩ : ∃ m, n = m + 1 := ⟨n - 1, by omega⟩
  rw [h]
  exact k m (by omega)
theorem EV.congr {α : Type} {g f : Nat → Option α} {r : α} (h : ∀ k, g k = f k) (k : EV f r) : EV g r := by
  obtain ⟨K, k⟩ := k
  exact ⟨K, fun n hn => (h n).trans (k n hn)⟩
theorem EV.pos {α : Type} {c : Prop} [Decidable c] {a b : Nat → Option α} {r : α} (h : c) (k : EV a r) : EV (fun n => if c then a n else b n) r :=
  EV.congr (fun n => if_pos h) k
theorem EV.neg {α : Type} {c : Prop} [Decidable c] {a b : Nat → Option α} {r : α} (h : ¬ c) (k : EV b r) : EV (fun n => if c then a n else b n) r :=
  EV.congr (fun n => if_neg h) k
theorem EV.cases {α : Type} {c : Prop} [Decidable c] {a b : Nat → Option α} {r : α} (h : c → EV a r) (h' : ¬ c → EV b r) : EV (fun n => if c then a n else b n) r := by
  by_cases hc : c
  · exact EV.pos hc (h hc)
  · exact EV.neg hc (h' hc)
/-- a callee without rounds -/
theorem EV.by {α β : Type} {g : Option α} {f : Nat → α → Option β} {a : α} {r : β} (h : g = some a) (k : EV (fun n => f n a) r) : EV (fun n => g.bind (f n)) r := by
  subst h; exact k
theorem EV.is {α : Type} {g : Option α} {r : α} (h : g = some r) : EV (fun _ => g) r := ⟨0, fun _ _ => h⟩
theorem EV.eq {α : Type} {g : Nat → Option α} {r r' : α} (h : EV g r) (e : r = r') : EV g r' := e ▸ h
theorem rd_app (pre : List Int) (x : Int) (suf : List Int) : rd (pre ++ x :: suf) (pre.length : Int) = x := by
  simp [rd]
theorem rd_nat (xs : List Int) (i : Nat) (h : i < xs.length) : rd xs (i : Int) = xs[i] := by
  simp [rd, h]
theorem set_app {α : Type} (pre : List α) (x y : α) (suf : List α) (n : Nat) (hn : n = pre.length) : (pre ++ x :: suf).set n y = pre ++ y :: suf := by
  subst hn; simp
end
def smallB (x : Int) : Bool := decide (-1000 ≤ x ∧ x ≤ 1000)
/-- one index on -/
theorem up {α : Type} {x : α} {pre : List α} (h : pre.length < 4611686018427387904) : wrap64 ((pre.length : Int) + 1) = ((pre ++ [x]).length : Int) := by
  rw [w64 (by omega) (by omega)]; simp
theorem lt_app {α : Type} (pre : List α) (x : α) (suf : List α) : (pre.length : Int) < ((pre ++ x :: suf).length : Int) := by simp; omega
def classB (g : Int) (xs : List Int) : Bool := decide (1 ≤ g ∧ g ≤ 3) && (decide ((xs.length : Int) = 2 * g) && xs.all smallB)
theorem EV.uniq {α : Type} {g : Nat → Option α} {r r' : α} (h : EV g r) (h' : EV g r') : r = r' := by
  obtain ⟨K, h⟩ := h
  obtain ⟨K', h'⟩ := h'
  have a := h (max K K') (by omega)
  have b := h' (max K K') (by omega)
  rw [a] at b; exact Option.some.inj b
/-- from some number of rounds on -/
def Evt (P : Nat → Prop) : Prop := ∃ K, ∀ k, K ≤ k → P k
theorem Evt.and {P Q : Nat → Prop} (h : Evt P) (h' : Evt Q) : Evt (fun k => P k ∧ Q k) := by
  obtain ⟨K, h⟩ := h
  obtain ⟨K', h'⟩ := h'
  exact ⟨max K K', fun k hk => ⟨h k (by omega), h' k (by omega)⟩⟩
theorem Evt.const {p : Prop} (h : p) : Evt (fun _ => p) := ⟨0, fun _ _ => h⟩
theorem EV.evt {α : Type} {g : Nat → Option α} {r : α} (h : EV g r) : Evt (fun k => g k = some r) := h.out
theorem Evt.imp {P Q : Nat → Prop} (h : Evt P) (f : ∀ k, P k → Q k) : Evt Q := by
  obtain ⟨K, h⟩ := h
  exact ⟨K, fun k hk => f k (h k hk)⟩
theorem Evt.rounds {P : Nat → Prop} (h : Evt P) : ∃ k, P k := by
  obtain ⟨K, h⟩ := h
  exact ⟨K, h K (Nat.le_refl _)⟩
theorem EV.mono {α : Type} {g : Nat → Option α} (hg : ∀ k, LeO (g k) (g (k + 1))) {k : Nat} {r : α} (h : g k = some r) : EV g r := ⟨k, fun _ hk => at_rounds hg hk h⟩

theorem spec_l1In_is (a b c : Int) : spec_l1In.f a b c = some (decide (b ≤ a ∧ a ≤ c)) := by
  unfold spec_l1In.f
  by_cases h : a ≥ b
  · rw [if_pos h]; simp [show b ≤ a from h]
  · rw [if_neg h]; simp; omega

/-- a loop that looks at each member and answers early, or goes on -/
theorem EV.scan {α : Type} {g : Nat → Int → Option Bool} (xs : List α) (p : α → Bool) (fin : Bool)
    (hs : ∀ (i : Nat) (h : i < xs.length) (r : Bool), (p xs[i] = true → EV (fun k => g k ((i : Int) + 1)) r) → (p xs[i] = false → r = false) → EV (fun k => g k (i : Int)) r)
    (hf : EV (fun k => g k (xs.length : Int)) fin) : EV (fun k => g k 0) (xs.all p && fin) := by
  suffices h : ∀ (n i : Nat), i + n = xs.length → EV (fun k => g k (i : Int)) ((xs.drop i).all p && fin) by
    have := h xs.length 0 (by omega)
    simpa using this
  intro n
  induction n with
  | zero =>
    intro i hi
    have e : i = xs.length := by omega
    subst e
    simpa using hf
  | succ n ih =>
    intro i hi
    have hlt : i < xs.length := by omega
    have e : xs.drop i = xs[i] :: xs.drop (i + 1) := List.drop_eq_getElem_cons hlt
    rw [e, List.all_cons]
    refine hs i hlt _ (fun hp => ?_) (fun hp => by simp [hp])
    rw [hp, Bool.true_and]
    exact_mod_cast ih (i + 1) (by omega)
/-- what a loop over the members answers: the state is carried on, or an answer is given early -/
def runM {α σ ρ : Type} (f : σ → α → σ ⊕ ρ) (fin : σ → ρ) : σ → List α → ρ
  | s, [] => fin s
  | s, x :: xs => (match f s x with
    | .inl s' => runM f fin s' xs
    | .inr r => r)
theorem EV.run {α σ ρ : Type} {g : Nat → σ → Int → Option ρ} (xs : List α) (f : σ → α → σ ⊕ ρ) (fin : σ → ρ) (I : Nat → σ → Prop)
    (hs : ∀ (i : Nat) (h : i < xs.length) (s : σ) (r : ρ), I i s → (∀ s', f s xs[i] = .inl s' → I (i + 1) s' → EV (fun k => g k s' ((i : Int) + 1)) r) → (∀ a, f s xs[i] = .inr a → r = a) → EV (fun k => g k s (i : Int)) r)
    (hf : ∀ s, I xs.length s → EV (fun k => g k s (xs.length : Int)) (fin s)) : ∀ s, I 0 s → EV (fun k => g k s 0) (runM f fin s xs) := by
  suffices h : ∀ (n i : Nat), i + n = xs.length → ∀ s, I i s → EV (fun k => g k s (i : Int)) (runM f fin s (xs.drop i)) by
    intro s hI
    have := h xs.length 0 (by omega) s hI
    simpa using this
  intro n
  induction n with
  | zero =>
    intro i hi s hI
    have e : i = xs.length := by omega
    subst e
    simpa [runM] using hf s hI
  | succ n ih =>
    intro i hi s hI
    have hlt : i < xs.length := by omega
    have e : xs.drop i = xs[i] :: xs.drop (i + 1) := List.drop_eq_getElem_cons hlt
    rw [e]
    refine hs i hlt s _ hI (fun s' h' hI' => ?_) (fun a ha => by simp [runM, ha])
    have := ih (i + 1) (by omega) s' hI'
    simp only [runM, h']
    exact_mod_cast this
/-- a fold over the members -/
theorem EV.fold {α σ ρ : Type} {g : Nat → σ → Int → Option ρ} (xs : List α) (f : σ → α → σ) (fin : σ → ρ) (I : Nat → σ → Prop)
    (hs : ∀ (i : Nat) (h : i < xs.length) (s : σ) (r : ρ), I i s → (I (i + 1) (f s xs[i]) → EV (fun k => g k (f s xs[i]) ((i : Int) + 1)) r) → EV (fun k => g k s (i : Int)) r)
    (hf : ∀ s, I xs.length s → EV (fun k => g k s (xs.length : Int)) (fin s)) : ∀ s, I 0 s → EV (fun k => g k s 0) (fin (xs.foldl f s)) := by
  suffices h : ∀ (n i : Nat), i + n = xs.length → ∀ s, I i s → EV (fun k => g k s (i : Int)) (fin ((xs.drop i).foldl f s)) by
    intro s hI
    have := h xs.length 0 (by omega) s hI
    simpa using this
  intro n
  induction n with
  | zero =>
    intro i hi s hI
    have e : i = xs.length := by omega
    subst e
    simpa using hf s hI
  | succ n ih =>
    intro i hi s hI
    have hlt : i < xs.length := by omega
    have e : xs.drop i = xs[i] :: xs.drop (i + 1) := List.drop_eq_getElem_cons hlt
    rw [e, List.foldl_cons]
    refine hs i hlt s _ hI (fun hI' => ?_)
    exact_mod_cast ih (i + 1) (by omega) _ hI'
/-- a loop that changes each member of a list once, in order -/
theorem EV.zip {α β ρ : Type} {g : Nat → List α → Int → Option ρ} (upd : α → β → α) (t : List α) (x : List β) (hl : t.length = x.length) (r : ρ)
    (hs : ∀ (i : Nat) (h : i < t.length) (h' : i < x.length) (s : List α), s.length = t.length → s[i]? = some t[i] → EV (fun k => g k (s.set i (upd t[i] x[i])) ((i : Int) + 1)) r → EV (fun k => g k s (i : Int)) r)
    (hf : EV (fun k => g k (List.zipWith upd t x) (t.length : Int)) r) : EV (fun k => g k t 0) r := by
  suffices h : ∀ (n i : Nat), i + n = t.length → EV (fun k => g k (List.zipWith upd (t.take i) (x.take i) ++ t.drop i) (i : Int)) r by
    have := h t.length 0 (by omega)
    simpa using this
  intro n
  induction n with
  | zero =>
    intro i hi
    have e : i = t.length := by omega
    subst e
    rw [List.take_length, List.drop_length, List.append_nil, hl, List.take_length, ← hl]
    exact hf
  | succ n ih =>
    intro i hi
    have h1 : i < t.length := by omega
    have h2 : i < x.length := by omega
    have e : t.drop i = t[i] :: t.drop (i + 1) := List.drop_eq_getElem_cons h1
    have hz : (List.zipWith upd (t.take i) (x.take i)).length = i := by simp; omega
    refine hs i h1 h2 _ (by simp; omega) ?_ ?_
    · rw [List.getElem?_append_right (by omega), hz, Nat.sub_self, e]; rfl
    · have := ih (i + 1) (by omega)
      rw [e, set_app _ _ _ _ _ hz.symm]
      have e2 : List.zipWith upd (t.take (i + 1)) (x.take (i + 1)) = List.zipWith upd (t.take i) (x.take i) ++ [upd t[i] x[i]] := by
        rw [List.take_succ_eq_append_getElem h1, List.take_succ_eq_append_getElem h2, List.zipWith_append (by simp; omega)]; rfl
      rw [e2, List.append_assoc, List.singleton_append] at this
      exact_mod_cast this
/-- counting up to n, the state told by the count -/
theorem EV.count {σ ρ : Type} {g : Nat → σ → Int → Option ρ} (n : Nat) (f : Nat → σ) (r : ρ)
    (hs : ∀ i, i < n → EV (fun k => g k (f (i + 1)) ((i : Int) + 1)) r → EV (fun k => g k (f i) (i : Int)) r)
    (hf : EV (fun k => g k (f n) (n : Int)) r) : EV (fun k => g k (f 0) 0) r := by
  suffices h : ∀ (m i : Nat), i + m = n → EV (fun k => g k (f i) (i : Int)) r by exact h n 0 (by omega)
  intro m
  induction m with
  | zero => intro i hi; have : i = n := by omega
            subst this; exact hf
  | succ m ih => intro i hi; exact hs i (by omega) (by exact_mod_cast ih (i + 1) (by omega))
/-- counting up to n with an early answer -/
theorem EV.countB {g : Nat → Int → Option Bool} (n : Nat) (p : Nat → Bool) (fin : Bool)
    (hs : ∀ (i : Nat) (h : i < n) (r : Bool), (p i = true → EV (fun k => g k ((i : Int) + 1)) r) → (p i = false → r = false) → EV (fun k => g k (i : Int)) r)
    (hf : EV (fun k => g k (n : Int)) fin) : EV (fun k => g k 0) ((List.range n).all p && fin) := by
  refine EV.scan (List.range n) p fin (fun i h r H1 H2 => ?_) (by rw [List.length_range]; exact hf)
  rw [List.getElem_range] at H1 H2
  exact hs i (by simpa using h) r H1 H2
/-- counting up to n with an early answer, into what comes behind -/
theorem EV.countC {ρ : Type} {g : Nat → Int → Option ρ} (n : Nat) (p : Nat → Bool) (r early : ρ)
    (hs : ∀ i, i < n → (p i = true → EV (fun k => g k ((i : Int) + 1)) r) → (p i = false → r = early) → EV (fun k => g k (i : Int)) r)
    (hf : (List.range n).all p = true → EV (fun k => g k (n : Int)) r) (he : (List.range n).all p = false → r = early) : EV (fun k => g k 0) r := by
  suffices h : ∀ (m i : Nat), i + m = n → (∀ j, j < i → p j = true) → EV (fun k => g k (i : Int)) r by exact h n 0 (by omega) (fun j hj => by omega)
  intro m
  induction m with
  | zero =>
    intro i hi ha
    have : i = n := by omega
    subst this
    exact hf (by rw [List.all_eq_true]; intro x hx; exact ha x (List.mem_range.1 hx))
  | succ m ih =>
    intro i hi ha
    refine hs i (by omega) (fun hp => ?_) (fun hp => he ?_)
    · have := ih (i + 1) (by omega) (fun j hj => by
        by_cases e : j = i
        · rw [e]; exact hp
        · exact ha j (by omega))
      exact_mod_cast this
    · rw [List.all_eq_false]
      exact ⟨i, List.mem_range.2 (by omega), by simp [hp]⟩
/-- looking at each member with an early answer, into what comes behind -/
theorem EV.scanC {α ρ : Type} {g : Nat → Int → Option ρ} (xs : List α) (p : α → Bool) (r early : ρ)
    (hs : ∀ (i : Nat) (h : i < xs.length), (p xs[i] = true → EV (fun k => g k ((i : Int) + 1)) r) → (p xs[i] = false → r = early) → EV (fun k => g k (i : Int)) r)
    (hf : xs.all p = true → EV (fun k => g k (xs.length : Int)) r) (he : xs.all p = false → r = early) : EV (fun k => g k 0) r := by
  have e : xs.all p = (List.range xs.length).all (fun i => (xs[i]?.map p).getD true) := by
    rw [Bool.eq_iff_iff, List.all_eq_true, List.all_eq_true]
    constructor
    · intro h i hi
      have := List.mem_range.1 hi
      simpa [this] using h _ (List.getElem_mem this)
    · intro h x hx
      obtain ⟨i, hi, rfl⟩ := List.mem_iff_getElem.1 hx
      have := h i (List.mem_range.2 hi)
      simpa [hi] using this
  rw [e] at hf he
  refine EV.countC xs.length _ r early (fun i hi H1 H2 => ?_) hf he
  exact hs i hi (fun h => H1 (by simpa [hi] using h)) (fun h => H2 (by simpa [hi] using h))

def letterB (x : Int) : Bool := decide (-8 ≤ x ∧ x ≤ 8 ∧ x ≠ 0)
def wordB (xs : List Int) : Bool := xs.all letterB && decide (xs.length ≤ 24)
theorem letterB_of {x : Int} (h : letterB x = true) : -8 ≤ x ∧ x ≤ 8 ∧ x ≠ 0 := by simpa [letterB] using h
theorem wordB_of {xs : List Int} (h : wordB xs = true) : (∀ x ∈ xs, letterB x = true) ∧ xs.length ≤ 24 := by simpa [wordB] using h
def leB (m : Int) (x : Int) : Bool := decide ((x.natAbs : Int) ≤ m)
def hasB (m : Int) (xs : List Int) : Bool := xs.all (leB m) && wordB xs
def fitsB (g : Int) (xs : List Int) : Bool := decide (1 ≤ g ∧ g ≤ 2) && hasB (2 * g) xs
theorem all_getElem {α : Type} {p : α → Bool} {xs : List α} (h : ∀ x ∈ xs, p x = true) (i : Nat) (hi : i < xs.length) : p xs[i] = true := h _ (List.getElem_mem hi)
/-- one letter counted -/
def addL (v : List Int) (x : Int) : List Int := v.set (x.natAbs - 1) (if 0 < x then v.getD (x.natAbs - 1) 0 + 1 else v.getD (x.natAbs - 1) 0 - 1)
def sumsM (xs : List Int) : List Int := xs.foldl addL (List.replicate 8 0)
def sumsI (i : Nat) (v : List Int) : Prop := v.length = 8 ∧ ∀ j, (v.getD j 0).natAbs ≤ i
theorem sumsI_zero : sumsI 0 (List.replicate 8 0) := by
  refine ⟨rfl, fun j => ?_⟩
  rw [List.getD_eq_getElem?_getD, List.getElem?_replicate]
  split <;> simp
theorem sumsI_next {i : Nat} {v : List Int} (h : sumsI i v) (x : Int) : sumsI (i + 1) (addL v x) := by
  refine ⟨by simp [addL, h.1], fun j => ?_⟩
  have h1 := h.2 j
  have h2 := h.2 (x.natAbs - 1)
  unfold addL
  rw [List.getD_eq_getElem?_getD, List.getElem?_set]
  split
  · split
    · simp only [Option.getD_some]; split <;> omega
    · simp
  · rw [← List.getD_eq_getElem?_getD]; omega
theorem sumsM_len (xs : List Int) : (sumsM xs).length = 8 := by
  suffices h : ∀ (v : List Int), (xs.foldl addL v).length = v.length by rw [sumsM, h]; rfl
  induction xs with
  | nil => intro v; rfl
  | cons x xs ih => intro v; rw [List.foldl_cons, ih]; simp [addL]

theorem spec_l2Letter_is (a : Int) : spec_l2Letter.f a = some (letterB a) := by
  unfold spec_l2Letter.f
  rw [spec_l1In_is, spec_l1In_is]
  simp only [Option.bind_some]
  by_cases h : 1 ≤ a ∧ a ≤ 8
  · rw [if_pos (by simp [h])]; simp [letterB]; omega
  · rw [if_neg (by simpa using h)]; simp [letterB]; congr 1; rw [Bool.eq_iff_iff]; simp; omega

theorem spec_IsWord_is (xs : List Int) (hn : xs.length < 4611686018427387904) : EV (fun k => spec_IsWord.f k xs) (wordB xs) := by
  refine EV.scan (g := fun k i => spec_IsWord.l0 k xs i) xs letterB (decide (xs.length ≤ 24)) (fun i h r H1 H2 => ?_) ?_
  · refine EV.step (fun k => by rw [spec_IsWord.l0]) ?_
    rw [rd_nat _ _ h, w64 (x := (i : Int) + 1) (by omega) (by omega)]
    refine EV.pos (by omega) (EV.pos (by omega) (EV.by (spec_l2Letter_is _) ?_))
    exact EV.cases H1 (fun c => (EV.now _).eq (H2 (by simpa using c)).symm)
  · refine EV.step (fun k => by rw [spec_IsWord.l0]) ?_
    refine EV.neg (by omega) ((EV.now _).eq ?_)
    rw [Bool.eq_iff_iff]; simp; omega

theorem spec_l1Max_is (a b : Int) : spec_l1Max.f a b = some (if a > b then a else b) := by
  unfold spec_l1Max.f; split <;> rfl

theorem spec_l3Abs_is (a : Int) (h : -9223372036854775808 < a) (h' : a ≤ 9223372036854775807) : spec_l3Abs.f a = some (a.natAbs : Int) := by
  unfold spec_l3Abs.f
  rw [spec_l1Max_is, w64 (by omega) (by omega)]
  simp only [Option.bind_some]
  congr 1
  split <;> omega

theorem spec_l8Fits_is (g : Int) (xs : List Int) (hn : xs.length < 4611686018427387904) : EV (fun k => spec_l8Fits.f k g xs) (fitsB g xs) := by
  have no : EV (fun k => spec_l8Fits.j0 k g xs true) false := by
    refine EV.step (fun k => by rw [spec_l8Fits.j0]) ?_
    exact EV.pos rfl (EV.now _)
  unfold fitsB hasB
  refine EV.by (spec_l1In_is _ _ _) ?_
  by_cases h1 : 1 ≤ g ∧ g ≤ 2
  · refine EV.pos (by simpa using h1) (EV.bind (spec_IsWord_is xs hn) ?_)
    rw [show decide (1 ≤ g ∧ g ≤ 2) = true by simpa using h1, Bool.true_and]
    by_cases h2 : wordB xs = true
    · rw [h2]
      refine EV.step (fun k => by rw [spec_l8Fits.j0]) ?_
      refine EV.neg (by simp) ?_
      refine EV.scan (g := fun k i => spec_l8Fits.l0 k g xs i) xs (leB (2 * g)) true (fun i h r H1 H2 => ?_) ?_
      · have hx := letterB_of (all_getElem (wordB_of h2).1 i h)
        refine EV.step (fun k => by rw [spec_l8Fits.l0]) ?_
        rw [rd_nat _ _ h, w64 (x := (i : Int) + 1) (by omega) (by omega), w64 (x := 2 * g) (by omega) (by omega)]
        refine EV.pos (by omega) (EV.pos (by omega) (EV.by (spec_l3Abs_is _ (by omega) (by omega)) ?_))
        exact EV.cases (fun c => (EV.now _).eq (H2 (by simp [leB]; omega)).symm) (fun c => H1 (by simp [leB]; omega))
      · refine EV.step (fun k => by rw [spec_l8Fits.l0]) ?_
        exact EV.neg (by omega) (EV.now _)
    · rw [show wordB xs = false by simpa using h2, Bool.and_false]; exact no
  · rw [show decide (1 ≤ g ∧ g ≤ 2) = false by simpa using h1, Bool.false_and]
    exact EV.neg (by simpa using h1) no

theorem spec_LetterSums_is (xs : List Int) (hn : xs.length < 4611686018427387904) : EV (fun k => spec_LetterSums.f k xs) (if wordB xs = true then sumsM xs else []) := by
  refine EV.bind (spec_IsWord_is xs hn) ?_
  by_cases hw : wordB xs = true
  · refine EV.pos hw (EV.pos (by omega) ?_)
    rw [if_pos hw]
    have hxs := wordB_of hw
    refine EV.fold (g := fun k v i => spec_LetterSums.l0 k xs v i) xs addL id sumsI (fun i h v r hI H => ?_) (fun v hI => ?_) _ sumsI_zero
    · have hx := letterB_of (all_getElem hxs.1 i h)
      have hI' := sumsI_next hI xs[i]
      have hb := hI.2 (xs[i].natAbs - 1)
      have H := H hI'
      refine EV.step (fun k => by rw [spec_LetterSums.l0]) ?_
      rw [rd_nat _ _ h, w64 (x := (i : Int) + 1) (by omega) (by omega)]
      refine EV.pos (by omega) (EV.pos (by omega) ?_)
      by_cases hp : xs[i] > 0
      · rw [w64 (x := xs[i] - 1) (by omega) (by omega)]
        refine EV.pos hp (EV.pos (by omega) (EV.pos (by have := hI.1; omega) ?_))
        have e : (xs[i] - 1).toNat = xs[i].natAbs - 1 := by omega
        unfold rd
        rw [e, w64 (by omega) (by omega)]
        simpa only [addL, if_pos hp] using H
      · rw [w64 (x := -xs[i]) (by omega) (by omega), w64 (x := -xs[i] - 1) (by omega) (by omega)]
        refine EV.neg hp (EV.pos (by omega) (EV.pos (by have := hI.1; omega) ?_))
        have e : (-xs[i] - 1).toNat = xs[i].natAbs - 1 := by omega
        unfold rd
        rw [e, w64 (by omega) (by omega)]
        simpa only [addL, if_neg (show ¬ 0 < xs[i] from hp)] using H
    · refine EV.step (fun k => by rw [spec_LetterSums.l0]) ?_
      exact EV.neg (by omega) (EV.now _)
  · exact EV.neg hw ((EV.now _).eq (by rw [if_neg hw]))

def homM (g : Int) (xs : List Int) : List Int := if fitsB g xs = true then (sumsM xs).take (2 * g).toNat else []
theorem fitsB_of {g : Int} {xs : List Int} (h : fitsB g xs = true) : 1 ≤ g ∧ g ≤ 2 ∧ wordB xs = true := by
  simp only [fitsB, hasB, Bool.and_eq_true, decide_eq_true_iff] at h; exact ⟨h.1.1, h.1.2, h.2.2⟩
theorem spec_HomologyOf_is (g : Int) (xs : List Int) (hn : xs.length < 4611686018427387904) : EV (fun k => spec_HomologyOf.f k g xs) (homM g xs) := by
  unfold homM
  refine EV.bind (spec_l8Fits_is g xs hn) ?_
  by_cases h : fitsB g xs = true
  · have f := fitsB_of h
    refine EV.pos h (EV.bind (spec_LetterSums_is xs hn) ?_)
    rw [if_pos h, if_pos f.2.2, w64 (by omega) (by omega)]
    exact EV.pos (by omega) (EV.pos (by rw [sumsM_len]; omega) (EV.now _))
  · exact EV.neg h ((EV.now _).eq (by rw [if_neg h]))

theorem laws_toIntS_l0 (xs : List Int) (hn : xs.length < 4611686018427387904) : ∀ suf pre, xs = pre ++ suf → EV (fun k => laws_toIntS.l0 k xs (pre ++ List.replicate suf.length 0) (pre.length : Int)) xs := by
  intro suf
  induction suf with
  | nil =>
    intro pre h
    refine EV.step (fun k => by rw [laws_toIntS.l0]) ?_
    refine (EV.neg ?_ ((EV.now _).eq ?_))
    · subst h; simp
    · subst h; simp
  | cons x suf ih =>
    intro pre h
    have hl : pre.length < 4611686018427387904 := by subst h; simp at hn; omega
    have hlt : (pre.length : Int) < (xs.length : Int) := by subst h; exact lt_app ..
    have hx : rd xs (pre.length : Int) = x := by subst h; exact rd_app ..
    refine EV.step (fun k => by rw [laws_toIntS.l0]) ?_
    refine (EV.pos hlt (EV.pos (by omega) (EV.pos (by simp; omega) ?_)))
    rw [hx, up (x := x) hl, List.length_cons, List.replicate_succ, set_app _ _ _ _ _ (by simp)]
    have := ih (pre ++ [x]) (by simp [h])
    simpa using this
theorem laws_toIntS_is (xs : List Int) (hn : xs.length ≤ 1048576) : EV (fun k => laws_toIntS.f k xs) xs := by
  refine EV.pos (by omega) (EV.pos (by omega) ?_)
  exact laws_toIntS_l0 xs (by omega) xs [] rfl

theorem impl_within_is (a b c : Int) : impl_within.f a b c = some (decide (b ≤ a ∧ a ≤ c)) := by
  unfold impl_within.f
  by_cases h : a ≥ b
  · rw [if_pos h]; simp [show b ≤ a from h]
  · rw [if_neg h]; simp; omega

theorem impl_isLetter_is (a : Int) : impl_isLetter.f a = some (letterB a) := by
  unfold impl_isLetter.f
  rw [impl_within_is]
  by_cases h : a = 0
  · rw [if_pos h]; simp [letterB, h]
  · rw [if_neg h]; simp [letterB, h]

theorem impl_IsWord_is (xs : List Int) (hn : xs.length < 4611686018427387904) : EV (fun k => impl_IsWord.f k xs) (wordB xs) := by
  refine EV.scan (g := fun k i => impl_IsWord.l0 k xs xs (xs.length : Int) i) xs letterB (decide (xs.length ≤ 24)) (fun i h r H1 H2 => ?_) ?_
  · refine EV.step (fun k => by rw [impl_IsWord.l0]) ?_
    rw [rd_nat _ _ h, w64 (x := (i : Int) + 1) (by omega) (by omega)]
    refine EV.pos (by omega) (EV.pos (by omega) (EV.pos (by omega) (EV.by (impl_isLetter_is _) ?_)))
    exact EV.cases H1 (fun c => (EV.now _).eq (H2 (by simpa using c)).symm)
  · refine EV.step (fun k => by rw [impl_IsWord.l0]) ?_
    refine EV.neg (by omega) ((EV.now _).eq ?_)
    rw [Bool.eq_iff_iff]; simp; omega

theorem impl_size_is (a : Int) (h : -9223372036854775808 < a) (h' : a ≤ 9223372036854775807) : impl_size.f a = some (a.natAbs : Int) := by
  unfold impl_size.f mx
  rw [w64 (by omega) (by omega)]
  congr 1
  split <;> omega
theorem impl_size_some (a : Int) : ∃ r, impl_size.f a = some r := ⟨_, rfl⟩

theorem impl_hasLetters_is (xs : List Int) (m : Int) (hm : m < 9223372036854775807) (hn : xs.length < 4611686018427387904) (hw : ∀ x ∈ xs, (Lit.int .i64 x).wf = true) : EV (fun k => impl_hasLetters.f k xs m) (hasB m xs) := by
  by_cases lo : ∀ x ∈ xs, -9223372036854775808 < x
  · refine EV.scan (g := fun k i => impl_hasLetters.l0 k xs m xs (xs.length : Int) i) xs (leB m) (wordB xs) (fun i h r H1 H2 => ?_) ?_
    · have hx := wf64 (hw _ (List.getElem_mem h))
      have hx' := lo _ (List.getElem_mem h)
      refine EV.step (fun k => by rw [impl_hasLetters.l0]) ?_
      rw [rd_nat _ _ h, w64 (x := (i : Int) + 1) (by omega) (by omega)]
      refine EV.pos (by omega) (EV.pos (by omega) (EV.pos (by omega) (EV.by (impl_size_is _ hx' hx.2) ?_)))
      exact EV.cases (fun c => (EV.now _).eq (H2 (by simp [leB]; omega)).symm) (fun c => H1 (by simp [leB]; omega))
    · refine EV.step (fun k => by rw [impl_hasLetters.l0]) ?_
      exact EV.neg (by omega) (EV.bind (impl_IsWord_is xs hn) (EV.now _))
  · have no : wordB xs = false := by
      rw [Bool.eq_false_iff]
      intro c
      exact lo fun x hx => by have := letterB_of ((wordB_of c).1 x hx); omega
    have := EV.scan (g := fun k i => impl_hasLetters.l0 k xs m xs (xs.length : Int) i) xs (fun x => ((impl_size.f x).getD 0 ≤ m : Bool)) (wordB xs) (fun i h r H1 H2 => ?_) ?_
    · refine this.eq ?_
      rw [hasB, no, Bool.and_false, Bool.and_false]
    · obtain ⟨v, hv⟩ := impl_size_some xs[i]
      refine EV.step (fun k => by rw [impl_hasLetters.l0]) ?_
      rw [rd_nat _ _ h, w64 (x := (i : Int) + 1) (by omega) (by omega)]
      refine EV.pos (by omega) (EV.pos (by omega) (EV.pos (by omega) (EV.by hv ?_)))
      rw [hv] at H1 H2
      exact EV.cases (fun c => (EV.now _).eq (H2 (by simp; omega)).symm) (fun c => H1 (by simp; omega))
    · refine EV.step (fun k => by rw [impl_hasLetters.l0]) ?_
      exact EV.neg (by omega) (EV.bind (impl_IsWord_is xs hn) (EV.now _))

theorem impl_isGroupWord_is (g : Int) (xs : List Int) (hn : xs.length < 4611686018427387904) (hw : ∀ x ∈ xs, (Lit.int .i64 x).wf = true) : EV (fun k => impl_isGroupWord.f k g xs) (fitsB g xs) := by
  unfold fitsB
  refine EV.cases (fun h => ?_) (fun h => EV.cases (fun h' => ?_) (fun h' => ?_))
  · subst h; exact EV.bind (impl_hasLetters_is xs _ (by rw [w64 (by omega) (by omega)]; omega) hn hw) ((EV.now _).eq (by rw [w64 (by omega) (by omega)]; simp))
  · subst h'; exact EV.bind (impl_hasLetters_is xs _ (by rw [w64 (by omega) (by omega)]; omega) hn hw) ((EV.now _).eq (by rw [w64 (by omega) (by omega)]; simp))
  · refine (EV.now _).eq ?_
    rw [show decide (1 ≤ g ∧ g ≤ 2) = false by simp; omega, Bool.false_and]

theorem impl_LetterSums_is (xs : List Int) (hn : xs.length < 4611686018427387904) : EV (fun k => impl_LetterSums.f k xs) (if wordB xs = true then sumsM xs else []) := by
  refine EV.bind (impl_IsWord_is xs hn) ?_
  by_cases hw : wordB xs = true
  · refine EV.pos hw (EV.pos (by omega) ?_)
    rw [if_pos hw]
    have hxs := wordB_of hw
    refine EV.fold (g := fun k v i => impl_LetterSums.l0 k v xs (xs.length : Int) i) xs addL id sumsI (fun i h v r hI H => ?_) (fun v hI => ?_) _ sumsI_zero
    · have hx := letterB_of (all_getElem hxs.1 i h)
      have hI' := sumsI_next hI xs[i]
      have hb := hI.2 (xs[i].natAbs - 1)
      have H := H hI'
      refine EV.step (fun k => by rw [impl_LetterSums.l0]) ?_
      rw [rd_nat _ _ h, w64 (x := (i : Int) + 1) (by omega) (by omega)]
      refine EV.pos (by omega) (EV.pos (by omega) (EV.pos (by omega) ?_))
      by_cases hp : xs[i] > 0
      · rw [w64 (x := xs[i] - 1) (by omega) (by omega)]
        refine EV.pos hp (EV.pos (by omega) (EV.pos (by have := hI.1; omega) ?_))
        have e : (xs[i] - 1).toNat = xs[i].natAbs - 1 := by omega
        unfold rd
        rw [e, w64 (by omega) (by omega)]
        simpa only [addL, if_pos hp] using H
      · rw [w64 (x := -xs[i]) (by omega) (by omega), w64 (x := -xs[i] - 1) (by omega) (by omega)]
        refine EV.neg hp (EV.pos (by omega) (EV.pos (by have := hI.1; omega) ?_))
        have e : (-xs[i] - 1).toNat = xs[i].natAbs - 1 := by omega
        unfold rd
        rw [e, w64 (by omega) (by omega)]
        simpa only [addL, if_neg (show ¬ 0 < xs[i] from hp)] using H
    · refine EV.step (fun k => by rw [impl_LetterSums.l0]) ?_
      exact EV.neg (by omega) (EV.now _)
  · exact EV.neg hw ((EV.now _).eq (by rw [if_neg hw]))

theorem impl_HomologyOf_is (g : Int) (xs : List Int) (hn : xs.length < 4611686018427387904) (hw : ∀ x ∈ xs, (Lit.int .i64 x).wf = true) : EV (fun k => impl_HomologyOf.f k g xs) (homM g xs) := by
  unfold homM
  refine EV.bind (impl_isGroupWord_is g xs hn hw) ?_
  by_cases h : fitsB g xs = true
  · have f := fitsB_of h
    refine EV.pos h (EV.bind (impl_LetterSums_is xs hn) ?_)
    rw [if_pos h, if_pos f.2.2, w64 (by omega) (by omega)]
    exact EV.pos (by omega) (EV.pos (by rw [sumsM_len]; omega) (EV.now _))
  · exact EV.neg h ((EV.now _).eq (by rw [if_neg h]))

theorem laws_eqIntS_l0 (xs ys : List Int) (hn : xs.length < 4611686018427387904) : ∀ (suf suf' pre : List Int), pre.length + suf.length = xs.length → pre.length + suf'.length = ys.length → suf.length = suf'.length → xs.drop pre.length = suf → ys.drop pre.length = suf' →
    EV (fun k => laws_eqIntS.l0 k xs ys (pre.length : Int)) (decide (suf = suf')) := by
  intro suf
  induction suf with
  | nil =>
    intro suf' pre h1 h2 h3 h4 h5
    have : suf' = [] := List.eq_nil_of_length_eq_zero (by simpa using h3.symm)
    subst this
    refine EV.step (fun k => by rw [laws_eqIntS.l0]) ?_
    refine (EV.neg ?_ ((EV.now _).eq (by simp)))
    simp at h1; omega
  | cons x suf ih =>
    intro suf' pre h1 h2 h3 h4 h5
    obtain ⟨y, suf', rfl⟩ : ∃ y t, suf' = y :: t := by
      cases suf' with
      | nil => simp at h3
      | cons y t => exact ⟨y, t, rfl⟩
    simp only [List.length_cons] at h1 h2 h3
    have hl : pre.length < 4611686018427387904 := by omega
    have hx : rd xs (pre.length : Int) = x := by
      rw [rd_nat _ _ (by omega)]
      have := List.getElem_drop (xs := xs) (i := pre.length) (j := 0) (h := by simp; omega)
      simp only [h4] at this; simpa using this.symm
    have hy : rd ys (pre.length : Int) = y := by
      rw [rd_nat _ _ (by omega)]
      have := List.getElem_drop (xs := ys) (i := pre.length) (j := 0) (h := by simp; omega)
      simp only [h5] at this; simpa using this.symm
    refine EV.step (fun k => by rw [laws_eqIntS.l0]) ?_
    refine (EV.pos (by omega) (EV.pos (by omega) (EV.pos (by omega) ?_)))
    rw [hx, hy, up (x := x) hl]
    by_cases hs : x = y
    · refine EV.pos hs ((ih suf' _ (by simp; omega) (by simp; omega) (by omega) ?_ ?_).eq (by simp [hs]))
      · rw [List.length_append, ← List.drop_drop, h4]; rfl
      · rw [List.length_append, ← List.drop_drop, h5]; rfl
    · exact (EV.neg hs (EV.now _)).eq (by simp [hs])
theorem laws_eqIntS_is (xs ys : List Int) (hn : xs.length < 4611686018427387904) : EV (fun k => laws_eqIntS.f k xs ys) (decide (xs = ys)) := by
  by_cases h : xs.length = ys.length
  · exact EV.pos (by omega) (laws_eqIntS_l0 xs ys hn xs ys [] (by simp) (by simp) h rfl rfl)
  · exact (EV.neg (by omega) (EV.now _)).eq (by simp; intro e; exact h (by rw [e]))
theorem laws_eqIntS_self (xs : List Int) (hn : xs.length < 4611686018427387904) : EV (fun k => laws_eqIntS.f k xs xs) true := (laws_eqIntS_is xs xs hn).eq (by simp)

def marks : Nat → Int → List Int
  | 0, _ => []
  | n + 1, k => k :: marks n (k + 1)
theorem marks_length (n : Nat) : ∀ k, (marks n k).length = n := by
  induction n with
  | zero => intro k; rfl
  | succ n ih => intro k; simp [marks, ih]

theorem laws_markIntS_l0 : ∀ (suf pre : List Int) (k : Int), pre.length + suf.length < 4611686018427387904 → 0 ≤ k → k + suf.length < 4611686018427387904 →
    EV (fun r => laws_markIntS.l0 r (pre ++ suf) k (pre.length : Int)) (k + suf.length, pre ++ marks suf.length k) := by
  intro suf
  induction suf with
  | nil =>
    intro pre k h1 h2 h3
    refine EV.step (fun r => by rw [laws_markIntS.l0]) ?_
    exact EV.neg (by simp) ((EV.now _).eq (by simp [marks]))
  | cons x suf ih =>
    intro pre k h1 h2 h3
    simp only [List.length_cons] at h1 h3
    refine EV.step (fun r => by rw [laws_markIntS.l0]) ?_
    refine EV.pos (lt_app ..) (EV.pos (by omega) ?_)
    rw [set_app _ _ _ _ _ (by simp), up (x := k) (by omega), w64 (by omega) (by omega)]
    have := ih (pre ++ [k]) (k + 1) (by simp; omega) (by omega) (by omega)
    simp only [List.append_assoc, List.cons_append, List.nil_append] at this
    refine this.eq ?_
    simp [marks]; omega
theorem laws_markIntS_is (xs : List Int) (k : Int) (h1 : xs.length < 2305843009213693952) (h2 : 0 ≤ k) (h3 : k < 2305843009213693952) : EV (fun r => laws_markIntS.f r xs k) (k + xs.length, marks xs.length k) :=
  laws_markIntS_l0 xs [] k (by simp; omega) h2 (by omega)

theorem laws_heldIntS_l0 : ∀ (n : Nat) (pre : List Int) (k : Int), pre.length + n < 4611686018427387904 → 0 ≤ k → k + n < 4611686018427387904 →
    EV (fun r => laws_heldIntS.l0 r (pre ++ marks n k) k (pre.length : Int)) (k + n) := by
  intro n
  induction n with
  | zero =>
    intro pre k h1 h2 h3
    refine EV.step (fun r => by rw [laws_heldIntS.l0]) ?_
    exact EV.neg (by simp [marks]) ((EV.now _).eq (by simp))
  | succ n ih =>
    intro pre k h1 h2 h3
    refine EV.step (fun r => by rw [laws_heldIntS.l0]) ?_
    rw [marks]
    refine EV.pos (lt_app ..) (EV.pos (by omega) (EV.pos (rd_app ..) ?_))
    rw [up (x := k) (by omega), w64 (by omega) (by omega)]
    have := ih (pre ++ [k]) (k + 1) (by simp; omega) (by omega) (by omega)
    simp only [List.append_assoc, List.cons_append, List.nil_append] at this
    refine this.eq (by omega)
theorem laws_heldIntS_is (n : Nat) (k : Int) (h1 : n < 2305843009213693952) (h2 : 0 ≤ k) (h3 : k < 2305843009213693952) : EV (fun r => laws_heldIntS.f r (marks n k) k) (k + n) :=
  laws_heldIntS_l0 n [] k (by simp; omega) h2 (by omega)

theorem both (g : Int) (wg : (Lit.int .i64 g).wf = true) (xs : List Int) (hw : ∀ x ∈ xs, (Lit.int .i64 x).wf = true) (n : xs.length ≤ 1048576) :
    ∃ R : List Int, EV (fun k => spec_HomologyOf.f k g xs) R ∧ EV (fun k => impl_HomologyOf.f k g xs) R ∧ R.length ≤ 4194304 := by
  refine ⟨homM g xs, spec_HomologyOf_is g xs (by omega), impl_HomologyOf_is g xs (by omega) hw, ?_⟩
  unfold homM
  split
  · rw [List.length_take, sumsM_len]; omega
  · simp

theorem FnExactHomologyOf : laws_FnExactHomologyOf.Pure := by
  intro a0 l1 w0 x1 y1 w1
  refine EV.rounds ?_
  refine EV.cases (fun _ => EV.now _) fun g1 => ?_
  have n1 : l1.length ≤ 1048576 := by omega
  obtain ⟨R, S, I, hR⟩ := both a0 w0 l1 w1 n1
  repeat (first
    | exact EV.now _
    | (refine EV.bind (laws_toIntS_is _ (by first | omega | (simp only [marks_length]; omega))) ?_)
    | (refine EV.bind S ?_)
    | (refine EV.bind I ?_)
    | (refine EV.bind (laws_eqIntS_self _ (by first | omega | (simp only [marks_length]; omega))) ?_)
    | (refine EV.bind (laws_markIntS_is _ _ (by first | omega | (simp only [marks_length]; omega)) (by first | omega | (simp only [marks_length]; omega)) (by first | omega | (simp only [marks_length]; omega))) ?_)
    | (refine EV.bind (laws_heldIntS_is _ _ (by first | omega | (simp only [marks_length]; omega)) (by first | omega | (simp only [marks_length]; omega)) (by first | omega | (simp only [marks_length]; omega))) ?_)
    | (refine EV.step (fun k => by rw [laws_FnExactHomologyOf.j0]) ?_)
    | (refine EV.pos rfl ?_)
    | (refine EV.neg (by first | omega | (simp; done)) ?_)
    | (refine EV.pos (by first | omega | (simp; done)) ?_)
    | dsimp only)

end Go.Proofs.Ytkhbhbplfgggkaa.Pure
