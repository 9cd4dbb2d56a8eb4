/- Pure side of FnExactBranchCover: the printed functions of the program and of the reference answer alike at every input that the statement takes; no condition beyond the printed statement's bounds. -/
import Derived.Test.YthhgecgbofcbeaaPFnExactBranchCoverx12
import Derived.Test.YthhgecgbofcbeaaWSized
set_option linter.unusedVariables false
set_option linter.unusedSimpArgs false
set_option linter.unnecessarySimpa false
set_option maxRecDepth 10000
/-- the printed row calls the print's word by this name -/
abbrev Go.Proofs.Ythhgecgbofcbeaa.PrintWords.sized_ints := @Go.Proofs.YthhgecgbofcbeaaW.PrintWords.sized_ints
namespace Go.Proofs.Ythhgecgbofcbeaa.Pure
open Go.RowKit Go.Proofs.Ythhgecgbofcbeaa.PFnExactBranchCover Go.Proofs.YthhgecgbofcbeaaW.PrintWords Go.Proofs.YthhgecgbofcbeaaW.PrintLast Go.Proofs.YthhgecgbofcbeaaW.PrintMore

/-! ### Base: words of our own, of no program -/
section
theorem w64 {x : Int} (h1 : -9223372036854775808 ≤ x) (h2 : x ≤ 9223372036854775807) : wrap64 x = x := by
  unfold wrap64; omega
theorem wf64 {x : Int} (h : (Lit.int .i64 x).wf = true) : -9223372036854775808 ≤ x ∧ x ≤ 9223372036854775807 := by
  simp only [Lit.wf, IntKind.min, IntKind.max, IntKind.signed, IntKind.bits, Bool.and_eq_true, decide_eq_true_eq, if_true] at h
  omega
/-- from some number of rounds on it answers r -/
structure EV {α : Type} (g : Nat → Option α) (r : α) : Prop where mk :: (out : ∃ K, ∀ k, K ≤ k → g k = some r)
theorem EV.now {α : Type} (r : α) : EV (fun _ => some r) r := ⟨0, fun _ _ => rfl⟩
theorem EV.rounds {α : Type} {g : Nat → Option α} {r : α} (h : EV g r) : ∃ k, g k = some r := by
  obtain ⟨K, h⟩ := h
  exact ⟨K, h K (Nat.le_refl _)⟩
theorem EV.bind {α β : Type} {g : Nat → Option α} {f : Nat → α → Option β} {a : α} {r : β} (h : EV g a) (k : EV (fun n => f n a) r) : EV (fun n => (g n).bind (f n)) r := by
  obtain ⟨K, h⟩ := h
  obtain ⟨K', k⟩ := k
  refine ⟨max K K', fun n hn => ?_⟩
  have h1 := h n (by omega)
  have h2 := k n (by omega)
  simp only [h1, Option.bind_some]
  exact h2
theorem EV.step {α : Type} {g f : Nat → Option α} {r : α} (h : ∀ k, g (k + 1) = f k) (k : EV f r) : EV g r := by
  obtain ⟨K, k⟩ := k
  refine ⟨K + 1, fun n hn => ?_⟩
  obtain ⟨m, rfl⟩ : ∃ m, n = m + 1 := ⟨n - 1, by omega⟩
  rw [h]
  exact k m (by omega)
theorem EV.congr {α : Type} {g f : Nat → Option α} {r : α} (h : ∀ k, g k = f k) (k : EV f r) : EV g r := by
  obtain ⟨K, k⟩ := k
  exact ⟨K, fun n hn => (h n).trans (k n hn)⟩
theorem EV.pos {α : Type} {c : Prop} [Decidable c] {a b : Nat → Option α} {r : α} (h : c) (k : EV a r) : EV (fun n => if c then a n else b n) r :=
  EV.congr (fun n => if_pos h) k
theorem EV.neg {α : Type} {c : Prop} [Decidable c] {a b : Nat → Option α} {r : α} (h : ¬ c) (k : EV b r) : EV (fun n => if c then a n else b n) r :=
  EV.congr (fun n => if_neg h) k
theorem EV.cases {α : Type} {c : Prop} [Decidable c] {a b : Nat → Option α} {r : α} (h : c → EV a r) (h' : ¬ c → EV b r) : EV (fun n => if c then a n else b n) r := by
  by_cases hc : c
  · exact EV.pos hc (h hc)
  · exact EV.neg hc (h' hc)
/-- a callee without rounds -/
theorem EV.by {α β : Type} {g : Option α} {f : Nat → α → Option β} {a : α} {r : β} (h : g = some a) (k : EV (fun n => f n a) r) : EV (fun n => g.bind (f n)) r := by
  subst h; exact k
theorem EV.is {α : Type} {g : Option α} {r : α} (h : g = some r) : EV (fun _ => g) r := ⟨0, fun _ _ => h⟩
theorem EV.eq {α : Type} {g : Nat → Option α} {r r' : α} (h : EV g r) (e : r = r') : EV g r' := e ▸ h
theorem rd_app (pre : List Int) (x : Int) (suf : List Int) : rd (pre ++ x :: suf) (pre.length : Int) = x := by
  simp [rd]
theorem rd_nat (xs : List Int) (i : Nat) (h : i < xs.length) : rd xs (i : Int) = xs[i] := by
  simp [rd, h]
theorem set_app {α : Type} (pre : List α) (x y : α) (suf : List α) (n : Nat) (hn : n = pre.length) : (pre ++ x :: suf).set n y = pre ++ y :: suf := by
  subst hn; simp
end
def smallB (x : Int) : Bool := decide (-1000 ≤ x ∧ x ≤ 1000)
/-- one index on -/
theorem up {α : Type} {x : α} {pre : List α} (h : pre.length < 4611686018427387904) : wrap64 ((pre.length : Int) + 1) = ((pre ++ [x]).length : Int) := by
  rw [w64 (by omega) (by omega)]; simp
theorem lt_app {α : Type} (pre : List α) (x : α) (suf : List α) : (pre.length : Int) < ((pre ++ x :: suf).length : Int) := by simp; omega
def classB (g : Int) (xs : List Int) : Bool := decide (1 ≤ g ∧ g ≤ 3) && (decide ((xs.length : Int) = 2 * g) && xs.all smallB)
theorem EV.uniq {α : Type} {g : Nat → Option α} {r r' : α} (h : EV g r) (h' : EV g r') : r = r' := by
  obtain ⟨K, h⟩ := h
  obtain ⟨K', h'⟩ := h'
  have a := h (max K K') (by omega)
  have b := h' (max K K') (by omega)
  rw [a] at b; exact Option.some.inj b
/-- from some number of rounds on -/
def Evt (P : Nat → Prop) : Prop := ∃ K, ∀ k, K ≤ k → P k
theorem Evt.and {P Q : Nat → Prop} (h : Evt P) (h' : Evt Q) : Evt (fun k => P k ∧ Q k) := by
  obtain ⟨K, h⟩ := h
  obtain ⟨K', h'⟩ := h'
  exact ⟨max K K', fun k hk => ⟨h k (by omega), h' k (by omega)⟩⟩
theorem Evt.const {p : Prop} (h : p) : Evt (fun _ => p) := ⟨0, fun _ _ => h⟩
theorem EV.evt {α : Type} {g : Nat → Option α} {r : α} (h : EV g r) : Evt (fun k => g k = some r) := h.out
theorem Evt.imp {P Q : Nat → Prop} (h : Evt P) (f : ∀ k, P k → Q k) : Evt Q := by
  obtain ⟨K, h⟩ := h
  exact ⟨K, fun k hk => f k (h k hk)⟩
theorem Evt.rounds {P : Nat → Prop} (h : Evt P) : ∃ k, P k := by
  obtain ⟨K, h⟩ := h
  exact ⟨K, h K (Nat.le_refl _)⟩
theorem EV.mono {α : Type} {g : Nat → Option α} (hg : ∀ k, LeO (g k) (g (k + 1))) {k : Nat} {r : α} (h : g k = some r) : EV g r := ⟨k, fun _ hk => at_rounds hg hk h⟩

theorem rdL_app (pre : List (List Int)) (x : List Int) (suf : List (List Int)) : rd_L1 (pre ++ x :: suf) (pre.length : Int) = x := by
  simp [rd_L1]
theorem rdL_nat (xs : List (List Int)) (i : Nat) (h : i < xs.length) : rd_L1 xs (i : Int) = xs[i] := by
  simp [rd_L1, h]

/-- a loop that looks at each member and answers early, or goes on -/
theorem EV.scan {α : Type} {g : Nat → Int → Option Bool} (xs : List α) (p : α → Bool) (fin : Bool)
    (hs : ∀ (i : Nat) (h : i < xs.length) (r : Bool), (p xs[i] = true → EV (fun k => g k ((i : Int) + 1)) r) → (p xs[i] = false → r = false) → EV (fun k => g k (i : Int)) r)
    (hf : EV (fun k => g k (xs.length : Int)) fin) : EV (fun k => g k 0) (xs.all p && fin) := by
  suffices h : ∀ (n i : Nat), i + n = xs.length → EV (fun k => g k (i : Int)) ((xs.drop i).all p && fin) by
    have := h xs.length 0 (by omega)
    simpa using this
  intro n
  induction n with
  | zero =>
    intro i hi
    have e : i = xs.length := by omega
    subst e
    simpa using hf
  | succ n ih =>
    intro i hi
    have hlt : i < xs.length := by omega
    have e : xs.drop i = xs[i] :: xs.drop (i + 1) := List.drop_eq_getElem_cons hlt
    rw [e, List.all_cons]
    refine hs i hlt _ (fun hp => ?_) (fun hp => by simp [hp])
    rw [hp, Bool.true_and]
    exact_mod_cast ih (i + 1) (by omega)
/-- what a loop over the members answers: the state is carried on, or an answer is given early -/
def runM {α σ ρ : Type} (f : σ → α → σ ⊕ ρ) (fin : σ → ρ) : σ → List α → ρ
  | s, [] => fin s
  | s, x :: xs => (match f s x with
    | .inl s' => runM f fin s' xs
    | .inr r => r)
theorem EV.run {α σ ρ : Type} {g : Nat → σ → Int → Option ρ} (xs : List α) (f : σ → α → σ ⊕ ρ) (fin : σ → ρ) (I : Nat → σ → Prop)
    (hs : ∀ (i : Nat) (h : i < xs.length) (s : σ) (r : ρ), I i s → (∀ s', f s xs[i] = .inl s' → I (i + 1) s' → EV (fun k => g k s' ((i : Int) + 1)) r) → (∀ a, f s xs[i] = .inr a → r = a) → EV (fun k => g k s (i : Int)) r)
    (hf : ∀ s, I xs.length s → EV (fun k => g k s (xs.length : Int)) (fin s)) : ∀ s, I 0 s → EV (fun k => g k s 0) (runM f fin s xs) := by
  suffices h : ∀ (n i : Nat), i + n = xs.length → ∀ s, I i s → EV (fun k => g k s (i : Int)) (runM f fin s (xs.drop i)) by
    intro s hI
    have := h xs.length 0 (by omega) s hI
    simpa using this
  intro n
  induction n with
  | zero =>
    intro i hi s hI
    have e : i = xs.length := by omega
    subst e
    simpa [runM] using hf s hI
  | succ n ih =>
    intro i hi s hI
    have hlt : i < xs.length := by omega
    have e : xs.drop i = xs[i] :: xs.drop (i + 1) := List.drop_eq_getElem_cons hlt
    rw [e]
    refine hs i hlt s _ hI (fun s' h' hI' => ?_) (fun a ha => by simp [runM, ha])
    have := ih (i + 1) (by omega) s' hI'
    simp only [runM, h']
    exact_mod_cast this
/-- a fold over the members -/
theorem EV.fold {α σ ρ : Type} {g : Nat → σ → Int → Option ρ} (xs : List α) (f : σ → α → σ) (fin : σ → ρ) (I : Nat → σ → Prop)
    (hs : ∀ (i : Nat) (h : i < xs.length) (s : σ) (r : ρ), I i s → (I (i + 1) (f s xs[i]) → EV (fun k => g k (f s xs[i]) ((i : Int) + 1)) r) → EV (fun k => g k s (i : Int)) r)
    (hf : ∀ s, I xs.length s → EV (fun k => g k s (xs.length : Int)) (fin s)) : ∀ s, I 0 s → EV (fun k => g k s 0) (fin (xs.foldl f s)) := by
  suffices h : ∀ (n i : Nat), i + n = xs.length → ∀ s, I i s → EV (fun k => g k s (i : Int)) (fin ((xs.drop i).foldl f s)) by
    intro s hI
    have := h xs.length 0 (by omega) s hI
    simpa using this
  intro n
  induction n with
  | zero =>
    intro i hi s hI
    have e : i = xs.length := by omega
    subst e
    simpa using hf s hI
  | succ n ih =>
    intro i hi s hI
    have hlt : i < xs.length := by omega
    have e : xs.drop i = xs[i] :: xs.drop (i + 1) := List.drop_eq_getElem_cons hlt
    rw [e, List.foldl_cons]
    refine hs i hlt s _ hI (fun hI' => ?_)
    exact_mod_cast ih (i + 1) (by omega) _ hI'
/-- a loop that changes each member of a list once, in order -/
theorem EV.zip {α β ρ : Type} {g : Nat → List α → Int → Option ρ} (upd : α → β → α) (t : List α) (x : List β) (hl : t.length = x.length) (r : ρ)
    (hs : ∀ (i : Nat) (h : i < t.length) (h' : i < x.length) (s : List α), s.length = t.length → s[i]? = some t[i] → EV (fun k => g k (s.set i (upd t[i] x[i])) ((i : Int) + 1)) r → EV (fun k => g k s (i : Int)) r)
    (hf : EV (fun k => g k (List.zipWith upd t x) (t.length : Int)) r) : EV (fun k => g k t 0) r := by
  suffices h : ∀ (n i : Nat), i + n = t.length → EV (fun k => g k (List.zipWith upd (t.take i) (x.take i) ++ t.drop i) (i : Int)) r by
    have := h t.length 0 (by omega)
    simpa using this
  intro n
  induction n with
  | zero =>
    intro i hi
    have e : i = t.length := by omega
    subst e
    rw [List.take_length, List.drop_length, List.append_nil, hl, List.take_length, ← hl]
    exact hf
  | succ n ih =>
    intro i hi
    have h1 : i < t.length := by omega
    have h2 : i < x.length := by omega
    have e : t.drop i = t[i] :: t.drop (i + 1) := List.drop_eq_getElem_cons h1
    have hz : (List.zipWith upd (t.take i) (x.take i)).length = i := by simp; omega
    refine hs i h1 h2 _ (by simp; omega) ?_ ?_
    · rw [List.getElem?_append_right (by omega), hz, Nat.sub_self, e]; rfl
    · have := ih (i + 1) (by omega)
      rw [e, set_app _ _ _ _ _ hz.symm]
      have e2 : List.zipWith upd (t.take (i + 1)) (x.take (i + 1)) = List.zipWith upd (t.take i) (x.take i) ++ [upd t[i] x[i]] := by
        rw [List.take_succ_eq_append_getElem h1, List.take_succ_eq_append_getElem h2, List.zipWith_append (by simp; omega)]; rfl
      rw [e2, List.append_assoc, List.singleton_append] at this
      exact_mod_cast this
/-- counting up to n, the state told by the count -/
theorem EV.count {σ ρ : Type} {g : Nat → σ → Int → Option ρ} (n : Nat) (f : Nat → σ) (r : ρ)
    (hs : ∀ i, i < n → EV (fun k => g k (f (i + 1)) ((i : Int) + 1)) r → EV (fun k => g k (f i) (i : Int)) r)
    (hf : EV (fun k => g k (f n) (n : Int)) r) : EV (fun k => g k (f 0) 0) r := by
  suffices h : ∀ (m i : Nat), i + m = n → EV (fun k => g k (f i) (i : Int)) r by exact h n 0 (by omega)
  intro m
  induction m with
  | zero => intro i hi; have : i = n := by omega
            subst this; exact hf
  | succ m ih => intro i hi; exact hs i (by omega) (by exact_mod_cast ih (i + 1) (by omega))
/-- counting up to n with an early answer -/
theorem EV.countB {g : Nat → Int → Option Bool} (n : Nat) (p : Nat → Bool) (fin : Bool)
    (hs : ∀ (i : Nat) (h : i < n) (r : Bool), (p i = true → EV (fun k => g k ((i : Int) + 1)) r) → (p i = false → r = false) → EV (fun k => g k (i : Int)) r)
    (hf : EV (fun k => g k (n : Int)) fin) : EV (fun k => g k 0) ((List.range n).all p && fin) := by
  refine EV.scan (List.range n) p fin (fun i h r H1 H2 => ?_) (by rw [List.length_range]; exact hf)
  rw [List.getElem_range] at H1 H2
  exact hs i (by simpa using h) r H1 H2
/-- counting up to n with an early answer, into what comes behind -/
theorem EV.countC {ρ : Type} {g : Nat → Int → Option ρ} (n : Nat) (p : Nat → Bool) (r early : ρ)
    (hs : ∀ i, i < n → (p i = true → EV (fun k => g k ((i : Int) + 1)) r) → (p i = false → r = early) → EV (fun k => g k (i : Int)) r)
    (hf : (List.range n).all p = true → EV (fun k => g k (n : Int)) r) (he : (List.range n).all p = false → r = early) : EV (fun k => g k 0) r := by
  suffices h : ∀ (m i : Nat), i + m = n → (∀ j, j < i → p j = true) → EV (fun k => g k (i : Int)) r by exact h n 0 (by omega) (fun j hj => by omega)
  intro m
  induction m with
  | zero =>
    intro i hi ha
    have : i = n := by omega
    subst this
    exact hf (by rw [List.all_eq_true]; intro x hx; exact ha x (List.mem_range.1 hx))
  | succ m ih =>
    intro i hi ha
    refine hs i (by omega) (fun hp => ?_) (fun hp => he ?_)
    · have := ih (i + 1) (by omega) (fun j hj => by
        by_cases e : j = i
        · rw [e]; exact hp
        · exact ha j (by omega))
      exact_mod_cast this
    · rw [List.all_eq_false]
      exact ⟨i, List.mem_range.2 (by omega), by simp [hp]⟩
/-- looking at each member with an early answer, into what comes behind -/
theorem EV.scanC {α ρ : Type} {g : Nat → Int → Option ρ} (xs : List α) (p : α → Bool) (r early : ρ)
    (hs : ∀ (i : Nat) (h : i < xs.length), (p xs[i] = true → EV (fun k => g k ((i : Int) + 1)) r) → (p xs[i] = false → r = early) → EV (fun k => g k (i : Int)) r)
    (hf : xs.all p = true → EV (fun k => g k (xs.length : Int)) r) (he : xs.all p = false → r = early) : EV (fun k => g k 0) r := by
  have e : xs.all p = (List.range xs.length).all (fun i => (xs[i]?.map p).getD true) := by
    rw [Bool.eq_iff_iff, List.all_eq_true, List.all_eq_true]
    constructor
    · intro h i hi
      have := List.mem_range.1 hi
      simpa [this] using h _ (List.getElem_mem this)
    · intro h x hx
      obtain ⟨i, hi, rfl⟩ := List.mem_iff_getElem.1 hx
      have := h i (List.mem_range.2 hi)
      simpa [hi] using this
  rw [e] at hf he
  refine EV.countC xs.length _ r early (fun i hi H1 H2 => ?_) hf he
  exact hs i hi (fun h => H1 (by simpa [hi] using h)) (fun h => H2 (by simpa [hi] using h))
theorem wrap_01 : wrap64 ((0 : Int) + 1) = 1 := by rw [w64 (by omega) (by omega)]; rfl
theorem wrap_11 : wrap64 ((1 : Int) + 1) = 2 := by rw [w64 (by omega) (by omega)]; rfl
theorem wrap_1 : wrap64 1 = 1 := w64 (by omega) (by omega)
/-- a fold over the members, into what comes behind -/
theorem EV.foldC {α σ ρ : Type} {g : Nat → σ → Int → Option ρ} (xs : List α) (f : σ → α → σ) (I : Nat → σ → Prop) (r : ρ)
    (hs : ∀ (i : Nat) (h : i < xs.length) (s : σ), I i s → (I (i + 1) (f s xs[i]) → EV (fun k => g k (f s xs[i]) ((i : Int) + 1)) r) → EV (fun k => g k s (i : Int)) r)
    (s : σ) (hI : I 0 s) (hf : I xs.length (xs.foldl f s) → EV (fun k => g k (xs.foldl f s) (xs.length : Int)) r) : EV (fun k => g k s 0) r := by
  suffices h : ∀ (n i : Nat), i + n = xs.length → ∀ s, I i s → (I xs.length ((xs.drop i).foldl f s) → EV (fun k => g k ((xs.drop i).foldl f s) (xs.length : Int)) r) → EV (fun k => g k s (i : Int)) r by
    have := h xs.length 0 (by omega) s hI (by simpa using hf)
    simpa using this
  intro n
  induction n with
  | zero =>
    intro i hi s hI hf
    have e : i = xs.length := by omega
    subst e
    simpa using hf (by simpa using hI)
  | succ n ih =>
    intro i hi s hI hf
    have hlt : i < xs.length := by omega
    have e : xs.drop i = xs[i] :: xs.drop (i + 1) := List.drop_eq_getElem_cons hlt
    rw [e, List.foldl_cons] at hf
    refine hs i hlt s hI (fun hI' => ?_)
    exact_mod_cast ih (i + 1) (by omega) _ hI' hf

def letterB (x : Int) : Bool := decide (-8 ≤ x ∧ x ≤ 8 ∧ x ≠ 0)
def wordB (xs : List Int) : Bool := xs.all letterB && decide (xs.length ≤ 24)
theorem letterB_of {x : Int} (h : letterB x = true) : -8 ≤ x ∧ x ≤ 8 ∧ x ≠ 0 := by simpa [letterB] using h
theorem wordB_of {xs : List Int} (h : wordB xs = true) : (∀ x ∈ xs, letterB x = true) ∧ xs.length ≤ 24 := by simpa [wordB] using h
def leB (m : Int) (x : Int) : Bool := decide ((x.natAbs : Int) ≤ m)
def hasB (m : Int) (xs : List Int) : Bool := xs.all (leB m) && wordB xs
def fitsB (g : Int) (xs : List Int) : Bool := decide (1 ≤ g ∧ g ≤ 2) && hasB (2 * g) xs
theorem all_getElem {α : Type} {p : α → Bool} {xs : List α} (h : ∀ x ∈ xs, p x = true) (i : Nat) (hi : i < xs.length) : p xs[i] = true := h _ (List.getElem_mem hi)
/-- one letter counted -/
def addL (v : List Int) (x : Int) : List Int := v.set (x.natAbs - 1) (if 0 < x then v.getD (x.natAbs - 1) 0 + 1 else v.getD (x.natAbs - 1) 0 - 1)
def sumsM (xs : List Int) : List Int := xs.foldl addL (List.replicate 8 0)
def sumsI (i : Nat) (v : List Int) : Prop := v.length = 8 ∧ ∀ j, (v.getD j 0).natAbs ≤ i
theorem sumsI_zero : sumsI 0 (List.replicate 8 0) := by
  refine ⟨rfl, fun j => ?_⟩
  rw [List.getD_eq_getElem?_getD, List.getElem?_replicate]
  split <;> simp
theorem sumsI_next {i : Nat} {v : List Int} (h : sumsI i v) (x : Int) : sumsI (i + 1) (addL v x) := by
  refine ⟨by simp [addL, h.1], fun j => ?_⟩
  have h1 := h.2 j
  have h2 := h.2 (x.natAbs - 1)
  unfold addL
  rw [List.getD_eq_getElem?_getD, List.getElem?_set]
  split
  · split
    · simp only [Option.getD_some]; split <;> omega
    · simp
  · rw [← List.getD_eq_getElem?_getD]; omega
theorem sumsM_len (xs : List Int) : (sumsM xs).length = 8 := by
  suffices h : ∀ (v : List Int), (xs.foldl addL v).length = v.length by rw [sumsM, h]; rfl
  induction xs with
  | nil => intro v; rfl
  | cons x xs ih => intro v; rw [List.foldl_cons, ih]; simp [addL]
theorem fitsB_of {g : Int} {xs : List Int} (h : fitsB g xs = true) : 1 ≤ g ∧ g ≤ 2 ∧ wordB xs = true := by
  simp only [fitsB, hasB, Bool.and_eq_true, decide_eq_true_iff] at h; exact ⟨h.1.1, h.1.2, h.2.2⟩

/-- a table, changed at one place -/
theorem tab_set {α : Type} (n : Nat) (f : Nat → α) (a : Nat) (y : α) : ((List.range n).map f).set a y = (List.range n).map fun v => if v = a then y else f v := by
  apply List.ext_getElem
  · simp
  · intro i h1 h2
    rw [List.getElem_set]
    simp only [List.getElem_map, List.getElem_range]
    by_cases h : a = i
    · rw [if_pos h, if_pos h.symm]
    · rw [if_neg h, if_neg (fun e => h e.symm)]
theorem rd_tab (n : Nat) (f : Nat → Int) (a : Int) (h0 : 0 ≤ a) (h : a < n) : rd ((List.range n).map f) a = f a.toNat := by
  have : a.toNat < n := by omega
  simp [rd, this]

def inB (n : Nat) (x : Int) : Bool := decide (0 ≤ x ∧ x < n)
def permB (p : List Int) : Bool := p.all (inB p.length) && decide p.Nodup
def seenM (n : Nat) (pre : List Int) : List Bool := (List.range n).map fun i : Nat => decide ((i : Int) ∈ pre)
theorem rdOf_tab {α : Type} (d : α) (n : Nat) (f : Nat → α) (a : Int) (h0 : 0 ≤ a) (h : a < n) : rdOf d ((List.range n).map f) a = f a.toNat := by
  have : a.toNat < n := by omega
  simp [rdOf, this]
theorem seenM_snoc (n : Nat) (pre : List Int) (x : Int) (h0 : 0 ≤ x) : (seenM n pre).set x.toNat true = seenM n (pre ++ [x]) := by
  unfold seenM
  rw [tab_set]
  apply List.map_congr_left
  intro i hi
  by_cases h : i = x.toNat
  · rw [if_pos h, decide_eq_true]; rw [List.mem_append, List.mem_singleton]; right; omega
  · rw [if_neg h]
    congr 1
    rw [List.mem_append, List.mem_singleton]
    have : ¬ (i : Int) = x := by omega
    simp [this]
theorem seenM_nil (n : Nat) : seenM n [] = List.replicate n false := by
  apply List.ext_getElem
  · simp [seenM]
  · intro i h1 h2
    simp [seenM]
theorem inB_of {n : Nat} {x : Int} (h : inB n x = true) : 0 ≤ x ∧ x < n := by simpa [inB] using h
theorem permB_of {p : List Int} (h : permB p = true) : (∀ x ∈ p, 0 ≤ x ∧ x < p.length) ∧ p.Nodup := by
  simp only [permB, Bool.and_eq_true, List.all_eq_true, decide_eq_true_iff] at h
  exact ⟨fun x hx => inB_of (h.1 x hx), h.2⟩
/-- how many sheets -/
def d0 (l : List (List Int)) : Nat := (l.getD 0 []).length
def sheetB (n : Nat) (r : List Int) : Bool := decide (r.length = n) && permB r
def sheetsB (l : List (List Int)) : Bool := decide (0 < l.length) && (decide (1 ≤ d0 l ∧ d0 l ≤ 5) && l.all (sheetB (d0 l)))
def permsB (l : List (List Int)) : Bool := sheetsB l && decide (l.length ≤ 8)
theorem rdL_zero (l : List (List Int)) : rd_L1 l 0 = l.getD 0 [] := by simp [rd_L1]
theorem sheetsB_of {l : List (List Int)} (h : sheetsB l = true) : 0 < l.length ∧ 1 ≤ d0 l ∧ d0 l ≤ 5 ∧ ∀ r ∈ l, r.length = d0 l ∧ permB r = true := by
  simp only [sheetsB, sheetB, Bool.and_eq_true, List.all_eq_true, decide_eq_true_iff] at h
  exact ⟨h.1, h.2.1.1, h.2.1.2, h.2.2⟩
/-- the inverse: i of its places set -/
def invK (p : List Int) (i : Nat) : List Int := (List.range i).foldl (fun acc j => acc.set (p.getD j 0).toNat (j : Int)) (List.replicate p.length 0)
def invM (p : List Int) : List Int := invK p p.length
theorem invK_succ (p : List Int) (i : Nat) : invK p (i + 1) = (invK p i).set (p.getD i 0).toNat (i : Int) := by
  unfold invK
  rw [List.range_succ, List.foldl_append]; rfl
theorem invK_I (p : List Int) (hp : 1 ≤ p.length) : ∀ i, i ≤ p.length → (invK p i).length = p.length ∧ ∀ x ∈ invK p i, 0 ≤ x ∧ x < p.length
  | 0, _ => by
    refine ⟨by simp [invK], fun x hx => ?_⟩
    have hx' : x ∈ List.replicate p.length (0 : Int) := hx
    have : x = 0 := (List.mem_replicate.1 hx').2
    omega
  | i + 1, h => by
    have ih := invK_I p hp i (by omega)
    rw [invK_succ]
    refine ⟨by simp [ih.1], fun x hx => ?_⟩
    rcases List.mem_or_eq_of_mem_set hx with h' | h'
    · exact ih.2 x h'
    · omega
def thenM (p q : List Int) : List Int := p.map fun y => q.getD y.toNat 0
def idM (n : Nat) : List Int := (List.range n).map fun i : Nat => (i : Int)
def stepP (l : List (List Int)) (a : Int) : List Int := if a < 0 then invM (l.getD (a.natAbs - 1) []) else l.getD (a.natAbs - 1) []
def actS (l : List (List Int)) (w : List Int) (s : Int) : Int := w.foldl (fun s a => (stepP l a).getD s.toNat 0) s
def actK (l : List (List Int)) (w : List Int) (out : List Int) : List Int := w.foldl (fun out a => thenM out (stepP l a)) out
theorem actK_eq (l : List (List Int)) : ∀ (w out : List Int), actK l w out = out.map (actS l w)
  | [], out => by
    have : actS l [] = id := rfl
    rw [this, List.map_id]; rfl
  | a :: w, out => by
    have := actK_eq l w (thenM out (stepP l a))
    unfold actK actS at this ⊢
    rw [List.foldl_cons, this, thenM, List.map_map]; rfl
def actL (l : List (List Int)) (w : List Int) : List Int := (idM (d0 l)).map (actS l w)
def lettersB (l : List (List Int)) (w : List Int) : Prop := ∀ a ∈ w, 1 ≤ a.natAbs ∧ a.natAbs ≤ l.length ∧ a.natAbs ≤ 1000000
theorem stepP_I {l : List (List Int)} (h : sheetsB l = true) {a : Int} (h1 : 1 ≤ a.natAbs) (h2 : a.natAbs ≤ l.length) : (stepP l a).length = d0 l ∧ ∀ x ∈ stepP l a, 0 ≤ x ∧ x < d0 l := by
  have s := sheetsB_of h
  have hi : a.natAbs - 1 < l.length := by omega
  have hr := s.2.2.2 _ (List.getElem_mem hi)
  have e : l.getD (a.natAbs - 1) [] = l[a.natAbs - 1] := by simp [hi]
  unfold stepP
  rw [e]
  split
  · have := invK_I l[a.natAbs - 1] (by omega) _ (Nat.le_refl _)
    unfold invM
    rw [hr.1] at this ⊢
    exact this
  · have := (permB_of hr.2).1
    rw [hr.1] at this
    exact ⟨hr.1, this⟩
theorem getD_in {n : Nat} {q : List Int} (hl : q.length = n) (hq : ∀ x ∈ q, 0 ≤ x ∧ x < n) {s : Int} (h0 : 0 ≤ s) (h1 : s < n) : 0 ≤ q.getD s.toNat 0 ∧ q.getD s.toNat 0 < n := by
  have : s.toNat < q.length := by omega
  rw [List.getD_eq_getElem?_getD, List.getElem?_eq_getElem this]
  exact hq _ (List.getElem_mem this)
theorem rd_getD (q : List Int) (s : Int) : rd q s = q.getD s.toNat 0 := rfl

def wordOk (l : List (List Int)) (w : List Int) : Bool := wordB w && w.all (leB l.length)
def actM (l : List (List Int)) (w : List Int) : List Int := if permsB l = true ∧ wordOk l w = true then actL l w else []
theorem letters_of {l : List (List Int)} {w : List Int} (h : wordOk l w = true) : lettersB l w ∧ w.length ≤ 24 := by
  simp only [wordOk, Bool.and_eq_true, List.all_eq_true, leB, decide_eq_true_iff] at h
  have a := wordB_of h.1
  refine ⟨fun x hx => ?_, a.2⟩
  have := letterB_of (a.1 x hx)
  have := h.2 x hx
  omega
theorem actL_len (l : List (List Int)) (w : List Int) : (actL l w).length = d0 l := by simp [actL, idM]
theorem actM_len (l : List (List Int)) (w : List Int) : (actM l w).length ≤ 5 := by
  unfold actM
  split
  · rename_i h
    have h1 : sheetsB l = true := by have := h.1; simp only [permsB, Bool.and_eq_true] at this; exact this.1
    have := sheetsB_of h1
    rw [actL_len]; omega
  · simp
def lettersM (n : Nat) : List Int := (List.range n).map fun i : Nat => (i : Int) + 1
def wholeB (t : List Int) : Bool := (List.range t.length).all (fun i => decide (t.getD i 0 = (i : Int))) && decide (0 < t.length)
theorem wholeB_eq {t : List Int} {n : Nat} (h : t.length = n) (h1 : 1 ≤ n) : wholeB t = decide (t = idM n) := by
  subst h
  rw [Bool.eq_iff_iff]
  simp only [wholeB, Bool.and_eq_true, List.all_eq_true, decide_eq_true_iff, List.mem_range]
  constructor
  · intro h
    apply List.ext_getElem
    · simp [idM]
    · intro i h1 h2
      have := h.1 i h1
      rw [List.getD_eq_getElem?_getD, List.getElem?_eq_getElem h1, Option.getD_some] at this
      simp [idM, this]
  · intro h
    refine ⟨fun i hi => ?_, by omega⟩
    rw [h]
    simp [idM, hi]
theorem product_eq (l : List (List Int)) (out : List Int) : actK l (lettersM l.length) out = l.foldl thenM out := by
  suffices h : ∀ n, n ≤ l.length → actK l (lettersM n) out = (l.take n).foldl thenM out by
    have := h l.length (Nat.le_refl _)
    rwa [List.take_length] at this
  intro n
  induction n with
  | zero => intro _; simp [lettersM, actK]
  | succ n ih =>
    intro h
    have ih := ih (by omega)
    have hn : n < l.length := by omega
    rw [List.take_succ_eq_append_getElem hn, List.foldl_append, ← ih]
    unfold lettersM actK
    rw [List.range_succ, List.map_append, List.foldl_append]
    simp only [List.map_cons, List.map_nil, List.foldl_cons, List.foldl_nil]
    have e : stepP l ((n : Int) + 1) = l[n] := by
      unfold stepP
      rw [if_neg (by omega), show ((n : Int) + 1).natAbs - 1 = n by omega]
      simp [hn]
    rw [e]
theorem letters_ok {l : List (List Int)} (h : l.length ≤ 8) : wordOk l (lettersM l.length) = true := by
  simp only [wordOk, wordB, lettersM, Bool.and_eq_true, List.all_eq_true, List.mem_map, List.mem_range, leB, letterB, decide_eq_true_iff, List.length_map, List.length_range]
  refine ⟨⟨?_, by omega⟩, ?_⟩
  · rintro x ⟨i, hi, rfl⟩; omega
  · rintro x ⟨i, hi, rfl⟩; omega
theorem thenM_I {n : Nat} {p q : List Int} (hp : p.length = n ∧ ∀ x ∈ p, 0 ≤ x ∧ x < n) (hq : q.length = n ∧ ∀ x ∈ q, 0 ≤ x ∧ x < n) : (thenM p q).length = n ∧ ∀ x ∈ thenM p q, 0 ≤ x ∧ x < n := by
  refine ⟨by simp [thenM, hp.1], fun x hx => ?_⟩
  simp only [thenM, List.mem_map] at hx
  obtain ⟨y, hy, rfl⟩ := hx
  exact getD_in hq.1 hq.2 (hp.2 y hy).1 (hp.2 y hy).2
theorem idM_I (n : Nat) : (idM n).length = n ∧ ∀ x ∈ idM n, 0 ≤ x ∧ x < n := by
  refine ⟨by simp [idM], fun x hx => ?_⟩
  simp only [idM, List.mem_map, List.mem_range] at hx
  obtain ⟨i, hi, rfl⟩ := hx
  omega
theorem permsB_le {l : List (List Int)} (h : l.length ≤ 8) : permsB l = sheetsB l := by
  unfold permsB
  rw [decide_eq_true h, Bool.and_true]

theorem natOf {n : Nat} {x : Int} (h : 0 ≤ x ∧ x < n) : ∃ m : Nat, x = m ∧ m < n := ⟨x.toNat, by omega, by omega⟩
/-- what holds of all permutations of at most five, each told by its numbers -/
theorem perm_all (P : List Int → Bool)
    (h1 : ∀ a : Nat, a < 1 → permB [(a : Int)] = true → P [(a : Int)] = true)
    (h2 : ∀ a : Nat, a < 2 → ∀ b : Nat, b < 2 → permB [(a : Int), (b : Int)] = true → P [(a : Int), (b : Int)] = true)
    (h3 : ∀ a : Nat, a < 3 → ∀ b : Nat, b < 3 → ∀ c : Nat, c < 3 → permB [(a : Int), (b : Int), (c : Int)] = true → P [(a : Int), (b : Int), (c : Int)] = true)
    (h4 : ∀ a : Nat, a < 4 → ∀ b : Nat, b < 4 → ∀ c : Nat, c < 4 → ∀ d : Nat, d < 4 → permB [(a : Int), (b : Int), (c : Int), (d : Int)] = true → P [(a : Int), (b : Int), (c : Int), (d : Int)] = true)
    (h5 : ∀ a : Nat, a < 5 → ∀ b : Nat, b < 5 → ∀ c : Nat, c < 5 → ∀ d : Nat, d < 5 → ∀ e : Nat, e < 5 → permB [(a : Int), (b : Int), (c : Int), (d : Int), (e : Int)] = true → P [(a : Int), (b : Int), (c : Int), (d : Int), (e : Int)] = true)
    {p : List Int} (h : permB p = true) (hl : 1 ≤ p.length) (hm : p.length ≤ 5) : P p = true := by
  have R := (permB_of h).1
  match p, hl, hm with
  | [a], _, _ =>
    obtain ⟨a, rfl, ha⟩ := natOf (R a (by simp))
    exact h1 a ha h
  | [a, b], _, _ =>
    obtain ⟨a, rfl, ha⟩ := natOf (R a (by simp))
    obtain ⟨b, rfl, hb⟩ := natOf (R b (by simp))
    exact h2 a ha b hb h
  | [a, b, c], _, _ =>
    obtain ⟨a, rfl, ha⟩ := natOf (R a (by simp))
    obtain ⟨b, rfl, hb⟩ := natOf (R b (by simp))
    obtain ⟨c, rfl, hc⟩ := natOf (R c (by simp))
    exact h3 a ha b hb c hc h
  | [a, b, c, d], _, _ =>
    obtain ⟨a, rfl, ha⟩ := natOf (R a (by simp))
    obtain ⟨b, rfl, hb⟩ := natOf (R b (by simp))
    obtain ⟨c, rfl, hc⟩ := natOf (R c (by simp))
    obtain ⟨d, rfl, hd⟩ := natOf (R d (by simp))
    exact h4 a ha b hb c hc d hd h
  | [a, b, c, d, e], _, _ =>
    obtain ⟨a, rfl, ha⟩ := natOf (R a (by simp))
    obtain ⟨b, rfl, hb⟩ := natOf (R b (by simp))
    obtain ⟨c, rfl, hc⟩ := natOf (R c (by simp))
    obtain ⟨d, rfl, hd⟩ := natOf (R d (by simp))
    obtain ⟨e, rfl, he⟩ := natOf (R e (by simp))
    exact h5 a ha b hb c hc d hd e he h
def permN (n : Nat) (p : List Int) : Prop := p.length = n ∧ permB p = true
theorem permN_mk {n : Nat} {p : List Int} (h : p.length = n) (h1 : ∀ x ∈ p, 0 ≤ x ∧ x < n) (h2 : p.Nodup) : permN n p := by
  refine ⟨h, ?_⟩
  simp only [permB, Bool.and_eq_true, List.all_eq_true, decide_eq_true_iff]
  exact ⟨fun x hx => by simp only [inB, decide_eq_true_iff, h]; exact h1 x hx, h2⟩
theorem permN_of {n : Nat} {p : List Int} (h : permN n p) : p.length = n ∧ (∀ x ∈ p, 0 ≤ x ∧ x < n) ∧ p.Nodup := by
  have := permB_of h.2
  rw [h.1] at this
  exact ⟨h.1, this⟩
theorem perm_then {n : Nat} {p q : List Int} (hp : permN n p) (hq : permN n q) : permN n (thenM p q) := by
  have P := permN_of hp
  have Q := permN_of hq
  have G : ∀ x (hx : x ∈ p), q.getD x.toNat 0 = q[x.toNat]'(by have := P.2.1 x hx; omega) := fun x hx => by
    have := P.2.1 x hx
    rw [List.getD_eq_getElem?_getD, List.getElem?_eq_getElem (by omega)]; rfl
  refine permN_mk (by simp [thenM, P.1]) (fun y hy => ?_) ?_
  · simp only [thenM, List.mem_map] at hy
    obtain ⟨x, hx, rfl⟩ := hy
    rw [G x hx]; exact Q.2.1 _ (List.getElem_mem _)
  · unfold thenM List.Nodup
    rw [List.pairwise_map]
    refine List.Pairwise.imp_of_mem (fun {a b} ha hb hne he => ?_) P.2.2
    rw [G a ha, G b hb] at he
    have pa := P.2.1 a ha
    have pb := P.2.1 b hb
    rcases Nat.lt_trichotomy a.toNat b.toNat with h | h | h
    · exact List.pairwise_iff_getElem.1 Q.2.2 _ _ (by omega) (by omega) h he
    · omega
    · exact List.pairwise_iff_getElem.1 Q.2.2 _ _ (by omega) (by omega) h he.symm
theorem perm_id (n : Nat) : permN n (idM n) := by
  refine permN_mk (by simp [idM]) (fun x hx => ?_) ?_
  · simp only [idM, List.mem_map, List.mem_range] at hx
    obtain ⟨i, hi, rfl⟩ := hx; omega
  · unfold idM List.Nodup
    rw [List.pairwise_map]
    exact List.Pairwise.imp (fun {a b} h he => h (by omega)) List.nodup_range
set_option synthInstance.maxHeartbeats 2000000 in
set_option synthInstance.maxSize 4000 in
theorem perm_inv {n : Nat} {p : List Int} (h : permN n p) (h1 : 1 ≤ n) (h5 : n ≤ 5) : permN n (invM p) := by
  have := perm_all (fun p => permB (invM p) && decide ((invM p).length = p.length)) (by decide +kernel) (by decide +kernel) (by decide +kernel) (by decide +kernel) (by decide +kernel) h.2 (by have := h.1; omega) (by have := h.1; omega)
  simp only [Bool.and_eq_true, decide_eq_true_iff] at this
  exact ⟨by rw [this.2, h.1], this.1⟩
theorem perm_step {l : List (List Int)} (hs : sheetsB l = true) {a : Int} (h1 : 1 ≤ a.natAbs) (h2 : a.natAbs ≤ l.length) : permN (d0 l) (stepP l a) := by
  have s := sheetsB_of hs
  have hi : a.natAbs - 1 < l.length := by omega
  have hr := s.2.2.2 _ (List.getElem_mem hi)
  have e : l.getD (a.natAbs - 1) [] = l[a.natAbs - 1] := by rw [List.getD_eq_getElem?_getD, List.getElem?_eq_getElem hi]; rfl
  unfold stepP
  rw [e]
  split
  · exact perm_inv hr s.2.1 s.2.2.1
  · exact hr
theorem perm_actK {l : List (List Int)} (hs : sheetsB l = true) : ∀ (w out : List Int), lettersB l w → permN (d0 l) out → permN (d0 l) (actK l w out)
  | [], out, _, h => h
  | a :: w, out, hw, h => by
    have ha := hw a (by simp)
    exact perm_actK hs w (thenM out (stepP l a)) (fun x hx => hw x (by simp [hx])) (perm_then h (perm_step hs ha.1 ha.2.1))
theorem perm_actL {l : List (List Int)} (hs : sheetsB l = true) {w : List Int} (hw : lettersB l w) : permN (d0 l) (actL l w) := by
  have := perm_actK hs w (idM (d0 l)) hw (perm_id _)
  rwa [actK_eq] at this
theorem actM_perm (l : List (List Int)) (w : List Int) : actM l w = [] ∨ (∃ n, 1 ≤ n ∧ n ≤ 5 ∧ permN n (actM l w)) := by
  unfold actM
  split
  · rename_i h
    have h1 : sheetsB l = true := by have := h.1; simp only [permsB, Bool.and_eq_true] at this; exact this.1
    have s := sheetsB_of h1
    exact .inr ⟨d0 l, s.2.1, s.2.2.1, perm_actL h1 (letters_of h.2).1⟩
  · exact .inl rfl

/-! ### sets of sheets that lead to each other -/
def upB (n : Nat) (up : List Int) : Prop := up.length = n ∧ ∀ i (h : i < up.length), 0 ≤ up[i] ∧ up[i] ≤ i
def rootN (up : List Int) : Nat → Int → Int
  | 0, s => s
  | k + 1, s => if up.getD s.toNat 0 = s then s else rootN up k (up.getD s.toNat 0)
def rootI (up : List Int) (s : Int) : Int := rootN up s.toNat s
theorem up_get {n : Nat} {up : List Int} (hu : upB n up) {s : Int} (h0 : 0 ≤ s) (h1 : s < n) : 0 ≤ up.getD s.toNat 0 ∧ up.getD s.toNat 0 ≤ s := by
  have h : s.toNat < up.length := by have := hu.1; omega
  rw [List.getD_eq_getElem?_getD, List.getElem?_eq_getElem h, Option.getD_some]
  have := hu.2 _ h; omega
theorem rootN_le {n : Nat} {up : List Int} (hu : upB n up) : ∀ (m : Nat) (s : Int), 0 ≤ s → s < n → 0 ≤ rootN up m s ∧ rootN up m s ≤ s
  | 0, s, h0, h1 => ⟨h0, Int.le_refl _⟩
  | m + 1, s, h0, h1 => by
    have a := up_get hu h0 h1
    simp only [rootN]
    split
    · exact ⟨h0, Int.le_refl _⟩
    · have := rootN_le hu m (up.getD s.toNat 0) a.1 (by omega); omega
theorem rootI_le {n : Nat} {up : List Int} (hu : upB n up) {s : Int} (h0 : 0 ≤ s) (h1 : s < n) : 0 ≤ rootI up s ∧ rootI up s ≤ s := rootN_le hu _ s h0 h1
theorem rootI_self {n : Nat} {up : List Int} (hu : upB n up) {s : Int} (h0 : 0 ≤ s) (h1 : s < n) : rootI up s = s ↔ up.getD s.toNat 0 = s := by
  have a := up_get hu h0 h1
  unfold rootI
  rcases hs : s.toNat with _ | m
  · have : s = 0 := by omega
    subst this
    simp only [rootN, true_iff]
    have := up_get hu (s := 0) (by omega) h1
    simp only [Int.toNat_zero] at this ⊢; omega
  · simp only [rootN, hs]
    rw [hs] at a
    constructor
    · intro h
      split at h
      · rename_i e; exact e
      · rename_i hne
        have := rootN_le hu m (up.getD (m + 1) 0) a.1 (by omega)
        omega
    · intro h
      rw [if_pos h]
def joinM (up : List Int) (a b : Int) : List Int := if rootI up a > rootI up b then up.set (rootI up a).toNat (rootI up b) else up.set (rootI up b).toNat (rootI up a)
theorem upB_set {n : Nat} {up : List Int} (hu : upB n up) {i v : Int} (h0 : 0 ≤ v) (h1 : v ≤ i) : upB n (up.set i.toNat v) := by
  refine ⟨by simp [hu.1], fun j hj => ?_⟩
  rw [List.getElem_set]
  rw [List.length_set] at hj
  split
  · omega
  · exact hu.2 j hj
theorem joinM_I {n : Nat} {up : List Int} (hu : upB n up) {a b : Int} (ha : 0 ≤ a ∧ a < n) (hb : 0 ≤ b ∧ b < n) : upB n (joinM up a b) := by
  have ra := rootI_le hu ha.1 ha.2
  have rb := rootI_le hu hb.1 hb.2
  unfold joinM
  split
  · exact upB_set hu rb.1 (by omega)
  · exact upB_set hu ra.1 (by omega)
def rowM (n : Nat) (up p : List Int) : List Int := (List.range n).foldl (fun up (s : Nat) => joinM up (s : Int) (p.getD s 0)) up
def allM (l : List (List Int)) : List Int := l.foldl (rowM (d0 l)) (idM (d0 l))
def ownM (n : Nat) (up : List Int) (s : Nat) : List Int := (List.range n).foldl (fun own (t : Nat) => if rootI up (t : Int) = (s : Int) then own ++ [(t : Int)] else own) []
def outM2 (n : Nat) (up : List Int) : List (List Int) := (List.range n).foldl (fun out (s : Nat) => if up.getD s 0 = (s : Int) then out ++ [ownM n up s] else out) []
def partsM (l : List (List Int)) : List (List Int) := outM2 (d0 l) (allM l)
theorem upB_id (n : Nat) : upB n (idM n) := by
  refine ⟨by simp [idM], fun i h => ?_⟩
  simp [idM]
theorem fold_upB {n : Nat} {p : List Int} (hp : p.length = n) (hr : ∀ x ∈ p, 0 ≤ x ∧ x < n) : ∀ (m : Nat) (up : List Int), m ≤ n → upB n up → upB n ((List.range m).foldl (fun up (s : Nat) => joinM up (s : Int) (p.getD s 0)) up)
  | 0, up, _, h => h
  | m + 1, up, hm, h => by
    rw [List.range_succ, List.foldl_append]
    have ih := fold_upB hp hr m up (by omega) h
    refine joinM_I ih ⟨by omega, by omega⟩ ?_
    have hlt : m < p.length := by omega
    rw [List.getD_eq_getElem?_getD, List.getElem?_eq_getElem hlt]
    exact hr _ (List.getElem_mem _)
theorem rowM_I {n : Nat} {up p : List Int} (hp : p.length = n) (hr : ∀ x ∈ p, 0 ≤ x ∧ x < n) (h : upB n up) : upB n (rowM n up p) := fold_upB hp hr n up (Nat.le_refl _) h
theorem ownM_len (n : Nat) (up : List Int) (s : Nat) : ∀ m, ((List.range m).foldl (fun own (t : Nat) => if rootI up (t : Int) = (s : Int) then own ++ [(t : Int)] else own) []).length ≤ m
  | 0 => by simp
  | m + 1 => by
    rw [List.range_succ, List.foldl_append]
    have := ownM_len n up s m
    simp only [List.foldl_cons, List.foldl_nil]
    split
    · simp; omega
    · omega
theorem outM2_sz (n : Nat) (up : List Int) : ∀ m, ((List.range m).foldl (fun out (s : Nat) => if up.getD s 0 = (s : Int) then out ++ [ownM n up s] else out) []).length ≤ m ∧ ∀ r ∈ ((List.range m).foldl (fun out (s : Nat) => if up.getD s 0 = (s : Int) then out ++ [ownM n up s] else out) []), r.length ≤ n
  | 0 => by simp
  | m + 1 => by
    rw [List.range_succ, List.foldl_append]
    have := outM2_sz n up m
    simp only [List.foldl_cons, List.foldl_nil]
    split
    · refine ⟨by rw [List.length_append]; simp only [List.length_singleton]; omega, fun r hr => ?_⟩
      rcases List.mem_append.1 hr with h | h
      · exact this.2 r h
      · rw [List.mem_singleton.1 h]; exact ownM_len n up m n
    · exact ⟨by omega, this.2⟩
theorem partsM_sz {l : List (List Int)} (hs : sheetsB l = true) : (partsM l).length ≤ 5 ∧ ∀ r ∈ partsM l, r.length ≤ 5 := by
  have s := sheetsB_of hs
  have := outM2_sz (d0 l) (allM l) (d0 l)
  exact ⟨by unfold partsM outM2; omega, fun r hr => by have := this.2 r hr; omega⟩
theorem allM_I {l : List (List Int)} (hs : sheetsB l = true) : upB (d0 l) (allM l) := by
  have s := sheetsB_of hs
  unfold allM
  have : ∀ (xs : List (List Int)) (up : List Int), (∀ p ∈ xs, p.length = d0 l ∧ permB p = true) → upB (d0 l) up → upB (d0 l) (xs.foldl (rowM (d0 l)) up) := by
    intro xs
    induction xs with
    | nil => intro up _ h; exact h
    | cons p xs ih =>
      intro up hx h
      have hp := hx p (by simp)
      refine ih _ (fun q hq => hx q (by simp [hq])) (rowM_I hp.1 (fun x hx' => ?_) h)
      have := (permB_of hp.2).1 x hx'
      omega
  exact this l _ s.2.2.2 (upB_id _)

def cycOk (p : List Int) : Bool := decide (spec_l6Cycles.f 40 p = impl_cycles.f 40 p) && ((impl_cycles.f 40 p).map fun c => decide (c.length ≤ 5)) == some true
theorem cyc1 : ∀ a : Nat, a < 1 → permB [(a : Int)] = true → cycOk [(a : Int)] = true := by decide +kernel
theorem cyc2 : ∀ a : Nat, a < 2 → ∀ b : Nat, b < 2 → permB [(a : Int), (b : Int)] = true → cycOk [(a : Int), (b : Int)] = true := by decide +kernel
theorem cyc3 : ∀ a : Nat, a < 3 → ∀ b : Nat, b < 3 → ∀ c : Nat, c < 3 → permB [(a : Int), (b : Int), (c : Int)] = true → cycOk [(a : Int), (b : Int), (c : Int)] = true := by decide +kernel
theorem cyc4 : ∀ a : Nat, a < 4 → ∀ b : Nat, b < 4 → ∀ c : Nat, c < 4 → ∀ d : Nat, d < 4 → permB [(a : Int), (b : Int), (c : Int), (d : Int)] = true → cycOk [(a : Int), (b : Int), (c : Int), (d : Int)] = true := by decide +kernel
set_option synthInstance.maxHeartbeats 2000000 in
set_option synthInstance.maxSize 4000 in
theorem cyc5 : ∀ a : Nat, a < 5 → ∀ b : Nat, b < 5 → ∀ c : Nat, c < 5 → ∀ d : Nat, d < 5 → ∀ e : Nat, e < 5 → permB [(a : Int), (b : Int), (c : Int), (d : Int), (e : Int)] = true → cycOk [(a : Int), (b : Int), (c : Int), (d : Int), (e : Int)] = true := by decide +kernel
theorem toNat_of {n : Nat} {x : Int} (h : 0 ≤ x ∧ x < n) : ∃ m : Nat, x = m ∧ m < n := ⟨x.toNat, by omega, by omega⟩
theorem cyc_all {p : List Int} (h : permB p = true) (h1 : 1 ≤ p.length) (h5 : p.length ≤ 5) : cycOk p = true := by
  have P := (permB_of h).1
  match p, h1, h5 with
  | [a], _, _ =>
    obtain ⟨a, rfl, ha⟩ := toNat_of (P a (by simp))
    exact cyc1 a ha h
  | [a, b], _, _ =>
    obtain ⟨a, rfl, ha⟩ := toNat_of (P a (by simp))
    obtain ⟨b, rfl, hb⟩ := toNat_of (P b (by simp))
    exact cyc2 a ha b hb h
  | [a, b, c], _, _ =>
    obtain ⟨a, rfl, ha⟩ := toNat_of (P a (by simp))
    obtain ⟨b, rfl, hb⟩ := toNat_of (P b (by simp))
    obtain ⟨c, rfl, hc⟩ := toNat_of (P c (by simp))
    exact cyc3 a ha b hb c hc h
  | [a, b, c, d], _, _ =>
    obtain ⟨a, rfl, ha⟩ := toNat_of (P a (by simp))
    obtain ⟨b, rfl, hb⟩ := toNat_of (P b (by simp))
    obtain ⟨c, rfl, hc⟩ := toNat_of (P c (by simp))
    obtain ⟨d, rfl, hd⟩ := toNat_of (P d (by simp))
    exact cyc4 a ha b hb c hc d hd h
  | [a, b, c, d, e], _, _ =>
    obtain ⟨a, rfl, ha⟩ := toNat_of (P a (by simp))
    obtain ⟨b, rfl, hb⟩ := toNat_of (P b (by simp))
    obtain ⟨c, rfl, hc⟩ := toNat_of (P c (by simp))
    obtain ⟨d, rfl, hd⟩ := toNat_of (P d (by simp))
    obtain ⟨e, rfl, he⟩ := toNat_of (P e (by simp))
    exact cyc5 a ha b hb c hc d hd e he h
theorem cyc_is {p : List Int} (h : permB p = true) (h1 : 1 ≤ p.length) (h5 : p.length ≤ 5) : ∃ c, EV (fun k => spec_l6Cycles.f k p) c ∧ EV (fun k => impl_cycles.f k p) c ∧ c.length ≤ 5 := by
  have := cyc_all h h1 h5
  simp only [cycOk, Bool.and_eq_true, decide_eq_true_iff, beq_iff_eq] at this
  obtain ⟨e, hs⟩ := this
  rcases hx : impl_cycles.f 40 p with _ | c
  · rw [hx] at hs; cases hs
  · rw [hx] at e hs
    simp only [Option.map_some, Option.some.injEq, decide_eq_true_iff] at hs
    exact ⟨c, EV.mono (spec_l6Cycles.mono p) e, EV.mono (impl_cycles.mono p) hx, hs⟩

/-! ### permutations of at most five: the inequality of Riemann, Hurwitz and Ree -/

def thenN (p q : List Nat) : List Nat := p.map fun y => q.getD y 0
def trN (n a b : Nat) : List Nat := (List.range n).map fun i => if i = a then b else if i = b then a else i
def itN (p : List Nat) (s : Nat) : Nat → Nat → Bool
  | 0, _ => true
  | k + 1, x => Nat.ble s x && itN p s k (p.getD x 0)
def cyN (p : List Nat) : Nat := ((List.range p.length).filter fun s => itN p s p.length s).length
def jl (lab : List Nat) (a b : Nat) : List Nat := let x := lab.getD a 0; let y := lab.getD b 0; lab.map fun z => if z = max x y then min x y else z
def partN (lab : List Nat) : Nat := ((List.range lab.length).filter fun s => Nat.beq (lab.getD s 0) s).length
def insAll (x : Nat) : List Nat → List (List Nat)
  | [] => [[x]]
  | y :: ys => (x :: y :: ys) :: (insAll x ys).map (y :: ·)
def permsN : Nat → List (List Nat)
  | 0 => [[]]
  | n + 1 => (permsN n).flatMap (insAll n)
def labsN : Nat → List (List Nat)
  | 0 => [[]]
  | n + 1 => (labsN n).flatMap fun l => ((List.range n).filter fun s => Nat.beq (l.getD s 0) s).map (fun s => l ++ [s]) ++ [l ++ [n]]
def refN (lab P : List Nat) : Bool := (List.range lab.length).all fun s => Nat.beq (lab.getD (P.getD s 0) 0) (lab.getD s 0)
/-- transpositions whose product is p -/
def decN : Nat → List Nat → List (Nat × Nat)
  | 0, _ => []
  | k + 1, p => match (List.range p.length).find? fun s => !Nat.beq (p.getD s 0) s with
    | none => []
    | some s => decN k (thenN p (trN p.length s (p.getD s 0))) ++ [(s, p.getD s 0)]
def dec (p : List Nat) : List (Nat × Nat) := decN p.length p
def idN (n : Nat) : List Nat := List.range n
def stepOk (n : Nat) (lab P : List Nat) (a b : Nat) : Bool :=
  Nat.ble (2 * partN lab + cyN (thenN P (trN n a b))) (2 * partN (jl lab a b) + cyN P + 1) && ((cyN (thenN P (trN n a b)) + cyN P) % 2 == 1) && refN (jl lab a b) (thenN P (trN n a b)) && (labsN n).contains (jl lab a b) && (permsN n).contains (thenN P (trN n a b))
def S1a (n : Nat) (lab : List Nat) : Bool := (permsN n).all fun P => !refN lab P || ((List.range n).all fun a => (List.range n).all fun b => Nat.ble b a || stepOk n lab P a b)
def S1 (n : Nat) : Bool := (labsN n).all (S1a n)
def S2 (n : Nat) : Bool := (permsN n).all fun p => ((dec p).foldl (fun q t => thenN q (trN n t.1 t.2)) (idN n) == p) && ((dec p).length + cyN p == n) && ((dec p).all fun t => Nat.blt t.2 n && Nat.blt t.1 t.2)
def rowN (lab p : List Nat) : List Nat := (List.range lab.length).foldl (fun lab s => jl lab s (p.getD s 0)) lab
def S3a (n : Nat) (lab : List Nat) : Bool := (permsN n).all fun p => rowN lab p == (dec p).foldl (fun lab t => jl lab t.1 t.2) lab
def S3 (n : Nat) : Bool := (labsN n).all (S3a n)
def S4 (n : Nat) : Bool := (labsN n).contains (idN n) && (permsN n).contains (idN n) && refN (idN n) (idN n) && (partN (idN n) == n) && (cyN (idN n) == n)


def S5 (n : Nat) : Bool := (permsN n).all fun p => p.all (fun y => Nat.blt y n) && Nat.beq p.length n
def allS (n : Nat) : Bool := S1 n && (S2 n && (S3 n && (S4 n && S5 n)))
theorem all_split {α : Type} (l : List α) (p : α → Bool) (k : Nat) : l.all p = ((l.take k).all p && (l.drop k).all p) := by
  rw [← List.all_append, List.take_append_drop]
set_option maxHeartbeats 100000000 in
set_option maxRecDepth 100000 in
theorem S1_5_0 : ((labsN 5).take 13).all (S1a 5) = true := by decide +kernel
set_option maxHeartbeats 100000000 in
set_option maxRecDepth 100000 in
theorem S1_5_1 : (((labsN 5).drop 13).take 13).all (S1a 5) = true := by decide +kernel
set_option maxHeartbeats 100000000 in
set_option maxRecDepth 100000 in
theorem S1_5_2 : ((((labsN 5).drop 13).drop 13).take 13).all (S1a 5) = true := by decide +kernel
set_option maxHeartbeats 100000000 in
set_option maxRecDepth 100000 in
theorem S1_5_3 : ((((labsN 5).drop 13).drop 13).drop 13).all (S1a 5) = true := by decide +kernel
theorem S1_5 : S1 5 = true := by
  unfold S1
  rw [all_split _ _ 13, S1_5_0, all_split _ _ 13, S1_5_1, all_split _ _ 13, S1_5_2, S1_5_3]; rfl
set_option maxHeartbeats 100000000 in
set_option maxRecDepth 100000 in
theorem S3_5_0 : ((labsN 5).take 13).all (S3a 5) = true := by decide +kernel
set_option maxHeartbeats 100000000 in
set_option maxRecDepth 100000 in
theorem S3_5_1 : (((labsN 5).drop 13).take 13).all (S3a 5) = true := by decide +kernel
set_option maxHeartbeats 100000000 in
set_option maxRecDepth 100000 in
theorem S3_5_2 : ((((labsN 5).drop 13).drop 13).take 13).all (S3a 5) = true := by decide +kernel
set_option maxHeartbeats 100000000 in
set_option maxRecDepth 100000 in
theorem S3_5_3 : ((((labsN 5).drop 13).drop 13).drop 13).all (S3a 5) = true := by decide +kernel
theorem S3_5 : S3 5 = true := by
  unfold S3
  rw [all_split _ _ 13, S3_5_0, all_split _ _ 13, S3_5_1, all_split _ _ 13, S3_5_2, S3_5_3]; rfl
set_option maxHeartbeats 100000000 in
set_option maxRecDepth 100000 in
theorem S2_5 : S2 5 = true := by decide +kernel
set_option maxHeartbeats 100000000 in
set_option maxRecDepth 100000 in
theorem S45_5 : (S4 5 && S5 5) = true := by decide +kernel
set_option maxHeartbeats 100000000 in
set_option maxRecDepth 100000 in
theorem allS_4 : ∀ n : Nat, n < 5 → allS n = true := by decide +kernel
theorem allS_ok (n : Nat) (h : n < 6) : allS n = true := by
  by_cases h5 : n < 5
  · exact allS_4 n h5
  · obtain rfl : n = 5 := by omega
    unfold allS
    rw [S1_5, S2_5, S3_5, S45_5]; rfl
def NN (p : List Int) : List Nat := p.map Int.toNat
theorem NN_getD (q : List Int) (i : Nat) : (q.getD i 0).toNat = (NN q).getD i 0 := by
  unfold NN
  rw [List.getD_eq_getElem?_getD, List.getD_eq_getElem?_getD, List.getElem?_map]
  cases q[i]? <;> rfl
theorem NN_then (p q : List Int) : NN (thenM p q) = thenN (NN p) (NN q) := by
  unfold thenN thenM
  rw [show NN (p.map fun y => q.getD y.toNat 0) = p.map fun y => (q.getD y.toNat 0).toNat by simp [NN, List.map_map, Function.comp_def]]
  rw [show (NN p).map (fun y => (NN q).getD y 0) = p.map fun y => (NN q).getD y.toNat 0 by simp [NN, List.map_map, Function.comp_def]]
  exact List.map_congr_left fun y _ => NN_getD q y.toNat
theorem NN_id (n : Nat) : NN (idM n) = idN n := by
  simp [NN, idM, idN, List.map_map, Function.comp_def]
set_option maxHeartbeats 8000000 in
set_option synthInstance.maxHeartbeats 2000000 in
set_option synthInstance.maxSize 4000 in
theorem NN_perm {n : Nat} {p : List Int} (h : permN n p) (h1 : 1 ≤ n) (h5 : n ≤ 5) : (permsN n).contains (NN p) = true := by
  have := perm_all (fun p => (permsN p.length).contains (NN p)) (by decide +kernel) (by decide +kernel) (by decide +kernel) (by decide +kernel) (by decide +kernel) h.2 (by have := h.1; omega) (by have := h.1; omega)
  rw [h.1] at this; exact this
set_option maxHeartbeats 8000000 in
set_option synthInstance.maxHeartbeats 2000000 in
set_option synthInstance.maxSize 4000 in
theorem cyc_len {n : Nat} {p : List Int} (h : permN n p) (h1 : 1 ≤ n) (h5 : n ≤ 5) : ∃ c, EV (fun k => spec_l6Cycles.f k p) c ∧ EV (fun k => impl_cycles.f k p) c ∧ c.length = cyN (NN p) ∧ c.length ≤ 5 := by
  have := perm_all (fun p => decide ((impl_cycles.f 40 p).map List.length = some (cyN (NN p)))) (by decide +kernel) (by decide +kernel) (by decide +kernel) (by decide +kernel) (by decide +kernel) h.2 (by have := h.1; omega) (by have := h.1; omega)
  rw [decide_eq_true_iff] at this
  obtain ⟨c, c1, c2, c3⟩ := cyc_is h.2 (by have := h.1; omega) (by have := h.1; omega)
  rcases hx : impl_cycles.f 40 p with _ | c'
  · rw [hx] at this; cases this
  · rw [hx] at this
    have e := EV.uniq c2 (EV.mono (impl_cycles.mono p) hx)
    subst e
    exact ⟨c, c1, c2, Option.some.inj this, c3⟩
/-! roots and labels -/
theorem rootN_fuel {n : Nat} {up : List Int} (hu : upB n up) : ∀ (m m' : Nat) (s : Int), 0 ≤ s → s < n → s.toNat ≤ m → s.toNat ≤ m' → rootN up m s = rootN up m' s
  | 0, 0, s, _, _, _, _ => rfl
  | 0, m' + 1, s, h0, h1, h2, h3 => by
    have a := up_get hu h0 h1
    simp only [rootN]
    rw [if_pos (by omega)]
  | m + 1, 0, s, h0, h1, h2, h3 => by
    have a := up_get hu h0 h1
    simp only [rootN]
    rw [if_pos (by omega)]
  | m + 1, m' + 1, s, h0, h1, h2, h3 => by
    have a := up_get hu h0 h1
    simp only [rootN]
    by_cases e : up.getD s.toNat 0 = s
    · rw [if_pos e, if_pos e]
    · rw [if_neg e, if_neg e]
      exact rootN_fuel hu m m' _ a.1 (by omega) (by omega) (by omega)
theorem rootI_step {n : Nat} {up : List Int} (hu : upB n up) {s : Int} (h0 : 0 ≤ s) (h1 : s < n) : rootI up s = if up.getD s.toNat 0 = s then s else rootI up (up.getD s.toNat 0) := by
  have a := up_get hu h0 h1
  unfold rootI
  rw [rootN_fuel hu s.toNat (s.toNat + 1) s h0 h1 (Nat.le_refl _) (by omega)]
  simp only [rootN]
  by_cases e : up.getD s.toNat 0 = s
  · rw [if_pos e, if_pos e]
  · rw [if_neg e, if_neg e]
    exact rootN_fuel hu _ _ _ a.1 (by omega) (by omega) (Nat.le_refl _)
theorem root_root {n : Nat} {up : List Int} (hu : upB n up) : ∀ (m : Nat) (s : Int), s.toNat ≤ m → 0 ≤ s → s < n → up.getD (rootI up s).toNat 0 = rootI up s
  | m, s, hm, h0, h1 => by
    have a := up_get hu h0 h1
    rw [rootI_step hu h0 h1]
    by_cases e : up.getD s.toNat 0 = s
    · rw [if_pos e]; exact e
    · rw [if_neg e]
      match m, hm with
      | 0, hm => exact absurd (show up.getD s.toNat 0 = s by omega) e
      | m + 1, hm => exact root_root hu m _ (by omega) a.1 (by omega)
theorem getD_set (up : List Int) (i j : Nat) (v : Int) (hj : i < up.length) : (up.set i v).getD j 0 = if i = j then v else up.getD j 0 := by
  rw [List.getD_eq_getElem?_getD, List.getElem?_set, List.getD_eq_getElem?_getD]
  split
  · subst_vars; simp [hj]
  · rfl
theorem root_set {n : Nat} {up : List Int} (hu : upB n up) {hi lo : Int} (l0 : 0 ≤ lo) (lh : lo ≤ hi) (hn : hi < n) (rh : up.getD hi.toNat 0 = hi) (rl : up.getD lo.toNat 0 = lo) :
    ∀ (m : Nat) (s : Int), s.toNat ≤ m → 0 ≤ s → s < n → rootI (up.set hi.toNat lo) s = if rootI up s = hi then lo else rootI up s
  | m, s, hm, h0, h1 => by
    have hu2 := upB_set hu (i := hi) (v := lo) l0 lh
    have hl : hi.toNat < up.length := by have := hu.1; omega
    have hlo : rootI (up.set hi.toNat lo) lo = lo := (rootI_self hu2 l0 (by omega)).2 (by
      rw [getD_set _ _ _ _ hl]
      split
      · rfl
      · exact rl)
    have a := up_get hu h0 h1
    rw [rootI_step hu2 h0 h1, getD_set _ _ _ _ hl]
    by_cases es : s = hi
    · subst es
      rw [if_pos rfl]
      have : rootI up s = s := (rootI_self hu h0 h1).2 rh
      rw [this, if_pos rfl]
      by_cases e2 : lo = s
      · rw [if_pos e2]; exact e2.symm
      · rw [if_neg e2]; exact hlo
    · have hne : ¬ hi.toNat = s.toNat := by omega
      simp only [if_neg hne]
      rw [rootI_step hu h0 h1]
      by_cases e : up.getD s.toNat 0 = s
      · rw [if_pos e, if_pos e, if_neg es]
      · rw [if_neg e, if_neg e]
        match m, hm with
        | 0, hm => exact absurd (show up.getD s.toNat 0 = s by omega) e
        | m + 1, hm => exact root_set hu l0 lh hn rh rl m _ (by omega) a.1 (by omega)
def labI (n : Nat) (up : List Int) : List Nat := (List.range n).map fun (s : Nat) => (rootI up (s : Int)).toNat
theorem labI_get (n : Nat) (up : List Int) (s : Nat) (h : s < n) : (labI n up).getD s 0 = (rootI up (s : Int)).toNat := by
  simp [labI, h]
theorem labI_join {n : Nat} {up : List Int} (hu : upB n up) {a b : Nat} (ha : a < n) (hb : b < n) : labI n (joinM up (a : Int) (b : Int)) = jl (labI n up) a b := by
  have ra := rootI_le hu (s := (a : Int)) (by omega) (by omega)
  have rb := rootI_le hu (s := (b : Int)) (by omega) (by omega)
  have fa := root_root hu a (a : Int) (by omega) (by omega) (by omega)
  have fb := root_root hu b (b : Int) (by omega) (by omega) (by omega)
  unfold jl
  simp only [labI_get _ _ _ ha, labI_get _ _ _ hb]
  unfold labI joinM
  rw [List.map_map]
  apply List.map_congr_left
  intro s hs
  have hs' := List.mem_range.1 hs
  have rs := rootI_le hu (s := (s : Int)) (by omega) (by omega)
  simp only [Function.comp]
  by_cases h : rootI up (a : Int) > rootI up (b : Int)
  · rw [if_pos h, root_set hu rb.1 (by omega) (by omega) fa fb s (s : Int) (by omega) (by omega) (by omega)]
    by_cases e : rootI up (s : Int) = rootI up (a : Int)
    · rw [if_pos e, if_pos (by omega)]; omega
    · rw [if_neg e, if_neg (by omega)]
  · rw [if_neg h, root_set hu ra.1 (by omega) (by omega) fb fa s (s : Int) (by omega) (by omega) (by omega)]
    by_cases e : rootI up (s : Int) = rootI up (b : Int)
    · rw [if_pos e, if_pos (by omega)]; omega
    · rw [if_neg e, if_neg (by omega)]
theorem labI_len (n : Nat) (up : List Int) : (labI n up).length = n := by simp [labI]
theorem labI_row {n : Nat} {p : List Int} (hp : p.length = n) (hr : ∀ x ∈ p, 0 ≤ x ∧ x < n) : ∀ (m : Nat) (up : List Int), m ≤ n → upB n up →
    labI n ((List.range m).foldl (fun up (s : Nat) => joinM up (s : Int) (p.getD s 0)) up) = (List.range m).foldl (fun lab (s : Nat) => jl lab s ((NN p).getD s 0)) (labI n up)
  | 0, up, _, _ => rfl
  | m + 1, up, hm, hu => by
    rw [List.range_succ, List.foldl_append, List.foldl_append]
    have ih := labI_row hp hr m up (by omega) hu
    have I := fold_upB hp hr m up (by omega) hu
    have hx : 0 ≤ p.getD m 0 ∧ p.getD m 0 < (n : Int) := by
      have hlt : m < p.length := by omega
      rw [List.getD_eq_getElem?_getD, List.getElem?_eq_getElem hlt]
      exact hr _ (List.getElem_mem _)
    simp only [List.foldl_cons, List.foldl_nil]
    rw [← ih, ← NN_getD]
    generalize p.getD m 0 = x at hx ⊢
    obtain ⟨v, rfl⟩ : ∃ v : Nat, x = v := ⟨x.toNat, by omega⟩
    rw [labI_join I (by omega) (by omega), Int.toNat_natCast]
theorem labI_rowM {n : Nat} {up p : List Int} (hp : p.length = n) (hr : ∀ x ∈ p, 0 ≤ x ∧ x < n) (hu : upB n up) : labI n (rowM n up p) = rowN (labI n up) (NN p) := by
  unfold rowM rowN
  rw [labI_row hp hr n up (Nat.le_refl _) hu, labI_len]
theorem labI_id (n : Nat) : labI n (idM n) = idN n := by
  unfold labI idN
  conv => rhs; rw [← List.map_id (List.range n)]
  apply List.map_congr_left
  intro s hs
  have hs' := List.mem_range.1 hs
  have : rootI (idM n) (s : Int) = s := (rootI_self (upB_id n) (by omega) (by omega)).2 (by simp [idM, hs'])
  rw [this]; simp
theorem outM2_len {n : Nat} {up : List Int} (hu : upB n up) : (outM2 n up).length = partN (labI n up) := by
  unfold outM2 partN
  rw [labI_len]
  suffices h : ∀ m, m ≤ n → ((List.range m).foldl (fun out (s : Nat) => if up.getD s 0 = (s : Int) then out ++ [ownM n up s] else out) []).length = ((List.range m).filter fun s => Nat.beq ((labI n up).getD s 0) s).length from h n (Nat.le_refl _)
  intro m
  induction m with
  | zero => intro _; rfl
  | succ m ih =>
    intro hm
    rw [List.range_succ, List.foldl_append, List.filter_append, List.length_append, ← ih (by omega)]
    simp only [List.foldl_cons, List.foldl_nil]
    have sf := rootI_self hu (s := (m : Int)) (by omega) (by omega)
    have rm := rootI_le hu (s := (m : Int)) (by omega) (by omega)
    rw [Int.toNat_natCast] at sf
    by_cases e : up.getD m 0 = (m : Int)
    · have h2 : Nat.beq ((labI n up).getD m 0) m = true := by rw [labI_get _ _ _ (by omega), sf.2 e]; simp
      have fs : [m].filter (fun s => Nat.beq ((labI n up).getD s 0) s) = [m] := by rw [List.filter_cons, if_pos h2]; rfl
      rw [if_pos e, fs, List.length_append]; rfl
    · have h2 : ¬ Nat.beq ((labI n up).getD m 0) m = true := by
        rw [labI_get _ _ _ (by omega)]
        exact fun h => e (sf.1 (by have := Nat.eq_of_beq_eq_true h; omega))
      have fs : [m].filter (fun s => Nat.beq ((labI n up).getD s 0) s) = [] := by rw [List.filter_cons, if_neg h2]; rfl
      rw [if_neg e, fs]; rfl
/-! the inequality, carried over transpositions and rows -/
structure INV (n : Nat) (lab P : List Nat) (T : Nat) : Prop where
  l : (labsN n).contains lab = true
  p : (permsN n).contains P = true
  r : refN lab P = true
  le : 2 * n + cyN P ≤ T + n + 2 * partN lab
  par : (T + n + cyN P) % 2 = 0
theorem mem_of {l : List (List Nat)} {x : List Nat} (h : l.contains x = true) : x ∈ l := by simpa using h
theorem inv_step {n : Nat} (hn : n < 6) {lab P : List Nat} {T a b : Nat} (h : INV n lab P T) (hb : b < n) (hab : a < b) : INV n (jl lab a b) (thenN P (trN n a b)) (T + 1) := by
  have A := allS_ok n hn
  simp only [allS, Bool.and_eq_true] at A
  have s1 := A.1
  simp only [S1, S1a, List.all_eq_true] at s1
  have := s1 lab (mem_of h.l) P (mem_of h.p)
  rw [h.r] at this
  simp only [Bool.not_true, Bool.false_or, List.all_eq_true, List.mem_range, Bool.or_eq_true] at this
  rcases this a (by omega) b hb with e | e
  · exact absurd (Nat.le_of_ble_eq_true e) (by omega)
  · simp only [stepOk, Bool.and_eq_true, beq_iff_eq] at e
    obtain ⟨⟨⟨⟨e1, e2⟩, e3⟩, e4⟩, e5⟩ := e
    have e1' := Nat.le_of_ble_eq_true e1
    have hp := h.par
    have hl := h.le
    exact ⟨e4, e5, e3, by omega, by omega⟩
theorem inv_steps {n : Nat} (hn : n < 6) : ∀ (ts : List (Nat × Nat)) {lab P : List Nat} {T : Nat}, (∀ t ∈ ts, t.2 < n ∧ t.1 < t.2) → INV n lab P T →
    INV n (ts.foldl (fun lab t => jl lab t.1 t.2) lab) (ts.foldl (fun q t => thenN q (trN n t.1 t.2)) P) (T + ts.length)
  | [], lab, P, T, _, h => h
  | t :: ts, lab, P, T, ht, h => by
    have a := ht t (by simp)
    have := inv_steps hn ts (fun u hu => ht u (by simp [hu])) (inv_step hn h a.1 a.2)
    rw [List.foldl_cons, List.foldl_cons, List.length_cons, show T + (ts.length + 1) = T + 1 + ts.length by omega]
    exact this
theorem then_assoc {n : Nat} {P Q R : List Nat} (hP : ∀ y ∈ P, y < n) (hQ : Q.length = n) : thenN (thenN P Q) R = thenN P (thenN Q R) := by
  unfold thenN
  rw [List.map_map]
  apply List.map_congr_left
  intro y hy
  have : y < Q.length := by rw [hQ]; exact hP y hy
  simp [Function.comp, this]
theorem then_fold {n : Nat} {P : List Nat} (hP : ∀ y ∈ P, y < n) : ∀ (ts : List (Nat × Nat)) (Q : List Nat), Q.length = n →
    ts.foldl (fun q t => thenN q (trN n t.1 t.2)) (thenN P Q) = thenN P (ts.foldl (fun q t => thenN q (trN n t.1 t.2)) Q)
  | [], Q, _ => rfl
  | t :: ts, Q, hQ => by
    rw [List.foldl_cons, List.foldl_cons, then_assoc hP hQ]
    exact then_fold hP ts _ (by simp [thenN, hQ])
theorem then_id {n : Nat} {P : List Nat} (hP : ∀ y ∈ P, y < n) : thenN P (idN n) = P := by
  unfold thenN
  conv => rhs; rw [← List.map_id P]
  apply List.map_congr_left
  intro y hy
  simp [idN, hP y hy]
theorem inv_row {n : Nat} (hn : n < 6) {lab P p : List Nat} {T : Nat} (h : INV n lab P T) (hp : (permsN n).contains p = true) : INV n (rowN lab p) (thenN P p) (T + (n - cyN p)) ∧ cyN p ≤ n := by
  have A := allS_ok n hn
  simp only [allS, Bool.and_eq_true] at A
  have s2 := A.2.1
  have s3 := A.2.2.1
  have s5 := A.2.2.2.2
  simp only [S2, List.all_eq_true] at s2
  simp only [S3, S3a, List.all_eq_true] at s3
  simp only [S5, List.all_eq_true] at s5
  have q2 := s2 p (mem_of hp)
  have q3 := s3 lab (mem_of h.l) p (mem_of hp)
  have q5 := s5 P (mem_of h.p)
  simp only [Bool.and_eq_true, beq_iff_eq, List.all_eq_true] at q2 q3 q5
  obtain ⟨⟨d1, d2⟩, d3⟩ := q2
  have hP : ∀ y ∈ P, y < n := fun y hy => by have := q5.1 y hy; simpa [Nat.blt_eq] using this
  have st := inv_steps hn (dec p) (lab := lab) (P := P) (T := T) (fun t ht => by
    have := d3 t ht
    simp only [Bool.and_eq_true, Nat.blt_eq] at this
    exact this) h
  have e1 : (dec p).foldl (fun q t => thenN q (trN n t.1 t.2)) P = thenN P p := by
    have := then_fold hP (dec p) (idN n) (by simp [idN])
    rw [then_id hP, d1] at this
    exact this
  rw [e1, ← q3] at st
  refine ⟨?_, by omega⟩
  have e2 : (dec p).length = n - cyN p := by omega
  rw [e2] at st
  exact st
theorem inv_zero {n : Nat} (hn : n < 6) : INV n (idN n) (idN n) 0 := by
  have A := allS_ok n hn
  simp only [allS, Bool.and_eq_true] at A
  have s4 := A.2.2.2.1
  simp only [S4, Bool.and_eq_true, beq_iff_eq] at s4
  obtain ⟨⟨⟨⟨a, b⟩, c⟩, d⟩, e⟩ := s4
  exact ⟨a, b, c, by rw [d, e]; omega, by rw [e]; omega⟩
/-- sheets less cycles, of all rows -/
def lessN : List (List Int) → Nat
  | [] => 0
  | p :: xs => (p.length - cyN (NN p)) + lessN xs
theorem inv_rows {n : Nat} (h1 : 1 ≤ n) (hn : n < 6) : ∀ (xs : List (List Int)) (up P : List Int) (T : Nat), (∀ p ∈ xs, permN n p) → upB n up → INV n (labI n up) (NN P) T →
    INV n (labI n (xs.foldl (rowM n) up)) (NN (xs.foldl thenM P)) (T + lessN xs)
  | [], up, P, T, _, _, h => h
  | p :: xs, up, P, T, hx, hu, h => by
    have pp := hx p (by simp)
    have po := permN_of pp
    have st := (inv_row hn h (NN_perm pp h1 (by omega))).1
    rw [← labI_rowM po.1 po.2.1 hu, ← NN_then] at st
    have := inv_rows h1 hn xs (rowM n up p) (thenM P p) _ (fun q hq => hx q (by simp [hq])) (rowM_I po.1 po.2.1 hu) st
    rw [List.foldl_cons, List.foldl_cons]
    have e : T + lessN (p :: xs) = T + (n - cyN (NN p)) + lessN xs := by simp only [lessN, po.1]; omega
    rw [e]; exact this

theorem laws_szIntS_is (xs : List Int) (left : Int) (h0 : 0 ≤ left) (h1 : left ≤ 1048576) (h2 : xs.length ≤ 9223372036854775807) : laws_szIntS.f xs left = some (if (xs.length : Int) ≤ left then left - xs.length else -1) := by
  unfold laws_szIntS.f
  rw [w64 (by omega) (by omega)]
  by_cases h : (xs.length : Int) ≤ left
  · rw [if_neg (by omega), if_pos h]
  · rw [if_pos (by omega), if_neg h]

def marks : Nat → Int → List Int
  | 0, _ => []
  | n + 1, k => k :: marks n (k + 1)
theorem marks_length (n : Nat) : ∀ k, (marks n k).length = n := by
  induction n with
  | zero => intro k; rfl
  | succ n ih => intro k; simp [marks, ih]

def total : List (List Int) → Nat
  | [] => 0
  | r :: rs => r.length + total rs
def marksL : List (List Int) → Int → List (List Int)
  | [], _ => []
  | r :: rs, k => marks r.length k :: marksL rs (k + r.length)
theorem total_mem {r : List Int} : ∀ {xs : List (List Int)}, r ∈ xs → r.length ≤ total xs
  | [], h => by cases h
  | x :: xs, h => by
    rcases List.mem_cons.1 h with rfl | h
    · simp [total]
    · have := total_mem h; simp only [total]; omega
theorem marksL_length : ∀ (xs : List (List Int)) (k : Int), (marksL xs k).length = xs.length
  | [], _ => rfl
  | x :: xs, k => by simp [marksL, marksL_length xs]
/-- what szIntSS answers -/
def szM (xs : List (List Int)) (left : Int) : Int := if (xs.length : Int) + total xs ≤ left then left - xs.length - total xs else -1

theorem laws_szIntSS_l0 (xs : List (List Int)) (hn : xs.length < 4611686018427387904) (hr : ∀ r ∈ xs, r.length ≤ 9223372036854775807) : ∀ (suf pre : List (List Int)) (left : Int), xs = pre ++ suf → 0 ≤ left → left ≤ 1048576 →
    EV (fun k => laws_szIntSS.l0 k xs left (pre.length : Int)) (if (total suf : Int) ≤ left then left - total suf else -1) := by
  intro suf
  induction suf with
  | nil =>
    intro pre left h h0 h1
    refine EV.step (fun k => by rw [laws_szIntSS.l0]) ?_
    exact EV.neg (by subst h; simp) ((EV.now _).eq (by rw [if_pos (by simp [total]; omega)]; simp [total]))
  | cons x suf ih =>
    intro pre left h h0 h1
    have hl : pre.length < 4611686018427387904 := by subst h; simp at hn; omega
    have hlt : (pre.length : Int) < (xs.length : Int) := by subst h; exact lt_app ..
    have hx : rd_L1 xs (pre.length : Int) = x := by subst h; exact rdL_app ..
    have hx' : x.length ≤ 9223372036854775807 := hr x (by subst h; simp)
    refine EV.step (fun k => by rw [laws_szIntSS.l0]) ?_
    rw [hx, up (x := x) hl]
    refine EV.pos hlt (EV.pos (by omega) (EV.by (laws_szIntS_is x left h0 h1 hx') ?_))
    by_cases hs : (x.length : Int) ≤ left
    · rw [if_pos hs]
      refine EV.neg (by omega) ((ih (pre ++ [x]) (left - x.length) (by simp [h]) (by omega) (by omega)).eq ?_)
      have e : total (x :: suf) = x.length + total suf := rfl
      by_cases ht : (total suf : Int) ≤ left - x.length
      · rw [if_pos ht, if_pos (by rw [e]; omega), e]; omega
      · rw [if_neg ht, if_neg (by rw [e]; omega)]
    · rw [if_neg hs]
      exact EV.pos (by omega) ((EV.now _).eq (by rw [if_neg (by simp only [total]; omega)]))
theorem laws_szIntSS_is (xs : List (List Int)) (left : Int) (h0 : 0 ≤ left) (h1 : left ≤ 1048576) (hn : xs.length ≤ 9223372036854775807) (hr : ∀ r ∈ xs, r.length ≤ 9223372036854775807) : EV (fun k => laws_szIntSS.f k xs left) (szM xs left) := by
  unfold szM
  have e : wrap64 (left - (xs.length : Int)) = left - xs.length := w64 (by omega) (by omega)
  refine EV.congr (fun k => by rw [laws_szIntSS.f, e]) ?_
  by_cases h : (xs.length : Int) ≤ left
  · refine EV.neg (by omega) ((laws_szIntSS_l0 xs (by omega) hr xs [] (left - xs.length) rfl (by omega) (by omega)).eq ?_)
    by_cases ht : (total xs : Int) ≤ left - xs.length
    · rw [if_pos ht, if_pos (by omega)]
    · rw [if_neg ht, if_neg (by omega)]
  · exact EV.pos (by omega) ((EV.now _).eq (by rw [if_neg (by omega)]))

theorem laws_toIntS_l0 (xs : List Int) (hn : xs.length < 4611686018427387904) : ∀ suf pre, xs = pre ++ suf → EV (fun k => laws_toIntS.l0 k xs (pre ++ List.replicate suf.length 0) (pre.length : Int)) xs := by
  intro suf
  induction suf with
  | nil =>
    intro pre h
    refine EV.step (fun k => by rw [laws_toIntS.l0]) ?_
    refine (EV.neg ?_ ((EV.now _).eq ?_))
    · subst h; simp
    · subst h; simp
  | cons x suf ih =>
    intro pre h
    have hl : pre.length < 4611686018427387904 := by subst h; simp at hn; omega
    have hlt : (pre.length : Int) < (xs.length : Int) := by subst h; exact lt_app ..
    have hx : rd xs (pre.length : Int) = x := by subst h; exact rd_app ..
    refine EV.step (fun k => by rw [laws_toIntS.l0]) ?_
    refine (EV.pos hlt (EV.pos (by omega) (EV.pos (by simp; omega) ?_)))
    rw [hx, up (x := x) hl, List.length_cons, List.replicate_succ, set_app _ _ _ _ _ (by simp)]
    have := ih (pre ++ [x]) (by simp [h])
    simpa using this
theorem laws_toIntS_is (xs : List Int) (hn : xs.length ≤ 1048576) : EV (fun k => laws_toIntS.f k xs) xs := by
  refine EV.pos (by omega) (EV.pos (by omega) ?_)
  exact laws_toIntS_l0 xs (by omega) xs [] rfl

theorem laws_toIntSS_l0 (xs : List (List Int)) (hn : xs.length < 4611686018427387904) (hr : ∀ r ∈ xs, r.length ≤ 1048576) : ∀ (suf pre : List (List Int)), xs = pre ++ suf →
    EV (fun k => laws_toIntSS.l0 k xs (pre ++ List.replicate suf.length []) (pre.length : Int)) xs := by
  intro suf
  induction suf with
  | nil =>
    intro pre h
    refine EV.step (fun k => by rw [laws_toIntSS.l0]) ?_
    exact EV.neg (by subst h; simp) ((EV.now _).eq (by subst h; simp))
  | cons x suf ih =>
    intro pre h
    have hl : pre.length < 4611686018427387904 := by subst h; simp at hn; omega
    have hlt : (pre.length : Int) < (xs.length : Int) := by subst h; exact lt_app ..
    have hx : rd_L1 xs (pre.length : Int) = x := by subst h; exact rdL_app ..
    have hx' : x.length ≤ 1048576 := hr x (by subst h; simp)
    refine EV.step (fun k => by rw [laws_toIntSS.l0]) ?_
    rw [hx, up (x := x) hl]
    refine EV.pos hlt (EV.pos (by omega) (EV.bind (laws_toIntS_is x hx') (EV.pos (by simp; omega) ?_)))
    rw [List.length_cons, List.replicate_succ, set_app _ _ _ _ _ (by simp)]
    have := ih (pre ++ [x]) (by simp [h])
    simpa using this
theorem laws_toIntSS_is (xs : List (List Int)) (hn : xs.length ≤ 1048576) (hr : ∀ r ∈ xs, r.length ≤ 1048576) : EV (fun k => laws_toIntSS.f k xs) xs := by
  refine EV.pos (by omega) (EV.pos (by omega) ?_)
  exact laws_toIntSS_l0 xs (by omega) hr xs [] rfl

theorem laws_eqIntS_l0 (xs ys : List Int) (hn : xs.length < 4611686018427387904) : ∀ (suf suf' pre : List Int), pre.length + suf.length = xs.length → pre.length + suf'.length = ys.length → suf.length = suf'.length → xs.drop pre.length = suf → ys.drop pre.length = suf' →
    EV (fun k => laws_eqIntS.l0 k xs ys (pre.length : Int)) (decide (suf = suf')) := by
  intro suf
  induction suf with
  | nil =>
    intro suf' pre h1 h2 h3 h4 h5
    have : suf' = [] := List.eq_nil_of_length_eq_zero (by simpa using h3.symm)
    subst this
    refine EV.step (fun k => by rw [laws_eqIntS.l0]) ?_
    refine (EV.neg ?_ ((EV.now _).eq (by simp)))
    simp at h1; omega
  | cons x suf ih =>
    intro suf' pre h1 h2 h3 h4 h5
    obtain ⟨y, suf', rfl⟩ : ∃ y t, suf' = y :: t := by
      cases suf' with
      | nil => simp at h3
      | cons y t => exact ⟨y, t, rfl⟩
    simp only [List.length_cons] at h1 h2 h3
    have hl : pre.length < 4611686018427387904 := by omega
    have hx : rd xs (pre.length : Int) = x := by
      rw [rd_nat _ _ (by omega)]
      have := List.getElem_drop (xs := xs) (i := pre.length) (j := 0) (h := by simp; omega)
      simp only [h4] at this; simpa using this.symm
    have hy : rd ys (pre.length : Int) = y := by
      rw [rd_nat _ _ (by omega)]
      have := List.getElem_drop (xs := ys) (i := pre.length) (j := 0) (h := by simp; omega)
      simp only [h5] at this; simpa using this.symm
    refine EV.step (fun k => by rw [laws_eqIntS.l0]) ?_
    refine (EV.pos (by omega) (EV.pos (by omega) (EV.pos (by omega) ?_)))
    rw [hx, hy, up (x := x) hl]
    by_cases hs : x = y
    · refine EV.pos hs ((ih suf' _ (by simp; omega) (by simp; omega) (by omega) ?_ ?_).eq (by simp [hs]))
      · rw [List.length_append, ← List.drop_drop, h4]; rfl
      · rw [List.length_append, ← List.drop_drop, h5]; rfl
    · exact (EV.neg hs (EV.now _)).eq (by simp [hs])
theorem laws_eqIntS_is (xs ys : List Int) (hn : xs.length < 4611686018427387904) : EV (fun k => laws_eqIntS.f k xs ys) (decide (xs = ys)) := by
  by_cases h : xs.length = ys.length
  · exact EV.pos (by omega) (laws_eqIntS_l0 xs ys hn xs ys [] (by simp) (by simp) h rfl rfl)
  · exact (EV.neg (by omega) (EV.now _)).eq (by simp; intro e; exact h (by rw [e]))
theorem laws_eqIntS_self (xs : List Int) (hn : xs.length < 4611686018427387904) : EV (fun k => laws_eqIntS.f k xs xs) true := (laws_eqIntS_is xs xs hn).eq (by simp)

theorem laws_eqIntSS_l0 (xs : List (List Int)) (hn : xs.length < 4611686018427387904) (hr : ∀ r ∈ xs, r.length < 4611686018427387904) : ∀ (suf pre : List (List Int)), xs = pre ++ suf →
    EV (fun k => laws_eqIntSS.l0 k xs xs (pre.length : Int)) true := by
  intro suf
  induction suf with
  | nil =>
    intro pre h
    refine EV.step (fun k => by rw [laws_eqIntSS.l0]) ?_
    exact EV.neg (by subst h; simp) (EV.now _)
  | cons x suf ih =>
    intro pre h
    have hl : pre.length < 4611686018427387904 := by subst h; simp at hn; omega
    have hlt : (pre.length : Int) < (xs.length : Int) := by subst h; exact lt_app ..
    have hx : rd_L1 xs (pre.length : Int) = x := by subst h; exact rdL_app ..
    have hx' : x.length < 4611686018427387904 := hr x (by subst h; simp)
    refine EV.step (fun k => by rw [laws_eqIntSS.l0]) ?_
    rw [hx, up (x := x) hl]
    refine EV.pos hlt (EV.pos (by omega) (EV.pos (by omega) (EV.bind (laws_eqIntS_self x hx') (EV.pos rfl ?_))))
    exact ih (pre ++ [x]) (by simp [h])
theorem laws_eqIntSS_self (xs : List (List Int)) (hn : xs.length < 4611686018427387904) (hr : ∀ r ∈ xs, r.length < 4611686018427387904) : EV (fun k => laws_eqIntSS.f k xs xs) true :=
  EV.pos rfl (laws_eqIntSS_l0 xs hn hr xs [] rfl)

theorem spec_l1In_is (a b c : Int) : spec_l1In.f a b c = some (decide (b ≤ a ∧ a ≤ c)) := by
  unfold spec_l1In.f
  by_cases h : a ≥ b
  · rw [if_pos h]; simp [show b ≤ a from h]
  · rw [if_neg h]; simp; omega

theorem spec_l6Perm_l0 (p : List Int) (hn : p.length < 4611686018427387904) : ∀ (suf pre : List Int), p = pre ++ suf → pre.Nodup →
    EV (fun k => spec_l6Perm.l0 k p (seenM p.length pre) (pre.length : Int)) (suf.all (inB p.length) && decide (pre ++ suf).Nodup) := by
  intro suf
  induction suf with
  | nil =>
    intro pre h hp
    refine EV.step (fun k => by rw [spec_l6Perm.l0]) ?_
    exact EV.neg (by subst h; simp) ((EV.now _).eq (by simp [hp]))
  | cons x suf ih =>
    intro pre h hp
    have hpl : pre.length < 4611686018427387904 := by subst h; simp at hn; omega
    have hlt : (pre.length : Int) < (p.length : Int) := by subst h; exact lt_app ..
    have hx : rd p (pre.length : Int) = x := by subst h; exact rd_app ..
    refine EV.step (fun k => by rw [spec_l6Perm.l0]) ?_
    rw [hx, up (x := x) hpl, w64 (x := (p.length : Int) - 1) (by omega) (by omega)]
    refine EV.pos hlt (EV.pos (by omega) (EV.by (spec_l1In_is _ _ _) ?_))
    by_cases hb : inB p.length x = true
    · have b := inB_of hb
      refine EV.pos (by simp; omega) (EV.pos b.1 (EV.pos (by simp [seenM]; omega) ?_))
      rw [show rdOf false (seenM p.length pre) x = decide (x ∈ pre) by unfold seenM; rw [rdOf_tab _ _ _ _ b.1 b.2, show ((x.toNat : Nat) : Int) = x by omega]]
      by_cases hm : x ∈ pre
      · refine EV.pos (by simpa using hm) ((EV.now _).eq ?_)
        rw [decide_eq_false, Bool.and_false]
        intro c
        exact (List.nodup_append.1 c).2.2 x hm x (by simp) rfl
      · refine EV.neg (by simpa using hm) ?_
        rw [seenM_snoc _ _ _ b.1]
        refine (ih (pre ++ [x]) (by simp [h]) ?_).eq (by simp [hb])
        rw [List.nodup_append]
        refine ⟨hp, by simp, fun a ha c hc => ?_⟩
        rw [List.mem_singleton] at hc
        intro e; exact hm (by rw [← hc, ← e]; exact ha)
    · refine EV.neg (by simp only [inB, decide_eq_true_iff] at hb; simp; omega) ((EV.now _).eq ?_)
      rw [List.all_cons, show inB p.length x = false by simpa using hb]; simp
theorem spec_l6Perm_is (p : List Int) (hn : p.length < 4294967296) : EV (fun k => spec_l6Perm.f k p) (permB p) := by
  refine EV.pos (by omega) (EV.pos (by omega) ?_)
  have := spec_l6Perm_l0 p (by omega) p [] rfl List.nodup_nil
  rw [seenM_nil] at this
  exact this

theorem spec_l9Perms_is (l : List (List Int)) (hn : l.length < 4294967296) (hr : ∀ r ∈ l, r.length < 4294967296) : EV (fun k => spec_l9Perms.f k l) (permsB l) := by
  have := EV.scan (g := fun k i => spec_l9Perms.l0 k l i) l (sheetB (d0 l)) (decide (1 ≤ l.length ∧ l.length ≤ 8) && decide (1 ≤ d0 l ∧ d0 l ≤ 5)) (fun i h r H1 H2 => ?_) ?_
  · refine EV.eq this ?_
    rw [Bool.eq_iff_iff]
    simp only [permsB, sheetsB, Bool.and_eq_true, decide_eq_true_iff]
    constructor
    · intro h; exact ⟨⟨by omega, h.2.2, h.1⟩, by omega⟩
    · intro h; exact ⟨h.1.2.2, ⟨by omega, by omega⟩, h.1.2.1⟩
  · refine EV.step (fun k => by rw [spec_l9Perms.l0]) ?_
    rw [rdL_nat _ _ h, w64 (x := (i : Int) + 1) (by omega) (by omega), rdL_zero]
    refine EV.pos (by omega) (EV.pos (by omega) (EV.pos (by omega) ?_))
    by_cases hl : (l[i]).length = d0 l
    · refine EV.pos (by unfold d0 at hl; omega) (EV.bind (spec_l6Perm_is _ (hr _ (List.getElem_mem h))) ?_)
      exact EV.cases (fun c => H1 (by simp [sheetB, hl, c])) (fun c => (EV.now _).eq (H2 (by simp [sheetB, hl]; simpa using c)).symm)
    · exact EV.neg (by unfold d0 at hl; omega) ((EV.now _).eq (H2 (by simp [sheetB, hl])).symm)
  · refine EV.step (fun k => by rw [spec_l9Perms.l0]) ?_
    refine EV.neg (by omega) (EV.by (spec_l1In_is _ _ _) ?_)
    by_cases h : 1 ≤ l.length ∧ l.length ≤ 8
    · refine EV.pos (by simp; omega) (EV.pos (by omega) (EV.by (spec_l1In_is _ _ _) ((EV.now _).eq ?_)))
      rw [rdL_zero, Bool.eq_iff_iff]
      simp [d0]; omega
    · refine EV.neg (by simp; omega) ((EV.now _).eq ?_)
      simp [h]

theorem spec_l2Letter_is (a : Int) : spec_l2Letter.f a = some (letterB a) := by
  unfold spec_l2Letter.f
  rw [spec_l1In_is, spec_l1In_is]
  simp only [Option.bind_some]
  by_cases h : 1 ≤ a ∧ a ≤ 8
  · rw [if_pos (by simp [h])]; simp [letterB]; omega
  · rw [if_neg (by simpa using h)]; simp [letterB]; congr 1; rw [Bool.eq_iff_iff]; simp; omega

theorem spec_IsWord_is (xs : List Int) (hn : xs.length < 4611686018427387904) : EV (fun k => spec_IsWord.f k xs) (wordB xs) := by
  refine EV.scan (g := fun k i => spec_IsWord.l0 k xs i) xs letterB (decide (xs.length ≤ 24)) (fun i h r H1 H2 => ?_) ?_
  · refine EV.step (fun k => by rw [spec_IsWord.l0]) ?_
    rw [rd_nat _ _ h, w64 (x := (i : Int) + 1) (by omega) (by omega)]
    refine EV.pos (by omega) (EV.pos (by omega) (EV.by (spec_l2Letter_is _) ?_))
    exact EV.cases H1 (fun c => (EV.now _).eq (H2 (by simpa using c)).symm)
  · refine EV.step (fun k => by rw [spec_IsWord.l0]) ?_
    refine EV.neg (by omega) ((EV.now _).eq ?_)
    rw [Bool.eq_iff_iff]; simp; omega

theorem spec_l1Max_is (a b : Int) : spec_l1Max.f a b = some (if a > b then a else b) := by
  unfold spec_l1Max.f; split <;> rfl

theorem spec_l3Abs_is (a : Int) (h : -9223372036854775808 < a) (h' : a ≤ 9223372036854775807) : spec_l3Abs.f a = some (a.natAbs : Int) := by
  unfold spec_l3Abs.f
  rw [spec_l1Max_is, w64 (by omega) (by omega)]
  simp only [Option.bind_some]
  congr 1
  split <;> omega

theorem spec_l6Inverse_is (p : List Int) (hp : ∀ x ∈ p, 0 ≤ x ∧ x < p.length) (hn : p.length < 4294967296) : EV (fun k => spec_l6Inverse.f k p) (invM p) := by
  refine EV.pos (by omega) (EV.pos (by omega) ?_)
  refine EV.count (g := fun k s i => spec_l6Inverse.l0 k p s i) p.length (invK p) _ (fun i hi H => ?_) ?_
  · have hx := hp _ (List.getElem_mem hi)
    have hl : (invK p i).length = p.length := (invK_I p (by omega) i (by omega)).1
    refine EV.step (fun k => by rw [spec_l6Inverse.l0]) ?_
    rw [rd_nat _ _ hi, w64 (x := (i : Int) + 1) (by omega) (by omega)]
    refine EV.pos (by omega) (EV.pos (by omega) (EV.pos (by omega) (EV.pos (by omega) ?_)))
    rw [invK_succ] at H
    have e : p.getD i 0 = p[i] := by simp [hi]
    rw [e] at H
    exact H
  · refine EV.step (fun k => by rw [spec_l6Inverse.l0]) ?_
    exact EV.neg (by omega) (EV.now _)

theorem spec_l9Act_is (l : List (List Int)) (w : List Int) (s : Int) (hs : sheetsB l = true) (hw : lettersB l w) (hn : w.length < 4294967296) (h0 : 0 ≤ s) (h1 : s < d0 l) : EV (fun k => spec_l9Act.f k l w s) (actS l w s) := by
  have S := sheetsB_of hs
  refine EV.fold (g := fun k s i => spec_l9Act.l0 k l w s i) w (fun s a => (stepP l a).getD s.toNat 0) id (fun _ s => 0 ≤ s ∧ s < d0 l) (fun i h s r hI H => ?_) (fun s hI => ?_) s ⟨h0, h1⟩
  · have ha := hw _ (List.getElem_mem h)
    have I := stepP_I hs ha.1 ha.2.1
    have hi : (w[i]).natAbs - 1 < l.length := by omega
    have row := S.2.2.2 _ (List.getElem_mem hi)
    have e : l.getD ((w[i]).natAbs - 1) [] = l[(w[i]).natAbs - 1] := by simp [hi]
    have H := H (getD_in I.1 I.2 hI.1 hI.2)
    refine EV.step (fun k => by rw [spec_l9Act.l0]) ?_
    rw [rd_nat _ _ h, w64 (x := (i : Int) + 1) (by omega) (by omega)]
    refine EV.pos (by omega) (EV.pos (by omega) (EV.by (spec_l3Abs_is _ (by omega) (by omega)) ?_))
    rw [w64 (x := ((w[i]).natAbs : Int) - 1) (by omega) (by omega), show (((w[i]).natAbs : Int) - 1) = (((w[i]).natAbs - 1 : Nat) : Int) by omega, rdL_nat _ _ hi]
    refine EV.pos (by omega) (EV.pos (by omega) ?_)
    by_cases hneg : w[i] < 0
    · refine EV.pos hneg (EV.bind (spec_l6Inverse_is _ (permB_of row.2).1 (by omega)) ?_)
      have e2 : stepP l w[i] = invM l[(w[i]).natAbs - 1] := by unfold stepP; rw [if_pos hneg, e]
      rw [e2] at I H
      exact EV.pos hI.1 (EV.pos (by omega) H)
    · refine EV.neg hneg ?_
      have e2 : stepP l w[i] = l[(w[i]).natAbs - 1] := by unfold stepP; rw [if_neg hneg, e]
      rw [e2] at I H
      exact EV.pos hI.1 (EV.pos (by omega) H)
  · refine EV.step (fun k => by rw [spec_l9Act.l0]) ?_
    exact EV.neg (by omega) (EV.now _)

theorem spec_ActWord_is (l : List (List Int)) (w : List Int) (hn : l.length < 4294967296) (hr : ∀ r ∈ l, r.length < 4294967296) (hw : w.length < 4294967296) : EV (fun k => spec_ActWord.f k l w) (actM l w) := by
  have no : EV (fun k => spec_ActWord.j0 k l w true) [] := by
    refine EV.step (fun k => by rw [spec_ActWord.j0]) ?_
    exact EV.pos rfl (EV.now _)
  unfold actM
  refine EV.bind (spec_l9Perms_is l hn hr) ?_
  by_cases h1 : permsB l = true
  · refine EV.pos h1 (EV.bind (spec_IsWord_is w (by omega)) ?_)
    have hs : sheetsB l = true := by have := h1; simp only [permsB, Bool.and_eq_true] at this; exact this.1
    have S := sheetsB_of hs
    by_cases h2 : wordB w = true
    · rw [h2]
      refine EV.step (fun k => by rw [spec_ActWord.j0]) ?_
      refine EV.neg (by simp) ?_
      refine EV.scanC (g := fun k i => spec_ActWord.l0 k l w i) w (leB l.length) _ [] (fun i h H1 H2 => ?_) (fun h3 => ?_) (fun h3 => ?_)
      · have hx := letterB_of (all_getElem (wordB_of h2).1 i h)
        refine EV.step (fun k => by rw [spec_ActWord.l0]) ?_
        rw [rd_nat _ _ h, w64 (x := (i : Int) + 1) (by omega) (by omega)]
        refine EV.pos (by omega) (EV.pos (by omega) (EV.by (spec_l3Abs_is _ (by omega) (by omega)) ?_))
        exact EV.cases (fun c => (EV.now _).eq (H2 (by simp [leB]; omega)).symm) (fun c => H1 (by simp [leB]; omega))
      · have hok : wordOk l w = true := by unfold wordOk; rw [h2, h3]; rfl
        rw [if_pos ⟨h1, hok⟩]
        have L := letters_of hok
        refine EV.step (fun k => by rw [spec_ActWord.l0]) ?_
        refine EV.neg (by omega) ?_
        refine EV.count (g := fun k s i => spec_ActWord.l1 k l w s i) (d0 l) (fun i => (List.range i).map fun j : Nat => actS l w (j : Int)) _ (fun i hi H => ?_) ?_
        · refine EV.step (fun k => by rw [spec_ActWord.l1]) ?_
          rw [w64 (x := (i : Int) + 1) (by omega) (by omega), rdL_zero]
          refine EV.pos (by omega) (EV.pos (by unfold d0 at hi; omega) (EV.bind (spec_l9Act_is l w (i : Int) hs L.1 hw (by omega) (by omega)) (EV.pos (by simp; omega) ?_)))
          simpa [List.range_succ] using H
        · refine EV.step (fun k => by rw [spec_ActWord.l1]) ?_
          rw [rdL_zero]
          refine EV.pos (by omega) (EV.neg (by unfold d0; omega) ((EV.now _).eq ?_))
          simp [actL, idM, Function.comp_def]
      · rw [if_neg]
        intro c
        have := c.2
        unfold wordOk at this
        rw [h3, Bool.and_false] at this; cases this
    · rw [show wordB w = false by simpa using h2, if_neg]
      · exact no
      · intro c
        have := c.2
        unfold wordOk at this
        rw [Bool.and_eq_true] at this; exact h2 this.1
  · rw [if_neg (fun c => h1 c.1)]
    exact EV.neg h1 no

theorem spec_l9Whole_is (t : List Int) (hn : t.length < 4294967296) : EV (fun k => spec_l9Whole.f k t) (wholeB t) := by
  refine EV.countB (g := fun k i => spec_l9Whole.l0 k t i) t.length _ (decide (0 < t.length)) (fun i h r H1 H2 => ?_) ?_
  · have e : t.getD i 0 = t[i] := by simp [h]
    rw [e] at H1 H2
    refine EV.step (fun k => by rw [spec_l9Whole.l0]) ?_
    rw [rd_nat _ _ h, w64 (x := (i : Int) + 1) (by omega) (by omega)]
    refine EV.pos (by omega) (EV.pos (by omega) ?_)
    exact EV.cases (fun c => H1 (by simpa using c)) (fun c => (EV.now _).eq (H2 (by simpa using c)).symm)
  · refine EV.step (fun k => by rw [spec_l9Whole.l0]) ?_
    exact EV.neg (by omega) ((EV.now _).eq (by rw [Bool.eq_iff_iff]; simp))

theorem spec_l10Letters_is (n : Nat) (hn : n < 4294967296) : EV (fun k => spec_l10Letters.f k (n : Int)) (lettersM n) := by
  suffices h : ∀ (c i : Nat), i + c = n → EV (fun k => spec_l10Letters.l0 k (n : Int) (lettersM i) ((i : Int) + 1)) (lettersM n) by exact h n 0 (by omega)
  intro c
  induction c with
  | zero =>
    intro i h
    have : i = n := by omega
    subst this
    refine EV.step (fun k => by rw [spec_l10Letters.l0]) ?_
    exact EV.neg (by omega) (EV.now _)
  | succ c ih =>
    intro i h
    refine EV.step (fun k => by rw [spec_l10Letters.l0]) ?_
    rw [w64 (x := (i : Int) + 1 + 1) (by omega) (by omega)]
    refine EV.pos (by omega) (EV.pos (by simp [lettersM]; omega) ?_)
    have := ih (i + 1) (by omega)
    simpa [lettersM, List.range_succ] using this

def passB (l : List (List Int)) : Bool := decide (1 ≤ l.length ∧ l.length ≤ 5) && (sheetsB l && decide (actL l (lettersM l.length) = idM (d0 l)))
theorem spec_IsPassport_is (l : List (List Int)) (hn : l.length < 4294967296) (hr : ∀ r ∈ l, r.length < 4294967296) : EV (fun k => spec_IsPassport.f k l) (passB l) := by
  unfold passB
  refine EV.by (spec_l1In_is _ _ _) ?_
  by_cases h1 : 1 ≤ l.length ∧ l.length ≤ 5
  · refine EV.pos (by simp; omega) (EV.bind (spec_l9Perms_is l hn hr) ?_)
    rw [decide_eq_true h1, Bool.true_and]
    have e := permsB_le (l := l) (by omega)
    by_cases h2 : sheetsB l = true
    · have S := sheetsB_of h2
      refine EV.pos (by rw [e]; exact h2) (EV.bind (spec_l10Letters_is l.length hn) (EV.bind (spec_ActWord_is l _ hn hr (by simp [lettersM]; omega)) ?_))
      have e2 : actM l (lettersM l.length) = actL l (lettersM l.length) := by unfold actM; rw [if_pos ⟨by rw [e]; exact h2, letters_ok (by omega)⟩]
      rw [e2]
      refine EV.bind (spec_l9Whole_is _ (by rw [actL_len]; omega)) ((EV.now _).eq ?_)
      rw [wholeB_eq (actL_len _ _) S.2.1, h2, Bool.true_and]
    · refine EV.neg (by rw [e]; exact h2) ((EV.now _).eq ?_)
      rw [show sheetsB l = false by simpa using h2, Bool.false_and]
  · refine EV.neg (by simp; omega) ((EV.now _).eq ?_)
    rw [decide_eq_false h1, Bool.false_and]

theorem spec_l3Find_N {n : Nat} {up : List Int} (hu : upB n up) : ∀ (m : Nat) (s : Int), 0 ≤ s → s < n → s.toNat ≤ m → EV (fun k => spec_l3Find.l0 k up s) (rootN up m s)
  | 0, s, h0, h1, hm => by
    have a := up_get hu h0 h1
    refine EV.step (fun k => by rw [spec_l3Find.l0]) ?_
    rw [rd_getD]
    refine EV.pos h0 (EV.pos (by have := hu.1; omega) (EV.pos (by omega) ((EV.now _).eq rfl)))
  | m + 1, s, h0, h1, hm => by
    have a := up_get hu h0 h1
    refine EV.step (fun k => by rw [spec_l3Find.l0]) ?_
    rw [rd_getD]
    refine EV.pos h0 (EV.pos (by have := hu.1; omega) ?_)
    simp only [rootN]
    by_cases e : up.getD s.toNat 0 = s
    · rw [if_pos e]; exact EV.pos e (EV.now _)
    · rw [if_neg e]
      exact EV.neg e (spec_l3Find_N hu m _ a.1 (by omega) (by omega))
theorem spec_l3Find_is {n : Nat} {up : List Int} (hu : upB n up) {s : Int} (h0 : 0 ≤ s) (h1 : s < n) : EV (fun k => spec_l3Find.f k up s) (rootI up s) := spec_l3Find_N hu _ s h0 h1 (Nat.le_refl _)

theorem spec_l1Min_is (a b : Int) : spec_l1Min.f a b = some (if a < b then a else b) := by
  unfold spec_l1Min.f; split <;> rfl

theorem join_max {n : Nat} {up : List Int} (hu : upB n up) {a b : Int} (ha : 0 ≤ a ∧ a < n) (hb : 0 ≤ b ∧ b < n) :
    up.set (if rootI up a > rootI up b then rootI up a else rootI up b).toNat (if rootI up a < rootI up b then rootI up a else rootI up b) = joinM up a b := by
  unfold joinM
  by_cases h : rootI up a > rootI up b
  · rw [if_pos h, if_pos h, if_neg (by omega)]
  · rw [if_neg h, if_neg h]
    by_cases h2 : rootI up a < rootI up b
    · rw [if_pos h2]
    · rw [if_neg h2]
      have : rootI up a = rootI up b := by omega
      rw [this]
theorem spec_parts_own {n : Nat} {up : List Int} (hu : upB n up) (hn : n ≤ 5) (s : Nat) (hs : s < n) (out : List (List Int)) (ho : out.length ≤ 5) (R : List (List Int))
    (H : EV (fun k => spec_l9Parts.l3 k up (out ++ [ownM n up s]) (wrap64 ((s : Int) + 1))) R) : EV (fun k => spec_l9Parts.l4 k up out (s : Int) [] 0) R := by
  have hl := hu.1
  refine EV.foldC (g := fun k own t => spec_l9Parts.l4 k up out (s : Int) own t) (List.range n) (fun own (t : Nat) => if rootI up (t : Int) = (s : Int) then own ++ [(t : Int)] else own) (fun i own => own.length ≤ i) R (fun i hi own hI K => ?_) [] (by simp) (fun hI => ?_)
  · have hi' : i < n := by simpa using hi
    rw [List.getElem_range] at K
    refine EV.step (fun k => by rw [spec_l9Parts.l4]) ?_
    rw [w64 (x := (i : Int) + 1) (by omega) (by omega)]
    refine EV.pos (by omega) (EV.bind (spec_l3Find_is hu (by omega) (by omega)) ?_)
    by_cases e : rootI up (i : Int) = (s : Int)
    · rw [if_pos e] at K
      exact EV.pos e (EV.pos (by omega) (K (by simp; omega)))
    · rw [if_neg e] at K
      exact EV.neg e (K (by omega))
  · rw [List.length_range]
    refine EV.step (fun k => by rw [spec_l9Parts.l4]) ?_
    exact EV.neg (by omega) (EV.pos (by omega) H)
theorem spec_parts_out {n : Nat} {up : List Int} (hu : upB n up) (hn : n ≤ 5) : EV (fun k => spec_l9Parts.l3 k up [] 0) (outM2 n up) := by
  have hl := hu.1
  refine EV.fold (g := fun k out s => spec_l9Parts.l3 k up out s) (List.range n) (fun out (s : Nat) => if up.getD s 0 = (s : Int) then out ++ [ownM n up s] else out) id (fun i out => out.length ≤ i) (fun i hi out r hI K => ?_) (fun out hI => ?_) [] (by simp)
  · have hi' : i < n := by simpa using hi
    rw [List.getElem_range] at K
    refine EV.step (fun k => by rw [spec_l9Parts.l3]) ?_
    rw [rd_getD, Int.toNat_natCast]
    refine EV.pos (by omega) (EV.pos (by omega) ?_)
    by_cases e : up.getD i 0 = (i : Int)
    · rw [if_pos e] at K
      refine EV.pos e (spec_parts_own hu hn i hi' out (by omega) r ?_)
      rw [w64 (x := (i : Int) + 1) (by omega) (by omega)]
      exact K (by simp; omega)
    · rw [if_neg e] at K
      rw [w64 (x := (i : Int) + 1) (by omega) (by omega)]
      exact EV.neg e (K (by omega))
  · rw [List.length_range]
    refine EV.step (fun k => by rw [spec_l9Parts.l3]) ?_
    exact EV.neg (by omega) (EV.now _)
theorem spec_parts_row {l : List (List Int)} (hs : sheetsB l = true) (hn : l.length ≤ 1000) (i : Nat) (hi : i < l.length) (up : List Int) (hu : upB (d0 l) up) (R : List (List Int))
    (H : upB (d0 l) (rowM (d0 l) up l[i]) → EV (fun k => spec_l9Parts.l1 k l (rowM (d0 l) up l[i]) (wrap64 ((i : Int) + 1))) R) : EV (fun k => spec_l9Parts.l2 k l up (i : Int) 0) R := by
  have s := sheetsB_of hs
  have row := s.2.2.2 _ (List.getElem_mem hi)
  have P := (permB_of row.2).1
  refine EV.foldC (g := fun k up s => spec_l9Parts.l2 k l up (i : Int) s) (List.range (d0 l)) (fun up (s : Nat) => joinM up (s : Int) (l[i].getD s 0)) (fun _ up => upB (d0 l) up) R (fun j hj up hI K => ?_) up hu (fun hI => ?_)
  · have hj' : j < d0 l := by simpa using hj
    have hj2 : j < l[i].length := by omega
    rw [List.getElem_range] at K
    have hx : 0 ≤ l[i].getD j 0 ∧ l[i].getD j 0 < (d0 l : Nat) := by
      rw [List.getD_eq_getElem?_getD, List.getElem?_eq_getElem hj2]
      have := P _ (List.getElem_mem hj2)
      simp only [Option.getD_some]; omega
    have ra := rootI_le hI (s := (j : Int)) (by omega) (by omega)
    have rb := rootI_le hI hx.1 hx.2
    have hl := hI.1
    refine EV.step (fun k => by rw [spec_l9Parts.l2]) ?_
    rw [rdL_nat _ _ hi, rd_getD, Int.toNat_natCast, w64 (x := (j : Int) + 1) (by omega) (by omega)]
    refine EV.pos (by omega) (EV.bind (spec_l3Find_is hI (by omega) (by omega)) (EV.pos (by omega) (EV.pos (by omega) (EV.pos (by omega) (EV.pos (by omega) (EV.bind (spec_l3Find_is hI hx.1 hx.2) (EV.by (spec_l1Max_is _ _) (EV.by (spec_l1Min_is _ _) ?_))))))))
    rw [join_max hI (by omega) hx]
    refine EV.pos (by split <;> omega) (EV.pos (by split <;> omega) (K (joinM_I hI (by omega) hx)))
  · rw [List.length_range]
    have hl := hI.1
    refine EV.step (fun k => by rw [spec_l9Parts.l2]) ?_
    exact EV.neg (by omega) (H hI)
theorem spec_l9Parts_is {l : List (List Int)} (hs : sheetsB l = true) (hn : l.length ≤ 1000) : EV (fun k => spec_l9Parts.f k l) (partsM l) := by
  have s := sheetsB_of hs
  have hrow : (rd_L1 l 0).length = d0 l := by rw [rdL_zero]; rfl
  refine EV.count (g := fun k up i => spec_l9Parts.l0 k l up i) (d0 l) (fun i => idM i) _ (fun i hi H => ?_) ?_
  · refine EV.step (fun k => by rw [spec_l9Parts.l0]) ?_
    rw [hrow, w64 (x := (i : Int) + 1) (by omega) (by omega)]
    refine EV.pos (by omega) (EV.pos (by omega) (EV.pos (by simp [idM]; omega) ?_))
    have e : idM (i + 1) = idM i ++ [(i : Int)] := by simp [idM, List.range_succ]
    rw [e] at H; exact H
  · refine EV.step (fun k => by rw [spec_l9Parts.l0]) ?_
    rw [hrow]
    refine EV.pos (by omega) (EV.neg (by omega) ?_)
    refine EV.foldC (g := fun k up i => spec_l9Parts.l1 k l up i) l (rowM (d0 l)) (fun _ up => upB (d0 l) up) _ (fun i hi up hI K => ?_) (idM (d0 l)) (upB_id _) (fun hI => ?_)
    · refine EV.step (fun k => by rw [spec_l9Parts.l1]) ?_
      refine EV.pos (by omega) (spec_parts_row hs hn i hi up hI _ (fun h => ?_))
      rw [w64 (x := (i : Int) + 1) (by omega) (by omega)]
      exact K h
    · refine EV.step (fun k => by rw [spec_l9Parts.l1]) ?_
      exact EV.neg (by omega) (spec_parts_out (allM_I hs) s.2.2.1)

theorem impl_within_is (a b c : Int) : impl_within.f a b c = some (decide (b ≤ a ∧ a ≤ c)) := by
  unfold impl_within.f
  by_cases h : a ≥ b
  · rw [if_pos h]; simp [show b ≤ a from h]
  · rw [if_neg h]; simp; omega

theorem impl_isPermutation_l0 (p : List Int) (hn : p.length < 4611686018427387904) : ∀ (suf pre : List Int), p = pre ++ suf → pre.Nodup →
    EV (fun k => impl_isPermutation.l0 k p (seenM p.length pre) p (p.length : Int) (pre.length : Int)) (suf.all (inB p.length) && decide (pre ++ suf).Nodup) := by
  intro suf
  induction suf with
  | nil =>
    intro pre h hp
    refine EV.step (fun k => by rw [impl_isPermutation.l0]) ?_
    exact EV.neg (by subst h; simp) ((EV.now _).eq (by simp [hp]))
  | cons x suf ih =>
    intro pre h hp
    have hpl : pre.length < 4611686018427387904 := by subst h; simp at hn; omega
    have hlt : (pre.length : Int) < (p.length : Int) := by subst h; exact lt_app ..
    have hx : rd p (pre.length : Int) = x := by subst h; exact rd_app ..
    refine EV.step (fun k => by rw [impl_isPermutation.l0]) ?_
    rw [hx, up (x := x) hpl, w64 (x := (p.length : Int) - 1) (by omega) (by omega)]
    refine EV.pos hlt (EV.pos (by omega) (EV.pos hlt (EV.by (impl_within_is _ _ _) ?_)))
    by_cases hb : inB p.length x = true
    · have b := inB_of hb
      refine EV.pos (by simp; omega) (EV.pos b.1 (EV.pos (by simp [seenM]; omega) ?_))
      rw [show rdOf false (seenM p.length pre) x = decide (x ∈ pre) by unfold seenM; rw [rdOf_tab _ _ _ _ b.1 b.2, show ((x.toNat : Nat) : Int) = x by omega]]
      by_cases hm : x ∈ pre
      · refine EV.pos (by simpa using hm) ((EV.now _).eq ?_)
        rw [decide_eq_false, Bool.and_false]
        intro c
        exact (List.nodup_append.1 c).2.2 x hm x (by simp) rfl
      · refine EV.neg (by simpa using hm) ?_
        rw [seenM_snoc _ _ _ b.1]
        refine (ih (pre ++ [x]) (by simp [h]) ?_).eq (by simp [hb])
        rw [List.nodup_append]
        refine ⟨hp, by simp, fun a ha c hc => ?_⟩
        rw [List.mem_singleton] at hc
        intro e; exact hm (by rw [← hc, ← e]; exact ha)
    · refine EV.neg (by simp only [inB, decide_eq_true_iff] at hb; simp; omega) ((EV.now _).eq ?_)
      rw [List.all_cons, show inB p.length x = false by simpa using hb]; simp
theorem impl_isPermutation_is (p : List Int) (hn : p.length < 4294967296) : EV (fun k => impl_isPermutation.f k p) (permB p) := by
  refine EV.pos (by omega) (EV.pos (by omega) ?_)
  have := impl_isPermutation_l0 p (by omega) p [] rfl List.nodup_nil
  rw [seenM_nil] at this
  exact this

theorem impl_areSheets_is (l : List (List Int)) (hn : l.length < 4294967296) (hr : ∀ r ∈ l, r.length < 4294967296) : EV (fun k => impl_areSheets.f k l) (sheetsB l) := by
  have := EV.scan (g := fun k i => impl_areSheets.l0 k l l (l.length : Int) i) l (fun r => decide (1 ≤ r.length ∧ r.length ≤ 5) && sheetB (d0 l) r) (decide (0 < l.length)) (fun i h r H1 H2 => ?_) ?_
  · refine EV.eq this ?_
    rw [Bool.eq_iff_iff]
    simp only [sheetsB, sheetB, Bool.and_eq_true, decide_eq_true_iff, List.all_eq_true]
    constructor
    · intro h
      have z := h.1 _ (List.getElem_mem h.2)
      exact ⟨h.2, by omega, fun r hr => (h.1 r hr).2⟩
    · intro h
      exact ⟨fun r hr => ⟨by have := h.2.2 r hr; omega, h.2.2 r hr⟩, h.1⟩
  · refine EV.step (fun k => by rw [impl_areSheets.l0]) ?_
    rw [rdL_nat _ _ h, w64 (x := (i : Int) + 1) (by omega) (by omega), rdL_zero]
    refine EV.pos (by omega) (EV.pos (by omega) (EV.pos (by omega) (EV.pos (by omega) ?_)))
    by_cases hl : (l[i]).length = d0 l
    · refine EV.pos (by unfold d0 at hl; omega) (EV.by (impl_within_is _ _ _) ?_)
      by_cases h5 : 1 ≤ (l[i]).length ∧ (l[i]).length ≤ 5
      · refine EV.pos (by simp; omega) (EV.bind (impl_isPermutation_is _ (hr _ (List.getElem_mem h))) ?_)
        exact EV.cases (fun c => H1 (by simp only [sheetB, c, decide_eq_true hl, decide_eq_true h5, Bool.and_self])) (fun c => (EV.now _).eq (H2 (by simp only [sheetB, show permB l[i] = false by simpa using c, Bool.and_false])).symm)
      · exact EV.neg (by simp; omega) ((EV.now _).eq (H2 (by simp only [decide_eq_false h5, Bool.false_and])).symm)
    · exact EV.neg (by unfold d0 at hl; omega) ((EV.now _).eq (H2 (by simp [sheetB, hl])).symm)
  · refine EV.step (fun k => by rw [impl_areSheets.l0]) ?_
    exact EV.neg (by omega) ((EV.now _).eq (by rw [Bool.eq_iff_iff]; simp))

theorem impl_identity_is (n : Nat) (hn : n < 4294967296) : EV (fun k => impl_identity.f k (n : Int)) (idM n) := by
  refine EV.count (g := fun k s i => impl_identity.l0 k s (n : Int) i) n idM _ (fun i hi H => ?_) ?_
  · refine EV.step (fun k => by rw [impl_identity.l0]) ?_
    rw [w64 (x := (i : Int) + 1) (by omega) (by omega)]
    refine EV.pos (by omega) (EV.pos (by simp [idM]; omega) ?_)
    simpa [idM, List.range_succ] using H
  · refine EV.step (fun k => by rw [impl_identity.l0]) ?_
    exact EV.neg (by omega) (EV.now _)

theorem impl_sameInts_is (xs ys : List Int) (hn : xs.length < 4294967296) : EV (fun k => impl_sameInts.f k xs ys) (decide (xs = ys)) := by
  by_cases h : xs.length = ys.length
  · refine EV.pos (by omega) ?_
    have := EV.countB (g := fun k i => impl_sameInts.l0 k xs ys (xs.length : Int) i) xs.length (fun i => decide (xs.getD i 0 = ys.getD i 0)) true (fun i hi r H1 H2 => ?_) ?_
    · refine EV.eq this ?_
      rw [Bool.eq_iff_iff, Bool.and_true, List.all_eq_true, decide_eq_true_iff]
      constructor
      · intro hh
        apply List.ext_getElem h
        intro i h1 h2
        have := hh i (List.mem_range.2 h1)
        rw [decide_eq_true_iff] at this
        simpa [h1, h2] using this
      · intro e i _; rw [e]; simp
    · have hi' : i < ys.length := by omega
      have e1 : xs.getD i 0 = xs[i] := by simp [hi]
      have e2 : ys.getD i 0 = ys[i] := by simp [hi']
      rw [e1, e2] at H1 H2
      refine EV.step (fun k => by rw [impl_sameInts.l0]) ?_
      rw [rd_nat _ _ hi, rd_nat _ _ hi', w64 (x := (i : Int) + 1) (by omega) (by omega)]
      refine EV.pos (by omega) (EV.pos (by omega) (EV.pos (by omega) (EV.pos (by omega) ?_)))
      exact EV.cases (fun c => H1 (by simpa using c)) (fun c => (EV.now _).eq (H2 (by simpa using c)).symm)
    · refine EV.step (fun k => by rw [impl_sameInts.l0]) ?_
      exact EV.neg (by omega) (EV.now _)
  · exact EV.neg (by omega) ((EV.now _).eq (by simp; intro e; exact h (by rw [e])))

theorem impl_then_is (p q : List Int) (hp : ∀ x ∈ p, 0 ≤ x ∧ x < q.length) (hn : p.length < 4294967296) : EV (fun k => impl_then.f k p q) (thenM p q) := by
  have := EV.count (g := fun k s i => impl_then.l0 k q s p (p.length : Int) i) p.length (fun i => thenM (p.take i) q) (thenM p q) (fun i hi H => ?_) ?_
  · exact this
  · have hx := hp _ (List.getElem_mem hi)
    refine EV.step (fun k => by rw [impl_then.l0]) ?_
    rw [rd_nat _ _ hi, w64 (x := (i : Int) + 1) (by omega) (by omega)]
    refine EV.pos (by omega) (EV.pos (by omega) (EV.pos (by omega) (EV.pos hx.1 (EV.pos hx.2 (EV.pos (by simp [thenM]; omega) ?_)))))
    rw [List.take_succ_eq_append_getElem hi] at H
    have e : thenM (p.take i ++ [p[i]]) q = thenM (p.take i) q ++ [rd q p[i]] := by rw [thenM, List.map_append]; rfl
    rw [e] at H
    exact H
  · refine EV.step (fun k => by rw [impl_then.l0]) ?_
    rw [List.take_length]
    exact EV.neg (by omega) (EV.now _)

theorem impl_product_is (l : List (List Int)) (hs : sheetsB l = true) (hn : l.length < 4294967296) : EV (fun k => impl_product.f k l) (l.foldl thenM (idM (d0 l))) := by
  have S := sheetsB_of hs
  refine EV.pos (by omega) (EV.bind (a := idM (d0 l)) ?_ ?_)
  · rw [rdL_zero]; exact impl_identity_is (d0 l) (by omega)
  · refine EV.fold (g := fun k s i => impl_product.l0 k s l (l.length : Int) i) l thenM id (fun _ s => s.length = d0 l ∧ ∀ x ∈ s, 0 ≤ x ∧ x < d0 l) (fun i h s r hI H => ?_) (fun s hI => ?_) _ (idM_I _)
    · have row := S.2.2.2 _ (List.getElem_mem h)
      have hp := (permB_of row.2).1
      have H := H (thenM_I hI ⟨row.1, by rw [row.1] at hp; exact hp⟩)
      refine EV.step (fun k => by rw [impl_product.l0]) ?_
      rw [rdL_nat _ _ h, w64 (x := (i : Int) + 1) (by omega) (by omega)]
      exact EV.pos (by omega) (EV.pos (by omega) (EV.pos (by omega) (EV.bind (impl_then_is s _ (by rw [row.1]; exact hI.2) (by omega)) H)))
    · refine EV.step (fun k => by rw [impl_product.l0]) ?_
      exact EV.neg (by omega) (EV.now _)

theorem impl_IsPassport_is (l : List (List Int)) (hn : l.length < 4294967296) (hr : ∀ r ∈ l, r.length < 4294967296) : EV (fun k => impl_IsPassport.f k l) (passB l) := by
  have no : EV (fun k => impl_IsPassport.j0 k l true) false := by
    refine EV.step (fun k => by rw [impl_IsPassport.j0]) ?_
    exact EV.pos rfl (EV.now _)
  unfold passB
  refine EV.by (impl_within_is _ _ _) ?_
  by_cases h1 : 1 ≤ l.length ∧ l.length ≤ 5
  · refine EV.pos (by simp; omega) (EV.bind (impl_areSheets_is l hn hr) ?_)
    rw [decide_eq_true h1, Bool.true_and]
    by_cases h2 : sheetsB l = true
    · have S := sheetsB_of h2
      rw [h2, Bool.true_and]
      refine EV.step (fun k => by rw [impl_IsPassport.j0]) ?_
      refine EV.neg (by simp) (EV.bind (impl_product_is l h2 hn) (EV.pos (by omega) (EV.bind (a := idM (d0 l)) ?_ ?_)))
      · rw [rdL_zero]; exact impl_identity_is (d0 l) (by omega)
      · have e : l.foldl thenM (idM (d0 l)) = actL l (lettersM l.length) := by rw [← product_eq, actK_eq]; rfl
        rw [e]
        exact EV.bind (impl_sameInts_is _ _ (by rw [actL_len]; omega)) (EV.now _)
    · rw [show sheetsB l = false by simpa using h2, Bool.false_and]; exact no
  · refine EV.neg (by simp; omega) ?_
    rw [decide_eq_false h1, Bool.false_and]; exact no

theorem impl_top_N {n : Nat} {up : List Int} (hu : upB n up) : ∀ (m : Nat) (s : Int), 0 ≤ s → s < n → s.toNat ≤ m → EV (fun k => impl_parts.top k up s) (rootN up m s)
  | 0, s, h0, h1, hm => by
    have a := up_get hu h0 h1
    refine EV.step (fun k => by rw [impl_parts.top]) ?_
    rw [rd_getD]
    refine EV.pos h0 (EV.pos (by have := hu.1; omega) (EV.pos (by omega) ((EV.now _).eq rfl)))
  | m + 1, s, h0, h1, hm => by
    have a := up_get hu h0 h1
    refine EV.step (fun k => by rw [impl_parts.top]) ?_
    rw [rd_getD]
    refine EV.pos h0 (EV.pos (by have := hu.1; omega) ?_)
    simp only [rootN]
    by_cases e : up.getD s.toNat 0 = s
    · rw [if_pos e]; exact EV.pos e (EV.now _)
    · rw [if_neg e]
      exact EV.neg e (impl_top_N hu m _ a.1 (by omega) (by omega))
theorem impl_top_is {n : Nat} {up : List Int} (hu : upB n up) {s : Int} (h0 : 0 ≤ s) (h1 : s < n) : EV (fun k => impl_parts.top k up s) (rootI up s) := impl_top_N hu _ s h0 h1 (Nat.le_refl _)
theorem impl_join_is {n : Nat} {up : List Int} (hu : upB n up) {a b : Int} (ha : 0 ≤ a ∧ a < n) (hb : 0 ≤ b ∧ b < n) : EV (fun k => impl_parts.join k up a b) (joinM up a b) := by
  have ra := rootI_le hu ha.1 ha.2
  have rb := rootI_le hu hb.1 hb.2
  have hl := hu.1
  refine EV.bind (impl_top_is hu ha.1 ha.2) (EV.bind (impl_top_is hu hb.1 hb.2) ?_)
  exact EV.cases (fun h => EV.pos (by omega) (EV.pos (by omega) ((EV.now _).eq (by unfold joinM; rw [if_pos h])))) (fun h => EV.pos (by omega) (EV.pos (by omega) ((EV.now _).eq (by unfold joinM; rw [if_neg h]))))
theorem impl_parts_own {l : List (List Int)} {up : List Int} (hu : upB (d0 l) up) (hn : d0 l ≤ 5) (s : Nat) (hs : s < d0 l) (out : List (List Int)) (ho : out.length ≤ 5) (R : List (List Int))
    (H : EV (fun k => impl_parts.l3 k l up (out ++ [ownM (d0 l) up s]) (wrap64 ((s : Int) + 1))) R) : EV (fun k => impl_parts.l4 k l up out (s : Int) [] 0) R := by
  have hrow : (rd_L1 l 0).length = d0 l := by rw [rdL_zero]; rfl
  refine EV.foldC (g := fun k own t => impl_parts.l4 k l up out (s : Int) own t) (List.range (d0 l)) (fun own (t : Nat) => if rootI up (t : Int) = (s : Int) then own ++ [(t : Int)] else own) (fun i own => own.length ≤ i) R (fun i hi own hI K => ?_) [] (by simp) (fun hI => ?_)
  · have hi' : i < d0 l := by simpa using hi
    rw [List.getElem_range] at K
    refine EV.step (fun k => by rw [impl_parts.l4]) ?_
    rw [hrow, w64 (x := (i : Int) + 1) (by omega) (by omega)]
    refine EV.pos (by omega) (EV.bind (impl_top_is hu (by omega) (by omega)) ?_)
    by_cases e : rootI up (i : Int) = (s : Int)
    · rw [if_pos e] at K
      exact EV.pos e (EV.pos (by omega) (K (by simp; omega)))
    · rw [if_neg e] at K
      exact EV.neg e (K (by omega))
  · rw [List.length_range]
    refine EV.step (fun k => by rw [impl_parts.l4]) ?_
    rw [hrow]
    exact EV.neg (by omega) (EV.pos (by omega) H)
theorem impl_parts_out {l : List (List Int)} {up : List Int} (hu : upB (d0 l) up) (hn : d0 l ≤ 5) : EV (fun k => impl_parts.l3 k l up [] 0) (outM2 (d0 l) up) := by
  have hrow : (rd_L1 l 0).length = d0 l := by rw [rdL_zero]; rfl
  refine EV.fold (g := fun k out s => impl_parts.l3 k l up out s) (List.range (d0 l)) (fun out (s : Nat) => if up.getD s 0 = (s : Int) then out ++ [ownM (d0 l) up s] else out) id (fun i out => out.length ≤ i) (fun i hi out r hI K => ?_) (fun out hI => ?_) [] (by simp)
  · have hi' : i < d0 l := by simpa using hi
    rw [List.getElem_range] at K
    refine EV.step (fun k => by rw [impl_parts.l3]) ?_
    rw [hrow]
    refine EV.pos (by omega) (EV.bind (impl_top_is hu (by omega) (by omega)) ?_)
    have sf := rootI_self hu (s := (i : Int)) (by omega) (by omega)
    rw [Int.toNat_natCast] at sf
    by_cases e : up.getD i 0 = (i : Int)
    · rw [if_pos e] at K
      refine EV.pos (sf.2 e) (impl_parts_own hu hn i hi' out (by omega) r ?_)
      rw [w64 (x := (i : Int) + 1) (by omega) (by omega)]
      exact K (by simp; omega)
    · rw [if_neg e] at K
      rw [w64 (x := (i : Int) + 1) (by omega) (by omega)]
      exact EV.neg (fun h => e (sf.1 h)) (K (by omega))
  · rw [List.length_range]
    refine EV.step (fun k => by rw [impl_parts.l3]) ?_
    rw [hrow]
    exact EV.neg (by omega) (EV.now _)
theorem impl_parts_row {l : List (List Int)} (hs : sheetsB l = true) (hn : l.length ≤ 1000) (i : Nat) (hi : i < l.length) (up : List Int) (hu : upB (d0 l) up) (R : List (List Int))
    (H : upB (d0 l) (rowM (d0 l) up l[i]) → EV (fun k => impl_parts.l1 k l (rowM (d0 l) up l[i]) (wrap64 ((i : Int) + 1))) R) : EV (fun k => impl_parts.l2 k l up (i : Int) 0) R := by
  have s := sheetsB_of hs
  have row := s.2.2.2 _ (List.getElem_mem hi)
  have P := (permB_of row.2).1
  refine EV.foldC (g := fun k up s => impl_parts.l2 k l up (i : Int) s) (List.range (d0 l)) (fun up (s : Nat) => joinM up (s : Int) (l[i].getD s 0)) (fun _ up => upB (d0 l) up) R (fun j hj up hI K => ?_) up hu (fun hI => ?_)
  · have hj' : j < d0 l := by simpa using hj
    have hj2 : j < l[i].length := by omega
    rw [List.getElem_range] at K
    have hx : 0 ≤ l[i].getD j 0 ∧ l[i].getD j 0 < (d0 l : Nat) := by
      rw [List.getD_eq_getElem?_getD, List.getElem?_eq_getElem hj2]
      have := P _ (List.getElem_mem hj2)
      simp only [Option.getD_some]; omega
    refine EV.step (fun k => by rw [impl_parts.l2]) ?_
    rw [rdL_nat _ _ hi, rd_getD, Int.toNat_natCast, w64 (x := (j : Int) + 1) (by omega) (by omega)]
    exact EV.pos (by omega) (EV.pos (by omega) (EV.bind (impl_join_is hI (by omega) hx) (K (joinM_I hI (by omega) hx))))
  · rw [List.length_range]
    refine EV.step (fun k => by rw [impl_parts.l2]) ?_
    rw [rdL_nat _ _ hi]
    exact EV.neg (by omega) (H hI)
theorem impl_parts_is {l : List (List Int)} (hs : sheetsB l = true) (hn : l.length ≤ 1000) : EV (fun k => impl_parts.f k l) (partsM l) := by
  have s := sheetsB_of hs
  have hrow : (rd_L1 l 0).length = d0 l := by rw [rdL_zero]; rfl
  refine EV.pos (by omega) (EV.bind (a := idM (d0 l)) ?_ ?_)
  · rw [hrow]
    refine EV.count (g := fun k up i => impl_parts.new k up ((d0 l : Nat) : Int) i) (d0 l) (fun i => idM i) _ (fun i hi H => ?_) ?_
    · refine EV.step (fun k => by rw [impl_parts.new]) ?_
      rw [w64 (x := (i : Int) + 1) (by omega) (by omega)]
      refine EV.pos (by omega) (EV.pos (by simp [idM]; omega) ?_)
      have e : idM (i + 1) = idM i ++ [(i : Int)] := by simp [idM, List.range_succ]
      rw [e] at H; exact H
    · refine EV.step (fun k => by rw [impl_parts.new]) ?_
      exact EV.neg (by omega) (EV.now _)
  · refine EV.foldC (g := fun k up i => impl_parts.l1 k l up i) l (rowM (d0 l)) (fun _ up => upB (d0 l) up) _ (fun i hi up hI K => ?_) (idM (d0 l)) (upB_id _) (fun hI => ?_)
    · refine EV.step (fun k => by rw [impl_parts.l1]) ?_
      refine EV.pos (by omega) (EV.pos (by omega) (impl_parts_row hs hn i hi up hI _ (fun h => ?_)))
      rw [w64 (x := (i : Int) + 1) (by omega) (by omega)]
      exact K h
    · refine EV.step (fun k => by rw [impl_parts.l1]) ?_
      exact EV.neg (by omega) (impl_parts_out (allM_I hs) s.2.2.1)

def redStep (s : List Int) (x : Int) : List Int := if 0 < s.length ∧ s.getD (s.length - 1) 0 = -x then s.take (s.length - 1) else s ++ [x]
def redM (w : List Int) : List Int := w.foldl redStep []
def RedP (s : List Int) : Prop := ∀ i, i + 1 < s.length → s.getD i 0 ≠ -(s.getD (i + 1) 0)
theorem getD_take (s : List Int) (n i : Nat) (h : i < n) : (s.take n).getD i 0 = s.getD i 0 := by
  simp [List.getD_eq_getElem?_getD, List.getElem?_take, h]
theorem getD_app1 (s : List Int) (x : Int) (i : Nat) (h : i < s.length) : (s ++ [x]).getD i 0 = s.getD i 0 := by
  simp [List.getD_eq_getElem?_getD, List.getElem?_append_left h]
theorem getD_app2 (s : List Int) (x : Int) : (s ++ [x]).getD s.length 0 = x := by simp
theorem redStep_red {s : List Int} (h : RedP s) (x : Int) : RedP (redStep s x) := by
  unfold redStep
  split
  · intro i hi
    rw [List.length_take] at hi
    rw [getD_take _ _ _ (by omega), getD_take _ _ _ (by omega)]
    exact h i (by omega)
  · rename_i hc
    intro i hi
    rw [List.length_append, List.length_singleton] at hi
    rw [getD_app1 _ _ _ (by omega)]
    by_cases e : i + 1 = s.length
    · rw [e, getD_app2]
      intro c
      exact hc ⟨by omega, by rw [show s.length - 1 = i by omega]; exact c⟩
    · rw [getD_app1 _ _ _ (by omega)]
      exact h i (by omega)
theorem redM_red (w : List Int) : RedP (redM w) := by
  suffices h : ∀ s, RedP s → RedP (w.foldl redStep s) by exact h [] (fun i hi => by simp at hi)
  induction w with
  | nil => intro s h; exact h
  | cons x w ih => intro s h; exact ih _ (redStep_red h x)
theorem redM_id {s : List Int} (h : RedP s) : redM s = s := by
  suffices hh : ∀ n, n ≤ s.length → redM (s.take n) = s.take n by
    have := hh s.length (Nat.le_refl _)
    rwa [List.take_length] at this
  intro n
  induction n with
  | zero => intro _; simp [redM]
  | succ n ih =>
    intro hn
    have hlt : n < s.length := by omega
    have ih := ih (by omega)
    rw [List.take_succ_eq_append_getElem hlt]
    unfold redM at ih ⊢
    rw [List.foldl_append, ih, List.foldl_cons, List.foldl_nil, redStep, if_neg]
    rintro ⟨h1, h2⟩
    rw [List.length_take] at h1 h2
    have e : min n s.length - 1 = n - 1 := by omega
    rw [e, getD_take _ _ _ (by omega)] at h2
    have := h (n - 1) (by omega)
    rw [show n - 1 + 1 = n by omega, List.getD_eq_getElem?_getD (i := n), List.getElem?_eq_getElem hlt, Option.getD_some] at this
    exact this h2
theorem redStep_mem {p : Int → Prop} {s : List Int} {x : Int} (h : ∀ y ∈ s, p y) (hx : p x) : ∀ y ∈ redStep s x, p y := by
  unfold redStep
  intro y hy
  split at hy
  · exact h y (List.mem_of_mem_take hy)
  · rcases List.mem_append.1 hy with h' | h'
    · exact h y h'
    · rw [List.mem_singleton.1 h']; exact hx
theorem redStep_len (s : List Int) (x : Int) : (redStep s x).length ≤ s.length + 1 := by
  unfold redStep
  split
  · rw [List.length_take]; omega
  · simp
theorem redM_mem {p : Int → Prop} {w : List Int} (h : ∀ y ∈ w, p y) : ∀ y ∈ redM w, p y := by
  suffices hh : ∀ s, (∀ y ∈ s, p y) → ∀ y ∈ w.foldl redStep s, p y by exact hh [] (by simp)
  induction w with
  | nil => intro s hs; exact hs
  | cons x w ih => intro s hs; exact ih (fun y hy => h y (by simp [hy])) _ (redStep_mem hs (h x (by simp)))
theorem redM_len (w : List Int) : (redM w).length ≤ w.length := by
  suffices hh : ∀ s, (w.foldl redStep s).length ≤ s.length + w.length by have := hh []; simpa [redM] using this
  induction w with
  | nil => intro s; simp
  | cons x w ih => intro s; have := ih (redStep s x); have := redStep_len s x; simp only [List.foldl_cons, List.length_cons]; omega
def invW (w : List Int) : List Int := w.reverse.map fun x => -x
theorem invW_len (w : List Int) : (invW w).length = w.length := by simp [invW]
theorem invW_mem {p : Int → Prop} {w : List Int} (hp : ∀ x, p x → p (-x)) (h : ∀ y ∈ w, p y) : ∀ y ∈ invW w, p y := by
  intro y hy
  simp only [invW, List.mem_map, List.mem_reverse] at hy
  obtain ⟨x, hx, rfl⟩ := hy
  exact hp x (h x hx)
theorem invW_get (w : List Int) (i : Nat) (h : i < w.length) : (invW w)[i]'(by rw [invW_len]; exact h) = -(w[w.length - 1 - i]'(by omega)) := by
  simp [invW]
def turnM (w : List Int) (k : Nat) : List Int := w.drop k ++ w.take k
theorem turnM_len (w : List Int) (k : Nat) (h : k ≤ w.length) : (turnM w k).length = w.length := by simp [turnM]; omega
theorem turnM_get (w : List Int) (k i : Nat) (hk : k < w.length) (hi : i < w.length) : (turnM w k)[i]'(by rw [turnM_len _ _ (by omega)]; exact hi) = w[(k + i) % w.length]'(Nat.mod_lt _ (by omega)) := by
  simp only [turnM]
  rw [List.getElem_append]
  split
  · rename_i h
    rw [List.length_drop] at h
    rw [List.getElem_drop]
    congr 1
    rw [Nat.mod_eq_of_lt (by omega)]
  · rename_i h
    rw [List.length_drop] at h
    rw [List.getElem_take]
    congr 1
    rw [List.length_drop]
    have : k + i = (k + i - w.length) + w.length := by omega
    rw [this, Nat.add_mod_right, Nat.mod_eq_of_lt (by omega)]; omega
/-- the length of the common start -/
def lcpM : List Int → List Int → Nat
  | a :: u, b :: v => if a = b then lcpM u v + 1 else 0
  | _, _ => 0
theorem lcpM_le1 : ∀ (u v : List Int), lcpM u v ≤ u.length
  | [], _ => by simp [lcpM]
  | _ :: _, [] => by simp [lcpM]
  | a :: u, b :: v => by
    have := lcpM_le1 u v
    simp only [lcpM, List.length_cons]; split <;> omega
theorem lcpM_le2 : ∀ (u v : List Int), lcpM u v ≤ v.length
  | [], _ => by simp [lcpM]
  | _ :: _, [] => by simp [lcpM]
  | a :: u, b :: v => by
    have := lcpM_le2 u v
    simp only [lcpM, List.length_cons]; split <;> omega
/-- the relator and its inverse, each from each of its letters on -/
def pairsM (R : List Int) : List (List Int × Nat) := (List.range R.length).map (fun j => (R, j)) ++ (List.range R.length).map (fun j => (invW R, j))
def updM (u : List Int) (s : Nat × List Int) (c : List Int × Nat) : Nat × List Int :=
  if s.1 < lcpM u (turnM c.1 c.2) then (lcpM u (turnM c.1 c.2), (turnM c.1 c.2).drop (lcpM u (turnM c.1 c.2))) else s
def bestM (u : List Int) (b : Nat) (cs : List (List Int × Nat)) : Nat × List Int := cs.foldl (updM u) (b, [])
/-- a start from a higher bar finds the same, if anything -/
theorem best_rel (u : List Int) (m : Nat) : ∀ (cs : List (List Int × Nat)) (s t : Nat × List Int), t.1 = max s.1 m → (m < s.1 → t.2 = s.2) →
    (cs.foldl (updM u) t).1 = max (cs.foldl (updM u) s).1 m ∧ (m < (cs.foldl (updM u) s).1 → (cs.foldl (updM u) t).2 = (cs.foldl (updM u) s).2)
  | [], s, t, h1, h2 => ⟨h1, h2⟩
  | c :: cs, s, t, h1, h2 => by
    rw [List.foldl_cons, List.foldl_cons]
    apply best_rel u m cs
    · unfold updM
      split <;> split <;> first | omega | (simp only; omega)
    · unfold updM
      split
      · split
        · intro _; rfl
        · simp only; intro; omega
      · split
        · simp only; intro h; omega
        · exact h2
theorem bestM_of (u : List Int) (m : Nat) (cs : List (List Int × Nat)) : (m < (bestM u 0 cs).1 ↔ m < (bestM u m cs).1) ∧ (m < (bestM u 0 cs).1 → bestM u m cs = bestM u 0 cs) := by
  have := best_rel u m cs (0, []) (m, []) (by simp) (by simp)
  unfold bestM
  refine ⟨by omega, fun h => ?_⟩
  exact Prod.ext (by omega) (this.2 h)
theorem bestM_I (u : List Int) (n : Nat) : ∀ (cs : List (List Int × Nat)) (s : Nat × List Int), (∀ c ∈ cs, c.1.length = n ∧ c.2 ≤ n) → s.1 ≤ u.length → (s.2.length + s.1 = n ∨ s.2 = []) → (cs.foldl (updM u) s).1 ≤ u.length ∧ ((cs.foldl (updM u) s).2.length + (cs.foldl (updM u) s).1 = n ∨ (cs.foldl (updM u) s).2 = [])
  | [], s, _, h1, h2 => ⟨h1, h2⟩
  | c :: cs, s, hc, h1, h2 => by
    rw [List.foldl_cons]
    have hc0 := hc c (by simp)
    have a := lcpM_le1 u (turnM c.1 c.2)
    have b := lcpM_le2 u (turnM c.1 c.2)
    have hl := turnM_len c.1 c.2 (by omega)
    apply bestM_I u n cs _ (fun c' h' => hc c' (by simp [h']))
    · unfold updM; split
      · exact a
      · exact h1
    · unfold updM; split
      · left; simp only [List.length_drop]; omega
      · exact h2
theorem best_mem {p : Int → Prop} (u : List Int) : ∀ (cs : List (List Int × Nat)) (s : Nat × List Int), (∀ c ∈ cs, ∀ x ∈ c.1, p x) → (∀ x ∈ s.2, p x) → ∀ x ∈ (cs.foldl (updM u) s).2, p x
  | [], s, _, h => h
  | c :: cs, s, hc, h => by
    rw [List.foldl_cons]
    apply best_mem u cs _ (fun c' h' => hc c' (by simp [h']))
    unfold updM; split
    · intro x hx
      have hx := List.mem_of_mem_drop hx
      simp only [turnM, List.mem_append] at hx
      rcases hx with h' | h'
      · exact hc c (by simp) x (List.mem_of_mem_drop h')
      · exact hc c (by simp) x (List.mem_of_mem_take h')
    · exact h
def relG (g : Int) : List Int := if g = 1 then [1, 2, -1, -2] else [1, 2, -1, -2, 3, 4, -3, -4]
def bestAt (g : Int) (w : List Int) (i : Nat) : Nat × List Int := bestM (w.drop i) 0 (pairsM (relG g))
def cutM (w : List Int) (i : Nat) (b : Nat × List Int) : List Int := redM (w.take i ++ invW b.2 ++ w.drop (i + b.1))
def stepFrom (g : Int) (w : List Int) : Nat → Nat → List Int × Bool
  | 0, _ => ([], false)
  | n + 1, i => if 2 * g < (bestAt g w i).1 then (cutM w i (bestAt g w i), true) else stepFrom g w n (i + 1)
def dstepM (g : Int) (w : List Int) : List Int × Bool := stepFrom g w w.length 0
def dehnF (g : Int) : Nat → List Int → List Int
  | 0, w => w
  | n + 1, w => if (dstepM g w).2 = true then dehnF g n (dstepM g w).1 else w
def dehnM (g : Int) (w : List Int) : List Int := dehnF g (redM w).length (redM w)
def okL (g : Int) (x : Int) : Prop := letterB x = true ∧ (x.natAbs : Int) ≤ 2 * g
theorem okL_neg {g x : Int} (h : okL g x) : okL g (-x) := by
  have := letterB_of h.1
  refine ⟨by simp [letterB]; omega, by have := h.2; omega⟩
theorem relG_ok {g : Int} (hg : g = 1 ∨ g = 2) : (relG g).length = (4 * g).toNat ∧ ∀ x ∈ relG g, okL g x := by
  rcases hg with rfl | rfl
  · refine ⟨rfl, ?_⟩
    intro x hx
    simp [relG] at hx
    rcases hx with rfl | rfl | rfl | rfl <;> exact ⟨rfl, by decide⟩
  · refine ⟨rfl, ?_⟩
    intro x hx
    simp [relG] at hx
    rcases hx with rfl | rfl | rfl | rfl | rfl | rfl | rfl | rfl <;> exact ⟨rfl, by decide⟩
theorem pairs_ok {g : Int} (hg : g = 1 ∨ g = 2) : (∀ c ∈ pairsM (relG g), c.1.length = (4 * g).toNat ∧ c.2 < (4 * g).toNat) ∧ ∀ c ∈ pairsM (relG g), ∀ x ∈ c.1, okL g x := by
  have r := relG_ok hg
  constructor
  · intro c hc
    simp only [pairsM, List.mem_append, List.mem_map, List.mem_range] at hc
    rcases hc with ⟨j, hj, rfl⟩ | ⟨j, hj, rfl⟩
    · exact ⟨r.1, by omega⟩
    · exact ⟨by simp only [invW_len]; exact r.1, by omega⟩
  · intro c hc
    simp only [pairsM, List.mem_append, List.mem_map, List.mem_range] at hc
    rcases hc with ⟨j, hj, rfl⟩ | ⟨j, hj, rfl⟩
    · exact r.2
    · exact invW_mem (fun x hx => okL_neg hx) r.2
def okW (g : Int) (w : List Int) : Prop := (g = 1 ∨ g = 2) ∧ (∀ x ∈ w, okL g x) ∧ w.length ≤ 24
theorem fits_ok {g : Int} {w : List Int} (h : fitsB g w = true) : okW g w := by
  simp only [fitsB, hasB, Bool.and_eq_true, decide_eq_true_iff, List.all_eq_true, leB] at h
  have a := wordB_of h.2.2
  exact ⟨by omega, fun x hx => ⟨a.1 x hx, h.2.1 x hx⟩, a.2⟩
theorem ok_fits {g : Int} {w : List Int} (h : okW g w) : fitsB g w = true := by
  simp only [fitsB, hasB, wordB, Bool.and_eq_true, decide_eq_true_iff, List.all_eq_true, leB]
  exact ⟨by have := h.1; omega, fun x hx => (h.2.1 x hx).2, fun x hx => (h.2.1 x hx).1, h.2.2⟩
theorem red_ok {g : Int} {w : List Int} (h : okW g w) : okW g (redM w) := ⟨h.1, redM_mem h.2.1, by have := redM_len w; have := h.2.2; omega⟩
theorem bestAt_I {g : Int} (hg : g = 1 ∨ g = 2) (w : List Int) (i : Nat) : (bestAt g w i).1 ≤ w.length - i ∧ ((bestAt g w i).2.length + (bestAt g w i).1 = (4 * g).toNat ∨ (bestAt g w i).2 = []) ∧ ∀ x ∈ (bestAt g w i).2, okL g x := by
  have p := pairs_ok hg
  have := bestM_I (w.drop i) (4 * g).toNat (pairsM (relG g)) (0, []) (fun c hc => ⟨(p.1 c hc).1, by have := (p.1 c hc).2; omega⟩) (by simp) (Or.inr rfl)
  rw [List.length_drop] at this
  exact ⟨this.1, this.2, best_mem _ _ _ p.2 (by simp)⟩
theorem cut_ok {g : Int} {w : List Int} (h : okW g w) (i : Nat) (hi : i < w.length) (hb : 2 * g < (bestAt g w i).1) : okW g (cutM w i (bestAt g w i)) ∧ RedP (cutM w i (bestAt g w i)) ∧ (cutM w i (bestAt g w i)).length < w.length := by
  have b := bestAt_I h.1 w i
  have hl : (w.take i ++ invW (bestAt g w i).2 ++ w.drop (i + (bestAt g w i).1)).length < w.length := by
    simp only [List.length_append, List.length_take, List.length_drop, invW_len]
    have := h.1
    rcases b.2.1 with e | e
    · omega
    · rw [e]; simp only [List.length_nil]; omega
  have hr := redM_len (w.take i ++ invW (bestAt g w i).2 ++ w.drop (i + (bestAt g w i).1))
  refine ⟨⟨h.1, redM_mem ?_, by unfold cutM; have := h.2.2; omega⟩, redM_red _, by unfold cutM; omega⟩
  intro x hx
  rw [List.append_assoc, List.mem_append, List.mem_append] at hx
  rcases hx with h' | h' | h'
  · exact h.2.1 x (List.mem_of_mem_take h')
  · exact invW_mem (fun x hx => okL_neg hx) b.2.2 x h'
  · exact h.2.1 x (List.mem_of_mem_drop h')
theorem stepFrom_ok {g : Int} {w : List Int} (h : okW g w) : ∀ (n i : Nat), i + n = w.length → (stepFrom g w n i).2 = true → okW g (stepFrom g w n i).1 ∧ RedP (stepFrom g w n i).1 ∧ (stepFrom g w n i).1.length < w.length
  | 0, i, _, hb => by simp [stepFrom] at hb
  | n + 1, i, hi, hb => by
    unfold stepFrom at hb ⊢
    by_cases c : 2 * g < (bestAt g w i).1
    · rw [if_pos c] at hb ⊢
      exact cut_ok h i (by omega) c
    · rw [if_neg c] at hb ⊢
      exact stepFrom_ok h n (i + 1) (by omega) hb
theorem stepFrom_len {g : Int} {w : List Int} (h : okW g w) : ∀ (n i : Nat), i + n = w.length → (stepFrom g w n i).1.length ≤ 24
  | 0, i, _ => by simp [stepFrom]
  | n + 1, i, hi => by
    unfold stepFrom
    by_cases c : 2 * g < (bestAt g w i).1
    · rw [if_pos c]
      exact (cut_ok h i (by omega) c).1.2.2
    · rw [if_neg c]
      exact stepFrom_len h n (i + 1) (by omega)
theorem dehnF_len {g : Int} : ∀ (n : Nat) (w : List Int), okW g w → (dehnF g n w).length ≤ 24
  | 0, w, h => h.2.2
  | n + 1, w, h => by
    unfold dehnF
    split
    · rename_i hb; exact dehnF_len n _ (stepFrom_ok h _ _ (by omega) hb).1
    · exact h.2.2

theorem impl_mod_is (a n : Nat) (hn : 0 < n) : impl_mod.f (a : Int) (n : Int) = some ((a % n : Nat) : Int) := by
  unfold impl_mod.f
  have e : Int.tmod (a : Int) (n : Int) = ((a % n : Nat) : Int) := by
    rw [Int.tmod_eq_emod_of_nonneg (by omega)]; omega
  rw [e, if_neg (by omega), if_neg (by omega)]

theorem laws_eqSurface_self (a b c : Int) : laws_eqSurface.f a b c a b c = some true := by
  unfold laws_eqSurface.f; rw [if_pos rfl, if_pos rfl, if_pos rfl]

theorem ree {l : List (List Int)} (h : passB l = true) : 2 * d0 l ≤ lessN l + 2 * (partsM l).length ∧ lessN l % 2 = 0 := by
  have hq := h
  simp only [passB, Bool.and_eq_true, decide_eq_true_iff] at hq
  have s := sheetsB_of hq.2.1
  have I := inv_rows s.2.1 (by omega) l (idM (d0 l)) (idM (d0 l)) 0 s.2.2.2 (upB_id _) (by rw [labI_id, NN_id]; exact inv_zero (by omega))
  have e : l.foldl thenM (idM (d0 l)) = idM (d0 l) := by
    rw [← product_eq, actK_eq]; exact hq.2.2
  rw [e, NN_id] at I
  have A := allS_ok (d0 l) (by omega)
  simp only [allS, Bool.and_eq_true] at A
  have s4 := A.2.2.2.1
  simp only [S4, Bool.and_eq_true, beq_iff_eq] at s4
  have c := s4.2
  have le := I.le
  have par := I.par
  rw [c] at le par
  have pl : (partsM l).length = partN (labI (d0 l) (allM l)) := outM2_len (allM_I hq.2.1)
  rw [pl]
  have : allM l = l.foldl (rowM (d0 l)) (idM (d0 l)) := rfl
  rw [this]
  omega
theorem branch_val (l : List (List Int)) (hs : sheetsB l = true) (hl : l.length ≤ 5) : ∀ (n i : Nat) (acc : Int), i + n = l.length → acc.natAbs ≤ 10 * i →
    EV (fun k => spec_BranchSum.l0 k l acc (i : Int)) (acc + lessN (l.drop i)) ∧ EV (fun k => impl_BranchSum.l0 k acc l (l.length : Int) (i : Int)) (acc + lessN (l.drop i)) := by
  have S := sheetsB_of hs
  intro n
  induction n with
  | zero =>
    intro i acc h _
    rw [List.drop_of_length_le (by omega)]
    refine ⟨?_, ?_⟩
    · refine EV.step (fun k => by rw [spec_BranchSum.l0]) ?_
      exact EV.neg (by omega) ((EV.now _).eq (by simp [lessN]))
    · refine EV.step (fun k => by rw [impl_BranchSum.l0]) ?_
      exact EV.neg (by omega) ((EV.now _).eq (by simp [lessN]))
  | succ n ih =>
    intro i acc h ha
    have hi : i < l.length := by omega
    have row := S.2.2.2 _ (List.getElem_mem hi)
    obtain ⟨c, hc1, hc2, hcl, hc5⟩ := cyc_len (n := d0 l) row S.2.1 S.2.2.1
    have le := (inv_row (n := d0 l) (by omega) (inv_zero (by omega)) (NN_perm row S.2.1 S.2.2.1)).2
    obtain ⟨h1, h2⟩ := ih (i + 1) (acc + ((l[i]).length : Int) - (c.length : Int)) (by omega) (by omega)
    have e : acc + ((l[i]).length : Int) - (c.length : Int) + lessN (l.drop (i + 1)) = acc + lessN (l.drop i) := by
      rw [List.drop_eq_getElem_cons hi]
      simp only [lessN]
      have := row.1
      omega
    rw [e] at h1 h2
    refine ⟨?_, ?_⟩
    · refine EV.step (fun k => by rw [spec_BranchSum.l0]) ?_
      rw [rdL_nat _ _ hi, w64 (x := (i : Int) + 1) (by omega) (by omega), w64 (x := acc + ((l[i]).length : Int)) (by omega) (by omega)]
      refine EV.pos (by omega) (EV.pos (by omega) (EV.bind hc1 ?_))
      rw [w64 (x := acc + ((l[i]).length : Int) - (c.length : Int)) (by omega) (by omega)]
      exact_mod_cast h1
    · refine EV.step (fun k => by rw [impl_BranchSum.l0]) ?_
      rw [rdL_nat _ _ hi, w64 (x := (i : Int) + 1) (by omega) (by omega)]
      refine EV.pos (by omega) (EV.pos (by omega) (EV.pos (by omega) (EV.bind hc2 ?_)))
      rw [w64 (x := ((l[i]).length : Int) - (c.length : Int)) (by omega) (by omega), w64 (x := acc + (((l[i]).length : Int) - (c.length : Int))) (by omega) (by omega), show acc + (((l[i]).length : Int) - (c.length : Int)) = acc + ((l[i]).length : Int) - (c.length : Int) by omega]
      exact_mod_cast h2
theorem less_le {n : Nat} : ∀ (xs : List (List Int)), (∀ p ∈ xs, p.length = n) → lessN xs ≤ n * xs.length
  | [], _ => by simp [lessN]
  | p :: xs, h => by
    have := less_le xs (fun q hq => h q (by simp [hq]))
    have := h p (by simp)
    simp only [lessN, List.length_cons, Nat.mul_add]; omega
theorem impl_surf_is (h : Nat) (hh : h ≤ 20) : impl_surfaceWith.f (2 - 2 * (h : Int)) 0 true = some ((h : Int), 0, 0, true) := by
  unfold impl_surfaceWith.f
  rw [if_pos rfl]
  have e1 : wrap64 (wrap64 (2 - (2 - 2 * (h : Int))) - 0) = ((2 * h : Nat) : Int) := by
    rw [w64 (x := 2 - (2 - 2 * (h : Int))) (by omega) (by omega), w64 (by omega) (by omega)]; omega
  rw [e1, show (2 : Int) = ((2 : Nat) : Int) from rfl, impl_mod_is (2 * h) 2 (by decide)]
  simp only [Option.bind_some]
  rw [if_pos (by omega)]
  have e2 : wrap64 (Int.tdiv ((2 * h : Nat) : Int) ((2 : Nat) : Int)) = (h : Int) := by
    rw [show Int.tdiv ((2 * h : Nat) : Int) ((2 : Nat) : Int) = (h : Int) by
      rw [Int.tdiv_eq_ediv_of_nonneg (by omega)]; omega]
    exact w64 (by omega) (by omega)
  rw [e2]
  have e3 : impl_IsSurface.f (h : Int) 0 0 = some true := by
    unfold impl_IsSurface.f
    rw [impl_within_is, impl_within_is]
    have b1 : decide (0 ≤ (h : Int) ∧ (h : Int) ≤ 20) = true := by simp; omega
    rw [b1]
    simp
  rw [e3]; rfl
theorem both (t : List (List Int)) (ht : ∀ r ∈ t, r.length ≤ maxLen ∧ ∀ x ∈ r, (Lit.int .i64 x).wf = true) (n : t.length + total t ≤ 1048576) :
    ∃ (h : Int) (b : Bool), EV (fun k => spec_BranchCover.f k t) (h, 0, 0, b) ∧ EV (fun k => impl_BranchCover.f k t) (h, 0, 0, b) ∧ True := by
  have h1 : ∀ r ∈ t, r.length < 4294967296 := fun r hr => by have := total_mem hr; omega
  have A := spec_IsPassport_is t (by omega) h1
  have B := impl_IsPassport_is t (by omega) h1
  have no : EV (fun k => impl_BranchCover.j0 k t true) (0, 0, 0, false) := by
    refine EV.step (fun k => by rw [impl_BranchCover.j0]) ?_
    exact EV.pos rfl (EV.now _)
  by_cases h : passB t = true
  · have hp := h
    simp only [passB, Bool.and_eq_true, decide_eq_true_iff] at hp
    have s := sheetsB_of hp.2.1
    have P1 := spec_l9Parts_is hp.2.1 (by omega)
    have P2 := impl_parts_is hp.2.1 (by omega)
    by_cases h2 : (partsM t).length = 1
    · have R := ree h
      rw [h2] at R
      have V := branch_val t hp.2.1 hp.1.2 t.length 0 0 (by omega) (by omega)
      have ll := less_le t (fun p hp' => (s.2.2.2 p hp').1)
      have l25 : lessN t ≤ 25 := Nat.le_trans ll (Nat.mul_le_mul s.2.2.1 hp.1.2)
      simp only [List.drop_zero] at V
      have hrow : ((rd_L1 t 0).length : Int) = (d0 t : Int) := by rw [rdL_zero]; rfl
      obtain ⟨q, hq⟩ : ∃ q : Nat, lessN t + 2 = 2 * q + 2 * d0 t := ⟨(lessN t + 2 - 2 * d0 t) / 2, by omega⟩
      refine ⟨(q : Int), true, EV.bind A (EV.pos h (EV.bind P1 (EV.pos (by omega) (EV.pos (by omega) (EV.bind (EV.bind A (EV.pos h V.1)) ((EV.now _).eq ?_)))))), EV.bind B (EV.pos h (EV.bind P2 ?_)), trivial⟩
      · rw [hrow, w64 (x := 2 * (d0 t : Int)) (by omega) (by omega), w64 (x := 2 - 2 * (d0 t : Int)) (by omega) (by omega), w64 (x := 2 - 2 * (d0 t : Int) + (0 + (lessN t : Int))) (by omega) (by omega)]
        rw [show Int.tdiv (2 - 2 * (d0 t : Int) + (0 + (lessN t : Int))) 2 = (q : Int) by
          rw [Int.tdiv_eq_ediv_of_nonneg (by omega)]; omega]
        rw [w64 (by omega) (by omega)]
      · rw [show (((partsM t).length : Int) != 1) = false by simp [h2]]
        refine EV.step (fun k => by rw [impl_BranchCover.j0]) ?_
        refine EV.neg (by simp) (EV.pos (by omega) (EV.bind (EV.bind B (EV.pos h V.2)) (EV.by (a := ((q : Int), 0, 0, true)) ?_ (EV.now _))))
        rw [hrow, w64 (x := 2 * (d0 t : Int)) (by omega) (by omega), w64 (x := 2 * (d0 t : Int) - (0 + (lessN t : Int))) (by omega) (by omega)]
        rw [show 2 * (d0 t : Int) - (0 + (lessN t : Int)) = 2 - 2 * (q : Int) by omega]
        exact impl_surf_is q (by omega)
    · refine ⟨0, false, EV.bind A (EV.pos h (EV.bind P1 (EV.neg (by omega) (EV.now _)))), EV.bind B (EV.pos h (EV.bind P2 ?_)), trivial⟩
      rw [show (((partsM t).length : Int) != 1) = true by simp; omega]
      exact no
  · exact ⟨0, false, EV.bind A (EV.neg h (EV.now _)), EV.bind B (EV.neg h no), trivial⟩

theorem FnExactBranchCover (l0 : List (List Int)) (x0 : l0.length ≤ maxLen) (w0 : ∀ r ∈ l0, r.length ≤ maxLen ∧ ∀ x ∈ r, (Lit.int .i64 x).wf = true) : ∃ k, laws_FnExactBranchCover.f k l0 = some true := by
  refine EV.rounds ?_
  have r0x : ∀ r ∈ l0, r.length ≤ 9223372036854775807 := fun r hr => by have := (w0 r hr).1; unfold maxLen at this; omega
  refine EV.bind (laws_szIntSS_is l0 (1048576) (by omega) (by omega) (by unfold maxLen at x0; omega) r0x) ?_
  unfold szM
  by_cases g0 : ((l0.length : Int) + total l0 ≤ 1048576)
  rotate_left
  · rw [if_neg g0]; exact EV.pos (by omega) (EV.now _)
  rw [if_pos g0]
  refine EV.neg (by omega) ?_
  have n0 : l0.length + total l0 ≤ 1048576 := by omega
  have r0 : ∀ r ∈ l0, r.length ≤ 1048576 := fun r hr => by have := total_mem hr; omega
  have q0 : ∀ r ∈ l0, r.length < 4611686018427387904 := fun r hr => by have := total_mem hr; omega
  obtain ⟨h, b, S, I, hR⟩ := both l0 w0 n0
  repeat (first
    | exact EV.now _
    | (refine EV.bind (laws_toIntS_is _ (by omega)) ?_)
    | (refine EV.bind (laws_toIntSS_is _ (by omega) (by assumption)) ?_)
    | (refine EV.bind S ?_)
    | (refine EV.bind I ?_)
    | (refine EV.bind (laws_eqIntS_self _ (by omega)) ?_)
    | (refine EV.bind (laws_eqIntSS_self _ (by omega) (by assumption)) ?_)
    | (refine EV.by (laws_eqSurface_self _ _ _) ?_)
    | (refine EV.pos rfl ?_)
    | (refine EV.neg (by first | omega | (simp; done)) ?_)
    | (refine EV.pos (by first | omega | (simp; done)) ?_)
    | (refine EV.step (fun k => by rw [laws_FnExactBranchCover.j0]) ?_)
    | dsimp only)

end Go.Proofs.Ythhgecgbofcbeaa.Pure
