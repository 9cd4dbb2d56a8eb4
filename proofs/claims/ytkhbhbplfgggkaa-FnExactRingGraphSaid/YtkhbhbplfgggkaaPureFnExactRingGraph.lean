/- Pure side of FnExactRingGraph: the printed functions of the program and of the reference answer alike at every input that the statement takes; no condition beyond the printed statement's bounds. -/
import Derived.Test.YtkhbhbplfgggkaaVFnExactRingGraph
import Derived.Test.YtkhbhbplfgggkaaWSized
set_option linter.unusedVariables false
set_option linter.unusedSimpArgs false
set_option linter.unnecessarySimpa false
set_option maxRecDepth 10000
/-- the printed row calls the print's word by this name -/
abbrev Go.Proofs.Ytkhbhbplfgggkaa.PrintWords.sized_ints := @Go.Proofs.YtkhbhbplfgggkaaW.PrintWords.sized_ints
namespace Go.Proofs.Ytkhbhbplfgggkaa.Pure
open Go.RowKit Go.Proofs.Ytkhbhbplfgggkaa.PFnExactRingGraph Go.Proofs.YtkhbhbplfgggkaaW.PrintWords Go.Proofs.YtkhbhbplfgggkaaW.PrintLast Go.Proofs.YtkhbhbplfgggkaaW.PrintMore
open Go.Proofs.Ytkhbhbplfgggkaa.VFnExactRingGraph

/-! ### Base: words of our own, of no program -/
section
theorem w64 {x : Int} (h1 : -9223372036854775808 ≤ x) (h2 : x ≤ 9223372036854775807) : wrap64 x = x := by
  unfold wrap64; omega
theorem wf64 {x : Int} (h : (Lit.int .i64 x).wf = true) : -9223372036854775808 ≤ x ∧ x ≤ 9223372036854775807 := by
  simp only [Lit.wf, IntKind.min, IntKind.max, IntKind.signed, IntKind.bits, Bool.and_eq_true, decide_eq_true_eq, if_true] at h
  omega
/-- from some number of rounds on it answers r -/
structure EV {α : Type} (g : Nat → Option α) (r : α) : Prop where mk :: (out : ∃ K, ∀ k, K ≤ k → g k = some r)
theorem EV.now {α : Type} (r : α) : EV (fun _ => some r) r := ⟨0, fun _ _ => rfl⟩
theorem EV.rounds {α : Type} {g : Nat → Option α} {r : α} (h : EV g r) : ∃ k, g k = some r := by
  obtain ⟨K, h⟩ := h
  exact ⟨K, h K (Nat.le_refl _)⟩
theorem EV.bind {α β : Type} {g : Nat → Option α} {f : Nat → α → Option β} {a : α} {r : β} (h : EV g a) (k : EV (fun n => f n a) r) : EV (fun n => (g n).bind (f n)) r := by
  obtain ⟨K, h⟩ := h
  obtain ⟨K', k⟩ := k
  refine ⟨max K K', fun n hn => ?_⟩
  have h1 := h n (by omega)
  have h2 := k n (by omega)
  simp only [h1, Option.bind_some]
  exact h2
theorem EV.step {α : Type} {g f : Nat → Option α} {r : α} (h : ∀ k, g (k + 1) = f k) (k : EV f r) : EV g r := by
  obtain ⟨K, k⟩ := k
  refine ⟨K + 1, fun n hn => ?_⟩
  obtain ⟨m, rfl⟩ : ∃ m, n = m + 1 := ⟨n - 1, by omega⟩
  rw [h]
  exact k m (by omega)
theorem EV.congr {α : Type} {g f : Nat → Option α} {r : α} (h : ∀ k, g k = f k) (k : EV f r) : EV g r := by
  obtain ⟨K, k⟩ := k
  exact ⟨K, fun n hn => (h n).trans (k n hn)⟩
theorem EV.pos {α : Type} {c : Prop} [Decidable c] {a b : Nat → Option α} {r : α} (h : c) (k : EV a r) : EV (fun n => if c then a n else b n) r :=
  EV.congr (fun n => if_pos h) k
theorem EV.neg {α : Type} {c : Prop} [Decidable c] {a b : Nat → Option α} {r : α} (h : ¬ c) (k : EV b r) : EV (fun n => if c then a n else b n) r :=
  EV.congr (fun n => if_neg h) k
theorem EV.cases {α : Type} {c : Prop} [Decidable c] {a b : Nat → Option α} {r : α} (h : c → EV a r) (h' : ¬ c → EV b r) : EV (fun n => if c then a n else b n) r := by
  by_cases hc : c
  · exact EV.pos hc (h hc)
  · exact EV.neg hc (h' hc)
/-- a callee without rounds -/
theorem EV.by {α β : Type} {g : Option α} {f : Nat → α → Option β} {a : α} {r : β} (h : g = some a) (k : EV (fun n => f n a) r) : EV (fun n => g.bind (f n)) r := by
  subst h; exact k
theorem EV.is {α : Type} {g : Option α} {r : α} (h : g = some r) : EV (fun _ => g) r := ⟨0, fun _ _ => h⟩
theorem EV.eq {α : Type} {g : Nat → Option α} {r r' : α} (h : EV g r) (e : r = r') : EV g r' := e ▸ h
theorem rd_app (pre : List Int) (x : Int) (suf : List Int) : rd (pre ++ x :: suf) (pre.length : Int) = x := by
  simp [rd]
theorem rd_nat (xs : List Int) (i : Nat) (h : i < xs.length) : rd xs (i : Int) = xs[i] := by
  simp [rd, h]
theorem set_app {α : Type} (pre : List α) (x y : α) (suf : List α) (n : Nat) (hn : n = pre.length) : (pre ++ x :: suf).set n y = pre ++ y :: suf := by
  subst hn; simp
end
def smallB (x : Int) : Bool := decide (-1000 ≤ x ∧ x ≤ 1000)
/-- one index on -/
theorem up {α : Type} {x : α} {pre : List α} (h : pre.length < 4611686018427387904) : wrap64 ((pre.length : Int) + 1) = ((pre ++ [x]).length : Int) := by
  rw [w64 (by omega) (by omega)]; simp
theorem lt_app {α : Type} (pre : List α) (x : α) (suf : List α) : (pre.length : Int) < ((pre ++ x :: suf).length : Int) := by simp; omega
def classB (g : Int) (xs : List Int) : Bool := decide (1 ≤ g ∧ g ≤ 3) && (decide ((xs.length : Int) = 2 * g) && xs.all smallB)
theorem EV.uniq {α : Type} {g : Nat → Option α} {r r' : α} (h : EV g r) (h' : EV g r') : r = r' := by
  obtain ⟨K, h⟩ := h
  obtain ⟨K', h'⟩ := h'
  have a := h (max K K') (by omega)
  have b := h' (max K K') (by omega)
  rw [a] at b; exact Option.some.inj b
/-- from some number of rounds on -/
def Evt (P : Nat → Prop) : Prop := ∃ K, ∀ k, K ≤ k → P k
theorem Evt.and {P Q : Nat → Prop} (h : Evt P) (h' : Evt Q) : Evt (fun k => P k ∧ Q k) := by
  obtain ⟨K, h⟩ := h
  obtain ⟨K', h'⟩ := h'
  exact ⟨max K K', fun k hk => ⟨h k (by omega), h' k (by omega)⟩⟩
theorem Evt.const {p : Prop} (h : p) : Evt (fun _ => p) := ⟨0, fun _ _ => h⟩
theorem EV.evt {α : Type} {g : Nat → Option α} {r : α} (h : EV g r) : Evt (fun k => g k = some r) := h.out
theorem Evt.imp {P Q : Nat → Prop} (h : Evt P) (f : ∀ k, P k → Q k) : Evt Q := by
  obtain ⟨K, h⟩ := h
  exact ⟨K, fun k hk => f k (h k hk)⟩
theorem Evt.rounds {P : Nat → Prop} (h : Evt P) : ∃ k, P k := by
  obtain ⟨K, h⟩ := h
  exact ⟨K, h K (Nat.le_refl _)⟩
theorem EV.mono {α : Type} {g : Nat → Option α} (hg : ∀ k, LeO (g k) (g (k + 1))) {k : Nat} {r : α} (h : g k = some r) : EV g r := ⟨k, fun _ hk => at_rounds hg hk h⟩

theorem rdL_app (pre : List (List Int)) (x : List Int) (suf : List (List Int)) : rd_L1 (pre ++ x :: suf) (pre.length : Int) = x := by
  simp [rd_L1]
theorem rdL_nat (xs : List (List Int)) (i : Nat) (h : i < xs.length) : rd_L1 xs (i : Int) = xs[i] := by
  simp [rd_L1, h]

def edgeB (e : List Int) : Bool :=
  match e with
  | [a, b] => decide (0 ≤ a ∧ a ≤ 6) && (decide (0 ≤ b ∧ b ≤ 6) && !decide (a = b))
  | _ => false
def graphB (g : List (List Int)) : Bool := g.all edgeB && decide (1 ≤ g.length ∧ g.length ≤ 10)
theorem edge_len {e : List Int} (h : edgeB e = true) : e.length = 2 := by
  unfold edgeB at h
  split at h
  · rfl
  · cases h
theorem two_of {e : List Int} (h : e.length = 2) : ∃ a b, e = [a, b] := by
  match e, h with
  | [a, b], _ => exact ⟨a, b, rfl⟩

/-- a loop that looks at each member and answers early, or goes on -/
theorem EV.scan {α : Type} {g : Nat → Int → Option Bool} (xs : List α) (p : α → Bool) (fin : Bool)
    (hs : ∀ (i : Nat) (h : i < xs.length) (r : Bool), (p xs[i] = true → EV (fun k => g k ((i : Int) + 1)) r) → (p xs[i] = false → r = false) → EV (fun k => g k (i : Int)) r)
    (hf : EV (fun k => g k (xs.length : Int)) fin) : EV (fun k => g k 0) (xs.all p && fin) := by
  suffices h : ∀ (n i : Nat), i + n = xs.length → EV (fun k => g k (i : Int)) ((xs.drop i).all p && fin) by
    have := h xs.length 0 (by omega)
    simpa using this
  intro n
  induction n with
  | zero =>
    intro i hi
    have e : i = xs.length := by omega
    subst e
    simpa using hf
  | succ n ih =>
    intro i hi
    have hlt : i < xs.length := by omega
    have e : xs.drop i = xs[i] :: xs.drop (i + 1) := List.drop_eq_getElem_cons hlt
    rw [e, List.all_cons]
    refine hs i hlt _ (fun hp => ?_) (fun hp => by simp [hp])
    rw [hp, Bool.true_and]
    exact_mod_cast ih (i + 1) (by omega)
/-- what a loop over the members answers: the state is carried on, or an answer is given early -/
def runM {α σ ρ : Type} (f : σ → α → σ ⊕ ρ) (fin : σ → ρ) : σ → List α → ρ
  | s, [] => fin s
  | s, x :: xs => (match f s x with
    | .inl s' => runM f fin s' xs
    | .inr r => r)
theorem EV.run {α σ ρ : Type} {g : Nat → σ → Int → Option ρ} (xs : List α) (f : σ → α → σ ⊕ ρ) (fin : σ → ρ) (I : Nat → σ → Prop)
    (hs : ∀ (i : Nat) (h : i < xs.length) (s : σ) (r : ρ), I i s → (∀ s', f s xs[i] = .inl s' → I (i + 1) s' → EV (fun k => g k s' ((i : Int) + 1)) r) → (∀ a, f s xs[i] = .inr a → r = a) → EV (fun k => g k s (i : Int)) r)
    (hf : ∀ s, I xs.length s → EV (fun k => g k s (xs.length : Int)) (fin s)) : ∀ s, I 0 s → EV (fun k => g k s 0) (runM f fin s xs) := by
  suffices h : ∀ (n i : Nat), i + n = xs.length → ∀ s, I i s → EV (fun k => g k s (i : Int)) (runM f fin s (xs.drop i)) by
    intro s hI
    have := h xs.length 0 (by omega) s hI
    simpa using this
  intro n
  induction n with
  | zero =>
    intro i hi s hI
    have e : i = xs.length := by omega
    subst e
    simpa [runM] using hf s hI
  | succ n ih =>
    intro i hi s hI
    have hlt : i < xs.length := by omega
    have e : xs.drop i = xs[i] :: xs.drop (i + 1) := List.drop_eq_getElem_cons hlt
    rw [e]
    refine hs i hlt s _ hI (fun s' h' hI' => ?_) (fun a ha => by simp [runM, ha])
    have := ih (i + 1) (by omega) s' hI'
    simp only [runM, h']
    exact_mod_cast this
/-- a fold over the members -/
theorem EV.fold {α σ ρ : Type} {g : Nat → σ → Int → Option ρ} (xs : List α) (f : σ → α → σ) (fin : σ → ρ) (I : Nat → σ → Prop)
    (hs : ∀ (i : Nat) (h : i < xs.length) (s : σ) (r : ρ), I i s → (I (i + 1) (f s xs[i]) → EV (fun k => g k (f s xs[i]) ((i : Int) + 1)) r) → EV (fun k => g k s (i : Int)) r)
    (hf : ∀ s, I xs.length s → EV (fun k => g k s (xs.length : Int)) (fin s)) : ∀ s, I 0 s → EV (fun k => g k s 0) (fin (xs.foldl f s)) := by
  suffices h : ∀ (n i : Nat), i + n = xs.length → ∀ s, I i s → EV (fun k => g k s (i : Int)) (fin ((xs.drop i).foldl f s)) by
    intro s hI
    have := h xs.length 0 (by omega) s hI
    simpa using this
  intro n
  induction n with
  | zero =>
    intro i hi s hI
    have e : i = xs.length := by omega
    subst e
    simpa using hf s hI
  | succ n ih =>
    intro i hi s hI
    have hlt : i < xs.length := by omega
    have e : xs.drop i = xs[i] :: xs.drop (i + 1) := List.drop_eq_getElem_cons hlt
    rw [e, List.foldl_cons]
    refine hs i hlt s _ hI (fun hI' => ?_)
    exact_mod_cast ih (i + 1) (by omega) _ hI'
/-- a loop that changes each member of a list once, in order -/
theorem EV.zip {α β ρ : Type} {g : Nat → List α → Int → Option ρ} (upd : α → β → α) (t : List α) (x : List β) (hl : t.length = x.length) (r : ρ)
    (hs : ∀ (i : Nat) (h : i < t.length) (h' : i < x.length) (s : List α), s.length = t.length → s[i]? = some t[i] → EV (fun k => g k (s.set i (upd t[i] x[i])) ((i : Int) + 1)) r → EV (fun k => g k s (i : Int)) r)
    (hf : EV (fun k => g k (List.zipWith upd t x) (t.length : Int)) r) : EV (fun k => g k t 0) r := by
  suffices h : ∀ (n i : Nat), i + n = t.length → EV (fun k => g k (List.zipWith upd (t.take i) (x.take i) ++ t.drop i) (i : Int)) r by
    have := h t.length 0 (by omega)
    simpa using this
  intro n
  induction n with
  | zero =>
    intro i hi
    have e : i = t.length := by omega
    subst e
    rw [List.take_length, List.drop_length, List.append_nil, hl, List.take_length, ← hl]
    exact hf
  | succ n ih =>
    intro i hi
    have h1 : i < t.length := by omega
    have h2 : i < x.length := by omega
    have e : t.drop i = t[i] :: t.drop (i + 1) := List.drop_eq_getElem_cons h1
    have hz : (List.zipWith upd (t.take i) (x.take i)).length = i := by simp; omega
    refine hs i h1 h2 _ (by simp; omega) ?_ ?_
    · rw [List.getElem?_append_right (by omega), hz, Nat.sub_self, e]; rfl
    · have := ih (i + 1) (by omega)
      rw [e, set_app _ _ _ _ _ hz.symm]
      have e2 : List.zipWith upd (t.take (i + 1)) (x.take (i + 1)) = List.zipWith upd (t.take i) (x.take i) ++ [upd t[i] x[i]] := by
        rw [List.take_succ_eq_append_getElem h1, List.take_succ_eq_append_getElem h2, List.zipWith_append (by simp; omega)]; rfl
      rw [e2, List.append_assoc, List.singleton_append] at this
      exact_mod_cast this
/-- counting up to n, the state told by the count -/
theorem EV.count {σ ρ : Type} {g : Nat → σ → Int → Option ρ} (n : Nat) (f : Nat → σ) (r : ρ)
    (hs : ∀ i, i < n → EV (fun k => g k (f (i + 1)) ((i : Int) + 1)) r → EV (fun k => g k (f i) (i : Int)) r)
    (hf : EV (fun k => g k (f n) (n : Int)) r) : EV (fun k => g k (f 0) 0) r := by
  suffices h : ∀ (m i : Nat), i + m = n → EV (fun k => g k (f i) (i : Int)) r by exact h n 0 (by omega)
  intro m
  induction m with
  | zero => intro i hi; have : i = n := by omega
            subst this; exact hf
  | succ m ih => intro i hi; exact hs i (by omega) (by exact_mod_cast ih (i + 1) (by omega))
/-- counting up to n with an early answer -/
theorem EV.countB {g : Nat → Int → Option Bool} (n : Nat) (p : Nat → Bool) (fin : Bool)
    (hs : ∀ (i : Nat) (h : i < n) (r : Bool), (p i = true → EV (fun k => g k ((i : Int) + 1)) r) → (p i = false → r = false) → EV (fun k => g k (i : Int)) r)
    (hf : EV (fun k => g k (n : Int)) fin) : EV (fun k => g k 0) ((List.range n).all p && fin) := by
  refine EV.scan (List.range n) p fin (fun i h r H1 H2 => ?_) (by rw [List.length_range]; exact hf)
  rw [List.getElem_range] at H1 H2
  exact hs i (by simpa using h) r H1 H2
/-- counting up to n with an early answer, into what comes behind -/
theorem EV.countC {ρ : Type} {g : Nat → Int → Option ρ} (n : Nat) (p : Nat → Bool) (r early : ρ)
    (hs : ∀ i, i < n → (p i = true → EV (fun k => g k ((i : Int) + 1)) r) → (p i = false → r = early) → EV (fun k => g k (i : Int)) r)
    (hf : (List.range n).all p = true → EV (fun k => g k (n : Int)) r) (he : (List.range n).all p = false → r = early) : EV (fun k => g k 0) r := by
  suffices h : ∀ (m i : Nat), i + m = n → (∀ j, j < i → p j = true) → EV (fun k => g k (i : Int)) r by exact h n 0 (by omega) (fun j hj => by omega)
  intro m
  induction m with
  | zero =>
    intro i hi ha
    have : i = n := by omega
    subst this
    exact hf (by rw [List.all_eq_true]; intro x hx; exact ha x (List.mem_range.1 hx))
  | succ m ih =>
    intro i hi ha
    refine hs i (by omega) (fun hp => ?_) (fun hp => he ?_)
    · have := ih (i + 1) (by omega) (fun j hj => by
        by_cases e : j = i
        · rw [e]; exact hp
        · exact ha j (by omega))
      exact_mod_cast this
    · rw [List.all_eq_false]
      exact ⟨i, List.mem_range.2 (by omega), by simp [hp]⟩
/-- looking at each member with an early answer, into what comes behind -/
theorem EV.scanC {α ρ : Type} {g : Nat → Int → Option ρ} (xs : List α) (p : α → Bool) (r early : ρ)
    (hs : ∀ (i : Nat) (h : i < xs.length), (p xs[i] = true → EV (fun k => g k ((i : Int) + 1)) r) → (p xs[i] = false → r = early) → EV (fun k => g k (i : Int)) r)
    (hf : xs.all p = true → EV (fun k => g k (xs.length : Int)) r) (he : xs.all p = false → r = early) : EV (fun k => g k 0) r := by
  have e : xs.all p = (List.range xs.length).all (fun i => (xs[i]?.map p).getD true) := by
    rw [Bool.eq_iff_iff, List.all_eq_true, List.all_eq_true]
    constructor
    · intro h i hi
      have := List.mem_range.1 hi
      simpa [this] using h _ (List.getElem_mem this)
    · intro h x hx
      obtain ⟨i, hi, rfl⟩ := List.mem_iff_getElem.1 hx
      have := h i (List.mem_range.2 hi)
      simpa [hi] using this
  rw [e] at hf he
  refine EV.countC xs.length _ r early (fun i hi H1 H2 => ?_) hf he
  exact hs i hi (fun h => H1 (by simpa [hi] using h)) (fun h => H2 (by simpa [hi] using h))
theorem wrap_01 : wrap64 ((0 : Int) + 1) = 1 := by rw [w64 (by omega) (by omega)]; rfl
theorem wrap_11 : wrap64 ((1 : Int) + 1) = 2 := by rw [w64 (by omega) (by omega)]; rfl
theorem wrap_1 : wrap64 1 = 1 := w64 (by omega) (by omega)

def marks : Nat → Int → List Int
  | 0, _ => []
  | n + 1, k => k :: marks n (k + 1)
theorem marks_length (n : Nat) : ∀ k, (marks n k).length = n := by
  induction n with
  | zero => intro k; rfl
  | succ n ih => intro k; simp [marks, ih]

def total : List (List Int) → Nat
  | [] => 0
  | r :: rs => r.length + total rs
def marksL : List (List Int) → Int → List (List Int)
  | [], _ => []
  | r :: rs, k => marks r.length k :: marksL rs (k + r.length)
theorem total_mem {r : List Int} : ∀ {xs : List (List Int)}, r ∈ xs → r.length ≤ total xs
  | [], h => by cases h
  | x :: xs, h => by
    rcases List.mem_cons.1 h with rfl | h
    · simp [total]
    · have := total_mem h; simp only [total]; omega
theorem marksL_length : ∀ (xs : List (List Int)) (k : Int), (marksL xs k).length = xs.length
  | [], _ => rfl
  | x :: xs, k => by simp [marksL, marksL_length xs]
/-- what szIntSS answers -/
def szM (xs : List (List Int)) (left : Int) : Int := if (xs.length : Int) + total xs ≤ left then left - xs.length - total xs else -1

def rightM (g : List (List Int)) : List (List Int) := if graphB g = true then g else []
theorem edge_all {g : List (List Int)} (h : graphB g = true) : g.length ≤ 10 ∧ ∀ r ∈ g, r.length ≤ 2 := by
  simp [graphB] at h
  exact ⟨by omega, fun r hr => by have := edge_len (h.1 r hr); omega⟩
theorem total_le2 : ∀ {xs : List (List Int)}, (∀ r ∈ xs, r.length ≤ 2) → total xs ≤ 2 * xs.length
  | [], _ => by simp [total]
  | x :: xs, h => by
    have h1 := h x (by simp)
    have h2 := total_le2 (xs := xs) (fun r hr => h r (by simp [hr]))
    simp only [total, List.length_cons]; omega
theorem rightM_sz (g : List (List Int)) : (rightM g).length ≤ 4194304 ∧ total (rightM g) ≤ 4194304 := by
  unfold rightM
  split
  · rename_i h
    have a := edge_all h
    have b := total_le2 a.2
    omega
  · simp [total]

theorem spec_l1In_is (a b c : Int) : spec_l1In.f a b c = some (decide (b ≤ a ∧ a ≤ c)) := by
  unfold spec_l1In.f
  by_cases h : a ≥ b
  · rw [if_pos h]; simp [show b ≤ a from h]
  · rw [if_neg h]; simp; omega

theorem spec_IsGraph_l0 (g : List (List Int)) (hn : g.length < 4611686018427387904) : ∀ (suf pre : List (List Int)), g = pre ++ suf →
    EV (fun k => spec_IsGraph.l0 k g (pre.length : Int)) (suf.all edgeB && decide (1 ≤ g.length ∧ g.length ≤ 10)) := by
  intro suf
  induction suf with
  | nil =>
    intro pre h
    refine EV.step (fun k => by rw [spec_IsGraph.l0]) ?_
    refine EV.neg (by subst h; simp) (EV.by (spec_l1In_is _ _ _) ((EV.now _).eq ?_))
    rw [Bool.eq_iff_iff]; simp; omega
  | cons x suf ih =>
    intro pre h
    have hl : pre.length < 4611686018427387904 := by subst h; simp at hn; omega
    have hlt : (pre.length : Int) < (g.length : Int) := by subst h; exact lt_app ..
    have hx : rd_L1 g (pre.length : Int) = x := by subst h; exact rdL_app ..
    refine EV.step (fun k => by rw [spec_IsGraph.l0]) ?_
    rw [hx, up (x := x) hl]
    refine EV.pos hlt (EV.pos (by omega) (?_))
    by_cases h2 : x.length = 2
    · obtain ⟨a, b, rfl⟩ := two_of h2
      have e0 : rd [a, b] 0 = a := rfl
      have e1 : rd [a, b] 1 = b := rfl
      refine EV.pos rfl (EV.pos (by simp) (EV.by (spec_l1In_is _ _ _) ?_))
      rw [e0]
      by_cases ha : 0 ≤ a ∧ a ≤ 6
      · refine EV.pos (by simpa using ha) (EV.pos (by simp) (EV.by (spec_l1In_is _ _ _) ?_))
        rw [e1]
        by_cases hb : 0 ≤ b ∧ b ≤ 6
        · refine EV.pos (by simpa using hb) ?_
          by_cases hab : a = b
          · exact EV.pos hab ((EV.now _).eq (by simp [edgeB, hab]))
          · exact EV.neg hab ((ih (pre ++ [[a, b]]) (by simp [h])).eq (by simp [edgeB, ha, hb, hab]))
        · exact EV.neg (by simpa using hb) ((EV.now _).eq (by simp [edgeB, hb]))
      · exact EV.neg (by simpa using ha) ((EV.now _).eq (by simp [edgeB, ha]))
    · refine EV.neg (by omega) ((EV.now _).eq ?_)
      have : edgeB x = false := by
        rcases Bool.eq_false_or_eq_true (edgeB x) with h' | h'
        · exact absurd (edge_len h') h2
        · exact h'
      simp [this]
theorem spec_IsGraph_is (g : List (List Int)) (hn : g.length < 4611686018427387904) : EV (fun k => spec_IsGraph.f k g) (graphB g) := spec_IsGraph_l0 g hn g [] rfl

theorem spec_l7Right_is (g : List (List Int)) (hn : g.length < 4611686018427387904) : EV (fun k => spec_l7Right.f k g) (if graphB g = true then g else []) := by
  refine EV.bind (spec_IsGraph_is g hn) ?_
  by_cases h : graphB g = true
  · exact EV.pos h ((EV.now _).eq (by rw [if_pos h]))
  · exact EV.neg h ((EV.now _).eq (by rw [if_neg h]))

theorem impl_within_is (a b c : Int) : impl_within.f a b c = some (decide (b ≤ a ∧ a ≤ c)) := by
  unfold impl_within.f
  by_cases h : a ≥ b
  · rw [if_pos h]; simp [show b ≤ a from h]
  · rw [if_neg h]; simp; omega

theorem impl_IsGraph_l0 (g : List (List Int)) (hn : g.length < 4611686018427387904) : ∀ (suf pre : List (List Int)), g = pre ++ suf →
    EV (fun k => impl_IsGraph.l0 k g g (g.length : Int) (pre.length : Int)) (suf.all edgeB && decide (1 ≤ g.length ∧ g.length ≤ 10)) := by
  intro suf
  induction suf with
  | nil =>
    intro pre h
    refine EV.step (fun k => by rw [impl_IsGraph.l0]) ?_
    refine EV.neg (by subst h; simp) (EV.by (impl_within_is _ _ _) ((EV.now _).eq ?_))
    rw [Bool.eq_iff_iff]; simp; omega
  | cons x suf ih =>
    intro pre h
    have hl : pre.length < 4611686018427387904 := by subst h; simp at hn; omega
    have hlt : (pre.length : Int) < (g.length : Int) := by subst h; exact lt_app ..
    have hx : rd_L1 g (pre.length : Int) = x := by subst h; exact rdL_app ..
    refine EV.step (fun k => by rw [impl_IsGraph.l0]) ?_
    rw [hx, up (x := x) hl]
    refine EV.pos hlt (EV.pos (by omega) (EV.pos hlt (?_)))
    by_cases h2 : x.length = 2
    · obtain ⟨a, b, rfl⟩ := two_of h2
      have e0 : rd [a, b] 0 = a := rfl
      have e1 : rd [a, b] 1 = b := rfl
      refine EV.pos rfl (EV.pos (by simp) (EV.by (impl_within_is _ _ _) ?_))
      rw [e0]
      by_cases ha : 0 ≤ a ∧ a ≤ 6
      · refine EV.pos (by simpa using ha) (EV.pos (by simp) (EV.by (impl_within_is _ _ _) ?_))
        rw [e1]
        by_cases hb : 0 ≤ b ∧ b ≤ 6
        · refine EV.pos (by simpa using hb) ?_
          by_cases hab : a = b
          · exact EV.pos hab ((EV.now _).eq (by simp [edgeB, hab]))
          · exact EV.neg hab ((ih (pre ++ [[a, b]]) (by simp [h])).eq (by simp [edgeB, ha, hb, hab]))
        · exact EV.neg (by simpa using hb) ((EV.now _).eq (by simp [edgeB, hb]))
      · exact EV.neg (by simpa using ha) ((EV.now _).eq (by simp [edgeB, ha]))
    · refine EV.neg (by omega) ((EV.now _).eq ?_)
      have : edgeB x = false := by
        rcases Bool.eq_false_or_eq_true (edgeB x) with h' | h'
        · exact absurd (edge_len h') h2
        · exact h'
      simp [this]
theorem impl_IsGraph_is (g : List (List Int)) (hn : g.length < 4611686018427387904) : EV (fun k => impl_IsGraph.f k g) (graphB g) := impl_IsGraph_l0 g hn g [] rfl

theorem impl_graphOf_is (g : List (List Int)) (hn : g.length < 4611686018427387904) : EV (fun k => impl_graphOf.f k g) (if graphB g = true then g else []) := by
  refine EV.bind (impl_IsGraph_is g hn) ?_
  by_cases h : graphB g = true
  · exact EV.pos h ((EV.now _).eq (by rw [if_pos h]))
  · exact EV.neg h ((EV.now _).eq (by rw [if_neg h]))

theorem laws_eqIntS_l0 (xs ys : List Int) (hn : xs.length < 4611686018427387904) : ∀ (suf suf' pre : List Int), pre.length + suf.length = xs.length → pre.length + suf'.length = ys.length → suf.length = suf'.length → xs.drop pre.length = suf → ys.drop pre.length = suf' →
    EV (fun k => laws_eqIntS.l0 k xs ys (pre.length : Int)) (decide (suf = suf')) := by
  intro suf
  induction suf with
  | nil =>
    intro suf' pre h1 h2 h3 h4 h5
    have : suf' = [] := List.eq_nil_of_length_eq_zero (by simpa using h3.symm)
    subst this
    refine EV.step (fun k => by rw [laws_eqIntS.l0]) ?_
    refine (EV.neg ?_ ((EV.now _).eq (by simp)))
    simp at h1; omega
  | cons x suf ih =>
    intro suf' pre h1 h2 h3 h4 h5
    obtain ⟨y, suf', rfl⟩ : ∃ y t, suf' = y :: t := by
      cases suf' with
      | nil => simp at h3
      | cons y t => exact ⟨y, t, rfl⟩
    simp only [List.length_cons] at h1 h2 h3
    have hl : pre.length < 4611686018427387904 := by omega
    have hx : rd xs (pre.length : Int) = x := by
      rw [rd_nat _ _ (by omega)]
      have := List.getElem_drop (xs := xs) (i := pre.length) (j := 0) (h := by simp; omega)
      simp only [h4] at this; simpa using this.symm
    have hy : rd ys (pre.length : Int) = y := by
      rw [rd_nat _ _ (by omega)]
      have := List.getElem_drop (xs := ys) (i := pre.length) (j := 0) (h := by simp; omega)
      simp only [h5] at this; simpa using this.symm
    refine EV.step (fun k => by rw [laws_eqIntS.l0]) ?_
    refine (EV.pos (by omega) (EV.pos (by omega) (EV.pos (by omega) ?_)))
    rw [hx, hy, up (x := x) hl]
    by_cases hs : x = y
    · refine EV.pos hs ((ih suf' _ (by simp; omega) (by simp; omega) (by omega) ?_ ?_).eq (by simp [hs]))
      · rw [List.length_append, ← List.drop_drop, h4]; rfl
      · rw [List.length_append, ← List.drop_drop, h5]; rfl
    · exact (EV.neg hs (EV.now _)).eq (by simp [hs])
theorem laws_eqIntS_is (xs ys : List Int) (hn : xs.length < 4611686018427387904) : EV (fun k => laws_eqIntS.f k xs ys) (decide (xs = ys)) := by
  by_cases h : xs.length = ys.length
  · exact EV.pos (by omega) (laws_eqIntS_l0 xs ys hn xs ys [] (by simp) (by simp) h rfl rfl)
  · exact (EV.neg (by omega) (EV.now _)).eq (by simp; intro e; exact h (by rw [e]))
theorem laws_eqIntS_self (xs : List Int) (hn : xs.length < 4611686018427387904) : EV (fun k => laws_eqIntS.f k xs xs) true := (laws_eqIntS_is xs xs hn).eq (by simp)

theorem laws_eqIntSS_l0 (xs : List (List Int)) (hn : xs.length < 4611686018427387904) (hr : ∀ r ∈ xs, r.length < 4611686018427387904) : ∀ (suf pre : List (List Int)), xs = pre ++ suf →
    EV (fun k => laws_eqIntSS.l0 k xs xs (pre.length : Int)) true := by
  intro suf
  induction suf with
  | nil =>
    intro pre h
    refine EV.step (fun k => by rw [laws_eqIntSS.l0]) ?_
    exact EV.neg (by subst h; simp) (EV.now _)
  | cons x suf ih =>
    intro pre h
    have hl : pre.length < 4611686018427387904 := by subst h; simp at hn; omega
    have hlt : (pre.length : Int) < (xs.length : Int) := by subst h; exact lt_app ..
    have hx : rd_L1 xs (pre.length : Int) = x := by subst h; exact rdL_app ..
    have hx' : x.length < 4611686018427387904 := hr x (by subst h; simp)
    refine EV.step (fun k => by rw [laws_eqIntSS.l0]) ?_
    rw [hx, up (x := x) hl]
    refine EV.pos hlt (EV.pos (by omega) (EV.pos (by omega) (EV.bind (laws_eqIntS_self x hx') (EV.pos rfl ?_))))
    exact ih (pre ++ [x]) (by simp [h])
theorem laws_eqIntSS_self (xs : List (List Int)) (hn : xs.length < 4611686018427387904) (hr : ∀ r ∈ xs, r.length < 4611686018427387904) : EV (fun k => laws_eqIntSS.f k xs xs) true :=
  EV.pos rfl (laws_eqIntSS_l0 xs hn hr xs [] rfl)

theorem laws_markIntS_l0 : ∀ (suf pre : List Int) (k : Int), pre.length + suf.length < 4611686018427387904 → 0 ≤ k → k + suf.length < 4611686018427387904 →
    EV (fun r => laws_markIntS.l0 r (pre ++ suf) k (pre.length : Int)) (k + suf.length, pre ++ marks suf.length k) := by
  intro suf
  induction suf with
  | nil =>
    intro pre k h1 h2 h3
    refine EV.step (fun r => by rw [laws_markIntS.l0]) ?_
    exact EV.neg (by simp) ((EV.now _).eq (by simp [marks]))
  | cons x suf ih =>
    intro pre k h1 h2 h3
    simp only [List.length_cons] at h1 h3
    refine EV.step (fun r => by rw [laws_markIntS.l0]) ?_
    refine EV.pos (lt_app ..) (EV.pos (by omega) ?_)
    rw [set_app _ _ _ _ _ (by simp), up (x := k) (by omega), w64 (by omega) (by omega)]
    have := ih (pre ++ [k]) (k + 1) (by simp; omega) (by omega) (by omega)
    simp only [List.append_assoc, List.cons_append, List.nil_append] at this
    refine this.eq ?_
    simp [marks]; omega
theorem laws_markIntS_is (xs : List Int) (k : Int) (h1 : xs.length < 2305843009213693952) (h2 : 0 ≤ k) (h3 : k < 2305843009213693952) : EV (fun r => laws_markIntS.f r xs k) (k + xs.length, marks xs.length k) :=
  laws_markIntS_l0 xs [] k (by simp; omega) h2 (by omega)

theorem laws_heldIntS_l0 : ∀ (n : Nat) (pre : List Int) (k : Int), pre.length + n < 4611686018427387904 → 0 ≤ k → k + n < 4611686018427387904 →
    EV (fun r => laws_heldIntS.l0 r (pre ++ marks n k) k (pre.length : Int)) (k + n) := by
  intro n
  induction n with
  | zero =>
    intro pre k h1 h2 h3
    refine EV.step (fun r => by rw [laws_heldIntS.l0]) ?_
    exact EV.neg (by simp [marks]) ((EV.now _).eq (by simp))
  | succ n ih =>
    intro pre k h1 h2 h3
    refine EV.step (fun r => by rw [laws_heldIntS.l0]) ?_
    rw [marks]
    refine EV.pos (lt_app ..) (EV.pos (by omega) (EV.pos (rd_app ..) ?_))
    rw [up (x := k) (by omega), w64 (by omega) (by omega)]
    have := ih (pre ++ [k]) (k + 1) (by simp; omega) (by omega) (by omega)
    simp only [List.append_assoc, List.cons_append, List.nil_append] at this
    refine this.eq (by omega)
theorem laws_heldIntS_is (n : Nat) (k : Int) (h1 : n < 2305843009213693952) (h2 : 0 ≤ k) (h3 : k < 2305843009213693952) : EV (fun r => laws_heldIntS.f r (marks n k) k) (k + n) :=
  laws_heldIntS_l0 n [] k (by simp; omega) h2 (by omega)

theorem laws_heldIntSS_l0 : ∀ (suf pre : List (List Int)) (k : Int), pre.length + suf.length < 4611686018427387904 → 0 ≤ k → k + total suf < 2305843009213693952 →
    EV (fun r => laws_heldIntSS.l0 r (pre ++ marksL suf k) k (pre.length : Int)) (k + total suf) := by
  intro suf
  induction suf with
  | nil =>
    intro pre k h1 h2 h3
    refine EV.step (fun r => by rw [laws_heldIntSS.l0]) ?_
    exact EV.neg (by simp [marksL]) ((EV.now _).eq (by simp [total]))
  | cons x suf ih =>
    intro pre k h1 h2 h3
    simp only [List.length_cons, total] at h1 h3
    refine EV.step (fun r => by rw [laws_heldIntSS.l0]) ?_
    rw [marksL, rdL_app, up (x := x) (by omega)]
    refine EV.pos (lt_app ..) (EV.pos (by omega) (EV.bind (laws_heldIntS_is x.length k (by omega) h2 (by omega)) (EV.neg (by omega) ?_)))
    have := ih (pre ++ [marks x.length k]) (k + x.length) (by simp; omega) (by omega) (by omega)
    simp only [List.append_assoc, List.cons_append, List.nil_append] at this
    refine EV.congr (fun r => ?_) (this.eq ?_)
    · simp
    · simp only [total]; omega
theorem laws_heldIntSS_is (xs : List (List Int)) (k : Int) (h1 : xs.length < 2305843009213693952) (h2 : 0 ≤ k) (h3 : k + total xs < 2305843009213693952) : EV (fun r => laws_heldIntSS.f r (marksL xs k) k) (k + total xs) :=
  laws_heldIntSS_l0 xs [] k (by simp; omega) h2 h3

theorem laws_markIntSS_l0 : ∀ (suf pre : List (List Int)) (k : Int), pre.length + suf.length < 4611686018427387904 → 0 ≤ k → k + total suf < 2305843009213693952 →
    EV (fun r => laws_markIntSS.l0 r (pre ++ suf) k (pre.length : Int)) (k + total suf, pre ++ marksL suf k) := by
  intro suf
  induction suf with
  | nil =>
    intro pre k h1 h2 h3
    refine EV.step (fun r => by rw [laws_markIntSS.l0]) ?_
    exact EV.neg (by simp) ((EV.now _).eq (by simp [marksL, total]))
  | cons x suf ih =>
    intro pre k h1 h2 h3
    simp only [List.length_cons, total] at h1 h3
    refine EV.step (fun r => by rw [laws_markIntSS.l0]) ?_
    rw [rdL_app, up (x := x) (by omega)]
    refine EV.pos (lt_app ..) (EV.pos (by omega) (EV.bind (laws_markIntS_is x k (by omega) h2 (by omega)) ?_))
    rw [set_app _ _ _ _ _ (by simp)]
    have := ih (pre ++ [marks x.length k]) (k + x.length) (by simp; omega) (by omega) (by omega)
    simp only [List.append_assoc, List.cons_append, List.nil_append, List.length_append, List.length_cons, List.length_nil] at this
    refine EV.congr (fun r => ?_) (this.eq ?_)
    · simp
    · simp only [marksL, total]; congr 1; omega
theorem laws_markIntSS_is (xs : List (List Int)) (k : Int) (h1 : xs.length < 2305843009213693952) (h2 : 0 ≤ k) (h3 : k + total xs < 2305843009213693952) : EV (fun r => laws_markIntSS.f r xs k) (k + total xs, marksL xs k) :=
  laws_markIntSS_l0 xs [] k (by simp; omega) h2 h3

theorem ring_small (n : Int) (h : n = 3 ∨ n = 4 ∨ n = 5 ∨ n = 6 ∨ n = 7 ∨ n = 8 ∨ n = 9) : spec_RingGraph.f 60 n = impl_RingGraph.f 60 n ∧ ((impl_RingGraph.f 60 n).map fun g => decide (g.length ≤ 10) && g.all fun e => decide (e.length ≤ 2)) = some true := by
  rcases h with rfl | rfl | rfl | rfl | rfl | rfl | rfl <;> decide +kernel
theorem both (n : Int) (hn : (Lit.int .i64 n).wf = true) : ∃ R : List (List Int), EV (fun k => spec_RingGraph.f k n) R ∧ EV (fun k => impl_RingGraph.f k n) R ∧ R.length ≤ 4194304 ∧ total R ≤ 4194304 := by
  by_cases h : 3 ≤ n ∧ n ≤ 9
  · obtain ⟨e, hs⟩ := ring_small n (by omega)
    obtain ⟨R, hR⟩ : ∃ R, impl_RingGraph.f 60 n = some R := by
      rcases hx : impl_RingGraph.f 60 n with _ | R
      · rw [hx] at hs; cases hs
      · exact ⟨R, rfl⟩
    rw [hR] at hs e
    simp at hs
    have z := total_le2 hs.2
    exact ⟨R, EV.mono (spec_RingGraph.mono n) e, EV.mono (impl_RingGraph.mono n) hR, by omega, by omega⟩
  · refine ⟨[], ?_, ?_, by simp, by simp [total]⟩
    · show EV (fun k => spec_RingGraph.l0 k n [] 0) []
      refine EV.step (fun k => by rw [spec_RingGraph.l0]) ?_
      have R := spec_l7Right_is [] (by simp)
      by_cases h0 : (0 : Int) < n
      · refine EV.pos h0 (EV.by (spec_l1In_is _ _ _) (EV.neg (by simp; omega) (EV.bind R (EV.now _))))
      · exact EV.neg h0 (EV.bind R (EV.now _))
    · exact EV.by (impl_within_is _ _ _) (EV.neg (by simpa using h) (EV.now _))

/-- what the walk asks, out of what the two functions answer -/
theorem FnExactRingGraph (a0 : Int) (w0 : (Lit.int .i64 a0).wf = true) : ∃ k, Facts k a0 := by
  obtain ⟨R, S, I, hR⟩ := both a0 w0
  have hRr : ∀ r ∈ R, r.length ≤ 4194304 := fun r hr => by have := total_mem hr; omega
  exact (Evt.imp (Evt.and (S.evt) (Evt.and (I.evt) (Evt.and ((laws_eqIntSS_self R (by omega) (fun r hr => by have := hRr r hr; omega)).evt) (Evt.and ((laws_markIntSS_is R 1 (by omega) (by omega) (by omega)).evt) (Evt.and ((laws_heldIntSS_is R 1 (by omega) (by omega) (by omega)).evt) (Evt.const (show (0 : Int) ≤ (1 + total R) by omega))))))) (fun k h => ⟨R, ((1 + total R)), (marksL R 1), h⟩)).rounds

end Go.Proofs.Ytkhbhbplfgggkaa.Pure
