/- Pure side of FnExactSheetSymmetries: the printed functions of the program and of the reference answer alike at every input that the statement takes; no condition beyond the printed statement's bounds. -/
import Derived.Test.YtlbjgdkmkdpopaaPFnExactSheetSymmetriesx6
import Derived.Test.YtlbjgdkmkdpopaaWSized
set_option linter.unusedVariables false
set_option linter.unusedSimpArgs false
set_option linter.unnecessarySimpa false
set_option maxRecDepth 10000
/-- the printed row calls the print's word by this name -/
abbrev Go.Proofs.Ytlbjgdkmkdpopaa.PrintWords.sized_ints := @Go.Proofs.YtlbjgdkmkdpopaaW.PrintWords.sized_ints
namespace Go.Proofs.Ytlbjgdkmkdpopaa.Pure
open Go.RowKit Go.Proofs.Ytlbjgdkmkdpopaa.PFnExactSheetSymmetries Go.Proofs.YtlbjgdkmkdpopaaW.PrintWords Go.Proofs.YtlbjgdkmkdpopaaW.PrintLast Go.Proofs.YtlbjgdkmkdpopaaW.PrintMore

/-! ### Base: words of our own, of no program -/
section
theorem w64 {x : Int} (h1 : -9223372036854775808 ≤ x) (h2 : x ≤ 9223372036854775807) : wrap64 x = x := by
  unfold wrap64; omega
theorem wf64 {x : Int} (h : (Lit.int .i64 x).wf = true) : -9223372036854775808 ≤ x ∧ x ≤ 9223372036854775807 := by
  simp only [Lit.wf, IntKind.min, IntKind.max, IntKind.signed, IntKind.bits, Bool.and_eq_true, decide_eq_true_eq, if_true] at h
  omega
/-- from some number of rounds on it answers r -/
structure EV {α : Type} (g : Nat → Option α) (r : α) : Prop where mk :: (out : ∃ K, ∀ k, K ≤ k → g k = some r)
theorem EV.now {α : Type} (r : α) : EV (fun _ => some r) r := ⟨0, fun _ _ => rfl⟩
theorem EV.rounds {α : Type} {g : Nat → Option α} {r : α} (h : EV g r) : ∃ k, g k = some r := by
  obtain ⟨K, h⟩ := h
  exact ⟨K, h K (Nat.le_refl _)⟩
theorem EV.bind {α β : Type} {g : Nat → Option α} {f : Nat → α → Option β} {a : α} {r : β} (h : EV g a) (k : EV (fun n => f n a) r) : EV (fun n => (g n).bind (f n)) r := by
  obtain ⟨K, h⟩ := h
  obtain ⟨K', k⟩ := k
  refine ⟨max K K', fun n hn => ?_⟩
  have h1 := h n (by omega)
  have h2 := k n (by omega)
  simp only [h1, Option.bind_some]
  exact h2
theorem EV.step {α : Type} {g f : Nat → Option α} {r : α} (h : ∀ k, g (k + 1) = f k) (k : EV f r) : EV g r := by
  obtain ⟨K, k⟩ := k
  refine ⟨K + 1, fun n hn => ?_⟩
  obtain ⟨m, rfl⟩ : ∃ m, n = m + 1 := ⟨n - 1, by omega⟩
  rw [h]
  exact k m (by omega)
theorem EV.congr {α : Type} {g f : Nat → Option α} {r : α} (h : ∀ k, g k = f k) (k : EV f r) : EV g r := by
  obtain ⟨K, k⟩ := k
  exact ⟨K, fun n hn => (h n).trans (k n hn)⟩
theorem EV.pos {α : Type} {c : Prop} [Decidable c] {a b : Nat → Option α} {r : α} (h : c) (k : EV a r) : EV (fun n => if c then a n else b n) r :=
  EV.congr (fun n => if_pos h) k
theorem EV.neg {α : Type} {c : Prop} [Decidable c] {a b : Nat → Option α} {r : α} (h : ¬ c) (k : EV b r) : EV (fun n => if c then a n else b n) r :=
  EV.congr (fun n => if_neg h) k
theorem EV.cases {α : Type} {c : Prop} [Decidable c] {a b : Nat → Option α} {r : α} (h : c → EV a r) (h' : ¬ c → EV b r) : EV (fun n => if c then a n else b n) r := by
  by_cases hc : c
  · exact EV.pos hc (h hc)
  · exact EV.neg hc (h' hc)
/-- a callee without rounds -/
theorem EV.by {α β : Type} {g : Option α} {f : Nat → α → Option β} {a : α} {r : β} (h : g = some a) (k : EV (fun n => f n a) r) : EV (fun n => g.bind (f n)) r := by
  subst h; exact k
theorem EV.is {α : Type} {g : Option α} {r : α} (h : g = some r) : EV (fun _ => g) r := ⟨0, fun _ _ => h⟩
theorem EV.eq {α : Type} {g : Nat → Option α} {r r' : α} (h : EV g r) (e : r = r') : EV g r' := e ▸ h
theorem rd_app (pre : List Int) (x : Int) (suf : List Int) : rd (pre ++ x :: suf) (pre.length : Int) = x := by
  simp [rd]
theorem rd_nat (xs : List Int) (i : Nat) (h : i < xs.length) : rd xs (i : Int) = xs[i] := by
  simp [rd, h]
theorem set_app {α : Type} (pre : List α) (x y : α) (suf : List α) (n : Nat) (hn : n = pre.length) : (pre ++ x :: suf).set n y = pre ++ y :: suf := by
  subst hn; simp
end
def smallB (x : Int) : Bool := decide (-1000 ≤ x ∧ x ≤ 1000)
/-- one index on -/
theorem up {α : Type} {x : α} {pre : List α} (h : pre.length < 4611686018427387904) : wrap64 ((pre.length : Int) + 1) = ((pre ++ [x]).length : Int) := by
  rw [w64 (by omega) (by omega)]; simp
theorem lt_app {α : Type} (pre : List α) (x : α) (suf : List α) : (pre.length : Int) < ((pre ++ x :: suf).length : Int) := by simp; omega
def classB (g : Int) (xs : List Int) : Bool := decide (1 ≤ g ∧ g ≤ 3) && (decide ((xs.length : Int) = 2 * g) && xs.all smallB)
theorem EV.uniq {α : Type} {g : Nat → Option α} {r r' : α} (h : EV g r) (h' : EV g r') : r = r' := by
  obtain ⟨K, h⟩ := h
  obtain ⟨K', h'⟩ := h'
  have a := h (max K K') (by omega)
  have b := h' (max K K') (by omega)
  rw [a] at b; exact Option.some.inj b
/-- from some number of rounds on -/
def Evt (P : Nat → Prop) : Prop := ∃ K, ∀ k, K ≤ k → P k
theorem Evt.and {P Q : Nat → Prop} (h : Evt P) (h' : Evt Q) : Evt (fun k => P k ∧ Q k) := by
  obtain ⟨K, h⟩ := h
  obtain ⟨K', h'⟩ := h'
  exact ⟨max K K', fun k hk => ⟨h k (by omega), h' k (by omega)⟩⟩
theorem Evt.const {p : Prop} (h : p) : Evt (fun _ => p) := ⟨0, fun _ _ => h⟩
theorem EV.evt {α : Type} {g : Nat → Option α} {r : α} (h : EV g r) : Evt (fun k => g k = some r) := h.out
theorem Evt.imp {P Q : Nat → Prop} (h : Evt P) (f : ∀ k, P k → Q k) : Evt Q := by
  obtain ⟨K, h⟩ := h
  exact ⟨K, fun k hk => f k (h k hk)⟩
theorem Evt.rounds {P : Nat → Prop} (h : Evt P) : ∃ k, P k := by
  obtain ⟨K, h⟩ := h
  exact ⟨K, h K (Nat.le_refl _)⟩
theorem EV.mono {α : Type} {g : Nat → Option α} (hg : ∀ k, LeO (g k) (g (k + 1))) {k : Nat} {r : α} (h : g k = some r) : EV g r := ⟨k, fun _ hk => at_rounds hg hk h⟩

theorem laws_szIntS_is (xs : List Int) (left : Int) (h0 : 0 ≤ left) (h1 : left ≤ 1048576) (h2 : xs.length ≤ 9223372036854775807) : laws_szIntS.f xs left = some (if (xs.length : Int) ≤ left then left - xs.length else -1) := by
  unfold laws_szIntS.f
  rw [w64 (by omega) (by omega)]
  by_cases h : (xs.length : Int) ≤ left
  · rw [if_neg (by omega), if_pos h]
  · rw [if_pos (by omega), if_neg h]

def marks : Nat → Int → List Int
  | 0, _ => []
  | n + 1, k => k :: marks n (k + 1)
theorem marks_length (n : Nat) : ∀ k, (marks n k).length = n := by
  induction n with
  | zero => intro k; rfl
  | succ n ih => intro k; simp [marks, ih]

theorem rdL_app (pre : List (List Int)) (x : List Int) (suf : List (List Int)) : rd_L1 (pre ++ x :: suf) (pre.length : Int) = x := by
  simp [rd_L1]
theorem rdL_nat (xs : List (List Int)) (i : Nat) (h : i < xs.length) : rd_L1 xs (i : Int) = xs[i] := by
  simp [rd_L1, h]

def total : List (List Int) → Nat
  | [] => 0
  | r :: rs => r.length + total rs
def marksL : List (List Int) → Int → List (List Int)
  | [], _ => []
  | r :: rs, k => marks r.length k :: marksL rs (k + r.length)
theorem total_mem {r : List Int} : ∀ {xs : List (List Int)}, r ∈ xs → r.length ≤ total xs
  | [], h => by cases h
  | x :: xs, h => by
    rcases List.mem_cons.1 h with rfl | h
    · simp [total]
    · have := total_mem h; simp only [total]; omega
theorem marksL_length : ∀ (xs : List (List Int)) (k : Int), (marksL xs k).length = xs.length
  | [], _ => rfl
  | x :: xs, k => by simp [marksL, marksL_length xs]
/-- what szIntSS answers -/
def szM (xs : List (List Int)) (left : Int) : Int := if (xs.length : Int) + total xs ≤ left then left - xs.length - total xs else -1

theorem laws_szIntSS_l0 (xs : List (List Int)) (hn : xs.length < 4611686018427387904) (hr : ∀ r ∈ xs, r.length ≤ 9223372036854775807) : ∀ (suf pre : List (List Int)) (left : Int), xs = pre ++ suf → 0 ≤ left → left ≤ 1048576 →
    EV (fun k => laws_szIntSS.l0 k xs left (pre.length : Int)) (if (total suf : Int) ≤ left then left - total suf else -1) := by
  intro suf
  induction suf with
  | nil =>
    intro pre left h h0 h1
    refine EV.step (fun k => by rw [laws_szIntSS.l0]) ?_
    exact EV.neg (by subst h; simp) ((EV.now _).eq (by rw [if_pos (by simp [total]; omega)]; simp [total]))
  | cons x suf ih =>
    intro pre left h h0 h1
    have hl : pre.length < 4611686018427387904 := by subst h; simp at hn; omega
    have hlt : (pre.length : Int) < (xs.length : Int) := by subst h; exact lt_app ..
    have hx : rd_L1 xs (pre.length : Int) = x := by subst h; exact rdL_app ..
    have hx' : x.length ≤ 9223372036854775807 := hr x (by subst h; simp)
    refine EV.step (fun k => by rw [laws_szIntSS.l0]) ?_
    rw [hx, up (x := x) hl]
    refine EV.pos hlt (EV.pos (by omega) (EV.by (laws_szIntS_is x left h0 h1 hx') ?_))
    by_cases hs : (x.length : Int) ≤ left
    · rw [if_pos hs]
      refine EV.neg (by omega) ((ih (pre ++ [x]) (left - x.length) (by simp [h]) (by omega) (by omega)).eq ?_)
      have e : total (x :: suf) = x.length + total suf := rfl
      by_cases ht : (total suf : Int) ≤ left - x.length
      · rw [if_pos ht, if_pos (by rw [e]; omega), e]; omega
      · rw [if_neg ht, if_neg (by rw [e]; omega)]
    · rw [if_neg hs]
      exact EV.pos (by omega) ((EV.now _).eq (by rw [if_neg (by simp only [total]; omega)]))
theorem laws_szIntSS_is (xs : List (List Int)) (left : Int) (h0 : 0 ≤ left) (h1 : left ≤ 1048576) (hn : xs.length ≤ 9223372036854775807) (hr : ∀ r ∈ xs, r.length ≤ 9223372036854775807) : EV (fun k => laws_szIntSS.f k xs left) (szM xs left) := by
  unfold szM
  have e : wrap64 (left - (xs.length : Int)) = left - xs.length := w64 (by omega) (by omega)
  refine EV.congr (fun k => by rw [laws_szIntSS.f, e]) ?_
  by_cases h : (xs.length : Int) ≤ left
  · refine EV.neg (by omega) ((laws_szIntSS_l0 xs (by omega) hr xs [] (left - xs.length) rfl (by omega) (by omega)).eq ?_)
    by_cases ht : (total xs : Int) ≤ left - xs.length
    · rw [if_pos ht, if_pos (by omega)]
    · rw [if_neg ht, if_neg (by omega)]
  · exact EV.pos (by omega) ((EV.now _).eq (by rw [if_neg (by omega)]))

theorem spec_l1In_is (a b c : Int) : spec_l1In.f a b c = some (decide (b ≤ a ∧ a ≤ c)) := by
  unfold spec_l1In.f
  by_cases h : a ≥ b
  · rw [if_pos h]; simp [show b ≤ a from h]
  · rw [if_neg h]; simp; omega

/-- a loop that looks at each member and answers early, or goes on -/
theorem EV.scan {α : Type} {g : Nat → Int → Option Bool} (xs : List α) (p : α → Bool) (fin : Bool)
    (hs : ∀ (i : Nat) (h : i < xs.length) (r : Bool), (p xs[i] = true → EV (fun k => g k ((i : Int) + 1)) r) → (p xs[i] = false → r = false) → EV (fun k => g k (i : Int)) r)
    (hf : EV (fun k => g k (xs.length : Int)) fin) : EV (fun k => g k 0) (xs.all p && fin) := by
  suffices h : ∀ (n i : Nat), i + n = xs.length → EV (fun k => g k (i : Int)) ((xs.drop i).all p && fin) by
    have := h xs.length 0 (by omega)
    simpa using this
  intro n
  induction n with
  | zero =>
    intro i hi
    have e : i = xs.length := by omega
    subst e
    simpa using hf
  | succ n ih =>
    intro i hi
    have hlt : i < xs.length := by omega
    have e : xs.drop i = xs[i] :: xs.drop (i + 1) := List.drop_eq_getElem_cons hlt
    rw [e, List.all_cons]
    refine hs i hlt _ (fun hp => ?_) (fun hp => by simp [hp])
    rw [hp, Bool.true_and]
    exact_mod_cast ih (i + 1) (by omega)
/-- what a loop over the members answers: the state is carried on, or an answer is given early -/
def runM {α σ ρ : Type} (f : σ → α → σ ⊕ ρ) (fin : σ → ρ) : σ → List α → ρ
  | s, [] => fin s
  | s, x :: xs => (match f s x with
    | .inl s' => runM f fin s' xs
    | .inr r => r)
theorem EV.run {α σ ρ : Type} {g : Nat → σ → Int → Option ρ} (xs : List α) (f : σ → α → σ ⊕ ρ) (fin : σ → ρ) (I : Nat → σ → Prop)
    (hs : ∀ (i : Nat) (h : i < xs.length) (s : σ) (r : ρ), I i s → (∀ s', f s xs[i] = .inl s' → I (i + 1) s' → EV (fun k => g k s' ((i : Int) + 1)) r) → (∀ a, f s xs[i] = .inr a → r = a) → EV (fun k => g k s (i : Int)) r)
    (hf : ∀ s, I xs.length s → EV (fun k => g k s (xs.length : Int)) (fin s)) : ∀ s, I 0 s → EV (fun k => g k s 0) (runM f fin s xs) := by
  suffices h : ∀ (n i : Nat), i + n = xs.length → ∀ s, I i s → EV (fun k => g k s (i : Int)) (runM f fin s (xs.drop i)) by
    intro s hI
    have := h xs.length 0 (by omega) s hI
    simpa using this
  intro n
  induction n with
  | zero =>
    intro i hi s hI
    have e : i = xs.length := by omega
    subst e
    simpa [runM] using hf s hI
  | succ n ih =>
    intro i hi s hI
    have hlt : i < xs.length := by omega
    have e : xs.drop i = xs[i] :: xs.drop (i + 1) := List.drop_eq_getElem_cons hlt
    rw [e]
    refine hs i hlt s _ hI (fun s' h' hI' => ?_) (fun a ha => by simp [runM, ha])
    have := ih (i + 1) (by omega) s' hI'
    simp only [runM, h']
    exact_mod_cast this
/-- a fold over the members -/
theorem EV.fold {α σ ρ : Type} {g : Nat → σ → Int → Option ρ} (xs : List α) (f : σ → α → σ) (fin : σ → ρ) (I : Nat → σ → Prop)
    (hs : ∀ (i : Nat) (h : i < xs.length) (s : σ) (r : ρ), I i s → (I (i + 1) (f s xs[i]) → EV (fun k => g k (f s xs[i]) ((i : Int) + 1)) r) → EV (fun k => g k s (i : Int)) r)
    (hf : ∀ s, I xs.length s → EV (fun k => g k s (xs.length : Int)) (fin s)) : ∀ s, I 0 s → EV (fun k => g k s 0) (fin (xs.foldl f s)) := by
  suffices h : ∀ (n i : Nat), i + n = xs.length → ∀ s, I i s → EV (fun k => g k s (i : Int)) (fin ((xs.drop i).foldl f s)) by
    intro s hI
    have := h xs.length 0 (by omega) s hI
    simpa using this
  intro n
  induction n with
  | zero =>
    intro i hi s hI
    have e : i = xs.length := by omega
    subst e
    simpa using hf s hI
  | succ n ih =>
    intro i hi s hI
    have hlt : i < xs.length := by omega
    have e : xs.drop i = xs[i] :: xs.drop (i + 1) := List.drop_eq_getElem_cons hlt
    rw [e, List.foldl_cons]
    refine hs i hlt s _ hI (fun hI' => ?_)
    exact_mod_cast ih (i + 1) (by omega) _ hI'
/-- a loop that changes each member of a list once, in order -/
theorem EV.zip {α β ρ : Type} {g : Nat → List α → Int → Option ρ} (upd : α → β → α) (t : List α) (x : List β) (hl : t.length = x.length) (r : ρ)
    (hs : ∀ (i : Nat) (h : i < t.length) (h' : i < x.length) (s : List α), s.length = t.length → s[i]? = some t[i] → EV (fun k => g k (s.set i (upd t[i] x[i])) ((i : Int) + 1)) r → EV (fun k => g k s (i : Int)) r)
    (hf : EV (fun k => g k (List.zipWith upd t x) (t.length : Int)) r) : EV (fun k => g k t 0) r := by
  suffices h : ∀ (n i : Nat), i + n = t.length → EV (fun k => g k (List.zipWith upd (t.take i) (x.take i) ++ t.drop i) (i : Int)) r by
    have := h t.length 0 (by omega)
    simpa using this
  intro n
  induction n with
  | zero =>
    intro i hi
    have e : i = t.length := by omega
    subst e
    rw [List.take_length, List.drop_length, List.append_nil, hl, List.take_length, ← hl]
    exact hf
  | succ n ih =>
    intro i hi
    have h1 : i < t.length := by omega
    have h2 : i < x.length := by omega
    have e : t.drop i = t[i] :: t.drop (i + 1) := List.drop_eq_getElem_cons h1
    have hz : (List.zipWith upd (t.take i) (x.take i)).length = i := by simp; omega
    refine hs i h1 h2 _ (by simp; omega) ?_ ?_
    · rw [List.getElem?_append_right (by omega), hz, Nat.sub_self, e]; rfl
    · have := ih (i + 1) (by omega)
      rw [e, set_app _ _ _ _ _ hz.symm]
      have e2 : List.zipWith upd (t.take (i + 1)) (x.take (i + 1)) = List.zipWith upd (t.take i) (x.take i) ++ [upd t[i] x[i]] := by
        rw [List.take_succ_eq_append_getElem h1, List.take_succ_eq_append_getElem h2, List.zipWith_append (by simp; omega)]; rfl
      rw [e2, List.append_assoc, List.singleton_append] at this
      exact_mod_cast this
/-- counting up to n, the state told by the count -/
theorem EV.count {σ ρ : Type} {g : Nat → σ → Int → Option ρ} (n : Nat) (f : Nat → σ) (r : ρ)
    (hs : ∀ i, i < n → EV (fun k => g k (f (i + 1)) ((i : Int) + 1)) r → EV (fun k => g k (f i) (i : Int)) r)
    (hf : EV (fun k => g k (f n) (n : Int)) r) : EV (fun k => g k (f 0) 0) r := by
  suffices h : ∀ (m i : Nat), i + m = n → EV (fun k => g k (f i) (i : Int)) r by exact h n 0 (by omega)
  intro m
  induction m with
  | zero => intro i hi; have : i = n := by omega
            subst this; exact hf
  | succ m ih => intro i hi; exact hs i (by omega) (by exact_mod_cast ih (i + 1) (by omega))
/-- counting up to n with an early answer -/
theorem EV.countB {g : Nat → Int → Option Bool} (n : Nat) (p : Nat → Bool) (fin : Bool)
    (hs : ∀ (i : Nat) (h : i < n) (r : Bool), (p i = true → EV (fun k => g k ((i : Int) + 1)) r) → (p i = false → r = false) → EV (fun k => g k (i : Int)) r)
    (hf : EV (fun k => g k (n : Int)) fin) : EV (fun k => g k 0) ((List.range n).all p && fin) := by
  refine EV.scan (List.range n) p fin (fun i h r H1 H2 => ?_) (by rw [List.length_range]; exact hf)
  rw [List.getElem_range] at H1 H2
  exact hs i (by simpa using h) r H1 H2
/-- counting up to n with an early answer, into what comes behind -/
theorem EV.countC {ρ : Type} {g : Nat → Int → Option ρ} (n : Nat) (p : Nat → Bool) (r early : ρ)
    (hs : ∀ i, i < n → (p i = true → EV (fun k => g k ((i : Int) + 1)) r) → (p i = false → r = early) → EV (fun k => g k (i : Int)) r)
    (hf : (List.range n).all p = true → EV (fun k => g k (n : Int)) r) (he : (List.range n).all p = false → r = early) : EV (fun k => g k 0) r := by
  suffices h : ∀ (m i : Nat), i + m = n → (∀ j, j < i → p j = true) → EV (fun k => g k (i : Int)) r by exact h n 0 (by omega) (fun j hj => by omega)
  intro m
  induction m with
  | zero =>
    intro i hi ha
    have : i = n := by omega
    subst this
    exact hf (by rw [List.all_eq_true]; intro x hx; exact ha x (List.mem_range.1 hx))
  | succ m ih =>
    intro i hi ha
    refine hs i (by omega) (fun hp => ?_) (fun hp => he ?_)
    · have := ih (i + 1) (by omega) (fun j hj => by
        by_cases e : j = i
        · rw [e]; exact hp
        · exact ha j (by omega))
      exact_mod_cast this
    · rw [List.all_eq_false]
      exact ⟨i, List.mem_range.2 (by omega), by simp [hp]⟩
/-- looking at each member with an early answer, into what comes behind -/
theorem EV.scanC {α ρ : Type} {g : Nat → Int → Option ρ} (xs : List α) (p : α → Bool) (r early : ρ)
    (hs : ∀ (i : Nat) (h : i < xs.length), (p xs[i] = true → EV (fun k => g k ((i : Int) + 1)) r) → (p xs[i] = false → r = early) → EV (fun k => g k (i : Int)) r)
    (hf : xs.all p = true → EV (fun k => g k (xs.length : Int)) r) (he : xs.all p = false → r = early) : EV (fun k => g k 0) r := by
  have e : xs.all p = (List.range xs.length).all (fun i => (xs[i]?.map p).getD true) := by
    rw [Bool.eq_iff_iff, List.all_eq_true, List.all_eq_true]
    constructor
    · intro h i hi
      have := List.mem_range.1 hi
      simpa [this] using h _ (List.getElem_mem this)
    · intro h x hx
      obtain ⟨i, hi, rfl⟩ := List.mem_iff_getElem.1 hx
      have := h i (List.mem_range.2 hi)
      simpa [hi] using this
  rw [e] at hf he
  refine EV.countC xs.length _ r early (fun i hi H1 H2 => ?_) hf he
  exact hs i hi (fun h => H1 (by simpa [hi] using h)) (fun h => H2 (by simpa [hi] using h))
theorem wrap_01 : wrap64 ((0 : Int) + 1) = 1 := by rw [w64 (by omega) (by omega)]; rfl
theorem wrap_11 : wrap64 ((1 : Int) + 1) = 2 := by rw [w64 (by omega) (by omega)]; rfl
theorem wrap_1 : wrap64 1 = 1 := w64 (by omega) (by omega)
/-- a fold over the members, into what comes behind -/
theorem EV.foldC {α σ ρ : Type} {g : Nat → σ → Int → Option ρ} (xs : List α) (f : σ → α → σ) (I : Nat → σ → Prop) (r : ρ)
    (hs : ∀ (i : Nat) (h : i < xs.length) (s : σ), I i s → (I (i + 1) (f s xs[i]) → EV (fun k => g k (f s xs[i]) ((i : Int) + 1)) r) → EV (fun k => g k s (i : Int)) r)
    (s : σ) (hI : I 0 s) (hf : I xs.length (xs.foldl f s) → EV (fun k => g k (xs.foldl f s) (xs.length : Int)) r) : EV (fun k => g k s 0) r := by
  suffices h : ∀ (n i : Nat), i + n = xs.length → ∀ s, I i s → (I xs.length ((xs.drop i).foldl f s) → EV (fun k => g k ((xs.drop i).foldl f s) (xs.length : Int)) r) → EV (fun k => g k s (i : Int)) r by
    have := h xs.length 0 (by omega) s hI (by simpa using hf)
    simpa using this
  intro n
  induction n with
  | zero =>
    intro i hi s hI hf
    have e : i = xs.length := by omega
    subst e
    simpa using hf (by simpa using hI)
  | succ n ih =>
    intro i hi s hI hf
    have hlt : i < xs.length := by omega
    have e : xs.drop i = xs[i] :: xs.drop (i + 1) := List.drop_eq_getElem_cons hlt
    rw [e, List.foldl_cons] at hf
    refine hs i hlt s hI (fun hI' => ?_)
    exact_mod_cast ih (i + 1) (by omega) _ hI' hf

def letterB (x : Int) : Bool := decide (-8 ≤ x ∧ x ≤ 8 ∧ x ≠ 0)
def wordB (xs : List Int) : Bool := xs.all letterB && decide (xs.length ≤ 24)
theorem letterB_of {x : Int} (h : letterB x = true) : -8 ≤ x ∧ x ≤ 8 ∧ x ≠ 0 := by simpa [letterB] using h
theorem wordB_of {xs : List Int} (h : wordB xs = true) : (∀ x ∈ xs, letterB x = true) ∧ xs.length ≤ 24 := by simpa [wordB] using h
def leB (m : Int) (x : Int) : Bool := decide ((x.natAbs : Int) ≤ m)
def hasB (m : Int) (xs : List Int) : Bool := xs.all (leB m) && wordB xs
def fitsB (g : Int) (xs : List Int) : Bool := decide (1 ≤ g ∧ g ≤ 2) && hasB (2 * g) xs
theorem all_getElem {α : Type} {p : α → Bool} {xs : List α} (h : ∀ x ∈ xs, p x = true) (i : Nat) (hi : i < xs.length) : p xs[i] = true := h _ (List.getElem_mem hi)
/-- one letter counted -/
def addL (v : List Int) (x : Int) : List Int := v.set (x.natAbs - 1) (if 0 < x then v.getD (x.natAbs - 1) 0 + 1 else v.getD (x.natAbs - 1) 0 - 1)
def sumsM (xs : List Int) : List Int := xs.foldl addL (List.replicate 8 0)
def sumsI (i : Nat) (v : List Int) : Prop := v.length = 8 ∧ ∀ j, (v.getD j 0).natAbs ≤ i
theorem sumsI_zero : sumsI 0 (List.replicate 8 0) := by
  refine ⟨rfl, fun j => ?_⟩
  rw [List.getD_eq_getElem?_getD, List.getElem?_replicate]
  split <;> simp
theorem sumsI_next {i : Nat} {v : List Int} (h : sumsI i v) (x : Int) : sumsI (i + 1) (addL v x) := by
  refine ⟨by simp [addL, h.1], fun j => ?_⟩
  have h1 := h.2 j
  have h2 := h.2 (x.natAbs - 1)
  unfold addL
  rw [List.getD_eq_getElem?_getD, List.getElem?_set]
  split
  · split
    · simp only [Option.getD_some]; split <;> omega
    · simp
  · rw [← List.getD_eq_getElem?_getD]; omega
theorem sumsM_len (xs : List Int) : (sumsM xs).length = 8 := by
  suffices h : ∀ (v : List Int), (xs.foldl addL v).length = v.length by rw [sumsM, h]; rfl
  induction xs with
  | nil => intro v; rfl
  | cons x xs ih => intro v; rw [List.foldl_cons, ih]; simp [addL]
theorem fitsB_of {g : Int} {xs : List Int} (h : fitsB g xs = true) : 1 ≤ g ∧ g ≤ 2 ∧ wordB xs = true := by
  simp only [fitsB, hasB, Bool.and_eq_true, decide_eq_true_iff] at h; exact ⟨h.1.1, h.1.2, h.2.2⟩

/-- a table, changed at one place -/
theorem tab_set {α : Type} (n : Nat) (f : Nat → α) (a : Nat) (y : α) : ((List.range n).map f).set a y = (List.range n).map fun v => if v = a then y else f v := by
  apply List.ext_getElem
  · simp
  · intro i h1 h2
    rw [List.getElem_set]
    simp only [List.getElem_map, List.getElem_range]
    by_cases h : a = i
    · rw [if_pos h, if_pos h.symm]
    · rw [if_neg h, if_neg (fun e => h e.symm)]
theorem rd_tab (n : Nat) (f : Nat → Int) (a : Int) (h0 : 0 ≤ a) (h : a < n) : rd ((List.range n).map f) a = f a.toNat := by
  have : a.toNat < n := by omega
  simp [rd, this]

def inB (n : Nat) (x : Int) : Bool := decide (0 ≤ x ∧ x < n)
def permB (p : List Int) : Bool := p.all (inB p.length) && decide p.Nodup
def seenM (n : Nat) (pre : List Int) : List Bool := (List.range n).map fun i : Nat => decide ((i : Int) ∈ pre)
theorem rdOf_tab {α : Type} (d : α) (n : Nat) (f : Nat → α) (a : Int) (h0 : 0 ≤ a) (h : a < n) : rdOf d ((List.range n).map f) a = f a.toNat := by
  have : a.toNat < n := by omega
  simp [rdOf, this]
theorem seenM_snoc (n : Nat) (pre : List Int) (x : Int) (h0 : 0 ≤ x) : (seenM n pre).set x.toNat true = seenM n (pre ++ [x]) := by
  unfold seenM
  rw [tab_set]
  apply List.map_congr_left
  intro i hi
  by_cases h : i = x.toNat
  · rw [if_pos h, decide_eq_true]; rw [List.mem_append, List.mem_singleton]; right; omega
  · rw [if_neg h]
    congr 1
    rw [List.mem_append, List.mem_singleton]
    have : ¬ (i : Int) = x := by omega
    simp [this]
theorem seenM_nil (n : Nat) : seenM n [] = List.replicate n false := by
  apply List.ext_getElem
  · simp [seenM]
  · intro i h1 h2
    simp [seenM]
theorem inB_of {n : Nat} {x : Int} (h : inB n x = true) : 0 ≤ x ∧ x < n := by simpa [inB] using h
theorem permB_of {p : List Int} (h : permB p = true) : (∀ x ∈ p, 0 ≤ x ∧ x < p.length) ∧ p.Nodup := by
  simp only [permB, Bool.and_eq_true, List.all_eq_true, decide_eq_true_iff] at h
  exact ⟨fun x hx => inB_of (h.1 x hx), h.2⟩
/-- how many sheets -/
def d0 (l : List (List Int)) : Nat := (l.getD 0 []).length
def sheetB (n : Nat) (r : List Int) : Bool := decide (r.length = n) && permB r
def sheetsB (l : List (List Int)) : Bool := decide (0 < l.length) && (decide (1 ≤ d0 l ∧ d0 l ≤ 5) && l.all (sheetB (d0 l)))
def permsB (l : List (List Int)) : Bool := sheetsB l && decide (l.length ≤ 8)
theorem rdL_zero (l : List (List Int)) : rd_L1 l 0 = l.getD 0 [] := by simp [rd_L1]
theorem sheetsB_of {l : List (List Int)} (h : sheetsB l = true) : 0 < l.length ∧ 1 ≤ d0 l ∧ d0 l ≤ 5 ∧ ∀ r ∈ l, r.length = d0 l ∧ permB r = true := by
  simp only [sheetsB, sheetB, Bool.and_eq_true, List.all_eq_true, decide_eq_true_iff] at h
  exact ⟨h.1, h.2.1.1, h.2.1.2, h.2.2⟩
/-- the inverse: i of its places set -/
def invK (p : List Int) (i : Nat) : List Int := (List.range i).foldl (fun acc j => acc.set (p.getD j 0).toNat (j : Int)) (List.replicate p.length 0)
def invM (p : List Int) : List Int := invK p p.length
theorem invK_succ (p : List Int) (i : Nat) : invK p (i + 1) = (invK p i).set (p.getD i 0).toNat (i : Int) := by
  unfold invK
  rw [List.range_succ, List.foldl_append]; rfl
theorem invK_I (p : List Int) (hp : 1 ≤ p.length) : ∀ i, i ≤ p.length → (invK p i).length = p.length ∧ ∀ x ∈ invK p i, 0 ≤ x ∧ x < p.length
  | 0, _ => by
    refine ⟨by simp [invK], fun x hx => ?_⟩
    have hx' : x ∈ List.replicate p.length (0 : Int) := hx
    have : x = 0 := (List.mem_replicate.1 hx').2
    omega
  | i + 1, h => by
    have ih := invK_I p hp i (by omega)
    rw [invK_succ]
    refine ⟨by simp [ih.1], fun x hx => ?_⟩
    rcases List.mem_or_eq_of_mem_set hx with h' | h'
    · exact ih.2 x h'
    · omega
def thenM (p q : List Int) : List Int := p.map fun y => q.getD y.toNat 0
def idM (n : Nat) : List Int := (List.range n).map fun i : Nat => (i : Int)
def stepP (l : List (List Int)) (a : Int) : List Int := if a < 0 then invM (l.getD (a.natAbs - 1) []) else l.getD (a.natAbs - 1) []
def actS (l : List (List Int)) (w : List Int) (s : Int) : Int := w.foldl (fun s a => (stepP l a).getD s.toNat 0) s
def actK (l : List (List Int)) (w : List Int) (out : List Int) : List Int := w.foldl (fun out a => thenM out (stepP l a)) out
theorem actK_eq (l : List (List Int)) : ∀ (w out : List Int), actK l w out = out.map (actS l w)
  | [], out => by
    have : actS l [] = id := rfl
    rw [this, List.map_id]; rfl
  | a :: w, out => by
    have := actK_eq l w (thenM out (stepP l a))
    unfold actK actS at this ⊢
    rw [List.foldl_cons, this, thenM, List.map_map]; rfl
def actL (l : List (List Int)) (w : List Int) : List Int := (idM (d0 l)).map (actS l w)
def lettersB (l : List (List Int)) (w : List Int) : Prop := ∀ a ∈ w, 1 ≤ a.natAbs ∧ a.natAbs ≤ l.length ∧ a.natAbs ≤ 1000000
theorem stepP_I {l : List (List Int)} (h : sheetsB l = true) {a : Int} (h1 : 1 ≤ a.natAbs) (h2 : a.natAbs ≤ l.length) : (stepP l a).length = d0 l ∧ ∀ x ∈ stepP l a, 0 ≤ x ∧ x < d0 l := by
  have s := sheetsB_of h
  have hi : a.natAbs - 1 < l.length := by omega
  have hr := s.2.2.2 _ (List.getElem_mem hi)
  have e : l.getD (a.natAbs - 1) [] = l[a.natAbs - 1] := by simp [hi]
  unfold stepP
  rw [e]
  split
  · have := invK_I l[a.natAbs - 1] (by omega) _ (Nat.le_refl _)
    unfold invM
    rw [hr.1] at this ⊢
    exact this
  · have := (permB_of hr.2).1
    rw [hr.1] at this
    exact ⟨hr.1, this⟩
theorem getD_in {n : Nat} {q : List Int} (hl : q.length = n) (hq : ∀ x ∈ q, 0 ≤ x ∧ x < n) {s : Int} (h0 : 0 ≤ s) (h1 : s < n) : 0 ≤ q.getD s.toNat 0 ∧ q.getD s.toNat 0 < n := by
  have : s.toNat < q.length := by omega
  rw [List.getD_eq_getElem?_getD, List.getElem?_eq_getElem this]
  exact hq _ (List.getElem_mem this)
theorem rd_getD (q : List Int) (s : Int) : rd q s = q.getD s.toNat 0 := rfl

theorem spec_l6Perm_l0 (p : List Int) (hn : p.length < 4611686018427387904) : ∀ (suf pre : List Int), p = pre ++ suf → pre.Nodup →
    EV (fun k => spec_l6Perm.l0 k p (seenM p.length pre) (pre.length : Int)) (suf.all (inB p.length) && decide (pre ++ suf).Nodup) := by
  intro suf
  induction suf with
  | nil =>
    intro pre h hp
    refine EV.step (fun k => by rw [spec_l6Perm.l0]) ?_
    exact EV.neg (by subst h; simp) ((EV.now _).eq (by simp [hp]))
  | cons x suf ih =>
    intro pre h hp
    have hpl : pre.length < 4611686018427387904 := by subst h; simp at hn; omega
    have hlt : (pre.length : Int) < (p.length : Int) := by subst h; exact lt_app ..
    have hx : rd p (pre.length : Int) = x := by subst h; exact rd_app ..
    refine EV.step (fun k => by rw [spec_l6Perm.l0]) ?_
    rw [hx, up (x := x) hpl, w64 (x := (p.length : Int) - 1) (by omega) (by omega)]
    refine EV.pos hlt (EV.pos (by omega) (EV.by (spec_l1In_is _ _ _) ?_))
    by_cases hb : inB p.length x = true
    · have b := inB_of hb
      refine EV.pos (by simp; omega) (EV.pos b.1 (EV.pos (by simp [seenM]; omega) ?_))
      rw [show rdOf false (seenM p.length pre) x = decide (x ∈ pre) by unfold seenM; rw [rdOf_tab _ _ _ _ b.1 b.2, show ((x.toNat : Nat) : Int) = x by omega]]
      by_cases hm : x ∈ pre
      · refine EV.pos (by simpa using hm) ((EV.now _).eq ?_)
        rw [decide_eq_false, Bool.and_false]
        intro c
        exact (List.nodup_append.1 c).2.2 x hm x (by simp) rfl
      · refine EV.neg (by simpa using hm) ?_
        rw [seenM_snoc _ _ _ b.1]
        refine (ih (pre ++ [x]) (by simp [h]) ?_).eq (by simp [hb])
        rw [List.nodup_append]
        refine ⟨hp, by simp, fun a ha c hc => ?_⟩
        rw [List.mem_singleton] at hc
        intro e; exact hm (by rw [← hc, ← e]; exact ha)
    · refine EV.neg (by simp only [inB, decide_eq_true_iff] at hb; simp; omega) ((EV.now _).eq ?_)
      rw [List.all_cons, show inB p.length x = false by simpa using hb]; simp
theorem spec_l6Perm_is (p : List Int) (hn : p.length < 4294967296) : EV (fun k => spec_l6Perm.f k p) (permB p) := by
  refine EV.pos (by omega) (EV.pos (by omega) ?_)
  have := spec_l6Perm_l0 p (by omega) p [] rfl List.nodup_nil
  rw [seenM_nil] at this
  exact this

theorem spec_l9Perms_is (l : List (List Int)) (hn : l.length < 4294967296) (hr : ∀ r ∈ l, r.length < 4294967296) : EV (fun k => spec_l9Perms.f k l) (permsB l) := by
  have := EV.scan (g := fun k i => spec_l9Perms.l0 k l i) l (sheetB (d0 l)) (decide (1 ≤ l.length ∧ l.length ≤ 8) && decide (1 ≤ d0 l ∧ d0 l ≤ 5)) (fun i h r H1 H2 => ?_) ?_
  · refine EV.eq this ?_
    rw [Bool.eq_iff_iff]
    simp only [permsB, sheetsB, Bool.and_eq_true, decide_eq_true_iff]
    constructor
    · intro h; exact ⟨⟨by omega, h.2.2, h.1⟩, by omega⟩
    · intro h; exact ⟨h.1.2.2, ⟨by omega, by omega⟩, h.1.2.1⟩
  · refine EV.step (fun k => by rw [spec_l9Perms.l0]) ?_
    rw [rdL_nat _ _ h, w64 (x := (i : Int) + 1) (by omega) (by omega), rdL_zero]
    refine EV.pos (by omega) (EV.pos (by omega) (EV.pos (by omega) ?_))
    by_cases hl : (l[i]).length = d0 l
    · refine EV.pos (by unfold d0 at hl; omega) (EV.bind (spec_l6Perm_is _ (hr _ (List.getElem_mem h))) ?_)
      exact EV.cases (fun c => H1 (by simp [sheetB, hl, c])) (fun c => (EV.now _).eq (H2 (by simp [sheetB, hl]; simpa using c)).symm)
    · exact EV.neg (by unfold d0 at hl; omega) ((EV.now _).eq (H2 (by simp [sheetB, hl])).symm)
  · refine EV.step (fun k => by rw [spec_l9Perms.l0]) ?_
    refine EV.neg (by omega) (EV.by (spec_l1In_is _ _ _) ?_)
    by_cases h : 1 ≤ l.length ∧ l.length ≤ 8
    · refine EV.pos (by simp; omega) (EV.pos (by omega) (EV.by (spec_l1In_is _ _ _) ((EV.now _).eq ?_)))
      rw [rdL_zero, Bool.eq_iff_iff]
      simp [d0]; omega
    · refine EV.neg (by simp; omega) ((EV.now _).eq ?_)
      simp [h]

/-- the orders of xs from place k on, m places left -/
def ordB (A : List Int → List (List Int)) (k : Nat) (xs : List Int) : Nat → Nat → List (List Int)
  | 0, _ => []
  | c + 1, i => A (impl_SheetSymmetries.swp xs k i) ++ ordB A k xs c (i + 1)
def ordA : Nat → Nat → List Int → List (List Int)
  | 0, _, xs => [xs]
  | m + 1, k, xs => ordB (ordA m (k + 1)) k xs (m + 1) k
def rowI (n : Nat) (x : List Int) : Prop := x.length = n ∧ ∀ y ∈ x, 0 ≤ y ∧ y < n
theorem rowI_swp {n : Nat} {x : List Int} (h : rowI n x) (k i : Nat) (hk : k < n) (hi : i < n) : rowI n (impl_SheetSymmetries.swp x k i) := by
  obtain ⟨hl, hx⟩ := h
  have g : ∀ j, j < n → 0 ≤ x.getD j 0 ∧ x.getD j 0 < n := fun j hj => by
    rw [List.getD_eq_getElem?_getD, List.getElem?_eq_getElem (by omega)]
    exact hx _ (List.getElem_mem _)
  refine ⟨by simp [impl_SheetSymmetries.swp, hl], fun y hy => ?_⟩
  unfold impl_SheetSymmetries.swp at hy
  rcases List.mem_or_eq_of_mem_set hy with h1 | rfl
  · rcases List.mem_or_eq_of_mem_set h1 with h2 | rfl
    · exact hx y h2
    · exact g i hi
  · exact g k hk
theorem ordA_I {n : Nat} : ∀ (m k : Nat) (xs : List Int), k + m = n → rowI n xs → ∀ x ∈ ordA m k xs, rowI n x := by
  intro m
  induction m with
  | zero => intro k xs hk h x hx; simp only [ordA, List.mem_singleton] at hx; subst hx; exact h
  | succ m ih =>
    intro k xs hk h x hx
    have go : ∀ c i, i + c ≤ n → x ∈ ordB (ordA m (k + 1)) k xs c i → rowI n x := by
      intro c
      induction c with
      | zero => intro i _ hx; simp [ordB] at hx
      | succ c ihc =>
        intro i hi hx
        simp only [ordB, List.mem_append] at hx
        rcases hx with hx | hx
        · exact ih (k + 1) _ (by omega) (rowI_swp h k i (by omega) (by omega)) x hx
        · exact ihc (i + 1) (by omega) hx
    exact go (m + 1) k (by omega) hx
theorem oR_is {n : Nat} (f : Nat → List Int → Int → Option Int) (g : Int → List Int → Int) (hf : ∀ x s, rowI n x → EV (fun k => f k x s) (g s x)) :
    ∀ (m k : Nat) (xs : List Int) (s : Int), k + m = n → rowI n xs → EV (fun K => impl_SheetSymmetries.oR (f K) m k xs s) ((ordA m k xs).foldl g s) := by
  intro m
  induction m with
  | zero => intro k xs s _ h; simpa [impl_SheetSymmetries.oR, ordA] using hf xs s h
  | succ m ih =>
    intro k xs s hk h
    have go : ∀ c i s, i + c ≤ n → EV (fun K => impl_SheetSymmetries.oL (impl_SheetSymmetries.oR (f K) m (k + 1)) k xs c i s) ((ordB (ordA m (k + 1)) k xs c i).foldl g s) := by
      intro c
      induction c with
      | zero => intro i s _; exact EV.now _
      | succ c ihc =>
        intro i s hi
        refine EV.bind (ih (k + 1) (impl_SheetSymmetries.swp xs k i) s (by omega) (rowI_swp h k i (by omega) (by omega))) ((ihc (i + 1) _ (by omega)).eq ?_)
        simp [ordB, List.foldl_append]
    exact go (m + 1) k s (by omega)
/-- whether an order commutes with all -/
def fineB (l : List (List Int)) (x : List Int) : Bool := l.all fun p => decide (thenM x p = thenM p x)
theorem count_fold (c : List Int → Bool) : ∀ (xs : List (List Int)) (s : Int), 0 ≤ s → s + xs.length < 4611686018427387904 →
    xs.foldl (fun s x => if c x = true then wrap64 (s + 1) else s) s = s + (xs.countP c : Nat)
  | [], s, _, _ => by simp
  | x :: r, s, h0, h => by
    simp only [List.length_cons] at h
    rw [List.foldl_cons]
    by_cases hc : c x = true
    · rw [if_pos hc, w64 (by omega) (by omega), count_fold c r (s + 1) (by omega) (by omega), List.countP_cons_of_pos hc]; omega
    · rw [if_neg hc, count_fold c r s h0 (by omega), List.countP_cons_of_neg hc]
theorem count_sum (c : List Int → Bool) : ∀ (xs : List (List Int)) (s : Int), 0 ≤ s → s + xs.length < 4611686018427387904 →
    xs.foldl (fun s x => wrap64 (s + (if c x = true then 1 else 0))) s = s + (xs.countP c : Nat)
  | [], s, _, _ => by simp
  | x :: r, s, h0, h => by
    simp only [List.length_cons] at h
    rw [List.foldl_cons]
    by_cases hc : c x = true
    · rw [if_pos hc, w64 (by omega) (by omega), count_sum c r (s + 1) (by omega) (by omega), List.countP_cons_of_pos hc]; omega
    · rw [if_neg hc, w64 (by omega) (by omega), count_sum c r (s + 0) (by omega) (by omega), List.countP_cons_of_neg hc]; omega
theorem rowI_id (n : Nat) : rowI n (idM n) := by
  refine ⟨by simp [idM], fun y hy => ?_⟩
  simp only [idM, List.mem_map, List.mem_range] at hy
  obtain ⟨i, hi, rfl⟩ := hy
  omega

def allOk (n : Nat) : Bool := match spec_l9All.f 3000 (n : Int) with | some a => (ordA n 0 (idM n)).isPerm a | none => false
theorem allOk_1 : allOk 1 = true := by decide +kernel
theorem allOk_2 : allOk 2 = true := by decide +kernel
theorem allOk_3 : allOk 3 = true := by decide +kernel
theorem allOk_4 : allOk 4 = true := by decide +kernel
theorem allOk_5 : allOk 5 = true := by decide +kernel
theorem spec_l9All_is (n : Nat) (h1 : 1 ≤ n) (h5 : n ≤ 5) : ∃ a : List (List Int), EV (fun k => spec_l9All.f k (n : Int)) a ∧ (ordA n 0 (idM n)).Perm a := by
  have ok : allOk n = true := by
    have : n = 1 ∨ n = 2 ∨ n = 3 ∨ n = 4 ∨ n = 5 := by omega
    rcases this with rfl | rfl | rfl | rfl | rfl
    · exact allOk_1
    · exact allOk_2
    · exact allOk_3
    · exact allOk_4
    · exact allOk_5
  unfold allOk at ok
  cases e : spec_l9All.f 3000 (n : Int) with
  | none => rw [e] at ok; cases ok
  | some a =>
    rw [e] at ok
    exact ⟨a, EV.mono (g := fun k => spec_l9All.f k (n : Int)) (fun k => spec_l9All.mono _ k) e, List.isPerm_iff.1 ok⟩

theorem spec_l1Bit_is (b : Bool) : spec_l1Bit.f b = some (if b = true then 1 else 0) := by
  cases b <;> rfl

theorem drop_at {α : Type} {l : List α} {i : Nat} {p : α} {r : List α} (hd : l.drop i = p :: r) : ∃ h : i < l.length, l[i] = p ∧ l.drop (i + 1) = r := by
  have hl : i < l.length := by
    rcases Nat.lt_or_ge i l.length with g | g
    · exact g
    · rw [List.drop_eq_nil_of_le g] at hd; cases hd
  have e := List.drop_eq_getElem_cons hl
  rw [hd] at e
  injection e with e1 e2
  exact ⟨hl, e1.symm, e2.symm⟩
/-- from place i on, p and x agree in either order -/
def colB (p x : List Int) (n : Nat) : Nat → Bool
  | 0 => true
  | c + 1 => decide (x.getD (p.getD (n - (c + 1)) 0).toNat 0 = p.getD (x.getD (n - (c + 1)) 0).toNat 0) && colB p x n c
theorem colB_all (p x : List Int) (n : Nat) : ∀ c, c ≤ n → (colB p x n c = true ↔ ∀ j, n - c ≤ j → j < n → x.getD (p.getD j 0).toNat 0 = p.getD (x.getD j 0).toNat 0)
  | 0, _ => by simp [colB]; omega
  | c + 1, h => by
    simp only [colB, Bool.and_eq_true, decide_eq_true_iff, colB_all p x n c (by omega)]
    constructor
    · rintro ⟨a, b⟩ j h1 h2
      by_cases hj : j = n - (c + 1)
      · subst hj; exact a
      · exact b j (by omega) h2
    · intro g
      exact ⟨g _ (by omega) (by omega), fun j h1 h2 => g j (by omega) h2⟩
theorem then_get (p q : List Int) (j : Nat) (h : j < p.length) : (thenM p q)[j]'(by simp [thenM]; exact h) = q.getD (p.getD j 0).toNat 0 := by
  simp [thenM, h]
theorem colB_then (p x : List Int) (n : Nat) (hp : p.length = n) (hx : x.length = n) : colB p x n n = decide (thenM x p = thenM p x) := by
  rw [Bool.eq_iff_iff, colB_all p x n n (Nat.le_refl _), decide_eq_true_iff]
  constructor
  · intro g
    apply List.ext_getElem (by simp [thenM, hp, hx])
    intro j h1 h2
    have hj : j < n := by simp [thenM, hx] at h1; exact h1
    rw [then_get x p j (by omega), then_get p x j (by omega)]
    exact (g j (by omega) hj).symm
  · intro e j _ hj
    have a := then_get x p j (by omega)
    have b := then_get p x j (by omega)
    have : (thenM x p)[j]'(by simp [thenM]; omega) = (thenM p x)[j]'(by simp [thenM]; omega) := by simp only [e]
    rw [a, b] at this
    exact this.symm
theorem spec_sym_l2 (l : List (List Int)) (n : Nat) (hn : n ≤ 5) (all : List (List Int)) (i5 : Nat) (h5 : i5 < all.length) (x : List Int) (hx5 : all[i5] = x) (hx : rowI n x) (h7 : Nat) (h7l : h7 < l.length) (p : List Int) (hp7 : l[h7] = p) (hp : rowI n p) (hl : l.length ≤ 1000) (s R : Int) :
    ∀ (c : Nat) (b : Bool), c ≤ n → EV (fun k => spec_SheetSymmetries.l1 k l s all (i5 : Int) (b && colB p x n c) ((h7 + 1 : Nat) : Int)) R → EV (fun k => spec_SheetSymmetries.l2 k l s all (i5 : Int) b (h7 : Int) ((n - c : Nat) : Int)) R := by
  have ew7 : wrap64 ((h7 : Int) + 1) = ((h7 + 1 : Nat) : Int) := by rw [w64 (by omega) (by omega)]; omega
  intro c
  induction c with
  | zero =>
    intro b _ H
    refine EV.step (fun k => by rw [spec_SheetSymmetries.l2]) (EV.pos (by omega) (EV.pos (by omega) ?_))
    rw [rdL_nat l h7 h7l, hp7, ew7]
    refine EV.neg (by rw [hp.1]; omega) ?_
    simpa [colB] using H
  | succ c ih =>
    intro b hc H
    have ew : wrap64 (((n - (c + 1) : Nat) : Int) + 1) = ((n - c : Nat) : Int) := by rw [w64 (by omega) (by omega)]; omega
    have hj : n - (c + 1) < n := by omega
    have gp : p.getD (n - (c + 1)) 0 = p[n - (c + 1)]'(by have := hp.1; omega) := by rw [List.getD_eq_getElem?_getD, List.getElem?_eq_getElem]; rfl
    have gx : x.getD (n - (c + 1)) 0 = x[n - (c + 1)]'(by have := hx.1; omega) := by rw [List.getD_eq_getElem?_getD, List.getElem?_eq_getElem]; rfl
    have bp := hp.2 _ (List.getElem_mem (l := p) (n := n - (c + 1)) (by have := hp.1; omega))
    have bx := hx.2 _ (List.getElem_mem (l := x) (n := n - (c + 1)) (by have := hx.1; omega))
    refine EV.step (fun k => by rw [spec_SheetSymmetries.l2]) (EV.pos (by omega) (EV.pos (by omega) ?_))
    rw [rdL_nat l h7 h7l, hp7, rdL_nat all i5 h5, hx5, ew]
    refine EV.pos (by rw [hp.1]; omega) ?_
    rw [rd_nat p _ (by have := hp.1; omega), rd_nat x _ (by have := hx.1; omega)]
    cases b with
    | true =>
      refine EV.pos rfl (EV.pos (by omega) (EV.pos (by omega) (EV.pos (by omega) (EV.pos bp.1 (EV.pos (by rw [hx.1]; exact bp.2) (EV.pos (by rw [hx.1]; omega) (EV.pos bx.1 (EV.pos (by rw [hp.1]; exact bx.2) ?_))))))))
      have e : (rd x (p[n - (c + 1)]'(by have := hp.1; omega)) == rd p (x[n - (c + 1)]'(by have := hx.1; omega))) = decide (x.getD (p.getD (n - (c + 1)) 0).toNat 0 = p.getD (x.getD (n - (c + 1)) 0).toNat 0) := by
        rw [gp, gx]
        have r : ∀ (y : List Int) (z : Int), rd y z = y.getD z.toNat 0 := fun y z => by simp [rd]
        rw [r, r]; rfl
      rw [e]
      refine ih _ (by omega) ?_
      simpa [colB] using H
    | false =>
      refine EV.neg (by decide) ?_
      refine ih _ (by omega) ?_
      simpa [colB] using H
theorem spec_sym_l1 (l : List (List Int)) (n : Nat) (hn : n ≤ 5) (hl : ∀ p ∈ l, rowI n p) (hll : l.length ≤ 1000) (all : List (List Int)) (i5 : Nat) (h5 : i5 < all.length) (h5b : all.length ≤ 1000) (x : List Int) (hx5 : all[i5] = x) (hx : rowI n x) (s R : Int) :
    ∀ (r : List (List Int)) (i : Nat) (b : Bool), l.drop i = r → i + r.length = l.length → EV (fun k => spec_SheetSymmetries.l0 k l (wrap64 (s + (if (b && fineB r x) = true then 1 else 0))) all ((i5 + 1 : Nat) : Int)) R → EV (fun k => spec_SheetSymmetries.l1 k l s all (i5 : Int) b (i : Int)) R := by
  have ew5 : wrap64 ((i5 : Int) + 1) = ((i5 + 1 : Nat) : Int) := by rw [w64 (by omega) (by omega)]; omega
  intro r
  induction r with
  | nil =>
    intro i b hd hi H
    refine EV.step (fun k => by rw [spec_SheetSymmetries.l1]) (EV.neg (by simp at hi; omega) (EV.by (spec_l1Bit_is b) ?_))
    rw [ew5]
    simpa [fineB] using H
  | cons p r ih =>
    intro i b hd hi H
    obtain ⟨hil, e1, e2⟩ := drop_at hd
    have hp : rowI n p := hl p (by rw [← e1]; exact List.getElem_mem _)
    refine EV.step (fun k => by rw [spec_SheetSymmetries.l1]) (EV.pos (by omega) ?_)
    have := spec_sym_l2 l n hn all i5 h5 x hx5 hx i hil p e1 hp hll s R n b (Nat.le_refl _) (ih (i + 1) _ e2 (by simp at hi; omega) (by
      rw [colB_then p x n hp.1 hx.1]
      simpa [fineB, Bool.and_assoc] using H))
    simpa using this
theorem spec_sym_l0 (l : List (List Int)) (n : Nat) (hn : n ≤ 5) (hl : ∀ p ∈ l, rowI n p) (hll : l.length ≤ 1000) (all : List (List Int)) (h5b : all.length ≤ 1000) (ha : ∀ x ∈ all, rowI n x) :
    ∀ (r : List (List Int)) (i : Nat) (s : Int), all.drop i = r → i + r.length = all.length → EV (fun k => spec_SheetSymmetries.l0 k l s all (i : Int)) (r.foldl (fun s x => wrap64 (s + (if fineB l x = true then 1 else 0))) s) := by
  intro r
  induction r with
  | nil => intro i s hd hi; refine EV.step (fun k => by rw [spec_SheetSymmetries.l0]) ?_; exact EV.neg (by simp at hi; omega) (EV.now _)
  | cons x r ih =>
    intro i s hd hi
    obtain ⟨hil, e1, e2⟩ := drop_at hd
    refine EV.step (fun k => by rw [spec_SheetSymmetries.l0]) (EV.pos (by omega) ?_)
    exact spec_sym_l1 l n hn hl hll all i hil h5b x e1 (ha x (by rw [← e1]; exact List.getElem_mem _)) s _ l 0 true rfl (by omega) (by
      simpa using ih (i + 1) _ e2 (by simp at hi; omega))
theorem spec_SheetSymmetries_is (l : List (List Int)) (hn : l.length < 4294967296) (hr : ∀ r ∈ l, r.length < 4294967296) :
    ∃ R, EV (fun k => spec_SheetSymmetries.f k l) R ∧ R = (if permsB l = true then ((ordA (d0 l) 0 (idM (d0 l))).foldl (fun s x => if fineB l x = true then wrap64 (s + 1) else s) (0 : Int)) else -1) := by
  by_cases h : permsB l = true
  · have hs : sheetsB l = true := by simp only [permsB, Bool.and_eq_true] at h; exact h.1
    have hl8 : l.length ≤ 8 := by simp only [permsB, Bool.and_eq_true, decide_eq_true_iff] at h; exact h.2
    have s := sheetsB_of hs
    have e0 : (rd_L1 l 0).length = d0 l := by rw [rdL_zero]; rfl
    have hl : ∀ p ∈ l, rowI (d0 l) p := fun p hp => by
      obtain ⟨q1, q2⟩ := s.2.2.2 p hp
      have := (permB_of q2).1
      rw [q1] at this
      exact ⟨q1, this⟩
    obtain ⟨a, ha, hP⟩ := spec_l9All_is (d0 l) (by omega) (by omega)
    have hlen : a.length ≤ 1000 := by
      rw [← hP.length_eq]
      have : d0 l = 1 ∨ d0 l = 2 ∨ d0 l = 3 ∨ d0 l = 4 ∨ d0 l = 5 := by omega
      rcases this with h | h | h | h | h <;> rw [h] <;> decide +kernel
    have hrow : ∀ x ∈ a, rowI (d0 l) x := fun x hx => ordA_I (d0 l) 0 _ (by omega) (rowI_id _) x (hP.mem_iff.2 hx)
    refine ⟨a.foldl (fun s x => wrap64 (s + (if fineB l x = true then 1 else 0))) 0, EV.bind (spec_l9Perms_is l hn hr) (EV.pos h (EV.pos (by omega) ?_)), ?_⟩
    · rw [e0]
      refine EV.bind ha ?_
      exact spec_sym_l0 l (d0 l) (by omega) hl (by omega) a hlen hrow a 0 0 rfl (by omega)
    · rw [if_pos h, count_fold _ _ 0 (by omega) (by have := hP.length_eq; omega), count_sum _ _ 0 (by omega) (by omega), hP.countP_eq]
  · exact ⟨-1, EV.bind (spec_l9Perms_is l hn hr) (EV.neg h (EV.now _)), (if_neg h).symm⟩

theorem laws_toIntS_l0 (xs : List Int) (hn : xs.length < 4611686018427387904) : ∀ suf pre, xs = pre ++ suf → EV (fun k => laws_toIntS.l0 k xs (pre ++ List.replicate suf.length 0) (pre.length : Int)) xs := by
  intro suf
  induction suf with
  | nil =>
    intro pre h
    refine EV.step (fun k => by rw [laws_toIntS.l0]) ?_
    refine (EV.neg ?_ ((EV.now _).eq ?_))
    · subst h; simp
    · subst h; simp
  | cons x suf ih =>
    intro pre h
    have hl : pre.length < 4611686018427387904 := by subst h; simp at hn; omega
    have hlt : (pre.length : Int) < (xs.length : Int) := by subst h; exact lt_app ..
    have hx : rd xs (pre.length : Int) = x := by subst h; exact rd_app ..
    refine EV.step (fun k => by rw [laws_toIntS.l0]) ?_
    refine (EV.pos hlt (EV.pos (by omega) (EV.pos (by simp; omega) ?_)))
    rw [hx, up (x := x) hl, List.length_cons, List.replicate_succ, set_app _ _ _ _ _ (by simp)]
    have := ih (pre ++ [x]) (by simp [h])
    simpa using this
theorem laws_toIntS_is (xs : List Int) (hn : xs.length ≤ 1048576) : EV (fun k => laws_toIntS.f k xs) xs := by
  refine EV.pos (by omega) (EV.pos (by omega) ?_)
  exact laws_toIntS_l0 xs (by omega) xs [] rfl

theorem laws_toIntSS_l0 (xs : List (List Int)) (hn : xs.length < 4611686018427387904) (hr : ∀ r ∈ xs, r.length ≤ 1048576) : ∀ (suf pre : List (List Int)), xs = pre ++ suf →
    EV (fun k => laws_toIntSS.l0 k xs (pre ++ List.replicate suf.length []) (pre.length : Int)) xs := by
  intro suf
  induction suf with
  | nil =>
    intro pre h
    refine EV.step (fun k => by rw [laws_toIntSS.l0]) ?_
    exact EV.neg (by subst h; simp) ((EV.now _).eq (by subst h; simp))
  | cons x suf ih =>
    intro pre h
    have hl : pre.length < 4611686018427387904 := by subst h; simp at hn; omega
    have hlt : (pre.length : Int) < (xs.length : Int) := by subst h; exact lt_app ..
    have hx : rd_L1 xs (pre.length : Int) = x := by subst h; exact rdL_app ..
    have hx' : x.length ≤ 1048576 := hr x (by subst h; simp)
    refine EV.step (fun k => by rw [laws_toIntSS.l0]) ?_
    rw [hx, up (x := x) hl]
    refine EV.pos hlt (EV.pos (by omega) (EV.bind (laws_toIntS_is x hx') (EV.pos (by simp; omega) ?_)))
    rw [List.length_cons, List.replicate_succ, set_app _ _ _ _ _ (by simp)]
    have := ih (pre ++ [x]) (by simp [h])
    simpa using this
theorem laws_toIntSS_is (xs : List (List Int)) (hn : xs.length ≤ 1048576) (hr : ∀ r ∈ xs, r.length ≤ 1048576) : EV (fun k => laws_toIntSS.f k xs) xs := by
  refine EV.pos (by omega) (EV.pos (by omega) ?_)
  exact laws_toIntSS_l0 xs (by omega) hr xs [] rfl

theorem impl_within_is (a b c : Int) : impl_within.f a b c = some (decide (b ≤ a ∧ a ≤ c)) := by
  unfold impl_within.f
  by_cases h : a ≥ b
  · rw [if_pos h]; simp [show b ≤ a from h]
  · rw [if_neg h]; simp; omega

theorem impl_isPermutation_l0 (p : List Int) (hn : p.length < 4611686018427387904) : ∀ (suf pre : List Int), p = pre ++ suf → pre.Nodup →
    EV (fun k => impl_isPermutation.l0 k p (seenM p.length pre) p (p.length : Int) (pre.length : Int)) (suf.all (inB p.length) && decide (pre ++ suf).Nodup) := by
  intro suf
  induction suf with
  | nil =>
    intro pre h hp
    refine EV.step (fun k => by rw [impl_isPermutation.l0]) ?_
    exact EV.neg (by subst h; simp) ((EV.now _).eq (by simp [hp]))
  | cons x suf ih =>
    intro pre h hp
    have hpl : pre.length < 4611686018427387904 := by subst h; simp at hn; omega
    have hlt : (pre.length : Int) < (p.length : Int) := by subst h; exact lt_app ..
    have hx : rd p (pre.length : Int) = x := by subst h; exact rd_app ..
    refine EV.step (fun k => by rw [impl_isPermutation.l0]) ?_
    rw [hx, up (x := x) hpl, w64 (x := (p.length : Int) - 1) (by omega) (by omega)]
    refine EV.pos hlt (EV.pos (by omega) (EV.pos hlt (EV.by (impl_within_is _ _ _) ?_)))
    by_cases hb : inB p.length x = true
    · have b := inB_of hb
      refine EV.pos (by simp; omega) (EV.pos b.1 (EV.pos (by simp [seenM]; omega) ?_))
      rw [show rdOf false (seenM p.length pre) x = decide (x ∈ pre) by unfold seenM; rw [rdOf_tab _ _ _ _ b.1 b.2, show ((x.toNat : Nat) : Int) = x by omega]]
      by_cases hm : x ∈ pre
      · refine EV.pos (by simpa using hm) ((EV.now _).eq ?_)
        rw [decide_eq_false, Bool.and_false]
        intro c
        exact (List.nodup_append.1 c).2.2 x hm x (by simp) rfl
      · refine EV.neg (by simpa using hm) ?_
        rw [seenM_snoc _ _ _ b.1]
        refine (ih (pre ++ [x]) (by simp [h]) ?_).eq (by simp [hb])
        rw [List.nodup_append]
        refine ⟨hp, by simp, fun a ha c hc => ?_⟩
        rw [List.mem_singleton] at hc
        intro e; exact hm (by rw [← hc, ← e]; exact ha)
    · refine EV.neg (by simp only [inB, decide_eq_true_iff] at hb; simp; omega) ((EV.now _).eq ?_)
      rw [List.all_cons, show inB p.length x = false by simpa using hb]; simp
theorem impl_isPermutation_is (p : List Int) (hn : p.length < 4294967296) : EV (fun k => impl_isPermutation.f k p) (permB p) := by
  refine EV.pos (by omega) (EV.pos (by omega) ?_)
  have := impl_isPermutation_l0 p (by omega) p [] rfl List.nodup_nil
  rw [seenM_nil] at this
  exact this

theorem impl_areSheets_is (l : List (List Int)) (hn : l.length < 4294967296) (hr : ∀ r ∈ l, r.length < 4294967296) : EV (fun k => impl_areSheets.f k l) (sheetsB l) := by
  have := EV.scan (g := fun k i => impl_areSheets.l0 k l l (l.length : Int) i) l (fun r => decide (1 ≤ r.length ∧ r.length ≤ 5) && sheetB (d0 l) r) (decide (0 < l.length)) (fun i h r H1 H2 => ?_) ?_
  · refine EV.eq this ?_
    rw [Bool.eq_iff_iff]
    simp only [sheetsB, sheetB, Bool.and_eq_true, decide_eq_true_iff, List.all_eq_true]
    constructor
    · intro h
      have z := h.1 _ (List.getElem_mem h.2)
      exact ⟨h.2, by omega, fun r hr => (h.1 r hr).2⟩
    · intro h
      exact ⟨fun r hr => ⟨by have := h.2.2 r hr; omega, h.2.2 r hr⟩, h.1⟩
  · refine EV.step (fun k => by rw [impl_areSheets.l0]) ?_
    rw [rdL_nat _ _ h, w64 (x := (i : Int) + 1) (by omega) (by omega), rdL_zero]
    refine EV.pos (by omega) (EV.pos (by omega) (EV.pos (by omega) (EV.pos (by omega) ?_)))
    by_cases hl : (l[i]).length = d0 l
    · refine EV.pos (by unfold d0 at hl; omega) (EV.by (impl_within_is _ _ _) ?_)
      by_cases h5 : 1 ≤ (l[i]).length ∧ (l[i]).length ≤ 5
      · refine EV.pos (by simp; omega) (EV.bind (impl_isPermutation_is _ (hr _ (List.getElem_mem h))) ?_)
        exact EV.cases (fun c => H1 (by simp only [sheetB, c, decide_eq_true hl, decide_eq_true h5, Bool.and_self])) (fun c => (EV.now _).eq (H2 (by simp only [sheetB, show permB l[i] = false by simpa using c, Bool.and_false])).symm)
      · exact EV.neg (by simp; omega) ((EV.now _).eq (H2 (by simp only [decide_eq_false h5, Bool.false_and])).symm)
    · exact EV.neg (by unfold d0 at hl; omega) ((EV.now _).eq (H2 (by simp [sheetB, hl])).symm)
  · refine EV.step (fun k => by rw [impl_areSheets.l0]) ?_
    exact EV.neg (by omega) ((EV.now _).eq (by rw [Bool.eq_iff_iff]; simp))

theorem impl_copyOf_is (w : List Int) (hn : w.length < 4294967296) : impl_copyOf.f w = some w := by
  unfold impl_copyOf.f
  simp only [Option.bind_some]
  rw [if_pos (by simp; omega)]; simp

theorem impl_identity_is (n : Nat) (hn : n < 4294967296) : EV (fun k => impl_identity.f k (n : Int)) (idM n) := by
  refine EV.count (g := fun k s i => impl_identity.l0 k s (n : Int) i) n idM _ (fun i hi H => ?_) ?_
  · refine EV.step (fun k => by rw [impl_identity.l0]) ?_
    rw [w64 (x := (i : Int) + 1) (by omega) (by omega)]
    refine EV.pos (by omega) (EV.pos (by simp [idM]; omega) ?_)
    simpa [idM, List.range_succ] using H
  · refine EV.step (fun k => by rw [impl_identity.l0]) ?_
    exact EV.neg (by omega) (EV.now _)

theorem impl_sameInts_is (xs ys : List Int) (hn : xs.length < 4294967296) : EV (fun k => impl_sameInts.f k xs ys) (decide (xs = ys)) := by
  by_cases h : xs.length = ys.length
  · refine EV.pos (by omega) ?_
    have := EV.countB (g := fun k i => impl_sameInts.l0 k xs ys (xs.length : Int) i) xs.length (fun i => decide (xs.getD i 0 = ys.getD i 0)) true (fun i hi r H1 H2 => ?_) ?_
    · refine EV.eq this ?_
      rw [Bool.eq_iff_iff, Bool.and_true, List.all_eq_true, decide_eq_true_iff]
      constructor
      · intro hh
        apply List.ext_getElem h
        intro i h1 h2
        have := hh i (List.mem_range.2 h1)
        rw [decide_eq_true_iff] at this
        simpa [h1, h2] using this
      · intro e i _; rw [e]; simp
    · have hi' : i < ys.length := by omega
      have e1 : xs.getD i 0 = xs[i] := by simp [hi]
      have e2 : ys.getD i 0 = ys[i] := by simp [hi']
      rw [e1, e2] at H1 H2
      refine EV.step (fun k => by rw [impl_sameInts.l0]) ?_
      rw [rd_nat _ _ hi, rd_nat _ _ hi', w64 (x := (i : Int) + 1) (by omega) (by omega)]
      refine EV.pos (by omega) (EV.pos (by omega) (EV.pos (by omega) (EV.pos (by omega) ?_)))
      exact EV.cases (fun c => H1 (by simpa using c)) (fun c => (EV.now _).eq (H2 (by simpa using c)).symm)
    · refine EV.step (fun k => by rw [impl_sameInts.l0]) ?_
      exact EV.neg (by omega) (EV.now _)
  · exact EV.neg (by omega) ((EV.now _).eq (by simp; intro e; exact h (by rw [e])))

theorem impl_then_is (p q : List Int) (hp : ∀ x ∈ p, 0 ≤ x ∧ x < q.length) (hn : p.length < 4294967296) : EV (fun k => impl_then.f k p q) (thenM p q) := by
  have := EV.count (g := fun k s i => impl_then.l0 k q s p (p.length : Int) i) p.length (fun i => thenM (p.take i) q) (thenM p q) (fun i hi H => ?_) ?_
  · exact this
  · have hx := hp _ (List.getElem_mem hi)
    refine EV.step (fun k => by rw [impl_then.l0]) ?_
    rw [rd_nat _ _ hi, w64 (x := (i : Int) + 1) (by omega) (by omega)]
    refine EV.pos (by omega) (EV.pos (by omega) (EV.pos (by omega) (EV.pos hx.1 (EV.pos hx.2 (EV.pos (by simp [thenM]; omega) ?_)))))
    rw [List.take_succ_eq_append_getElem hi] at H
    have e : thenM (p.take i ++ [p[i]]) q = thenM (p.take i) q ++ [rd q p[i]] := by rw [thenM, List.map_append]; rfl
    rw [e] at H
    exact H
  · refine EV.step (fun k => by rw [impl_then.l0]) ?_
    rw [List.take_length]
    exact EV.neg (by omega) (EV.now _)

theorem impl_SheetSymmetries_l0 (l : List (List Int)) (n : Nat) (hn : n ≤ 5) (hl : ∀ p ∈ l, rowI n p) (hll : l.length ≤ 1000) (x : List Int) (hx : rowI n x) : ∀ (r : List (List Int)) (i : Nat), l.drop i = r → i + r.length = l.length →
    EV (fun k => impl_SheetSymmetries.l0 k x l (i : Int)) (fineB r x) := by
  intro r
  induction r with
  | nil => intro i hd hi; refine EV.step (fun k => by rw [impl_SheetSymmetries.l0]) ?_; exact EV.neg (by simp at hi; omega) (EV.now _)
  | cons p r ih =>
    intro i hd hi
    have hil : i < l.length := by simp at hi; omega
    have e := List.drop_eq_getElem_cons hil
    rw [hd] at e
    injection e with e1 e2
    have hp : rowI n p := hl p (by rw [e1]; exact List.getElem_mem _)
    have ew : wrap64 ((i : Int) + 1) = ((i + 1 : Nat) : Int) := by rw [w64 (by omega) (by omega)]; omega
    refine EV.step (fun k => by rw [impl_SheetSymmetries.l0]) (EV.pos (by omega) (EV.pos (by omega) ?_))
    rw [rdL_nat l i hil, ← e1, ew]
    refine EV.bind (impl_then_is x p (by rw [hp.1]; exact hx.2) (by have := hx.1; omega)) (EV.bind (impl_then_is p x (by rw [hx.1]; exact hp.2) (by have := hp.1; omega)) (EV.bind (impl_sameInts_is _ _ (by simp [thenM]; have := hx.1; omega)) ?_))
    refine EV.cases (fun h => ?_) (fun h => ?_)
    · refine (ih (i + 1) e2.symm (by simp at hi; omega)).eq ?_
      simp only [decide_eq_true_iff] at h
      simp [fineB, h]
    · refine (EV.now _).eq ?_
      simp only [decide_eq_true_iff] at h
      simp [fineB, h]
theorem impl_SheetSymmetries_is (l : List (List Int)) (hn : l.length < 4294967296) (hr : ∀ r ∈ l, r.length < 4294967296) :
    EV (fun k => impl_SheetSymmetries.f k l) (if permsB l = true then ((ordA (d0 l) 0 (idM (d0 l))).foldl (fun s x => if fineB l x = true then wrap64 (s + 1) else s) (0 : Int)) else -1) := by
  unfold impl_SheetSymmetries.f
  refine EV.cases (fun h8 => (EV.now _).eq ?_) (fun h8 => ?_)
  · rw [if_neg]
    simp only [permsB, Bool.and_eq_true, decide_eq_true_iff]; omega
  · refine EV.bind (impl_areSheets_is l hn hr) (EV.cases (fun hs => ?_) (fun hs => (EV.now _).eq ?_))
    · have s := sheetsB_of hs
      rw [if_pos (by simp only [permsB, hs, Bool.true_and, decide_eq_true_iff]; omega)]
      have e0 : (rd_L1 l 0).length = d0 l := by rw [rdL_zero]; rfl
      rw [e0]
      have hid := rowI_id (d0 l)
      refine EV.pos (by omega) (EV.pos (by omega) (EV.bind (impl_identity_is (d0 l) (by omega)) (EV.pos hid.1 ?_)))
      rw [hid.1]
      have hl : ∀ p ∈ l, rowI (d0 l) p := fun p hp => by
        obtain ⟨q1, q2⟩ := s.2.2.2 p hp
        have := (permB_of q2).1
        rw [q1] at this
        exact ⟨q1, this⟩
      refine oR_is (n := d0 l) (fun k => impl_SheetSymmetries.g0 k l) _ (fun x s' hx => ?_) (d0 l) 0 (idM (d0 l)) 0 (by omega) hid
      refine EV.bind (impl_SheetSymmetries_l0 l (d0 l) (by omega) hl (by omega) x hx l 0 rfl (by omega)) ?_
      exact EV.cases (fun h => (EV.now _).eq (by rw [if_pos h])) (fun h => (EV.now _).eq (by rw [if_neg h]))
    · rw [if_neg]
      simp only [permsB, Bool.and_eq_true]; exact fun h => hs h.1

theorem laws_eqIntS_l0 (xs ys : List Int) (hn : xs.length < 4611686018427387904) : ∀ (suf suf' pre : List Int), pre.length + suf.length = xs.length → pre.length + suf'.length = ys.length → suf.length = suf'.length → xs.drop pre.length = suf → ys.drop pre.length = suf' →
    EV (fun k => laws_eqIntS.l0 k xs ys (pre.length : Int)) (decide (suf = suf')) := by
  intro suf
  induction suf with
  | nil =>
    intro suf' pre h1 h2 h3 h4 h5
    have : suf' = [] := List.eq_nil_of_length_eq_zero (by simpa using h3.symm)
    subst this
    refine EV.step (fun k => by rw [laws_eqIntS.l0]) ?_
    refine (EV.neg ?_ ((EV.now _).eq (by simp)))
    simp at h1; omega
  | cons x suf ih =>
    intro suf' pre h1 h2 h3 h4 h5
    obtain ⟨y, suf', rfl⟩ : ∃ y t, suf' = y :: t := by
      cases suf' with
      | nil => simp at h3
      | cons y t => exact ⟨y, t, rfl⟩
    simp only [List.length_cons] at h1 h2 h3
    have hl : pre.length < 4611686018427387904 := by omega
    have hx : rd xs (pre.length : Int) = x := by
      rw [rd_nat _ _ (by omega)]
      have := List.getElem_drop (xs := xs) (i := pre.length) (j := 0) (h := by simp; omega)
      simp only [h4] at this; simpa using this.symm
    have hy : rd ys (pre.length : Int) = y := by
      rw [rd_nat _ _ (by omega)]
      have := List.getElem_drop (xs := ys) (i := pre.length) (j := 0) (h := by simp; omega)
      simp only [h5] at this; simpa using this.symm
    refine EV.step (fun k => by rw [laws_eqIntS.l0]) ?_
    refine (EV.pos (by omega) (EV.pos (by omega) (EV.pos (by omega) ?_)))
    rw [hx, hy, up (x := x) hl]
    by_cases hs : x = y
    · refine EV.pos hs ((ih suf' _ (by simp; omega) (by simp; omega) (by omega) ?_ ?_).eq (by simp [hs]))
      · rw [List.length_append, ← List.drop_drop, h4]; rfl
      · rw [List.length_append, ← List.drop_drop, h5]; rfl
    · exact (EV.neg hs (EV.now _)).eq (by simp [hs])
theorem laws_eqIntS_is (xs ys : List Int) (hn : xs.length < 4611686018427387904) : EV (fun k => laws_eqIntS.f k xs ys) (decide (xs = ys)) := by
  by_cases h : xs.length = ys.length
  · exact EV.pos (by omega) (laws_eqIntS_l0 xs ys hn xs ys [] (by simp) (by simp) h rfl rfl)
  · exact (EV.neg (by omega) (EV.now _)).eq (by simp; intro e; exact h (by rw [e]))
theorem laws_eqIntS_self (xs : List Int) (hn : xs.length < 4611686018427387904) : EV (fun k => laws_eqIntS.f k xs xs) true := (laws_eqIntS_is xs xs hn).eq (by simp)

theorem laws_eqIntSS_l0 (xs : List (List Int)) (hn : xs.length < 4611686018427387904) (hr : ∀ r ∈ xs, r.length < 4611686018427387904) : ∀ (suf pre : List (List Int)), xs = pre ++ suf →
    EV (fun k => laws_eqIntSS.l0 k xs xs (pre.length : Int)) true := by
  intro suf
  induction suf with
  | nil =>
    intro pre h
    refine EV.step (fun k => by rw [laws_eqIntSS.l0]) ?_
    exact EV.neg (by subst h; simp) (EV.now _)
  | cons x suf ih =>
    intro pre h
    have hl : pre.length < 4611686018427387904 := by subst h; simp at hn; omega
    have hlt : (pre.length : Int) < (xs.length : Int) := by subst h; exact lt_app ..
    have hx : rd_L1 xs (pre.length : Int) = x := by subst h; exact rdL_app ..
    have hx' : x.length < 4611686018427387904 := hr x (by subst h; simp)
    refine EV.step (fun k => by rw [laws_eqIntSS.l0]) ?_
    rw [hx, up (x := x) hl]
    refine EV.pos hlt (EV.pos (by omega) (EV.pos (by omega) (EV.bind (laws_eqIntS_self x hx') (EV.pos rfl ?_))))
    exact ih (pre ++ [x]) (by simp [h])
theorem laws_eqIntSS_self (xs : List (List Int)) (hn : xs.length < 4611686018427387904) (hr : ∀ r ∈ xs, r.length < 4611686018427387904) : EV (fun k => laws_eqIntSS.f k xs xs) true :=
  EV.pos rfl (laws_eqIntSS_l0 xs hn hr xs [] rfl)

theorem both (l : List (List Int)) (w : ∀ r ∈ l, r.length ≤ maxLen ∧ ∀ x ∈ r, (Lit.int .i64 x).wf = true) (n : l.length + total l ≤ 1048576) :
    ∃ R : Int, EV (fun k => spec_SheetSymmetries.f k l) R ∧ EV (fun k => impl_SheetSymmetries.f k l) R ∧ True := by
  have hr : ∀ r ∈ l, r.length < 4294967296 := fun r hr => by have := total_mem hr; omega
  obtain ⟨R, h1, h2⟩ := spec_SheetSymmetries_is l (by omega) hr
  subst h2
  exact ⟨_, h1, impl_SheetSymmetries_is l (by omega) hr, trivial⟩

theorem FnExactSheetSymmetries (l0 : List (List Int)) (x0 : l0.length ≤ maxLen) (w0 : ∀ r ∈ l0, r.length ≤ maxLen ∧ ∀ x ∈ r, (Lit.int .i64 x).wf = true) : ∃ k, laws_FnExactSheetSymmetries.f k l0 = some true := by
  refine EV.rounds ?_
  have r0x : ∀ r ∈ l0, r.length ≤ 9223372036854775807 := fun r hr => by have := (w0 r hr).1; unfold maxLen at this; omega
  refine EV.bind (laws_szIntSS_is l0 (1048576) (by omega) (by omega) (by unfold maxLen at x0; omega) r0x) ?_
  unfold szM
  by_cases g0 : ((l0.length : Int) + total l0 ≤ 1048576)
  rotate_left
  · rw [if_neg g0]; exact EV.pos (by omega) (EV.now _)
  rw [if_pos g0]
  refine EV.neg (by omega) ?_
  have n0 : l0.length + total l0 ≤ 1048576 := by omega
  have r0 : ∀ r ∈ l0, r.length ≤ 1048576 := fun r hr => by have := total_mem hr; omega
  have q0 : ∀ r ∈ l0, r.length < 4611686018427387904 := fun r hr => by have := total_mem hr; omega
  obtain ⟨R, S, I, hR⟩ := both l0 w0 n0
  repeat (first
    | exact EV.now _
    | (refine EV.bind (laws_toIntS_is _ (by omega)) ?_)
    | (refine EV.bind (laws_toIntSS_is _ (by omega) (by assumption)) ?_)
    | (refine EV.bind S ?_)
    | (refine EV.bind I ?_)
    | (refine EV.bind (laws_eqIntS_self _ (by omega)) ?_)
    | (refine EV.bind (laws_eqIntSS_self _ (by omega) (by assumption)) ?_)
    | (refine EV.pos rfl ?_)
    | (refine EV.neg (by first | omega | (simp; done)) ?_)
    | (refine EV.pos (by first | omega | (simp; done)) ?_)
    | dsimp only)

end Go.Proofs.Ytlbjgdkmkdpopaa.Pure
