/- Pure side of FnExactBraidPassport: the printed functions of the program and of the reference answer alike at every input that the statement takes; no condition beyond the printed statement's bounds. -/
import Derived.Test.YtmhfgjfgaodhoaaVFnExactBraidPassport
import Derived.Test.YtmhfgjfgaodhoaaWSized
set_option linter.unusedVariables false
set_option linter.unusedSimpArgs false
set_option linter.unnecessarySimpa false
set_option maxRecDepth 10000
/-- the printed row calls the print's word by this name -/
abbrev Go.Proofs.Ytmhfgjfgaodhoaa.PrintWords.sized_ints := @Go.Proofs.YtmhfgjfgaodhoaaW.PrintWords.sized_ints
namespace Go.Proofs.Ytmhfgjfgaodhoaa.Pure
open Go.RowKit Go.Proofs.Ytmhfgjfgaodhoaa.PFnExactBraidPassport Go.Proofs.YtmhfgjfgaodhoaaW.PrintWords Go.Proofs.YtmhfgjfgaodhoaaW.PrintLast Go.Proofs.YtmhfgjfgaodhoaaW.PrintMore
open Go.Proofs.Ytmhfgjfgaodhoaa.VFnExactBraidPassport

/-! ### Base: words of our own, of no program -/
section
theorem w64 {x : Int} (h1 : -9223372036854775808 ≤ x) (h2 : x ≤ 9223372036854775807) : wrap64 x = x := by
  unfold wrap64; omega
theorem wf64 {x : Int} (h : (Lit.int .i64 x).wf = true) : -9223372036854775808 ≤ x ∧ x ≤ 9223372036854775807 := by
  simp only [Lit.wf, IntKind.min, IntKind.max, IntKind.signed, IntKind.bits, Bool.and_eq_true, decide_eq_true_eq, if_true] at h
  omega
/-- from some number of rounds on it answers r -/
structure EV {α : Type} (g : Nat → Option α) (r : α) : Prop where mk :: (out : ∃ K, ∀ k, K ≤ k → g k = some r)
theorem EV.now {α : Type} (r : α) : EV (fun _ => some r) r := ⟨0, fun _ _ => rfl⟩
theorem EV.rounds {α : Type} {g : Nat → Option α} {r : α} (h : EV g r) : ∃ k, g k = some r := by
  obtain ⟨K, h⟩ := h
  exact ⟨K, h K (Nat.le_refl _)⟩
theorem EV.bind {α β : Type} {g : Nat → Option α} {f : Nat → α → Option β} {a : α} {r : β} (h : EV g a) (k : EV (fun n => f n a) r) : EV (fun n => (g n).bind (f n)) r := by
  obtain ⟨K, h⟩ := h
  obtain ⟨K', k⟩ := k
  refine ⟨max K K', fun n hn => ?_⟩
  have h1 := h n (by omega)
  have h2 := k n (by omega)
  simp only [h1, Option.bind_some]
  exact h2
theorem EV.step {α : Type} {g f : Nat → Option α} {r : α} (h : ∀ k, g (k + 1) = f k) (k : EV f r) : EV g r := by
  obtain ⟨K, k⟩ := k
  refine ⟨K + 1, fun n hn => ?_⟩
  obtain ⟨m, rfl⟩ : ∃ m, n = m + 1 := ⟨n - 1, by omega⟩
  rw [h]
  exact k m (by omega)
theorem EV.congr {α : Type} {g f : Nat → Option α} {r : α} (h : ∀ k, g k = f k) (k : EV f r) : EV g r := by
  obtain ⟨K, k⟩ := k
  exact ⟨K, fun n hn => (h n).trans (k n hn)⟩
theorem EV.pos {α : Type} {c : Prop} [Decidable c] {a b : Nat → Option α} {r : α} (h : c) (k : EV a r) : EV (fun n => if c then a n else b n) r :=
  EV.congr (fun n => if_pos h) k
theorem EV.neg {α : Type} {c : Prop} [Decidable c] {a b : Nat → Option α} {r : α} (h : ¬ c) (k : EV b r) : EV (fun n => if c then a n else b n) r :=
  EV.congr (fun n => if_neg h) k
theorem EV.cases {α : Type} {c : Prop} [Decidable c] {a b : Nat → Option α} {r : α} (h : c → EV a r) (h' : ¬ c → EV b r) : EV (fun n => if c then a n else b n) r := by
  by_cases hc : c
  · exact EV.pos hc (h hc)
  · exact EV.neg hc (h' hc)
/-- a callee without rounds -/
theorem EV.by {α β : Type} {g : Option α} {f : Nat → α → Option β} {a : α} {r : β} (h : g = some a) (k : EV (fun n => f n a) r) : EV (fun n => g.bind (f n)) r := by
  subst h; exact k
theorem EV.is {α : Type} {g : Option α} {r : α} (h : g = some r) : EV (fun _ => g) r := ⟨0, fun _ _ => h⟩
theorem EV.eq {α : Type} {g : Nat → Option α} {r r' : α} (h : EV g r) (e : r = r') : EV g r' := e ▸ h
theorem rd_app (pre : List Int) (x : Int) (suf : List Int) : rd (pre ++ x :: suf) (pre.length : Int) = x := by
  simp [rd]
theorem rd_nat (xs : List Int) (i : Nat) (h : i < xs.length) : rd xs (i : Int) = xs[i] := by
  simp [rd, h]
theorem set_app {α : Type} (pre : List α) (x y : α) (suf : List α) (n : Nat) (hn : n = pre.length) : (pre ++ x :: suf).set n y = pre ++ y :: suf := by
  subst hn; simp
end
def smallB (x : Int) : Bool := decide (-1000 ≤ x ∧ x ≤ 1000)
/-- one index on -/
theorem up {α : Type} {x : α} {pre : List α} (h : pre.length < 4611686018427387904) : wrap64 ((pre.length : Int) + 1) = ((pre ++ [x]).length : Int) := by
  rw [w64 (by omega) (by omega)]; simp
theorem lt_app {α : Type} (pre : List α) (x : α) (suf : List α) : (pre.length : Int) < ((pre ++ x :: suf).length : Int) := by simp; omega
def classB (g : Int) (xs : List Int) : Bool := decide (1 ≤ g ∧ g ≤ 3) && (decide ((xs.length : Int) = 2 * g) && xs.all smallB)
theorem EV.uniq {α : Type} {g : Nat → Option α} {r r' : α} (h : EV g r) (h' : EV g r') : r = r' := by
  obtain ⟨K, h⟩ := h
  obtain ⟨K', h'⟩ := h'
  have a := h (max K K') (by omega)
  have b := h' (max K K') (by omega)
  rw [a] at b; exact Option.some.inj b
/-- from some number of rounds on -/
def Evt (P : Nat → Prop) : Prop := ∃ K, ∀ k, K ≤ k → P k
theorem Evt.and {P Q : Nat → Prop} (h : Evt P) (h' : Evt Q) : Evt (fun k => P k ∧ Q k) := by
  obtain ⟨K, h⟩ := h
  obtain ⟨K', h'⟩ := h'
  exact ⟨max K K', fun k hk => ⟨h k (by omega), h' k (by omega)⟩⟩
theorem Evt.const {p : Prop} (h : p) : Evt (fun _ => p) := ⟨0, fun _ _ => h⟩
theorem EV.evt {α : Type} {g : Nat → Option α} {r : α} (h : EV g r) : Evt (fun k => g k = some r) := h.out
theorem Evt.imp {P Q : Nat → Prop} (h : Evt P) (f : ∀ k, P k → Q k) : Evt Q := by
  obtain ⟨K, h⟩ := h
  exact ⟨K, fun k hk => f k (h k hk)⟩
theorem Evt.rounds {P : Nat → Prop} (h : Evt P) : ∃ k, P k := by
  obtain ⟨K, h⟩ := h
  exact ⟨K, h K (Nat.le_refl _)⟩
theorem EV.mono {α : Type} {g : Nat → Option α} (hg : ∀ k, LeO (g k) (g (k + 1))) {k : Nat} {r : α} (h : g k = some r) : EV g r := ⟨k, fun _ hk => at_rounds hg hk h⟩

theorem laws_szIntS_is (xs : List Int) (left : Int) (h0 : 0 ≤ left) (h1 : left ≤ 1048576) (h2 : xs.length ≤ 9223372036854775807) : laws_szIntS.f xs left = some (if (xs.length : Int) ≤ left then left - xs.length else -1) := by
  unfold laws_szIntS.f
  rw [w64 (by omega) (by omega)]
  by_cases h : (xs.length : Int) ≤ left
  · rw [if_neg (by omega), if_pos h]
  · rw [if_pos (by omega), if_neg h]

def marks : Nat → Int → List Int
  | 0, _ => []
  | n + 1, k => k :: marks n (k + 1)
theorem marks_length (n : Nat) : ∀ k, (marks n k).length = n := by
  induction n with
  | zero => intro k; rfl
  | succ n ih => intro k; simp [marks, ih]

theorem rdL_app (pre : List (List Int)) (x : List Int) (suf : List (List Int)) : rd_L1 (pre ++ x :: suf) (pre.length : Int) = x := by
  simp [rd_L1]
theorem rdL_nat (xs : List (List Int)) (i : Nat) (h : i < xs.length) : rd_L1 xs (i : Int) = xs[i] := by
  simp [rd_L1, h]

def total : List (List Int) → Nat
  | [] => 0
  | r :: rs => r.length + total rs
def marksL : List (List Int) → Int → List (List Int)
  | [], _ => []
  | r :: rs, k => marks r.length k :: marksL rs (k + r.length)
theorem total_mem {r : List Int} : ∀ {xs : List (List Int)}, r ∈ xs → r.length ≤ total xs
  | [], h => by cases h
  | x :: xs, h => by
    rcases List.mem_cons.1 h with rfl | h
    · simp [total]
    · have := total_mem h; simp only [total]; omega
theorem marksL_length : ∀ (xs : List (List Int)) (k : Int), (marksL xs k).length = xs.length
  | [], _ => rfl
  | x :: xs, k => by simp [marksL, marksL_length xs]
/-- what szIntSS answers -/
def szM (xs : List (List Int)) (left : Int) : Int := if (xs.length : Int) + total xs ≤ left then left - xs.length - total xs else -1

theorem laws_szIntSS_l0 (xs : List (List Int)) (hn : xs.length < 4611686018427387904) (hr : ∀ r ∈ xs, r.length ≤ 9223372036854775807) : ∀ (suf pre : List (List Int)) (left : Int), xs = pre ++ suf → 0 ≤ left → left ≤ 1048576 →
    EV (fun k => laws_szIntSS.l0 k xs left (pre.length : Int)) (if (total suf : Int) ≤ left then left - total suf else -1) := by
  intro suf
  induction suf with
  | nil =>
    intro pre left h h0 h1
    refine EV.step (fun k => by rw [laws_szIntSS.l0]) ?_
    exact EV.neg (by subst h; simp) ((EV.now _).eq (by rw [if_pos (by simp [total]; omega)]; simp [total]))
  | cons x suf ih =>
    intro pre left h h0 h1
    have hl : pre.length < 4611686018427387904 := by subst h; simp at hn; omega
    have hlt : (pre.length : Int) < (xs.length : Int) := by subst h; exact lt_app ..
    have hx : rd_L1 xs (pre.length : Int) = x := by subst h; exact rdL_app ..
    have hx' : x.length ≤ 9223372036854775807 := hr x (by subst h; simp)
    refine EV.step (fun k => by rw [laws_szIntSS.l0]) ?_
    rw [hx, up (x := x) hl]
    refine EV.pos hlt (EV.pos (by omega) (EV.by (laws_szIntS_is x left h0 h1 hx') ?_))
    by_cases hs : (x.length : Int) ≤ left
    · rw [if_pos hs]
      refine EV.neg (by omega) ((ih (pre ++ [x]) (left - x.length) (by simp [h]) (by omega) (by omega)).eq ?_)
      have e : total (x :: suf) = x.length + total suf := rfl
      by_cases ht : (total suf : Int) ≤ left - x.length
      · rw [if_pos ht, if_pos (by rw [e]; omega), e]; omega
      · rw [if_neg ht, if_neg (by rw [e]; omega)]
    · rw [if_neg hs]
      exact EV.pos (by omega) ((EV.now _).eq (by rw [if_neg (by simp only [total]; omega)]))
theorem laws_szIntSS_is (xs : List (List Int)) (left : Int) (h0 : 0 ≤ left) (h1 : left ≤ 1048576) (hn : xs.length ≤ 9223372036854775807) (hr : ∀ r ∈ xs, r.length ≤ 9223372036854775807) : EV (fun k => laws_szIntSS.f k xs left) (szM xs left) := by
  unfold szM
  have e : wrap64 (left - (xs.length : Int)) = left - xs.length := w64 (by omega) (by omega)
  refine EV.congr (fun k => by rw [laws_szIntSS.f, e]) ?_
  by_cases h : (xs.length : Int) ≤ left
  · refine EV.neg (by omega) ((laws_szIntSS_l0 xs (by omega) hr xs [] (left - xs.length) rfl (by omega) (by omega)).eq ?_)
    by_cases ht : (total xs : Int) ≤ left - xs.length
    · rw [if_pos ht, if_pos (by omega)]
    · rw [if_neg ht, if_neg (by omega)]
  · exact EV.pos (by omega) ((EV.now _).eq (by rw [if_neg (by omega)]))

theorem spec_l1In_is (a b c : Int) : spec_l1In.f a b c = some (decide (b ≤ a ∧ a ≤ c)) := by
  unfold spec_l1In.f
  by_cases h : a ≥ b
  · rw [if_pos h]; simp [show b ≤ a from h]
  · rw [if_neg h]; simp; omega

/-- a loop that looks at each member and answers early, or goes on -/
theorem EV.scan {α : Type} {g : Nat → Int → Option Bool} (xs : List α) (p : α → Bool) (fin : Bool)
    (hs : ∀ (i : Nat) (h : i < xs.length) (r : Bool), (p xs[i] = true → EV (fun k => g k ((i : Int) + 1)) r) → (p xs[i] = false → r = false) → EV (fun k => g k (i : Int)) r)
    (hf : EV (fun k => g k (xs.length : Int)) fin) : EV (fun k => g k 0) (xs.all p && fin) := by
  suffices h : ∀ (n i : Nat), i + n = xs.length → EV (fun k => g k (i : Int)) ((xs.drop i).all p && fin) by
    have := h xs.length 0 (by omega)
    simpa using this
  intro n
  induction n with
  | zero =>
    intro i hi
    have e : i = xs.length := by omega
    subst e
    simpa using hf
  | succ n ih =>
    intro i hi
    have hlt : i < xs.length := by omega
    have e : xs.drop i = xs[i] :: xs.drop (i + 1) := List.drop_eq_getElem_cons hlt
    rw [e, List.all_cons]
    refine hs i hlt _ (fun hp => ?_) (fun hp => by simp [hp])
    rw [hp, Bool.true_and]
    exact_mod_cast ih (i + 1) (by omega)
/-- what a loop over the members answers: the state is carried on, or an answer is given early -/
def runM {α σ ρ : Type} (f : σ → α → σ ⊕ ρ) (fin : σ → ρ) : σ → List α → ρ
  | s, [] => fin s
  | s, x :: xs => (match f s x with
    | .inl s' => runM f fin s' xs
    | .inr r => r)
theorem EV.run {α σ ρ : Type} {g : Nat → σ → Int → Option ρ} (xs : List α) (f : σ → α → σ ⊕ ρ) (fin : σ → ρ) (I : Nat → σ → Prop)
    (hs : ∀ (i : Nat) (h : i < xs.length) (s : σ) (r : ρ), I i s → (∀ s', f s xs[i] = .inl s' → I (i + 1) s' → EV (fun k => g k s' ((i : Int) + 1)) r) → (∀ a, f s xs[i] = .inr a → r = a) → EV (fun k => g k s (i : Int)) r)
    (hf : ∀ s, I xs.length s → EV (fun k => g k s (xs.length : Int)) (fin s)) : ∀ s, I 0 s → EV (fun k => g k s 0) (runM f fin s xs) := by
  suffices h : ∀ (n i : Nat), i + n = xs.length → ∀ s, I i s → EV (fun k => g k s (i : Int)) (runM f fin s (xs.drop i)) by
    intro s hI
    have := h xs.length 0 (by omega) s hI
    simpa using this
  intro n
  induction n with
  | zero =>
    intro i hi s hI
    have e : i = xs.length := by omega
    subst e
    simpa [runM] using hf s hI
  | succ n ih =>
    intro i hi s hI
    have hlt : i < xs.length := by omega
    have e : xs.drop i = xs[i] :: xs.drop (i + 1) := List.drop_eq_getElem_cons hlt
    rw [e]
    refine hs i hlt s _ hI (fun s' h' hI' => ?_) (fun a ha => by simp [runM, ha])
    have := ih (i + 1) (by omega) s' hI'
    simp only [runM, h']
    exact_mod_cast this
/-- a fold over the members -/
theorem EV.fold {α σ ρ : Type} {g : Nat → σ → Int → Option ρ} (xs : List α) (f : σ → α → σ) (fin : σ → ρ) (I : Nat → σ → Prop)
    (hs : ∀ (i : Nat) (h : i < xs.length) (s : σ) (r : ρ), I i s → (I (i + 1) (f s xs[i]) → EV (fun k => g k (f s xs[i]) ((i : Int) + 1)) r) → EV (fun k => g k s (i : Int)) r)
    (hf : ∀ s, I xs.length s → EV (fun k => g k s (xs.length : Int)) (fin s)) : ∀ s, I 0 s → EV (fun k => g k s 0) (fin (xs.foldl f s)) := by
  suffices h : ∀ (n i : Nat), i + n = xs.length → ∀ s, I i s → EV (fun k => g k s (i : Int)) (fin ((xs.drop i).foldl f s)) by
    intro s hI
    have := h xs.length 0 (by omega) s hI
    simpa using this
  intro n
  induction n with
  | zero =>
    intro i hi s hI
    have e : i = xs.length := by omega
    subst e
    simpa using hf s hI
  | succ n ih =>
    intro i hi s hI
    have hlt : i < xs.length := by omega
    have e : xs.drop i = xs[i] :: xs.drop (i + 1) := List.drop_eq_getElem_cons hlt
    rw [e, List.foldl_cons]
    refine hs i hlt s _ hI (fun hI' => ?_)
    exact_mod_cast ih (i + 1) (by omega) _ hI'
/-- a loop that changes each member of a list once, in order -/
theorem EV.zip {α β ρ : Type} {g : Nat → List α → Int → Option ρ} (upd : α → β → α) (t : List α) (x : List β) (hl : t.length = x.length) (r : ρ)
    (hs : ∀ (i : Nat) (h : i < t.length) (h' : i < x.length) (s : List α), s.length = t.length → s[i]? = some t[i] → EV (fun k => g k (s.set i (upd t[i] x[i])) ((i : Int) + 1)) r → EV (fun k => g k s (i : Int)) r)
    (hf : EV (fun k => g k (List.zipWith upd t x) (t.length : Int)) r) : EV (fun k => g k t 0) r := by
  suffices h : ∀ (n i : Nat), i + n = t.length → EV (fun k => g k (List.zipWith upd (t.take i) (x.take i) ++ t.drop i) (i : Int)) r by
    have := h t.length 0 (by omega)
    simpa using this
  intro n
  induction n with
  | zero =>
    intro i hi
    have e : i = t.length := by omega
    subst e
    rw [List.take_length, List.drop_length, List.append_nil, hl, List.take_length, ← hl]
    exact hf
  | succ n ih =>
    intro i hi
    have h1 : i < t.length := by omega
    have h2 : i < x.length := by omega
    have e : t.drop i = t[i] :: t.drop (i + 1) := List.drop_eq_getElem_cons h1
    have hz : (List.zipWith upd (t.take i) (x.take i)).length = i := by simp; omega
    refine hs i h1 h2 _ (by simp; omega) ?_ ?_
    · rw [List.getElem?_append_right (by omega), hz, Nat.sub_self, e]; rfl
    · have := ih (i + 1) (by omega)
      rw [e, set_app _ _ _ _ _ hz.symm]
      have e2 : List.zipWith upd (t.take (i + 1)) (x.take (i + 1)) = List.zipWith upd (t.take i) (x.take i) ++ [upd t[i] x[i]] := by
        rw [List.take_succ_eq_append_getElem h1, List.take_succ_eq_append_getElem h2, List.zipWith_append (by simp; omega)]; rfl
      rw [e2, List.append_assoc, List.singleton_append] at this
      exact_mod_cast this
/-- counting up to n, the state told by the count -/
theorem EV.count {σ ρ : Type} {g : Nat → σ → Int → Option ρ} (n : Nat) (f : Nat → σ) (r : ρ)
    (hs : ∀ i, i < n → EV (fun k => g k (f (i + 1)) ((i : Int) + 1)) r → EV (fun k => g k (f i) (i : Int)) r)
    (hf : EV (fun k => g k (f n) (n : Int)) r) : EV (fun k => g k (f 0) 0) r := by
  suffices h : ∀ (m i : Nat), i + m = n → EV (fun k => g k (f i) (i : Int)) r by exact h n 0 (by omega)
  intro m
  induction m with
  | zero => intro i hi; have : i = n := by omega
            subst this; exact hf
  | succ m ih => intro i hi; exact hs i (by omega) (by exact_mod_cast ih (i + 1) (by omega))
/-- counting up to n with an early answer -/
theorem EV.countB {g : Nat → Int → Option Bool} (n : Nat) (p : Nat → Bool) (fin : Bool)
    (hs : ∀ (i : Nat) (h : i < n) (r : Bool), (p i = true → EV (fun k => g k ((i : Int) + 1)) r) → (p i = false → r = false) → EV (fun k => g k (i : Int)) r)
    (hf : EV (fun k => g k (n : Int)) fin) : EV (fun k => g k 0) ((List.range n).all p && fin) := by
  refine EV.scan (List.range n) p fin (fun i h r H1 H2 => ?_) (by rw [List.length_range]; exact hf)
  rw [List.getElem_range] at H1 H2
  exact hs i (by simpa using h) r H1 H2
/-- counting up to n with an early answer, into what comes behind -/
theorem EV.countC {ρ : Type} {g : Nat → Int → Option ρ} (n : Nat) (p : Nat → Bool) (r early : ρ)
    (hs : ∀ i, i < n → (p i = true → EV (fun k => g k ((i : Int) + 1)) r) → (p i = false → r = early) → EV (fun k => g k (i : Int)) r)
    (hf : (List.range n).all p = true → EV (fun k => g k (n : Int)) r) (he : (List.range n).all p = false → r = early) : EV (fun k => g k 0) r := by
  suffices h : ∀ (m i : Nat), i + m = n → (∀ j, j < i → p j = true) → EV (fun k => g k (i : Int)) r by exact h n 0 (by omega) (fun j hj => by omega)
  intro m
  induction m with
  | zero =>
    intro i hi ha
    have : i = n := by omega
    subst this
    exact hf (by rw [List.all_eq_true]; intro x hx; exact ha x (List.mem_range.1 hx))
  | succ m ih =>
    intro i hi ha
    refine hs i (by omega) (fun hp => ?_) (fun hp => he ?_)
    · have := ih (i + 1) (by omega) (fun j hj => by
        by_cases e : j = i
        · rw [e]; exact hp
        · exact ha j (by omega))
      exact_mod_cast this
    · rw [List.all_eq_false]
      exact ⟨i, List.mem_range.2 (by omega), by simp [hp]⟩
/-- looking at each member with an early answer, into what comes behind -/
theorem EV.scanC {α ρ : Type} {g : Nat → Int → Option ρ} (xs : List α) (p : α → Bool) (r early : ρ)
    (hs : ∀ (i : Nat) (h : i < xs.length), (p xs[i] = true → EV (fun k => g k ((i : Int) + 1)) r) → (p xs[i] = false → r = early) → EV (fun k => g k (i : Int)) r)
    (hf : xs.all p = true → EV (fun k => g k (xs.length : Int)) r) (he : xs.all p = false → r = early) : EV (fun k => g k 0) r := by
  have e : xs.all p = (List.range xs.length).all (fun i => (xs[i]?.map p).getD true) := by
    rw [Bool.eq_iff_iff, List.all_eq_true, List.all_eq_true]
    constructor
    · intro h i hi
      have := List.mem_range.1 hi
      simpa [this] using h _ (List.getElem_mem this)
    · intro h x hx
      obtain ⟨i, hi, rfl⟩ := List.mem_iff_getElem.1 hx
      have := h i (List.mem_range.2 hi)
      simpa [hi] using this
  rw [e] at hf he
  refine EV.countC xs.length _ r early (fun i hi H1 H2 => ?_) hf he
  exact hs i hi (fun h => H1 (by simpa [hi] using h)) (fun h => H2 (by simpa [hi] using h))
theorem wrap_01 : wrap64 ((0 : Int) + 1) = 1 := by rw [w64 (by omega) (by omega)]; rfl
theorem wrap_11 : wrap64 ((1 : Int) + 1) = 2 := by rw [w64 (by omega) (by omega)]; rfl
theorem wrap_1 : wrap64 1 = 1 := w64 (by omega) (by omega)
/-- a fold over the members, into what comes behind -/
theorem EV.foldC {α σ ρ : Type} {g : Nat → σ → Int → Option ρ} (xs : List α) (f : σ → α → σ) (I : Nat → σ → Prop) (r : ρ)
    (hs : ∀ (i : Nat) (h : i < xs.length) (s : σ), I i s → (I (i + 1) (f s xs[i]) → EV (fun k => g k (f s xs[i]) ((i : Int) + 1)) r) → EV (fun k => g k s (i : Int)) r)
    (s : σ) (hI : I 0 s) (hf : I xs.length (xs.foldl f s) → EV (fun k => g k (xs.foldl f s) (xs.length : Int)) r) : EV (fun k => g k s 0) r := by
  suffices h : ∀ (n i : Nat), i + n = xs.length → ∀ s, I i s → (I xs.length ((xs.drop i).foldl f s) → EV (fun k => g k ((xs.drop i).foldl f s) (xs.length : Int)) r) → EV (fun k => g k s (i : Int)) r by
    have := h xs.length 0 (by omega) s hI (by simpa using hf)
    simpa using this
  intro n
  induction n with
  | zero =>
    intro i hi s hI hf
    have e : i = xs.length := by omega
    subst e
    simpa using hf (by simpa using hI)
  | succ n ih =>
    intro i hi s hI hf
    have hlt : i < xs.length := by omega
    have e : xs.drop i = xs[i] :: xs.drop (i + 1) := List.drop_eq_getElem_cons hlt
    rw [e, List.foldl_cons] at hf
    refine hs i hlt s hI (fun hI' => ?_)
    exact_mod_cast ih (i + 1) (by omega) _ hI' hf

def letterB (x : Int) : Bool := decide (-8 ≤ x ∧ x ≤ 8 ∧ x ≠ 0)
def wordB (xs : List Int) : Bool := xs.all letterB && decide (xs.length ≤ 24)
theorem letterB_of {x : Int} (h : letterB x = true) : -8 ≤ x ∧ x ≤ 8 ∧ x ≠ 0 := by simpa [letterB] using h
theorem wordB_of {xs : List Int} (h : wordB xs = true) : (∀ x ∈ xs, letterB x = true) ∧ xs.length ≤ 24 := by simpa [wordB] using h
def leB (m : Int) (x : Int) : Bool := decide ((x.natAbs : Int) ≤ m)
def hasB (m : Int) (xs : List Int) : Bool := xs.all (leB m) && wordB xs
def fitsB (g : Int) (xs : List Int) : Bool := decide (1 ≤ g ∧ g ≤ 2) && hasB (2 * g) xs
theorem all_getElem {α : Type} {p : α → Bool} {xs : List α} (h : ∀ x ∈ xs, p x = true) (i : Nat) (hi : i < xs.length) : p xs[i] = true := h _ (List.getElem_mem hi)
/-- one letter counted -/
def addL (v : List Int) (x : Int) : List Int := v.set (x.natAbs - 1) (if 0 < x then v.getD (x.natAbs - 1) 0 + 1 else v.getD (x.natAbs - 1) 0 - 1)
def sumsM (xs : List Int) : List Int := xs.foldl addL (List.replicate 8 0)
def sumsI (i : Nat) (v : List Int) : Prop := v.length = 8 ∧ ∀ j, (v.getD j 0).natAbs ≤ i
theorem sumsI_zero : sumsI 0 (List.replicate 8 0) := by
  refine ⟨rfl, fun j => ?_⟩
  rw [List.getD_eq_getElem?_getD, List.getElem?_replicate]
  split <;> simp
theorem sumsI_next {i : Nat} {v : List Int} (h : sumsI i v) (x : Int) : sumsI (i + 1) (addL v x) := by
  refine ⟨by simp [addL, h.1], fun j => ?_⟩
  have h1 := h.2 j
  have h2 := h.2 (x.natAbs - 1)
  unfold addL
  rw [List.getD_eq_getElem?_getD, List.getElem?_set]
  split
  · split
    · simp only [Option.getD_some]; split <;> omega
    · simp
  · rw [← List.getD_eq_getElem?_getD]; omega
theorem sumsM_len (xs : List Int) : (sumsM xs).length = 8 := by
  suffices h : ∀ (v : List Int), (xs.foldl addL v).length = v.length by rw [sumsM, h]; rfl
  induction xs with
  | nil => intro v; rfl
  | cons x xs ih => intro v; rw [List.foldl_cons, ih]; simp [addL]
theorem fitsB_of {g : Int} {xs : List Int} (h : fitsB g xs = true) : 1 ≤ g ∧ g ≤ 2 ∧ wordB xs = true := by
  simp only [fitsB, hasB, Bool.and_eq_true, decide_eq_true_iff] at h; exact ⟨h.1.1, h.1.2, h.2.2⟩

/-- a table, changed at one place -/
theorem tab_set {α : Type} (n : Nat) (f : Nat → α) (a : Nat) (y : α) : ((List.range n).map f).set a y = (List.range n).map fun v => if v = a then y else f v := by
  apply List.ext_getElem
  · simp
  · intro i h1 h2
    rw [List.getElem_set]
    simp only [List.getElem_map, List.getElem_range]
    by_cases h : a = i
    · rw [if_pos h, if_pos h.symm]
    · rw [if_neg h, if_neg (fun e => h e.symm)]
theorem rd_tab (n : Nat) (f : Nat → Int) (a : Int) (h0 : 0 ≤ a) (h : a < n) : rd ((List.range n).map f) a = f a.toNat := by
  have : a.toNat < n := by omega
  simp [rd, this]

def inB (n : Nat) (x : Int) : Bool := decide (0 ≤ x ∧ x < n)
def permB (p : List Int) : Bool := p.all (inB p.length) && decide p.Nodup
def seenM (n : Nat) (pre : List Int) : List Bool := (List.range n).map fun i : Nat => decide ((i : Int) ∈ pre)
theorem rdOf_tab {α : Type} (d : α) (n : Nat) (f : Nat → α) (a : Int) (h0 : 0 ≤ a) (h : a < n) : rdOf d ((List.range n).map f) a = f a.toNat := by
  have : a.toNat < n := by omega
  simp [rdOf, this]
theorem seenM_snoc (n : Nat) (pre : List Int) (x : Int) (h0 : 0 ≤ x) : (seenM n pre).set x.toNat true = seenM n (pre ++ [x]) := by
  unfold seenM
  rw [tab_set]
  apply List.map_congr_left
  intro i hi
  by_cases h : i = x.toNat
  · rw [if_pos h, decide_eq_true]; rw [List.mem_append, List.mem_singleton]; right; omega
  · rw [if_neg h]
    congr 1
    rw [List.mem_append, List.mem_singleton]
    have : ¬ (i : Int) = x := by omega
    simp [this]
theorem seenM_nil (n : Nat) : seenM n [] = List.replicate n false := by
  apply List.ext_getElem
  · simp [seenM]
  · intro i h1 h2
    simp [seenM]
theorem inB_of {n : Nat} {x : Int} (h : inB n x = true) : 0 ≤ x ∧ x < n := by simpa [inB] using h
theorem permB_of {p : List Int} (h : permB p = true) : (∀ x ∈ p, 0 ≤ x ∧ x < p.length) ∧ p.Nodup := by
  simp only [permB, Bool.and_eq_true, List.all_eq_true, decide_eq_true_iff] at h
  exact ⟨fun x hx => inB_of (h.1 x hx), h.2⟩
/-- how many sheets -/
def d0 (l : List (List Int)) : Nat := (l.getD 0 []).length
def sheetB (n : Nat) (r : List Int) : Bool := decide (r.length = n) && permB r
def sheetsB (l : List (List Int)) : Bool := decide (0 < l.length) && (decide (1 ≤ d0 l ∧ d0 l ≤ 5) && l.all (sheetB (d0 l)))
def permsB (l : List (List Int)) : Bool := sheetsB l && decide (l.length ≤ 8)
theorem rdL_zero (l : List (List Int)) : rd_L1 l 0 = l.getD 0 [] := by simp [rd_L1]
theorem sheetsB_of {l : List (List Int)} (h : sheetsB l = true) : 0 < l.length ∧ 1 ≤ d0 l ∧ d0 l ≤ 5 ∧ ∀ r ∈ l, r.length = d0 l ∧ permB r = true := by
  simp only [sheetsB, sheetB, Bool.and_eq_true, List.all_eq_true, decide_eq_true_iff] at h
  exact ⟨h.1, h.2.1.1, h.2.1.2, h.2.2⟩
/-- the inverse: i of its places set -/
def invK (p : List Int) (i : Nat) : List Int := (List.range i).foldl (fun acc j => acc.set (p.getD j 0).toNat (j : Int)) (List.replicate p.length 0)
def invM (p : List Int) : List Int := invK p p.length
theorem invK_succ (p : List Int) (i : Nat) : invK p (i + 1) = (invK p i).set (p.getD i 0).toNat (i : Int) := by
  unfold invK
  rw [List.range_succ, List.foldl_append]; rfl
theorem invK_I (p : List Int) (hp : 1 ≤ p.length) : ∀ i, i ≤ p.length → (invK p i).length = p.length ∧ ∀ x ∈ invK p i, 0 ≤ x ∧ x < p.length
  | 0, _ => by
    refine ⟨by simp [invK], fun x hx => ?_⟩
    have hx' : x ∈ List.replicate p.length (0 : Int) := hx
    have : x = 0 := (List.mem_replicate.1 hx').2
    omega
  | i + 1, h => by
    have ih := invK_I p hp i (by omega)
    rw [invK_succ]
    refine ⟨by simp [ih.1], fun x hx => ?_⟩
    rcases List.mem_or_eq_of_mem_set hx with h' | h'
    · exact ih.2 x h'
    · omega
def thenM (p q : List Int) : List Int := p.map fun y => q.getD y.toNat 0
def idM (n : Nat) : List Int := (List.range n).map fun i : Nat => (i : Int)
def stepP (l : List (List Int)) (a : Int) : List Int := if a < 0 then invM (l.getD (a.natAbs - 1) []) else l.getD (a.natAbs - 1) []
def actS (l : List (List Int)) (w : List Int) (s : Int) : Int := w.foldl (fun s a => (stepP l a).getD s.toNat 0) s
def actK (l : List (List Int)) (w : List Int) (out : List Int) : List Int := w.foldl (fun out a => thenM out (stepP l a)) out
theorem actK_eq (l : List (List Int)) : ∀ (w out : List Int), actK l w out = out.map (actS l w)
  | [], out => by
    have : actS l [] = id := rfl
    rw [this, List.map_id]; rfl
  | a :: w, out => by
    have := actK_eq l w (thenM out (stepP l a))
    unfold actK actS at this ⊢
    rw [List.foldl_cons, this, thenM, List.map_map]; rfl
def actL (l : List (List Int)) (w : List Int) : List Int := (idM (d0 l)).map (actS l w)
def lettersB (l : List (List Int)) (w : List Int) : Prop := ∀ a ∈ w, 1 ≤ a.natAbs ∧ a.natAbs ≤ l.length ∧ a.natAbs ≤ 1000000
theorem stepP_I {l : List (List Int)} (h : sheetsB l = true) {a : Int} (h1 : 1 ≤ a.natAbs) (h2 : a.natAbs ≤ l.length) : (stepP l a).length = d0 l ∧ ∀ x ∈ stepP l a, 0 ≤ x ∧ x < d0 l := by
  have s := sheetsB_of h
  have hi : a.natAbs - 1 < l.length := by omega
  have hr := s.2.2.2 _ (List.getElem_mem hi)
  have e : l.getD (a.natAbs - 1) [] = l[a.natAbs - 1] := by simp [hi]
  unfold stepP
  rw [e]
  split
  · have := invK_I l[a.natAbs - 1] (by omega) _ (Nat.le_refl _)
    unfold invM
    rw [hr.1] at this ⊢
    exact this
  · have := (permB_of hr.2).1
    rw [hr.1] at this
    exact ⟨hr.1, this⟩
theorem getD_in {n : Nat} {q : List Int} (hl : q.length = n) (hq : ∀ x ∈ q, 0 ≤ x ∧ x < n) {s : Int} (h0 : 0 ≤ s) (h1 : s < n) : 0 ≤ q.getD s.toNat 0 ∧ q.getD s.toNat 0 < n := by
  have : s.toNat < q.length := by omega
  rw [List.getD_eq_getElem?_getD, List.getElem?_eq_getElem this]
  exact hq _ (List.getElem_mem this)
theorem rd_getD (q : List Int) (s : Int) : rd q s = q.getD s.toNat 0 := rfl

theorem spec_l6Perm_l0 (p : List Int) (hn : p.length < 4611686018427387904) : ∀ (suf pre : List Int), p = pre ++ suf → pre.Nodup →
    EV (fun k => spec_l6Perm.l0 k p (seenM p.length pre) (pre.length : Int)) (suf.all (inB p.length) && decide (pre ++ suf).Nodup) := by
  intro suf
  induction suf with
  | nil =>
    intro pre h hp
    refine EV.step (fun k => by rw [spec_l6Perm.l0]) ?_
    exact EV.neg (by subst h; simp) ((EV.now _).eq (by simp [hp]))
  | cons x suf ih =>
    intro pre h hp
    have hpl : pre.length < 4611686018427387904 := by subst h; simp at hn; omega
    have hlt : (pre.length : Int) < (p.length : Int) := by subst h; exact lt_app ..
    have hx : rd p (pre.length : Int) = x := by subst h; exact rd_app ..
    refine EV.step (fun k => by rw [spec_l6Perm.l0]) ?_
    rw [hx, up (x := x) hpl, w64 (x := (p.length : Int) - 1) (by omega) (by omega)]
    refine EV.pos hlt (EV.pos (by omega) (EV.by (spec_l1In_is _ _ _) ?_))
    by_cases hb : inB p.length x = true
    · have b := inB_of hb
      refine EV.pos (by simp; omega) (EV.pos b.1 (EV.pos (by simp [seenM]; omega) ?_))
      rw [show rdOf false (seenM p.length pre) x = decide (x ∈ pre) by unfold seenM; rw [rdOf_tab _ _ _ _ b.1 b.2, show ((x.toNat : Nat) : Int) = x by omega]]
      by_cases hm : x ∈ pre
      · refine EV.pos (by simpa using hm) ((EV.now _).eq ?_)
        rw [decide_eq_false, Bool.and_false]
        intro c
        exact (List.nodup_append.1 c).2.2 x hm x (by simp) rfl
      · refine EV.neg (by simpa using hm) ?_
        rw [seenM_snoc _ _ _ b.1]
        refine (ih (pre ++ [x]) (by simp [h]) ?_).eq (by simp [hb])
        rw [List.nodup_append]
        refine ⟨hp, by simp, fun a ha c hc => ?_⟩
        rw [List.mem_singleton] at hc
        intro e; exact hm (by rw [← hc, ← e]; exact ha)
    · refine EV.neg (by simp only [inB, decide_eq_true_iff] at hb; simp; omega) ((EV.now _).eq ?_)
      rw [List.all_cons, show inB p.length x = false by simpa using hb]; simp
theorem spec_l6Perm_is (p : List Int) (hn : p.length < 4294967296) : EV (fun k => spec_l6Perm.f k p) (permB p) := by
  refine EV.pos (by omega) (EV.pos (by omega) ?_)
  have := spec_l6Perm_l0 p (by omega) p [] rfl List.nodup_nil
  rw [seenM_nil] at this
  exact this

theorem spec_l9Perms_is (l : List (List Int)) (hn : l.length < 4294967296) (hr : ∀ r ∈ l, r.length < 4294967296) : EV (fun k => spec_l9Perms.f k l) (permsB l) := by
  have := EV.scan (g := fun k i => spec_l9Perms.l0 k l i) l (sheetB (d0 l)) (decide (1 ≤ l.length ∧ l.length ≤ 8) && decide (1 ≤ d0 l ∧ d0 l ≤ 5)) (fun i h r H1 H2 => ?_) ?_
  · refine EV.eq this ?_
    rw [Bool.eq_iff_iff]
    simp only [permsB, sheetsB, Bool.and_eq_true, decide_eq_true_iff]
    constructor
    · intro h; exact ⟨⟨by omega, h.2.2, h.1⟩, by omega⟩
    · intro h; exact ⟨h.1.2.2, ⟨by omega, by omega⟩, h.1.2.1⟩
  · refine EV.step (fun k => by rw [spec_l9Perms.l0]) ?_
    rw [rdL_nat _ _ h, w64 (x := (i : Int) + 1) (by omega) (by omega), rdL_zero]
    refine EV.pos (by omega) (EV.pos (by omega) (EV.pos (by omega) ?_))
    by_cases hl : (l[i]).length = d0 l
    · refine EV.pos (by unfold d0 at hl; omega) (EV.bind (spec_l6Perm_is _ (hr _ (List.getElem_mem h))) ?_)
      exact EV.cases (fun c => H1 (by simp [sheetB, hl, c])) (fun c => (EV.now _).eq (H2 (by simp [sheetB, hl]; simpa using c)).symm)
    · exact EV.neg (by unfold d0 at hl; omega) ((EV.now _).eq (H2 (by simp [sheetB, hl])).symm)
  · refine EV.step (fun k => by rw [spec_l9Perms.l0]) ?_
    refine EV.neg (by omega) (EV.by (spec_l1In_is _ _ _) ?_)
    by_cases h : 1 ≤ l.length ∧ l.length ≤ 8
    · refine EV.pos (by simp; omega) (EV.pos (by omega) (EV.by (spec_l1In_is _ _ _) ((EV.now _).eq ?_)))
      rw [rdL_zero, Bool.eq_iff_iff]
      simp [d0]; omega
    · refine EV.neg (by simp; omega) ((EV.now _).eq ?_)
      simp [h]

theorem spec_l2Letter_is (a : Int) : spec_l2Letter.f a = some (letterB a) := by
  unfold spec_l2Letter.f
  rw [spec_l1In_is, spec_l1In_is]
  simp only [Option.bind_some]
  by_cases h : 1 ≤ a ∧ a ≤ 8
  · rw [if_pos (by simp [h])]; simp [letterB]; omega
  · rw [if_neg (by simpa using h)]; simp [letterB]; congr 1; rw [Bool.eq_iff_iff]; simp; omega

theorem spec_IsWord_is (xs : List Int) (hn : xs.length < 4611686018427387904) : EV (fun k => spec_IsWord.f k xs) (wordB xs) := by
  refine EV.scan (g := fun k i => spec_IsWord.l0 k xs i) xs letterB (decide (xs.length ≤ 24)) (fun i h r H1 H2 => ?_) ?_
  · refine EV.step (fun k => by rw [spec_IsWord.l0]) ?_
    rw [rd_nat _ _ h, w64 (x := (i : Int) + 1) (by omega) (by omega)]
    refine EV.pos (by omega) (EV.pos (by omega) (EV.by (spec_l2Letter_is _) ?_))
    exact EV.cases H1 (fun c => (EV.now _).eq (H2 (by simpa using c)).symm)
  · refine EV.step (fun k => by rw [spec_IsWord.l0]) ?_
    refine EV.neg (by omega) ((EV.now _).eq ?_)
    rw [Bool.eq_iff_iff]; simp; omega

theorem spec_l1Max_is (a b : Int) : spec_l1Max.f a b = some (if a > b then a else b) := by
  unfold spec_l1Max.f; split <;> rfl

theorem spec_l3Abs_is (a : Int) (h : -9223372036854775808 < a) (h' : a ≤ 9223372036854775807) : spec_l3Abs.f a = some (a.natAbs : Int) := by
  unfold spec_l3Abs.f
  rw [spec_l1Max_is, w64 (by omega) (by omega)]
  simp only [Option.bind_some]
  congr 1
  split <;> omega

theorem spec_l6Inverse_is (p : List Int) (hp : ∀ x ∈ p, 0 ≤ x ∧ x < p.length) (hn : p.length < 4294967296) : EV (fun k => spec_l6Inverse.f k p) (invM p) := by
  refine EV.pos (by omega) (EV.pos (by omega) ?_)
  refine EV.count (g := fun k s i => spec_l6Inverse.l0 k p s i) p.length (invK p) _ (fun i hi H => ?_) ?_
  · have hx := hp _ (List.getElem_mem hi)
    have hl : (invK p i).length = p.length := (invK_I p (by omega) i (by omega)).1
    refine EV.step (fun k => by rw [spec_l6Inverse.l0]) ?_
    rw [rd_nat _ _ hi, w64 (x := (i : Int) + 1) (by omega) (by omega)]
    refine EV.pos (by omega) (EV.pos (by omega) (EV.pos (by omega) (EV.pos (by omega) ?_)))
    rw [invK_succ] at H
    have e : p.getD i 0 = p[i] := by simp [hi]
    rw [e] at H
    exact H
  · refine EV.step (fun k => by rw [spec_l6Inverse.l0]) ?_
    exact EV.neg (by omega) (EV.now _)

theorem spec_l9Act_is (l : List (List Int)) (w : List Int) (s : Int) (hs : sheetsB l = true) (hw : lettersB l w) (hn : w.length < 4294967296) (h0 : 0 ≤ s) (h1 : s < d0 l) : EV (fun k => spec_l9Act.f k l w s) (actS l w s) := by
  have S := sheetsB_of hs
  refine EV.fold (g := fun k s i => spec_l9Act.l0 k l w s i) w (fun s a => (stepP l a).getD s.toNat 0) id (fun _ s => 0 ≤ s ∧ s < d0 l) (fun i h s r hI H => ?_) (fun s hI => ?_) s ⟨h0, h1⟩
  · have ha := hw _ (List.getElem_mem h)
    have I := stepP_I hs ha.1 ha.2.1
    have hi : (w[i]).natAbs - 1 < l.length := by omega
    have row := S.2.2.2 _ (List.getElem_mem hi)
    have e : l.getD ((w[i]).natAbs - 1) [] = l[(w[i]).natAbs - 1] := by simp [hi]
    have H := H (getD_in I.1 I.2 hI.1 hI.2)
    refine EV.step (fun k => by rw [spec_l9Act.l0]) ?_
    rw [rd_nat _ _ h, w64 (x := (i : Int) + 1) (by omega) (by omega)]
    refine EV.pos (by omega) (EV.pos (by omega) (EV.by (spec_l3Abs_is _ (by omega) (by omega)) ?_))
    rw [w64 (x := ((w[i]).natAbs : Int) - 1) (by omega) (by omega), show (((w[i]).natAbs : Int) - 1) = (((w[i]).natAbs - 1 : Nat) : Int) by omega, rdL_nat _ _ hi]
    refine EV.pos (by omega) (EV.pos (by omega) ?_)
    by_cases hneg : w[i] < 0
    · refine EV.pos hneg (EV.bind (spec_l6Inverse_is _ (permB_of row.2).1 (by omega)) ?_)
      have e2 : stepP l w[i] = invM l[(w[i]).natAbs - 1] := by unfold stepP; rw [if_pos hneg, e]
      rw [e2] at I H
      exact EV.pos hI.1 (EV.pos (by omega) H)
    · refine EV.neg hneg ?_
      have e2 : stepP l w[i] = l[(w[i]).natAbs - 1] := by unfold stepP; rw [if_neg hneg, e]
      rw [e2] at I H
      exact EV.pos hI.1 (EV.pos (by omega) H)
  · refine EV.step (fun k => by rw [spec_l9Act.l0]) ?_
    exact EV.neg (by omega) (EV.now _)

def wordOk (l : List (List Int)) (w : List Int) : Bool := wordB w && w.all (leB l.length)
def actM (l : List (List Int)) (w : List Int) : List Int := if permsB l = true ∧ wordOk l w = true then actL l w else []
theorem letters_of {l : List (List Int)} {w : List Int} (h : wordOk l w = true) : lettersB l w ∧ w.length ≤ 24 := by
  simp only [wordOk, Bool.and_eq_true, List.all_eq_true, leB, decide_eq_true_iff] at h
  have a := wordB_of h.1
  refine ⟨fun x hx => ?_, a.2⟩
  have := letterB_of (a.1 x hx)
  have := h.2 x hx
  omega
theorem actL_len (l : List (List Int)) (w : List Int) : (actL l w).length = d0 l := by simp [actL, idM]
theorem actM_len (l : List (List Int)) (w : List Int) : (actM l w).length ≤ 5 := by
  unfold actM
  split
  · rename_i h
    have h1 : sheetsB l = true := by have := h.1; simp only [permsB, Bool.and_eq_true] at this; exact this.1
    have := sheetsB_of h1
    rw [actL_len]; omega
  · simp
def lettersM (n : Nat) : List Int := (List.range n).map fun i : Nat => (i : Int) + 1
def wholeB (t : List Int) : Bool := (List.range t.length).all (fun i => decide (t.getD i 0 = (i : Int))) && decide (0 < t.length)
theorem wholeB_eq {t : List Int} {n : Nat} (h : t.length = n) (h1 : 1 ≤ n) : wholeB t = decide (t = idM n) := by
  subst h
  rw [Bool.eq_iff_iff]
  simp only [wholeB, Bool.and_eq_true, List.all_eq_true, decide_eq_true_iff, List.mem_range]
  constructor
  · intro h
    apply List.ext_getElem
    · simp [idM]
    · intro i h1 h2
      have := h.1 i h1
      rw [List.getD_eq_getElem?_getD, List.getElem?_eq_getElem h1, Option.getD_some] at this
      simp [idM, this]
  · intro h
    refine ⟨fun i hi => ?_, by omega⟩
    rw [h]
    simp [idM, hi]
theorem product_eq (l : List (List Int)) (out : List Int) : actK l (lettersM l.length) out = l.foldl thenM out := by
  suffices h : ∀ n, n ≤ l.length → actK l (lettersM n) out = (l.take n).foldl thenM out by
    have := h l.length (Nat.le_refl _)
    rwa [List.take_length] at this
  intro n
  induction n with
  | zero => intro _; simp [lettersM, actK]
  | succ n ih =>
    intro h
    have ih := ih (by omega)
    have hn : n < l.length := by omega
    rw [List.take_succ_eq_append_getElem hn, List.foldl_append, ← ih]
    unfold lettersM actK
    rw [List.range_succ, List.map_append, List.foldl_append]
    simp only [List.map_cons, List.map_nil, List.foldl_cons, List.foldl_nil]
    have e : stepP l ((n : Int) + 1) = l[n] := by
      unfold stepP
      rw [if_neg (by omega), show ((n : Int) + 1).natAbs - 1 = n by omega]
      simp [hn]
    rw [e]
theorem letters_ok {l : List (List Int)} (h : l.length ≤ 8) : wordOk l (lettersM l.length) = true := by
  simp only [wordOk, wordB, lettersM, Bool.and_eq_true, List.all_eq_true, List.mem_map, List.mem_range, leB, letterB, decide_eq_true_iff, List.length_map, List.length_range]
  refine ⟨⟨?_, by omega⟩, ?_⟩
  · rintro x ⟨i, hi, rfl⟩; omega
  · rintro x ⟨i, hi, rfl⟩; omega
theorem thenM_I {n : Nat} {p q : List Int} (hp : p.length = n ∧ ∀ x ∈ p, 0 ≤ x ∧ x < n) (hq : q.length = n ∧ ∀ x ∈ q, 0 ≤ x ∧ x < n) : (thenM p q).length = n ∧ ∀ x ∈ thenM p q, 0 ≤ x ∧ x < n := by
  refine ⟨by simp [thenM, hp.1], fun x hx => ?_⟩
  simp only [thenM, List.mem_map] at hx
  obtain ⟨y, hy, rfl⟩ := hx
  exact getD_in hq.1 hq.2 (hp.2 y hy).1 (hp.2 y hy).2
theorem idM_I (n : Nat) : (idM n).length = n ∧ ∀ x ∈ idM n, 0 ≤ x ∧ x < n := by
  refine ⟨by simp [idM], fun x hx => ?_⟩
  simp only [idM, List.mem_map, List.mem_range] at hx
  obtain ⟨i, hi, rfl⟩ := hx
  omega
theorem permsB_le {l : List (List Int)} (h : l.length ≤ 8) : permsB l = sheetsB l := by
  unfold permsB
  rw [decide_eq_true h, Bool.and_true]

theorem spec_ActWord_is (l : List (List Int)) (w : List Int) (hn : l.length < 4294967296) (hr : ∀ r ∈ l, r.length < 4294967296) (hw : w.length < 4294967296) : EV (fun k => spec_ActWord.f k l w) (actM l w) := by
  have no : EV (fun k => spec_ActWord.j0 k l w true) [] := by
    refine EV.step (fun k => by rw [spec_ActWord.j0]) ?_
    exact EV.pos rfl (EV.now _)
  unfold actM
  refine EV.bind (spec_l9Perms_is l hn hr) ?_
  by_cases h1 : permsB l = true
  · refine EV.pos h1 (EV.bind (spec_IsWord_is w (by omega)) ?_)
    have hs : sheetsB l = true := by have := h1; simp only [permsB, Bool.and_eq_true] at this; exact this.1
    have S := sheetsB_of hs
    by_cases h2 : wordB w = true
    · rw [h2]
      refine EV.step (fun k => by rw [spec_ActWord.j0]) ?_
      refine EV.neg (by simp) ?_
      refine EV.scanC (g := fun k i => spec_ActWord.l0 k l w i) w (leB l.length) _ [] (fun i h H1 H2 => ?_) (fun h3 => ?_) (fun h3 => ?_)
      · have hx := letterB_of (all_getElem (wordB_of h2).1 i h)
        refine EV.step (fun k => by rw [spec_ActWord.l0]) ?_
        rw [rd_nat _ _ h, w64 (x := (i : Int) + 1) (by omega) (by omega)]
        refine EV.pos (by omega) (EV.pos (by omega) (EV.by (spec_l3Abs_is _ (by omega) (by omega)) ?_))
        exact EV.cases (fun c => (EV.now _).eq (H2 (by simp [leB]; omega)).symm) (fun c => H1 (by simp [leB]; omega))
      · have hok : wordOk l w = true := by unfold wordOk; rw [h2, h3]; rfl
        rw [if_pos ⟨h1, hok⟩]
        have L := letters_of hok
        refine EV.step (fun k => by rw [spec_ActWord.l0]) ?_
        refine EV.neg (by omega) ?_
        refine EV.count (g := fun k s i => spec_ActWord.l1 k l w s i) (d0 l) (fun i => (List.range i).map fun j : Nat => actS l w (j : Int)) _ (fun i hi H => ?_) ?_
        · refine EV.step (fun k => by rw [spec_ActWord.l1]) ?_
          rw [w64 (x := (i : Int) + 1) (by omega) (by omega), rdL_zero]
          refine EV.pos (by omega) (EV.pos (by unfold d0 at hi; omega) (EV.bind (spec_l9Act_is l w (i : Int) hs L.1 hw (by omega) (by omega)) (EV.pos (by simp; omega) ?_)))
          simpa [List.range_succ] using H
        · refine EV.step (fun k => by rw [spec_ActWord.l1]) ?_
          rw [rdL_zero]
          refine EV.pos (by omega) (EV.neg (by unfold d0; omega) ((EV.now _).eq ?_))
          simp [actL, idM, Function.comp_def]
      · rw [if_neg]
        intro c
        have := c.2
        unfold wordOk at this
        rw [h3, Bool.and_false] at this; cases this
    · rw [show wordB w = false by simpa using h2, if_neg]
      · exact no
      · intro c
        have := c.2
        unfold wordOk at this
        rw [Bool.and_eq_true] at this; exact h2 this.1
  · rw [if_neg (fun c => h1 c.1)]
    exact EV.neg h1 no

theorem spec_l9Whole_is (t : List Int) (hn : t.length < 4294967296) : EV (fun k => spec_l9Whole.f k t) (wholeB t) := by
  refine EV.countB (g := fun k i => spec_l9Whole.l0 k t i) t.length _ (decide (0 < t.length)) (fun i h r H1 H2 => ?_) ?_
  · have e : t.getD i 0 = t[i] := by simp [h]
    rw [e] at H1 H2
    refine EV.step (fun k => by rw [spec_l9Whole.l0]) ?_
    rw [rd_nat _ _ h, w64 (x := (i : Int) + 1) (by omega) (by omega)]
    refine EV.pos (by omega) (EV.pos (by omega) ?_)
    exact EV.cases (fun c => H1 (by simpa using c)) (fun c => (EV.now _).eq (H2 (by simpa using c)).symm)
  · refine EV.step (fun k => by rw [spec_l9Whole.l0]) ?_
    exact EV.neg (by omega) ((EV.now _).eq (by rw [Bool.eq_iff_iff]; simp))

theorem spec_l10Letters_is (n : Nat) (hn : n < 4294967296) : EV (fun k => spec_l10Letters.f k (n : Int)) (lettersM n) := by
  suffices h : ∀ (c i : Nat), i + c = n → EV (fun k => spec_l10Letters.l0 k (n : Int) (lettersM i) ((i : Int) + 1)) (lettersM n) by exact h n 0 (by omega)
  intro c
  induction c with
  | zero =>
    intro i h
    have : i = n := by omega
    subst this
    refine EV.step (fun k => by rw [spec_l10Letters.l0]) ?_
    exact EV.neg (by omega) (EV.now _)
  | succ c ih =>
    intro i h
    refine EV.step (fun k => by rw [spec_l10Letters.l0]) ?_
    rw [w64 (x := (i : Int) + 1 + 1) (by omega) (by omega)]
    refine EV.pos (by omega) (EV.pos (by simp [lettersM]; omega) ?_)
    have := ih (i + 1) (by omega)
    simpa [lettersM, List.range_succ] using this

def passB (l : List (List Int)) : Bool := decide (1 ≤ l.length ∧ l.length ≤ 5) && (sheetsB l && decide (actL l (lettersM l.length) = idM (d0 l)))
theorem spec_IsPassport_is (l : List (List Int)) (hn : l.length < 4294967296) (hr : ∀ r ∈ l, r.length < 4294967296) : EV (fun k => spec_IsPassport.f k l) (passB l) := by
  unfold passB
  refine EV.by (spec_l1In_is _ _ _) ?_
  by_cases h1 : 1 ≤ l.length ∧ l.length ≤ 5
  · refine EV.pos (by simp; omega) (EV.bind (spec_l9Perms_is l hn hr) ?_)
    rw [decide_eq_true h1, Bool.true_and]
    have e := permsB_le (l := l) (by omega)
    by_cases h2 : sheetsB l = true
    · have S := sheetsB_of h2
      refine EV.pos (by rw [e]; exact h2) (EV.bind (spec_l10Letters_is l.length hn) (EV.bind (spec_ActWord_is l _ hn hr (by simp [lettersM]; omega)) ?_))
      have e2 : actM l (lettersM l.length) = actL l (lettersM l.length) := by unfold actM; rw [if_pos ⟨by rw [e]; exact h2, letters_ok (by omega)⟩]
      rw [e2]
      refine EV.bind (spec_l9Whole_is _ (by rw [actL_len]; omega)) ((EV.now _).eq ?_)
      rw [wholeB_eq (actL_len _ _) S.2.1, h2, Bool.true_and]
    · refine EV.neg (by rw [e]; exact h2) ((EV.now _).eq ?_)
      rw [show sheetsB l = false by simpa using h2, Bool.false_and]
  · refine EV.neg (by simp; omega) ((EV.now _).eq ?_)
    rw [decide_eq_false h1, Bool.false_and]

theorem spec_l5Copy_l0 (t : List (List Int)) (hn : t.length ≤ 1048576) (hr : ∀ r ∈ t, r.length ≤ 1048576) : ∀ (suf pre : List (List Int)), t = pre ++ suf →
    EV (fun k => spec_l5Copy.l0 k t pre (pre.length : Int)) t := by
  intro suf
  induction suf with
  | nil =>
    intro pre h
    refine EV.step (fun k => by rw [spec_l5Copy.l0]) ?_
    exact EV.neg (by subst h; simp) ((EV.now _).eq (by simp [h]))
  | cons x suf ih =>
    intro pre h
    have hl : pre.length < 1048576 := by subst h; simp at hn; omega
    have hlt : (pre.length : Int) < (t.length : Int) := by subst h; exact lt_app ..
    have hx : rd_L1 t (pre.length : Int) = x := by subst h; exact rdL_app ..
    have hx' : x.length ≤ 1048576 := hr x (by subst h; simp)
    refine EV.step (fun k => by rw [spec_l5Copy.l0]) ?_
    rw [hx, up (x := x) (by omega)]
    refine EV.pos hlt (EV.by rfl (EV.pos (by omega) (EV.pos (by simp; omega) (EV.pos (by omega) ?_))))
    have := ih (pre ++ [x]) (by simp [h])
    simpa using this
theorem spec_l5Copy_is (t : List (List Int)) (hn : t.length ≤ 1048576) (hr : ∀ r ∈ t, r.length ≤ 1048576) : EV (fun k => spec_l5Copy.f k t) t := spec_l5Copy_l0 t hn hr t [] rfl

theorem actK_I {l : List (List Int)} (hs : sheetsB l = true) : ∀ (w out : List Int), lettersB l w → (out.length = d0 l ∧ ∀ x ∈ out, 0 ≤ x ∧ x < d0 l) → (actK l w out).length = d0 l ∧ ∀ x ∈ actK l w out, 0 ≤ x ∧ x < d0 l
  | [], out, _, h => h
  | a :: w, out, hw, h => by
    have ha := hw a (by simp)
    have := actK_I hs w (thenM out (stepP l a)) (fun b hb => hw b (by simp [hb])) (thenM_I h (stepP_I hs ha.1 ha.2.1))
    simpa [actK] using this
theorem actL_I {l : List (List Int)} (hs : sheetsB l = true) {w : List Int} (hw : lettersB l w) : (actL l w).length = d0 l ∧ ∀ x ∈ actL l w, 0 ≤ x ∧ x < d0 l := by
  have := actK_I hs w (idM (d0 l)) hw (idM_I _)
  rwa [actK_eq] at this
def closeM (l : List (List Int)) : List (List Int) × Bool :=
  if (1 ≤ l.length ∧ l.length ≤ 4) ∧ sheetsB l = true then (l ++ [invM (actL l (lettersM l.length))], true) else ([], false)
theorem invM_len (p : List Int) (h : 1 ≤ p.length) : (invM p).length = p.length := (invK_I p h _ (Nat.le_refl _)).1
theorem closeM_sz (l : List (List Int)) : (closeM l).1.length ≤ 5 ∧ ∀ r ∈ (closeM l).1, r.length ≤ 5 := by
  unfold closeM
  split
  · rename_i h
    have S := sheetsB_of h.2
    refine ⟨by simp; omega, fun r hr => ?_⟩
    rcases List.mem_append.1 hr with h' | h'
    · have := S.2.2.2 r h'; omega
    · rw [List.mem_singleton.1 h', invM_len _ (by rw [actL_len]; omega), actL_len]; omega
  · simp
theorem total_le5 : ∀ {xs : List (List Int)}, (∀ r ∈ xs, r.length ≤ 5) → total xs ≤ 5 * xs.length
  | [], _ => by simp [total]
  | x :: xs, h => by
    have h1 := h x (by simp)
    have h2 := total_le5 (xs := xs) (fun r hr => h r (by simp [hr]))
    simp only [total, List.length_cons]; omega

/-- the braid's step at i -/
def brM (l : List (List Int)) (i : Int) : List (List Int) × Bool :=
  if passB l = true ∧ 0 ≤ i ∧ i ≤ (l.length : Int) - 2 then ((l.set i.toNat (actL l [i + 1, i + 2, -i - 1])).set (i.toNat + 1) (l.getD i.toNat []), true) else ([], false)
theorem set_len5 {n : Nat} {l : List (List Int)} (h : ∀ r ∈ l, r.length ≤ n) {x : List Int} (hx : x.length ≤ n) (i : Nat) : ∀ r ∈ l.set i x, r.length ≤ n := by
  intro r hr
  rcases List.mem_or_eq_of_mem_set hr with h' | h'
  · exact h r h'
  · rw [h']; exact hx
theorem passB_of {l : List (List Int)} (h : passB l = true) : (1 ≤ l.length ∧ l.length ≤ 5) ∧ sheetsB l = true := by
  simp only [passB, Bool.and_eq_true, decide_eq_true_iff] at h
  exact ⟨h.1, h.2.1⟩
theorem brM_sz (l : List (List Int)) (i : Int) : (brM l i).1.length ≤ 5 ∧ ∀ r ∈ (brM l i).1, r.length ≤ 5 := by
  unfold brM
  split
  · rename_i h
    have P := passB_of h.1
    have S := sheetsB_of P.2
    have hl : ∀ r ∈ l, r.length ≤ 5 := fun r hr => by have := S.2.2.2 r hr; omega
    have hi : i.toNat < l.length := by omega
    refine ⟨by simp; omega, set_len5 (set_len5 hl (by rw [actL_len]; omega) _) ?_ _⟩
    have := hl _ (List.getElem_mem hi)
    simpa [hi] using this
  · simp
theorem br_word {l : List (List Int)} {i : Int} (h5 : l.length ≤ 5) (h0 : 0 ≤ i) (h1 : i ≤ (l.length : Int) - 2) : wordOk l [i + 1, i + 2, -i - 1] = true := by
  simp only [wordOk, wordB, letterB, leB, List.all_cons, List.all_nil, Bool.and_true, Bool.and_eq_true, decide_eq_true_iff, List.length_cons, List.length_nil]
  omega

theorem spec_BraidPassport_is (l : List (List Int)) (i : Int) (wi : (Lit.int .i64 i).wf = true) (hn : l.length ≤ 1048576) (hr : ∀ r ∈ l, r.length ≤ 1048576) : EV (fun k => spec_BraidPassport.f k l i) (brM l i) := by
  have no : EV (fun k => spec_BraidPassport.j0 k l i true) ([], false) := by
    refine EV.step (fun k => by rw [spec_BraidPassport.j0]) ?_
    exact EV.pos rfl (EV.now _)
  have hr' : ∀ r ∈ l, r.length < 4294967296 := fun r h => by have := hr r h; omega
  unfold brM
  refine EV.bind (spec_IsPassport_is l (by omega) hr') ?_
  by_cases h1 : passB l = true
  · have P := passB_of h1
    have S := sheetsB_of P.2
    rw [w64 (x := (l.length : Int) - 2) (by omega) (by omega)]
    refine EV.pos h1 (EV.by (spec_l1In_is _ _ _) ?_)
    by_cases h2 : 0 ≤ i ∧ i ≤ (l.length : Int) - 2
    · rw [if_pos ⟨h1, h2⟩, show (!decide (0 ≤ i ∧ i ≤ (l.length : Int) - 2)) = false by simp [h2]]
      have hi : i.toNat < l.length := by omega
      have ok := br_word P.1.2 h2.1 h2.2
      have hp : permsB l = true := by rw [permsB_le (by omega)]; exact P.2
      refine EV.step (fun k => by rw [spec_BraidPassport.j0]) ?_
      rw [w64 (x := i + 1) (by omega) (by omega), w64 (x := i + 2) (by omega) (by omega), w64 (x := -i) (by omega) (by omega), w64 (x := -i - 1) (by omega) (by omega)]
      refine EV.neg (by simp) (EV.bind (spec_l5Copy_is l hn hr) (EV.bind (spec_ActWord_is l _ (by omega) hr' (by simp)) ?_))
      have e2 : actM l [i + 1, i + 2, -i - 1] = actL l [i + 1, i + 2, -i - 1] := by unfold actM; rw [if_pos ⟨hp, ok⟩]
      rw [e2]
      have er : rd_L1 l i = l[i.toNat] := by
        have := rdL_nat l i.toNat hi
        rwa [show ((i.toNat : Nat) : Int) = i by omega] at this
      have hrow := S.2.2.2 _ (List.getElem_mem hi)
      rw [er]
      refine EV.pos h2.1 (EV.pos (by omega) (EV.by rfl (EV.pos (by omega) (EV.pos (by simp; omega) (EV.pos (by omega) (EV.pos (by omega) ((EV.now _).eq ?_)))))))
      rw [List.nil_append, show (i + 1).toNat = i.toNat + 1 by omega, show l.getD i.toNat [] = l[i.toNat] by simp [hi]]
    · rw [if_neg (fun c => h2 c.2), show (!decide (0 ≤ i ∧ i ≤ (l.length : Int) - 2)) = true by simp; omega]
      exact no
  · rw [if_neg (fun c => h1 c.1)]
    exact EV.neg h1 no

theorem laws_toIntS_l0 (xs : List Int) (hn : xs.length < 4611686018427387904) : ∀ suf pre, xs = pre ++ suf → EV (fun k => laws_toIntS.l0 k xs (pre ++ List.replicate suf.length 0) (pre.length : Int)) xs := by
  intro suf
  induction suf with
  | nil =>
    intro pre h
    refine EV.step (fun k => by rw [laws_toIntS.l0]) ?_
    refine (EV.neg ?_ ((EV.now _).eq ?_))
    · subst h; simp
    · subst h; simp
  | cons x suf ih =>
    intro pre h
    have hl : pre.length < 4611686018427387904 := by subst h; simp at hn; omega
    have hlt : (pre.length : Int) < (xs.length : Int) := by subst h; exact lt_app ..
    have hx : rd xs (pre.length : Int) = x := by subst h; exact rd_app ..
    refine EV.step (fun k => by rw [laws_toIntS.l0]) ?_
    refine (EV.pos hlt (EV.pos (by omega) (EV.pos (by simp; omega) ?_)))
    rw [hx, up (x := x) hl, List.length_cons, List.replicate_succ, set_app _ _ _ _ _ (by simp)]
    have := ih (pre ++ [x]) (by simp [h])
    simpa using this
theorem laws_toIntS_is (xs : List Int) (hn : xs.length ≤ 1048576) : EV (fun k => laws_toIntS.f k xs) xs := by
  refine EV.pos (by omega) (EV.pos (by omega) ?_)
  exact laws_toIntS_l0 xs (by omega) xs [] rfl

theorem laws_toIntSS_l0 (xs : List (List Int)) (hn : xs.length < 4611686018427387904) (hr : ∀ r ∈ xs, r.length ≤ 1048576) : ∀ (suf pre : List (List Int)), xs = pre ++ suf →
    EV (fun k => laws_toIntSS.l0 k xs (pre ++ List.replicate suf.length []) (pre.length : Int)) xs := by
  intro suf
  induction suf with
  | nil =>
    intro pre h
    refine EV.step (fun k => by rw [laws_toIntSS.l0]) ?_
    exact EV.neg (by subst h; simp) ((EV.now _).eq (by subst h; simp))
  | cons x suf ih =>
    intro pre h
    have hl : pre.length < 4611686018427387904 := by subst h; simp at hn; omega
    have hlt : (pre.length : Int) < (xs.length : Int) := by subst h; exact lt_app ..
    have hx : rd_L1 xs (pre.length : Int) = x := by subst h; exact rdL_app ..
    have hx' : x.length ≤ 1048576 := hr x (by subst h; simp)
    refine EV.step (fun k => by rw [laws_toIntSS.l0]) ?_
    rw [hx, up (x := x) hl]
    refine EV.pos hlt (EV.pos (by omega) (EV.bind (laws_toIntS_is x hx') (EV.pos (by simp; omega) ?_)))
    rw [List.length_cons, List.replicate_succ, set_app _ _ _ _ _ (by simp)]
    have := ih (pre ++ [x]) (by simp [h])
    simpa using this
theorem laws_toIntSS_is (xs : List (List Int)) (hn : xs.length ≤ 1048576) (hr : ∀ r ∈ xs, r.length ≤ 1048576) : EV (fun k => laws_toIntSS.f k xs) xs := by
  refine EV.pos (by omega) (EV.pos (by omega) ?_)
  exact laws_toIntSS_l0 xs (by omega) hr xs [] rfl

theorem impl_within_is (a b c : Int) : impl_within.f a b c = some (decide (b ≤ a ∧ a ≤ c)) := by
  unfold impl_within.f
  by_cases h : a ≥ b
  · rw [if_pos h]; simp [show b ≤ a from h]
  · rw [if_neg h]; simp; omega

theorem impl_isPermutation_l0 (p : List Int) (hn : p.length < 4611686018427387904) : ∀ (suf pre : List Int), p = pre ++ suf → pre.Nodup →
    EV (fun k => impl_isPermutation.l0 k p (seenM p.length pre) p (p.length : Int) (pre.length : Int)) (suf.all (inB p.length) && decide (pre ++ suf).Nodup) := by
  intro suf
  induction suf with
  | nil =>
    intro pre h hp
    refine EV.step (fun k => by rw [impl_isPermutation.l0]) ?_
    exact EV.neg (by subst h; simp) ((EV.now _).eq (by simp [hp]))
  | cons x suf ih =>
    intro pre h hp
    have hpl : pre.length < 4611686018427387904 := by subst h; simp at hn; omega
    have hlt : (pre.length : Int) < (p.length : Int) := by subst h; exact lt_app ..
    have hx : rd p (pre.length : Int) = x := by subst h; exact rd_app ..
    refine EV.step (fun k => by rw [impl_isPermutation.l0]) ?_
    rw [hx, up (x := x) hpl, w64 (x := (p.length : Int) - 1) (by omega) (by omega)]
    refine EV.pos hlt (EV.pos (by omega) (EV.pos hlt (EV.by (impl_within_is _ _ _) ?_)))
    by_cases hb : inB p.length x = true
    · have b := inB_of hb
      refine EV.pos (by simp; omega) (EV.pos b.1 (EV.pos (by simp [seenM]; omega) ?_))
      rw [show rdOf false (seenM p.length pre) x = decide (x ∈ pre) by unfold seenM; rw [rdOf_tab _ _ _ _ b.1 b.2, show ((x.toNat : Nat) : Int) = x by omega]]
      by_cases hm : x ∈ pre
      · refine EV.pos (by simpa using hm) ((EV.now _).eq ?_)
        rw [decide_eq_false, Bool.and_false]
        intro c
        exact (List.nodup_append.1 c).2.2 x hm x (by simp) rfl
      · refine EV.neg (by simpa using hm) ?_
        rw [seenM_snoc _ _ _ b.1]
        refine (ih (pre ++ [x]) (by simp [h]) ?_).eq (by simp [hb])
        rw [List.nodup_append]
        refine ⟨hp, by simp, fun a ha c hc => ?_⟩
        rw [List.mem_singleton] at hc
        intro e; exact hm (by rw [← hc, ← e]; exact ha)
    · refine EV.neg (by simp only [inB, decide_eq_true_iff] at hb; simp; omega) ((EV.now _).eq ?_)
      rw [List.all_cons, show inB p.length x = false by simpa using hb]; simp
theorem impl_isPermutation_is (p : List Int) (hn : p.length < 4294967296) : EV (fun k => impl_isPermutation.f k p) (permB p) := by
  refine EV.pos (by omega) (EV.pos (by omega) ?_)
  have := impl_isPermutation_l0 p (by omega) p [] rfl List.nodup_nil
  rw [seenM_nil] at this
  exact this

theorem impl_areSheets_is (l : List (List Int)) (hn : l.length < 4294967296) (hr : ∀ r ∈ l, r.length < 4294967296) : EV (fun k => impl_areSheets.f k l) (sheetsB l) := by
  have := EV.scan (g := fun k i => impl_areSheets.l0 k l l (l.length : Int) i) l (fun r => decide (1 ≤ r.length ∧ r.length ≤ 5) && sheetB (d0 l) r) (decide (0 < l.length)) (fun i h r H1 H2 => ?_) ?_
  · refine EV.eq this ?_
    rw [Bool.eq_iff_iff]
    simp only [sheetsB, sheetB, Bool.and_eq_true, decide_eq_true_iff, List.all_eq_true]
    constructor
    · intro h
      have z := h.1 _ (List.getElem_mem h.2)
      exact ⟨h.2, by omega, fun r hr => (h.1 r hr).2⟩
    · intro h
      exact ⟨fun r hr => ⟨by have := h.2.2 r hr; omega, h.2.2 r hr⟩, h.1⟩
  · refine EV.step (fun k => by rw [impl_areSheets.l0]) ?_
    rw [rdL_nat _ _ h, w64 (x := (i : Int) + 1) (by omega) (by omega), rdL_zero]
    refine EV.pos (by omega) (EV.pos (by omega) (EV.pos (by omega) (EV.pos (by omega) ?_)))
    by_cases hl : (l[i]).length = d0 l
    · refine EV.pos (by unfold d0 at hl; omega) (EV.by (impl_within_is _ _ _) ?_)
      by_cases h5 : 1 ≤ (l[i]).length ∧ (l[i]).length ≤ 5
      · refine EV.pos (by simp; omega) (EV.bind (impl_isPermutation_is _ (hr _ (List.getElem_mem h))) ?_)
        exact EV.cases (fun c => H1 (by simp only [sheetB, c, decide_eq_true hl, decide_eq_true h5, Bool.and_self])) (fun c => (EV.now _).eq (H2 (by simp only [sheetB, show permB l[i] = false by simpa using c, Bool.and_false])).symm)
      · exact EV.neg (by simp; omega) ((EV.now _).eq (H2 (by simp only [decide_eq_false h5, Bool.false_and])).symm)
    · exact EV.neg (by unfold d0 at hl; omega) ((EV.now _).eq (H2 (by simp [sheetB, hl])).symm)
  · refine EV.step (fun k => by rw [impl_areSheets.l0]) ?_
    exact EV.neg (by omega) ((EV.now _).eq (by rw [Bool.eq_iff_iff]; simp))

theorem impl_sameInts_is (xs ys : List Int) (hn : xs.length < 4294967296) : EV (fun k => impl_sameInts.f k xs ys) (decide (xs = ys)) := by
  by_cases h : xs.length = ys.length
  · refine EV.pos (by omega) ?_
    have := EV.countB (g := fun k i => impl_sameInts.l0 k xs ys (xs.length : Int) i) xs.length (fun i => decide (xs.getD i 0 = ys.getD i 0)) true (fun i hi r H1 H2 => ?_) ?_
    · refine EV.eq this ?_
      rw [Bool.eq_iff_iff, Bool.and_true, List.all_eq_true, decide_eq_true_iff]
      constructor
      · intro hh
        apply List.ext_getElem h
        intro i h1 h2
        have := hh i (List.mem_range.2 h1)
        rw [decide_eq_true_iff] at this
        simpa [h1, h2] using this
      · intro e i _; rw [e]; simp
    · have hi' : i < ys.length := by omega
      have e1 : xs.getD i 0 = xs[i] := by simp [hi]
      have e2 : ys.getD i 0 = ys[i] := by simp [hi']
      rw [e1, e2] at H1 H2
      refine EV.step (fun k => by rw [impl_sameInts.l0]) ?_
      rw [rd_nat _ _ hi, rd_nat _ _ hi', w64 (x := (i : Int) + 1) (by omega) (by omega)]
      refine EV.pos (by omega) (EV.pos (by omega) (EV.pos (by omega) (EV.pos (by omega) ?_)))
      exact EV.cases (fun c => H1 (by simpa using c)) (fun c => (EV.now _).eq (H2 (by simpa using c)).symm)
    · refine EV.step (fun k => by rw [impl_sameInts.l0]) ?_
      exact EV.neg (by omega) (EV.now _)
  · exact EV.neg (by omega) ((EV.now _).eq (by simp; intro e; exact h (by rw [e])))

theorem impl_then_is (p q : List Int) (hp : ∀ x ∈ p, 0 ≤ x ∧ x < q.length) (hn : p.length < 4294967296) : EV (fun k => impl_then.f k p q) (thenM p q) := by
  have := EV.count (g := fun k s i => impl_then.l0 k q s p (p.length : Int) i) p.length (fun i => thenM (p.take i) q) (thenM p q) (fun i hi H => ?_) ?_
  · exact this
  · have hx := hp _ (List.getElem_mem hi)
    refine EV.step (fun k => by rw [impl_then.l0]) ?_
    rw [rd_nat _ _ hi, w64 (x := (i : Int) + 1) (by omega) (by omega)]
    refine EV.pos (by omega) (EV.pos (by omega) (EV.pos (by omega) (EV.pos hx.1 (EV.pos hx.2 (EV.pos (by simp [thenM]; omega) ?_)))))
    rw [List.take_succ_eq_append_getElem hi] at H
    have e : thenM (p.take i ++ [p[i]]) q = thenM (p.take i) q ++ [rd q p[i]] := by rw [thenM, List.map_append]; rfl
    rw [e] at H
    exact H
  · refine EV.step (fun k => by rw [impl_then.l0]) ?_
    rw [List.take_length]
    exact EV.neg (by omega) (EV.now _)

theorem impl_identity_is (n : Nat) (hn : n < 4294967296) : EV (fun k => impl_identity.f k (n : Int)) (idM n) := by
  refine EV.count (g := fun k s i => impl_identity.l0 k s (n : Int) i) n idM _ (fun i hi H => ?_) ?_
  · refine EV.step (fun k => by rw [impl_identity.l0]) ?_
    rw [w64 (x := (i : Int) + 1) (by omega) (by omega)]
    refine EV.pos (by omega) (EV.pos (by simp [idM]; omega) ?_)
    simpa [idM, List.range_succ] using H
  · refine EV.step (fun k => by rw [impl_identity.l0]) ?_
    exact EV.neg (by omega) (EV.now _)

theorem impl_product_is (l : List (List Int)) (hs : sheetsB l = true) (hn : l.length < 4294967296) : EV (fun k => impl_product.f k l) (l.foldl thenM (idM (d0 l))) := by
  have S := sheetsB_of hs
  refine EV.pos (by omega) (EV.bind (a := idM (d0 l)) ?_ ?_)
  · rw [rdL_zero]; exact impl_identity_is (d0 l) (by omega)
  · refine EV.fold (g := fun k s i => impl_product.l0 k s l (l.length : Int) i) l thenM id (fun _ s => s.length = d0 l ∧ ∀ x ∈ s, 0 ≤ x ∧ x < d0 l) (fun i h s r hI H => ?_) (fun s hI => ?_) _ (idM_I _)
    · have row := S.2.2.2 _ (List.getElem_mem h)
      have hp := (permB_of row.2).1
      have H := H (thenM_I hI ⟨row.1, by rw [row.1] at hp; exact hp⟩)
      refine EV.step (fun k => by rw [impl_product.l0]) ?_
      rw [rdL_nat _ _ h, w64 (x := (i : Int) + 1) (by omega) (by omega)]
      exact EV.pos (by omega) (EV.pos (by omega) (EV.pos (by omega) (EV.bind (impl_then_is s _ (by rw [row.1]; exact hI.2) (by omega)) H)))
    · refine EV.step (fun k => by rw [impl_product.l0]) ?_
      exact EV.neg (by omega) (EV.now _)

theorem impl_IsPassport_is (l : List (List Int)) (hn : l.length < 4294967296) (hr : ∀ r ∈ l, r.length < 4294967296) : EV (fun k => impl_IsPassport.f k l) (passB l) := by
  have no : EV (fun k => impl_IsPassport.j0 k l true) false := by
    refine EV.step (fun k => by rw [impl_IsPassport.j0]) ?_
    exact EV.pos rfl (EV.now _)
  unfold passB
  refine EV.by (impl_within_is _ _ _) ?_
  by_cases h1 : 1 ≤ l.length ∧ l.length ≤ 5
  · refine EV.pos (by simp; omega) (EV.bind (impl_areSheets_is l hn hr) ?_)
    rw [decide_eq_true h1, Bool.true_and]
    by_cases h2 : sheetsB l = true
    · have S := sheetsB_of h2
      rw [h2, Bool.true_and]
      refine EV.step (fun k => by rw [impl_IsPassport.j0]) ?_
      refine EV.neg (by simp) (EV.bind (impl_product_is l h2 hn) (EV.pos (by omega) (EV.bind (a := idM (d0 l)) ?_ ?_)))
      · rw [rdL_zero]; exact impl_identity_is (d0 l) (by omega)
      · have e : l.foldl thenM (idM (d0 l)) = actL l (lettersM l.length) := by rw [← product_eq, actK_eq]; rfl
        rw [e]
        exact EV.bind (impl_sameInts_is _ _ (by rw [actL_len]; omega)) (EV.now _)
    · rw [show sheetsB l = false by simpa using h2, Bool.false_and]; exact no
  · refine EV.neg (by simp; omega) ?_
    rw [decide_eq_false h1, Bool.false_and]; exact no

theorem impl_copyOf_is (w : List Int) (hn : w.length < 4294967296) : impl_copyOf.f w = some w := by
  unfold impl_copyOf.f
  simp only [Option.bind_some]
  rw [if_pos (by simp; omega)]; simp

theorem impl_copyRows_is (l : List (List Int)) (hn : l.length ≤ 1048576) (hr : ∀ r ∈ l, r.length ≤ 1048576) : EV (fun k => impl_copyRows.f k l) l := by
  refine EV.count (g := fun k s i => impl_copyRows.l0 k s l (l.length : Int) i) l.length (fun i => l.take i) _ (fun i hi H => ?_) ?_
  · have := hr _ (List.getElem_mem hi)
    refine EV.step (fun k => by rw [impl_copyRows.l0]) ?_
    rw [rdL_nat _ _ hi, w64 (x := (i : Int) + 1) (by omega) (by omega)]
    refine EV.pos (by omega) (EV.pos (by omega) (EV.pos (by omega) (EV.by (impl_copyOf_is _ (by omega)) (EV.pos (by simp; omega) ?_))))
    rw [List.take_succ_eq_append_getElem hi] at H
    exact H
  · refine EV.step (fun k => by rw [impl_copyRows.l0]) ?_
    rw [List.take_length]
    exact EV.neg (by omega) (EV.now _)

theorem impl_inversePermutation_is (p : List Int) (hp : ∀ x ∈ p, 0 ≤ x ∧ x < p.length) (hn : p.length < 4294967296) : EV (fun k => impl_inversePermutation.f k p) (invM p) := by
  refine EV.pos (by omega) (EV.pos (by omega) ?_)
  refine EV.count (g := fun k s i => impl_inversePermutation.l0 k s p (p.length : Int) i) p.length (invK p) _ (fun i hi H => ?_) ?_
  · have hx := hp _ (List.getElem_mem hi)
    have hl : (invK p i).length = p.length := (invK_I p (by omega) i (by omega)).1
    refine EV.step (fun k => by rw [impl_inversePermutation.l0]) ?_
    rw [rd_nat _ _ hi, w64 (x := (i : Int) + 1) (by omega) (by omega)]
    refine EV.pos (by omega) (EV.pos (by omega) (EV.pos (by omega) (EV.pos (by omega) (EV.pos (by omega) ?_))))
    rw [invK_succ] at H
    have e : p.getD i 0 = p[i] := by simp [hi]
    rw [e] at H
    exact H
  · refine EV.step (fun k => by rw [impl_inversePermutation.l0]) ?_
    exact EV.neg (by omega) (EV.now _)

theorem impl_BraidPassport_is (l : List (List Int)) (i : Int) (wi : (Lit.int .i64 i).wf = true) (hn : l.length ≤ 1048576) (hr : ∀ r ∈ l, r.length ≤ 1048576) : EV (fun k => impl_BraidPassport.f k l i) (brM l i) := by
  have no : EV (fun k => impl_BraidPassport.j0 k l i true) ([], false) := by
    refine EV.step (fun k => by rw [impl_BraidPassport.j0]) ?_
    exact EV.pos rfl (EV.now _)
  have hr' : ∀ r ∈ l, r.length < 4294967296 := fun r h => by have := hr r h; omega
  unfold brM
  refine EV.bind (impl_IsPassport_is l (by omega) hr') ?_
  by_cases h1 : passB l = true
  · have P := passB_of h1
    have S := sheetsB_of P.2
    rw [w64 (x := (l.length : Int) - 2) (by omega) (by omega)]
    refine EV.pos h1 (EV.by (impl_within_is _ _ _) ?_)
    by_cases h2 : 0 ≤ i ∧ i ≤ (l.length : Int) - 2
    · rw [if_pos ⟨h1, h2⟩, show (!decide (0 ≤ i ∧ i ≤ (l.length : Int) - 2)) = false by simp [h2]]
      have hi : i.toNat < l.length := by omega
      have hi1 : i.toNat + 1 < l.length := by omega
      have er : rd_L1 l i = l[i.toNat] := by
        have := rdL_nat l i.toNat hi
        rwa [show ((i.toNat : Nat) : Int) = i by omega] at this
      have er1 : rd_L1 l (i + 1) = l[i.toNat + 1] := by
        have := rdL_nat l (i.toNat + 1) hi1
        rwa [show ((i.toNat + 1 : Nat) : Int) = i + 1 by omega] at this
      have ra := S.2.2.2 _ (List.getElem_mem hi)
      have rb := S.2.2.2 _ (List.getElem_mem hi1)
      have pa := (permB_of ra.2).1
      have pb := (permB_of rb.2).1
      rw [ra.1] at pa
      rw [rb.1] at pb
      have iv := invK_I l[i.toNat] (by omega) _ (Nat.le_refl _)
      rw [ra.1] at iv
      have iv' : (invM l[i.toNat]).length = d0 l ∧ ∀ x ∈ invM l[i.toNat], 0 ≤ x ∧ x < d0 l := by unfold invM; rw [ra.1]; exact iv
      have t1 := thenM_I ⟨ra.1, pa⟩ ⟨rb.1, pb⟩
      have e1 : stepP l (i + 1) = l[i.toNat] := by
        unfold stepP
        rw [if_neg (by omega), show (i + 1).natAbs - 1 = i.toNat by omega]
        simp [hi]
      have e2 : stepP l (i + 2) = l[i.toNat + 1] := by
        unfold stepP
        rw [if_neg (by omega), show (i + 2).natAbs - 1 = i.toNat + 1 by omega]
        simp [hi1]
      have e3 : stepP l (-i - 1) = invM l[i.toNat] := by
        unfold stepP
        rw [if_pos (by omega), show (-i - 1).natAbs - 1 = i.toNat by omega]
        simp [hi]
      have eid : thenM (idM (d0 l)) l[i.toNat] = l[i.toNat] := by
        apply List.ext_getElem
        · simp [thenM, idM]; omega
        · intro j h1 h2
          simp [thenM, idM, h2]
      have ea : actL l [i + 1, i + 2, -i - 1] = thenM (thenM l[i.toNat] l[i.toNat + 1]) (invM l[i.toNat]) := by
        have : actL l [i + 1, i + 2, -i - 1] = actK l [i + 1, i + 2, -i - 1] (idM (d0 l)) := by rw [actK_eq]; rfl
        rw [this]
        simp only [actK, List.foldl_cons, List.foldl_nil, e1, e2, e3, eid]
      refine EV.step (fun k => by rw [impl_BraidPassport.j0]) ?_
      rw [w64 (x := i + 1) (by omega) (by omega)]
      refine EV.neg (by simp) (EV.bind (impl_copyRows_is l hn hr) (EV.pos h2.1 (EV.pos (by omega) (EV.pos (by omega) (EV.pos (by omega) ?_)))))
      rw [er, er1]
      refine EV.bind (impl_then_is _ _ (by rw [rb.1]; exact pa) (by omega)) (EV.bind (impl_inversePermutation_is _ (by rw [ra.1]; exact pa) (by omega)) (EV.bind (impl_then_is _ _ (by rw [iv'.1]; exact t1.2) (by rw [t1.1]; omega)) ((EV.now _).eq ?_)))
      rw [ea, show (i + 1).toNat = i.toNat + 1 by omega, show l.getD i.toNat [] = l[i.toNat] by simp [hi]]
    · rw [if_neg (fun c => h2 c.2), show (!decide (0 ≤ i ∧ i ≤ (l.length : Int) - 2)) = true by simp; omega]
      exact no
  · rw [if_neg (fun c => h1 c.1)]
    exact EV.neg h1 no

theorem laws_eqIntS_l0 (xs ys : List Int) (hn : xs.length < 4611686018427387904) : ∀ (suf suf' pre : List Int), pre.length + suf.length = xs.length → pre.length + suf'.length = ys.length → suf.length = suf'.length → xs.drop pre.length = suf → ys.drop pre.length = suf' →
    EV (fun k => laws_eqIntS.l0 k xs ys (pre.length : Int)) (decide (suf = suf')) := by
  intro suf
  induction suf with
  | nil =>
    intro suf' pre h1 h2 h3 h4 h5
    have : suf' = [] := List.eq_nil_of_length_eq_zero (by simpa using h3.symm)
    subst this
    refine EV.step (fun k => by rw [laws_eqIntS.l0]) ?_
    refine (EV.neg ?_ ((EV.now _).eq (by simp)))
    simp at h1; omega
  | cons x suf ih =>
    intro suf' pre h1 h2 h3 h4 h5
    obtain ⟨y, suf', rfl⟩ : ∃ y t, suf' = y :: t := by
      cases suf' with
      | nil => simp at h3
      | cons y t => exact ⟨y, t, rfl⟩
    simp only [List.length_cons] at h1 h2 h3
    have hl : pre.length < 4611686018427387904 := by omega
    have hx : rd xs (pre.length : Int) = x := by
      rw [rd_nat _ _ (by omega)]
      have := List.getElem_drop (xs := xs) (i := pre.length) (j := 0) (h := by simp; omega)
      simp only [h4] at this; simpa using this.symm
    have hy : rd ys (pre.length : Int) = y := by
      rw [rd_nat _ _ (by omega)]
      have := List.getElem_drop (xs := ys) (i := pre.length) (j := 0) (h := by simp; omega)
      simp only [h5] at this; simpa using this.symm
    refine EV.step (fun k => by rw [laws_eqIntS.l0]) ?_
    refine (EV.pos (by omega) (EV.pos (by omega) (EV.pos (by omega) ?_)))
    rw [hx, hy, up (x := x) hl]
    by_cases hs : x = y
    · refine EV.pos hs ((ih suf' _ (by simp; omega) (by simp; omega) (by omega) ?_ ?_).eq (by simp [hs]))
      · rw [List.length_append, ← List.drop_drop, h4]; rfl
      · rw [List.length_append, ← List.drop_drop, h5]; rfl
    · exact (EV.neg hs (EV.now _)).eq (by simp [hs])
theorem laws_eqIntS_is (xs ys : List Int) (hn : xs.length < 4611686018427387904) : EV (fun k => laws_eqIntS.f k xs ys) (decide (xs = ys)) := by
  by_cases h : xs.length = ys.length
  · exact EV.pos (by omega) (laws_eqIntS_l0 xs ys hn xs ys [] (by simp) (by simp) h rfl rfl)
  · exact (EV.neg (by omega) (EV.now _)).eq (by simp; intro e; exact h (by rw [e]))
theorem laws_eqIntS_self (xs : List Int) (hn : xs.length < 4611686018427387904) : EV (fun k => laws_eqIntS.f k xs xs) true := (laws_eqIntS_is xs xs hn).eq (by simp)

theorem laws_eqIntSS_l0 (xs : List (List Int)) (hn : xs.length < 4611686018427387904) (hr : ∀ r ∈ xs, r.length < 4611686018427387904) : ∀ (suf pre : List (List Int)), xs = pre ++ suf →
    EV (fun k => laws_eqIntSS.l0 k xs xs (pre.length : Int)) true := by
  intro suf
  induction suf with
  | nil =>
    intro pre h
    refine EV.step (fun k => by rw [laws_eqIntSS.l0]) ?_
    exact EV.neg (by subst h; simp) (EV.now _)
  | cons x suf ih =>
    intro pre h
    have hl : pre.length < 4611686018427387904 := by subst h; simp at hn; omega
    have hlt : (pre.length : Int) < (xs.length : Int) := by subst h; exact lt_app ..
    have hx : rd_L1 xs (pre.length : Int) = x := by subst h; exact rdL_app ..
    have hx' : x.length < 4611686018427387904 := hr x (by subst h; simp)
    refine EV.step (fun k => by rw [laws_eqIntSS.l0]) ?_
    rw [hx, up (x := x) hl]
    refine EV.pos hlt (EV.pos (by omega) (EV.pos (by omega) (EV.bind (laws_eqIntS_self x hx') (EV.pos rfl ?_))))
    exact ih (pre ++ [x]) (by simp [h])
theorem laws_eqIntSS_self (xs : List (List Int)) (hn : xs.length < 4611686018427387904) (hr : ∀ r ∈ xs, r.length < 4611686018427387904) : EV (fun k => laws_eqIntSS.f k xs xs) true :=
  EV.pos rfl (laws_eqIntSS_l0 xs hn hr xs [] rfl)

theorem laws_markIntS_l0 : ∀ (suf pre : List Int) (k : Int), pre.length + suf.length < 4611686018427387904 → 0 ≤ k → k + suf.length < 4611686018427387904 →
    EV (fun r => laws_markIntS.l0 r (pre ++ suf) k (pre.length : Int)) (k + suf.length, pre ++ marks suf.length k) := by
  intro suf
  induction suf with
  | nil =>
    intro pre k h1 h2 h3
    refine EV.step (fun r => by rw [laws_markIntS.l0]) ?_
    exact EV.neg (by simp) ((EV.now _).eq (by simp [marks]))
  | cons x suf ih =>
    intro pre k h1 h2 h3
    simp only [List.length_cons] at h1 h3
    refine EV.step (fun r => by rw [laws_markIntS.l0]) ?_
    refine EV.pos (lt_app ..) (EV.pos (by omega) ?_)
    rw [set_app _ _ _ _ _ (by simp), up (x := k) (by omega), w64 (by omega) (by omega)]
    have := ih (pre ++ [k]) (k + 1) (by simp; omega) (by omega) (by omega)
    simp only [List.append_assoc, List.cons_append, List.nil_append] at this
    refine this.eq ?_
    simp [marks]; omega
theorem laws_markIntS_is (xs : List Int) (k : Int) (h1 : xs.length < 2305843009213693952) (h2 : 0 ≤ k) (h3 : k < 2305843009213693952) : EV (fun r => laws_markIntS.f r xs k) (k + xs.length, marks xs.length k) :=
  laws_markIntS_l0 xs [] k (by simp; omega) h2 (by omega)

theorem laws_heldIntS_l0 : ∀ (n : Nat) (pre : List Int) (k : Int), pre.length + n < 4611686018427387904 → 0 ≤ k → k + n < 4611686018427387904 →
    EV (fun r => laws_heldIntS.l0 r (pre ++ marks n k) k (pre.length : Int)) (k + n) := by
  intro n
  induction n with
  | zero =>
    intro pre k h1 h2 h3
    refine EV.step (fun r => by rw [laws_heldIntS.l0]) ?_
    exact EV.neg (by simp [marks]) ((EV.now _).eq (by simp))
  | succ n ih =>
    intro pre k h1 h2 h3
    refine EV.step (fun r => by rw [laws_heldIntS.l0]) ?_
    rw [marks]
    refine EV.pos (lt_app ..) (EV.pos (by omega) (EV.pos (rd_app ..) ?_))
    rw [up (x := k) (by omega), w64 (by omega) (by omega)]
    have := ih (pre ++ [k]) (k + 1) (by simp; omega) (by omega) (by omega)
    simp only [List.append_assoc, List.cons_append, List.nil_append] at this
    refine this.eq (by omega)
theorem laws_heldIntS_is (n : Nat) (k : Int) (h1 : n < 2305843009213693952) (h2 : 0 ≤ k) (h3 : k < 2305843009213693952) : EV (fun r => laws_heldIntS.f r (marks n k) k) (k + n) :=
  laws_heldIntS_l0 n [] k (by simp; omega) h2 (by omega)

theorem laws_heldIntSS_l0 : ∀ (suf pre : List (List Int)) (k : Int), pre.length + suf.length < 4611686018427387904 → 0 ≤ k → k + total suf < 2305843009213693952 →
    EV (fun r => laws_heldIntSS.l0 r (pre ++ marksL suf k) k (pre.length : Int)) (k + total suf) := by
  intro suf
  induction suf with
  | nil =>
    intro pre k h1 h2 h3
    refine EV.step (fun r => by rw [laws_heldIntSS.l0]) ?_
    exact EV.neg (by simp [marksL]) ((EV.now _).eq (by simp [total]))
  | cons x suf ih =>
    intro pre k h1 h2 h3
    simp only [List.length_cons, total] at h1 h3
    refine EV.step (fun r => by rw [laws_heldIntSS.l0]) ?_
    rw [marksL, rdL_app, up (x := x) (by omega)]
    refine EV.pos (lt_app ..) (EV.pos (by omega) (EV.bind (laws_heldIntS_is x.length k (by omega) h2 (by omega)) (EV.neg (by omega) ?_)))
    have := ih (pre ++ [marks x.length k]) (k + x.length) (by simp; omega) (by omega) (by omega)
    simp only [List.append_assoc, List.cons_append, List.nil_append] at this
    refine EV.congr (fun r => ?_) (this.eq ?_)
    · simp
    · simp only [total]; omega
theorem laws_heldIntSS_is (xs : List (List Int)) (k : Int) (h1 : xs.length < 2305843009213693952) (h2 : 0 ≤ k) (h3 : k + total xs < 2305843009213693952) : EV (fun r => laws_heldIntSS.f r (marksL xs k) k) (k + total xs) :=
  laws_heldIntSS_l0 xs [] k (by simp; omega) h2 h3

theorem laws_markIntSS_l0 : ∀ (suf pre : List (List Int)) (k : Int), pre.length + suf.length < 4611686018427387904 → 0 ≤ k → k + total suf < 2305843009213693952 →
    EV (fun r => laws_markIntSS.l0 r (pre ++ suf) k (pre.length : Int)) (k + total suf, pre ++ marksL suf k) := by
  intro suf
  induction suf with
  | nil =>
    intro pre k h1 h2 h3
    refine EV.step (fun r => by rw [laws_markIntSS.l0]) ?_
    exact EV.neg (by simp) ((EV.now _).eq (by simp [marksL, total]))
  | cons x suf ih =>
    intro pre k h1 h2 h3
    simp only [List.length_cons, total] at h1 h3
    refine EV.step (fun r => by rw [laws_markIntSS.l0]) ?_
    rw [rdL_app, up (x := x) (by omega)]
    refine EV.pos (lt_app ..) (EV.pos (by omega) (EV.bind (laws_markIntS_is x k (by omega) h2 (by omega)) ?_))
    rw [set_app _ _ _ _ _ (by simp)]
    have := ih (pre ++ [marks x.length k]) (k + x.length) (by simp; omega) (by omega) (by omega)
    simp only [List.append_assoc, List.cons_append, List.nil_append, List.length_append, List.length_cons, List.length_nil] at this
    refine EV.congr (fun r => ?_) (this.eq ?_)
    · simp
    · simp only [marksL, total]; congr 1; omega
theorem laws_markIntSS_is (xs : List (List Int)) (k : Int) (h1 : xs.length < 2305843009213693952) (h2 : 0 ≤ k) (h3 : k + total xs < 2305843009213693952) : EV (fun r => laws_markIntSS.f r xs k) (k + total xs, marksL xs k) :=
  laws_markIntSS_l0 xs [] k (by simp; omega) h2 h3

theorem both (l : List (List Int)) (w : ∀ r ∈ l, r.length ≤ maxLen ∧ ∀ x ∈ r, (Lit.int .i64 x).wf = true) (n : l.length + total l ≤ 1048576) (i : Int) (wi : (Lit.int .i64 i).wf = true) :
    ∃ (R : List (List Int)) (b : Bool), EV (fun k => spec_BraidPassport.f k l i) (R, b) ∧ EV (fun k => impl_BraidPassport.f k l i) (R, b) ∧ R.length ≤ 4194304 ∧ total R ≤ 4194304 := by
  have h1 : ∀ r ∈ l, r.length ≤ 1048576 := fun r hr => by have := total_mem hr; omega
  have z := brM_sz l i
  have z2 := total_le5 z.2
  exact ⟨(brM l i).1, (brM l i).2, spec_BraidPassport_is l i wi (by omega) h1, impl_BraidPassport_is l i wi (by omega) h1, by omega, by omega⟩

/-- what the walk asks, out of what the two functions answer -/
theorem FnExactBraidPassport (l0 : List (List Int)) (x0 : l0.length ≤ maxLen) (w0 : ∀ r ∈ l0, r.length ≤ maxLen ∧ ∀ x ∈ r, (Lit.int .i64 x).wf = true) (a1 : Int) (w1 : (Lit.int .i64 a1).wf = true) : ∃ k, Facts k l0 a1 := by
  have e0 := laws_szIntSS_is l0 (1048576) (by omega) (by omega) (by unfold maxLen at x0; omega) (fun r hr => by have := (w0 r hr).1; unfold maxLen at this; omega)
  unfold szM at e0
  by_cases g0 : ((l0.length : Int) + total l0 ≤ 1048576)
  rotate_left
  · rw [if_neg g0] at e0
    exact (Evt.imp (Evt.and (e0.evt) (Evt.const (show (-1 : Int) < 0 by omega))) (fun k h => Or.inl (⟨_, h⟩))).rounds
  rw [if_pos g0] at e0
  have n0 : l0.length + total l0 ≤ 1048576 := by omega
  have r0 : ∀ r ∈ l0, r.length ≤ 1048576 := fun r hr => by have := total_mem hr; omega
  obtain ⟨R, b, S, I, hR⟩ := both l0 w0 n0 a1 w1
  have hRr : ∀ r ∈ R, r.length ≤ 4194304 := fun r hr => by have := total_mem hr; omega
  exact (Evt.imp (Evt.and (e0.evt) (Evt.and (Evt.const (show (0 : Int) ≤ (1048576 - l0.length - total l0) by omega)) (Evt.and ((laws_toIntSS_is l0 (by omega) r0).evt) (Evt.and (S.evt) (Evt.and (I.evt) (Evt.and ((laws_eqIntSS_self R (by omega) (fun r hr => by have := hRr r hr; omega)).evt) (Evt.and ((laws_eqIntSS_self l0 (by omega) (fun r hr => by have := r0 r hr; omega)).evt) (Evt.and ((laws_markIntSS_is l0 1 (by omega) (by omega) (by omega)).evt) (Evt.and (Evt.const (show (0 : Int) ≤ (1 + total l0) by omega)) (Evt.and ((laws_markIntSS_is R 1 (by omega) (by omega) (by omega)).evt) (Evt.and ((laws_heldIntSS_is R 1 (by omega) (by omega) (by omega)).evt) (Evt.const (show (0 : Int) ≤ (1 + total R) by omega))))))))))))) (fun k h => Or.inr (⟨_, R, b, ((1 + total l0)), (marksL l0 1), ((1 + total R)), (marksL R 1), h⟩))).rounds

end Go.Proofs.Ytmhfgjfgaodhoaa.Pure
