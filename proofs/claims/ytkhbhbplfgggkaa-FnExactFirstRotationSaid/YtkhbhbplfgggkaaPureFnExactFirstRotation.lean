/- Pure side of FnExactFirstRotation: the printed functions of the program and of the reference answer alike at every input that the statement takes; no condition beyond the printed statement's bounds. -/
import Derived.Test.YtkhbhbplfgggkaaVFnExactFirstRotation
import Derived.Test.YtkhbhbplfgggkaaWSized
set_option linter.unusedVariables false
set_option linter.unusedSimpArgs false
set_option linter.unnecessarySimpa false
set_option maxRecDepth 10000
/-- the printed row calls the print's word by this name -/
abbrev Go.Proofs.Ytkhbhbplfgggkaa.PrintWords.sized_ints := @Go.Proofs.YtkhbhbplfgggkaaW.PrintWords.sized_ints
namespace Go.Proofs.Ytkhbhbplfgggkaa.Pure
open Go.RowKit Go.Proofs.Ytkhbhbplfgggkaa.PFnExactFirstRotation Go.Proofs.YtkhbhbplfgggkaaW.PrintWords Go.Proofs.YtkhbhbplfgggkaaW.PrintLast Go.Proofs.YtkhbhbplfgggkaaW.PrintMore
open Go.Proofs.Ytkhbhbplfgggkaa.VFnExactFirstRotation

/-! ### Base: words of our own, of no program -/
section
theorem w64 {x : Int} (h1 : -9223372036854775808 ≤ x) (h2 : x ≤ 9223372036854775807) : wrap64 x = x := by
  unfold wrap64; omega
theorem wf64 {x : Int} (h : (Lit.int .i64 x).wf = true) : -9223372036854775808 ≤ x ∧ x ≤ 9223372036854775807 := by
  simp only [Lit.wf, IntKind.min, IntKind.max, IntKind.signed, IntKind.bits, Bool.and_eq_true, decide_eq_true_eq, if_true] at h
  omega
/-- from some number of rounds on it answers r -/
structure EV {α : Type} (g : Nat → Option α) (r : α) : Prop where mk :: (out : ∃ K, ∀ k, K ≤ k → g k = some r)
theorem EV.now {α : Type} (r : α) : EV (fun _ => some r) r := ⟨0, fun _ _ => rfl⟩
theorem EV.rounds {α : Type} {g : Nat → Option α} {r : α} (h : EV g r) : ∃ k, g k = some r := by
  obtain ⟨K, h⟩ := h
  exact ⟨K, h K (Nat.le_refl _)⟩
theorem EV.bind {α β : Type} {g : Nat → Option α} {f : Nat → α → Option β} {a : α} {r : β} (h : EV g a) (k : EV (fun n => f n a) r) : EV (fun n => (g n).bind (f n)) r := by
  obtain ⟨K, h⟩ := h
  obtain ⟨K', k⟩ := k
  refine ⟨max K K', fun n hn => ?_⟩
  have h1 := h n (by omega)
  have h2 := k n (by omega)
  simp only [h1, Option.bind_some]
  exact h2
theorem EV.step {α : Type} {g f : Nat → Option α} {r : α} (h : ∀ k, g (k + 1) = f k) (k : EV f r) : EV g r := by
  obtain ⟨K, k⟩ := k
  refine ⟨K + 1, fun n hn => ?_⟩
  obtain ⟨m, rfl⟩ : ∃ m, n = m + 1 := ⟨n - 1, by omega⟩
  rw [h]
  exact k m (by omega)
theorem EV.congr {α : Type} {g f : Nat → Option α} {r : α} (h : ∀ k, g k = f k) (k : EV f r) : EV g r := by
  obtain ⟨K, k⟩ := k
  exact ⟨K, fun n hn => (h n).trans (k n hn)⟩
theorem EV.pos {α : Type} {c : Prop} [Decidable c] {a b : Nat → Option α} {r : α} (h : c) (k : EV a r) : EV (fun n => if c then a n else b n) r :=
  EV.congr (fun n => if_pos h) k
theorem EV.neg {α : Type} {c : Prop} [Decidable c] {a b : Nat → Option α} {r : α} (h : ¬ c) (k : EV b r) : EV (fun n => if c then a n else b n) r :=
  EV.congr (fun n => if_neg h) k
theorem EV.cases {α : Type} {c : Prop} [Decidable c] {a b : Nat → Option α} {r : α} (h : c → EV a r) (h' : ¬ c → EV b r) : EV (fun n => if c then a n else b n) r := by
  by_cases hc : c
  · exact EV.pos hc (h hc)
  · exact EV.neg hc (h' hc)
/-- a callee without rounds -/
theorem EV.by {α β : Type} {g : Option α} {f : Nat → α → Option β} {a : α} {r : β} (h : g = some a) (k : EV (fun n => f n a) r) : EV (fun n => g.bind (f n)) r := by
  subst h; exact k
theorem EV.is {α : Type} {g : Option α} {r : α} (h : g = some r) : EV (fun _ => g) r := ⟨0, fun _ _ => h⟩
theorem EV.eq {α : Type} {g : Nat → Option α} {r r' : α} (h : EV g r) (e : r = r') : EV g r' := e ▸ h
theorem rd_app (pre : List Int) (x : Int) (suf : List Int) : rd (pre ++ x :: suf) (pre.length : Int) = x := by
  simp [rd]
theorem rd_nat (xs : List Int) (i : Nat) (h : i < xs.length) : rd xs (i : Int) = xs[i] := by
  simp [rd, h]
theorem set_app {α : Type} (pre : List α) (x y : α) (suf : List α) (n : Nat) (hn : n = pre.length) : (pre ++ x :: suf).set n y = pre ++ y :: suf := by
  subst hn; simp
end
def smallB (x : Int) : Bool := decide (-1000 ≤ x ∧ x ≤ 1000)
/-- one index on -/
theorem up {α : Type} {x : α} {pre : List α} (h : pre.length < 4611686018427387904) : wrap64 ((pre.length : Int) + 1) = ((pre ++ [x]).length : Int) := by
  rw [w64 (by omega) (by omega)]; simp
theorem lt_app {α : Type} (pre : List α) (x : α) (suf : List α) : (pre.length : Int) < ((pre ++ x :: suf).length : Int) := by simp; omega
def classB (g : Int) (xs : List Int) : Bool := decide (1 ≤ g ∧ g ≤ 3) && (decide ((xs.length : Int) = 2 * g) && xs.all smallB)
theorem EV.uniq {α : Type} {g : Nat → Option α} {r r' : α} (h : EV g r) (h' : EV g r') : r = r' := by
  obtain ⟨K, h⟩ := h
  obtain ⟨K', h'⟩ := h'
  have a := h (max K K') (by omega)
  have b := h' (max K K') (by omega)
  rw [a] at b; exact Option.some.inj b
/-- from some number of rounds on -/
def Evt (P : Nat → Prop) : Prop := ∃ K, ∀ k, K ≤ k → P k
theorem Evt.and {P Q : Nat → Prop} (h : Evt P) (h' : Evt Q) : Evt (fun k => P k ∧ Q k) := by
  obtain ⟨K, h⟩ := h
  obtain ⟨K', h'⟩ := h'
  exact ⟨max K K', fun k hk => ⟨h k (by omega), h' k (by omega)⟩⟩
theorem Evt.const {p : Prop} (h : p) : Evt (fun _ => p) := ⟨0, fun _ _ => h⟩
theorem EV.evt {α : Type} {g : Nat → Option α} {r : α} (h : EV g r) : Evt (fun k => g k = some r) := h.out
theorem Evt.imp {P Q : Nat → Prop} (h : Evt P) (f : ∀ k, P k → Q k) : Evt Q := by
  obtain ⟨K, h⟩ := h
  exact ⟨K, fun k hk => f k (h k hk)⟩
theorem Evt.rounds {P : Nat → Prop} (h : Evt P) : ∃ k, P k := by
  obtain ⟨K, h⟩ := h
  exact ⟨K, h K (Nat.le_refl _)⟩
theorem EV.mono {α : Type} {g : Nat → Option α} (hg : ∀ k, LeO (g k) (g (k + 1))) {k : Nat} {r : α} (h : g k = some r) : EV g r := ⟨k, fun _ hk => at_rounds hg hk h⟩

theorem laws_eqIntS_l0 (xs ys : List Int) (hn : xs.length < 4611686018427387904) : ∀ (suf suf' pre : List Int), pre.length + suf.length = xs.length → pre.length + suf'.length = ys.length → suf.length = suf'.length → xs.drop pre.length = suf → ys.drop pre.length = suf' →
    EV (fun k => laws_eqIntS.l0 k xs ys (pre.length : Int)) (decide (suf = suf')) := by
  intro suf
  induction suf with
  | nil =>
    intro suf' pre h1 h2 h3 h4 h5
    have : suf' = [] := List.eq_nil_of_length_eq_zero (by simpa using h3.symm)
    subst this
    refine EV.step (fun k => by rw [laws_eqIntS.l0]) ?_
    refine (EV.neg ?_ ((EV.now _).eq (by simp)))
    simp at h1; omega
  | cons x suf ih =>
    intro suf' pre h1 h2 h3 h4 h5
    obtain ⟨y, suf', rfl⟩ : ∃ y t, suf' = y :: t := by
      cases suf' with
      | nil => simp at h3
      | cons y t => exact ⟨y, t, rfl⟩
    simp only [List.length_cons] at h1 h2 h3
    have hl : pre.length < 4611686018427387904 := by omega
    have hx : rd xs (pre.length : Int) = x := by
      rw [rd_nat _ _ (by omega)]
      have := List.getElem_drop (xs := xs) (i := pre.length) (j := 0) (h := by simp; omega)
      simp only [h4] at this; simpa using this.symm
    have hy : rd ys (pre.length : Int) = y := by
      rw [rd_nat _ _ (by omega)]
      have := List.getElem_drop (xs := ys) (i := pre.length) (j := 0) (h := by simp; omega)
      simp only [h5] at this; simpa using this.symm
    refine EV.step (fun k => by rw [laws_eqIntS.l0]) ?_
    refine (EV.pos (by omega) (EV.pos (by omega) (EV.pos (by omega) ?_)))
    rw [hx, hy, up (x := x) hl]
    by_cases hs : x = y
    · refine EV.pos hs ((ih suf' _ (by simp; omega) (by simp; omega) (by omega) ?_ ?_).eq (by simp [hs]))
      · rw [List.length_append, ← List.drop_drop, h4]; rfl
      · rw [List.length_append, ← List.drop_drop, h5]; rfl
    · exact (EV.neg hs (EV.now _)).eq (by simp [hs])
theorem laws_eqIntS_is (xs ys : List Int) (hn : xs.length < 4611686018427387904) : EV (fun k => laws_eqIntS.f k xs ys) (decide (xs = ys)) := by
  by_cases h : xs.length = ys.length
  · exact EV.pos (by omega) (laws_eqIntS_l0 xs ys hn xs ys [] (by simp) (by simp) h rfl rfl)
  · exact (EV.neg (by omega) (EV.now _)).eq (by simp; intro e; exact h (by rw [e]))
theorem laws_eqIntS_self (xs : List Int) (hn : xs.length < 4611686018427387904) : EV (fun k => laws_eqIntS.f k xs xs) true := (laws_eqIntS_is xs xs hn).eq (by simp)

def marks : Nat → Int → List Int
  | 0, _ => []
  | n + 1, k => k :: marks n (k + 1)
theorem marks_length (n : Nat) : ∀ k, (marks n k).length = n := by
  induction n with
  | zero => intro k; rfl
  | succ n ih => intro k; simp [marks, ih]

theorem rdL_app (pre : List (List Int)) (x : List Int) (suf : List (List Int)) : rd_L1 (pre ++ x :: suf) (pre.length : Int) = x := by
  simp [rd_L1]
theorem rdL_nat (xs : List (List Int)) (i : Nat) (h : i < xs.length) : rd_L1 xs (i : Int) = xs[i] := by
  simp [rd_L1, h]

def total : List (List Int) → Nat
  | [] => 0
  | r :: rs => r.length + total rs
def marksL : List (List Int) → Int → List (List Int)
  | [], _ => []
  | r :: rs, k => marks r.length k :: marksL rs (k + r.length)
theorem total_mem {r : List Int} : ∀ {xs : List (List Int)}, r ∈ xs → r.length ≤ total xs
  | [], h => by cases h
  | x :: xs, h => by
    rcases List.mem_cons.1 h with rfl | h
    · simp [total]
    · have := total_mem h; simp only [total]; omega
theorem marksL_length : ∀ (xs : List (List Int)) (k : Int), (marksL xs k).length = xs.length
  | [], _ => rfl
  | x :: xs, k => by simp [marksL, marksL_length xs]
/-- what szIntSS answers -/
def szM (xs : List (List Int)) (left : Int) : Int := if (xs.length : Int) + total xs ≤ left then left - xs.length - total xs else -1

theorem laws_eqIntSS_l0 (xs : List (List Int)) (hn : xs.length < 4611686018427387904) (hr : ∀ r ∈ xs, r.length < 4611686018427387904) : ∀ (suf pre : List (List Int)), xs = pre ++ suf →
    EV (fun k => laws_eqIntSS.l0 k xs xs (pre.length : Int)) true := by
  intro suf
  induction suf with
  | nil =>
    intro pre h
    refine EV.step (fun k => by rw [laws_eqIntSS.l0]) ?_
    exact EV.neg (by subst h; simp) (EV.now _)
  | cons x suf ih =>
    intro pre h
    have hl : pre.length < 4611686018427387904 := by subst h; simp at hn; omega
    have hlt : (pre.length : Int) < (xs.length : Int) := by subst h; exact lt_app ..
    have hx : rd_L1 xs (pre.length : Int) = x := by subst h; exact rdL_app ..
    have hx' : x.length < 4611686018427387904 := hr x (by subst h; simp)
    refine EV.step (fun k => by rw [laws_eqIntSS.l0]) ?_
    rw [hx, up (x := x) hl]
    refine EV.pos hlt (EV.pos (by omega) (EV.pos (by omega) (EV.bind (laws_eqIntS_self x hx') (EV.pos rfl ?_))))
    exact ih (pre ++ [x]) (by simp [h])
theorem laws_eqIntSS_self (xs : List (List Int)) (hn : xs.length < 4611686018427387904) (hr : ∀ r ∈ xs, r.length < 4611686018427387904) : EV (fun k => laws_eqIntSS.f k xs xs) true :=
  EV.pos rfl (laws_eqIntSS_l0 xs hn hr xs [] rfl)

theorem laws_markIntS_l0 : ∀ (suf pre : List Int) (k : Int), pre.length + suf.length < 4611686018427387904 → 0 ≤ k → k + suf.length < 4611686018427387904 →
    EV (fun r => laws_markIntS.l0 r (pre ++ suf) k (pre.length : Int)) (k + suf.length, pre ++ marks suf.length k) := by
  intro suf
  induction suf with
  | nil =>
    intro pre k h1 h2 h3
    refine EV.step (fun r => by rw [laws_markIntS.l0]) ?_
    exact EV.neg (by simp) ((EV.now _).eq (by simp [marks]))
  | cons x suf ih =>
    intro pre k h1 h2 h3
    simp only [List.length_cons] at h1 h3
    refine EV.step (fun r => by rw [laws_markIntS.l0]) ?_
    refine EV.pos (lt_app ..) (EV.pos (by omega) ?_)
    rw [set_app _ _ _ _ _ (by simp), up (x := k) (by omega), w64 (by omega) (by omega)]
    have := ih (pre ++ [k]) (k + 1) (by simp; omega) (by omega) (by omega)
    simp only [List.append_assoc, List.cons_append, List.nil_append] at this
    refine this.eq ?_
    simp [marks]; omega
theorem laws_markIntS_is (xs : List Int) (k : Int) (h1 : xs.length < 2305843009213693952) (h2 : 0 ≤ k) (h3 : k < 2305843009213693952) : EV (fun r => laws_markIntS.f r xs k) (k + xs.length, marks xs.length k) :=
  laws_markIntS_l0 xs [] k (by simp; omega) h2 (by omega)

theorem laws_heldIntS_l0 : ∀ (n : Nat) (pre : List Int) (k : Int), pre.length + n < 4611686018427387904 → 0 ≤ k → k + n < 4611686018427387904 →
    EV (fun r => laws_heldIntS.l0 r (pre ++ marks n k) k (pre.length : Int)) (k + n) := by
  intro n
  induction n with
  | zero =>
    intro pre k h1 h2 h3
    refine EV.step (fun r => by rw [laws_heldIntS.l0]) ?_
    exact EV.neg (by simp [marks]) ((EV.now _).eq (by simp))
  | succ n ih =>
    intro pre k h1 h2 h3
    refine EV.step (fun r => by rw [laws_heldIntS.l0]) ?_
    rw [marks]
    refine EV.pos (lt_app ..) (EV.pos (by omega) (EV.pos (rd_app ..) ?_))
    rw [up (x := k) (by omega), w64 (by omega) (by omega)]
    have := ih (pre ++ [k]) (k + 1) (by simp; omega) (by omega) (by omega)
    simp only [List.append_assoc, List.cons_append, List.nil_append] at this
    refine this.eq (by omega)
theorem laws_heldIntS_is (n : Nat) (k : Int) (h1 : n < 2305843009213693952) (h2 : 0 ≤ k) (h3 : k < 2305843009213693952) : EV (fun r => laws_heldIntS.f r (marks n k) k) (k + n) :=
  laws_heldIntS_l0 n [] k (by simp; omega) h2 (by omega)

theorem laws_szIntS_is (xs : List Int) (left : Int) (h0 : 0 ≤ left) (h1 : left ≤ 1048576) (h2 : xs.length ≤ 9223372036854775807) : laws_szIntS.f xs left = some (if (xs.length : Int) ≤ left then left - xs.length else -1) := by
  unfold laws_szIntS.f
  rw [w64 (by omega) (by omega)]
  by_cases h : (xs.length : Int) ≤ left
  · rw [if_neg (by omega), if_pos h]
  · rw [if_pos (by omega), if_neg h]

theorem laws_szIntSS_l0 (xs : List (List Int)) (hn : xs.length < 4611686018427387904) (hr : ∀ r ∈ xs, r.length ≤ 9223372036854775807) : ∀ (suf pre : List (List Int)) (left : Int), xs = pre ++ suf → 0 ≤ left → left ≤ 1048576 →
    EV (fun k => laws_szIntSS.l0 k xs left (pre.length : Int)) (if (total suf : Int) ≤ left then left - total suf else -1) := by
  intro suf
  induction suf with
  | nil =>
    intro pre left h h0 h1
    refine EV.step (fun k => by rw [laws_szIntSS.l0]) ?_
    exact EV.neg (by subst h; simp) ((EV.now _).eq (by rw [if_pos (by simp [total]; omega)]; simp [total]))
  | cons x suf ih =>
    intro pre left h h0 h1
    have hl : pre.length < 4611686018427387904 := by subst h; simp at hn; omega
    have hlt : (pre.length : Int) < (xs.length : Int) := by subst h; exact lt_app ..
    have hx : rd_L1 xs (pre.length : Int) = x := by subst h; exact rdL_app ..
    have hx' : x.length ≤ 9223372036854775807 := hr x (by subst h; simp)
    refine EV.step (fun k => by rw [laws_szIntSS.l0]) ?_
    rw [hx, up (x := x) hl]
    refine EV.pos hlt (EV.pos (by omega) (EV.by (laws_szIntS_is x left h0 h1 hx') ?_))
    by_cases hs : (x.length : Int) ≤ left
    · rw [if_pos hs]
      refine EV.neg (by omega) ((ih (pre ++ [x]) (left - x.length) (by simp [h]) (by omega) (by omega)).eq ?_)
      have e : total (x :: suf) = x.length + total suf := rfl
      by_cases ht : (total suf : Int) ≤ left - x.length
      · rw [if_pos ht, if_pos (by rw [e]; omega), e]; omega
      · rw [if_neg ht, if_neg (by rw [e]; omega)]
    · rw [if_neg hs]
      exact EV.pos (by omega) ((EV.now _).eq (by rw [if_neg (by simp only [total]; omega)]))
theorem laws_szIntSS_is (xs : List (List Int)) (left : Int) (h0 : 0 ≤ left) (h1 : left ≤ 1048576) (hn : xs.length ≤ 9223372036854775807) (hr : ∀ r ∈ xs, r.length ≤ 9223372036854775807) : EV (fun k => laws_szIntSS.f k xs left) (szM xs left) := by
  unfold szM
  have e : wrap64 (left - (xs.length : Int)) = left - xs.length := w64 (by omega) (by omega)
  refine EV.congr (fun k => by rw [laws_szIntSS.f, e]) ?_
  by_cases h : (xs.length : Int) ≤ left
  · refine EV.neg (by omega) ((laws_szIntSS_l0 xs (by omega) hr xs [] (left - xs.length) rfl (by omega) (by omega)).eq ?_)
    by_cases ht : (total xs : Int) ≤ left - xs.length
    · rw [if_pos ht, if_pos (by omega)]
    · rw [if_neg ht, if_neg (by omega)]
  · exact EV.pos (by omega) ((EV.now _).eq (by rw [if_neg (by omega)]))

theorem laws_toIntS_l0 (xs : List Int) (hn : xs.length < 4611686018427387904) : ∀ suf pre, xs = pre ++ suf → EV (fun k => laws_toIntS.l0 k xs (pre ++ List.replicate suf.length 0) (pre.length : Int)) xs := by
  intro suf
  induction suf with
  | nil =>
    intro pre h
    refine EV.step (fun k => by rw [laws_toIntS.l0]) ?_
    refine (EV.neg ?_ ((EV.now _).eq ?_))
    · subst h; simp
    · subst h; simp
  | cons x suf ih =>
    intro pre h
    have hl : pre.length < 4611686018427387904 := by subst h; simp at hn; omega
    have hlt : (pre.length : Int) < (xs.length : Int) := by subst h; exact lt_app ..
    have hx : rd xs (pre.length : Int) = x := by subst h; exact rd_app ..
    refine EV.step (fun k => by rw [laws_toIntS.l0]) ?_
    refine (EV.pos hlt (EV.pos (by omega) (EV.pos (by simp; omega) ?_)))
    rw [hx, up (x := x) hl, List.length_cons, List.replicate_succ, set_app _ _ _ _ _ (by simp)]
    have := ih (pre ++ [x]) (by simp [h])
    simpa using this
theorem laws_toIntS_is (xs : List Int) (hn : xs.length ≤ 1048576) : EV (fun k => laws_toIntS.f k xs) xs := by
  refine EV.pos (by omega) (EV.pos (by omega) ?_)
  exact laws_toIntS_l0 xs (by omega) xs [] rfl

theorem laws_toIntSS_l0 (xs : List (List Int)) (hn : xs.length < 4611686018427387904) (hr : ∀ r ∈ xs, r.length ≤ 1048576) : ∀ (suf pre : List (List Int)), xs = pre ++ suf →
    EV (fun k => laws_toIntSS.l0 k xs (pre ++ List.replicate suf.length []) (pre.length : Int)) xs := by
  intro suf
  induction suf with
  | nil =>
    intro pre h
    refine EV.step (fun k => by rw [laws_toIntSS.l0]) ?_
    exact EV.neg (by subst h; simp) ((EV.now _).eq (by subst h; simp))
  | cons x suf ih =>
    intro pre h
    have hl : pre.length < 4611686018427387904 := by subst h; simp at hn; omega
    have hlt : (pre.length : Int) < (xs.length : Int) := by subst h; exact lt_app ..
    have hx : rd_L1 xs (pre.length : Int) = x := by subst h; exact rdL_app ..
    have hx' : x.length ≤ 1048576 := hr x (by subst h; simp)
    refine EV.step (fun k => by rw [laws_toIntSS.l0]) ?_
    rw [hx, up (x := x) hl]
    refine EV.pos hlt (EV.pos (by omega) (EV.bind (laws_toIntS_is x hx') (EV.pos (by simp; omega) ?_)))
    rw [List.length_cons, List.replicate_succ, set_app _ _ _ _ _ (by simp)]
    have := ih (pre ++ [x]) (by simp [h])
    simpa using this
theorem laws_toIntSS_is (xs : List (List Int)) (hn : xs.length ≤ 1048576) (hr : ∀ r ∈ xs, r.length ≤ 1048576) : EV (fun k => laws_toIntSS.f k xs) xs := by
  refine EV.pos (by omega) (EV.pos (by omega) ?_)
  exact laws_toIntSS_l0 xs (by omega) hr xs [] rfl

theorem spec_l1In_is (a b c : Int) : spec_l1In.f a b c = some (decide (b ≤ a ∧ a ≤ c)) := by
  unfold spec_l1In.f
  by_cases h : a ≥ b
  · rw [if_pos h]; simp [show b ≤ a from h]
  · rw [if_neg h]; simp; omega

def edgeB (e : List Int) : Bool :=
  match e with
  | [a, b] => decide (0 ≤ a ∧ a ≤ 6) && (decide (0 ≤ b ∧ b ≤ 6) && !decide (a = b))
  | _ => false
def graphB (g : List (List Int)) : Bool := g.all edgeB && decide (1 ≤ g.length ∧ g.length ≤ 10)
theorem edge_len {e : List Int} (h : edgeB e = true) : e.length = 2 := by
  unfold edgeB at h
  split at h
  · rfl
  · cases h
theorem two_of {e : List Int} (h : e.length = 2) : ∃ a b, e = [a, b] := by
  match e, h with
  | [a, b], _ => exact ⟨a, b, rfl⟩

theorem spec_IsGraph_l0 (g : List (List Int)) (hn : g.length < 4611686018427387904) : ∀ (suf pre : List (List Int)), g = pre ++ suf →
    EV (fun k => spec_IsGraph.l0 k g (pre.length : Int)) (suf.all edgeB && decide (1 ≤ g.length ∧ g.length ≤ 10)) := by
  intro suf
  induction suf with
  | nil =>
    intro pre h
    refine EV.step (fun k => by rw [spec_IsGraph.l0]) ?_
    refine EV.neg (by subst h; simp) (EV.by (spec_l1In_is _ _ _) ((EV.now _).eq ?_))
    rw [Bool.eq_iff_iff]; simp; omega
  | cons x suf ih =>
    intro pre h
    have hl : pre.length < 4611686018427387904 := by subst h; simp at hn; omega
    have hlt : (pre.length : Int) < (g.length : Int) := by subst h; exact lt_app ..
    have hx : rd_L1 g (pre.length : Int) = x := by subst h; exact rdL_app ..
    refine EV.step (fun k => by rw [spec_IsGraph.l0]) ?_
    rw [hx, up (x := x) hl]
    refine EV.pos hlt (EV.pos (by omega) (?_))
    by_cases h2 : x.length = 2
    · obtain ⟨a, b, rfl⟩ := two_of h2
      have e0 : rd [a, b] 0 = a := rfl
      have e1 : rd [a, b] 1 = b := rfl
      refine EV.pos rfl (EV.pos (by simp) (EV.by (spec_l1In_is _ _ _) ?_))
      rw [e0]
      by_cases ha : 0 ≤ a ∧ a ≤ 6
      · refine EV.pos (by simpa using ha) (EV.pos (by simp) (EV.by (spec_l1In_is _ _ _) ?_))
        rw [e1]
        by_cases hb : 0 ≤ b ∧ b ≤ 6
        · refine EV.pos (by simpa using hb) ?_
          by_cases hab : a = b
          · exact EV.pos hab ((EV.now _).eq (by simp [edgeB, hab]))
          · exact EV.neg hab ((ih (pre ++ [[a, b]]) (by simp [h])).eq (by simp [edgeB, ha, hb, hab]))
        · exact EV.neg (by simpa using hb) ((EV.now _).eq (by simp [edgeB, hb]))
      · exact EV.neg (by simpa using ha) ((EV.now _).eq (by simp [edgeB, ha]))
    · refine EV.neg (by omega) ((EV.now _).eq ?_)
      have : edgeB x = false := by
        rcases Bool.eq_false_or_eq_true (edgeB x) with h' | h'
        · exact absurd (edge_len h') h2
        · exact h'
      simp [this]
theorem spec_IsGraph_is (g : List (List Int)) (hn : g.length < 4611686018427387904) : EV (fun k => spec_IsGraph.f k g) (graphB g) := spec_IsGraph_l0 g hn g [] rfl

/-- a table, changed at one place -/
theorem tab_set {α : Type} (n : Nat) (f : Nat → α) (a : Nat) (y : α) : ((List.range n).map f).set a y = (List.range n).map fun v => if v = a then y else f v := by
  apply List.ext_getElem
  · simp
  · intro i h1 h2
    rw [List.getElem_set]
    simp only [List.getElem_map, List.getElem_range]
    by_cases h : a = i
    · rw [if_pos h, if_pos h.symm]
    · rw [if_neg h, if_neg (fun e => h e.symm)]
theorem rd_tab (n : Nat) (f : Nat → Int) (a : Int) (h0 : 0 ≤ a) (h : a < n) : rd ((List.range n).map f) a = f a.toNat := by
  have : a.toNat < n := by omega
  simp [rd, this]

/-- a loop that looks at each member and answers early, or goes on -/
theorem EV.scan {α : Type} {g : Nat → Int → Option Bool} (xs : List α) (p : α → Bool) (fin : Bool)
    (hs : ∀ (i : Nat) (h : i < xs.length) (r : Bool), (p xs[i] = true → EV (fun k => g k ((i : Int) + 1)) r) → (p xs[i] = false → r = false) → EV (fun k => g k (i : Int)) r)
    (hf : EV (fun k => g k (xs.length : Int)) fin) : EV (fun k => g k 0) (xs.all p && fin) := by
  suffices h : ∀ (n i : Nat), i + n = xs.length → EV (fun k => g k (i : Int)) ((xs.drop i).all p && fin) by
    have := h xs.length 0 (by omega)
    simpa using this
  intro n
  induction n with
  | zero =>
    intro i hi
    have e : i = xs.length := by omega
    subst e
    simpa using hf
  | succ n ih =>
    intro i hi
    have hlt : i < xs.length := by omega
    have e : xs.drop i = xs[i] :: xs.drop (i + 1) := List.drop_eq_getElem_cons hlt
    rw [e, List.all_cons]
    refine hs i hlt _ (fun hp => ?_) (fun hp => by simp [hp])
    rw [hp, Bool.true_and]
    exact_mod_cast ih (i + 1) (by omega)
/-- what a loop over the members answers: the state is carried on, or an answer is given early -/
def runM {α σ ρ : Type} (f : σ → α → σ ⊕ ρ) (fin : σ → ρ) : σ → List α → ρ
  | s, [] => fin s
  | s, x :: xs => (match f s x with
    | .inl s' => runM f fin s' xs
    | .inr r => r)
theorem EV.run {α σ ρ : Type} {g : Nat → σ → Int → Option ρ} (xs : List α) (f : σ → α → σ ⊕ ρ) (fin : σ → ρ) (I : Nat → σ → Prop)
    (hs : ∀ (i : Nat) (h : i < xs.length) (s : σ) (r : ρ), I i s → (∀ s', f s xs[i] = .inl s' → I (i + 1) s' → EV (fun k => g k s' ((i : Int) + 1)) r) → (∀ a, f s xs[i] = .inr a → r = a) → EV (fun k => g k s (i : Int)) r)
    (hf : ∀ s, I xs.length s → EV (fun k => g k s (xs.length : Int)) (fin s)) : ∀ s, I 0 s → EV (fun k => g k s 0) (runM f fin s xs) := by
  suffices h : ∀ (n i : Nat), i + n = xs.length → ∀ s, I i s → EV (fun k => g k s (i : Int)) (runM f fin s (xs.drop i)) by
    intro s hI
    have := h xs.length 0 (by omega) s hI
    simpa using this
  intro n
  induction n with
  | zero =>
    intro i hi s hI
    have e : i = xs.length := by omega
    subst e
    simpa [runM] using hf s hI
  | succ n ih =>
    intro i hi s hI
    have hlt : i < xs.length := by omega
    have e : xs.drop i = xs[i] :: xs.drop (i + 1) := List.drop_eq_getElem_cons hlt
    rw [e]
    refine hs i hlt s _ hI (fun s' h' hI' => ?_) (fun a ha => by simp [runM, ha])
    have := ih (i + 1) (by omega) s' hI'
    simp only [runM, h']
    exact_mod_cast this
/-- a fold over the members -/
theorem EV.fold {α σ ρ : Type} {g : Nat → σ → Int → Option ρ} (xs : List α) (f : σ → α → σ) (fin : σ → ρ) (I : Nat → σ → Prop)
    (hs : ∀ (i : Nat) (h : i < xs.length) (s : σ) (r : ρ), I i s → (I (i + 1) (f s xs[i]) → EV (fun k => g k (f s xs[i]) ((i : Int) + 1)) r) → EV (fun k => g k s (i : Int)) r)
    (hf : ∀ s, I xs.length s → EV (fun k => g k s (xs.length : Int)) (fin s)) : ∀ s, I 0 s → EV (fun k => g k s 0) (fin (xs.foldl f s)) := by
  suffices h : ∀ (n i : Nat), i + n = xs.length → ∀ s, I i s → EV (fun k => g k s (i : Int)) (fin ((xs.drop i).foldl f s)) by
    intro s hI
    have := h xs.length 0 (by omega) s hI
    simpa using this
  intro n
  induction n with
  | zero =>
    intro i hi s hI
    have e : i = xs.length := by omega
    subst e
    simpa using hf s hI
  | succ n ih =>
    intro i hi s hI
    have hlt : i < xs.length := by omega
    have e : xs.drop i = xs[i] :: xs.drop (i + 1) := List.drop_eq_getElem_cons hlt
    rw [e, List.foldl_cons]
    refine hs i hlt s _ hI (fun hI' => ?_)
    exact_mod_cast ih (i + 1) (by omega) _ hI'
/-- a loop that changes each member of a list once, in order -/
theorem EV.zip {α β ρ : Type} {g : Nat → List α → Int → Option ρ} (upd : α → β → α) (t : List α) (x : List β) (hl : t.length = x.length) (r : ρ)
    (hs : ∀ (i : Nat) (h : i < t.length) (h' : i < x.length) (s : List α), s.length = t.length → s[i]? = some t[i] → EV (fun k => g k (s.set i (upd t[i] x[i])) ((i : Int) + 1)) r → EV (fun k => g k s (i : Int)) r)
    (hf : EV (fun k => g k (List.zipWith upd t x) (t.length : Int)) r) : EV (fun k => g k t 0) r := by
  suffices h : ∀ (n i : Nat), i + n = t.length → EV (fun k => g k (List.zipWith upd (t.take i) (x.take i) ++ t.drop i) (i : Int)) r by
    have := h t.length 0 (by omega)
    simpa using this
  intro n
  induction n with
  | zero =>
    intro i hi
    have e : i = t.length := by omega
    subst e
    rw [List.take_length, List.drop_length, List.append_nil, hl, List.take_length, ← hl]
    exact hf
  | succ n ih =>
    intro i hi
    have h1 : i < t.length := by omega
    have h2 : i < x.length := by omega
    have e : t.drop i = t[i] :: t.drop (i + 1) := List.drop_eq_getElem_cons h1
    have hz : (List.zipWith upd (t.take i) (x.take i)).length = i := by simp; omega
    refine hs i h1 h2 _ (by simp; omega) ?_ ?_
    · rw [List.getElem?_append_right (by omega), hz, Nat.sub_self, e]; rfl
    · have := ih (i + 1) (by omega)
      rw [e, set_app _ _ _ _ _ hz.symm]
      have e2 : List.zipWith upd (t.take (i + 1)) (x.take (i + 1)) = List.zipWith upd (t.take i) (x.take i) ++ [upd t[i] x[i]] := by
        rw [List.take_succ_eq_append_getElem h1, List.take_succ_eq_append_getElem h2, List.zipWith_append (by simp; omega)]; rfl
      rw [e2, List.append_assoc, List.singleton_append] at this
      exact_mod_cast this
/-- counting up to n, the state told by the count -/
theorem EV.count {σ ρ : Type} {g : Nat → σ → Int → Option ρ} (n : Nat) (f : Nat → σ) (r : ρ)
    (hs : ∀ i, i < n → EV (fun k => g k (f (i + 1)) ((i : Int) + 1)) r → EV (fun k => g k (f i) (i : Int)) r)
    (hf : EV (fun k => g k (f n) (n : Int)) r) : EV (fun k => g k (f 0) 0) r := by
  suffices h : ∀ (m i : Nat), i + m = n → EV (fun k => g k (f i) (i : Int)) r by exact h n 0 (by omega)
  intro m
  induction m with
  | zero => intro i hi; have : i = n := by omega
            subst this; exact hf
  | succ m ih => intro i hi; exact hs i (by omega) (by exact_mod_cast ih (i + 1) (by omega))
/-- counting up to n with an early answer -/
theorem EV.countB {g : Nat → Int → Option Bool} (n : Nat) (p : Nat → Bool) (fin : Bool)
    (hs : ∀ (i : Nat) (h : i < n) (r : Bool), (p i = true → EV (fun k => g k ((i : Int) + 1)) r) → (p i = false → r = false) → EV (fun k => g k (i : Int)) r)
    (hf : EV (fun k => g k (n : Int)) fin) : EV (fun k => g k 0) ((List.range n).all p && fin) := by
  refine EV.scan (List.range n) p fin (fun i h r H1 H2 => ?_) (by rw [List.length_range]; exact hf)
  rw [List.getElem_range] at H1 H2
  exact hs i (by simpa using h) r H1 H2
/-- counting up to n with an early answer, into what comes behind -/
theorem EV.countC {ρ : Type} {g : Nat → Int → Option ρ} (n : Nat) (p : Nat → Bool) (r early : ρ)
    (hs : ∀ i, i < n → (p i = true → EV (fun k => g k ((i : Int) + 1)) r) → (p i = false → r = early) → EV (fun k => g k (i : Int)) r)
    (hf : (List.range n).all p = true → EV (fun k => g k (n : Int)) r) (he : (List.range n).all p = false → r = early) : EV (fun k => g k 0) r := by
  suffices h : ∀ (m i : Nat), i + m = n → (∀ j, j < i → p j = true) → EV (fun k => g k (i : Int)) r by exact h n 0 (by omega) (fun j hj => by omega)
  intro m
  induction m with
  | zero =>
    intro i hi ha
    have : i = n := by omega
    subst this
    exact hf (by rw [List.all_eq_true]; intro x hx; exact ha x (List.mem_range.1 hx))
  | succ m ih =>
    intro i hi ha
    refine hs i (by omega) (fun hp => ?_) (fun hp => he ?_)
    · have := ih (i + 1) (by omega) (fun j hj => by
        by_cases e : j = i
        · rw [e]; exact hp
        · exact ha j (by omega))
      exact_mod_cast this
    · rw [List.all_eq_false]
      exact ⟨i, List.mem_range.2 (by omega), by simp [hp]⟩
/-- looking at each member with an early answer, into what comes behind -/
theorem EV.scanC {α ρ : Type} {g : Nat → Int → Option ρ} (xs : List α) (p : α → Bool) (r early : ρ)
    (hs : ∀ (i : Nat) (h : i < xs.length), (p xs[i] = true → EV (fun k => g k ((i : Int) + 1)) r) → (p xs[i] = false → r = early) → EV (fun k => g k (i : Int)) r)
    (hf : xs.all p = true → EV (fun k => g k (xs.length : Int)) r) (he : xs.all p = false → r = early) : EV (fun k => g k 0) r := by
  have e : xs.all p = (List.range xs.length).all (fun i => (xs[i]?.map p).getD true) := by
    rw [Bool.eq_iff_iff, List.all_eq_true, List.all_eq_true]
    constructor
    · intro h i hi
      have := List.mem_range.1 hi
      simpa [this] using h _ (List.getElem_mem this)
    · intro h x hx
      obtain ⟨i, hi, rfl⟩ := List.mem_iff_getElem.1 hx
      have := h i (List.mem_range.2 hi)
      simpa [hi] using this
  rw [e] at hf he
  refine EV.countC xs.length _ r early (fun i hi H1 H2 => ?_) hf he
  exact hs i hi (fun h => H1 (by simpa [hi] using h)) (fun h => H2 (by simpa [hi] using h))
theorem wrap_01 : wrap64 ((0 : Int) + 1) = 1 := by rw [w64 (by omega) (by omega)]; rfl
theorem wrap_11 : wrap64 ((1 : Int) + 1) = 2 := by rw [w64 (by omega) (by omega)]; rfl
theorem wrap_1 : wrap64 1 = 1 := w64 (by omega) (by omega)
/-- a fold over the members, into what comes behind -/
theorem EV.foldC {α σ ρ : Type} {g : Nat → σ → Int → Option ρ} (xs : List α) (f : σ → α → σ) (I : Nat → σ → Prop) (r : ρ)
    (hs : ∀ (i : Nat) (h : i < xs.length) (s : σ), I i s → (I (i + 1) (f s xs[i]) → EV (fun k => g k (f s xs[i]) ((i : Int) + 1)) r) → EV (fun k => g k s (i : Int)) r)
    (s : σ) (hI : I 0 s) (hf : I xs.length (xs.foldl f s) → EV (fun k => g k (xs.foldl f s) (xs.length : Int)) r) : EV (fun k => g k s 0) r := by
  suffices h : ∀ (n i : Nat), i + n = xs.length → ∀ s, I i s → (I xs.length ((xs.drop i).foldl f s) → EV (fun k => g k ((xs.drop i).foldl f s) (xs.length : Int)) r) → EV (fun k => g k s (i : Int)) r by
    have := h xs.length 0 (by omega) s hI (by simpa using hf)
    simpa using this
  intro n
  induction n with
  | zero =>
    intro i hi s hI hf
    have e : i = xs.length := by omega
    subst e
    simpa using hf (by simpa using hI)
  | succ n ih =>
    intro i hi s hI hf
    have hlt : i < xs.length := by omega
    have e : xs.drop i = xs[i] :: xs.drop (i + 1) := List.drop_eq_getElem_cons hlt
    rw [e, List.foldl_cons] at hf
    refine hs i hlt s hI (fun hI' => ?_)
    exact_mod_cast ih (i + 1) (by omega) _ hI' hf

theorem gcd_step (a b : Int) : Nat.gcd b.natAbs (Int.tmod a b).natAbs = Nat.gcd a.natAbs b.natAbs := by
  rw [Int.natAbs_tmod, Nat.gcd_comm b.natAbs, ← Nat.gcd_rec, Nat.gcd_comm]
theorem tmod_lt (a b : Int) (h : b ≠ 0) : (Int.tmod a b).natAbs < b.natAbs := by
  rw [Int.natAbs_tmod]; exact Nat.mod_lt _ (by omega)
def slopeB (p q : Int) : Bool := decide (-1000 ≤ p ∧ p ≤ 1000) && (decide (0 ≤ q ∧ q ≤ 1000) && (decide (Nat.gcd p.natAbs q.natAbs = 1) && (decide (0 < q) || decide (p = 1))))
/-- p, q by their greatest common divisor, the sign so that q is above 0, or p -/
def lowM (p q : Int) : Int × Int :=
  let d : Int := (Nat.gcd p.natAbs q.natAbs : Nat)
  if q < 0 ∨ (q = 0 ∧ p < 0) then (-(p.tdiv d), -(q.tdiv d)) else (p.tdiv d, q.tdiv d)
def slopeOfM (p q : Int) : Int × Int × Bool :=
  if -1000 ≤ p ∧ p ≤ 1000 then (if -1000 ≤ q ∧ q ≤ 1000 then (if p = 0 ∧ q = 0 then (0, 0, false) else ((lowM p q).1, (lowM p q).2, true)) else (0, 0, false)) else (0, 0, false)
theorem low_of (p q : Int) (hp : -1000 ≤ p ∧ p ≤ 1000) (hq : -1000 ≤ q ∧ q ≤ 1000) (hz : ¬ (p = 0 ∧ q = 0)) :
    ∃ d a b : Int, ((Nat.gcd p.natAbs q.natAbs : Nat) : Int) = d ∧ 0 < d ∧ d ≤ 1000 ∧ p.tdiv d = a ∧ q.tdiv d = b ∧ p = d * a ∧ q = d * b ∧ -1000 ≤ a ∧ a ≤ 1000 ∧ -1000 ≤ b ∧ b ≤ 1000 ∧ (q < 0 ↔ b < 0) ∧ (q = 0 ↔ b = 0) ∧ (p < 0 ↔ a < 0) := by
  have hg : 0 < Nat.gcd p.natAbs q.natAbs := by
    rcases Nat.eq_zero_or_pos (Nat.gcd p.natAbs q.natAbs) with h | h
    · have := Nat.gcd_eq_zero_iff.1 h; omega
    · exact h
  have h1 : Nat.gcd p.natAbs q.natAbs ≤ 1000 := by
    by_cases h : p = 0
    · have := Nat.gcd_le_right p.natAbs (n := q.natAbs) (by omega); omega
    · have := Nat.gcd_le_left q.natAbs (m := p.natAbs) (by omega); omega
  obtain ⟨a, ha⟩ : ∃ a, p = ((Nat.gcd p.natAbs q.natAbs : Nat) : Int) * a := Int.ofNat_dvd_left.2 (Nat.gcd_dvd_left ..)
  obtain ⟨b, hb⟩ : ∃ b, q = ((Nat.gcd p.natAbs q.natAbs : Nat) : Int) * b := Int.ofNat_dvd_left.2 (Nat.gcd_dvd_right ..)
  generalize hd : ((Nat.gcd p.natAbs q.natAbs : Nat) : Int) = d at *
  have hdp : 0 < d := by omega
  have e1 : p.tdiv d = a := by rw [ha]; exact Int.mul_tdiv_cancel_left _ (by omega)
  have e2 : q.tdiv d = b := by rw [hb]; exact Int.mul_tdiv_cancel_left _ (by omega)
  have bnd : ∀ x y : Int, x = d * y → -1000 ≤ x → x ≤ 1000 → -1000 ≤ y ∧ y ≤ 1000 ∧ (x < 0 ↔ y < 0) ∧ (x = 0 ↔ y = 0) := by
    intro x y h h1 h2
    have k1 : 0 < y → y ≤ d * y := fun hy => by have := Int.mul_le_mul_of_nonneg_right (show 1 ≤ d by omega) (show 0 ≤ y by omega); omega
    have k2 : y < 0 → d * y ≤ y := fun hy => by have := Int.mul_le_mul_of_nonpos_right (show 1 ≤ d by omega) (show y ≤ 0 by omega); omega
    have k3 : y = 0 → d * y = 0 := fun hy => by rw [hy]; simp
    rw [← h] at k1 k2 k3
    rcases Int.lt_trichotomy y 0 with hy | hy | hy
    · have := k2 hy; omega
    · have := k3 hy; omega
    · have := k1 hy; omega
  have B1 := bnd p a ha hp.1 hp.2
  have B2 := bnd q b hb hq.1 hq.2
  exact ⟨d, a, b, rfl, hdp, by omega, e1, e2, ha, hb, by omega, by omega, by omega, by omega, B2.2.2.1, B2.2.2.2, B1.2.2.1⟩

def crossM (a b c d : Int) : Int := if slopeB a b = true ∧ slopeB c d = true then ((a * d - b * c).natAbs : Int) else -1
theorem slopeB_bd {p q : Int} (h : slopeB p q = true) : -1000 ≤ p ∧ p ≤ 1000 ∧ 0 ≤ q ∧ q ≤ 1000 ∧ Nat.gcd p.natAbs q.natAbs = 1 ∧ (0 < q ∨ p = 1) := by
  unfold slopeB at h
  simp only [Bool.and_eq_true, Bool.or_eq_true, decide_eq_true_eq] at h
  omega
/-- a product of two numbers of bounded size -/
theorem mul_bd {x y : Int} (A B : Nat) (hx : x.natAbs ≤ A) (hy : y.natAbs ≤ B) : (x * y).natAbs ≤ A * B := by
  rw [Int.natAbs_mul]; exact Nat.mul_le_mul hx hy
theorem cross_w {a b c d : Int} (h1 : slopeB a b = true) (h2 : slopeB c d = true) : wrap64 (a * d) = a * d ∧ wrap64 (b * c) = b * c ∧ (a * d - b * c).natAbs ≤ 2000000 := by
  have b1 := slopeB_bd h1
  have b2 := slopeB_bd h2
  have m1 := mul_bd (x := a) (y := d) 1000 1000 (by omega) (by omega)
  have m2 := mul_bd (x := b) (y := c) 1000 1000 (by omega) (by omega)
  refine ⟨w64 (by omega) (by omega), w64 (by omega) (by omega), by omega⟩

def formM : List Int → List Int → Int
  | a :: b :: xs, c :: d :: ys => (a * d - b * c) + formM xs ys
  | _, _ => 0
theorem smallB_bd {x : Int} (h : smallB x = true) : -1000 ≤ x ∧ x ≤ 1000 := by simpa [smallB] using h
theorem form_term {a b c d : Int} (ha : smallB a = true) (hb : smallB b = true) (hc : smallB c = true) (hd : smallB d = true) : (a * d).natAbs ≤ 1000000 ∧ (b * c).natAbs ≤ 1000000 := by
  have := smallB_bd ha; have := smallB_bd hb; have := smallB_bd hc; have := smallB_bd hd
  exact ⟨mul_bd 1000 1000 (by omega) (by omega), mul_bd 1000 1000 (by omega) (by omega)⟩
theorem formM_bd : ∀ (n : Nat) (xs ys : List Int), xs.length ≤ n → xs.all smallB = true → ys.all smallB = true → (formM xs ys).natAbs ≤ 1000000 * xs.length
  | 0, xs, ys, hn, _, _ => by
    have : xs = [] := List.eq_nil_of_length_eq_zero (by omega)
    subst this; simp [formM]
  | n + 1, xs, ys, hn, hx, hy => by
    match xs, ys with
    | a :: b :: xs, c :: d :: ys =>
      simp only [List.all_cons, Bool.and_eq_true, List.length_cons] at hx hy hn
      have t := form_term hx.1 hx.2.1 hy.1 hy.2.1
      have r := formM_bd n xs ys (by omega) hx.2.2 hy.2.2
      simp only [formM, List.length_cons]; omega
    | [], _ => simp [formM]
    | [_], _ => simp [formM]
    | _ :: _ :: _, [] => simp [formM]
    | _ :: _ :: _, [_] => simp [formM]
theorem rd_app1 (pre : List Int) (x y : Int) (suf : List Int) (i : Int) (h : i = pre.length + 1) : rd (pre ++ x :: y :: suf) i = y := by
  subst h
  have := rd_app (pre ++ [x]) y suf
  simpa using this

def rowB (n : Nat) (r : List Int) : Bool := decide (r.length = n) && r.all smallB
def tableB (t : List (List Int)) : Bool := t.all (rowB t.length) && decide (1 ≤ t.length ∧ t.length ≤ 6)
def dot : List Int → List Int → Int
  | a :: r, b :: x => a * b + dot r x
  | _, _ => 0
def outM (o : List Int) : List Int × Bool := if o.all smallB = true then (o, true) else ([], false)
def applyM (t : List (List Int)) (x : List Int) : List Int × Bool :=
  if tableB t = true ∧ x.length = t.length ∧ x.all smallB = true then outM (t.map fun r => dot r x) else ([], false)
theorem rowB_of {n : Nat} {r : List Int} (h : rowB n r = true) : r.length = n ∧ r.all smallB = true := by simpa [rowB] using h
theorem term_bd {a b : Int} (ha : smallB a = true) (hb : smallB b = true) : (a * b).natAbs ≤ 1000000 := by
  have := smallB_bd ha; have := smallB_bd hb
  exact mul_bd 1000 1000 (by omega) (by omega)
theorem tableB_of {t : List (List Int)} (h : tableB t = true) : (∀ r ∈ t, r.length = t.length ∧ r.all smallB = true) ∧ 1 ≤ t.length ∧ t.length ≤ 6 := by
  unfold tableB at h
  rw [Bool.and_eq_true, List.all_eq_true, decide_eq_true_iff] at h
  exact ⟨fun r hr => rowB_of (h.1 r hr), h.2⟩
theorem applyM_len (t : List (List Int)) (x : List Int) : (applyM t x).1.length ≤ 6 := by
  unfold applyM
  split
  · rename_i h
    have := (tableB_of h.1).2
    unfold outM
    split
    · simp; omega
    · simp
  · simp

/-- the darts at v of the edges from number i on -/
def dartsF (v : Int) : Nat → List (List Int) → List Int
  | _, [] => []
  | i, e :: g => (if e.getD 0 0 = v then [2 * (i : Int)] else []) ++ ((if e.getD 1 0 = v then [2 * (i : Int) + 1] else []) ++ dartsF v (i + 1) g)
def degN (v : Int) : List (List Int) → Nat
  | [] => 0
  | e :: g => (if e.getD 0 0 = v then 1 else 0) + (if e.getD 1 0 = v then 1 else 0) + degN v g
theorem dartsF_len (v : Int) : ∀ (g : List (List Int)) (i : Nat), (dartsF v i g).length = degN v g
  | [], _ => rfl
  | e :: g, i => by
    simp only [dartsF, degN, List.length_append, dartsF_len v g]
    split <;> split <;> simp <;> omega
theorem degN_le (v : Int) : ∀ (g : List (List Int)), degN v g ≤ 2 * g.length
  | [] => by simp [degN]
  | e :: g => by
    have := degN_le v g
    simp only [degN, List.length_cons]
    split <;> split <;> omega
theorem degN_snoc (v : Int) (e : List Int) : ∀ (g : List (List Int)), degN v (g ++ [e]) = degN v g + ((if e.getD 0 0 = v then 1 else 0) + (if e.getD 1 0 = v then 1 else 0))
  | [] => by simp [degN]
  | x :: g => by simp only [List.cons_append, degN, degN_snoc v e g]; omega
theorem dartsF_snoc (v : Int) (e : List Int) : ∀ (g : List (List Int)) (i : Nat), dartsF v i (g ++ [e]) = dartsF v i g ++ ((if e.getD 0 0 = v then [2 * ((i + g.length : Nat) : Int)] else []) ++ (if e.getD 1 0 = v then [2 * ((i + g.length : Nat) : Int) + 1] else []))
  | [], i => by simp [dartsF]
  | x :: g, i => by
    have h : i + 1 + g.length = i + (g.length + 1) := by omega
    simp only [List.cons_append, dartsF, dartsF_snoc v e g, List.length_cons, h, List.append_assoc]
theorem graphB_of {g : List (List Int)} (h : graphB g = true) : (∀ e ∈ g, edgeB e = true) ∧ 1 ≤ g.length ∧ g.length ≤ 10 := by
  simpa [graphB] using h
theorem edgeB_of {e : List Int} (h : edgeB e = true) : ∃ a b, e = [a, b] ∧ 0 ≤ a ∧ a ≤ 6 ∧ 0 ≤ b ∧ b ≤ 6 ∧ a ≠ b := by
  obtain ⟨a, b, rfl⟩ := two_of (edge_len h)
  simp [edgeB] at h
  exact ⟨a, b, rfl, h.1.1, h.1.2, h.2.1.1, h.2.1.2, h.2.2⟩
theorem rdL_tab (n : Nat) (f : Nat → List Int) (a : Int) (h0 : 0 ≤ a) (h : a < n) : rd_L1 ((List.range n).map f) a = f a.toNat := by
  have : a.toNat < n := by omega
  simp [rd_L1, this]
def degM (g : List (List Int)) : List Int := if graphB g = true then (List.range 7).map fun v : Nat => (degN (v : Int) g : Int) else []

theorem spec_l7Darts_l0 (g : List (List Int)) (v : Int) (hg : graphB g = true) : ∀ (suf pre : List (List Int)) (acc : List Int), g = pre ++ suf → acc.length ≤ 2 * pre.length →
    EV (fun k => spec_l7Darts.l0 k g v acc (pre.length : Int)) (acc ++ dartsF v pre.length suf) := by
  have G := graphB_of hg
  intro suf
  induction suf with
  | nil =>
    intro pre acc h ha
    refine EV.step (fun k => by rw [spec_l7Darts.l0]) ?_
    exact EV.neg (by subst h; simp) ((EV.now _).eq (by simp [dartsF]))
  | cons e suf ih =>
    intro pre acc h ha
    obtain ⟨a, b, rfl, _⟩ := edgeB_of (G.1 e (by subst h; simp))
    have hpl : pre.length < 10 := by subst h; simp at G; omega
    have hl : pre.length < 4611686018427387904 := by omega
    have hlt : (pre.length : Int) < (g.length : Int) := by subst h; exact lt_app ..
    have hx : rd_L1 g (pre.length : Int) = [a, b] := by subst h; exact rdL_app ..
    have last : ∀ acc'' : List Int, acc''.length ≤ 2 * pre.length + 2 → EV (fun k => spec_l7Darts.l1 k g v acc'' (pre.length : Int) 2) (acc'' ++ dartsF v (pre.length + 1) suf) := by
      intro acc'' ha
      refine EV.step (fun k => by rw [spec_l7Darts.l1]) ?_
      rw [up (x := [a, b]) hl]
      refine EV.neg (by omega) ?_
      have := ih (pre ++ [[a, b]]) acc'' (by simp [h]) (by simp; omega)
      simpa using this
    have two : ∀ acc' : List Int, acc'.length ≤ 2 * pre.length + 1 → EV (fun k => spec_l7Darts.l1 k g v acc' (pre.length : Int) 1) (acc' ++ ((if b = v then [2 * (pre.length : Int) + 1] else []) ++ dartsF v (pre.length + 1) suf)) := by
      intro acc' ha'
      refine EV.step (fun k => by rw [spec_l7Darts.l1]) ?_
      rw [hx, wrap_11, w64 (x := 2 * (pre.length : Int)) (by omega) (by omega), w64 (x := 2 * (pre.length : Int) + 1) (by omega) (by omega), show rd [a, b] 1 = b from rfl]
      refine EV.pos (by omega) (EV.pos (by omega) (EV.pos hlt (EV.pos (by omega) (EV.pos (by simp) ?_))))
      exact EV.cases (fun c => EV.pos (by omega) ((last (acc' ++ [2 * (pre.length : Int) + 1]) (by simp; omega)).eq (by simp [c]))) (fun c => (last acc' (by omega)).eq (by simp [c]))
    refine EV.step (fun k => by rw [spec_l7Darts.l0]) (EV.pos hlt ?_)
    refine EV.step (fun k => by rw [spec_l7Darts.l1]) ?_
    rw [hx, wrap_01, w64 (x := 2 * (pre.length : Int)) (by omega) (by omega), w64 (x := 2 * (pre.length : Int) + 0) (by omega) (by omega), show rd [a, b] 0 = a from rfl]
    refine EV.pos (by omega) (EV.pos (by omega) (EV.pos hlt (EV.pos (by omega) (EV.pos (by simp) ?_))))
    exact EV.cases (fun c => EV.pos (by omega) ((two (acc ++ [2 * (pre.length : Int) + 0]) (by simp; omega)).eq (by simp [c, dartsF]))) (fun c => (two acc (by omega)).eq (by simp [c, dartsF]))
theorem spec_l7Darts_is (g : List (List Int)) (v : Int) (hg : graphB g = true) : EV (fun k => spec_l7Darts.f k g v) (dartsF v 0 g) := by
  have := spec_l7Darts_l0 g v hg g [] [] rfl (by simp)
  exact this

/-- the ring of darts ds laid into x -/
def ringM (x ds : List Int) : List Int := (List.range ds.length).foldl (fun x j => x.set (ds.getD j 0).toNat (ds.getD ((j + 1) % ds.length) 0)) x
def ringK (x ds : List Int) (i : Nat) : List Int := (List.range i).foldl (fun x j => x.set (ds.getD j 0).toNat (ds.getD ((j + 1) % ds.length) 0)) x
theorem ringK_succ (x ds : List Int) (i : Nat) : ringK x ds (i + 1) = (ringK x ds i).set (ds.getD i 0).toNat (ds.getD ((i + 1) % ds.length) 0) := by
  unfold ringK; rw [List.range_succ, List.foldl_append]; rfl
theorem ringK_len (x ds : List Int) : ∀ i, (ringK x ds i).length = x.length
  | 0 => rfl
  | i + 1 => by rw [ringK_succ, List.length_set, ringK_len x ds i]
theorem dartsF_mem (v : Int) : ∀ (g : List (List Int)) (i : Nat), ∀ d ∈ dartsF v i g, 0 ≤ d ∧ d < 2 * ((i : Int) + g.length)
  | [], i, d, h => by simp [dartsF] at h
  | e :: g, i, d, h => by
    simp only [dartsF, List.mem_append] at h
    simp only [List.length_cons]
    rcases h with h | h | h
    · split at h
      · rw [List.mem_singleton] at h; omega
      · cases h
    · split at h
      · rw [List.mem_singleton] at h; omega
      · cases h
    · have := dartsF_mem v g (i + 1) d h; omega
def firstK (g : List (List Int)) (n : Nat) : List Int := (List.range n).foldl (fun x (v : Nat) => ringM x (dartsF (v : Int) 0 g)) (List.replicate (2 * g.length) 0)
def firstM (g : List (List Int)) : List Int := if graphB g = true then firstK g 7 else []
theorem firstK_succ (g : List (List Int)) (n : Nat) : firstK g (n + 1) = ringM (firstK g n) (dartsF (n : Int) 0 g) := by
  unfold firstK; rw [List.range_succ, List.foldl_append]; rfl
theorem firstK_len (g : List (List Int)) : ∀ n, (firstK g n).length = 2 * g.length
  | 0 => by simp [firstK]
  | n + 1 => by rw [firstK_succ]; exact (ringK_len _ _ _).trans (firstK_len g n)

theorem spec_l7Ring_is (x ds : List Int) (hd : ∀ d ∈ ds, 0 ≤ d ∧ d < x.length) (hn : ds.length < 1000000) : EV (fun k => spec_l7Ring.f k x ds) (ringM x ds) := by
  refine EV.count (g := fun k s i => spec_l7Ring.l0 k s ds i) ds.length (ringK x ds) _ (fun i hi H => ?_) ?_
  · have hx := hd _ (List.getElem_mem hi)
    have hm := Nat.mod_lt (i + 1) (show 0 < ds.length by omega)
    have em : Int.tmod ((i : Int) + 1) (ds.length : Int) = (((i + 1) % ds.length : Nat) : Int) := by
      rw [show (i : Int) + 1 = ((i + 1 : Nat) : Int) by omega, Int.tmod_eq_emod_of_nonneg (by omega)]; omega
    rw [ringK_succ] at H
    have hl := ringK_len x ds i
    refine EV.step (fun k => by rw [spec_l7Ring.l0]) ?_
    rw [w64 (x := (i : Int) + 1) (by omega) (by omega), em, rd_nat _ _ hi, rd_nat _ _ hm]
    refine EV.pos (by omega) (EV.pos (by omega) (EV.neg (by omega) (EV.pos (by omega) (EV.pos (by omega) (EV.pos (by omega) (EV.pos (by omega) ?_))))))
    have e1 : ds.getD i 0 = ds[i] := by simp [hi]
    have e2 : ds.getD ((i + 1) % ds.length) 0 = ds[(i + 1) % ds.length] := by simp [hm]
    rw [e1, e2] at H
    exact H
  · refine EV.step (fun k => by rw [spec_l7Ring.l0]) ?_
    exact EV.neg (by omega) (EV.now _)

theorem spec_FirstRotation_is (g : List (List Int)) (hn : g.length < 4294967296) : EV (fun k => spec_FirstRotation.f k g) (firstM g) := by
  unfold firstM
  refine EV.bind (spec_IsGraph_is g (by omega)) ?_
  by_cases hg : graphB g = true
  · rw [if_pos hg]
    have G := graphB_of hg
    rw [w64 (x := 2 * (g.length : Int)) (by omega) (by omega)]
    refine EV.pos hg (EV.pos (by omega) (EV.pos (by omega) ?_))
    rw [show (2 * (g.length : Int)).toNat = 2 * g.length by omega]
    refine EV.count (g := fun k s i => spec_FirstRotation.l0 k g s i) 7 (firstK g) _ (fun i hi H => ?_) ?_
    · rw [firstK_succ] at H
      have hl := firstK_len g i
      have hd := degN_le (i : Int) g
      refine EV.step (fun k => by rw [spec_FirstRotation.l0]) ?_
      rw [w64 (x := (i : Int) + 1) (by omega) (by omega)]
      refine EV.pos (by omega) (EV.bind (spec_l7Darts_is g (i : Int) hg) (EV.bind (spec_l7Ring_is _ _ (fun d h => ?_) (by rw [dartsF_len]; omega)) H))
      have := dartsF_mem (i : Int) g 0 d h
      omega
    · refine EV.step (fun k => by rw [spec_FirstRotation.l0]) ?_
      exact EV.neg (by omega) (EV.now _)
  · rw [if_neg hg]
    exact EV.neg hg (EV.now _)

theorem impl_within_is (a b c : Int) : impl_within.f a b c = some (decide (b ≤ a ∧ a ≤ c)) := by
  unfold impl_within.f
  by_cases h : a ≥ b
  · rw [if_pos h]; simp [show b ≤ a from h]
  · rw [if_neg h]; simp; omega

theorem impl_IsGraph_l0 (g : List (List Int)) (hn : g.length < 4611686018427387904) : ∀ (suf pre : List (List Int)), g = pre ++ suf →
    EV (fun k => impl_IsGraph.l0 k g g (g.length : Int) (pre.length : Int)) (suf.all edgeB && decide (1 ≤ g.length ∧ g.length ≤ 10)) := by
  intro suf
  induction suf with
  | nil =>
    intro pre h
    refine EV.step (fun k => by rw [impl_IsGraph.l0]) ?_
    refine EV.neg (by subst h; simp) (EV.by (impl_within_is _ _ _) ((EV.now _).eq ?_))
    rw [Bool.eq_iff_iff]; simp; omega
  | cons x suf ih =>
    intro pre h
    have hl : pre.length < 4611686018427387904 := by subst h; simp at hn; omega
    have hlt : (pre.length : Int) < (g.length : Int) := by subst h; exact lt_app ..
    have hx : rd_L1 g (pre.length : Int) = x := by subst h; exact rdL_app ..
    refine EV.step (fun k => by rw [impl_IsGraph.l0]) ?_
    rw [hx, up (x := x) hl]
    refine EV.pos hlt (EV.pos (by omega) (EV.pos hlt (?_)))
    by_cases h2 : x.length = 2
    · obtain ⟨a, b, rfl⟩ := two_of h2
      have e0 : rd [a, b] 0 = a := rfl
      have e1 : rd [a, b] 1 = b := rfl
      refine EV.pos rfl (EV.pos (by simp) (EV.by (impl_within_is _ _ _) ?_))
      rw [e0]
      by_cases ha : 0 ≤ a ∧ a ≤ 6
      · refine EV.pos (by simpa using ha) (EV.pos (by simp) (EV.by (impl_within_is _ _ _) ?_))
        rw [e1]
        by_cases hb : 0 ≤ b ∧ b ≤ 6
        · refine EV.pos (by simpa using hb) ?_
          by_cases hab : a = b
          · exact EV.pos hab ((EV.now _).eq (by simp [edgeB, hab]))
          · exact EV.neg hab ((ih (pre ++ [[a, b]]) (by simp [h])).eq (by simp [edgeB, ha, hb, hab]))
        · exact EV.neg (by simpa using hb) ((EV.now _).eq (by simp [edgeB, hb]))
      · exact EV.neg (by simpa using ha) ((EV.now _).eq (by simp [edgeB, ha]))
    · refine EV.neg (by omega) ((EV.now _).eq ?_)
      have : edgeB x = false := by
        rcases Bool.eq_false_or_eq_true (edgeB x) with h' | h'
        · exact absurd (edge_len h') h2
        · exact h'
      simp [this]
theorem impl_IsGraph_is (g : List (List Int)) (hn : g.length < 4611686018427387904) : EV (fun k => impl_IsGraph.f k g) (graphB g) := impl_IsGraph_l0 g hn g [] rfl

theorem impl_dartsAt_l0 (g : List (List Int)) (hg : graphB g = true) : ∀ (suf pre : List (List Int)), g = pre ++ suf →
    EV (fun k => impl_dartsAt.l0 k ((List.range 7).map fun v : Nat => dartsF (v : Int) 0 pre) g (g.length : Int) (pre.length : Int)) ((List.range 7).map fun v : Nat => dartsF (v : Int) 0 g) := by
  have G := graphB_of hg
  intro suf
  induction suf with
  | nil =>
    intro pre h
    have e : pre = g := by simp [h]
    subst e
    refine EV.step (fun k => by rw [impl_dartsAt.l0]) ?_
    exact EV.neg (by omega) (EV.now _)
  | cons e suf ih =>
    intro pre h
    obtain ⟨a, b, rfl, a0, a6, b0, b6, hab⟩ := edgeB_of (G.1 e (by subst h; simp))
    have hpl : pre.length < 10 := by subst h; simp at G; omega
    have hlt : (pre.length : Int) < (g.length : Int) := by subst h; exact lt_app ..
    have hx : rd_L1 g (pre.length : Int) = [a, b] := by subst h; exact rdL_app ..
    have hd : ∀ v : Int, (dartsF v 0 pre).length ≤ 20 := fun v => by rw [dartsF_len]; have := degN_le v pre; omega
    refine EV.step (fun k => by rw [impl_dartsAt.l0]) ?_
    rw [hx, show rd [a, b] 0 = a from rfl, show rd [a, b] 1 = b from rfl, up (x := [a, b]) (by omega), w64 (x := 2 * (pre.length : Int)) (by omega) (by omega), w64 (x := 2 * (pre.length : Int) + 1) (by omega) (by omega)]
    rw [rdL_tab 7 _ a a0 (by omega), tab_set]
    refine EV.pos hlt (EV.pos (by omega) (EV.pos hlt (EV.pos (by simp) (EV.pos a0 (EV.pos (by simp; omega) (EV.pos (by have := hd ((a.toNat : Nat) : Int); omega) (EV.by rfl (EV.pos (by simp) (EV.pos b0 (EV.pos (by simp; omega) ?_))))))))))
    rw [rdL_tab 7 _ b b0 (by omega), tab_set]
    refine EV.pos (by have := hd ((b.toNat : Nat) : Int); rw [if_neg (by omega)]; omega) ?_
    have := ih (pre ++ [[a, b]]) (by simp [h])
    refine EV.congr (fun k => ?_) this
    congr 1
    apply List.map_congr_left
    intro v hv
    rw [dartsF_snoc]
    simp only [List.getD_cons_zero, List.getD_cons_succ, Nat.zero_add]
    by_cases h1 : v = b.toNat
    · have h2 : ¬ b.toNat = a.toNat := by omega
      have h3 : ¬ a = (v : Int) := by omega
      have h4 : b = (v : Int) := by omega
      rw [if_pos h1, if_neg h2, if_neg h3, if_pos h4, ← h1, List.nil_append]
    · have h4 : ¬ b = (v : Int) := by omega
      rw [if_neg h1, if_neg h4, List.append_nil]
      by_cases h2 : v = a.toNat
      · rw [if_pos h2, if_pos (by omega), ← h2]
      · rw [if_neg h2, if_neg (by omega), List.append_nil]
theorem impl_dartsAt_is (g : List (List Int)) (hg : graphB g = true) : EV (fun k => impl_dartsAt.f k g) ((List.range 7).map fun v : Nat => dartsF (v : Int) 0 g) := by
  refine EV.pos (by omega) ?_
  exact impl_dartsAt_l0 g hg g [] rfl

theorem impl_FirstRotation_is (g : List (List Int)) (hn : g.length < 4294967296) : EV (fun k => impl_FirstRotation.f k g) (firstM g) := by
  unfold firstM
  refine EV.bind (impl_IsGraph_is g (by omega)) ?_
  by_cases hg : graphB g = true
  · rw [if_pos hg]
    have G := graphB_of hg
    rw [w64 (x := 2 * (g.length : Int)) (by omega) (by omega)]
    refine EV.pos hg (EV.pos (by omega) (EV.pos (by omega) (EV.bind (impl_dartsAt_is g hg) ?_)))
    rw [show (2 * (g.length : Int)).toNat = 2 * g.length by omega, show (((List.range 7).map fun v : Nat => dartsF (v : Int) 0 g).length : Int) = 7 by simp]
    refine EV.count (g := fun k s i => impl_FirstRotation.l0 k s ((List.range 7).map fun v : Nat => dartsF (v : Int) 0 g) 7 i) 7 (firstK g) _ (fun i hi H => ?_) ?_
    · rw [firstK_succ] at H
      have hl := firstK_len g i
      have hd := degN_le (i : Int) g
      have hm := dartsF_mem (i : Int) g 0
      have hdl := dartsF_len (i : Int) g 0
      refine EV.step (fun k => by rw [impl_FirstRotation.l0]) ?_
      rw [rdL_tab 7 _ (i : Int) (by omega) (by omega), Int.toNat_natCast]
      refine EV.pos (by omega) (EV.pos (by omega) (EV.pos (by simp; omega) ?_))
      generalize dartsF (i : Int) 0 g = ds at *
      refine EV.count (g := fun k s j => impl_FirstRotation.l1 k s ds ((List.range 7).map fun v : Nat => dartsF (v : Int) 0 g) 7 (i : Int) ds (ds.length : Int) j) ds.length (ringK (firstK g i) ds) _ (fun j hj H' => ?_) ?_
      · have hx := hm _ (List.getElem_mem hj)
        have hmod := Nat.mod_lt (j + 1) (show 0 < ds.length by omega)
        have em : Int.tmod ((j : Int) + 1) (ds.length : Int) = (((j + 1) % ds.length : Nat) : Int) := by
          rw [show (j : Int) + 1 = ((j + 1 : Nat) : Int) by omega, Int.tmod_eq_emod_of_nonneg (by omega)]; omega
        rw [ringK_succ] at H'
        have hl' := ringK_len (firstK g i) ds j
        refine EV.step (fun k => by rw [impl_FirstRotation.l1]) ?_
        rw [w64 (x := (j : Int) + 1) (by omega) (by omega), em, rd_nat _ _ hj, rd_nat _ _ hmod]
        refine EV.pos (by omega) (EV.pos (by omega) (EV.pos (by omega) (EV.neg (by omega) (EV.pos (by omega) (EV.pos (by omega) (EV.pos (by omega) (EV.pos (by omega) ?_)))))))
        have e1 : ds.getD j 0 = ds[j] := by simp [hj]
        have e2 : ds.getD ((j + 1) % ds.length) 0 = ds[(j + 1) % ds.length] := by simp [hmod]
        rw [e1, e2] at H'
        exact H'
      · refine EV.step (fun k => by rw [impl_FirstRotation.l1]) ?_
        rw [w64 (x := (i : Int) + 1) (by omega) (by omega)]
        exact EV.neg (by omega) H
    · refine EV.step (fun k => by rw [impl_FirstRotation.l0]) ?_
      exact EV.neg (by omega) (EV.now _)
  · rw [if_neg hg]
    exact EV.neg hg (EV.now _)

theorem laws_markIntSS_l0 : ∀ (suf pre : List (List Int)) (k : Int), pre.length + suf.length < 4611686018427387904 → 0 ≤ k → k + total suf < 2305843009213693952 →
    EV (fun r => laws_markIntSS.l0 r (pre ++ suf) k (pre.length : Int)) (k + total suf, pre ++ marksL suf k) := by
  intro suf
  induction suf with
  | nil =>
    intro pre k h1 h2 h3
    refine EV.step (fun r => by rw [laws_markIntSS.l0]) ?_
    exact EV.neg (by simp) ((EV.now _).eq (by simp [marksL, total]))
  | cons x suf ih =>
    intro pre k h1 h2 h3
    simp only [List.length_cons, total] at h1 h3
    refine EV.step (fun r => by rw [laws_markIntSS.l0]) ?_
    rw [rdL_app, up (x := x) (by omega)]
    refine EV.pos (lt_app ..) (EV.pos (by omega) (EV.bind (laws_markIntS_is x k (by omega) h2 (by omega)) ?_))
    rw [set_app _ _ _ _ _ (by simp)]
    have := ih (pre ++ [marks x.length k]) (k + x.length) (by simp; omega) (by omega) (by omega)
    simp only [List.append_assoc, List.cons_append, List.nil_append, List.length_append, List.length_cons, List.length_nil] at this
    refine EV.congr (fun r => ?_) (this.eq ?_)
    · simp
    · simp only [marksL, total]; congr 1; omega
theorem laws_markIntSS_is (xs : List (List Int)) (k : Int) (h1 : xs.length < 2305843009213693952) (h2 : 0 ≤ k) (h3 : k + total xs < 2305843009213693952) : EV (fun r => laws_markIntSS.f r xs k) (k + total xs, marksL xs k) :=
  laws_markIntSS_l0 xs [] k (by simp; omega) h2 h3

theorem both (g : List (List Int)) (w : ∀ r ∈ g, r.length ≤ maxLen ∧ ∀ x ∈ r, (Lit.int .i64 x).wf = true) (n : g.length + total g ≤ 1048576) :
    ∃ R : List Int, EV (fun k => spec_FirstRotation.f k g) R ∧ EV (fun k => impl_FirstRotation.f k g) R ∧ R.length ≤ 4194304 := by
  refine ⟨firstM g, spec_FirstRotation_is g (by omega), impl_FirstRotation_is g (by omega), ?_⟩
  unfold firstM
  split
  · rw [firstK_len]; omega
  · simp

/-- what the walk asks, out of what the two functions answer -/
theorem FnExactFirstRotation (l0 : List (List Int)) (x0 : l0.length ≤ maxLen) (w0 : ∀ r ∈ l0, r.length ≤ maxLen ∧ ∀ x ∈ r, (Lit.int .i64 x).wf = true) : ∃ k, Facts k l0 := by
  have e0 := laws_szIntSS_is l0 (1048576) (by omega) (by omega) (by unfold maxLen at x0; omega) (fun r hr => by have := (w0 r hr).1; unfold maxLen at this; omega)
  unfold szM at e0
  by_cases g0 : ((l0.length : Int) + total l0 ≤ 1048576)
  rotate_left
  · rw [if_neg g0] at e0
    exact (Evt.imp (Evt.and (e0.evt) (Evt.const (show (-1 : Int) < 0 by omega))) (fun k h => Or.inl (⟨_, h⟩))).rounds
  rw [if_pos g0] at e0
  have n0 : l0.length + total l0 ≤ 1048576 := by omega
  have r0 : ∀ r ∈ l0, r.length ≤ 1048576 := fun r hr => by have := total_mem hr; omega
  obtain ⟨R, S, I, hR⟩ := both l0 w0 n0
  exact (Evt.imp (Evt.and (e0.evt) (Evt.and (Evt.const (show (0 : Int) ≤ (1048576 - l0.length - total l0) by omega)) (Evt.and ((laws_toIntSS_is l0 (by omega) r0).evt) (Evt.and (S.evt) (Evt.and (I.evt) (Evt.and ((laws_eqIntS_self R (by omega)).evt) (Evt.and ((laws_eqIntSS_self l0 (by omega) (fun r hr => by have := r0 r hr; omega)).evt) (Evt.and ((laws_markIntSS_is l0 1 (by omega) (by omega) (by omega)).evt) (Evt.and (Evt.const (show (0 : Int) ≤ (1 + total l0) by omega)) (Evt.and ((laws_markIntS_is R 1 (by omega) (by omega) (by omega)).evt) (Evt.and ((laws_heldIntS_is R.length 1 (by omega) (by omega) (by omega)).evt) (Evt.const (show (0 : Int) ≤ (1 + R.length) by omega))))))))))))) (fun k h => Or.inr (⟨_, R, ((1 + total l0)), (marksL l0 1), ((1 + R.length)), (marks R.length 1), h⟩))).rounds

end Go.Proofs.Ytkhbhbplfgggkaa.Pure
