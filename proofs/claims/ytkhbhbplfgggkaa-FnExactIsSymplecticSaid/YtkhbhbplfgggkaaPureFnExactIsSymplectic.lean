/- Pure side of FnExactIsSymplectic: the printed functions of the program and of the reference answer alike at every input that the statement takes; no condition beyond the printed statement's bounds. -/
import Derived.Test.YtkhbhbplfgggkaaPFnExactIsSymplecticx5
import Derived.Test.YtkhbhbplfgggkaaWSized
set_option linter.unusedVariables false
set_option linter.unusedSimpArgs false
set_option linter.unnecessarySimpa false
set_option maxRecDepth 10000
/-- the printed row calls the print's word by this name -/
abbrev Go.Proofs.Ytkhbhbplfgggkaa.PrintWords.sized_ints := @Go.Proofs.YtkhbhbplfgggkaaW.PrintWords.sized_ints
namespace Go.Proofs.Ytkhbhbplfgggkaa.Pure
open Go.RowKit Go.Proofs.Ytkhbhbplfgggkaa.PFnExactIsSymplectic Go.Proofs.YtkhbhbplfgggkaaW.PrintWords Go.Proofs.YtkhbhbplfgggkaaW.PrintLast Go.Proofs.YtkhbhbplfgggkaaW.PrintMore

/-! ### Base: words of our own, of no program -/
section
theorem w64 {x : Int} (h1 : -9223372036854775808 ≤ x) (h2 : x ≤ 9223372036854775807) : wrap64 x = x := by
  unfold wrap64; omega
theorem wf64 {x : Int} (h : (Lit.int .i64 x).wf = true) : -9223372036854775808 ≤ x ∧ x ≤ 9223372036854775807 := by
  simp only [Lit.wf, IntKind.min, IntKind.max, IntKind.signed, IntKind.bits, Bool.and_eq_true, decide_eq_true_eq, if_true] at h
  omega
/-- from some number of rounds on it answers r -/
structure EV {α : Type} (g : Nat → Option α) (r : α) : Prop where mk :: (out : ∃ K, ∀ k, K ≤ k → g k = some r)
theorem EV.now {α : Type} (r : α) : EV (fun _ => some r) r := ⟨0, fun _ _ => rfl⟩
theorem EV.rounds {α : Type} {g : Nat → Option α} {r : α} (h : EV g r) : ∃ k, g k = some r := by
  obtain ⟨K, h⟩ := h
  exact ⟨K, h K (Nat.le_refl _)⟩
theorem EV.bind {α β : Type} {g : Nat → Option α} {f : Nat → α → Option β} {a : α} {r : β} (h : EV g a) (k : EV (fun n => f n a) r) : EV (fun n => (g n).bind (f n)) r := by
  obtain ⟨K, h⟩ := h
  obtain ⟨K', k⟩ := k
  refine ⟨max K K', fun n hn => ?_⟩
  have h1 := h n (by omega)
  have h2 := k n (by omega)
  simp only [h1, Option.bind_some]
  exact h2
theorem EV.step {α : Type} {g f : Nat → Option α} {r : α} (h : ∀ k, g (k + 1) = f k) (k : EV f r) : EV g r := by
  obtain ⟨K, k⟩ := k
  refine ⟨K + 1, fun n hn => ?_⟩
  obtain ⟨m, rfl⟩ : ∃ m, n = m + 1 := ⟨n - 1, by omega⟩
  rw [h]
  exact k m (by omega)
theorem EV.congr {α : Type} {g f : Nat → Option α} {r : α} (h : ∀ k, g k = f k) (k : EV f r) : EV g r := by
  obtain ⟨K, k⟩ := k
  exact ⟨K, fun n hn => (h n).trans (k n hn)⟩
theorem EV.pos {α : Type} {c : Prop} [Decidable c] {a b : Nat → Option α} {r : α} (h : c) (k : EV a r) : EV (fun n => if c then a n else b n) r :=
  EV.congr (fun n => if_pos h) k
theorem EV.neg {α : Type} {c : Prop} [Decidable c] {a b : Nat → Option α} {r : α} (h : ¬ c) (k : EV b r) : EV (fun n => if c then a n else b n) r :=
  EV.congr (fun n => if_neg h) k
theorem EV.cases {α : Type} {c : Prop} [Decidable c] {a b : Nat → Option α} {r : α} (h : c → EV a r) (h' : ¬ c → EV b r) : EV (fun n => if c then a n else b n) r := by
  by_cases hc : c
  · exact EV.pos hc (h hc)
  · exact EV.neg hc (h' hc)
/-- a callee without rounds -/
theorem EV.by {α β : Type} {g : Option α} {f : Nat → α → Option β} {a : α} {r : β} (h : g = some a) (k : EV (fun n => f n a) r) : EV (fun n => g.bind (f n)) r := by
  subst h; exact k
theorem EV.is {α : Type} {g : Option α} {r : α} (h : g = some r) : EV (fun _ => g) r := ⟨0, fun _ _ => h⟩
theorem EV.eq {α : Type} {g : Nat → Option α} {r r' : α} (h : EV g r) (e : r = r') : EV g r' := e ▸ h
theorem rd_app (pre : List Int) (x : Int) (suf : List Int) : rd (pre ++ x :: suf) (pre.length : Int) = x := by
  simp [rd]
theorem rd_nat (xs : List Int) (i : Nat) (h : i < xs.length) : rd xs (i : Int) = xs[i] := by
  simp [rd, h]
theorem set_app {α : Type} (pre : List α) (x y : α) (suf : List α) (n : Nat) (hn : n = pre.length) : (pre ++ x :: suf).set n y = pre ++ y :: suf := by
  subst hn; simp
end
def smallB (x : Int) : Bool := decide (-1000 ≤ x ∧ x ≤ 1000)
/-- one index on -/
theorem up {α : Type} {x : α} {pre : List α} (h : pre.length < 4611686018427387904) : wrap64 ((pre.length : Int) + 1) = ((pre ++ [x]).length : Int) := by
  rw [w64 (by omega) (by omega)]; simp
theorem lt_app {α : Type} (pre : List α) (x : α) (suf : List α) : (pre.length : Int) < ((pre ++ x :: suf).length : Int) := by simp; omega
def classB (g : Int) (xs : List Int) : Bool := decide (1 ≤ g ∧ g ≤ 3) && (decide ((xs.length : Int) = 2 * g) && xs.all smallB)
theorem EV.uniq {α : Type} {g : Nat → Option α} {r r' : α} (h : EV g r) (h' : EV g r') : r = r' := by
  obtain ⟨K, h⟩ := h
  obtain ⟨K', h'⟩ := h'
  have a := h (max K K') (by omega)
  have b := h' (max K K') (by omega)
  rw [a] at b; exact Option.some.inj b
/-- from some number of rounds on -/
def Evt (P : Nat → Prop) : Prop := ∃ K, ∀ k, K ≤ k → P k
theorem Evt.and {P Q : Nat → Prop} (h : Evt P) (h' : Evt Q) : Evt (fun k => P k ∧ Q k) := by
  obtain ⟨K, h⟩ := h
  obtain ⟨K', h'⟩ := h'
  exact ⟨max K K', fun k hk => ⟨h k (by omega), h' k (by omega)⟩⟩
theorem Evt.const {p : Prop} (h : p) : Evt (fun _ => p) := ⟨0, fun _ _ => h⟩
theorem EV.evt {α : Type} {g : Nat → Option α} {r : α} (h : EV g r) : Evt (fun k => g k = some r) := h.out
theorem Evt.imp {P Q : Nat → Prop} (h : Evt P) (f : ∀ k, P k → Q k) : Evt Q := by
  obtain ⟨K, h⟩ := h
  exact ⟨K, fun k hk => f k (h k hk)⟩
theorem Evt.rounds {P : Nat → Prop} (h : Evt P) : ∃ k, P k := by
  obtain ⟨K, h⟩ := h
  exact ⟨K, h K (Nat.le_refl _)⟩
theorem EV.mono {α : Type} {g : Nat → Option α} (hg : ∀ k, LeO (g k) (g (k + 1))) {k : Nat} {r : α} (h : g k = some r) : EV g r := ⟨k, fun _ hk => at_rounds hg hk h⟩

theorem laws_eqIntS_l0 (xs ys : List Int) (hn : xs.length < 4611686018427387904) : ∀ (suf suf' pre : List Int), pre.length + suf.length = xs.length → pre.length + suf'.length = ys.length → suf.length = suf'.length → xs.drop pre.length = suf → ys.drop pre.length = suf' →
    EV (fun k => laws_eqIntS.l0 k xs ys (pre.length : Int)) (decide (suf = suf')) := by
  intro suf
  induction suf with
  | nil =>
    intro suf' pre h1 h2 h3 h4 h5
    have : suf' = [] := List.eq_nil_of_length_eq_zero (by simpa using h3.symm)
    subst this
    refine EV.step (fun k => by rw [laws_eqIntS.l0]) ?_
    refine (EV.neg ?_ ((EV.now _).eq (by simp)))
    simp at h1; omega
  | cons x suf ih =>
    intro suf' pre h1 h2 h3 h4 h5
    obtain ⟨y, suf', rfl⟩ : ∃ y t, suf' = y :: t := by
      cases suf' with
      | nil => simp at h3
      | cons y t => exact ⟨y, t, rfl⟩
    simp only [List.length_cons] at h1 h2 h3
    have hl : pre.length < 4611686018427387904 := by omega
    have hx : rd xs (pre.length : Int) = x := by
      rw [rd_nat _ _ (by omega)]
      have := List.getElem_drop (xs := xs) (i := pre.length) (j := 0) (h := by simp; omega)
      simp only [h4] at this; simpa using this.symm
    have hy : rd ys (pre.length : Int) = y := by
      rw [rd_nat _ _ (by omega)]
      have := List.getElem_drop (xs := ys) (i := pre.length) (j := 0) (h := by simp; omega)
      simp only [h5] at this; simpa using this.symm
    refine EV.step (fun k => by rw [laws_eqIntS.l0]) ?_
    refine (EV.pos (by omega) (EV.pos (by omega) (EV.pos (by omega) ?_)))
    rw [hx, hy, up (x := x) hl]
    by_cases hs : x = y
    · refine EV.pos hs ((ih suf' _ (by simp; omega) (by simp; omega) (by omega) ?_ ?_).eq (by simp [hs]))
      · rw [List.length_append, ← List.drop_drop, h4]; rfl
      · rw [List.length_append, ← List.drop_drop, h5]; rfl
    · exact (EV.neg hs (EV.now _)).eq (by simp [hs])
theorem laws_eqIntS_is (xs ys : List Int) (hn : xs.length < 4611686018427387904) : EV (fun k => laws_eqIntS.f k xs ys) (decide (xs = ys)) := by
  by_cases h : xs.length = ys.length
  · exact EV.pos (by omega) (laws_eqIntS_l0 xs ys hn xs ys [] (by simp) (by simp) h rfl rfl)
  · exact (EV.neg (by omega) (EV.now _)).eq (by simp; intro e; exact h (by rw [e]))
theorem laws_eqIntS_self (xs : List Int) (hn : xs.length < 4611686018427387904) : EV (fun k => laws_eqIntS.f k xs xs) true := (laws_eqIntS_is xs xs hn).eq (by simp)

def marks : Nat → Int → List Int
  | 0, _ => []
  | n + 1, k => k :: marks n (k + 1)
theorem marks_length (n : Nat) : ∀ k, (marks n k).length = n := by
  induction n with
  | zero => intro k; rfl
  | succ n ih => intro k; simp [marks, ih]

theorem rdL_app (pre : List (List Int)) (x : List Int) (suf : List (List Int)) : rd_L1 (pre ++ x :: suf) (pre.length : Int) = x := by
  simp [rd_L1]
theorem rdL_nat (xs : List (List Int)) (i : Nat) (h : i < xs.length) : rd_L1 xs (i : Int) = xs[i] := by
  simp [rd_L1, h]

def total : List (List Int) → Nat
  | [] => 0
  | r :: rs => r.length + total rs
def marksL : List (List Int) → Int → List (List Int)
  | [], _ => []
  | r :: rs, k => marks r.length k :: marksL rs (k + r.length)
theorem total_mem {r : List Int} : ∀ {xs : List (List Int)}, r ∈ xs → r.length ≤ total xs
  | [], h => by cases h
  | x :: xs, h => by
    rcases List.mem_cons.1 h with rfl | h
    · simp [total]
    · have := total_mem h; simp only [total]; omega
theorem marksL_length : ∀ (xs : List (List Int)) (k : Int), (marksL xs k).length = xs.length
  | [], _ => rfl
  | x :: xs, k => by simp [marksL, marksL_length xs]
/-- what szIntSS answers -/
def szM (xs : List (List Int)) (left : Int) : Int := if (xs.length : Int) + total xs ≤ left then left - xs.length - total xs else -1

theorem laws_eqIntSS_l0 (xs : List (List Int)) (hn : xs.length < 4611686018427387904) (hr : ∀ r ∈ xs, r.length < 4611686018427387904) : ∀ (suf pre : List (List Int)), xs = pre ++ suf →
    EV (fun k => laws_eqIntSS.l0 k xs xs (pre.length : Int)) true := by
  intro suf
  induction suf with
  | nil =>
    intro pre h
    refine EV.step (fun k => by rw [laws_eqIntSS.l0]) ?_
    exact EV.neg (by subst h; simp) (EV.now _)
  | cons x suf ih =>
    intro pre h
    have hl : pre.length < 4611686018427387904 := by subst h; simp at hn; omega
    have hlt : (pre.length : Int) < (xs.length : Int) := by subst h; exact lt_app ..
    have hx : rd_L1 xs (pre.length : Int) = x := by subst h; exact rdL_app ..
    have hx' : x.length < 4611686018427387904 := hr x (by subst h; simp)
    refine EV.step (fun k => by rw [laws_eqIntSS.l0]) ?_
    rw [hx, up (x := x) hl]
    refine EV.pos hlt (EV.pos (by omega) (EV.pos (by omega) (EV.bind (laws_eqIntS_self x hx') (EV.pos rfl ?_))))
    exact ih (pre ++ [x]) (by simp [h])
theorem laws_eqIntSS_self (xs : List (List Int)) (hn : xs.length < 4611686018427387904) (hr : ∀ r ∈ xs, r.length < 4611686018427387904) : EV (fun k => laws_eqIntSS.f k xs xs) true :=
  EV.pos rfl (laws_eqIntSS_l0 xs hn hr xs [] rfl)

theorem laws_szIntS_is (xs : List Int) (left : Int) (h0 : 0 ≤ left) (h1 : left ≤ 1048576) (h2 : xs.length ≤ 9223372036854775807) : laws_szIntS.f xs left = some (if (xs.length : Int) ≤ left then left - xs.length else -1) := by
  unfold laws_szIntS.f
  rw [w64 (by omega) (by omega)]
  by_cases h : (xs.length : Int) ≤ left
  · rw [if_neg (by omega), if_pos h]
  · rw [if_pos (by omega), if_neg h]

theorem laws_szIntSS_l0 (xs : List (List Int)) (hn : xs.length < 4611686018427387904) (hr : ∀ r ∈ xs, r.length ≤ 9223372036854775807) : ∀ (suf pre : List (List Int)) (left : Int), xs = pre ++ suf → 0 ≤ left → left ≤ 1048576 →
    EV (fun k => laws_szIntSS.l0 k xs left (pre.length : Int)) (if (total suf : Int) ≤ left then left - total suf else -1) := by
  intro suf
  induction suf with
  | nil =>
    intro pre left h h0 h1
    refine EV.step (fun k => by rw [laws_szIntSS.l0]) ?_
    exact EV.neg (by subst h; simp) ((EV.now _).eq (by rw [if_pos (by simp [total]; omega)]; simp [total]))
  | cons x suf ih =>
    intro pre left h h0 h1
    have hl : pre.length < 4611686018427387904 := by subst h; simp at hn; omega
    have hlt : (pre.length : Int) < (xs.length : Int) := by subst h; exact lt_app ..
    have hx : rd_L1 xs (pre.length : Int) = x := by subst h; exact rdL_app ..
    have hx' : x.length ≤ 9223372036854775807 := hr x (by subst h; simp)
    refine EV.step (fun k => by rw [laws_szIntSS.l0]) ?_
    rw [hx, up (x := x) hl]
    refine EV.pos hlt (EV.pos (by omega) (EV.by (laws_szIntS_is x left h0 h1 hx') ?_))
    by_cases hs : (x.length : Int) ≤ left
    · rw [if_pos hs]
      refine EV.neg (by omega) ((ih (pre ++ [x]) (left - x.length) (by simp [h]) (by omega) (by omega)).eq ?_)
      have e : total (x :: suf) = x.length + total suf := rfl
      by_cases ht : (total suf : Int) ≤ left - x.length
      · rw [if_pos ht, if_pos (by rw [e]; omega), e]; omega
      · rw [if_neg ht, if_neg (by rw [e]; omega)]
    · rw [if_neg hs]
      exact EV.pos (by omega) ((EV.now _).eq (by rw [if_neg (by simp only [total]; omega)]))
theorem laws_szIntSS_is (xs : List (List Int)) (left : Int) (h0 : 0 ≤ left) (h1 : left ≤ 1048576) (hn : xs.length ≤ 9223372036854775807) (hr : ∀ r ∈ xs, r.length ≤ 9223372036854775807) : EV (fun k => laws_szIntSS.f k xs left) (szM xs left) := by
  unfold szM
  have e : wrap64 (left - (xs.length : Int)) = left - xs.length := w64 (by omega) (by omega)
  refine EV.congr (fun k => by rw [laws_szIntSS.f, e]) ?_
  by_cases h : (xs.length : Int) ≤ left
  · refine EV.neg (by omega) ((laws_szIntSS_l0 xs (by omega) hr xs [] (left - xs.length) rfl (by omega) (by omega)).eq ?_)
    by_cases ht : (total xs : Int) ≤ left - xs.length
    · rw [if_pos ht, if_pos (by omega)]
    · rw [if_neg ht, if_neg (by omega)]
  · exact EV.pos (by omega) ((EV.now _).eq (by rw [if_neg (by omega)]))

theorem laws_toIntS_l0 (xs : List Int) (hn : xs.length < 4611686018427387904) : ∀ suf pre, xs = pre ++ suf → EV (fun k => laws_toIntS.l0 k xs (pre ++ List.replicate suf.length 0) (pre.length : Int)) xs := by
  intro suf
  induction suf with
  | nil =>
    intro pre h
    refine EV.step (fun k => by rw [laws_toIntS.l0]) ?_
    refine (EV.neg ?_ ((EV.now _).eq ?_))
    · subst h; simp
    · subst h; simp
  | cons x suf ih =>
    intro pre h
    have hl : pre.length < 4611686018427387904 := by subst h; simp at hn; omega
    have hlt : (pre.length : Int) < (xs.length : Int) := by subst h; exact lt_app ..
    have hx : rd xs (pre.length : Int) = x := by subst h; exact rd_app ..
    refine EV.step (fun k => by rw [laws_toIntS.l0]) ?_
    refine (EV.pos hlt (EV.pos (by omega) (EV.pos (by simp; omega) ?_)))
    rw [hx, up (x := x) hl, List.length_cons, List.replicate_succ, set_app _ _ _ _ _ (by simp)]
    have := ih (pre ++ [x]) (by simp [h])
    simpa using this
theorem laws_toIntS_is (xs : List Int) (hn : xs.length ≤ 1048576) : EV (fun k => laws_toIntS.f k xs) xs := by
  refine EV.pos (by omega) (EV.pos (by omega) ?_)
  exact laws_toIntS_l0 xs (by omega) xs [] rfl

theorem laws_toIntSS_l0 (xs : List (List Int)) (hn : xs.length < 4611686018427387904) (hr : ∀ r ∈ xs, r.length ≤ 1048576) : ∀ (suf pre : List (List Int)), xs = pre ++ suf →
    EV (fun k => laws_toIntSS.l0 k xs (pre ++ List.replicate suf.length []) (pre.length : Int)) xs := by
  intro suf
  induction suf with
  | nil =>
    intro pre h
    refine EV.step (fun k => by rw [laws_toIntSS.l0]) ?_
    exact EV.neg (by subst h; simp) ((EV.now _).eq (by subst h; simp))
  | cons x suf ih =>
    intro pre h
    have hl : pre.length < 4611686018427387904 := by subst h; simp at hn; omega
    have hlt : (pre.length : Int) < (xs.length : Int) := by subst h; exact lt_app ..
    have hx : rd_L1 xs (pre.length : Int) = x := by subst h; exact rdL_app ..
    have hx' : x.length ≤ 1048576 := hr x (by subst h; simp)
    refine EV.step (fun k => by rw [laws_toIntSS.l0]) ?_
    rw [hx, up (x := x) hl]
    refine EV.pos hlt (EV.pos (by omega) (EV.bind (laws_toIntS_is x hx') (EV.pos (by simp; omega) ?_)))
    rw [List.length_cons, List.replicate_succ, set_app _ _ _ _ _ (by simp)]
    have := ih (pre ++ [x]) (by simp [h])
    simpa using this
theorem laws_toIntSS_is (xs : List (List Int)) (hn : xs.length ≤ 1048576) (hr : ∀ r ∈ xs, r.length ≤ 1048576) : EV (fun k => laws_toIntSS.f k xs) xs := by
  refine EV.pos (by omega) (EV.pos (by omega) ?_)
  exact laws_toIntSS_l0 xs (by omega) hr xs [] rfl

theorem spec_l1In_is (a b c : Int) : spec_l1In.f a b c = some (decide (b ≤ a ∧ a ≤ c)) := by
  unfold spec_l1In.f
  by_cases h : a ≥ b
  · rw [if_pos h]; simp [show b ≤ a from h]
  · rw [if_neg h]; simp; omega

theorem spec_l11Fits_l0 (xs : List Int) (hn : xs.length < 4611686018427387904) : ∀ suf pre, xs = pre ++ suf → EV (fun k => spec_l11Fits.l0 k xs (pre.length : Int)) (suf.all smallB) := by
  intro suf
  induction suf with
  | nil =>
    intro pre h
    refine EV.step (fun k => by rw [spec_l11Fits.l0]) ?_
    exact EV.neg (by subst h; simp) (EV.now _)
  | cons x suf ih =>
    intro pre h
    have hl : pre.length < 4611686018427387904 := by subst h; simp at hn; omega
    have hlt : (pre.length : Int) < (xs.length : Int) := by subst h; exact lt_app ..
    have hx : rd xs (pre.length : Int) = x := by subst h; exact rd_app ..
    refine EV.step (fun k => by rw [spec_l11Fits.l0]) ?_
    refine EV.pos hlt (EV.pos (by omega) (EV.by (spec_l1In_is _ _ _) ?_))
    rw [hx, up (x := x) hl]
    by_cases hs : smallB x = true
    · exact EV.pos hs ((ih (pre ++ [x]) (by simp [h])).eq (by simp [hs]))
    · exact EV.neg hs ((EV.now _).eq (by simp [hs]))
theorem spec_l11Fits_is (xs : List Int) (hn : xs.length < 4611686018427387904) : EV (fun k => spec_l11Fits.f k xs) (xs.all smallB) := spec_l11Fits_l0 xs hn xs [] rfl

theorem gcd_step (a b : Int) : Nat.gcd b.natAbs (Int.tmod a b).natAbs = Nat.gcd a.natAbs b.natAbs := by
  rw [Int.natAbs_tmod, Nat.gcd_comm b.natAbs, ← Nat.gcd_rec, Nat.gcd_comm]
theorem tmod_lt (a b : Int) (h : b ≠ 0) : (Int.tmod a b).natAbs < b.natAbs := by
  rw [Int.natAbs_tmod]; exact Nat.mod_lt _ (by omega)
def slopeB (p q : Int) : Bool := decide (-1000 ≤ p ∧ p ≤ 1000) && (decide (0 ≤ q ∧ q ≤ 1000) && (decide (Nat.gcd p.natAbs q.natAbs = 1) && (decide (0 < q) || decide (p = 1))))
/-- p, q by their greatest common divisor, the sign so that q is above 0, or p -/
def lowM (p q : Int) : Int × Int :=
  let d : Int := (Nat.gcd p.natAbs q.natAbs : Nat)
  if q < 0 ∨ (q = 0 ∧ p < 0) then (-(p.tdiv d), -(q.tdiv d)) else (p.tdiv d, q.tdiv d)
def slopeOfM (p q : Int) : Int × Int × Bool :=
  if -1000 ≤ p ∧ p ≤ 1000 then (if -1000 ≤ q ∧ q ≤ 1000 then (if p = 0 ∧ q = 0 then (0, 0, false) else ((lowM p q).1, (lowM p q).2, true)) else (0, 0, false)) else (0, 0, false)
theorem low_of (p q : Int) (hp : -1000 ≤ p ∧ p ≤ 1000) (hq : -1000 ≤ q ∧ q ≤ 1000) (hz : ¬ (p = 0 ∧ q = 0)) :
    ∃ d a b : Int, ((Nat.gcd p.natAbs q.natAbs : Nat) : Int) = d ∧ 0 < d ∧ d ≤ 1000 ∧ p.tdiv d = a ∧ q.tdiv d = b ∧ p = d * a ∧ q = d * b ∧ -1000 ≤ a ∧ a ≤ 1000 ∧ -1000 ≤ b ∧ b ≤ 1000 ∧ (q < 0 ↔ b < 0) ∧ (q = 0 ↔ b = 0) ∧ (p < 0 ↔ a < 0) := by
  have hg : 0 < Nat.gcd p.natAbs q.natAbs := by
    rcases Nat.eq_zero_or_pos (Nat.gcd p.natAbs q.natAbs) with h | h
    · have := Nat.gcd_eq_zero_iff.1 h; omega
    · exact h
  have h1 : Nat.gcd p.natAbs q.natAbs ≤ 1000 := by
    by_cases h : p = 0
    · have := Nat.gcd_le_right p.natAbs (n := q.natAbs) (by omega); omega
    · have := Nat.gcd_le_left q.natAbs (m := p.natAbs) (by omega); omega
  obtain ⟨a, ha⟩ : ∃ a, p = ((Nat.gcd p.natAbs q.natAbs : Nat) : Int) * a := Int.ofNat_dvd_left.2 (Nat.gcd_dvd_left ..)
  obtain ⟨b, hb⟩ : ∃ b, q = ((Nat.gcd p.natAbs q.natAbs : Nat) : Int) * b := Int.ofNat_dvd_left.2 (Nat.gcd_dvd_right ..)
  generalize hd : ((Nat.gcd p.natAbs q.natAbs : Nat) : Int) = d at *
  have hdp : 0 < d := by omega
  have e1 : p.tdiv d = a := by rw [ha]; exact Int.mul_tdiv_cancel_left _ (by omega)
  have e2 : q.tdiv d = b := by rw [hb]; exact Int.mul_tdiv_cancel_left _ (by omega)
  have bnd : ∀ x y : Int, x = d * y → -1000 ≤ x → x ≤ 1000 → -1000 ≤ y ∧ y ≤ 1000 ∧ (x < 0 ↔ y < 0) ∧ (x = 0 ↔ y = 0) := by
    intro x y h h1 h2
    have k1 : 0 < y → y ≤ d * y := fun hy => by have := Int.mul_le_mul_of_nonneg_right (show 1 ≤ d by omega) (show 0 ≤ y by omega); omega
    have k2 : y < 0 → d * y ≤ y := fun hy => by have := Int.mul_le_mul_of_nonpos_right (show 1 ≤ d by omega) (show y ≤ 0 by omega); omega
    have k3 : y = 0 → d * y = 0 := fun hy => by rw [hy]; simp
    rw [← h] at k1 k2 k3
    rcases Int.lt_trichotomy y 0 with hy | hy | hy
    · have := k2 hy; omega
    · have := k3 hy; omega
    · have := k1 hy; omega
  have B1 := bnd p a ha hp.1 hp.2
  have B2 := bnd q b hb hq.1 hq.2
  exact ⟨d, a, b, rfl, hdp, by omega, e1, e2, ha, hb, by omega, by omega, by omega, by omega, B2.2.2.1, B2.2.2.2, B1.2.2.1⟩

def crossM (a b c d : Int) : Int := if slopeB a b = true ∧ slopeB c d = true then ((a * d - b * c).natAbs : Int) else -1
theorem slopeB_bd {p q : Int} (h : slopeB p q = true) : -1000 ≤ p ∧ p ≤ 1000 ∧ 0 ≤ q ∧ q ≤ 1000 ∧ Nat.gcd p.natAbs q.natAbs = 1 ∧ (0 < q ∨ p = 1) := by
  unfold slopeB at h
  simp only [Bool.and_eq_true, Bool.or_eq_true, decide_eq_true_eq] at h
  omega
/-- a product of two numbers of bounded size -/
theorem mul_bd {x y : Int} (A B : Nat) (hx : x.natAbs ≤ A) (hy : y.natAbs ≤ B) : (x * y).natAbs ≤ A * B := by
  rw [Int.natAbs_mul]; exact Nat.mul_le_mul hx hy
theorem cross_w {a b c d : Int} (h1 : slopeB a b = true) (h2 : slopeB c d = true) : wrap64 (a * d) = a * d ∧ wrap64 (b * c) = b * c ∧ (a * d - b * c).natAbs ≤ 2000000 := by
  have b1 := slopeB_bd h1
  have b2 := slopeB_bd h2
  have m1 := mul_bd (x := a) (y := d) 1000 1000 (by omega) (by omega)
  have m2 := mul_bd (x := b) (y := c) 1000 1000 (by omega) (by omega)
  refine ⟨w64 (by omega) (by omega), w64 (by omega) (by omega), by omega⟩

def formM : List Int → List Int → Int
  | a :: b :: xs, c :: d :: ys => (a * d - b * c) + formM xs ys
  | _, _ => 0
theorem smallB_bd {x : Int} (h : smallB x = true) : -1000 ≤ x ∧ x ≤ 1000 := by simpa [smallB] using h
theorem form_term {a b c d : Int} (ha : smallB a = true) (hb : smallB b = true) (hc : smallB c = true) (hd : smallB d = true) : (a * d).natAbs ≤ 1000000 ∧ (b * c).natAbs ≤ 1000000 := by
  have := smallB_bd ha; have := smallB_bd hb; have := smallB_bd hc; have := smallB_bd hd
  exact ⟨mul_bd 1000 1000 (by omega) (by omega), mul_bd 1000 1000 (by omega) (by omega)⟩
theorem formM_bd : ∀ (n : Nat) (xs ys : List Int), xs.length ≤ n → xs.all smallB = true → ys.all smallB = true → (formM xs ys).natAbs ≤ 1000000 * xs.length
  | 0, xs, ys, hn, _, _ => by
    have : xs = [] := List.eq_nil_of_length_eq_zero (by omega)
    subst this; simp [formM]
  | n + 1, xs, ys, hn, hx, hy => by
    match xs, ys with
    | a :: b :: xs, c :: d :: ys =>
      simp only [List.all_cons, Bool.and_eq_true, List.length_cons] at hx hy hn
      have t := form_term hx.1 hx.2.1 hy.1 hy.2.1
      have r := formM_bd n xs ys (by omega) hx.2.2 hy.2.2
      simp only [formM, List.length_cons]; omega
    | [], _ => simp [formM]
    | [_], _ => simp [formM]
    | _ :: _ :: _, [] => simp [formM]
    | _ :: _ :: _, [_] => simp [formM]
theorem rd_app1 (pre : List Int) (x y : Int) (suf : List Int) (i : Int) (h : i = pre.length + 1) : rd (pre ++ x :: y :: suf) i = y := by
  subst h
  have := rd_app (pre ++ [x]) y suf
  simpa using this

def rowB (n : Nat) (r : List Int) : Bool := decide (r.length = n) && r.all smallB
def tableB (t : List (List Int)) : Bool := t.all (rowB t.length) && decide (1 ≤ t.length ∧ t.length ≤ 6)
def dot : List Int → List Int → Int
  | a :: r, b :: x => a * b + dot r x
  | _, _ => 0
def outM (o : List Int) : List Int × Bool := if o.all smallB = true then (o, true) else ([], false)
def applyM (t : List (List Int)) (x : List Int) : List Int × Bool :=
  if tableB t = true ∧ x.length = t.length ∧ x.all smallB = true then outM (t.map fun r => dot r x) else ([], false)
theorem rowB_of {n : Nat} {r : List Int} (h : rowB n r = true) : r.length = n ∧ r.all smallB = true := by simpa [rowB] using h
theorem term_bd {a b : Int} (ha : smallB a = true) (hb : smallB b = true) : (a * b).natAbs ≤ 1000000 := by
  have := smallB_bd ha; have := smallB_bd hb
  exact mul_bd 1000 1000 (by omega) (by omega)
theorem tableB_of {t : List (List Int)} (h : tableB t = true) : (∀ r ∈ t, r.length = t.length ∧ r.all smallB = true) ∧ 1 ≤ t.length ∧ t.length ≤ 6 := by
  unfold tableB at h
  rw [Bool.and_eq_true, List.all_eq_true, decide_eq_true_iff] at h
  exact ⟨fun r hr => rowB_of (h.1 r hr), h.2⟩
theorem applyM_len (t : List (List Int)) (x : List Int) : (applyM t x).1.length ≤ 6 := by
  unfold applyM
  split
  · rename_i h
    have := (tableB_of h.1).2
    unfold outM
    split
    · simp; omega
    · simp
  · simp

theorem spec_l11Table_l0 (t : List (List Int)) (hn : t.length < 4611686018427387904) (hr : ∀ r ∈ t, r.length < 4611686018427387904) : ∀ (suf pre : List (List Int)), t = pre ++ suf →
    EV (fun k => spec_l11Table.l0 k t (pre.length : Int)) (suf.all (rowB t.length) && decide (1 ≤ t.length ∧ t.length ≤ 6)) := by
  intro suf
  induction suf with
  | nil =>
    intro pre h
    refine EV.step (fun k => by rw [spec_l11Table.l0]) ?_
    refine EV.neg (by subst h; simp) (EV.by (spec_l1In_is _ _ _) ((EV.now _).eq ?_))
    rw [Bool.eq_iff_iff]; simp; omega
  | cons x suf ih =>
    intro pre h
    have hl : pre.length < 4611686018427387904 := by subst h; simp at hn; omega
    have hlt : (pre.length : Int) < (t.length : Int) := by subst h; exact lt_app ..
    have hx : rd_L1 t (pre.length : Int) = x := by subst h; exact rdL_app ..
    have hx' : x.length < 4611686018427387904 := hr x (by subst h; simp)
    refine EV.step (fun k => by rw [spec_l11Table.l0]) ?_
    rw [hx, up (x := x) hl]
    refine EV.pos hlt (EV.pos (by omega) ?_)
    by_cases h2 : x.length = t.length
    · refine EV.pos (by omega) (EV.bind (spec_l11Fits_is x hx') ?_)
      by_cases hs : x.all smallB = true
      · exact EV.pos hs ((ih (pre ++ [x]) (by simp [h])).eq (by rw [List.all_cons, show rowB t.length x = true by simp only [rowB, h2, hs, decide_true, Bool.and_self], Bool.true_and]))
      · exact EV.neg hs ((EV.now _).eq (by rw [List.all_cons, show rowB t.length x = false by simp only [rowB, Bool.not_eq_true] at hs ⊢; rw [hs, Bool.and_false], Bool.false_and, Bool.false_and]))
    · exact EV.neg (by omega) ((EV.now _).eq (by rw [List.all_cons, show rowB t.length x = false by simp only [rowB, h2, decide_false, Bool.false_and], Bool.false_and, Bool.false_and]))
theorem spec_l11Table_is (t : List (List Int)) (hn : t.length < 4611686018427387904) (hr : ∀ r ∈ t, r.length < 4611686018427387904) : EV (fun k => spec_l11Table.f k t) (tableB t) := spec_l11Table_l0 t hn hr t [] rfl

theorem spec_l11Form_l0 : ∀ (n : Nat) (sx sy px py : List Int) (acc : Int), sx.length ≤ n → px.length = py.length → sx.length = sy.length → sx.all smallB = true → sy.all smallB = true → px.length + sx.length < 1000000 →
    acc.natAbs + 1000000 * sx.length ≤ 1000000000000000 → EV (fun k => spec_l11Form.l0 k (px ++ sx) (py ++ sy) acc (px.length : Int)) (acc + formM sx sy) := by
  intro n
  induction n with
  | zero =>
    intro sx sy px py acc hn hp hs _ _ hl _
    have e : sx = [] := List.eq_nil_of_length_eq_zero (by omega)
    subst e
    refine EV.step (fun k => by rw [spec_l11Form.l0]) ?_
    rw [w64 (by omega) (by omega)]
    exact EV.neg (by simp; omega) ((EV.now _).eq (by simp [formM]))
  | succ n ih =>
    intro sx sy px py acc hn hp hs h1 h2 hl ha
    match sx, sy with
    | [], _ =>
      refine EV.step (fun k => by rw [spec_l11Form.l0]) ?_
      rw [w64 (by omega) (by omega)]
      exact EV.neg (by simp; omega) ((EV.now _).eq (by simp [formM]))
    | [_], _ =>
      refine EV.step (fun k => by rw [spec_l11Form.l0]) ?_
      rw [w64 (by omega) (by omega)]
      exact EV.neg (by simp) ((EV.now _).eq (by simp [formM]))
    | _ :: _ :: _, [] => simp at hs
    | _ :: _ :: _, [_] => simp at hs
    | a :: b :: xs, c :: d :: ys =>
      simp only [List.all_cons, Bool.and_eq_true, List.length_cons] at h1 h2 hn hs hl ha
      have t := form_term h1.1 h1.2.1 h2.1 h2.2.1
      refine EV.step (fun k => by rw [spec_l11Form.l0]) ?_
      rw [w64 (x := (px.length : Int) + 1) (by omega) (by omega), w64 (x := (px.length : Int) + 2) (by omega) (by omega)]
      refine EV.pos (by simp; omega) (EV.pos (by omega) (EV.pos (by simp; omega) (EV.pos (by omega) (EV.pos (by simp; omega) (EV.pos (by simp; omega) ?_)))))
      have e3 : rd (py ++ c :: d :: ys) (px.length : Int) = c := by rw [hp]; exact rd_app ..
      rw [rd_app, e3, rd_app1 px a b xs _ rfl, rd_app1 py c d ys _ (by rw [hp])]
      rw [w64 (x := a * d) (by omega) (by omega), w64 (x := b * c) (by omega) (by omega)]
      rw [w64 (x := acc + a * d) (by omega) (by omega), w64 (by omega) (by omega)]
      have := ih xs ys (px ++ [a, b]) (py ++ [c, d]) (acc + (a * d - b * c)) (by omega) (by simp; omega) (by omega) h1.2.2 h2.2.2 (by simp; omega) (by omega)
      simp only [List.append_assoc, List.cons_append, List.nil_append, List.length_append, List.length_cons, List.length_nil] at this
      have e : acc + a * d - b * c = acc + (a * d - b * c) := by omega
      rw [e]
      refine EV.congr (fun k => ?_) (this.eq (by simp only [formM]; omega))
      congr 1
theorem spec_l11Form_is (xs ys : List Int) (hs : xs.length = ys.length) (h1 : xs.all smallB = true) (h2 : ys.all smallB = true) (hl : xs.length ≤ 1000) : EV (fun k => spec_l11Form.f k xs ys) (formM xs ys) :=
  (spec_l11Form_l0 xs.length xs ys [] [] 0 (Nat.le_refl _) rfl hs h1 h2 (by simp; omega) (by simp; omega)).eq (by simp)

/-- column j of t -/
def colL (t : List (List Int)) (j : Nat) : List Int := t.map fun r => r.getD j 0
/-- the products of s with the columns below n, from column j on: none if one fails -/
def colsM (s t : List (List Int)) : Nat → Nat → Option (List (List Int))
  | 0, _ => some []
  | n + 1, j => if (applyM s (colL t j)).2 = true then (colsM s t n (j + 1)).map ((applyM s (colL t j)).1 :: ·) else none
/-- columns to rows -/
def rowsOf (n : Nat) (cs : List (List Int)) : List (List Int) := (List.range n).map fun i => cs.map fun c => c.getD i 0
def timesM (s t : List (List Int)) : List (List Int) × Bool :=
  if tableB s = true ∧ tableB t = true ∧ s.length = t.length then
    (match colsM s t t.length 0 with
     | some cs => (rowsOf t.length cs, true)
     | none => ([], false))
  else ([], false)
def mixM (n : Nat) (t cs : List (List Int)) : List (List Int) := (List.range n).map fun i => (cs.map fun c => c.getD i 0) ++ (t.getD i []).drop cs.length
def resM (n : Nat) (cs : List (List Int)) : Option (List (List Int)) → List (List Int) × Bool
  | some cs' => (rowsOf n (cs ++ cs'), true)
  | none => ([], false)
theorem rowsOf_snoc (n : Nat) (cs : List (List Int)) (own : List Int) (h : own.length = n) : List.zipWith (fun r v => r ++ [v]) (rowsOf n cs) own = rowsOf n (cs ++ [own]) := by
  apply List.ext_getElem
  · simp [rowsOf, h]
  · intro i h1 h2
    have hi : i < own.length := by simp [rowsOf] at h1; omega
    simp [rowsOf, hi]
theorem mixM_snoc (n : Nat) (t cs : List (List Int)) (own : List Int) (h : own.length = n) (ht : t.length = n) (hr : ∀ r ∈ t, cs.length < r.length) : List.zipWith (fun r v => r.set cs.length v) (mixM n t cs) own = mixM n t (cs ++ [own]) := by
  apply List.ext_getElem
  · simp [mixM, h]
  · intro i h1 h2
    have hi : i < own.length := by simp [mixM] at h1; omega
    have hit : i < t.length := by omega
    have hri : cs.length < (t[i]).length := hr _ (List.getElem_mem hit)
    simp only [mixM, List.getElem_zipWith, List.getElem_map, List.getElem_range, List.getD_eq_getElem?_getD, List.getElem?_eq_getElem hit, Option.getD_some, List.map_append, List.map_cons, List.map_nil, List.length_append, List.length_cons, List.length_nil, List.getElem?_eq_getElem hi]
    rw [List.drop_eq_getElem_cons hri, set_app _ _ _ _ _ (by simp)]
    simp
theorem mixM_full (n : Nat) (t cs : List (List Int)) (ht : t.length = n) (hr : ∀ r ∈ t, r.length = n) (hc : cs.length = n) : mixM n t cs = rowsOf n cs := by
  unfold mixM rowsOf
  apply List.map_congr_left
  intro i hi
  have hit : i < t.length := by rw [ht]; exact List.mem_range.1 hi
  have : (t[i]).length = n := hr _ (List.getElem_mem hit)
  rw [List.getD_eq_getElem?_getD, List.getElem?_eq_getElem hit, Option.getD_some, hc, List.drop_of_length_le (by omega), List.append_nil]
theorem mixM_nil (n : Nat) (t : List (List Int)) (ht : t.length = n) : mixM n t [] = t := by
  apply List.ext_getElem
  · simp [mixM, ht]
  · intro i h1 h2
    simp [mixM, h2]
theorem rowsOf_nil (n : Nat) : rowsOf n [] = List.replicate n [] := by
  apply List.ext_getElem
  · simp [rowsOf]
  · intro i h1 h2
    simp [rowsOf]
theorem rd_col (r : List Int) (j : Nat) : rd r (j : Int) = r.getD j 0 := by simp [rd]
theorem applyM_ok {s : List (List Int)} {x : List Int} (h : (applyM s x).2 = true) : tableB s = true ∧ x.length = s.length ∧ x.all smallB = true ∧ (applyM s x).1.length = s.length := by
  unfold applyM at h ⊢
  by_cases c : tableB s = true ∧ x.length = s.length ∧ x.all smallB = true
  · rw [if_pos c] at h ⊢
    refine ⟨c.1, c.2.1, c.2.2, ?_⟩
    unfold outM at h ⊢
    split
    · simp
    · rename_i hn; rw [if_neg hn] at h; cases h
  · rw [if_neg c] at h; cases h
theorem colsM_len {s t : List (List Int)} : ∀ {n j : Nat} {cs : List (List Int)}, colsM s t n j = some cs → cs.length = n
  | 0, j, cs, h => by simp only [colsM] at h; rw [← Option.some.inj h]; rfl
  | n + 1, j, cs, h => by
    simp only [colsM] at h
    split at h
    · obtain ⟨cs', h', rfl⟩ := Option.map_eq_some_iff.1 h
      simp [colsM_len h']
    · cases h
theorem colsM_all {s t : List (List Int)} : ∀ {n j : Nat} {cs : List (List Int)}, colsM s t n j = some cs → ∀ i, j ≤ i → i < j + n → (applyM s (colL t i)).2 = true
  | 0, j, cs, h, i, h1, h2 => by omega
  | n + 1, j, cs, h, i, h1, h2 => by
    simp only [colsM] at h
    split at h
    · rename_i hc
      obtain ⟨cs', h', rfl⟩ := Option.map_eq_some_iff.1 h
      by_cases e : i = j
      · rw [e]; exact hc
      · exact colsM_all h' i (by omega) (by omega)
    · cases h
theorem times_eq (s t : List (List Int)) (h0 : t.length ≠ 0) (hs : ∀ r ∈ t, r.length = t.length) : timesM s t = resM t.length [] (colsM s t t.length 0) := by
  unfold timesM
  by_cases c : tableB s = true ∧ tableB t = true ∧ s.length = t.length
  · rw [if_pos c]
    rcases colsM s t t.length 0 with _ | cs <;> rfl
  · rw [if_neg c]
    rcases hc : colsM s t t.length 0 with _ | cs
    · rfl
    · exfalso
      have A := colsM_all hc
      have a0 := applyM_ok (A 0 (by omega) (by omega))
      have hl : s.length = t.length := by have := a0.2.1; simp [colL] at this; omega
      refine c ⟨a0.1, ?_, hl⟩
      unfold tableB
      rw [Bool.and_eq_true, List.all_eq_true, decide_eq_true_iff]
      have bs := (tableB_of a0.1).2
      refine ⟨fun r hr => ?_, by omega⟩
      unfold rowB
      rw [Bool.and_eq_true, decide_eq_true_iff, List.all_eq_true]
      refine ⟨hs r hr, fun x hx => ?_⟩
      obtain ⟨j, hj, rfl⟩ := List.mem_iff_getElem.1 hx
      have hrl := hs r hr
      have aj := (applyM_ok (A j (by omega) (by omega))).2.2.1
      rw [List.all_eq_true] at aj
      refine aj _ (List.mem_map.2 ⟨r, hr, ?_⟩)
      rw [List.getD_eq_getElem?_getD, List.getElem?_eq_getElem hj]; rfl
theorem timesM_sz (s t : List (List Int)) : (timesM s t).1.length ≤ 6 ∧ ∀ r ∈ (timesM s t).1, r.length ≤ 6 := by
  unfold timesM
  split
  · rename_i h
    have := (tableB_of h.2.1).2
    rcases hc : colsM s t t.length 0 with _ | cs
    · simp
    · have hl := colsM_len hc
      refine ⟨by simp [rowsOf]; omega, fun r hr => ?_⟩
      simp only [rowsOf, List.mem_map] at hr
      obtain ⟨i, _, rfl⟩ := hr
      simp; omega
  · simp
theorem total_le {n : Nat} : ∀ {xs : List (List Int)}, (∀ r ∈ xs, r.length ≤ n) → total xs ≤ n * xs.length
  | [], _ => by simp [total]
  | x :: xs, h => by
    have h1 := h x (by simp)
    have h2 := total_le (xs := xs) (fun r hr => h r (by simp [hr]))
    simp only [total, List.length_cons, Nat.mul_add]; omega

/-- a loop that looks at each member and answers early, or goes on -/
theorem EV.scan {α : Type} {g : Nat → Int → Option Bool} (xs : List α) (p : α → Bool) (fin : Bool)
    (hs : ∀ (i : Nat) (h : i < xs.length) (r : Bool), (p xs[i] = true → EV (fun k => g k ((i : Int) + 1)) r) → (p xs[i] = false → r = false) → EV (fun k => g k (i : Int)) r)
    (hf : EV (fun k => g k (xs.length : Int)) fin) : EV (fun k => g k 0) (xs.all p && fin) := by
  suffices h : ∀ (n i : Nat), i + n = xs.length → EV (fun k => g k (i : Int)) ((xs.drop i).all p && fin) by
    have := h xs.length 0 (by omega)
    simpa using this
  intro n
  induction n with
  | zero =>
    intro i hi
    have e : i = xs.length := by omega
    subst e
    simpa using hf
  | succ n ih =>
    intro i hi
    have hlt : i < xs.length := by omega
    have e : xs.drop i = xs[i] :: xs.drop (i + 1) := List.drop_eq_getElem_cons hlt
    rw [e, List.all_cons]
    refine hs i hlt _ (fun hp => ?_) (fun hp => by simp [hp])
    rw [hp, Bool.true_and]
    exact_mod_cast ih (i + 1) (by omega)
/-- what a loop over the members answers: the state is carried on, or an answer is given early -/
def runM {α σ ρ : Type} (f : σ → α → σ ⊕ ρ) (fin : σ → ρ) : σ → List α → ρ
  | s, [] => fin s
  | s, x :: xs => (match f s x with
    | .inl s' => runM f fin s' xs
    | .inr r => r)
theorem EV.run {α σ ρ : Type} {g : Nat → σ → Int → Option ρ} (xs : List α) (f : σ → α → σ ⊕ ρ) (fin : σ → ρ) (I : Nat → σ → Prop)
    (hs : ∀ (i : Nat) (h : i < xs.length) (s : σ) (r : ρ), I i s → (∀ s', f s xs[i] = .inl s' → I (i + 1) s' → EV (fun k => g k s' ((i : Int) + 1)) r) → (∀ a, f s xs[i] = .inr a → r = a) → EV (fun k => g k s (i : Int)) r)
    (hf : ∀ s, I xs.length s → EV (fun k => g k s (xs.length : Int)) (fin s)) : ∀ s, I 0 s → EV (fun k => g k s 0) (runM f fin s xs) := by
  suffices h : ∀ (n i : Nat), i + n = xs.length → ∀ s, I i s → EV (fun k => g k s (i : Int)) (runM f fin s (xs.drop i)) by
    intro s hI
    have := h xs.length 0 (by omega) s hI
    simpa using this
  intro n
  induction n with
  | zero =>
    intro i hi s hI
    have e : i = xs.length := by omega
    subst e
    simpa [runM] using hf s hI
  | succ n ih =>
    intro i hi s hI
    have hlt : i < xs.length := by omega
    have e : xs.drop i = xs[i] :: xs.drop (i + 1) := List.drop_eq_getElem_cons hlt
    rw [e]
    refine hs i hlt s _ hI (fun s' h' hI' => ?_) (fun a ha => by simp [runM, ha])
    have := ih (i + 1) (by omega) s' hI'
    simp only [runM, h']
    exact_mod_cast this
/-- a fold over the members -/
theorem EV.fold {α σ ρ : Type} {g : Nat → σ → Int → Option ρ} (xs : List α) (f : σ → α → σ) (fin : σ → ρ) (I : Nat → σ → Prop)
    (hs : ∀ (i : Nat) (h : i < xs.length) (s : σ) (r : ρ), I i s → (I (i + 1) (f s xs[i]) → EV (fun k => g k (f s xs[i]) ((i : Int) + 1)) r) → EV (fun k => g k s (i : Int)) r)
    (hf : ∀ s, I xs.length s → EV (fun k => g k s (xs.length : Int)) (fin s)) : ∀ s, I 0 s → EV (fun k => g k s 0) (fin (xs.foldl f s)) := by
  suffices h : ∀ (n i : Nat), i + n = xs.length → ∀ s, I i s → EV (fun k => g k s (i : Int)) (fin ((xs.drop i).foldl f s)) by
    intro s hI
    have := h xs.length 0 (by omega) s hI
    simpa using this
  intro n
  induction n with
  | zero =>
    intro i hi s hI
    have e : i = xs.length := by omega
    subst e
    simpa using hf s hI
  | succ n ih =>
    intro i hi s hI
    have hlt : i < xs.length := by omega
    have e : xs.drop i = xs[i] :: xs.drop (i + 1) := List.drop_eq_getElem_cons hlt
    rw [e, List.foldl_cons]
    refine hs i hlt s _ hI (fun hI' => ?_)
    exact_mod_cast ih (i + 1) (by omega) _ hI'
/-- a loop that changes each member of a list once, in order -/
theorem EV.zip {α β ρ : Type} {g : Nat → List α → Int → Option ρ} (upd : α → β → α) (t : List α) (x : List β) (hl : t.length = x.length) (r : ρ)
    (hs : ∀ (i : Nat) (h : i < t.length) (h' : i < x.length) (s : List α), s.length = t.length → s[i]? = some t[i] → EV (fun k => g k (s.set i (upd t[i] x[i])) ((i : Int) + 1)) r → EV (fun k => g k s (i : Int)) r)
    (hf : EV (fun k => g k (List.zipWith upd t x) (t.length : Int)) r) : EV (fun k => g k t 0) r := by
  suffices h : ∀ (n i : Nat), i + n = t.length → EV (fun k => g k (List.zipWith upd (t.take i) (x.take i) ++ t.drop i) (i : Int)) r by
    have := h t.length 0 (by omega)
    simpa using this
  intro n
  induction n with
  | zero =>
    intro i hi
    have e : i = t.length := by omega
    subst e
    rw [List.take_length, List.drop_length, List.append_nil, hl, List.take_length, ← hl]
    exact hf
  | succ n ih =>
    intro i hi
    have h1 : i < t.length := by omega
    have h2 : i < x.length := by omega
    have e : t.drop i = t[i] :: t.drop (i + 1) := List.drop_eq_getElem_cons h1
    have hz : (List.zipWith upd (t.take i) (x.take i)).length = i := by simp; omega
    refine hs i h1 h2 _ (by simp; omega) ?_ ?_
    · rw [List.getElem?_append_right (by omega), hz, Nat.sub_self, e]; rfl
    · have := ih (i + 1) (by omega)
      rw [e, set_app _ _ _ _ _ hz.symm]
      have e2 : List.zipWith upd (t.take (i + 1)) (x.take (i + 1)) = List.zipWith upd (t.take i) (x.take i) ++ [upd t[i] x[i]] := by
        rw [List.take_succ_eq_append_getElem h1, List.take_succ_eq_append_getElem h2, List.zipWith_append (by simp; omega)]; rfl
      rw [e2, List.append_assoc, List.singleton_append] at this
      exact_mod_cast this
/-- counting up to n, the state told by the count -/
theorem EV.count {σ ρ : Type} {g : Nat → σ → Int → Option ρ} (n : Nat) (f : Nat → σ) (r : ρ)
    (hs : ∀ i, i < n → EV (fun k => g k (f (i + 1)) ((i : Int) + 1)) r → EV (fun k => g k (f i) (i : Int)) r)
    (hf : EV (fun k => g k (f n) (n : Int)) r) : EV (fun k => g k (f 0) 0) r := by
  suffices h : ∀ (m i : Nat), i + m = n → EV (fun k => g k (f i) (i : Int)) r by exact h n 0 (by omega)
  intro m
  induction m with
  | zero => intro i hi; have : i = n := by omega
            subst this; exact hf
  | succ m ih => intro i hi; exact hs i (by omega) (by exact_mod_cast ih (i + 1) (by omega))
/-- counting up to n with an early answer -/
theorem EV.countB {g : Nat → Int → Option Bool} (n : Nat) (p : Nat → Bool) (fin : Bool)
    (hs : ∀ (i : Nat) (h : i < n) (r : Bool), (p i = true → EV (fun k => g k ((i : Int) + 1)) r) → (p i = false → r = false) → EV (fun k => g k (i : Int)) r)
    (hf : EV (fun k => g k (n : Int)) fin) : EV (fun k => g k 0) ((List.range n).all p && fin) := by
  refine EV.scan (List.range n) p fin (fun i h r H1 H2 => ?_) (by rw [List.length_range]; exact hf)
  rw [List.getElem_range] at H1 H2
  exact hs i (by simpa using h) r H1 H2
/-- counting up to n with an early answer, into what comes behind -/
theorem EV.countC {ρ : Type} {g : Nat → Int → Option ρ} (n : Nat) (p : Nat → Bool) (r early : ρ)
    (hs : ∀ i, i < n → (p i = true → EV (fun k => g k ((i : Int) + 1)) r) → (p i = false → r = early) → EV (fun k => g k (i : Int)) r)
    (hf : (List.range n).all p = true → EV (fun k => g k (n : Int)) r) (he : (List.range n).all p = false → r = early) : EV (fun k => g k 0) r := by
  suffices h : ∀ (m i : Nat), i + m = n → (∀ j, j < i → p j = true) → EV (fun k => g k (i : Int)) r by exact h n 0 (by omega) (fun j hj => by omega)
  intro m
  induction m with
  | zero =>
    intro i hi ha
    have : i = n := by omega
    subst this
    exact hf (by rw [List.all_eq_true]; intro x hx; exact ha x (List.mem_range.1 hx))
  | succ m ih =>
    intro i hi ha
    refine hs i (by omega) (fun hp => ?_) (fun hp => he ?_)
    · have := ih (i + 1) (by omega) (fun j hj => by
        by_cases e : j = i
        · rw [e]; exact hp
        · exact ha j (by omega))
      exact_mod_cast this
    · rw [List.all_eq_false]
      exact ⟨i, List.mem_range.2 (by omega), by simp [hp]⟩
/-- looking at each member with an early answer, into what comes behind -/
theorem EV.scanC {α ρ : Type} {g : Nat → Int → Option ρ} (xs : List α) (p : α → Bool) (r early : ρ)
    (hs : ∀ (i : Nat) (h : i < xs.length), (p xs[i] = true → EV (fun k => g k ((i : Int) + 1)) r) → (p xs[i] = false → r = early) → EV (fun k => g k (i : Int)) r)
    (hf : xs.all p = true → EV (fun k => g k (xs.length : Int)) r) (he : xs.all p = false → r = early) : EV (fun k => g k 0) r := by
  have e : xs.all p = (List.range xs.length).all (fun i => (xs[i]?.map p).getD true) := by
    rw [Bool.eq_iff_iff, List.all_eq_true, List.all_eq_true]
    constructor
    · intro h i hi
      have := List.mem_range.1 hi
      simpa [this] using h _ (List.getElem_mem this)
    · intro h x hx
      obtain ⟨i, hi, rfl⟩ := List.mem_iff_getElem.1 hx
      have := h i (List.mem_range.2 hi)
      simpa [hi] using this
  rw [e] at hf he
  refine EV.countC xs.length _ r early (fun i hi H1 H2 => ?_) hf he
  exact hs i hi (fun h => H1 (by simpa [hi] using h)) (fun h => H2 (by simpa [hi] using h))
theorem wrap_01 : wrap64 ((0 : Int) + 1) = 1 := by rw [w64 (by omega) (by omega)]; rfl
theorem wrap_11 : wrap64 ((1 : Int) + 1) = 2 := by rw [w64 (by omega) (by omega)]; rfl
theorem wrap_1 : wrap64 1 = 1 := w64 (by omega) (by omega)

def unitM (n i : Nat) : List Int := (List.replicate n 0).set i 1
theorem unitM_length (n i : Nat) : (unitM n i).length = n := by simp [unitM]
theorem unitM_small (n i : Nat) : (unitM n i).all smallB = true := by
  rw [List.all_eq_true]
  intro x hx
  rcases List.mem_or_eq_of_mem_set hx with h | h
  · rw [(List.mem_replicate.1 h).2]; rfl
  · rw [h]; rfl
theorem getElem_rdL (s : List (List Int)) (i : Nat) (r : List Int) (h : s[i]? = some r) : rd_L1 s (i : Int) = r := by
  simp [rd_L1, h]

theorem spec_l11Unit_is (n i : Nat) (hn : n ≤ 1000) (hi : i < n) : spec_l11Unit.f (n : Int) (i : Int) = some (unitM n i) := by
  unfold spec_l11Unit.f
  rw [if_pos (by omega), if_pos (by omega)]
  simp only [Option.bind_some]
  rw [if_pos (by omega), if_pos (by simp; omega)]
  rfl

def symB (g : Int) (t : List (List Int)) : Bool :=
  decide (1 ≤ g ∧ g ≤ 3) && decide ((t.length : Int) = 2 * g) && tableB t &&
    ((List.range t.length).all fun i => (List.range t.length).all fun j => decide (formM (colL t i) (colL t j) = formM (unitM t.length i) (unitM t.length j)))
theorem colL_length (t : List (List Int)) (j : Nat) : (colL t j).length = t.length := by simp [colL]
theorem colL_small {t : List (List Int)} (h : tableB t = true) (j : Nat) (hj : j < t.length) : (colL t j).all smallB = true := by
  have a := tableB_of h
  rw [List.all_eq_true]
  intro x hx
  simp only [colL, List.mem_map] at hx
  obtain ⟨r, hr, rfl⟩ := hx
  have b := a.1 r hr
  rw [List.getD_eq_getElem?_getD, List.getElem?_eq_getElem (by omega)]
  exact List.all_eq_true.1 b.2 _ (List.getElem_mem _)
theorem rowsOf_get (t : List (List Int)) (n i : Nat) (h : i < n) : rd_L1 (rowsOf n t) (i : Int) = colL t i := by
  simp [rd_L1, rowsOf, colL, h]

theorem spec_IsSymplectic_l2 (g : Int) (t : List (List Int)) (i j : Nat) (ht : tableB t = true) (hg : (t.length : Int) = 2 * g) (hi : i < t.length) (hj : j < t.length) (r : Bool)
    (H1 : formM (colL t i) (colL t j) = formM (unitM t.length i) (unitM t.length j) → EV (fun k => spec_IsSymplectic.l1 k g t (i : Int) ((j : Int) + 1)) r)
    (H2 : ¬ formM (colL t i) (colL t j) = formM (unitM t.length i) (unitM t.length j) → r = false) : EV (fun k => spec_IsSymplectic.l2 k g t (i : Int) (j : Int) [] [] 0) r := by
  have a := tableB_of ht
  have e2 : wrap64 (2 * g) = (t.length : Int) := by rw [w64 (by omega) (by omega), hg]
  refine EV.count (g := fun k s n => spec_IsSymplectic.l2 k g t (i : Int) (j : Int) s.1 s.2 n) t.length (fun n => (((colL t i).take n, (colL t j).take n) : List Int × List Int)) r (fun n hn H => ?_) ?_
  · have b := a.1 _ (List.getElem_mem hn)
    have ci : n < (colL t i).length := by rw [colL_length]; exact hn
    have cj : n < (colL t j).length := by rw [colL_length]; exact hn
    have gi : (colL t i)[n] = t[n][i]'(by omega) := by
      simp only [colL, List.getElem_map, List.getD_eq_getElem?_getD]
      rw [List.getElem?_eq_getElem (by omega), Option.getD_some]
    have gj : (colL t j)[n] = t[n][j]'(by omega) := by
      simp only [colL, List.getElem_map, List.getD_eq_getElem?_getD]
      rw [List.getElem?_eq_getElem (by omega), Option.getD_some]
    refine EV.step (fun k => by rw [spec_IsSymplectic.l2]) ?_
    rw [e2, rdL_nat _ _ hn, rd_nat _ _ (by omega), rd_nat _ _ (by omega), w64 (x := (n : Int) + 1) (by omega) (by omega)]
    refine EV.pos (by omega) (EV.pos (by omega) (EV.pos (by omega) (EV.pos (by omega) (EV.pos (by omega) (EV.pos (by simp; omega) (EV.pos (by omega) (EV.pos (by omega) (EV.pos (by simp; omega) ?_))))))))
    simp only [List.take_succ_eq_append_getElem ci, List.take_succ_eq_append_getElem cj, gi, gj] at H
    exact H
  · have lu : ∀ x : Nat, (unitM t.length x).length = t.length := fun x => unitM_length _ _
    simp only [show ∀ x, (colL t x).take t.length = colL t x from fun x => List.take_of_length_le (by rw [colL_length]; omega)]
    refine EV.step (fun k => by rw [spec_IsSymplectic.l2]) ?_
    rw [e2, w64 (x := (j : Int) + 1) (by omega) (by omega)]
    refine EV.neg (by omega) (EV.bind (spec_l11Form_is _ _ (by rw [colL_length, colL_length]) (colL_small ht i hi) (colL_small ht j hj) (by rw [colL_length]; omega)) ?_)
    refine EV.by (spec_l11Unit_is _ _ (by omega) hi) (EV.by (spec_l11Unit_is _ _ (by omega) hj) ?_)
    refine EV.bind (spec_l11Form_is _ _ (by rw [lu, lu]) (unitM_small _ _) (unitM_small _ _) (by rw [lu]; omega)) ?_
    exact EV.cases H1 fun c => (EV.now _).eq (H2 c).symm
theorem spec_IsSymplectic_is (g : Int) (t : List (List Int)) (hg : (Lit.int .i64 g).wf = true) (hn : t.length < 4611686018427387904) (hr : ∀ r ∈ t, r.length < 4611686018427387904) : EV (fun k => spec_IsSymplectic.f k g t) (symB g t) := by
  have no : EV (fun k => spec_IsSymplectic.j0 k g t true) false := by
    refine EV.step (fun k => by rw [spec_IsSymplectic.j0]) ?_
    exact EV.pos rfl (EV.now _)
  unfold symB
  refine EV.by (spec_l1In_is _ _ _) ?_
  by_cases h1 : 1 ≤ g ∧ g ≤ 3
  · have e2 : wrap64 (2 * g) = 2 * g := w64 (by omega) (by omega)
    refine EV.pos (by simpa using h1) ?_
    rw [show decide (1 ≤ g ∧ g ≤ 3) = true by simpa using h1, Bool.true_and]
    by_cases h2 : (t.length : Int) = 2 * g
    · refine EV.pos (by rw [e2]; exact h2) (EV.bind (spec_l11Table_is t hn hr) ?_)
      rw [show decide ((t.length : Int) = 2 * g) = true by simpa using h2, Bool.true_and]
      by_cases h3 : tableB t = true
      · rw [h3, Bool.true_and, ← Bool.and_true (List.all _ _)]
        refine EV.step (fun k => by rw [spec_IsSymplectic.j0]) ?_
        refine EV.neg (by simp) ?_
        refine EV.countB (g := fun k i => spec_IsSymplectic.l0 k g t i) t.length _ true (fun i hi r H1 H2 => ?_) ?_
        · refine EV.step (fun k => by rw [spec_IsSymplectic.l0]) ?_
          rw [e2]
          refine EV.pos (by omega) ?_
          refine EV.countC (g := fun k j => spec_IsSymplectic.l1 k g t (i : Int) j) t.length (fun j => decide (formM (colL t i) (colL t j) = formM (unitM t.length i) (unitM t.length j))) r false (fun j hj A B => ?_) (fun h => ?_) H2
          · refine EV.step (fun k => by rw [spec_IsSymplectic.l1]) ?_
            rw [e2]
            exact EV.pos (by omega) (spec_IsSymplectic_l2 g t i j h3 h2 hi hj r (fun c => A (by simpa using c)) (fun c => B (by simpa using c)))
          · refine EV.step (fun k => by rw [spec_IsSymplectic.l1]) ?_
            rw [e2, w64 (x := (i : Int) + 1) (by omega) (by omega)]
            exact EV.neg (by omega) (H1 h)
        · refine EV.step (fun k => by rw [spec_IsSymplectic.l0]) ?_
          rw [e2]
          exact EV.neg (by omega) (EV.now _)
      · rw [show tableB t = false by simpa using h3, Bool.false_and]; exact no
    · rw [show decide ((t.length : Int) = 2 * g) = false by simpa using h2, Bool.false_and, Bool.false_and]
      exact EV.neg (by rw [e2]; exact h2) no
  · rw [show decide (1 ≤ g ∧ g ≤ 3) = false by simpa using h1, Bool.false_and, Bool.false_and, Bool.false_and]
    exact EV.neg (by simpa using h1) no

theorem impl_within_is (a b c : Int) : impl_within.f a b c = some (decide (b ≤ a ∧ a ≤ c)) := by
  unfold impl_within.f
  by_cases h : a ≥ b
  · rw [if_pos h]; simp [show b ≤ a from h]
  · rw [if_neg h]; simp; omega

theorem impl_areSmall_l0 (xs : List Int) (hn : xs.length < 4611686018427387904) : ∀ suf pre, xs = pre ++ suf → EV (fun k => impl_areSmall.l0 k xs (xs.length : Int) (pre.length : Int)) (suf.all smallB) := by
  intro suf
  induction suf with
  | nil =>
    intro pre h
    refine EV.step (fun k => by rw [impl_areSmall.l0]) ?_
    exact EV.neg (by subst h; simp) (EV.now _)
  | cons x suf ih =>
    intro pre h
    have hl : pre.length < 4611686018427387904 := by subst h; simp at hn; omega
    have hlt : (pre.length : Int) < (xs.length : Int) := by subst h; exact lt_app ..
    have hx : rd xs (pre.length : Int) = x := by subst h; exact rd_app ..
    refine EV.step (fun k => by rw [impl_areSmall.l0]) ?_
    refine EV.pos hlt (EV.pos (by omega) (EV.pos hlt (EV.by (impl_within_is _ _ _) ?_)))
    rw [hx, up (x := x) hl]
    by_cases hs : smallB x = true
    · exact EV.pos hs ((ih (pre ++ [x]) (by simp [h])).eq (by simp [hs]))
    · exact EV.neg hs ((EV.now _).eq (by simp [hs]))
theorem impl_areSmall_is (xs : List Int) (hn : xs.length < 4611686018427387904) : EV (fun k => impl_areSmall.f k xs) (xs.all smallB) := impl_areSmall_l0 xs hn xs [] rfl

theorem impl_form_l0 : ∀ (n : Nat) (sx sy px py : List Int) (acc : Int), sx.length ≤ n → px.length = py.length → sx.length = sy.length → sx.all smallB = true → sy.all smallB = true → px.length + sx.length < 1000000 →
    acc.natAbs + 1000000 * sx.length ≤ 1000000000000000 → EV (fun k => impl_form.l0 k (px ++ sx) (py ++ sy) acc (px.length : Int)) (acc + formM sx sy) := by
  intro n
  induction n with
  | zero =>
    intro sx sy px py acc hn hp hs _ _ hl _
    have e : sx = [] := List.eq_nil_of_length_eq_zero (by omega)
    subst e
    refine EV.step (fun k => by rw [impl_form.l0]) ?_
    rw [w64 (by omega) (by omega)]
    exact EV.neg (by simp; omega) ((EV.now _).eq (by simp [formM]))
  | succ n ih =>
    intro sx sy px py acc hn hp hs h1 h2 hl ha
    match sx, sy with
    | [], _ =>
      refine EV.step (fun k => by rw [impl_form.l0]) ?_
      rw [w64 (by omega) (by omega)]
      exact EV.neg (by simp; omega) ((EV.now _).eq (by simp [formM]))
    | [_], _ =>
      refine EV.step (fun k => by rw [impl_form.l0]) ?_
      rw [w64 (by omega) (by omega)]
      exact EV.neg (by simp) ((EV.now _).eq (by simp [formM]))
    | _ :: _ :: _, [] => simp at hs
    | _ :: _ :: _, [_] => simp at hs
    | a :: b :: xs, c :: d :: ys =>
      simp only [List.all_cons, Bool.and_eq_true, List.length_cons] at h1 h2 hn hs hl ha
      have t := form_term h1.1 h1.2.1 h2.1 h2.2.1
      refine EV.step (fun k => by rw [impl_form.l0]) ?_
      rw [w64 (x := (px.length : Int) + 1) (by omega) (by omega), w64 (x := (px.length : Int) + 2) (by omega) (by omega)]
      refine EV.pos (by simp; omega) (EV.pos (by omega) (EV.pos (by simp; omega) (EV.pos (by omega) (EV.pos (by simp; omega) (EV.pos (by simp; omega) ?_)))))
      have e3 : rd (py ++ c :: d :: ys) (px.length : Int) = c := by rw [hp]; exact rd_app ..
      rw [rd_app, e3, rd_app1 px a b xs _ rfl, rd_app1 py c d ys _ (by rw [hp])]
      rw [w64 (x := a * d) (by omega) (by omega), w64 (x := b * c) (by omega) (by omega)]
      rw [w64 (x := a * d - b * c) (by omega) (by omega), w64 (by omega) (by omega)]
      have := ih xs ys (px ++ [a, b]) (py ++ [c, d]) (acc + (a * d - b * c)) (by omega) (by simp; omega) (by omega) h1.2.2 h2.2.2 (by simp; omega) (by omega)
      simp only [List.append_assoc, List.cons_append, List.nil_append, List.length_append, List.length_cons, List.length_nil] at this
      refine EV.congr (fun k => ?_) (this.eq (by simp only [formM]; omega))
      congr 1
theorem impl_form_is (xs ys : List Int) (hs : xs.length = ys.length) (h1 : xs.all smallB = true) (h2 : ys.all smallB = true) (hl : xs.length ≤ 1000) : EV (fun k => impl_form.f k xs ys) (formM xs ys) :=
  (impl_form_l0 xs.length xs ys [] [] 0 (Nat.le_refl _) rfl hs h1 h2 (by simp; omega) (by simp; omega)).eq (by simp)

theorem impl_unit_is (n i : Nat) (hn : n ≤ 1000) (hi : i < n) : impl_unit.f (n : Int) (i : Int) = some (unitM n i) := by
  unfold impl_unit.f
  rw [if_pos (by omega), if_pos (by omega)]
  simp only [Option.bind_some]
  rw [if_pos (by omega), if_pos (by simp; omega)]
  rfl

theorem impl_IsSymplectic_l3 (g : Int) (t : List (List Int)) (ht : tableB t = true) (hg : (t.length : Int) = 2 * g) : EV (fun k => impl_IsSymplectic.l2 k g (rowsOf t.length t) (t.length : Int) 0)
    ((List.range t.length).all fun i => (List.range t.length).all fun j => decide (formM (colL t i) (colL t j) = formM (unitM t.length i) (unitM t.length j))) := by
  have a := tableB_of ht
  have e2 : wrap64 (2 * g) = (t.length : Int) := by rw [w64 (by omega) (by omega), hg]
  have hl : (rowsOf t.length t).length = t.length := by simp [rowsOf]
  have lu : ∀ x : Nat, (unitM t.length x).length = t.length := fun x => unitM_length _ _
  rw [← Bool.and_true (List.all _ _)]
  refine EV.countB (g := fun k i => impl_IsSymplectic.l2 k g (rowsOf t.length t) (t.length : Int) i) t.length _ true (fun i hi r H1 H2 => ?_) ?_
  · refine EV.step (fun k => by rw [impl_IsSymplectic.l2]) ?_
    rw [hl]
    refine EV.pos (by omega) ?_
    refine EV.countC (g := fun k j => impl_IsSymplectic.l3 k g (rowsOf t.length t) (i : Int) (t.length : Int) (i : Int) (t.length : Int) j) t.length (fun j => decide (formM (colL t i) (colL t j) = formM (unitM t.length i) (unitM t.length j))) r false (fun j hj A B => ?_) (fun h => ?_) H2
    · refine EV.step (fun k => by rw [impl_IsSymplectic.l3]) ?_
      rw [e2, hl, rowsOf_get _ _ _ hi, rowsOf_get _ _ _ hj, w64 (x := (j : Int) + 1) (by omega) (by omega)]
      refine EV.pos (by omega) (EV.pos (by omega) (EV.pos (by omega) (EV.pos (by omega) (EV.pos (by omega) ?_))))
      refine EV.bind (impl_form_is _ _ (by rw [colL_length, colL_length]) (colL_small ht i hi) (colL_small ht j hj) (by rw [colL_length]; omega)) ?_
      refine EV.by (impl_unit_is _ _ (by omega) hi) (EV.by (impl_unit_is _ _ (by omega) hj) ?_)
      refine EV.bind (impl_form_is _ _ (by rw [lu, lu]) (unitM_small _ _) (unitM_small _ _) (by rw [lu]; omega)) ?_
      exact EV.cases (fun c => A (by simpa using c)) (fun c => (EV.now _).eq (B (by simpa using c)).symm)
    · refine EV.step (fun k => by rw [impl_IsSymplectic.l3]) ?_
      rw [w64 (x := (i : Int) + 1) (by omega) (by omega)]
      exact EV.neg (by omega) (H1 h)
  · refine EV.step (fun k => by rw [impl_IsSymplectic.l2]) ?_
    exact EV.neg (by omega) (EV.now _)
theorem impl_IsSymplectic_l0 (g : Int) (t : List (List Int)) (hg : (t.length : Int) = 2 * g) (h6 : t.length ≤ 6) (h1 : 1 ≤ t.length) (hr : ∀ r ∈ t, r.length < 4611686018427387904) : ∀ (suf pre : List (List Int)), t = pre ++ suf → (∀ r ∈ pre, r.length = t.length ∧ r.all smallB = true) →
    EV (fun k => impl_IsSymplectic.l0 k g (rowsOf t.length pre) t (t.length : Int) (pre.length : Int))
      (suf.all (rowB t.length) && ((List.range t.length).all fun i => (List.range t.length).all fun j => decide (formM (colL t i) (colL t j) = formM (unitM t.length i) (unitM t.length j)))) := by
  have e2 : wrap64 (2 * g) = (t.length : Int) := by rw [w64 (by omega) (by omega), hg]
  intro suf
  induction suf with
  | nil =>
    intro pre h hp
    have e : pre = t := by simp [h]
    subst e
    refine EV.step (fun k => by rw [impl_IsSymplectic.l0]) ?_
    have ht : tableB pre = true := by
      unfold tableB
      rw [Bool.and_eq_true, List.all_eq_true, decide_eq_true_iff]
      exact ⟨fun r hr => by unfold rowB; rw [Bool.and_eq_true, decide_eq_true_iff]; exact hp r hr, by omega⟩
    rw [show ((rowsOf pre.length pre).length : Int) = (pre.length : Int) by simp [rowsOf]]
    exact EV.neg (by omega) (impl_IsSymplectic_l3 g pre ht hg)
  | cons row suf ih =>
    intro pre h hp
    have hl' : pre.length < 1048576 := by subst h; simp at h6; omega
    have hlt : (pre.length : Int) < (t.length : Int) := by subst h; exact lt_app ..
    have hx : rd_L1 t (pre.length : Int) = row := by subst h; exact rdL_app ..
    have hrow := hr row (by subst h; simp)
    have no : EV (fun k => impl_IsSymplectic.j2 k g (rowsOf t.length pre) row t (t.length : Int) (pre.length : Int) true) false := by
      refine EV.step (fun k => by rw [impl_IsSymplectic.j2]) ?_
      exact EV.pos rfl (EV.now _)
    refine EV.step (fun k => by rw [impl_IsSymplectic.l0]) ?_
    rw [e2, hx]
    refine EV.pos hlt (EV.pos (by omega) (EV.pos hlt ?_))
    rw [List.all_cons]
    by_cases h2 : row.length = t.length
    · refine EV.pos (by omega) (EV.bind (impl_areSmall_is row hrow) ?_)
      by_cases h3 : row.all smallB = true
      · rw [show rowB t.length row = true by simp only [rowB, h2, h3, decide_true, Bool.and_self], Bool.true_and, h3]
        refine EV.step (fun k => by rw [impl_IsSymplectic.j2]) ?_
        refine EV.neg (by simp) ?_
        refine EV.zip (g := fun k s i => impl_IsSymplectic.l1 k g s t (t.length : Int) (pre.length : Int) row (row.length : Int) i) (fun r v => r ++ [v]) (rowsOf t.length pre) row (by simp [rowsOf, h2]) _ (fun i a1 a2 s hs hsi H => ?_) ?_
        · have hri : ((rowsOf t.length pre)[i]).length = pre.length := by simp [rowsOf]
          have hm : (rowsOf t.length pre).length = t.length := by simp [rowsOf]
          refine EV.step (fun k => by rw [impl_IsSymplectic.l1]) ?_
          rw [getElem_rdL _ _ _ hsi, rd_nat _ _ a2, w64 (x := (i : Int) + 1) (by omega) (by omega)]
          refine EV.pos (by omega) (EV.pos (by omega) (EV.pos (by omega) (EV.pos (by omega) (EV.pos (by omega) ?_))))
          simpa using H
        · rw [rowsOf_snoc _ _ _ h2]
          refine EV.step (fun k => by rw [impl_IsSymplectic.l1]) ?_
          rw [up (pre := pre) (x := row) (by omega)]
          refine EV.neg (by simp [rowsOf]; omega) ?_
          refine ih (pre ++ [row]) (by simp [h]) (fun r hr' => ?_)
          rcases List.mem_append.1 hr' with h' | h'
          · exact hp r h'
          · rw [List.mem_singleton.1 h']; exact ⟨h2, h3⟩
      · rw [show rowB t.length row = false by simp only [rowB, Bool.not_eq_true] at h3 ⊢; rw [h3, Bool.and_false], Bool.false_and, Bool.false_and]
        rw [show row.all smallB = false by simpa using h3]
        exact no
    · rw [show rowB t.length row = false by simp only [rowB, h2, decide_false, Bool.false_and], Bool.false_and, Bool.false_and]
      exact EV.neg (by omega) no
theorem impl_IsSymplectic_is (g : Int) (t : List (List Int)) (hn : t.length < 4611686018427387904) (hr : ∀ r ∈ t, r.length < 4611686018427387904) : EV (fun k => impl_IsSymplectic.f k g t) (symB g t) := by
  have no : EV (fun k => impl_IsSymplectic.j0 k g t true) false := by
    refine EV.step (fun k => by rw [impl_IsSymplectic.j0]) ?_
    exact EV.pos rfl (EV.now _)
  unfold symB
  refine EV.by (impl_within_is _ _ _) ?_
  by_cases h1 : 1 ≤ g ∧ g ≤ 3
  · have e2 : wrap64 (2 * g) = 2 * g := w64 (by omega) (by omega)
    refine EV.pos (by simpa using h1) ?_
    rw [show decide (1 ≤ g ∧ g ≤ 3) = true by simpa using h1, Bool.true_and]
    by_cases h2 : (t.length : Int) = 2 * g
    · rw [show decide ((t.length : Int) = 2 * g) = true by simpa using h2, Bool.true_and, e2, show ((t.length : Int) != 2 * g) = false by simp [h2]]
      refine EV.step (fun k => by rw [impl_IsSymplectic.j0]) ?_
      rw [e2, ← h2]
      refine EV.neg (by simp) (EV.pos (by omega) (EV.pos (by omega) ?_))
      have := impl_IsSymplectic_l0 g t h2 (by omega) (by omega) hr t [] rfl (by simp)
      rw [rowsOf_nil] at this
      refine EV.congr (fun k => rfl) (this.eq ?_)
      unfold tableB
      rw [show decide (1 ≤ t.length ∧ t.length ≤ 6) = true by simp; omega, Bool.and_true]
    · rw [show decide ((t.length : Int) = 2 * g) = false by simpa using h2, Bool.false_and, Bool.false_and, e2, show ((t.length : Int) != 2 * g) = true by simpa using h2]
      exact no
  · rw [show decide (1 ≤ g ∧ g ≤ 3) = false by simpa using h1, Bool.false_and, Bool.false_and, Bool.false_and]
    exact EV.neg (by simpa using h1) no

theorem both (g : Int) (wg : (Lit.int .i64 g).wf = true) (t : List (List Int)) (ht : ∀ r ∈ t, r.length ≤ maxLen ∧ ∀ x ∈ r, (Lit.int .i64 x).wf = true) (n : t.length + total t ≤ 1048576) :
    ∃ R : Bool, EV (fun k => spec_IsSymplectic.f k g t) R ∧ EV (fun k => impl_IsSymplectic.f k g t) R ∧ True := by
  have h1 : ∀ r ∈ t, r.length < 4611686018427387904 := fun r hr => by have := total_mem hr; omega
  exact ⟨symB g t, spec_IsSymplectic_is g t wg (by omega) h1, impl_IsSymplectic_is g t (by omega) h1, trivial⟩

theorem FnExactIsSymplectic (a0 : Int) (w0 : (Lit.int .i64 a0).wf = true) (l1 : List (List Int)) (x1 : l1.length ≤ maxLen) (w1 : ∀ r ∈ l1, r.length ≤ maxLen ∧ ∀ x ∈ r, (Lit.int .i64 x).wf = true) : ∃ k, laws_FnExactIsSymplectic.f k a0 l1 = some true := by
  refine EV.rounds ?_
  have r1x : ∀ r ∈ l1, r.length ≤ 9223372036854775807 := fun r hr => by have := (w1 r hr).1; unfold maxLen at this; omega
  refine EV.bind (laws_szIntSS_is l1 (1048576) (by omega) (by omega) (by unfold maxLen at x1; omega) r1x) ?_
  unfold szM
  by_cases g1 : ((l1.length : Int) + total l1 ≤ 1048576)
  rotate_left
  · rw [if_neg g1]; exact EV.pos (by omega) (EV.now _)
  rw [if_pos g1]
  refine EV.neg (by omega) ?_
  have n1 : l1.length + total l1 ≤ 1048576 := by omega
  have r1 : ∀ r ∈ l1, r.length ≤ 1048576 := fun r hr => by have := total_mem hr; omega
  have q1 : ∀ r ∈ l1, r.length < 4611686018427387904 := fun r hr => by have := total_mem hr; omega
  obtain ⟨R, S, I, hR⟩ := both a0 w0 l1 w1 n1
  repeat (first
    | exact EV.now _
    | (refine EV.bind (laws_toIntS_is _ (by omega)) ?_)
    | (refine EV.bind (laws_toIntSS_is _ (by omega) (by assumption)) ?_)
    | (refine EV.bind S ?_)
    | (refine EV.bind I ?_)
    | (refine EV.bind (laws_eqIntS_self _ (by omega)) ?_)
    | (refine EV.bind (laws_eqIntSS_self _ (by omega) (by assumption)) ?_)
    | (refine EV.pos rfl ?_)
    | (refine EV.neg (by first | omega | (simp; done)) ?_)
    | (refine EV.pos (by first | omega | (simp; done)) ?_)
    | dsimp only)

end Go.Proofs.Ytkhbhbplfgggkaa.Pure
