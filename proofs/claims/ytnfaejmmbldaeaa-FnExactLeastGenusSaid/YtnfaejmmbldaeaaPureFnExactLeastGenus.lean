/- Pure side of FnExactLeastGenus: the printed functions of the program and of the reference answer alike at every input that the statement takes; no condition beyond the printed statement's bounds. -/
import Derived.Test.YtnfaejmmbldaeaaPFnExactLeastGenusx12
import Derived.Test.YtnfaejmmbldaeaaWSized
set_option linter.unusedVariables false
set_option linter.unusedSimpArgs false
set_option linter.unnecessarySimpa false
set_option maxRecDepth 10000
/-- the printed row calls the print's word by this name -/
abbrev Go.Proofs.Ytnfaejmmbldaeaa.PrintWords.sized_ints := @Go.Proofs.YtnfaejmmbldaeaaW.PrintWords.sized_ints
namespace Go.Proofs.Ytnfaejmmbldaeaa.Pure
open Go.RowKit Go.Proofs.Ytnfaejmmbldaeaa.PFnExactLeastGenus Go.Proofs.YtnfaejmmbldaeaaW.PrintWords Go.Proofs.YtnfaejmmbldaeaaW.PrintLast Go.Proofs.YtnfaejmmbldaeaaW.PrintMore

/-! ### Base: words of our own, of no program -/
section
theorem w64 {x : Int} (h1 : -9223372036854775808 ≤ x) (h2 : x ≤ 9223372036854775807) : wrap64 x = x := by
  unfold wrap64; omega
/-- from some number of rounds on it answers r -/
structure EV {α : Type} (g : Nat → Option α) (r : α) : Prop where mk :: (out : ∃ K, ∀ k, K ≤ k → g k = some r)
theorem EV.now {α : Type} (r : α) : EV (fun _ => some r) r := ⟨0, fun _ _ => rfl⟩
theorem EV.rounds {α : Type} {g : Nat → Option α} {r : α} (h : EV g r) : ∃ k, g k = some r := by
  obtain ⟨K, h⟩ := h
  exact ⟨K, h K (Nat.le_refl _)⟩
theorem EV.bind {α β : Type} {g : Nat → Option α} {f : Nat → α → Option β} {a : α} {r : β} (h : EV g a) (k : EV (fun n => f n a) r) : EV (fun n => (g n).bind (f n)) r := by
  obtain ⟨K, h⟩ := h
  obtain ⟨K', k⟩ := k
  refine ⟨max K K', fun n hn => ?_⟩
  have h1 := h n (by omega)
  have h2 := k n (by omega)
  simp only [h1, Option.bind_some]
  exact h2
theorem EV.step {α : Type} {g f : Nat → Option α} {r : α} (h : ∀ k, g (k + 1) = f k) (k : EV f r) : EV g r := by
  obtain ⟨K, k⟩ := k
  refine ⟨K + 1, fun n hn => ?_⟩
  obtain ⟨m, rfl⟩ : ∃ m, n = m + 1 := ⟨n - 1, by omega⟩
  rw [h]
  exact k m (by omega)
theorem EV.congr {α : Type} {g f : Nat → Option α} {r : α} (h : ∀ k, g k = f k) (k : EV f r) : EV g r := by
  obtain ⟨K, k⟩ := k
  exact ⟨K, fun n hn => (h n).trans (k n hn)⟩
theorem EV.pos {α : Type} {c : Prop} [Decidable c] {a b : Nat → Option α} {r : α} (h : c) (k : EV a r) : EV (fun n => if c then a n else b n) r :=
  EV.congr (fun n => if_pos h) k
theorem EV.neg {α : Type} {c : Prop} [Decidable c] {a b : Nat → Option α} {r : α} (h : ¬ c) (k : EV b r) : EV (fun n => if c then a n else b n) r :=
  EV.congr (fun n => if_neg h) k
theorem EV.cases {α : Type} {c : Prop} [Decidable c] {a b : Nat → Option α} {r : α} (h : c → EV a r) (h' : ¬ c → EV b r) : EV (fun n => if c then a n else b n) r := by
  by_cases hc : c
  · exact EV.pos hc (h hc)
  · exact EV.neg hc (h' hc)
/-- a callee without rounds -/
theorem EV.by {α β : Type} {g : Option α} {f : Nat → α → Option β} {a : α} {r : β} (h : g = some a) (k : EV (fun n => f n a) r) : EV (fun n => g.bind (f n)) r := by
  subst h; exact k
theorem EV.eq {α : Type} {g : Nat → Option α} {r r' : α} (h : EV g r) (e : r = r') : EV g r' := e ▸ h
theorem rd_app (pre : List Int) (x : Int) (suf : List Int) : rd (pre ++ x :: suf) (pre.length : Int) = x := by
  simp [rd]
theorem rd_nat (xs : List Int) (i : Nat) (h : i < xs.length) : rd xs (i : Int) = xs[i] := by
  simp [rd, h]
theorem set_app {α : Type} (pre : List α) (x y : α) (suf : List α) (n : Nat) (hn : n = pre.length) : (pre ++ x :: suf).set n y = pre ++ y :: suf := by
  subst hn; simp
end
/-- one index on -/
theorem up {α : Type} {x : α} {pre : List α} (h : pre.length < 4611686018427387904) : wrap64 ((pre.length : Int) + 1) = ((pre ++ [x]).length : Int) := by
  rw [w64 (by omega) (by omega)]; simp
theorem lt_app {α : Type} (pre : List α) (x : α) (suf : List α) : (pre.length : Int) < ((pre ++ x :: suf).length : Int) := by simp; omega
theorem EV.uniq {α : Type} {g : Nat → Option α} {r r' : α} (h : EV g r) (h' : EV g r') : r = r' := by
  obtain ⟨K, h⟩ := h
  obtain ⟨K', h'⟩ := h'
  have a := h (max K K') (by omega)
  have b := h' (max K K') (by omega)
  rw [a] at b; exact Option.some.inj b
/-- from some number of rounds on -/
def Evt (P : Nat → Prop) : Prop := ∃ K, ∀ k, K ≤ k → P k
theorem Evt.imp {P Q : Nat → Prop} (h : Evt P) (f : ∀ k, P k → Q k) : Evt Q := by
  obtain ⟨K, h⟩ := h
  exact ⟨K, fun k hk => f k (h k hk)⟩
theorem Evt.rounds {P : Nat → Prop} (h : Evt P) : ∃ k, P k := by
  obtain ⟨K, h⟩ := h
  exact ⟨K, h K (Nat.le_refl _)⟩
theorem EV.mono {α : Type} {g : Nat → Option α} (hg : ∀ k, LeO (g k) (g (k + 1))) {k : Nat} {r : α} (h : g k = some r) : EV g r := ⟨k, fun _ hk => at_rounds hg hk h⟩

theorem laws_szIntS_is (xs : List Int) (left : Int) (h0 : 0 ≤ left) (h1 : left ≤ 1048576) (h2 : xs.length ≤ 9223372036854775807) : laws_szIntS.f xs left = some (if (xs.length : Int) ≤ left then left - xs.length else -1) := by
  unfold laws_szIntS.f
  rw [w64 (by omega) (by omega)]
  by_cases h : (xs.length : Int) ≤ left
  · rw [if_neg (by omega), if_pos h]
  · rw [if_pos (by omega), if_neg h]

theorem rdL_app (pre : List (List Int)) (x : List Int) (suf : List (List Int)) : rd_L1 (pre ++ x :: suf) (pre.length : Int) = x := by
  simp [rd_L1]
theorem rdL_nat (xs : List (List Int)) (i : Nat) (h : i < xs.length) : rd_L1 xs (i : Int) = xs[i] := by
  simp [rd_L1, h]

def total : List (List Int) → Nat
  | [] => 0
  | r :: rs => r.length + total rs
theorem total_mem {r : List Int} : ∀ {xs : List (List Int)}, r ∈ xs → r.length ≤ total xs
  | [], h => by cases h
  | x :: xs, h => by
    rcases List.mem_cons.1 h with rfl | h
    · simp [total]
    · have := total_mem h; simp only [total]; omega
/-- what szIntSS answers -/
def szM (xs : List (List Int)) (left : Int) : Int := if (xs.length : Int) + total xs ≤ left then left - xs.length - total xs else -1

theorem laws_szIntSS_l0 (xs : List (List Int)) (hn : xs.length < 4611686018427387904) (hr : ∀ r ∈ xs, r.length ≤ 9223372036854775807) : ∀ (suf pre : List (List Int)) (left : Int), xs = pre ++ suf → 0 ≤ left → left ≤ 1048576 →
    EV (fun k => laws_szIntSS.l0 k xs left (pre.length : Int)) (if (total suf : Int) ≤ left then left - total suf else -1) := by
  intro suf
  induction suf with
  | nil =>
    intro pre left h h0 h1
    refine EV.step (fun k => by rw [laws_szIntSS.l0]) ?_
    exact EV.neg (by subst h; simp) ((EV.now _).eq (by rw [if_pos (by simp [total]; omega)]; simp [total]))
  | cons x suf ih =>
    intro pre left h h0 h1
    have hl : pre.length < 4611686018427387904 := by subst h; simp at hn; omega
    have hlt : (pre.length : Int) < (xs.length : Int) := by subst h; exact lt_app ..
    have hx : rd_L1 xs (pre.length : Int) = x := by subst h; exact rdL_app ..
    have hx' : x.length ≤ 9223372036854775807 := hr x (by subst h; simp)
    refine EV.step (fun k => by rw [laws_szIntSS.l0]) ?_
    rw [hx, up (x := x) hl]
    refine EV.pos hlt (EV.pos (by omega) (EV.by (laws_szIntS_is x left h0 h1 hx') ?_))
    by_cases hs : (x.length : Int) ≤ left
    · rw [if_pos hs]
      refine EV.neg (by omega) ((ih (pre ++ [x]) (left - x.length) (by simp [h]) (by omega) (by omega)).eq ?_)
      have e : total (x :: suf) = x.length + total suf := rfl
      by_cases ht : (total suf : Int) ≤ left - x.length
      · rw [if_pos ht, if_pos (by rw [e]; omega), e]; omega
      · rw [if_neg ht, if_neg (by rw [e]; omega)]
    · rw [if_neg hs]
      exact EV.pos (by omega) ((EV.now _).eq (by rw [if_neg (by simp only [total]; omega)]))
theorem laws_szIntSS_is (xs : List (List Int)) (left : Int) (h0 : 0 ≤ left) (h1 : left ≤ 1048576) (hn : xs.length ≤ 9223372036854775807) (hr : ∀ r ∈ xs, r.length ≤ 9223372036854775807) : EV (fun k => laws_szIntSS.f k xs left) (szM xs left) := by
  unfold szM
  have e : wrap64 (left - (xs.length : Int)) = left - xs.length := w64 (by omega) (by omega)
  refine EV.congr (fun k => by rw [laws_szIntSS.f, e]) ?_
  by_cases h : (xs.length : Int) ≤ left
  · refine EV.neg (by omega) ((laws_szIntSS_l0 xs (by omega) hr xs [] (left - xs.length) rfl (by omega) (by omega)).eq ?_)
    by_cases ht : (total xs : Int) ≤ left - xs.length
    · rw [if_pos ht, if_pos (by omega)]
    · rw [if_neg ht, if_neg (by omega)]
  · exact EV.pos (by omega) ((EV.now _).eq (by rw [if_neg (by omega)]))

theorem laws_toIntS_l0 (xs : List Int) (hn : xs.length < 4611686018427387904) : ∀ suf pre, xs = pre ++ suf → EV (fun k => laws_toIntS.l0 k xs (pre ++ List.replicate suf.length 0) (pre.length : Int)) xs := by
  intro suf
  induction suf with
  | nil =>
    intro pre h
    refine EV.step (fun k => by rw [laws_toIntS.l0]) ?_
    refine (EV.neg ?_ ((EV.now _).eq ?_))
    · subst h; simp
    · subst h; simp
  | cons x suf ih =>
    intro pre h
    have hl : pre.length < 4611686018427387904 := by subst h; simp at hn; omega
    have hlt : (pre.length : Int) < (xs.length : Int) := by subst h; exact lt_app ..
    have hx : rd xs (pre.length : Int) = x := by subst h; exact rd_app ..
    refine EV.step (fun k => by rw [laws_toIntS.l0]) ?_
    refine (EV.pos hlt (EV.pos (by omega) (EV.pos (by simp; omega) ?_)))
    rw [hx, up (x := x) hl, List.length_cons, List.replicate_succ, set_app _ _ _ _ _ (by simp)]
    have := ih (pre ++ [x]) (by simp [h])
    simpa using this
theorem laws_toIntS_is (xs : List Int) (hn : xs.length ≤ 1048576) : EV (fun k => laws_toIntS.f k xs) xs := by
  refine EV.pos (by omega) (EV.pos (by omega) ?_)
  exact laws_toIntS_l0 xs (by omega) xs [] rfl

theorem laws_toIntSS_l0 (xs : List (List Int)) (hn : xs.length < 4611686018427387904) (hr : ∀ r ∈ xs, r.length ≤ 1048576) : ∀ (suf pre : List (List Int)), xs = pre ++ suf →
    EV (fun k => laws_toIntSS.l0 k xs (pre ++ List.replicate suf.length []) (pre.length : Int)) xs := by
  intro suf
  induction suf with
  | nil =>
    intro pre h
    refine EV.step (fun k => by rw [laws_toIntSS.l0]) ?_
    exact EV.neg (by subst h; simp) ((EV.now _).eq (by subst h; simp))
  | cons x suf ih =>
    intro pre h
    have hl : pre.length < 4611686018427387904 := by subst h; simp at hn; omega
    have hlt : (pre.length : Int) < (xs.length : Int) := by subst h; exact lt_app ..
    have hx : rd_L1 xs (pre.length : Int) = x := by subst h; exact rdL_app ..
    have hx' : x.length ≤ 1048576 := hr x (by subst h; simp)
    refine EV.step (fun k => by rw [laws_toIntSS.l0]) ?_
    rw [hx, up (x := x) hl]
    refine EV.pos hlt (EV.pos (by omega) (EV.bind (laws_toIntS_is x hx') (EV.pos (by simp; omega) ?_)))
    rw [List.length_cons, List.replicate_succ, set_app _ _ _ _ _ (by simp)]
    have := ih (pre ++ [x]) (by simp [h])
    simpa using this
theorem laws_toIntSS_is (xs : List (List Int)) (hn : xs.length ≤ 1048576) (hr : ∀ r ∈ xs, r.length ≤ 1048576) : EV (fun k => laws_toIntSS.f k xs) xs := by
  refine EV.pos (by omega) (EV.pos (by omega) ?_)
  exact laws_toIntSS_l0 xs (by omega) hr xs [] rfl

theorem laws_eqIntS_l0 (xs ys : List Int) (hn : xs.length < 4611686018427387904) : ∀ (suf suf' pre : List Int), pre.length + suf.length = xs.length → pre.length + suf'.length = ys.length → suf.length = suf'.length → xs.drop pre.length = suf → ys.drop pre.length = suf' →
    EV (fun k => laws_eqIntS.l0 k xs ys (pre.length : Int)) (decide (suf = suf')) := by
  intro suf
  induction suf with
  | nil =>
    intro suf' pre h1 h2 h3 h4 h5
    have : suf' = [] := List.eq_nil_of_length_eq_zero (by simpa using h3.symm)
    subst this
    refine EV.step (fun k => by rw [laws_eqIntS.l0]) ?_
    refine (EV.neg ?_ ((EV.now _).eq (by simp)))
    simp at h1; omega
  | cons x suf ih =>
    intro suf' pre h1 h2 h3 h4 h5
    obtain ⟨y, suf', rfl⟩ : ∃ y t, suf' = y :: t := by
      cases suf' with
      | nil => simp at h3
      | cons y t => exact ⟨y, t, rfl⟩
    simp only [List.length_cons] at h1 h2 h3
    have hl : pre.length < 4611686018427387904 := by omega
    have hx : rd xs (pre.length : Int) = x := by
      rw [rd_nat _ _ (by omega)]
      have := List.getElem_drop (xs := xs) (i := pre.length) (j := 0) (h := by simp; omega)
      simp only [h4] at this; simpa using this.symm
    have hy : rd ys (pre.length : Int) = y := by
      rw [rd_nat _ _ (by omega)]
      have := List.getElem_drop (xs := ys) (i := pre.length) (j := 0) (h := by simp; omega)
      simp only [h5] at this; simpa using this.symm
    refine EV.step (fun k => by rw [laws_eqIntS.l0]) ?_
    refine (EV.pos (by omega) (EV.pos (by omega) (EV.pos (by omega) ?_)))
    rw [hx, hy, up (x := x) hl]
    by_cases hs : x = y
    · refine EV.pos hs ((ih suf' _ (by simp; omega) (by simp; omega) (by omega) ?_ ?_).eq (by simp [hs]))
      · rw [List.length_append, ← List.drop_drop, h4]; rfl
      · rw [List.length_append, ← List.drop_drop, h5]; rfl
    · exact (EV.neg hs (EV.now _)).eq (by simp [hs])
theorem laws_eqIntS_is (xs ys : List Int) (hn : xs.length < 4611686018427387904) : EV (fun k => laws_eqIntS.f k xs ys) (decide (xs = ys)) := by
  by_cases h : xs.length = ys.length
  · exact EV.pos (by omega) (laws_eqIntS_l0 xs ys hn xs ys [] (by simp) (by simp) h rfl rfl)
  · exact (EV.neg (by omega) (EV.now _)).eq (by simp; intro e; exact h (by rw [e]))
theorem laws_eqIntS_self (xs : List Int) (hn : xs.length < 4611686018427387904) : EV (fun k => laws_eqIntS.f k xs xs) true := (laws_eqIntS_is xs xs hn).eq (by simp)

theorem laws_eqIntSS_l0 (xs : List (List Int)) (hn : xs.length < 4611686018427387904) (hr : ∀ r ∈ xs, r.length < 4611686018427387904) : ∀ (suf pre : List (List Int)), xs = pre ++ suf →
    EV (fun k => laws_eqIntSS.l0 k xs xs (pre.length : Int)) true := by
  intro suf
  induction suf with
  | nil =>
    intro pre h
    refine EV.step (fun k => by rw [laws_eqIntSS.l0]) ?_
    exact EV.neg (by subst h; simp) (EV.now _)
  | cons x suf ih =>
    intro pre h
    have hl : pre.length < 4611686018427387904 := by subst h; simp at hn; omega
    have hlt : (pre.length : Int) < (xs.length : Int) := by subst h; exact lt_app ..
    have hx : rd_L1 xs (pre.length : Int) = x := by subst h; exact rdL_app ..
    have hx' : x.length < 4611686018427387904 := hr x (by subst h; simp)
    refine EV.step (fun k => by rw [laws_eqIntSS.l0]) ?_
    rw [hx, up (x := x) hl]
    refine EV.pos hlt (EV.pos (by omega) (EV.pos (by omega) (EV.bind (laws_eqIntS_self x hx') (EV.pos rfl ?_))))
    exact ih (pre ++ [x]) (by simp [h])
theorem laws_eqIntSS_self (xs : List (List Int)) (hn : xs.length < 4611686018427387904) (hr : ∀ r ∈ xs, r.length < 4611686018427387904) : EV (fun k => laws_eqIntSS.f k xs xs) true :=
  EV.pos rfl (laws_eqIntSS_l0 xs hn hr xs [] rfl)

theorem spec_l1In_is (a b c : Int) : spec_l1In.f a b c = some (decide (b ≤ a ∧ a ≤ c)) := by
  unfold spec_l1In.f
  by_cases h : a ≥ b
  · rw [if_pos h]; simp [show b ≤ a from h]
  · rw [if_neg h]; simp; omega

def edgeB (e : List Int) : Bool :=
  match e with
  | [a, b] => decide (0 ≤ a ∧ a ≤ 6) && (decide (0 ≤ b ∧ b ≤ 6) && !decide (a = b))
  | _ => false
def graphB (g : List (List Int)) : Bool := g.all edgeB && decide (1 ≤ g.length ∧ g.length ≤ 10)
theorem edge_len {e : List Int} (h : edgeB e = true) : e.length = 2 := by
  unfold edgeB at h
  split at h
  · rfl
  · cases h
theorem two_of {e : List Int} (h : e.length = 2) : ∃ a b, e = [a, b] := by
  match e, h with
  | [a, b], _ => exact ⟨a, b, rfl⟩

theorem spec_IsGraph_l0 (g : List (List Int)) (hn : g.length < 4611686018427387904) : ∀ (suf pre : List (List Int)), g = pre ++ suf →
    EV (fun k => spec_IsGraph.l0 k g (pre.length : Int)) (suf.all edgeB && decide (1 ≤ g.length ∧ g.length ≤ 10)) := by
  intro suf
  induction suf with
  | nil =>
    intro pre h
    refine EV.step (fun k => by rw [spec_IsGraph.l0]) ?_
    refine EV.neg (by subst h; simp) (EV.by (spec_l1In_is _ _ _) ((EV.now _).eq ?_))
    rw [Bool.eq_iff_iff]; simp; omega
  | cons x suf ih =>
    intro pre h
    have hl : pre.length < 4611686018427387904 := by subst h; simp at hn; omega
    have hlt : (pre.length : Int) < (g.length : Int) := by subst h; exact lt_app ..
    have hx : rd_L1 g (pre.length : Int) = x := by subst h; exact rdL_app ..
    refine EV.step (fun k => by rw [spec_IsGraph.l0]) ?_
    rw [hx, up (x := x) hl]
    refine EV.pos hlt (EV.pos (by omega) (?_))
    by_cases h2 : x.length = 2
    · obtain ⟨a, b, rfl⟩ := two_of h2
      have e0 : rd [a, b] 0 = a := rfl
      have e1 : rd [a, b] 1 = b := rfl
      refine EV.pos rfl (EV.pos (by simp) (EV.by (spec_l1In_is _ _ _) ?_))
      rw [e0]
      by_cases ha : 0 ≤ a ∧ a ≤ 6
      · refine EV.pos (by simpa using ha) (EV.pos (by simp) (EV.by (spec_l1In_is _ _ _) ?_))
        rw [e1]
        by_cases hb : 0 ≤ b ∧ b ≤ 6
        · refine EV.pos (by simpa using hb) ?_
          by_cases hab : a = b
          · exact EV.pos hab ((EV.now _).eq (by simp [edgeB, hab]))
          · exact EV.neg hab ((ih (pre ++ [[a, b]]) (by simp [h])).eq (by simp [edgeB, ha, hb, hab]))
        · exact EV.neg (by simpa using hb) ((EV.now _).eq (by simp [edgeB, hb]))
      · exact EV.neg (by simpa using ha) ((EV.now _).eq (by simp [edgeB, ha]))
    · refine EV.neg (by omega) ((EV.now _).eq ?_)
      have : edgeB x = false := by
        rcases Bool.eq_false_or_eq_true (edgeB x) with h' | h'
        · exact absurd (edge_len h') h2
        · exact h'
      simp [this]
theorem spec_IsGraph_is (g : List (List Int)) (hn : g.length < 4611686018427387904) : EV (fun k => spec_IsGraph.f k g) (graphB g) := spec_IsGraph_l0 g hn g [] rfl

/-- a table, changed at one place -/
theorem tab_set {α : Type} (n : Nat) (f : Nat → α) (a : Nat) (y : α) : ((List.range n).map f).set a y = (List.range n).map fun v => if v = a then y else f v := by
  apply List.ext_getElem
  · simp
  · intro i h1 h2
    rw [List.getElem_set]
    simp only [List.getElem_map, List.getElem_range]
    by_cases h : a = i
    · rw [if_pos h, if_pos h.symm]
    · rw [if_neg h, if_neg (fun e => h e.symm)]
theorem rd_tab (n : Nat) (f : Nat → Int) (a : Int) (h0 : 0 ≤ a) (h : a < n) : rd ((List.range n).map f) a = f a.toNat := by
  have : a.toNat < n := by omega
  simp [rd, this]

/-- counting up to n, the state told by the count -/
theorem EV.count {σ ρ : Type} {g : Nat → σ → Int → Option ρ} (n : Nat) (f : Nat → σ) (r : ρ)
    (hs : ∀ i, i < n → EV (fun k => g k (f (i + 1)) ((i : Int) + 1)) r → EV (fun k => g k (f i) (i : Int)) r)
    (hf : EV (fun k => g k (f n) (n : Int)) r) : EV (fun k => g k (f 0) 0) r := by
  suffices h : ∀ (m i : Nat), i + m = n → EV (fun k => g k (f i) (i : Int)) r by exact h n 0 (by omega)
  intro m
  induction m with
  | zero => intro i hi; have : i = n := by omega
            subst this; exact hf
  | succ m ih => intro i hi; exact hs i (by omega) (by exact_mod_cast ih (i + 1) (by omega))
theorem wrap_01 : wrap64 ((0 : Int) + 1) = 1 := by rw [w64 (by omega) (by omega)]; rfl
theorem wrap_11 : wrap64 ((1 : Int) + 1) = 2 := by rw [w64 (by omega) (by omega)]; rfl
theorem wrap_1 : wrap64 1 = 1 := w64 (by omega) (by omega)
/-- the darts at v of the edges from number i on -/
def dartsF (v : Int) : Nat → List (List Int) → List Int
  | _, [] => []
  | i, e :: g => (if e.getD 0 0 = v then [2 * (i : Int)] else []) ++ ((if e.getD 1 0 = v then [2 * (i : Int) + 1] else []) ++ dartsF v (i + 1) g)
def degN (v : Int) : List (List Int) → Nat
  | [] => 0
  | e :: g => (if e.getD 0 0 = v then 1 else 0) + (if e.getD 1 0 = v then 1 else 0) + degN v g
theorem dartsF_len (v : Int) : ∀ (g : List (List Int)) (i : Nat), (dartsF v i g).length = degN v g
  | [], _ => rfl
  | e :: g, i => by
    simp only [dartsF, degN, List.length_append, dartsF_len v g]
    split <;> split <;> simp <;> omega
theorem degN_le (v : Int) : ∀ (g : List (List Int)), degN v g ≤ 2 * g.length
  | [] => by simp [degN]
  | e :: g => by
    have := degN_le v g
    simp only [degN, List.length_cons]
    split <;> split <;> omega
theorem degN_snoc (v : Int) (e : List Int) : ∀ (g : List (List Int)), degN v (g ++ [e]) = degN v g + ((if e.getD 0 0 = v then 1 else 0) + (if e.getD 1 0 = v then 1 else 0))
  | [] => by simp [degN]
  | x :: g => by simp only [List.cons_append, degN, degN_snoc v e g]; omega
theorem dartsF_snoc (v : Int) (e : List Int) : ∀ (g : List (List Int)) (i : Nat), dartsF v i (g ++ [e]) = dartsF v i g ++ ((if e.getD 0 0 = v then [2 * ((i + g.length : Nat) : Int)] else []) ++ (if e.getD 1 0 = v then [2 * ((i + g.length : Nat) : Int) + 1] else []))
  | [], i => by simp [dartsF]
  | x :: g, i => by
    have h : i + 1 + g.length = i + (g.length + 1) := by omega
    simp only [List.cons_append, dartsF, dartsF_snoc v e g, List.length_cons, h, List.append_assoc]
theorem graphB_of {g : List (List Int)} (h : graphB g = true) : (∀ e ∈ g, edgeB e = true) ∧ 1 ≤ g.length ∧ g.length ≤ 10 := by
  simpa [graphB] using h
theorem edgeB_of {e : List Int} (h : edgeB e = true) : ∃ a b, e = [a, b] ∧ 0 ≤ a ∧ a ≤ 6 ∧ 0 ≤ b ∧ b ≤ 6 ∧ a ≠ b := by
  obtain ⟨a, b, rfl⟩ := two_of (edge_len h)
  simp [edgeB] at h
  exact ⟨a, b, rfl, h.1.1, h.1.2, h.2.1.1, h.2.1.2, h.2.2⟩
theorem rdL_tab (n : Nat) (f : Nat → List Int) (a : Int) (h0 : 0 ≤ a) (h : a < n) : rd_L1 ((List.range n).map f) a = f a.toNat := by
  have : a.toNat < n := by omega
  simp [rd_L1, this]
def degM (g : List (List Int)) : List Int := if graphB g = true then (List.range 7).map fun v : Nat => (degN (v : Int) g : Int) else []

theorem spec_l7Darts_l0 (g : List (List Int)) (v : Int) (hg : graphB g = true) : ∀ (suf pre : List (List Int)) (acc : List Int), g = pre ++ suf → acc.length ≤ 2 * pre.length →
    EV (fun k => spec_l7Darts.l0 k g v acc (pre.length : Int)) (acc ++ dartsF v pre.length suf) := by
  have G := graphB_of hg
  intro suf
  induction suf with
  | nil =>
    intro pre acc h ha
    refine EV.step (fun k => by rw [spec_l7Darts.l0]) ?_
    exact EV.neg (by subst h; simp) ((EV.now _).eq (by simp [dartsF]))
  | cons e suf ih =>
    intro pre acc h ha
    obtain ⟨a, b, rfl, _⟩ := edgeB_of (G.1 e (by subst h; simp))
    have hpl : pre.length < 10 := by subst h; simp at G; omega
    have hl : pre.length < 4611686018427387904 := by omega
    have hlt : (pre.length : Int) < (g.length : Int) := by subst h; exact lt_app ..
    have hx : rd_L1 g (pre.length : Int) = [a, b] := by subst h; exact rdL_app ..
    have last : ∀ acc'' : List Int, acc''.length ≤ 2 * pre.length + 2 → EV (fun k => spec_l7Darts.l1 k g v acc'' (pre.length : Int) 2) (acc'' ++ dartsF v (pre.length + 1) suf) := by
      intro acc'' ha
      refine EV.step (fun k => by rw [spec_l7Darts.l1]) ?_
      rw [up (x := [a, b]) hl]
      refine EV.neg (by omega) ?_
      have := ih (pre ++ [[a, b]]) acc'' (by simp [h]) (by simp; omega)
      simpa using this
    have two : ∀ acc' : List Int, acc'.length ≤ 2 * pre.length + 1 → EV (fun k => spec_l7Darts.l1 k g v acc' (pre.length : Int) 1) (acc' ++ ((if b = v then [2 * (pre.length : Int) + 1] else []) ++ dartsF v (pre.length + 1) suf)) := by
      intro acc' ha'
      refine EV.step (fun k => by rw [spec_l7Darts.l1]) ?_
      rw [hx, wrap_11, w64 (x := 2 * (pre.length : Int)) (by omega) (by omega), w64 (x := 2 * (pre.length : Int) + 1) (by omega) (by omega), show rd [a, b] 1 = b from rfl]
      refine EV.pos (by omega) (EV.pos (by omega) (EV.pos hlt (EV.pos (by omega) (EV.pos (by simp) ?_))))
      exact EV.cases (fun c => EV.pos (by omega) ((last (acc' ++ [2 * (pre.length : Int) + 1]) (by simp; omega)).eq (by simp [c]))) (fun c => (last acc' (by omega)).eq (by simp [c]))
    refine EV.step (fun k => by rw [spec_l7Darts.l0]) (EV.pos hlt ?_)
    refine EV.step (fun k => by rw [spec_l7Darts.l1]) ?_
    rw [hx, wrap_01, w64 (x := 2 * (pre.length : Int)) (by omega) (by omega), w64 (x := 2 * (pre.length : Int) + 0) (by omega) (by omega), show rd [a, b] 0 = a from rfl]
    refine EV.pos (by omega) (EV.pos (by omega) (EV.pos hlt (EV.pos (by omega) (EV.pos (by simp) ?_))))
    exact EV.cases (fun c => EV.pos (by omega) ((two (acc ++ [2 * (pre.length : Int) + 0]) (by simp; omega)).eq (by simp [c, dartsF]))) (fun c => (two acc (by omega)).eq (by simp [c, dartsF]))
theorem spec_l7Darts_is (g : List (List Int)) (v : Int) (hg : graphB g = true) : EV (fun k => spec_l7Darts.f k g v) (dartsF v 0 g) := by
  have := spec_l7Darts_l0 g v hg g [] [] rfl (by simp)
  exact this

theorem spec_DegreesOf_is (g : List (List Int)) (hn : g.length < 4611686018427387904) : EV (fun k => spec_DegreesOf.f k g) (degM g) := by
  unfold degM
  by_cases hg : graphB g = true
  · rw [if_pos hg]
    refine EV.count (g := fun k s i => spec_DegreesOf.l0 k g s i) 7 (fun i => (List.range i).map fun v : Nat => (degN (v : Int) g : Int)) _ (fun i hi H => ?_) ?_
    · refine EV.step (fun k => by rw [spec_DegreesOf.l0]) ?_
      rw [w64 (x := (i : Int) + 1) (by omega) (by omega)]
      refine EV.pos (by omega) (EV.bind (spec_IsGraph_is g hn) (EV.pos hg (EV.bind (spec_l7Darts_is g (i : Int) hg) (EV.pos (by simp; omega) ?_))))
      rw [dartsF_len]
      simpa [List.range_succ] using H
    · refine EV.step (fun k => by rw [spec_DegreesOf.l0]) ?_
      exact EV.neg (by omega) (EV.now _)
  · rw [if_neg hg]
    show EV (fun k => spec_DegreesOf.l0 k g [] 0) []
    refine EV.step (fun k => by rw [spec_DegreesOf.l0]) ?_
    exact EV.pos (by omega) (EV.bind (spec_IsGraph_is g hn) (EV.neg hg (EV.now _)))

/-- lo * (lo + 1) * .. , c factors -/
def rise : Nat → Nat → Int
  | _, 0 => 1
  | lo, c + 1 => (lo : Int) * rise (lo + 1) c
def prodM : List Int → Int
  | [] => 1
  | d :: ds => rise 2 (d - 2).toNat * prodM ds
def rotM (g : List (List Int)) : Int := if graphB g = true then wrap64 (prodM (degM g)) else -1
theorem wrap64_mul (a b : Int) : wrap64 (wrap64 a * b) = wrap64 (a * b) := by
  have h : ∃ q : Int, wrap64 a = a + 18446744073709551616 * q := by
    unfold wrap64
    exact ⟨-((a + 9223372036854775808) / 18446744073709551616), by omega⟩
  obtain ⟨q, h⟩ := h
  rw [h, Int.add_mul, Int.mul_assoc]
  generalize q * b = m
  unfold wrap64; omega
theorem wrap64_mul' (a b : Int) : wrap64 (b * wrap64 a) = wrap64 (b * a) := by
  rw [Int.mul_comm, wrap64_mul, Int.mul_comm]
theorem degM_bd (g : List (List Int)) : ∀ d ∈ degM g, 0 ≤ d ∧ d ≤ 1000 := by
  unfold degM
  split
  · rename_i hg
    have G := graphB_of hg
    intro d hd
    obtain ⟨v, _, rfl⟩ := List.mem_map.1 hd
    have := degN_le (v : Int) g
    omega
  · simp

theorem spec_l7Factorial_l0 (n : Int) (hn : n ≤ 100000) : ∀ (c lo : Nat) (acc : Int), c = (n + 1 - lo).toNat → lo ≤ 100001 → EV (fun k => spec_l7Factorial.l0 k n (wrap64 acc) (lo : Int)) (wrap64 (acc * rise lo c)) := by
  intro c
  induction c with
  | zero =>
    intro lo acc h hl
    refine EV.step (fun k => by rw [spec_l7Factorial.l0]) ?_
    exact EV.neg (by omega) ((EV.now _).eq (by simp [rise]))
  | succ c ih =>
    intro lo acc h hl
    refine EV.step (fun k => by rw [spec_l7Factorial.l0]) ?_
    rw [wrap64_mul, w64 (x := (lo : Int) + 1) (by omega) (by omega)]
    have := ih (lo + 1) (acc * lo) (by omega) (by omega)
    refine EV.pos (by omega) (EV.congr (fun k => by simp) (this.eq ?_))
    simp only [rise]; rw [Int.mul_assoc]
theorem spec_l7Factorial_is (n : Int) (hn : n ≤ 100000) : EV (fun k => spec_l7Factorial.f k n) (wrap64 (rise 2 (n - 1).toNat)) := by
  have := spec_l7Factorial_l0 n hn (n + 1 - 2).toNat 2 1 (by omega) (by omega)
  rw [wrap_1] at this
  exact EV.congr (fun k => rfl) (this.eq (by rw [Int.one_mul, show n + 1 - 2 = n - 1 by omega]))

theorem spec_CountRotations_l0 (ds : List Int) (hd : ∀ d ∈ ds, 0 ≤ d ∧ d ≤ 1000) (hl : ds.length < 4611686018427387904) : ∀ (suf pre : List Int) (P : Int), ds = pre ++ suf →
    EV (fun k => spec_CountRotations.l0 k (wrap64 P) ds (pre.length : Int)) (wrap64 (P * prodM suf)) := by
  intro suf
  induction suf with
  | nil =>
    intro pre P h
    refine EV.step (fun k => by rw [spec_CountRotations.l0]) ?_
    exact EV.neg (by subst h; simp) ((EV.now _).eq (by simp [prodM]))
  | cons d suf ih =>
    intro pre P h
    have hpl : pre.length < 4611686018427387904 := by subst h; simp at hl; omega
    have hlt : (pre.length : Int) < (ds.length : Int) := by subst h; exact lt_app ..
    have hx : rd ds (pre.length : Int) = d := by subst h; exact rd_app ..
    have hb := hd d (by subst h; simp)
    refine EV.step (fun k => by rw [spec_CountRotations.l0]) ?_
    rw [hx, up (x := d) hpl, w64 (x := d - 1) (by omega) (by omega)]
    refine EV.pos hlt (EV.pos (by omega) (EV.bind (spec_l7Factorial_is (d - 1) (by omega)) ?_))
    rw [wrap64_mul, wrap64_mul', show d - 1 - 1 = d - 2 by omega]
    refine (ih (pre ++ [d]) (P * rise 2 (d - 2).toNat) (by simp [h])).eq ?_
    simp only [prodM]; rw [Int.mul_assoc]
theorem spec_CountRotations_is (g : List (List Int)) (hn : g.length < 4611686018427387904) : EV (fun k => spec_CountRotations.f k g) (rotM g) := by
  unfold rotM
  refine EV.bind (spec_IsGraph_is g hn) ?_
  by_cases hg : graphB g = true
  · rw [if_pos hg]
    refine EV.pos hg (EV.bind (spec_DegreesOf_is g hn) ?_)
    have := spec_CountRotations_l0 (degM g) (degM_bd g) (by unfold degM; rw [if_pos hg]; simp) (degM g) [] 1 rfl
    rw [wrap_1] at this
    exact EV.congr (fun k => rfl) (this.eq (by rw [Int.one_mul]))
  · rw [if_neg hg]
    exact EV.neg hg (EV.now _)

def inB (n : Nat) (x : Int) : Bool := decide (0 ≤ x ∧ x < n)
def permB (p : List Int) : Bool := p.all (inB p.length) && decide p.Nodup
def seenM (n : Nat) (pre : List Int) : List Bool := (List.range n).map fun i : Nat => decide ((i : Int) ∈ pre)
theorem rdOf_tab {α : Type} (d : α) (n : Nat) (f : Nat → α) (a : Int) (h0 : 0 ≤ a) (h : a < n) : rdOf d ((List.range n).map f) a = f a.toNat := by
  have : a.toNat < n := by omega
  simp [rdOf, this]
theorem seenM_snoc (n : Nat) (pre : List Int) (x : Int) (h0 : 0 ≤ x) : (seenM n pre).set x.toNat true = seenM n (pre ++ [x]) := by
  unfold seenM
  rw [tab_set]
  apply List.map_congr_left
  intro i hi
  by_cases h : i = x.toNat
  · rw [if_pos h, decide_eq_true]; rw [List.mem_append, List.mem_singleton]; right; omega
  · rw [if_neg h]
    congr 1
    rw [List.mem_append, List.mem_singleton]
    have : ¬ (i : Int) = x := by omega
    simp [this]
theorem seenM_nil (n : Nat) : seenM n [] = List.replicate n false := by
  apply List.ext_getElem
  · simp [seenM]
  · intro i h1 h2
    simp [seenM]
theorem inB_of {n : Nat} {x : Int} (h : inB n x = true) : 0 ≤ x ∧ x < n := by simpa [inB] using h
theorem permB_of {p : List Int} (h : permB p = true) : (∀ x ∈ p, 0 ≤ x ∧ x < p.length) ∧ p.Nodup := by
  simp only [permB, Bool.and_eq_true, List.all_eq_true, decide_eq_true_iff] at h
  exact ⟨fun x hx => inB_of (h.1 x hx), h.2⟩
/-- how many sheets -/
def d0 (l : List (List Int)) : Nat := (l.getD 0 []).length
def idM (n : Nat) : List Int := (List.range n).map fun i : Nat => (i : Int)
theorem rd_getD (q : List Int) (s : Int) : rd q s = q.getD s.toNat 0 := rfl

/-! ### sets of sheets that lead to each other -/
def mateN (i : Nat) : Int := if i % 2 = 0 then (i : Int) + 1 else (i : Int) - 1
def isMapB (w : List Int) : Bool := decide (2 ≤ w.length ∧ w.length ≤ 24) && (decide (w.length % 2 = 0) && permB w)
theorem spec_l6Mate_is (i : Nat) (h : i ≤ 1000) : spec_l6Mate.f (i : Int) = some (mateN i) := by
  unfold spec_l6Mate.f mateN
  rw [Int.tmod_eq_emod_of_nonneg (by omega), w64 (x := (i : Int) + 1) (by omega) (by omega), w64 (x := 2 * ((i : Int) % 2)) (by omega) (by omega), w64 (by omega) (by omega)]
  congr 1
  split <;> omega

theorem spec_l1Bit_is (b : Bool) : spec_l1Bit.f b = some (if b = true then 1 else 0) := by
  cases b <;> rfl

/-! ### classes of an equivalence over the numbers below n -/
/-- the least equivalence over a relation -/
inductive Con (g : Nat → Nat → Prop) : Nat → Nat → Prop
  | rel {a b : Nat} : g a b → Con g a b
  | refl (a : Nat) : Con g a a
  | symm {a b : Nat} : Con g a b → Con g b a
  | trans {a b c : Nat} : Con g a b → Con g b c → Con g a c
structure Eqv (E : Nat → Nat → Prop) : Prop where
  refl : ∀ a, E a a
  symm : ∀ {a b}, E a b → E b a
  trans : ∀ {a b c}, E a b → E b c → E a c
theorem Con.eqv (g : Nat → Nat → Prop) : Eqv (Con g) := ⟨.refl, .symm, .trans⟩
theorem Con.least {g E : Nat → Nat → Prop} (hE : Eqv E) (h : ∀ a b, g a b → E a b) {a b : Nat} (hc : Con g a b) : E a b := by
  induction hc with
  | rel h1 => exact h _ _ h1
  | refl a => exact hE.refl a
  | symm _ ih => exact hE.symm ih
  | trans _ _ ih1 ih2 => exact hE.trans ih1 ih2
theorem Con.mono {g g' : Nat → Nat → Prop} (h : ∀ a b, g a b → Con g' a b) {a b : Nat} (hc : Con g a b) : Con g' a b := Con.least (Con.eqv g') h hc
/-- two classes made one -/
def jn (E : Nat → Nat → Prop) (a b : Nat) (x y : Nat) : Prop := E x y ∨ (E x a ∧ E b y) ∨ (E x b ∧ E a y)
theorem jn_eqv {E : Nat → Nat → Prop} (hE : Eqv E) (a b : Nat) : Eqv (jn E a b) where
  refl := fun x => .inl (hE.refl x)
  symm := by
    rintro x y (h | ⟨h1, h2⟩ | ⟨h1, h2⟩)
    · exact .inl (hE.symm h)
    · exact .inr (.inr ⟨hE.symm h2, hE.symm h1⟩)
    · exact .inr (.inl ⟨hE.symm h2, hE.symm h1⟩)
  trans := by
    rintro x y z (h | ⟨h1, h2⟩ | ⟨h1, h2⟩) (k | ⟨k1, k2⟩ | ⟨k1, k2⟩)
    · exact .inl (hE.trans h k)
    · exact .inr (.inl ⟨hE.trans h k1, k2⟩)
    · exact .inr (.inr ⟨hE.trans h k1, k2⟩)
    · exact .inr (.inl ⟨h1, hE.trans h2 k⟩)
    · exact .inr (.inl ⟨h1, k2⟩)
    · exact .inl (hE.trans h1 k2)
    · exact .inr (.inr ⟨h1, hE.trans h2 k⟩)
    · exact .inl (hE.trans h1 k2)
    · exact .inr (.inr ⟨h1, k2⟩)
theorem countP_add_one {P Q : Nat → Bool} {x : Nat} : ∀ {l : List Nat}, l.Nodup → (∀ d ∈ l, P d = true → Q d = true ∨ d = x) → l.countP P ≤ l.countP Q + 1
  | [], _, _ => by simp
  | d :: r, hn, h => by
    obtain ⟨hd, hr⟩ := List.nodup_cons.1 hn
    have hr' : ∀ e ∈ r, P e = true → Q e = true ∨ e = x := fun e he => h e (List.mem_cons_of_mem _ he)
    by_cases hp : P d = true
    · rw [List.countP_cons_of_pos hp]
      rcases h d List.mem_cons_self hp with hq | rfl
      · rw [List.countP_cons_of_pos hq]
        have := countP_add_one hr hr'
        omega
      · have : r.countP P ≤ r.countP Q := List.countP_mono_left fun e he hpe => by
          rcases hr' e he hpe with h1 | rfl
          · exact h1
          · exact absurd he hd
        have : r.countP Q ≤ (d :: r).countP Q := by rw [List.countP_cons]; omega
        omega
    · rw [List.countP_cons_of_neg hp]
      have h1 := countP_add_one hr hr'
      have : r.countP Q ≤ (d :: r).countP Q := by rw [List.countP_cons]; omega
      omega
theorem countP_lt_one {P Q : Nat → Bool} {x : Nat} : ∀ {l : List Nat}, (∀ d ∈ l, Q d = true → P d = true) → x ∈ l → P x = true → Q x = false → l.countP Q + 1 ≤ l.countP P
  | [], _, h, _, _ => by cases h
  | d :: r, h, hx, hp, hq => by
    have hr : ∀ e ∈ r, Q e = true → P e = true := fun e he => h e (List.mem_cons_of_mem _ he)
    rcases List.mem_cons.1 hx with rfl | hx
    · rw [List.countP_cons_of_pos hp, List.countP_cons_of_neg (by simp [hq])]
      have := List.countP_mono_left hr
      omega
    · have h1 := countP_lt_one hr hx hp hq
      rw [List.countP_cons, List.countP_cons]
      by_cases hd : Q d = true
      · rw [if_pos hd, if_pos (h d List.mem_cons_self hd)]; omega
      · rw [if_neg hd]; omega
open Classical in
/-- how many classes there are: the numbers that are the least of their class -/
noncomputable def cls (n : Nat) (E : Nat → Nat → Prop) : Nat := (List.range n).countP fun d => decide (∀ e, e < d → ¬ E e d)
open Classical in
theorem cls_mono {n : Nat} {E E' : Nat → Nat → Prop} (h : ∀ x y, E x y → E' x y) : cls n E' ≤ cls n E := by
  refine List.countP_mono_left fun d _ hd => ?_
  simp only [decide_eq_true_eq] at hd ⊢
  exact fun e he hE => hd e he (h e d hE)
theorem cls_congr {n : Nat} {E E' : Nat → Nat → Prop} (h : ∀ x y, E x y ↔ E' x y) : cls n E = cls n E' :=
  Nat.le_antisymm (cls_mono fun x y q => (h x y).2 q) (cls_mono fun x y q => (h x y).1 q)
theorem least_of {E : Nat → Nat → Prop} (hE : Eqv E) (a : Nat) : ∃ A, A ≤ a ∧ E A a ∧ ∀ e, e < A → ¬ E e a := by
  induction a using Nat.strongRecOn with
  | ind a _ =>
    have : ∀ k, (∃ A, A ≤ a ∧ E A a ∧ ∀ e, e < A → ¬ E e a) ∨ ∀ e, e < k → ¬ E e a := by
      intro k
      induction k with
      | zero => exact .inr fun e he => absurd he (by omega)
      | succ k ih =>
        rcases ih with h | h
        · exact .inl h
        · by_cases hk : E k a
          · by_cases hka : k ≤ a
            · exact .inl ⟨k, hka, hk, h⟩
            · exact absurd (hE.refl a) (h a (by omega))
          · exact .inr fun e he => by
              by_cases e1 : e = k
              · subst e1; exact hk
              · exact h e (by omega)
    rcases this (a + 1) with h | h
    · exact h
    · exact absurd (hE.refl a) (h a (by omega))
open Classical in
theorem cls_jn_le {n : Nat} {E : Nat → Nat → Prop} (hE : Eqv E) (a b : Nat) : cls n E ≤ cls n (jn E a b) + 1 := by
  obtain ⟨A, _, A2, A3⟩ := least_of hE a
  obtain ⟨B, _, B2, B3⟩ := least_of hE b
  refine countP_add_one (x := max A B) List.nodup_range fun d _ hd => ?_
  simp only [decide_eq_true_eq] at hd ⊢
  by_cases h : ∀ e, e < d → ¬ jn E a b e d
  · exact .inl h
  · right
    obtain ⟨e, he⟩ := Classical.not_forall.1 h
    obtain ⟨he, hj⟩ := Classical.not_imp.1 he
    have hj := Classical.not_not.1 hj
    rcases hj with h1 | ⟨h1, h2⟩ | ⟨h1, h2⟩
    · exact absurd h1 (hd e he)
    · have hB : d = B := by
        rcases Nat.lt_trichotomy d B with h3 | h3 | h3
        · exact absurd (hE.symm h2) (B3 d h3)
        · exact h3
        · exact absurd (hE.trans B2 h2) (hd B h3)
      have : A ≤ e := by
        rcases Nat.lt_or_ge e A with h3 | h3
        · exact absurd h1 (A3 e h3)
        · exact h3
      omega
    · have hA : d = A := by
        rcases Nat.lt_trichotomy d A with h3 | h3 | h3
        · exact absurd (hE.symm h2) (A3 d h3)
        · exact h3
        · exact absurd (hE.trans A2 h2) (hd A h3)
      have : B ≤ e := by
        rcases Nat.lt_or_ge e B with h3 | h3
        · exact absurd h1 (B3 e h3)
        · exact h3
      omega
open Classical in
theorem cls_jn_lt {n : Nat} {E : Nat → Nat → Prop} (hE : Eqv E) {a b : Nat} (ha : a < n) (hb : b < n) (hab : ¬ E a b) : cls n (jn E a b) + 1 ≤ cls n E := by
  obtain ⟨A, A1, A2, A3⟩ := least_of hE a
  obtain ⟨B, B1, B2, B3⟩ := least_of hE b
  have hne : A ≠ B := fun e => hab (hE.trans (hE.symm A2) (e ▸ B2))
  refine countP_lt_one (x := max A B) (fun d _ hd => ?_) (List.mem_range.2 (by omega)) ?_ ?_
  · simp only [decide_eq_true_eq] at hd ⊢
    exact fun e he h => hd e he (.inl h)
  · simp only [decide_eq_true_eq]
    intro e he h
    rcases Nat.le_total A B with h1 | h1
    · rw [Nat.max_eq_right h1] at he h
      exact B3 e he (hE.trans h B2)
    · rw [Nat.max_eq_left h1] at he h
      exact A3 e he (hE.trans h A2)
  · simp only [decide_eq_false_iff_not]
    intro h
    rcases Nat.le_total A B with h1 | h1
    · rw [Nat.max_eq_right h1] at h
      exact h A (by omega) (.inr (.inl ⟨A2, hE.symm B2⟩))
    · rw [Nat.max_eq_left h1] at h
      exact h B (by omega) (.inr (.inr ⟨B2, hE.symm A2⟩))
theorem cls_jn {n : Nat} {E : Nat → Nat → Prop} (hE : Eqv E) {a b : Nat} (ha : a < n) (hb : b < n) (hab : ¬ E a b) : cls n (jn E a b) + 1 = cls n E :=
  Nat.le_antisymm (cls_jn_lt hE ha hb hab) (cls_jn_le hE a b)

/-! ### a forest of numbers: roots, joins, how many -/
/-- x leads to the root r in h steps -/
inductive Rt (n : Nat) (up : List Int) : Nat → Nat → Nat → Prop
  | root {r : Nat} : r < n → up.getD r 0 = (r : Int) → Rt n up 0 r r
  | step {h x y r : Nat} : x < n → up.getD x 0 = (y : Int) → y ≠ x → Rt n up h y r → Rt n up (h + 1) x r
theorem Rt.top {n : Nat} {up : List Int} {h x r : Nat} (H : Rt n up h x r) : x < n ∧ r < n ∧ up.getD r 0 = (r : Int) := by
  induction H with
  | root h1 h2 => exact ⟨h1, h1, h2⟩
  | step h1 _ _ _ ih => exact ⟨h1, ih.2⟩
theorem Rt.uniq {n : Nat} {up : List Int} {h x r : Nat} (H : Rt n up h x r) : ∀ {h' r' : Nat}, Rt n up h' x r' → r = r' := by
  induction H with
  | root h1 h2 =>
    intro h' r' H'
    cases H' with
    | root _ _ => rfl
    | step _ k2 k3 _ => rw [h2] at k2; exact absurd (by omega) k3
  | step h1 h2 h3 _ ih =>
    intro h' r' H'
    cases H' with
    | root _ k2 => rw [h2] at k2; exact absurd (by omega) h3
    | step _ k2 _ k4 =>
      rw [h2] at k2
      have : ∀ {a b : Nat}, (a : Int) = (b : Int) → a = b := fun h => by omega
      have e := this k2
      subst e
      exact ih k4
structure Forest (n : Nat) (up : List Int) (E : Nat → Nat → Prop) : Prop where
  len : up.length = n
  eqv : Eqv E
  rt : ∀ x, x < n → ∃ h r, Rt n up h x r
  same : ∀ {x y r s h h' : Nat}, Rt n up h x r → Rt n up h' y s → (r = s ↔ E x y)
  count : ((List.range n).countP fun d : Nat => decide (up.getD d 0 = (d : Int))) = cls n E
theorem getD_set (up : List Int) (A : Nat) (v : Int) (x : Nat) (h : A < up.length) : (up.set A v).getD x 0 = if x = A then v else up.getD x 0 := by
  simp only [List.getD_eq_getElem?_getD, List.getElem?_set]
  by_cases e : A = x
  · subst e; simp [h]
  · have : ¬ x = A := fun h => e h.symm
    simp [e, this]
theorem set_self' (up : List Int) (A : Nat) (h : up.getD A 0 = (A : Int)) (hl : A < up.length) : up.set A (A : Int) = up := by
  apply List.ext_getElem?
  intro i
  rw [List.getElem?_set]
  by_cases e : A = i
  · subst e
    rw [List.getD_eq_getElem?_getD, List.getElem?_eq_getElem hl, Option.getD_some] at h
    simp [hl, h]
  · simp [e]
theorem Rt.other {n : Nat} {up : List Int} {A B : Nat} (hA : up.getD A 0 = (A : Int)) (hl : A < up.length) {h x r : Nat} (H : Rt n up h x r) (hr : r ≠ A) : Rt n (up.set A (B : Int)) h x r := by
  induction H with
  | root h1 h2 => exact .root h1 (by rw [getD_set _ _ _ _ hl, if_neg hr]; exact h2)
  | step h1 h2 h3 _ ih =>
    refine .step h1 ?_ h3 (ih hr)
    rw [getD_set _ _ _ _ hl, if_neg (fun e => ?_)]
    · exact h2
    · subst e; rw [hA] at h2; omega
theorem Rt.moved {n : Nat} {up : List Int} {A B : Nat} (hA : up.getD A 0 = (A : Int)) (hl : A < up.length) (hAB : B ≠ A) (hB : B < n) (hBr : up.getD B 0 = (B : Int)) {h x r : Nat} (H : Rt n up h x r) (hr : r = A) : Rt n (up.set A (B : Int)) (h + 1) x B := by
  induction H with
  | root h1 h2 =>
    subst hr
    refine .step h1 (y := B) (by rw [getD_set _ _ _ _ hl, if_pos rfl]) hAB (.root hB ?_)
    rw [getD_set _ _ _ _ hl, if_neg hAB]; exact hBr
  | step h1 h2 h3 _ ih =>
    refine .step h1 ?_ h3 (ih hr)
    rw [getD_set _ _ _ _ hl, if_neg (fun e => ?_)]
    · exact h2
    · subst e; rw [hA] at h2; omega
theorem jn_same {E : Nat → Nat → Prop} (hE : Eqv E) {a b : Nat} (h : E a b) : jn E a b = E := by
  funext x; funext y
  refine propext ⟨?_, .inl⟩
  rintro (h1 | ⟨h1, h2⟩ | ⟨h1, h2⟩)
  · exact h1
  · exact hE.trans h1 (hE.trans h h2)
  · exact hE.trans h1 (hE.trans (hE.symm h) h2)
theorem jn_symm (E : Nat → Nat → Prop) (a b : Nat) : jn E a b = jn E b a := by
  funext x; funext y
  unfold jn
  exact propext ⟨fun h => h.elim .inl fun h => h.elim (fun h => .inr (.inr h)) (fun h => .inr (.inl h)), fun h => h.elim .inl fun h => h.elim (fun h => .inr (.inr h)) (fun h => .inr (.inl h))⟩
theorem Forest.join {n : Nat} {up : List Int} {E : Nat → Nat → Prop} (F : Forest n up E) {a b A B ha hb : Nat} (HA : Rt n up ha a A) (HB : Rt n up hb b B) : Forest n (up.set A (B : Int)) (jn E a b) := by
  have ta := HA.top
  have tb := HB.top
  have hl := F.len
  have hlA : A < up.length := by omega
  by_cases hAB : A = B
  · subst hAB
    rw [jn_same F.eqv ((F.same HA HB).1 rfl), set_self' _ _ ta.2.2 hlA]
    exact F
  · have ne : B ≠ A := fun e => hAB e.symm
    have hE : ¬ E a b := fun h => hAB ((F.same HA HB).2 h)
    have new : ∀ {h x r : Nat}, Rt n up h x r → ∃ h', Rt n (up.set A (B : Int)) h' x (if r = A then B else r) := by
      intro h x r H
      by_cases e : r = A
      · rw [if_pos e]; exact ⟨_, H.moved ta.2.2 hlA ne tb.2.1 tb.2.2 e⟩
      · rw [if_neg e]; exact ⟨_, H.other ta.2.2 hlA e⟩
    refine ⟨by rw [List.length_set]; exact hl, jn_eqv F.eqv a b, fun x hx => ?_, fun {x y r s h h'} H H' => ?_, ?_⟩
    · obtain ⟨h, r, H⟩ := F.rt x hx
      obtain ⟨h', H'⟩ := new H
      exact ⟨_, _, H'⟩
    · obtain ⟨h0, r0, H0⟩ := F.rt x H.top.1
      obtain ⟨k0, s0, K0⟩ := F.rt y H'.top.1
      obtain ⟨_, N0⟩ := new H0
      obtain ⟨_, M0⟩ := new K0
      have e1 := H.uniq N0
      have e2 := H'.uniq M0
      have c0 := F.same H0 K0
      have c1 := F.same H0 HA
      have c2 := F.same HB K0
      have c3 := F.same H0 HB
      have c4 := F.same HA K0
      unfold jn
      rw [← c0, ← c1, ← c2, ← c3, ← c4, e1, e2]
      by_cases q1 : r0 = A <;> by_cases q2 : s0 = A
      · rw [if_pos q1, if_pos q2]; omega
      · rw [if_pos q1, if_neg q2]; omega
      · rw [if_neg q1, if_pos q2]; omega
      · rw [if_neg q1, if_neg q2]; omega
    · have c := cls_jn F.eqv ta.1 tb.1 hE
      have hc := F.count
      have u1 : ((List.range n).countP fun d : Nat => decide (up.getD d 0 = (d : Int))) ≤ ((List.range n).countP fun d : Nat => decide ((up.set A (B : Int)).getD d 0 = (d : Int))) + 1 := by
        refine countP_add_one (x := A) List.nodup_range fun d _ hd => ?_
        simp only [decide_eq_true_eq] at hd ⊢
        by_cases e : d = A
        · exact .inr e
        · left; rw [getD_set _ _ _ _ hlA, if_neg e]; exact hd
      have u2 : ((List.range n).countP fun d : Nat => decide ((up.set A (B : Int)).getD d 0 = (d : Int))) + 1 ≤ ((List.range n).countP fun d : Nat => decide (up.getD d 0 = (d : Int))) := by
        refine countP_lt_one (x := A) (fun d _ hd => ?_) (List.mem_range.2 ta.2.1) ?_ ?_
        · simp only [decide_eq_true_eq] at hd ⊢
          rw [getD_set _ _ _ _ hlA] at hd
          by_cases e : d = A
          · rw [if_pos e] at hd; subst e; exact ta.2.2
          · rw [if_neg e] at hd; exact hd
        · simp only [decide_eq_true_eq]; exact ta.2.2
        · simp only [decide_eq_false_iff_not]
          rw [getD_set _ _ _ _ hlA, if_pos rfl]; omega
      omega
theorem idM_getD (n x : Nat) (h : x < n) : (idM n).getD x 0 = (x : Int) := by
  simp [idM, h]
theorem Forest.id (n : Nat) : Forest n (idM n) (fun x y => x = y) := by
  refine ⟨by simp [idM], ⟨fun _ => rfl, fun h => h.symm, fun h k => h.trans k⟩, fun x hx => ⟨0, x, .root hx (idM_getD n x hx)⟩, fun {x y r s h h'} H H' => ?_, ?_⟩
  · have e1 := H.uniq (.root H.top.1 (idM_getD n x H.top.1))
    have e2 := H'.uniq (.root H'.top.1 (idM_getD n y H'.top.1))
    rw [e1, e2]
  · unfold cls
    rw [List.countP_eq_length.2, List.countP_eq_length.2]
    · intro d hd
      simp only [decide_eq_true_eq]
      intro e he hE; omega
    · intro d hd
      simp only [decide_eq_true_eq]
      exact idM_getD n d (List.mem_range.1 hd)
/-- the pairs (d, m d) and (d, mate d) joined, c of them from d on -/
def foldE (m : List Int) : Nat → Nat → (Nat → Nat → Prop) → Nat → Nat → Prop
  | 0, _, E => E
  | c + 1, d, E => foldE m c (d + 1) (jn (jn E d (m.getD d 0).toNat) d (mateN d).toNat)
def stepR (m : List Int) (x y : Nat) : Prop := x < m.length ∧ y = (m.getD x 0).toNat
def mateR (n : Nat) (x y : Nat) : Prop := x < n ∧ y = (mateN x).toNat
theorem jn_of {E : Nat → Nat → Prop} (hE : Eqv E) (a b : Nat) : jn E a b a b := .inr (.inl ⟨hE.refl a, hE.refl b⟩)
theorem jn_least {E E' : Nat → Nat → Prop} (hE : Eqv E') (h : ∀ x y, E x y → E' x y) {a b : Nat} (hab : E' a b) {x y : Nat} (hj : jn E a b x y) : E' x y := by
  rcases hj with h1 | ⟨h1, h2⟩ | ⟨h1, h2⟩
  · exact h _ _ h1
  · exact hE.trans (h _ _ h1) (hE.trans hab (h _ _ h2))
  · exact hE.trans (h _ _ h1) (hE.trans (hE.symm hab) (h _ _ h2))
theorem foldE_low (m : List Int) : ∀ (c d : Nat) (E : Nat → Nat → Prop), Eqv E → (∀ x y, E x y → foldE m c d E x y) ∧ (∀ x, d ≤ x → x < d + c → foldE m c d E x (m.getD x 0).toNat ∧ foldE m c d E x (mateN x).toNat)
  | 0, d, E, _ => ⟨fun _ _ h => h, fun x h1 h2 => by omega⟩
  | c + 1, d, E, hE => by
    have h1 := jn_eqv hE d (m.getD d 0).toNat
    have h2 := jn_eqv h1 d (mateN d).toNat
    have ih := foldE_low m c (d + 1) _ h2
    refine ⟨fun x y h => ih.1 _ _ (.inl (.inl h)), fun x h3 h4 => ?_⟩
    by_cases e : x = d
    · subst e
      exact ⟨ih.1 _ _ (.inl (jn_of hE _ _)), ih.1 _ _ (jn_of h1 _ _)⟩
    · exact ih.2 x (by omega) (by omega)
theorem foldE_up (m : List Int) {E' : Nat → Nat → Prop} (hE' : Eqv E') : ∀ (c d : Nat) (E : Nat → Nat → Prop), (∀ x y, E x y → E' x y) → (∀ x, d ≤ x → x < d + c → E' x (m.getD x 0).toNat ∧ E' x (mateN x).toNat) → ∀ x y, foldE m c d E x y → E' x y
  | 0, d, E, h, _ => h
  | c + 1, d, E, h, hp => by
    have hd := hp d (Nat.le_refl _) (by omega)
    exact foldE_up m hE' c (d + 1) _ (fun x y hj => jn_least hE' (fun x y hj => jn_least hE' h hd.1 hj) hd.2 hj) (fun x h1 h2 => hp x (by omega) (by omega))
/-- the parts of a map: its darts, steps and mates -/
def partR (m : List Int) : Nat → Nat → Prop := Con fun x y => stepR m x y ∨ mateR m.length x y
theorem foldE_is (m : List Int) (x y : Nat) : foldE m m.length 0 (fun x y => x = y) x y ↔ partR m x y := by
  constructor
  · refine foldE_up m (Con.eqv _) m.length 0 _ (fun x y h => h ▸ .refl x) (fun x _ h => ?_) x y
    exact ⟨.rel (.inl ⟨by omega, rfl⟩), .rel (.inr ⟨by omega, rfl⟩)⟩
  · have l := foldE_low m m.length 0 (fun x y => x = y) ⟨fun _ => rfl, fun h => h.symm, fun h k => h.trans k⟩
    have e : ∀ (c d : Nat) (E : Nat → Nat → Prop), Eqv E → Eqv (foldE m c d E) := by
      intro c
      induction c with
      | zero => intro d E h; exact h
      | succ c ih => intro d E h; exact ih _ _ (jn_eqv (jn_eqv h _ _) _ _)
    refine Con.least (e _ _ _ ⟨fun _ => rfl, fun h => h.symm, fun h k => h.trans k⟩) ?_
    rintro x y (⟨h1, rfl⟩ | ⟨h1, rfl⟩)
    · exact (l.2 x (by omega) (by omega)).1
    · exact (l.2 x (by omega) (by omega)).2
noncomputable def partN (m : List Int) : Nat := cls m.length (partR m)
theorem cls_foldE (m : List Int) : cls m.length (foldE m m.length 0 (fun x y => x = y)) = partN m := cls_congr (foldE_is m)
theorem mate_lt {n d : Nat} (hn : n % 2 = 0) (h : d < n) : 0 ≤ mateN d ∧ mateN d < n ∧ (mateN d).toNat < n := by
  unfold mateN; split <;> omega
theorem perm_get {m : List Int} (h : permB m = true) {d : Nat} (hd : d < m.length) : 0 ≤ m.getD d 0 ∧ m.getD d 0 < m.length ∧ (m.getD d 0).toNat < m.length := by
  have P := (permB_of h).1
  rw [List.getD_eq_getElem?_getD, List.getElem?_eq_getElem hd, Option.getD_some]
  have := P _ (List.getElem_mem hd)
  omega
theorem countP_one (p : Nat → Bool) (d : Nat) : [d].countP p = if p d = true then 1 else 0 := by
  cases h : p d <;> simp [h]

theorem spec_l3Find_rt {n : Nat} {up : List Int} (hl : up.length = n) {h x r : Nat} (H : Rt n up h x r) : EV (fun k => spec_l3Find.f k up (x : Int)) (r : Int) := by
  change EV (fun k => spec_l3Find.l0 k up (x : Int)) (r : Int)
  induction H with
  | root h1 h2 =>
    refine EV.step (fun k => by rw [spec_l3Find.l0]) ?_
    rw [rd_getD, Int.toNat_natCast]
    exact EV.pos (by omega) (EV.pos (by omega) (EV.pos h2 (EV.now _)))
  | step h1 h2 h3 _ ih =>
    refine EV.step (fun k => by rw [spec_l3Find.l0]) ?_
    rw [rd_getD, Int.toNat_natCast, h2]
    exact EV.pos (by omega) (EV.pos (by omega) (EV.neg (by omega) ih))
theorem spec_l6Parts_l2 {n : Nat} {up : List Int} {E : Nat → Nat → Prop} (F : Forest n up E) (m : List Int) (hm : m.length = n) (hn : n ≤ 24) : EV (fun k => spec_l6Parts.l2 k m up 0 0) ((cls n E : Nat) : Int) := by
  have hl := F.len
  rw [← F.count]
  have go : ∀ (c d : Nat), d + c = n → EV (fun k => spec_l6Parts.l2 k m up (((List.range d).countP fun d : Nat => decide (up.getD d 0 = (d : Int)) : Nat) : Int) (d : Int)) (((List.range n).countP fun d : Nat => decide (up.getD d 0 = (d : Int)) : Nat) : Int) := by
    intro c
    induction c with
    | zero =>
      intro d hd
      have : d = n := by omega
      subst this
      refine EV.step (fun k => by rw [spec_l6Parts.l2]) ?_
      exact EV.neg (by omega) (EV.now _)
    | succ c ih =>
      intro d hd
      have hc : ((List.range d).countP fun d : Nat => decide (up.getD d 0 = (d : Int))) ≤ d := by
        have := List.countP_le_length (p := fun d : Nat => decide (up.getD d 0 = (d : Int))) (l := List.range d)
        simpa using this
      refine EV.step (fun k => by rw [spec_l6Parts.l2]) ?_
      rw [rd_getD, Int.toNat_natCast]
      refine EV.pos (by omega) (EV.pos (by omega) (EV.pos (by omega) (EV.by (spec_l1Bit_is _) ?_)))
      have := ih (d + 1) (by omega)
      rw [w64 (x := (d : Int) + 1) (by omega) (by omega)]
      rw [List.range_succ, List.countP_append] at this
      generalize hq : ((List.range d).countP fun d : Nat => decide (up.getD d 0 = (d : Int))) = q at this hc
      by_cases e : up.getD d 0 = (d : Int)
      · rw [show (up.getD d 0 == (d : Int)) = true from beq_iff_eq.2 e, if_pos rfl, w64 (by omega) (by omega)]
        rw [show ([d].countP fun d : Nat => decide (up.getD d 0 = (d : Int))) = 1 from (countP_one _ d).trans (if_pos (decide_eq_true e))] at this
        exact this
      · rw [show (up.getD d 0 == (d : Int)) = false from beq_eq_false_iff_ne.2 e, if_neg (by simp), w64 (by omega) (by omega)]
        rw [show ([d].countP fun d : Nat => decide (up.getD d 0 = (d : Int))) = 0 from (countP_one _ d).trans (if_neg (by rw [decide_eq_false e]; exact Bool.false_ne_true))] at this
        exact EV.congr (fun k => by simp) this
  exact go n 0 (by omega)
theorem spec_l6Parts_l1 {m : List Int} (hm : permB m = true) (hn : m.length ≤ 24) (h2 : m.length % 2 = 0) : ∀ (c d : Nat) (up : List Int) (E : Nat → Nat → Prop), d + c = m.length → Forest m.length up E →
    EV (fun k => spec_l6Parts.l1 k m up (d : Int)) ((cls m.length (foldE m c d E) : Nat) : Int)
  | 0, d, up, E, hd, F => by
    refine EV.step (fun k => by rw [spec_l6Parts.l1]) ?_
    exact EV.neg (by omega) (spec_l6Parts_l2 F m rfl hn)
  | c + 1, d, up, E, hd, F => by
    have hg := perm_get hm (d := d) (by omega)
    have ht := mate_lt h2 (d := d) (by omega)
    obtain ⟨_, A, HA⟩ := F.rt d (by omega)
    obtain ⟨_, B, HB⟩ := F.rt _ hg.2.2
    have F1 := F.join HA HB
    obtain ⟨_, C, HC⟩ := F1.rt d (by omega)
    obtain ⟨_, D, HD⟩ := F1.rt _ ht.2.2
    have F2 := F1.join HC HD
    have e1 : m.getD d 0 = (((m.getD d 0).toNat : Nat) : Int) := by omega
    have e2 : mateN d = (((mateN d).toNat : Nat) : Int) := by omega
    have hl := F.len
    have hl1 := F1.len
    have tA := HA.top
    have tC := HC.top
    have fB := spec_l3Find_rt hl HB
    have fD := spec_l3Find_rt hl1 HD
    rw [← e1] at fB
    rw [← e2] at fD
    refine EV.step (fun k => by rw [spec_l6Parts.l1]) ?_
    rw [rd_getD, Int.toNat_natCast]
    refine EV.pos (by omega) (EV.bind (spec_l3Find_rt hl HA) (EV.pos (by omega) (EV.bind fB (EV.pos (by omega) (EV.pos (by omega) (EV.by rfl ?_))))))
    rw [Int.toNat_natCast]
    refine EV.bind (spec_l3Find_rt hl1 HC) (EV.by (spec_l6Mate_is d (by omega)) (EV.bind fD (EV.pos (by omega) (EV.pos (by omega) ?_))))
    rw [Int.toNat_natCast, w64 (x := (d : Int) + 1) (by omega) (by omega)]
    exact spec_l6Parts_l1 hm hn h2 c (d + 1) _ _ (by omega) F2
theorem spec_l6Parts_is {m : List Int} (hm : permB m = true) (hn : m.length ≤ 24) (h2 : m.length % 2 = 0) : EV (fun k => spec_l6Parts.f k m) ((partN m : Nat) : Int) := by
  have H : EV (fun k => spec_l6Parts.l0 k m (idM 0) 0) ((partN m : Nat) : Int) := by
    refine EV.count (g := fun k up i => spec_l6Parts.l0 k m up i) m.length (fun i => idM i) _ (fun i hi H => ?_) ?_
    · refine EV.step (fun k => by rw [spec_l6Parts.l0]) ?_
      rw [w64 (x := (i : Int) + 1) (by omega) (by omega)]
      refine EV.pos (by omega) (EV.pos (by simp [idM]; omega) ?_)
      have e : idM (i + 1) = idM i ++ [(i : Int)] := by simp [idM, List.range_succ]
      rw [e] at H; exact H
    · refine EV.step (fun k => by rw [spec_l6Parts.l0]) ?_
      refine EV.neg (by omega) ?_
      have := spec_l6Parts_l1 hm hn h2 m.length 0 (idM m.length) _ (by omega) (Forest.id _)
      rw [cls_foldE] at this
      exact this
  exact H

/-! ### the cycles of an order, counted -/
def mf (m : List Int) (x : Nat) : Nat := (m.getD x 0).toNat
def orbR (m : List Int) : Nat → Nat → Prop := Con (stepR m)
noncomputable def cycN (m : List Int) : Nat := cls m.length (orbR m)
theorem mf_lt {m : List Int} (h : permB m = true) {x : Nat} (hx : x < m.length) : mf m x < m.length := (perm_get h hx).2.2
theorem mf_cast {m : List Int} (h : permB m = true) {x : Nat} (hx : x < m.length) : m.getD x 0 = ((mf m x : Nat) : Int) := by
  have := perm_get h hx
  unfold mf; omega
theorem mf_inj {m : List Int} (h : permB m = true) {x y : Nat} (hx : x < m.length) (hy : y < m.length) (e : mf m x = mf m y) : x = y := by
  have ex := mf_cast h hx
  have ey := mf_cast h hy
  rw [← e, ← ex] at ey
  rw [List.getD_eq_getElem?_getD, List.getD_eq_getElem?_getD, List.getElem?_eq_getElem hx, List.getElem?_eq_getElem hy, Option.getD_some, Option.getD_some] at ey
  exact (List.getElem_inj (permB_of h).2).1 ey.symm
theorem orbR_step {m : List Int} {x : Nat} (hx : x < m.length) : orbR m x (mf m x) := .rel ⟨hx, rfl⟩
/-- some number ahead of d leads to x -/
def Ahead (m : List Int) (d x : Nat) : Prop := ∃ e, e < d ∧ orbR m e x
theorem getB_set (s : List Bool) (i x : Nat) (h : i < s.length) : (s.set i true).getD x false = if x = i then true else s.getD x false := by
  simp only [List.getD_eq_getElem?_getD, List.getElem?_set]
  by_cases e : i = x
  · subst e; simp [h]
  · have : ¬ x = i := fun h => e h.symm
    simp [e, this]
theorem rdOf_nat (s : List Bool) (i : Nat) : rdOf false s (i : Int) = s.getD i false := by
  simp [rdOf]
structure Inn (m : List Int) (d : Nat) (seen : List Bool) (L : List Nat) (e : Nat) : Prop where
  len : seen.length = m.length
  seen_ : ∀ x, x < m.length → (seen.getD x false = true ↔ (Ahead m d x ∨ x ∈ L))
  nodup : L.Nodup
  mem : ∀ x ∈ L, x < m.length ∧ ¬ Ahead m d x ∧ orbR m d x
  shape : (L = [] ∧ e = d) ∨ ∃ pre z, L = pre ++ [z] ∧ mf m z = e ∧ d ∈ L ∧ ∀ x ∈ L, x = d ∨ ∃ y ∈ pre, mf m y = x
  next : ∀ x ∈ L, mf m x ∈ L ∨ mf m x = e
  prev : ∀ x, x < m.length → mf m x ∈ L → x ∈ L ∨ mf m x = d
  here : e < m.length ∧ orbR m d e
  room : L.length + seen.count false ≤ m.length
theorem Inn.step {m : List Int} (hm : permB m = true) {d : Nat} (hd : ¬ Ahead m d d) {seen : List Bool} {L : List Nat} {e : Nat} (H : Inn m d seen L e) (he : seen.getD e false = false) : Inn m d (seen.set e true) (L ++ [e]) (mf m e) ∧ (seen.set e true).count false + 1 = seen.count false := by
  have hen : e < seen.length := by rw [H.len]; exact H.here.1
  have hL : e ∉ L := fun h => by
    have := (H.seen_ e H.here.1).2 (.inr h)
    rw [he] at this; cases this
  have hA : ¬ Ahead m d e := fun h => by
    have := (H.seen_ e H.here.1).2 (.inl h)
    rw [he] at this; cases this
  have hc : (seen.set e true).count false + 1 = seen.count false := by
    rw [List.count_set hen]
    have hp : 0 < seen.count false := List.count_pos_iff.2 (by
      rw [List.getD_eq_getElem?_getD, List.getElem?_eq_getElem hen, Option.getD_some] at he
      exact he ▸ List.getElem_mem hen)
    rw [List.getD_eq_getElem?_getD, List.getElem?_eq_getElem hen, Option.getD_some] at he
    rw [he]
    simp; omega
  refine ⟨⟨by rw [List.length_set]; exact H.len, fun x hx => ?_, ?_, fun x hx => ?_, .inr ⟨L, e, rfl, rfl, ?_, fun x hx => ?_⟩, fun x hx => ?_, fun x hx h => ?_, ⟨mf_lt hm H.here.1, .trans H.here.2 (orbR_step H.here.1)⟩, ?_⟩, hc⟩
  · rw [getB_set _ _ _ hen]
    by_cases h : x = e
    · rw [if_pos h]; subst h; simp
    · rw [if_neg h, H.seen_ x hx]; simp [h]
  · rw [List.nodup_append]
    exact ⟨H.nodup, by simp, fun a ha b hb => by
      rw [List.mem_singleton.1 hb]; intro q; exact hL (q ▸ ha)⟩
  · rcases List.mem_append.1 hx with h | h
    · exact H.mem x h
    · rw [List.mem_singleton.1 h]; exact ⟨H.here.1, hA, H.here.2⟩
  · rcases H.shape with ⟨_, h⟩ | ⟨_, _, _, _, h, _⟩
    · rw [h]; simp
    · exact List.mem_append_left _ h
  · rcases List.mem_append.1 hx with h | h
    · rcases H.shape with ⟨h1, _⟩ | ⟨pre, z, h1, _, _, h2⟩
      · rw [h1] at h; cases h
      · rcases h2 x h with h3 | ⟨y, hy, h3⟩
        · exact .inl h3
        · exact .inr ⟨y, by rw [h1]; exact List.mem_append_left _ hy, h3⟩
    · rw [List.mem_singleton.1 h]
      rcases H.shape with ⟨_, h1⟩ | ⟨pre, z, h1, h2, _, _⟩
      · exact .inl h1
      · exact .inr ⟨z, by rw [h1]; simp, h2⟩
  · rcases List.mem_append.1 hx with h | h
    · rcases H.next x h with h1 | h1
      · exact .inl (List.mem_append_left _ h1)
      · left; rw [h1]; simp
    · right; rw [List.mem_singleton.1 h]
  · rcases List.mem_append.1 h with h | h
    · rcases H.prev x hx h with h1 | h1
      · exact .inl (List.mem_append_left _ h1)
      · exact .inr h1
    · have h := List.mem_singleton.1 h
      rcases H.shape with ⟨_, h1⟩ | ⟨pre, z, h1, h2, _, _⟩
      · right; rw [h, h1]
      · left
        have hz : z ∈ L := by rw [h1]; simp
        have := mf_inj hm hx (H.mem z hz).1 (h.trans h2.symm)
        rw [this]; exact List.mem_append_left _ hz
  · have := H.room
    simp only [List.length_append, List.length_singleton]; omega
theorem Inn.stop {m : List Int} (hm : permB m = true) {d : Nat} (hd : ¬ Ahead m d d) {seen : List Bool} {L : List Nat} {e : Nat} (H : Inn m d seen L e) (he : seen.getD e false = true) : ∀ x, x < m.length → (seen.getD x false = true ↔ Ahead m (d + 1) x) := by
  have heL : e ∈ L := by
    rcases (H.seen_ e H.here.1).1 he with ⟨k, hk, h⟩ | h
    · exact absurd ⟨k, hk, .trans h (.symm H.here.2)⟩ hd
    · exact h
  rcases H.shape with ⟨h1, _⟩ | ⟨pre, z, h1, h2, h3, h4⟩
  · rw [h1] at heL; cases heL
  · have hz : z ∈ L := by rw [h1]; simp
    have hed : e = d := by
      rcases h4 e heL with h | ⟨y, hy, h⟩
      · exact h
      · have hyL : y ∈ L := by rw [h1]; exact List.mem_append_left _ hy
        have := mf_inj hm (H.mem y hyL).1 (H.mem z hz).1 (h.trans h2.symm)
        subst this
        have n := H.nodup
        rw [h1, List.nodup_append] at n
        exact absurd rfl (n.2.2 y hy y (by simp))
    have cl : ∀ x y, orbR m x y → (x ∈ L ↔ y ∈ L) := by
      intro x y h
      refine Con.least (E := fun x y => x ∈ L ↔ y ∈ L) ⟨fun _ => Iff.rfl, fun h => h.symm, fun h k => h.trans k⟩ ?_ h
      rintro x _ ⟨hx, rfl⟩
      constructor
      · intro h
        rcases H.next x h with h5 | h5
        · exact h5
        · have : mf m x ∈ L := by rw [h5]; exact heL
          exact this
      · intro h
        rcases H.prev x hx h with h5 | h5
        · exact h5
        · have := mf_inj hm hx (H.mem z hz).1 (h5.trans (hed.symm.trans h2.symm))
          rw [this]; exact hz
    intro x hx
    rw [H.seen_ x hx]
    constructor
    · rintro (⟨k, hk, h⟩ | h)
      · exact ⟨k, by omega, h⟩
      · exact ⟨d, by omega, (H.mem x h).2.2⟩
    · rintro ⟨k, hk, h⟩
      by_cases e : k = d
      · subst e; exact .inr ((cl _ _ h).1 h3)
      · exact .inl ⟨k, by omega, h⟩
open Classical in
/-- every reading of an order cycle by cycle finds that many -/
theorem cyc_all {m : List Int} (hm : permB m = true) (gO : Nat → List (List Int) → List Bool → Int → Option (List (List Int))) (gI : Nat → List (List Int) → List Bool → Int → List Int → Int → Option (List (List Int)))
    (h0 : ∀ cs seen, EV (fun k => gO k cs seen (m.length : Int)) cs)
    (h1 : ∀ (cs : List (List Int)) (seen : List Bool) (d : Nat) r, d < m.length → seen.length = m.length → seen.getD d false = true → EV (fun k => gO k cs seen ((d + 1 : Nat) : Int)) r → EV (fun k => gO k cs seen (d : Int)) r)
    (h2 : ∀ (cs : List (List Int)) (seen : List Bool) (d : Nat) r, d < m.length → seen.length = m.length → seen.getD d false = false → EV (fun k => gI k cs seen (d : Int) [] (d : Int)) r → EV (fun k => gO k cs seen (d : Int)) r)
    (h3 : ∀ (cs : List (List Int)) (seen : List Bool) (d e : Nat) (c : List Int) r, d < m.length → e < m.length → seen.length = m.length → c.length ≤ m.length → seen.getD e false = false → EV (fun k => gI k cs (seen.set e true) (d : Int) (c ++ [(e : Int)]) (m.getD e 0)) r → EV (fun k => gI k cs seen (d : Int) c (e : Int)) r)
    (h4 : ∀ (cs : List (List Int)) (seen : List Bool) (d e : Nat) (c : List Int) r, d < m.length → e < m.length → seen.length = m.length → cs.length ≤ m.length → seen.getD e false = true → EV (fun k => gO k (cs ++ [c]) seen ((d + 1 : Nat) : Int)) r → EV (fun k => gI k cs seen (d : Int) c (e : Int)) r) :
    ∃ cs, cs.length = cycN m ∧ EV (fun k => gO k [] (List.replicate m.length false) 0) cs := by
  have inner : ∀ (N : Nat) (d : Nat) (cs : List (List Int)) (seen : List Bool) (L : List Nat) (e : Nat) (Q : List (List Int) → Prop), seen.count false ≤ N → ¬ Ahead m d d → d < m.length → cs.length ≤ m.length → Inn m d seen L e →
      (∀ (seen' : List Bool) (c : List Int), seen'.length = m.length → (∀ x, x < m.length → (seen'.getD x false = true ↔ Ahead m (d + 1) x)) → ∃ r, Q r ∧ EV (fun k => gO k (cs ++ [c]) seen' ((d + 1 : Nat) : Int)) r) →
      ∃ r, Q r ∧ EV (fun k => gI k cs seen (d : Int) (L.map fun x : Nat => (x : Int)) (e : Int)) r := by
    intro N
    induction N with
    | zero =>
      intro d cs seen L e Q hN hd hdn hcs H K
      by_cases he : seen.getD e false = true
      · obtain ⟨r, hr, k⟩ := K seen (L.map fun x : Nat => (x : Int)) H.len (H.stop hm hd he)
        exact ⟨r, hr, h4 _ _ _ _ _ _ hdn H.here.1 H.len hcs he k⟩
      · have := (H.step hm hd (by simpa using he)).2; omega
    | succ N ih =>
      intro d cs seen L e Q hN hd hdn hcs H K
      by_cases he : seen.getD e false = true
      · obtain ⟨r, hr, k⟩ := K seen (L.map fun x : Nat => (x : Int)) H.len (H.stop hm hd he)
        exact ⟨r, hr, h4 _ _ _ _ _ _ hdn H.here.1 H.len hcs he k⟩
      · have he : seen.getD e false = false := by simpa using he
        obtain ⟨H', hc⟩ := H.step hm hd he
        obtain ⟨r, hr, k⟩ := ih d cs _ _ _ Q (by omega) hd hdn hcs H' K
        refine ⟨r, hr, h3 _ _ _ _ _ _ hdn H.here.1 H.len ?_ he ?_⟩
        · have := H.room; rw [List.length_map]; omega
        · rw [mf_cast hm H.here.1]
          rw [List.map_append] at k
          exact k
  have outer : ∀ (c d : Nat) (cs : List (List Int)) (seen : List Bool), d + c = m.length → seen.length = m.length → cs.length = (List.range d).countP (fun d => decide (∀ e, e < d → ¬ orbR m e d)) → (∀ x, x < m.length → (seen.getD x false = true ↔ Ahead m d x)) →
      ∃ r, r.length = cycN m ∧ EV (fun k => gO k cs seen (d : Int)) r := by
    intro c
    induction c with
    | zero =>
      intro d cs seen hd hl hcs hS
      have : d = m.length := by omega
      subst this
      exact ⟨cs, hcs, h0 cs seen⟩
    | succ c ih =>
      intro d cs seen hd hl hcs hS
      have hdn : d < m.length := by omega
      have hcl : cs.length ≤ m.length := by
        rw [hcs]
        refine Nat.le_trans (List.countP_le_length) ?_
        rw [List.length_range]; omega
      by_cases hs : seen.getD d false = true
      · have hA := (hS d hdn).1 hs
        obtain ⟨r, hr, k⟩ := ih (d + 1) cs seen (by omega) hl (by
          rw [hcs, List.range_succ, List.countP_append, countP_one, if_neg]
          · rfl
          · simp only [decide_eq_true_eq]
            intro h
            obtain ⟨e, he, ho⟩ := hA
            exact h e he ho) (fun x hx => by
          rw [hS x hx]
          constructor
          · rintro ⟨e, he, ho⟩; exact ⟨e, by omega, ho⟩
          · rintro ⟨e, he, ho⟩
            by_cases q : e = d
            · subst q
              obtain ⟨e', he', ho'⟩ := hA
              exact ⟨e', he', .trans ho' ho⟩
            · exact ⟨e, by omega, ho⟩)
        exact ⟨r, hr, h1 _ _ _ _ hdn hl hs k⟩
      · have hA : ¬ Ahead m d d := fun h => hs ((hS d hdn).2 h)
        have hs : seen.getD d false = false := by simpa using hs
        have hroom : ([] : List Nat).length + seen.count false ≤ m.length := by
          have := List.count_le_length (a := false) (l := seen)
          rw [List.length_nil]; omega
        have hI : Inn m d seen [] d := ⟨hl, fun x hx => by rw [hS x hx]; simp, List.nodup_nil, (fun x hx => by cases hx), .inl ⟨rfl, rfl⟩, (fun x hx => by cases hx), (fun x _ hx => by cases hx), ⟨hdn, .refl _⟩, hroom⟩
        obtain ⟨r, hr, k⟩ := inner (seen.count false) d cs seen [] d (fun r => r.length = cycN m) (Nat.le_refl _) hA hdn hcl hI (fun seen' c hl' hS' => ih (d + 1) (cs ++ [c]) seen' (by omega) hl' (by
          rw [List.length_append, hcs, List.range_succ, List.countP_append, countP_one, if_pos]
          · rfl
          · simp only [decide_eq_true_eq]
            intro e he ho
            exact hA ⟨e, he, ho⟩) hS')
        exact ⟨r, hr, h2 _ _ _ _ hdn hl hs k⟩
  exact outer m.length 0 [] (List.replicate m.length false) (by omega) (by simp) (by simp) (fun x hx => by
    constructor
    · intro h
      simp [List.getD_eq_getElem?_getD, List.getElem?_replicate, hx] at h
    · rintro ⟨e, he, _⟩; omega)

theorem spec_l6Cycles_is {m : List Int} (hm : permB m = true) (hn : m.length ≤ 24) : ∃ cs, cs.length = cycN m ∧ EV (fun k => spec_l6Cycles.f k m) cs := by
  obtain ⟨cs, hc, h⟩ := cyc_all hm (fun k cs seen d => spec_l6Cycles.l0 k m cs seen d) (fun k cs seen d c e => spec_l6Cycles.l1 k m cs seen d c e)
    (fun cs seen => by
      refine EV.step (fun k => by rw [spec_l6Cycles.l0]) ?_
      exact EV.neg (by omega) (EV.now _))
    (fun cs seen d r hd hl hs K => by
      refine EV.step (fun k => by rw [spec_l6Cycles.l0]) ?_
      rw [rdOf_nat, w64 (x := (d : Int) + 1) (by omega) (by omega)]
      exact EV.pos (by omega) (EV.pos (by omega) (EV.pos (by omega) (EV.pos hs K))))
    (fun cs seen d r hd hl hs K => by
      refine EV.step (fun k => by rw [spec_l6Cycles.l0]) ?_
      rw [rdOf_nat]
      exact EV.pos (by omega) (EV.pos (by omega) (EV.pos (by omega) (EV.neg (by rw [hs]; exact Bool.false_ne_true) K))))
    (fun cs seen d e c r hd he hl hc hs K => by
      refine EV.step (fun k => by rw [spec_l6Cycles.l1]) ?_
      rw [rdOf_nat, rd_getD, Int.toNat_natCast]
      exact EV.pos (by omega) (EV.pos (by omega) (EV.neg (by rw [hs]; exact Bool.false_ne_true) (EV.pos (by omega) (EV.pos (by omega) K)))))
    (fun cs seen d e c r hd he hl hc hs K => by
      refine EV.step (fun k => by rw [spec_l6Cycles.l1]) ?_
      rw [rdOf_nat, w64 (x := (d : Int) + 1) (by omega) (by omega)]
      exact EV.pos (by omega) (EV.pos (by omega) (EV.pos hs (EV.pos (by omega) K))))
  exact ⟨cs, hc, EV.pos (by omega) (EV.pos (by omega) (by rw [Int.toNat_natCast]; exact h))⟩

/-! ### how the cycles of a map, of its dual and its parts hang together -/
def dualM (m : List Int) : List Int := (List.range m.length).map fun d => m.getD (mateN d).toNat 0
theorem dualM_len (m : List Int) : (dualM m).length = m.length := by simp [dualM]
def mt (x : Nat) : Nat := if x % 2 = 0 then x + 1 else x - 1
theorem mt_is (x : Nat) : (mateN x).toNat = mt x := by unfold mateN mt; split <;> omega
theorem mt_lt {n x : Nat} (h : n % 2 = 0) (hx : x < n) : mt x < n := by unfold mt; split <;> omega
theorem mt_mt (x : Nat) : mt (mt x) = x := by unfold mt; split <;> split <;> omega
theorem dualM_get (m : List Int) {d : Nat} (h : d < m.length) : (dualM m).getD d 0 = m.getD (mt d) 0 := by
  rw [← mt_is]
  rw [List.getD_eq_getElem?_getD (l := dualM m), List.getElem?_eq_getElem (by rw [dualM_len]; exact h), Option.getD_some]
  simp [dualM]
theorem dualM_perm {m : List Int} (hm : permB m = true) (h2 : m.length % 2 = 0) : permB (dualM m) = true := by
  simp only [permB, Bool.and_eq_true, List.all_eq_true, decide_eq_true_iff, dualM_len]
  constructor
  · intro x hx
    simp only [dualM, List.mem_map, List.mem_range] at hx
    obtain ⟨d, hd, rfl⟩ := hx
    rw [mt_is]
    have := perm_get hm (mt_lt h2 hd)
    simp only [inB, decide_eq_true_eq]; omega
  · unfold dualM
    refine List.pairwise_map.2 (List.Pairwise.imp_of_mem (fun {a b} ha hb hab e => hab ?_) List.nodup_range)
    have ha := List.mem_range.1 ha
    have hb := List.mem_range.1 hb
    rw [mt_is, mt_is] at e
    have := mf_inj hm (mt_lt h2 ha) (mt_lt h2 hb) (by unfold mf; rw [e])
    rw [← mt_mt a, this, mt_mt]
/-- a reading x, f x, f (f x) .. -/
def itf (f : Nat → Nat) : Nat → Nat → Nat
  | 0, x => x
  | k + 1, x => f (itf f k x)
theorem itf_comm (f : Nat → Nat) : ∀ k x, itf f k (f x) = f (itf f k x)
  | 0, x => rfl
  | k + 1, x => by simp only [itf]; rw [itf_comm f k x]
theorem itf_lt {n : Nat} {f : Nat → Nat} (hf : ∀ x, x < n → f x < n) {x : Nat} (hx : x < n) : ∀ k, itf f k x < n
  | 0 => hx
  | k + 1 => hf _ (itf_lt hf hx k)
/-- it comes back -/
theorem itf_back {n : Nat} {f : Nat → Nat} (hf : ∀ x, x < n → f x < n) (hi : ∀ x y, x < n → y < n → f x = f y → x = y) {b : Nat} (hb : b < n) : ∃ k, itf f k (f b) = b := by
  have canc : ∀ i k, itf f i b = itf f (i + (k + 1)) b → itf f k (f b) = b := by
    intro i
    induction i with
    | zero =>
      intro k h
      rw [itf_comm]
      rw [show 0 + (k + 1) = k + 1 by omega] at h
      exact h.symm
    | succ i ih =>
      intro k h
      have e : i + 1 + (k + 1) = (i + (k + 1)) + 1 := by omega
      rw [e] at h
      simp only [itf] at h
      exact ih k (hi _ _ (itf_lt hf hb i) (itf_lt hf hb _) h)
  by_cases hN : ((List.range (n + 1)).map fun i => itf f i b).Nodup
  · have := hN.length_le_of_subset (l₂ := List.range n) (fun x hx => by
      obtain ⟨i, _, rfl⟩ := List.mem_map.1 hx
      exact List.mem_range.2 (itf_lt hf hb i))
    simp at this; omega
  · refine Classical.byContradiction fun hno => hN ?_
    refine List.pairwise_map.2 (List.Pairwise.imp_of_mem (fun {x y} _ _ hxy e => ?_) List.nodup_range)
    rcases Nat.lt_or_ge x y with h | h
    · obtain ⟨k, rfl⟩ : ∃ k, y = x + (k + 1) := ⟨y - x - 1, by omega⟩
      exact hno ⟨k, canc x k e⟩
    · obtain ⟨k, rfl⟩ : ∃ k, x = y + (k + 1) := ⟨x - y - 1, by omega⟩
      exact hno ⟨k, canc y k e.symm⟩
def cycR (n : Nat) (f : Nat → Nat) : Nat → Nat → Prop := Con fun x y => x < n ∧ y = f x
structure Swap (n : Nat) (f f' : Nat → Nat) (a b : Nat) : Prop where
  la : a < n
  lb : b < n
  fa : f' a = f b
  fb : f' b = f a
  other : ∀ x, x ≠ a → x ≠ b → f' x = f x
theorem cycR_eqv (n : Nat) (f : Nat → Nat) : Eqv (cycR n f) := Con.eqv _
theorem Swap.symm {n : Nat} {f f' : Nat → Nat} {a b : Nat} (h : Swap n f f' a b) : Swap n f' f a b :=
  ⟨h.la, h.lb, h.fb.symm, h.fa.symm, fun x h1 h2 => (h.other x h1 h2).symm⟩
theorem Swap.sub {n : Nat} {f f' : Nat → Nat} {a b : Nat} (h : Swap n f f' a b) {x y : Nat} (k : cycR n f' x y) : jn (cycR n f) a b x y := by
  refine Con.least (jn_eqv (Con.eqv _) a b) ?_ k
  rintro x _ ⟨hx, rfl⟩
  by_cases e : x = a
  · subst e; rw [h.fa]; exact .inr (.inl ⟨.refl _, .rel ⟨h.lb, rfl⟩⟩)
  · by_cases e' : x = b
    · subst e'; rw [h.fb]; exact .inr (.inr ⟨.refl _, .rel ⟨h.la, rfl⟩⟩)
    · rw [h.other x e e']; exact .inl (.rel ⟨hx, rfl⟩)
theorem Swap.le {n : Nat} {f f' : Nat → Nat} {a b : Nat} (h : Swap n f f' a b) : cls n (cycR n f') ≤ cls n (cycR n f) + 1 := by
  have h1 := cls_jn_le (n := n) (Con.eqv (fun x y => x < n ∧ y = f' x)) a b
  have h2 : cls n (jn (cycR n f') a b) ≤ cls n (cycR n f) := cls_mono fun x y k => h.symm.sub k
  have h1' : cls n (cycR n f') ≤ cls n (jn (cycR n f') a b) + 1 := h1
  omega
theorem Swap.lt {n : Nat} {f f' : Nat → Nat} {a b : Nat} (h : Swap n f f' a b) (hf : ∀ x, x < n → f x < n) (hi : ∀ x y, x < n → y < n → f x = f y → x = y) (hab : ¬ cycR n f a b) : cls n (cycR n f') + 1 ≤ cls n (cycR n f) := by
  obtain ⟨k, hk⟩ := itf_back hf hi h.lb
  have go : ∀ j, cycR n f' (f b) b ∨ (cycR n f' (f b) (itf f j (f b)) ∧ cycR n f b (itf f j (f b))) := by
    intro j
    induction j with
    | zero => exact .inr ⟨.refl _, .rel ⟨h.lb, rfl⟩⟩
    | succ j ih =>
      rcases ih with ih | ⟨ih, ih'⟩
      · exact .inl ih
      · by_cases e : itf f j (f b) = b
        · rw [e] at ih; exact .inl ih
        · have ne : itf f j (f b) ≠ a := fun q => hab (by rw [q] at ih'; exact .symm ih')
          have lt := itf_lt hf (hf b h.lb) j
          right
          simp only [itf]
          refine ⟨.trans ih ?_, .trans ih' (.rel ⟨lt, rfl⟩)⟩
          rw [← h.other _ ne e]
          exact .rel ⟨lt, rfl⟩
  have hb : cycR n f' (f b) b := by
    rcases go k with h1 | ⟨h1, _⟩
    · exact h1
    · rw [hk] at h1; exact h1
  have hj : cycR n f' a b := .trans (.rel ⟨h.la, h.fa.symm⟩) hb
  have h1 : cls n (jn (cycR n f) a b) + 1 ≤ cls n (cycR n f) := cls_jn_lt (Con.eqv _) h.la h.lb hab
  have h2 : cls n (cycR n f') ≤ cls n (jn (cycR n f) a b) := cls_mono fun x y k => by
    refine jn_least (cycR_eqv n f') (fun x y k => ?_) hj k
    have e := jn_same (Con.eqv (fun x y => x < n ∧ y = f' x)) hj
    have := h.symm.sub k
    unfold cycR at this ⊢
    rw [e] at this
    exact this
  omega
/-- the order behind t mates -/
def ft (m : List Int) (t x : Nat) : Nat := mf m (if x < 2 * t then mt x else x)
def Pt (m : List Int) (t : Nat) : Nat → Nat → Prop := Con fun x y => stepR m x y ∨ (x < 2 * t ∧ y = mt x)
theorem Pt_eqv (m : List Int) (t : Nat) : Eqv (Pt m t) := Con.eqv _
theorem mt_two {x t : Nat} (h : x < 2 * t) : mt x < 2 * t := by unfold mt; split <;> omega
theorem euler_le {m : List Int} (hm : permB m = true) (h2 : m.length % 2 = 0) : ∀ t, 2 * t ≤ m.length → cls m.length (cycR m.length (ft m t)) + cycN m ≤ 2 * cls m.length (Pt m t) + t
  | 0, _ => by
    have e1 : cls m.length (cycR m.length (ft m 0)) = cycN m := by
      refine cls_congr fun x y => ⟨Con.mono fun a b h => .rel h, Con.mono fun a b h => .rel h⟩
    have e2 : cls m.length (Pt m 0) = cycN m := by
      refine cls_congr fun x y => ⟨Con.mono fun a b h => ?_, Con.mono fun a b h => .rel (.inl h)⟩
      rcases h with h | h
      · exact .rel h
      · omega
    omega
  | t + 1, ht => by
    have ih := euler_le hm h2 t (by omega)
    have ma : mt (2 * t) = 2 * t + 1 := by unfold mt; split <;> omega
    have mb : mt (2 * t + 1) = 2 * t := by unfold mt; split <;> omega
    have S : Swap m.length (ft m t) (ft m (t + 1)) (2 * t) (2 * t + 1) := by
      refine ⟨by omega, by omega, ?_, ?_, fun x h1 h2 => ?_⟩
      · unfold ft; rw [if_pos (by omega), if_neg (by omega), ma]
      · unfold ft; rw [if_pos (by omega), if_neg (by omega), mb]
      · unfold ft
        by_cases h : x < 2 * t
        · rw [if_pos (by omega), if_pos h]
        · rw [if_neg (by omega), if_neg h]
    have up : ∀ x y, Pt m (t + 1) x y → jn (Pt m t) (2 * t) (2 * t + 1) x y := by
      intro x y h
      refine Con.least (jn_eqv (Con.eqv _) _ _) ?_ h
      rintro x y (h | ⟨h, rfl⟩)
      · exact .inl (.rel (.inl h))
      · by_cases c : x < 2 * t
        · exact .inl (.rel (.inr ⟨c, rfl⟩))
        · by_cases e : x = 2 * t
          · subst e; rw [ma]; exact .inr (.inl ⟨.refl _, .refl _⟩)
          · have e : x = 2 * t + 1 := by omega
            subst e; rw [mb]; exact .inr (.inr ⟨.refl _, .refl _⟩)
    have p1 : cls m.length (Pt m t) ≤ cls m.length (Pt m (t + 1)) + 1 := by
      have q1 : cls m.length (Pt m t) ≤ cls m.length (jn (Pt m t) (2 * t) (2 * t + 1)) + 1 := cls_jn_le (Con.eqv _) _ _
      have q2 : cls m.length (jn (Pt m t) (2 * t) (2 * t + 1)) ≤ cls m.length (Pt m (t + 1)) := cls_mono up
      omega
    by_cases hab : cycR m.length (ft m t) (2 * t) (2 * t + 1)
    · have hP : Pt m t (2 * t) (2 * t + 1) := by
        refine Con.mono (fun x y h => ?_) hab
        obtain ⟨hx, rfl⟩ := h
        unfold ft
        by_cases c : x < 2 * t
        · rw [if_pos c]
          exact .trans (.rel (.inr ⟨c, rfl⟩)) (.rel (.inl ⟨mt_lt h2 hx, rfl⟩))
        · rw [if_neg c]; exact .rel (.inl ⟨hx, rfl⟩)
      have p2 : cls m.length (Pt m t) ≤ cls m.length (Pt m (t + 1)) := cls_mono fun x y h => by
        have := up x y h
        rw [jn_same (Pt_eqv m t) hP] at this
        exact this
      have := S.le
      omega
    · have := S.lt (fun x hx => by
        unfold ft; split
        · exact mf_lt hm (mt_lt h2 hx)
        · exact mf_lt hm hx) (fun x y hx hy e => by
        unfold ft at e
        have := mf_inj hm (by split; exact mt_lt h2 hx; exact hx) (by split; exact mt_lt h2 hy; exact hy) e
        by_cases c1 : x < 2 * t <;> by_cases c2 : y < 2 * t
        · rw [if_pos c1, if_pos c2] at this
          rw [← mt_mt x, this, mt_mt]
        · rw [if_pos c1, if_neg c2] at this
          have := mt_two c1; omega
        · rw [if_neg c1, if_pos c2] at this
          have := mt_two c2; omega
        · rw [if_neg c1, if_neg c2] at this; exact this) hab
      omega
theorem euler {m : List Int} (hm : permB m = true) (h2 : m.length % 2 = 0) : cycN (dualM m) + cycN m ≤ 2 * partN m + m.length / 2 := by
  have h := euler_le hm h2 (m.length / 2) (by omega)
  have e : 2 * (m.length / 2) = m.length := by omega
  have e1 : cls m.length (cycR m.length (ft m (m.length / 2))) = cycN (dualM m) := by
    unfold cycN
    rw [dualM_len]
    have k : ∀ x, x < m.length → ft m (m.length / 2) x = mf (dualM m) x := fun x hx => by
      unfold ft mf; rw [if_pos (by omega), dualM_get m hx]
    refine cls_congr fun x y => ⟨Con.mono fun a b h => ?_, Con.mono fun a b h => ?_⟩
    · exact .rel ⟨by rw [dualM_len]; exact h.1, by rw [h.2, k a h.1]; rfl⟩
    · have h1 := h.1
      rw [dualM_len] at h1
      exact .rel ⟨h1, by rw [h.2, k a h1]; rfl⟩
  have e2 : cls m.length (Pt m (m.length / 2)) = partN m := by
    refine cls_congr fun x y => ⟨Con.mono fun a b h => ?_, Con.mono fun a b h => ?_⟩
    · rcases h with h | ⟨h, k⟩
      · exact .rel (.inl h)
      · exact .rel (.inr ⟨by omega, by rw [k, mt_is]⟩)
    · rcases h with h | ⟨h, k⟩
      · exact .rel (.inl h)
      · exact .rel (.inr ⟨by omega, by rw [k, mt_is]⟩)
  omega
theorem cls_le (n : Nat) (E : Nat → Nat → Prop) : cls n E ≤ n := by
  unfold cls
  refine Nat.le_trans List.countP_le_length ?_
  rw [List.length_range]; exact Nat.le_refl _
noncomputable def genN (m : List Int) : Int := (partN m : Int) - Int.tdiv ((cycN m : Int) - ((m.length / 2 : Nat) : Int) + (cycN (dualM m) : Int)) 2
theorem tdiv_two (z : Int) : 2 * Int.tdiv z 2 ≤ z + 1 ∧ z - 1 ≤ 2 * Int.tdiv z 2 := by
  rcases Int.le_total 0 z with h | h
  · rw [Int.tdiv_eq_ediv_of_nonneg h]; omega
  · obtain ⟨w, rfl⟩ : ∃ w, z = -w := ⟨-z, by omega⟩
    rw [Int.neg_tdiv, Int.tdiv_eq_ediv_of_nonneg (by omega)]; omega
theorem genN_bd {m : List Int} (hm : permB m = true) (hn : m.length ≤ 24) (h2 : m.length % 2 = 0) : 0 ≤ genN m ∧ genN m ≤ 100 ∧ cycN m ≤ 24 ∧ cycN (dualM m) ≤ 24 ∧ partN m ≤ 24 := by
  have h := euler hm h2
  have h3 : partN m ≤ m.length := cls_le _ _
  have h4 : cycN m ≤ m.length := cls_le _ _
  have h5 : cycN (dualM m) ≤ (dualM m).length := cls_le _ _
  rw [dualM_len] at h5
  unfold genN
  have := tdiv_two ((cycN m : Int) - ((m.length / 2 : Nat) : Int) + (cycN (dualM m) : Int))
  omega

theorem spec_l6Dual_is {m : List Int} (hn : m.length ≤ 24) (h2 : m.length % 2 = 0) : EV (fun k => spec_l6Dual.f k m) (dualM m) := by
  have H : EV (fun k => spec_l6Dual.l0 k m ((List.range 0).map fun d => m.getD (mateN d).toNat 0) 0) (dualM m) := by
    refine EV.count (g := fun k x i => spec_l6Dual.l0 k m x i) m.length (fun i => (List.range i).map fun d => m.getD (mateN d).toNat 0) _ (fun i hi H => ?_) ?_
    · have ht := mate_lt h2 hi
      refine EV.step (fun k => by rw [spec_l6Dual.l0]) ?_
      rw [w64 (x := (i : Int) + 1) (by omega) (by omega)]
      refine EV.pos (by omega) (EV.by (spec_l6Mate_is i (by omega)) (EV.pos (by omega) (EV.pos (by omega) (EV.pos (by simp; omega) ?_))))
      rw [List.range_succ, List.map_append] at H
      exact H
    · refine EV.step (fun k => by rw [spec_l6Dual.l0]) ?_
      exact EV.neg (by omega) (EV.now _)
  exact H

theorem genus_sum {m : List Int} (hm : permB m = true) (hn : m.length ≤ 24) (h2 : m.length % 2 = 0) (a b : List (List Int)) (ha : a.length = cycN m) (hb : b.length = cycN (dualM m)) :
    wrap64 (((partN m : Nat) : Int) - (wrap64 (Int.tdiv (wrap64 ((wrap64 ((a.length : Int) - (wrap64 ((m.length : Int) / 2)))) + (b.length : Int))) 2))) = genN m := by
  have B := genN_bd hm hn h2
  rw [ha, hb]
  have e : ((m.length : Int) / 2) = ((m.length / 2 : Nat) : Int) := by omega
  rw [e, w64 (x := ((m.length / 2 : Nat) : Int)) (by omega) (by omega), w64 (x := (cycN m : Int) - ((m.length / 2 : Nat) : Int)) (by omega) (by omega), w64 (x := (cycN m : Int) - ((m.length / 2 : Nat) : Int) + (cycN (dualM m) : Int)) (by omega) (by omega)]
  have t := tdiv_two ((cycN m : Int) - ((m.length / 2 : Nat) : Int) + (cycN (dualM m) : Int))
  rw [w64 (x := Int.tdiv _ 2) (by omega) (by omega)]
  have g : (partN m : Int) - Int.tdiv ((cycN m : Int) - ((m.length / 2 : Nat) : Int) + (cycN (dualM m) : Int)) 2 = genN m := rfl
  rw [g, w64 (by omega) (by omega)]
theorem spec_l6Genus_is {m : List Int} (hm : permB m = true) (hn : m.length ≤ 24) (h2 : m.length % 2 = 0) : EV (fun k => spec_l6Genus.f k m) (genN m) := by
  obtain ⟨a, ha, h⟩ := spec_l6Cycles_is hm hn
  obtain ⟨b, hb, k⟩ := spec_l6Cycles_is (dualM_perm hm h2) (by rw [dualM_len]; exact hn)
  exact EV.bind (spec_l6Parts_is hm hn h2) (EV.bind h (EV.bind (spec_l6Dual_is hn h2) (EV.bind k ((EV.now _).eq (genus_sum hm hn h2 a b ha hb)))))

theorem spec_l1Min_is (a b : Int) : spec_l1Min.f a b = some (if a < b then a else b) := by
  unfold spec_l1Min.f; split <;> rfl

/-! ### the orders of a list behind its first member, twice -/
def insO (x : Int) (o : List Int) (lo : Nat) : Nat → List (List Int)
  | 0 => []
  | c + 1 => (o.take (lo + c) ++ [x] ++ o.drop (lo + c)) :: insO x o lo c
theorem mem_insO (x : Int) (o : List Int) (lo : Nat) : ∀ c u, u ∈ insO x o lo c ↔ ∃ i, i < c ∧ u = o.take (lo + i) ++ [x] ++ o.drop (lo + i)
  | 0, u => by simp [insO]
  | c + 1, u => by
    simp only [insO, List.mem_cons, mem_insO x o lo c u]
    constructor
    · rintro (h | ⟨i, h, k⟩)
      · exact ⟨c, by omega, h⟩
      · exact ⟨i, by omega, k⟩
    · rintro ⟨i, h, k⟩
      by_cases e : i = c
      · subst e; exact .inl k
      · exact .inr ⟨i, by omega, k⟩
theorem insO_len (x : Int) (o : List Int) (lo : Nat) : ∀ c, (insO x o lo c).length = c
  | 0 => rfl
  | c + 1 => by simp [insO, insO_len x o lo c]
theorem insO_nodup {x : Int} {o : List Int} (hx : x ∉ o) (lo : Nat) : ∀ c, lo + c ≤ o.length + 1 → (insO x o lo c).Nodup
  | 0, _ => by simp [insO]
  | c + 1, h => by
    refine List.nodup_cons.2 ⟨fun hm => ?_, insO_nodup hx lo c (by omega)⟩
    obtain ⟨i, hi, e⟩ := (mem_insO x o lo c _).1 hm
    have e2 := congrArg (List.take (lo + i + 1)) e
    have l1 : (o.take (lo + c)).length = lo + c := by rw [List.length_take]; omega
    have l2 : (o.take (lo + i)).length = lo + i := by rw [List.length_take]; omega
    rw [List.append_assoc, List.take_append_of_le_length (by omega)] at e2
    have : x ∈ List.take (lo + i + 1) (o.take (lo + i) ++ [x] ++ o.drop (lo + i)) := by
      rw [List.take_append_of_le_length (by rw [List.length_append, l2]; simp)]
      rw [List.take_of_length_le (by rw [List.length_append, l2]; simp)]
      simp
    rw [← e2] at this
    exact hx (List.mem_of_mem_take (List.mem_of_mem_take this))
theorem insO_erase {x : Int} {o : List Int} (hx : x ∉ o) (lo c : Nat) {u : List Int} (h : u ∈ insO x o lo c) : u.erase x = o := by
  obtain ⟨i, _, rfl⟩ := (mem_insO x o lo c _).1 h
  rw [List.append_assoc, List.erase_append_right _ (fun h => hx (List.mem_of_mem_take h))]
  simp
def insA (x : Int) (out : List (List Int)) : List (List Int) := out.flatMap fun o => insO x o 1 o.length
/-- the members of out: a, then an order of q -/
def Holds (a : Int) (q : List Int) (out : List (List Int)) : Prop := out.Nodup ∧ ∀ o, o ∈ out ↔ ∃ p, o = a :: p ∧ p.Perm q
theorem Holds.ins {a : Int} {q : List Int} {out : List (List Int)} (h : Holds a q out) {x : Int} (hx : x ∉ q) (ha : x ≠ a) : Holds a (x :: q) (insA x out) := by
  have hn : ∀ o ∈ out, x ∉ o := by
    intro o ho hm
    obtain ⟨p, rfl, hp⟩ := (h.2 o).1 ho
    rcases List.mem_cons.1 hm with e | e
    · exact ha e
    · exact hx (hp.mem_iff.1 e)
  refine ⟨?_, fun o => ?_⟩
  · refine List.pairwise_flatMap.2 ⟨fun o ho => insO_nodup (hn o ho) 1 o.length (by omega), ?_⟩
    refine List.Pairwise.imp_of_mem (fun {o1 o2} h1 h2 hne u hu v hv e => hne ?_) h.1
    rw [← insO_erase (hn o1 h1) 1 _ hu, ← insO_erase (hn o2 h2) 1 _ hv, e]
  · unfold insA
    rw [List.mem_flatMap]
    constructor
    · rintro ⟨o1, h1, hu⟩
      obtain ⟨p, rfl, hp⟩ := (h.2 o1).1 h1
      obtain ⟨i, hi, rfl⟩ := (mem_insO _ _ _ _ _).1 hu
      refine ⟨p.take i ++ [x] ++ p.drop i, by rw [Nat.add_comm]; simp, ?_⟩
      rw [List.append_assoc, List.singleton_append]
      refine List.Perm.trans List.perm_middle ?_
      rw [List.take_append_drop]
      exact hp.cons x
    · rintro ⟨p, rfl, hp⟩
      have hm : x ∈ p := hp.mem_iff.2 List.mem_cons_self
      obtain ⟨s, t, rfl⟩ := List.append_of_mem hm
      have hst : (s ++ t).Perm q := (List.perm_middle.symm.trans hp).cons_inv
      refine ⟨a :: (s ++ t), (h.2 _).2 ⟨_, rfl, hst⟩, (mem_insO _ _ _ _ _).2 ⟨s.length, by simp; omega, ?_⟩⟩
      rw [Nat.add_comm]
      simp
/-- the orders of l, the first member kept ahead -/
def ord7 : List Int → List (List Int)
  | [] => [[]]
  | a :: r => r.foldl (fun out x => insA x out) [[a]]
theorem ord7_fold {a : Int} : ∀ (r q : List Int) (out : List (List Int)), (a :: (q ++ r)).Nodup → Holds a q out → ∃ q', q'.Perm (q ++ r) ∧ Holds a q' (r.foldl (fun out x => insA x out) out)
  | [], q, out, _, h => ⟨q, by simp, h⟩
  | x :: r, q, out, hn, h => by
    have n := hn
    rw [List.nodup_cons, List.nodup_append] at n
    have hx : x ∉ q := fun hm => n.2.2.2 x hm x List.mem_cons_self rfl
    have ha : x ≠ a := fun e => n.1 (by rw [← e]; simp)
    obtain ⟨q', hq, hh⟩ := ord7_fold r (x :: q) (insA x out) (by
      have : (a :: (q ++ x :: r)).Perm (a :: (x :: q ++ r)) := (List.perm_middle).cons a
      exact this.nodup_iff.1 hn) (h.ins hx ha)
    exact ⟨q', hq.trans List.perm_middle.symm, hh⟩
theorem ord7_is {a : Int} {r : List Int} (hn : (a :: r).Nodup) : Holds a r (ord7 (a :: r)) := by
  obtain ⟨q', hq, h1, h2⟩ := ord7_fold r [] [[a]] hn ⟨by simp, fun o => by simp⟩
  exact ⟨h1, fun o => (h2 o).trans ⟨fun ⟨p, e, k⟩ => ⟨p, e, k.trans hq⟩, fun ⟨p, e, k⟩ => ⟨p, e, k.trans hq.symm⟩⟩⟩
/-- the orders of xs from place k on, m places left -/
def swG (xs : List Int) (k i : Nat) : List Int := (xs.set k (xs.getD i 0)).set i (xs.getD k 0)
def ordB (A : List Int → List (List Int)) (k : Nat) (xs : List Int) : Nat → Nat → List (List Int)
  | 0, _ => []
  | c + 1, i => A (swG xs k i) ++ ordB A k xs c (i + 1)
def ordA : Nat → Nat → List Int → List (List Int)
  | 0, _, xs => [xs]
  | m + 1, k, xs => ordB (ordA m (k + 1)) k xs (m + 1) k
theorem swG_perm (xs : List Int) {k i : Nat} (hk : k < xs.length) (hi : i < xs.length) : (swG xs k i).Perm xs := by
  have gk : xs.getD k 0 = xs[k] := by simp [hk]
  have gi : xs.getD i 0 = xs[i] := by simp [hi]
  rw [List.perm_iff_count]
  intro a
  unfold swG
  rw [List.count_set (by rw [List.length_set]; exact hi), List.count_set hk, gk, gi]
  have e : (xs.set k xs[i])[i]'(by rw [List.length_set]; exact hi) = xs[i] := by
    rw [List.getElem_set]; split <;> rfl
  rw [e]
  by_cases h : (xs[k] == a) = true
  · have : 0 < xs.count a := List.count_pos_iff.2 (by rw [← eq_of_beq h]; exact List.getElem_mem hk)
    rw [if_pos h]; omega
  · rw [if_neg h]; omega
theorem swG_len (xs : List Int) (k i : Nat) : (swG xs k i).length = xs.length := by simp [swG]
theorem swG_take (xs : List Int) {k i : Nat} (hi : i < xs.length) (hki : k ≤ i) : (swG xs k i).take (k + 1) = xs.take k ++ [xs.getD i 0] := by
  apply List.ext_getElem?
  intro j
  unfold swG
  rw [List.getElem?_take]
  by_cases h : j < k
  · rw [if_pos (by omega), List.getElem?_set_ne (by omega), List.getElem?_set_ne (by omega), List.getElem?_append_left (by rw [List.length_take]; omega), List.getElem?_take, if_pos h]
  · by_cases e : j = k
    · subst e
      rw [if_pos (by omega), List.getElem?_append_right (by rw [List.length_take]; omega)]
      have : j - (xs.take j).length = 0 := by rw [List.length_take]; omega
      rw [this, List.getElem?_cons_zero]
      by_cases e2 : i = j
      · subst e2; rw [List.getElem?_set_self (by rw [List.length_set]; exact hi)]
      · rw [List.getElem?_set_ne e2, List.getElem?_set_self (by omega)]
    · rw [if_neg (by omega), List.getElem?_eq_none (by rw [List.length_append, List.length_take, List.length_singleton]; omega)]
theorem mem_ordB (A : List Int → List (List Int)) (k : Nat) (xs : List Int) (p : List Int) : ∀ c i, p ∈ ordB A k xs c i ↔ ∃ j, i ≤ j ∧ j < i + c ∧ p ∈ A (swG xs k j)
  | 0, i => by
    constructor
    · intro h; cases h
    · rintro ⟨j, h1, h2, _⟩; omega
  | c + 1, i => by
    simp only [ordB, List.mem_append, mem_ordB A k xs p c (i + 1)]
    constructor
    · rintro (h | ⟨j, h1, h2, h3⟩)
      · exact ⟨i, by omega, by omega, h⟩
      · exact ⟨j, by omega, by omega, h3⟩
    · rintro ⟨j, h1, h2, h3⟩
      by_cases e : j = i
      · subst e; exact .inl h3
      · exact .inr ⟨j, by omega, by omega, h3⟩
theorem ordA_is : ∀ (m k : Nat) (xs : List Int), k + m = xs.length → xs.Nodup → (ordA m k xs).Nodup ∧ ∀ p, p ∈ ordA m k xs ↔ (p.Perm xs ∧ p.take k = xs.take k)
  | 0, k, xs, hk, hn => by
    refine ⟨by simp [ordA], fun p => ?_⟩
    simp only [ordA, List.mem_singleton]
    constructor
    · rintro rfl; exact ⟨.refl _, rfl⟩
    · rintro ⟨h1, h2⟩
      have := h1.length_eq
      rw [List.take_of_length_le (by omega), List.take_of_length_le (by omega)] at h2
      exact h2
  | m + 1, k, xs, hk, hn => by
    have sub : ∀ j, k ≤ j → j < xs.length → (ordA m (k + 1) (swG xs k j)).Nodup ∧ ∀ p, p ∈ ordA m (k + 1) (swG xs k j) ↔ (p.Perm xs ∧ p.take (k + 1) = xs.take k ++ [xs.getD j 0]) := by
      intro j h1 h2
      have hp := swG_perm xs (k := k) (i := j) (by omega) h2
      have ih := ordA_is m (k + 1) (swG xs k j) (by rw [swG_len]; omega) (hp.nodup_iff.2 hn)
      refine ⟨ih.1, fun p => (ih.2 p).trans ?_⟩
      rw [swG_take xs h2 h1]
      exact ⟨fun h => ⟨h.1.trans hp, h.2⟩, fun h => ⟨h.1.trans hp.symm, h.2⟩⟩
    refine ⟨?_, fun p => ?_⟩
    · have go : ∀ c i, k ≤ i → i + c ≤ xs.length → (ordB (ordA m (k + 1)) k xs c i).Nodup := by
        intro c
        induction c with
        | zero => intro i _ _; simp [ordB]
        | succ c ih =>
          intro i h1 h2
          simp only [ordB]
          rw [List.nodup_append]
          refine ⟨(sub i h1 (by omega)).1, ih (i + 1) (by omega) (by omega), fun a ha b hb e => ?_⟩
          subst e
          obtain ⟨j, h3, h4, h5⟩ := (mem_ordB _ _ _ _ _ _).1 hb
          have e1 := (((sub i h1 (by omega)).2 a).1 ha).2
          have e2 := (((sub j (by omega) (by omega)).2 a).1 h5).2
          rw [e1] at e2
          have e3 := List.append_cancel_left e2
          have hi : i < xs.length := by omega
          have hj : j < xs.length := by omega
          rw [show xs.getD i 0 = xs[i] by simp [hi], show xs.getD j 0 = xs[j] by simp [hj]] at e3
          have := (List.getElem_inj hn).1 (List.cons.inj e3).1
          omega
      exact go (m + 1) k (Nat.le_refl _) (by omega)
    · simp only [ordA]
      rw [mem_ordB]
      constructor
      · rintro ⟨j, h1, h2, h3⟩
        obtain ⟨h4, h5⟩ := ((sub j h1 (by omega)).2 p).1 h3
        refine ⟨h4, ?_⟩
        have := congrArg (List.take k) h5
        rw [List.take_take, Nat.min_eq_left (by omega), List.take_append_of_le_length (by rw [List.length_take]; omega), List.take_take, Nat.min_self] at this
        exact this
      · rintro ⟨h1, h2⟩
        have hl := h1.length_eq
        have hkp : k < p.length := by omega
        have hd : (p.drop k).Perm (xs.drop k) := by
          have := h1
          rw [← List.take_append_drop k p, ← List.take_append_drop k xs, h2] at this
          exact (List.perm_append_left_iff _).1 this
        have hm : p[k] ∈ xs.drop k := hd.mem_iff.1 (by rw [List.drop_eq_getElem_cons hkp]; exact List.mem_cons_self)
        obtain ⟨i, hi, e⟩ := List.mem_iff_getElem.1 hm
        rw [List.length_drop] at hi
        rw [List.getElem_drop] at e
        refine ⟨k + i, by omega, by omega, ((sub (k + i) (by omega) (by omega)).2 p).2 ⟨h1, ?_⟩⟩
        rw [List.take_succ_eq_append_getElem hkp, h2, ← e]
        have : k + i < xs.length := by omega
        simp [this]
def ordI : List Int → List (List Int)
  | [] => [[]]
  | a :: r => (ordA r.length 0 r).map (a :: ·)
theorem ord7_ordI {l : List Int} (hn : l.Nodup) : (ord7 l).Perm (ordI l) ∧ ∀ o ∈ ordI l, o.Perm l := by
  cases l with
  | nil => exact ⟨.refl _, fun o ho => by rw [List.mem_singleton.1 ho]⟩
  | cons a r =>
    have h7 := ord7_is hn
    have hI := ordA_is r.length 0 r (by omega) (List.nodup_cons.1 hn).2
    have mI : ∀ o, o ∈ ordI (a :: r) ↔ ∃ p, o = a :: p ∧ p.Perm r := by
      intro o
      simp only [ordI, List.mem_map, hI.2]
      constructor
      · rintro ⟨p, h, rfl⟩; exact ⟨p, rfl, h.1⟩
      · rintro ⟨p, rfl, h⟩; exact ⟨p, ⟨h, by simp⟩, rfl⟩
    refine ⟨(List.perm_ext_iff_of_nodup h7.1 ?_).2 fun o => (h7.2 o).trans (mI o).symm, fun o ho => ?_⟩
    · refine List.pairwise_map.2 (List.Pairwise.imp (fun hab e => hab ?_) hI.1)
      exact (List.cons.inj e).2
    · obtain ⟨p, rfl, h⟩ := (mI o).1 ho
      exact h.cons a

theorem insO_mem_len {x : Int} {o : List Int} {lo c : Nat} {u : List Int} (h : u ∈ insO x o lo c) : u.length = o.length + 1 := by
  obtain ⟨i, _, rfl⟩ := (mem_insO _ _ _ _ _).1 h
  simp; omega
theorem insF_len (x : Int) (lo : Nat) : ∀ (out : List (List Int)) , (∀ o ∈ out, o.length + 1 - lo ≤ 7) → (out.flatMap fun o => insO x o lo (o.length + 1 - lo)).length ≤ 7 * out.length
  | [], _ => by simp
  | o :: r, h => by
    have h1 := insF_len x lo r (fun o ho => h o (List.mem_cons_of_mem _ ho))
    have h2 := h o List.mem_cons_self
    rw [List.flatMap_cons, List.length_append, insO_len, List.length_cons]; omega
theorem spec_l7Orders_l2 (l : List Int) (out : List (List Int)) (j i : Nat) (hj : j ≤ 100) (hi : i < out.length) (hi2 : i < 1000000) (lo : Nat) (hlo : (lo : Int) = if (1 : Int) < (j : Int) then (1 : Int) else (j : Int)) (ho : out[i].length ≤ 100) (r : List (List Int)) : ∀ (c : Nat) (next : List (List Int)), lo + c ≤ out[i].length + 1 → next.length + c ≤ 900000 →
    EV (fun k => spec_l7Orders.l1 k l out (j : Int) (next ++ insO (l.getD j 0) out[i] lo c) ((i : Int) + 1)) r → EV (fun k => spec_l7Orders.l2 k l out (j : Int) next (i : Int) ((lo : Int) + c - 1)) r
  | 0, next, h1, h2, K => by
    refine EV.step (fun k => by rw [spec_l7Orders.l2]) (EV.by (spec_l1Min_is 1 (j : Int)) ?_)
    rw [← hlo, w64 (x := (i : Int) + 1) (by omega) (by omega)]
    refine EV.neg (by omega) ?_
    simpa [insO] using K
  | c + 1, next, h1, h2, K => by
    have e : (lo : Int) + ((c + 1 : Nat) : Int) - 1 = ((lo + c : Nat) : Int) := by omega
    refine EV.step (fun k => by rw [spec_l7Orders.l2]) (EV.by (spec_l1Min_is 1 (j : Int)) ?_)
    rw [← hlo, e, rdL_nat _ _ hi, rd_getD, Int.toNat_natCast, Int.toNat_natCast]
    refine EV.pos (by omega) (EV.pos (by omega) (EV.pos (by omega) ?_))
    have e2 : wrap64 (((lo + c : Nat) : Int) - 1) = (lo : Int) + (c : Int) - 1 := by rw [w64 (by omega) (by omega)]; omega
    rw [e2]
    refine spec_l7Orders_l2 l out j i hj hi hi2 lo hlo ho r c _ (by omega) (by rw [List.length_append, List.length_singleton]; omega) ?_
    rw [List.append_assoc]
    exact K
theorem spec_l7Orders_l1 (l : List Int) (out : List (List Int)) (j : Nat) (hj : j ≤ 100) (lo : Nat) (hlo : (lo : Int) = if (1 : Int) < (j : Int) then (1 : Int) else (j : Int)) (ho : ∀ o ∈ out, o.length ≤ 100 ∧ lo ≤ o.length + 1) (hb : out.length < 1000000) (r : List (List Int)) : ∀ (suf pre next : List (List Int)), out = pre ++ suf → (next ++ suf.flatMap fun o => insO (l.getD j 0) o lo (o.length + 1 - lo)).length ≤ 900000 →
    EV (fun k => spec_l7Orders.l0 k l (next ++ suf.flatMap fun o => insO (l.getD j 0) o lo (o.length + 1 - lo)) ((j : Int) + 1)) r → EV (fun k => spec_l7Orders.l1 k l out (j : Int) next (pre.length : Int)) r
  | [], pre, next, h, hn, K => by
    refine EV.step (fun k => by rw [spec_l7Orders.l1]) ?_
    rw [w64 (x := (j : Int) + 1) (by omega) (by omega)]
    refine EV.neg (by subst h; simp) ?_
    simpa using K
  | o :: suf, pre, next, h, hn, K => by
    have hi : pre.length < out.length := by subst h; simp
    have e : out[pre.length] = o := by subst h; simp
    have oo := ho o (by subst h; simp)
    refine EV.step (fun k => by rw [spec_l7Orders.l1]) ?_
    rw [rdL_nat _ _ hi]
    refine EV.pos (by omega) (EV.pos (by omega) ?_)
    rw [List.flatMap_cons, ← List.append_assoc] at hn K
    have hn1 : next.length + (o.length + 1 - lo) ≤ 900000 := by
      rw [List.length_append, List.length_append, insO_len] at hn; omega
    have := spec_l7Orders_l2 l out j pre.length hj hi (by omega) lo hlo (by rw [e]; exact oo.1) r (o.length + 1 - lo) next (by rw [e]; omega) hn1 (by
      rw [e]
      have := spec_l7Orders_l1 l out j hj lo hlo ho hb r suf (pre ++ [o]) (next ++ insO (l.getD j 0) o lo (o.length + 1 - lo)) (by rw [h]; simp) hn K
      rw [List.length_append, List.length_singleton] at this
      exact_mod_cast this)
    have e3 : (lo : Int) + ((o.length + 1 - lo : Nat) : Int) - 1 = (out[pre.length].length : Int) := by rw [e]; omega
    rw [e3] at this
    exact this
theorem insA_I {x : Int} {out : List (List Int)} {n : Nat} (h : ∀ o ∈ out, o.length = n) : ∀ o ∈ insA x out, o.length = n + 1 := by
  intro u hu
  obtain ⟨o, ho, hu⟩ := List.mem_flatMap.1 hu
  rw [insO_mem_len hu, h o ho]
theorem spec_l7Orders_l0 (l : List Int) (hl : l.length ≤ 7) : ∀ (suf pre : List Int) (out : List (List Int)), l = pre ++ suf → 1 ≤ pre.length → (∀ o ∈ out, o.length = pre.length) → out.length ≤ 7 ^ pre.length →
    EV (fun k => spec_l7Orders.l0 k l out (pre.length : Int)) (suf.foldl (fun out x => insA x out) out) ∧ (suf.foldl (fun out x => insA x out) out).length ≤ 823543
  | [], pre, out, h, hp, ho, hb => by
    have hpl : pre.length ≤ 7 := by subst h; simpa using hl
    refine ⟨?_, Nat.le_trans hb (Nat.le_trans (Nat.pow_le_pow_right (by omega) hpl) (by decide))⟩
    refine EV.step (fun k => by rw [spec_l7Orders.l0]) ?_
    exact EV.neg (by subst h; simp) (EV.now _)
  | x :: suf, pre, out, h, hp, ho, hb => by
    have hpl : pre.length + 1 ≤ 7 := by subst h; simp at hl; omega
    have hx : l.getD pre.length 0 = x := by subst h; simp
    have hA : insA x out = out.flatMap fun o => insO x o 1 (o.length + 1 - 1) := by unfold insA; simp
    have hAl : (insA x out).length ≤ 7 ^ (pre.length + 1) := by
      rw [hA]
      have := insF_len x 1 out (fun o h => by rw [ho o h]; omega)
      rw [Nat.pow_succ]; omega
    have h7 : (7 : Nat) ^ (pre.length + 1) ≤ 823543 := Nat.le_trans (Nat.pow_le_pow_right (by omega) hpl) (by decide)
    have ih := spec_l7Orders_l0 l hl suf (pre ++ [x]) (insA x out) (by rw [h]; simp) (by simp) (by rw [List.length_append, List.length_singleton]; exact insA_I ho) (by rw [List.length_append, List.length_singleton]; exact hAl)
    refine ⟨?_, ih.2⟩
    rw [List.length_append, List.length_singleton] at ih
    have hlt : (pre.length : Int) < (l.length : Int) := by subst h; simp; omega
    have h7' : (7 : Nat) ^ pre.length ≤ 823543 := Nat.le_trans (Nat.pow_le_pow_right (by omega) (by omega)) (show (7 : Nat) ^ 7 ≤ 823543 by decide)
    refine EV.step (fun k => by rw [spec_l7Orders.l0]) (EV.pos hlt (EV.pos (by omega) ?_))
    have := spec_l7Orders_l1 l out pre.length (by omega) 1 (by split <;> omega) (fun o h => by rw [ho o h]; omega) (by omega) _ out [] [] rfl (by
      rw [hx, List.nil_append, ← hA]; omega) (by
      rw [hx, List.nil_append, ← hA]
      exact_mod_cast ih.1)
    exact this
theorem spec_l7Orders_is (l : List Int) (hl : l.length ≤ 7) : EV (fun k => spec_l7Orders.f k l) (ord7 l) ∧ (ord7 l).length ≤ 823543 := by
  cases l with
  | nil =>
    refine ⟨?_, by decide⟩
    refine EV.step (f := fun _ => some [[]]) (fun k => ?_) (EV.now _)
    unfold spec_l7Orders.f
    rw [spec_l7Orders.l0, if_neg (by simp)]
  | cons a r =>
    have ih := spec_l7Orders_l0 (a :: r) hl r [a] [[a]] rfl (by simp) (by simp) (by simp)
    refine ⟨?_, ih.2⟩
    have h0 : ([[]] : List (List Int)) = [] ++ [[]] := rfl
    refine EV.step (g := fun k => spec_l7Orders.f k (a :: r)) (fun k => by unfold spec_l7Orders.f; rw [spec_l7Orders.l0]) (EV.pos (by simp) (EV.pos (by omega) ?_))
    have := spec_l7Orders_l1 (a :: r) [[]] 0 (by omega) 0 (by rw [if_neg (by omega)]) (fun o h => by rw [List.mem_singleton.1 h]; simp) (by simp) _ [[]] [] [] rfl (by simp [insO]) (by
      have := ih.1
      simpa [insO] using this)
    exact this

/-- the ring of darts ds laid into x -/
def ringM (x ds : List Int) : List Int := (List.range ds.length).foldl (fun x j => x.set (ds.getD j 0).toNat (ds.getD ((j + 1) % ds.length) 0)) x
def ringK (x ds : List Int) (i : Nat) : List Int := (List.range i).foldl (fun x j => x.set (ds.getD j 0).toNat (ds.getD ((j + 1) % ds.length) 0)) x
theorem ringK_succ (x ds : List Int) (i : Nat) : ringK x ds (i + 1) = (ringK x ds i).set (ds.getD i 0).toNat (ds.getD ((i + 1) % ds.length) 0) := by
  unfold ringK; rw [List.range_succ, List.foldl_append]; rfl
theorem ringK_len (x ds : List Int) : ∀ i, (ringK x ds i).length = x.length
  | 0 => rfl
  | i + 1 => by rw [ringK_succ, List.length_set, ringK_len x ds i]
theorem dartsF_mem (v : Int) : ∀ (g : List (List Int)) (i : Nat), ∀ d ∈ dartsF v i g, 0 ≤ d ∧ d < 2 * ((i : Int) + g.length)
  | [], i, d, h => by simp [dartsF] at h
  | e :: g, i, d, h => by
    simp only [dartsF, List.mem_append] at h
    simp only [List.length_cons]
    rcases h with h | h | h
    · split at h
      · rw [List.mem_singleton] at h; omega
      · cases h
    · split at h
      · rw [List.mem_singleton] at h; omega
      · cases h
    · have := dartsF_mem v g (i + 1) d h; omega
theorem spec_l7Ring_is (x ds : List Int) (hd : ∀ d ∈ ds, 0 ≤ d ∧ d < x.length) (hn : ds.length < 1000000) : EV (fun k => spec_l7Ring.f k x ds) (ringM x ds) := by
  refine EV.count (g := fun k s i => spec_l7Ring.l0 k s ds i) ds.length (ringK x ds) _ (fun i hi H => ?_) ?_
  · have hx := hd _ (List.getElem_mem hi)
    have hm := Nat.mod_lt (i + 1) (show 0 < ds.length by omega)
    have em : Int.tmod ((i : Int) + 1) (ds.length : Int) = (((i + 1) % ds.length : Nat) : Int) := by
      rw [show (i : Int) + 1 = ((i + 1 : Nat) : Int) by omega, Int.tmod_eq_emod_of_nonneg (by omega)]; omega
    rw [ringK_succ] at H
    have hl := ringK_len x ds i
    refine EV.step (fun k => by rw [spec_l7Ring.l0]) ?_
    rw [w64 (x := (i : Int) + 1) (by omega) (by omega), em, rd_nat _ _ hi, rd_nat _ _ hm]
    refine EV.pos (by omega) (EV.pos (by omega) (EV.neg (by omega) (EV.pos (by omega) (EV.pos (by omega) (EV.pos (by omega) (EV.pos (by omega) ?_))))))
    have e1 : ds.getD i 0 = ds[i] := by simp [hi]
    have e2 : ds.getD ((i + 1) % ds.length) 0 = ds[(i + 1) % ds.length] := by simp [hm]
    rw [e1, e2] at H
    exact H
  · refine EV.step (fun k => by rw [spec_l7Ring.l0]) ?_
    exact EV.neg (by omega) (EV.now _)

/-! ### rings laid at the vertices: every dart gets its follower -/
def ds (g : List (List Int)) (u : Nat) : List Int := dartsF (u : Int) 0 g
theorem dartsF_iff (v : Int) : ∀ (g : List (List Int)) (i : Nat) (d : Int), d ∈ dartsF v i g ↔ ∃ j, j < g.length ∧ ((d = 2 * ((i + j : Nat) : Int) ∧ (g.getD j []).getD 0 0 = v) ∨ (d = 2 * ((i + j : Nat) : Int) + 1 ∧ (g.getD j []).getD 1 0 = v))
  | [], i, d => by
    constructor
    · intro h; cases h
    · rintro ⟨j, hj, _⟩; cases hj
  | e :: g, i, d => by
    simp only [dartsF, List.mem_append, dartsF_iff v g (i + 1) d]
    constructor
    · rintro (h | h | ⟨j, hj, h⟩)
      · split at h
        · rename_i q; exact ⟨0, by simp, .inl ⟨by simpa using h, q⟩⟩
        · cases h
      · split at h
        · rename_i q; exact ⟨0, by simp, .inr ⟨by simpa using h, q⟩⟩
        · cases h
      · refine ⟨j + 1, by simp; omega, ?_⟩
        rw [List.getD_cons_succ]
        rcases h with ⟨h, q⟩ | ⟨h, q⟩
        · exact .inl ⟨by omega, q⟩
        · exact .inr ⟨by omega, q⟩
    · rintro ⟨j, hj, h⟩
      cases j with
      | zero =>
        rw [List.getD_cons_zero] at h
        rcases h with ⟨h, q⟩ | ⟨h, q⟩
        · left; rw [if_pos q]; simpa using h
        · right; left; rw [if_pos q]; simpa using h
      | succ j =>
        rw [List.getD_cons_succ] at h
        right; right
        refine ⟨j, by simpa using hj, ?_⟩
        rcases h with ⟨h, q⟩ | ⟨h, q⟩
        · exact .inl ⟨by omega, q⟩
        · exact .inr ⟨by omega, q⟩
theorem dartsF_nodup (v : Int) : ∀ (g : List (List Int)) (i : Nat), (dartsF v i g).Nodup
  | [], i => by simp [dartsF]
  | e :: g, i => by
    have ih := dartsF_nodup v g (i + 1)
    have low : ∀ d ∈ dartsF v (i + 1) g, 2 * (i : Int) + 2 ≤ d := fun d hd => by
      obtain ⟨j, _, h | h⟩ := (dartsF_iff v g (i + 1) d).1 hd
      · omega
      · omega
    simp only [dartsF]
    rw [List.nodup_append, List.nodup_append]
    refine ⟨by split <;> simp, ⟨by split <;> simp, ih, fun a ha b hb e => ?_⟩, fun a ha b hb e => ?_⟩
    · have := low b hb
      split at ha
      · have := List.mem_singleton.1 ha; omega
      · cases ha
    · have ha' : a = 2 * (i : Int) := by
        split at ha
        · exact List.mem_singleton.1 ha
        · cases ha
      rcases List.mem_append.1 hb with h | h
      · split at h
        · have := List.mem_singleton.1 h; omega
        · cases h
      · have := low b h; omega
theorem ds_nodup (g : List (List Int)) (u : Nat) : (ds g u).Nodup := dartsF_nodup _ g 0
theorem ds_in (g : List (List Int)) (u : Nat) : ∀ d ∈ ds g u, 0 ≤ d ∧ d < 2 * (g.length : Int) := fun d hd => by
  have := dartsF_mem (u : Int) g 0 d hd; omega
theorem ds_apart (g : List (List Int)) {u v : Nat} {d : Int} (hu : d ∈ ds g u) (hv : d ∈ ds g v) : u = v := by
  obtain ⟨j, _, h⟩ := (dartsF_iff _ _ _ _).1 hu
  obtain ⟨k, _, h'⟩ := (dartsF_iff _ _ _ _).1 hv
  rcases h with ⟨h, q⟩ | ⟨h, q⟩ <;> rcases h' with ⟨h', q'⟩ | ⟨h', q'⟩
  · have : j = k := by omega
    subst this; omega
  · omega
  · omega
  · have : j = k := by omega
    subst this; omega
theorem ds_all {g : List (List Int)} (hg : graphB g = true) (t : Nat) (ht : t < 2 * g.length) : ∃ u, u < 7 ∧ (t : Int) ∈ ds g u := by
  have G := graphB_of hg
  have hj : t / 2 < g.length := by omega
  obtain ⟨a, b, e, a0, a6, b0, b6, _⟩ := edgeB_of (G.1 g[t / 2] (List.getElem_mem hj))
  have e' : g.getD (t / 2) [] = [a, b] := by rw [← e]; simp [hj]
  by_cases h : t % 2 = 0
  · exact ⟨a.toNat, by omega, (dartsF_iff _ _ _ _).2 ⟨t / 2, hj, .inl ⟨by omega, by rw [e']; simp; omega⟩⟩⟩
  · exact ⟨b.toNat, by omega, (dartsF_iff _ _ _ _).2 ⟨t / 2, hj, .inr ⟨by omega, by rw [e']; simp; omega⟩⟩⟩
theorem getD_setB (up : List Int) (A : Nat) (v : Int) (x : Nat) : (up.set A v).getD x 0 = if x = A ∧ A < up.length then v else up.getD x 0 := by
  simp only [List.getD_eq_getElem?_getD, List.getElem?_set]
  by_cases e : A = x
  · subst e
    by_cases h : A < up.length
    · simp [h]
    · simp [h]
  · have : ¬ x = A := fun h => e h.symm
    simp [e, this]
theorem ringK_agree {x x' : List Int} (hl : x.length = x'.length) (os : List Int) (t : Nat) : ∀ i, ((∃ j, j < i ∧ (os.getD j 0).toNat = t ∧ t < x.length) ∨ x.getD t 0 = x'.getD t 0) → (ringK x os i).getD t 0 = (ringK x' os i).getD t 0
  | 0, h => by
    rcases h with ⟨j, hj, _⟩ | h
    · omega
    · exact h
  | i + 1, h => by
    rw [ringK_succ, ringK_succ, getD_setB, getD_setB, ringK_len, ringK_len, ← hl]
    by_cases c : t = (os.getD i 0).toNat ∧ (os.getD i 0).toNat < x.length
    · rw [if_pos c, if_pos c]
    · rw [if_neg c, if_neg c]
      refine ringK_agree hl os t i ?_
      rcases h with ⟨j, hj, h1, h2⟩ | h
      · by_cases e : j = i
        · subst e; exact absurd ⟨h1.symm, by omega⟩ c
        · exact .inl ⟨j, by omega, h1, h2⟩
      · exact .inr h
theorem ringK_other {x : List Int} (os : List Int) (t : Nat) : ∀ i, (∀ j, j < i → (os.getD j 0).toNat ≠ t) → (ringK x os i).getD t 0 = x.getD t 0
  | 0, _ => rfl
  | i + 1, h => by
    rw [ringK_succ, getD_setB, if_neg (fun c => h i (by omega) c.1.symm)]
    exact ringK_other os t i fun j hj => h j (by omega)
theorem ringK_at {x os : List Int} (hn : os.Nodup) (ho : ∀ d ∈ os, 0 ≤ d ∧ d < x.length) : ∀ i, i ≤ os.length → ∀ j, j < i → (ringK x os i).getD (os.getD j 0).toNat 0 = os.getD ((j + 1) % os.length) 0
  | 0, _, j, h => by omega
  | i + 1, hi, j, hj => by
    have gi : os.getD i 0 = os[i] := by simp [show i < os.length by omega]
    have gj : os.getD j 0 = os[j] := by simp [show j < os.length by omega]
    have bi := ho _ (List.getElem_mem (show i < os.length by omega))
    have bj := ho _ (List.getElem_mem (show j < os.length by omega))
    rw [ringK_succ, getD_setB, ringK_len]
    by_cases e : j = i
    · subst e
      rw [if_pos ⟨rfl, by rw [gj]; omega⟩]
    · rw [if_neg]
      · exact ringK_at hn ho i (by omega) j (by omega)
      · rintro ⟨c, _⟩
        rw [gi, gj] at c
        exact e ((List.getElem_inj hn).1 (show os[j] = os[i] by omega))
/-- the rings ahead of v lie alike -/
def AG (g : List (List Int)) (v : Nat) (m m' : List Int) : Prop := m.length = 2 * g.length ∧ m'.length = 2 * g.length ∧ ∀ u, u < v → ∀ d ∈ ds g u, m.getD d.toNat 0 = m'.getD d.toNat 0
theorem AG.symm {g : List (List Int)} {v : Nat} {m m' : List Int} (h : AG g v m m') : AG g v m' m := ⟨h.2.1, h.1, fun u hu d hd => (h.2.2 u hu d hd).symm⟩
theorem AG.trans {g : List (List Int)} {v : Nat} {a b c : List Int} (h : AG g v a b) (k : AG g v b c) : AG g v a c := ⟨h.1, k.2.1, fun u hu d hd => (h.2.2 u hu d hd).trans (k.2.2 u hu d hd)⟩
theorem AG.down {g : List (List Int)} {v : Nat} {a b : List Int} (h : AG g (v + 1) a b) : AG g v a b := ⟨h.1, h.2.1, fun u hu d hd => h.2.2 u (by omega) d hd⟩
theorem AG.rfl {g : List (List Int)} {v : Nat} {a : List Int} (h : a.length = 2 * g.length) : AG g v a a := ⟨h, h, fun _ _ _ _ => Eq.refl _⟩
theorem ringM_len (x os : List Int) : (ringM x os).length = x.length := ringK_len x os os.length
theorem perm_at {g : List (List Int)} {v : Nat} {os : List Int} (ho : os.Perm (ds g v)) {d : Int} (hd : d ∈ ds g v) : ∃ j, j < os.length ∧ os.getD j 0 = d := by
  obtain ⟨j, hj, e⟩ := List.mem_iff_getElem.1 (ho.mem_iff.2 hd)
  exact ⟨j, hj, by rw [← e]; simp [hj]⟩
theorem perm_get' {g : List (List Int)} {v : Nat} {os : List Int} (ho : os.Perm (ds g v)) {j : Nat} (hj : j < os.length) : os.getD j 0 ∈ ds g v := by
  refine ho.mem_iff.1 ?_
  rw [show os.getD j 0 = os[j] by simp [hj]]
  exact List.getElem_mem hj
theorem ringM_stay {g : List (List Int)} {v : Nat} {os : List Int} (ho : os.Perm (ds g v)) (x : List Int) {u : Nat} (hu : u ≠ v) {d : Int} (hd : d ∈ ds g u) : (ringM x os).getD d.toNat 0 = x.getD d.toNat 0 := by
  refine ringK_other os d.toNat os.length fun j hj e => hu ?_
  have h1 := perm_get' ho hj
  have b1 := ds_in g v _ h1
  have b2 := ds_in g u _ hd
  have : os.getD j 0 = d := by omega
  rw [this] at h1
  exact ds_apart g hd h1
theorem AG.ring {g : List (List Int)} {v : Nat} {m m' os : List Int} (h : AG g v m m') (ho : os.Perm (ds g v)) : AG g (v + 1) (ringM m os) (ringM m' os) := by
  refine ⟨by rw [ringM_len]; exact h.1, by rw [ringM_len]; exact h.2.1, fun u hu d hd => ?_⟩
  refine ringK_agree (h.1.trans h.2.1.symm) os d.toNat os.length ?_
  by_cases e : u = v
  · subst e
    obtain ⟨j, hj, e⟩ := perm_at ho hd
    have := ds_in g u d hd
    exact .inl ⟨j, hj, by rw [e], by rw [h.1]; omega⟩
  · exact .inr (h.2.2 u (by omega) d hd)
theorem AG.stay {g : List (List Int)} {v : Nat} {m os : List Int} (hl : m.length = 2 * g.length) (ho : os.Perm (ds g v)) : AG g v (ringM m os) m :=
  ⟨by rw [ringM_len]; exact hl, hl, fun u hu d hd => ringM_stay ho m (by omega) hd⟩
theorem AG.all {g : List (List Int)} (hg : graphB g = true) {m m' : List Int} (h : AG g 7 m m') : m = m' := by
  apply List.ext_getElem (h.1.trans h.2.1.symm)
  intro t h1 h2
  obtain ⟨u, hu, hd⟩ := ds_all hg t (by rw [← h.1]; exact h1)
  have := h.2.2 u hu _ hd
  rw [Int.toNat_natCast] at this
  simpa [h1, h2] using this
/-- the rings ahead of v are orders of their darts -/
def PV (g : List (List Int)) (v : Nat) (m : List Int) : Prop := m.length = 2 * g.length ∧ ∀ u, u < v → (∀ d ∈ ds g u, m.getD d.toNat 0 ∈ ds g u) ∧ ∀ d ∈ ds g u, ∀ d' ∈ ds g u, m.getD d.toNat 0 = m.getD d'.toNat 0 → d = d'
theorem PV.ring {g : List (List Int)} {v : Nat} {m os : List Int} (h : PV g v m) (ho : os.Perm (ds g v)) : PV g (v + 1) (ringM m os) := by
  have hn : os.Nodup := ho.nodup_iff.2 (ds_nodup g v)
  have hin : ∀ d ∈ os, 0 ≤ d ∧ d < m.length := fun d hd => by
    have := ds_in g v d (ho.mem_iff.1 hd)
    have := h.1; omega
  have at_ : ∀ j, j < os.length → (ringM m os).getD (os.getD j 0).toNat 0 = os.getD ((j + 1) % os.length) 0 := fun j hj => ringK_at hn hin os.length (Nat.le_refl _) j hj
  refine ⟨by rw [ringM_len]; exact h.1, fun u hu => ?_⟩
  by_cases e : u = v
  · subst e
    constructor
    · intro d hd
      obtain ⟨j, hj, rfl⟩ := perm_at ho hd
      rw [at_ j hj]
      exact perm_get' ho (Nat.mod_lt _ (by omega))
    · intro d hd d' hd' q
      obtain ⟨j, hj, rfl⟩ := perm_at ho hd
      obtain ⟨k, hk, rfl⟩ := perm_at ho hd'
      rw [at_ j hj, at_ k hk] at q
      have m1 := Nat.mod_lt (j + 1) (show 0 < os.length by omega)
      have m2 := Nat.mod_lt (k + 1) (show 0 < os.length by omega)
      rw [show os.getD ((j + 1) % os.length) 0 = os[(j + 1) % os.length] by simp [m1], show os.getD ((k + 1) % os.length) 0 = os[(k + 1) % os.length] by simp [m2]] at q
      have e := (List.getElem_inj hn).1 q
      have : j = k := by
        by_cases c1 : j + 1 < os.length
        · rw [Nat.mod_eq_of_lt c1] at e
          by_cases c2 : k + 1 < os.length
          · rw [Nat.mod_eq_of_lt c2] at e; omega
          · rw [show k + 1 = os.length by omega, Nat.mod_self] at e; omega
        · rw [show j + 1 = os.length by omega, Nat.mod_self] at e
          by_cases c2 : k + 1 < os.length
          · rw [Nat.mod_eq_of_lt c2] at e; omega
          · omega
      rw [this]
  · have hu' := h.2 u (by omega)
    constructor
    · intro d hd; rw [ringM_stay ho m e hd]; exact hu'.1 d hd
    · intro d hd d' hd' q
      rw [ringM_stay ho m e hd, ringM_stay ho m e hd'] at q
      exact hu'.2 d hd d' hd' q
theorem PV.perm {g : List (List Int)} (hg : graphB g = true) {m : List Int} (h : PV g 7 m) : permB m = true := by
  simp only [permB, Bool.and_eq_true, List.all_eq_true, decide_eq_true_iff]
  constructor
  · intro x hx
    obtain ⟨t, ht, rfl⟩ := List.mem_iff_getElem.1 hx
    obtain ⟨u, hu, hd⟩ := ds_all hg t (by rw [← h.1]; exact ht)
    have := (h.2 u hu).1 _ hd
    rw [Int.toNat_natCast, show m.getD t 0 = m[t] by simp [ht]] at this
    have := ds_in g u _ this
    simp only [inB, decide_eq_true_eq, h.1]; omega
  · refine List.pairwise_iff_getElem.2 fun i j hi hj hij q => ?_
    obtain ⟨u, hu, hd⟩ := ds_all hg i (by rw [← h.1]; exact hi)
    obtain ⟨v, hv, hd'⟩ := ds_all hg j (by rw [← h.1]; exact hj)
    have k1 := (h.2 u hu).1 _ hd
    have k2 := (h.2 v hv).1 _ hd'
    have e1 : m.getD i 0 = m[i] := by simp [hi]
    have e2 : m.getD j 0 = m[j] := by simp [hj]
    rw [Int.toNat_natCast, e1] at k1
    rw [Int.toNat_natCast, e2, ← q] at k2
    have := ds_apart g k1 k2
    subst this
    have := (h.2 u hu).2 _ hd _ hd' (by rw [Int.toNat_natCast, Int.toNat_natCast, e1, e2]; exact q)
    omega

/-! ### at most 2000 rotations: small degrees -/
theorem rise_bd : ∀ d : Nat, d ≤ 10 → 1 ≤ rise 2 (d - 2) ∧ rise 2 (d - 2) ≤ 4 ^ d ∧ (8 ≤ d → 2001 ≤ rise 2 (d - 2)) := by decide
theorem degN_edges (v : Int) : ∀ (g : List (List Int)), (∀ e ∈ g, edgeB e = true) → degN v g ≤ g.length
  | [], _ => by simp [degN]
  | e :: g, h => by
    have ih := degN_edges v g fun e he => h e (List.mem_cons_of_mem _ he)
    obtain ⟨a, b, rfl, _, _, _, _, hab⟩ := edgeB_of (h e List.mem_cons_self)
    simp only [degN, List.length_cons, List.getD_cons_zero, List.getD_cons_succ]
    by_cases c : a = v
    · rw [if_pos c, if_neg (fun q => hab (c.trans q.symm))]; omega
    · rw [if_neg c]; split <;> omega
theorem degN_sum : ∀ (g : List (List Int)), (∀ e ∈ g, edgeB e = true) → (((List.range 7).map fun v : Nat => degN (v : Int) g).sum) = 2 * g.length
  | [], _ => by simp only [degN]; rfl
  | e :: g, h => by
    have ih := degN_sum g fun e he => h e (List.mem_cons_of_mem _ he)
    obtain ⟨a, b, rfl, a0, a6, b0, b6, hab⟩ := edgeB_of (h e List.mem_cons_self)
    have r : List.range 7 = [0, 1, 2, 3, 4, 5, 6] := by decide
    rw [r] at ih ⊢
    simp only [List.map_cons, List.map_nil, List.sum_cons, List.sum_nil, degN, List.length_cons, List.getD_cons_zero, List.getD_cons_succ] at ih ⊢
    have one : ∀ c : Int, 0 ≤ c → c ≤ 6 → (if c = ((0 : Nat) : Int) then 1 else 0) + (if c = ((1 : Nat) : Int) then 1 else 0) + (if c = ((2 : Nat) : Int) then 1 else 0) + (if c = ((3 : Nat) : Int) then 1 else 0) + (if c = ((4 : Nat) : Int) then 1 else 0) + (if c = ((5 : Nat) : Int) then 1 else 0) + (if c = ((6 : Nat) : Int) then 1 else 0) = 1 := by
      intro c h1 h2
      have : c = 0 ∨ c = 1 ∨ c = 2 ∨ c = 3 ∨ c = 4 ∨ c = 5 ∨ c = 6 := by omega
      rcases this with h | h | h | h | h | h | h <;> subst h <;> rfl
    have h1 := one a a0 a6
    have h2 := one b b0 b6
    omega
theorem prod_bd : ∀ (l : List Nat), (∀ d ∈ l, d ≤ 10) → 1 ≤ prodM (l.map fun d : Nat => (d : Int)) ∧ prodM (l.map fun d : Nat => (d : Int)) ≤ 4 ^ l.sum ∧ ∀ d ∈ l, rise 2 (d - 2) ≤ prodM (l.map fun d : Nat => (d : Int))
  | [], _ => ⟨by simp [prodM], by simp [prodM], fun d hd => by cases hd⟩
  | d :: l, h => by
    obtain ⟨i1, i2, i3⟩ := prod_bd l fun d hd => h d (List.mem_cons_of_mem _ hd)
    obtain ⟨b1, b2, _⟩ := rise_bd d (h d List.mem_cons_self)
    have e : ((d : Int) - 2).toNat = d - 2 := by omega
    simp only [List.map_cons, prodM, List.sum_cons, e]
    refine ⟨?_, ?_, fun x hx => ?_⟩
    · have := Int.mul_le_mul b1 i1 (by omega) (by omega)
      omega
    · rw [Int.pow_add]
      exact Int.mul_le_mul b2 i2 (by omega) (Int.le_trans (by omega) b2)
    · rcases List.mem_cons.1 hx with rfl | hx
      · have := Int.mul_le_mul_of_nonneg_left i1 (show 0 ≤ rise 2 (x - 2) by omega)
        omega
      · have := Int.mul_le_mul_of_nonneg_right b1 (show 0 ≤ prodM (l.map fun d : Nat => (d : Int)) by omega)
        have := i3 x hx
        omega
theorem rot_bd {g : List (List Int)} (hg : graphB g = true) : 1 ≤ rotM g ∧ (rotM g ≤ 2000 → ∀ u, u < 7 → (ds g u).length ≤ 7) := by
  have G := graphB_of hg
  have hd : ∀ d ∈ (List.range 7).map fun v : Nat => degN (v : Int) g, d ≤ 10 := by
    intro d hd
    obtain ⟨v, _, rfl⟩ := List.mem_map.1 hd
    have := degN_edges (v : Int) g G.1; omega
  obtain ⟨b1, b2, b3⟩ := prod_bd _ hd
  rw [degN_sum g G.1] at b2
  have e : prodM (degM g) = prodM (((List.range 7).map fun v : Nat => degN (v : Int) g).map fun d : Nat => (d : Int)) := by
    unfold degM; rw [if_pos hg, List.map_map]; rfl
  have p : (4 : Int) ^ (2 * g.length) ≤ 1099511627776 := by
    have : ∀ n : Nat, n ≤ 10 → (4 : Int) ^ (2 * n) ≤ 1099511627776 := by decide
    exact this _ G.2.2
  have er : rotM g = prodM (((List.range 7).map fun v : Nat => degN (v : Int) g).map fun d : Nat => (d : Int)) := by
    unfold rotM; rw [if_pos hg, e, w64 (by omega) (by omega)]
  rw [er]
  refine ⟨b1, fun h u hu => ?_⟩
  have hm : degN (u : Int) g ∈ (List.range 7).map fun v : Nat => degN (v : Int) g := List.mem_map.2 ⟨u, List.mem_range.2 hu, rfl⟩
  have h1 := b3 _ hm
  have h2 := (rise_bd _ (hd _ hm)).2.2
  unfold ds
  rw [dartsF_len]
  by_cases c : 8 ≤ degN (u : Int) g
  · have := h2 c; omega
  · omega

/-! ### the row of a graph: its rotations counted by genus -/
def bumpT (row : List Int) (n : Int) : List Int := (row ++ List.replicate (n.toNat + 1 - row.length) 0).set n.toNat (wrap64 (rd (row ++ List.replicate (n.toNat + 1 - row.length) 0) n + 1))
theorem app_zero (row : List Int) (k i : Nat) : (row ++ List.replicate k 0).getD i 0 = row.getD i 0 := by
  simp only [List.getD_eq_getElem?_getD]
  by_cases h : i < row.length
  · rw [List.getElem?_append_left h]
  · rw [List.getElem?_append_right (by omega), List.getElem?_replicate, List.getElem?_eq_none (l := row) (by omega)]
    split <;> rfl
theorem bumpT_len (row : List Int) (n : Int) : (bumpT row n).length = max row.length (n.toNat + 1) := by
  unfold bumpT
  rw [List.length_set, List.length_append, List.length_replicate]; omega
theorem bumpT_get (row : List Int) (n : Int) (i : Nat) : (bumpT row n).getD i 0 = if i = n.toNat then wrap64 (row.getD i 0 + 1) else row.getD i 0 := by
  unfold bumpT
  rw [getD_setB, rd_getD, app_zero, app_zero]
  by_cases h : i = n.toNat
  · subst h
    rw [if_pos ⟨rfl, by rw [List.length_append, List.length_replicate]; omega⟩, if_pos rfl]
  · rw [if_neg (fun c => h c.1), if_neg h]
theorem ext_getD {a b : List Int} (hl : a.length = b.length) (h : ∀ i, a.getD i 0 = b.getD i 0) : a = b := by
  apply List.ext_getElem hl
  intro i h1 h2
  have := h i
  simpa [h1, h2] using this
theorem bumpT_comm (row : List Int) (x y : Int) : bumpT (bumpT row x) y = bumpT (bumpT row y) x := by
  refine ext_getD (by rw [bumpT_len, bumpT_len, bumpT_len, bumpT_len]; omega) fun i => ?_
  rw [bumpT_get, bumpT_get, bumpT_get, bumpT_get]
  by_cases h1 : i = x.toNat <;> by_cases h2 : i = y.toNat
  · simp only [if_pos h1, if_pos h2]
  · simp only [if_pos h1, if_neg h2]
  · simp only [if_neg h1, if_pos h2]
  · simp only [if_neg h1, if_neg h2]
/-- the genera of the rotations that continue m, in order -/
noncomputable def GL (O : Nat → List (List Int)) : Nat → Nat → List Int → List Int
  | 0, _, m => [genN m]
  | c + 1, v, m => (O v).flatMap fun os => GL O c (v + 1) (ringM m os)
theorem flatMap_perm {α β : Type} {f f' : α → List β} : ∀ (l : List α), (∀ x ∈ l, (f x).Perm (f' x)) → (l.flatMap f).Perm (l.flatMap f')
  | [], _ => .refl _
  | x :: l, h => by
    rw [List.flatMap_cons, List.flatMap_cons]
    exact (h x List.mem_cons_self).append (flatMap_perm l fun y hy => h y (List.mem_cons_of_mem _ hy))
theorem GL_perm {O O' : Nat → List (List Int)} (h : ∀ v, (O v).Perm (O' v)) : ∀ c v m, (GL O c v m).Perm (GL O' c v m)
  | 0, _, _ => .refl _
  | c + 1, v, m => ((h v).flatMap_right _).trans (flatMap_perm _ fun os _ => GL_perm h c (v + 1) (ringM m os))
theorem flatMap_same {α β : Type} {f f' : α → List β} : ∀ (l : List α), (∀ x ∈ l, f x = f' x) → l.flatMap f = l.flatMap f'
  | [], _ => rfl
  | x :: l, h => by
    rw [List.flatMap_cons, List.flatMap_cons, h x List.mem_cons_self, flatMap_same l fun y hy => h y (List.mem_cons_of_mem _ hy)]
theorem GL_same {g : List (List Int)} (hg : graphB g = true) {O : Nat → List (List Int)} (hO : ∀ v, ∀ os ∈ O v, os.Perm (ds g v)) : ∀ c v m m', v + c = 7 → AG g v m m' → GL O c v m = GL O c v m'
  | 0, v, m, m', hv, h => by
    have : v = 7 := by omega
    subst this
    rw [h.all hg]
  | c + 1, v, m, m', hv, h => by
    simp only [GL]
    exact flatMap_same _ fun os ho => GL_same hg hO c (v + 1) _ _ (by omega) (h.ring (hO v os ho))
/-- at the leaf -/
theorem leaf_map {g : List (List Int)} (hg : graphB g = true) {m : List Int} (h : PV g 7 m) : isMapB m = true := by
  have G := graphB_of hg
  have hl := h.1
  simp only [isMapB, Bool.and_eq_true, decide_eq_true_eq]
  exact ⟨by omega, by omega, h.perm hg⟩
theorem leaf_bd {g : List (List Int)} (hg : graphB g = true) {m : List Int} (h : PV g 7 m) : permB m = true ∧ m.length ≤ 24 ∧ m.length % 2 = 0 ∧ 0 ≤ genN m ∧ genN m ≤ 100 := by
  have G := graphB_of hg
  have hl := h.1
  have b := genN_bd (h.perm hg) (by omega) (by omega)
  exact ⟨h.perm hg, by omega, by omega, b.1, b.2.1⟩
theorem bump_now {row : List Int} {n : Int} (h0 : 0 ≤ n) (h1 : n ≤ 100) (hr : row.length ≤ 101) : spec_GenusRow.bump row n = some (bumpT row n) ∧ (bumpT row n).length ≤ 101 := by
  refine ⟨?_, by rw [bumpT_len]; omega⟩
  unfold spec_GenusRow.bump
  rw [if_pos ⟨h0, by omega, by omega⟩]; rfl
noncomputable def rowG (O : List Int → List (List Int)) (g : List (List Int)) : List Int := (GL (fun v => O (ds g v)) 7 0 (List.replicate (2 * g.length) 0)).foldl bumpT []
noncomputable def rowM' (g : List (List Int)) : List Int := if graphB g = true ∧ rotM g ≤ 2000 then rowG ord7 g else []
theorem rowG_same (g : List (List Int)) : rowG ordI g = rowG ord7 g := by
  refine (List.Perm.foldl_eq' (GL_perm (fun v => (ord7_ordI (ds_nodup g v)).1) 7 0 _) (fun x _ y _ z => bumpT_comm z x y) []).symm
theorem ord7_mem {g : List (List Int)} (v : Nat) : ∀ os ∈ ord7 (ds g v), os.Perm (ds g v) := fun os ho =>
  (ord7_ordI (ds_nodup g v)).2 os ((ord7_ordI (ds_nodup g v)).1.mem_iff.1 ho)
theorem PV_zero (g : List (List Int)) : PV g 0 (List.replicate (2 * g.length) 0) := ⟨by simp, fun u hu => by omega⟩

theorem spec_GenusRow_cF {g : List (List Int)} (hg : graphB g = true) (hd : ∀ u, u < 7 → (ds g u).length ≤ 7) : ∀ (c v : Nat) (m row : List Int), v + c = 7 → PV g v m → row.length ≤ 101 →
    ∃ m', AG g v m' m ∧ EV (fun k => spec_GenusRow.cF k g c (v : Int) m row) (m', (GL (fun v => ord7 (ds g v)) c v m).foldl bumpT row) ∧ ((GL (fun v => ord7 (ds g v)) c v m).foldl bumpT row).length ≤ 101
  | 0, v, m, row, hv, hP, hr => by
    have : v = 7 := by omega
    subst this
    obtain ⟨b1, b2, b3, b4, b5⟩ := leaf_bd hg hP
    obtain ⟨u1, u2⟩ := bump_now b4 b5 hr
    refine ⟨m, AG.rfl hP.1, ?_, by simpa [GL] using u2⟩
    refine EV.congr (fun k => by rw [spec_GenusRow.cF]) (EV.bind (spec_l6Genus_is b1 b2 b3) (EV.by u1 (EV.now (m, bumpT row (genN m)))))
  | c + 1, v, m, row, hv, hP, hr => by
    have hv7 : v < 7 := by omega
    have hdv := hd v hv7
    have O7 := spec_l7Orders_is (ds g v) hdv
    have loop : ∀ (suf pre : List (List Int)) (m1 row1 : List Int), ord7 (ds g v) = pre ++ suf → AG g v m1 m → PV g v m1 → row1.length ≤ 101 →
        ∃ m', AG g v m' m ∧ EV (fun k => spec_GenusRow.cL (spec_l7Ring.f k) (fun m row => spec_GenusRow.cF k g c ((v : Int) + 1) m row) (ord7 (ds g v)) suf.length pre.length m1 row1) (m', (suf.flatMap fun os => GL (fun v => ord7 (ds g v)) c (v + 1) (ringM m os)).foldl bumpT row1) ∧ ((suf.flatMap fun os => GL (fun v => ord7 (ds g v)) c (v + 1) (ringM m os)).foldl bumpT row1).length ≤ 101 := by
      intro suf
      induction suf with
      | nil => intro pre m1 row1 _ ha _ hr1; exact ⟨m1, ha, EV.now _, hr1⟩
      | cons os suf ih =>
        intro pre m1 row1 h ha hp1 hr1
        have ho : os.Perm (ds g v) := ord7_mem v os (by rw [h]; simp)
        have hol : os.length ≤ 7 := by rw [ho.length_eq]; exact hdv
        have hin : ∀ d ∈ os, 0 ≤ d ∧ d < m1.length := fun d hd => by
          have := ds_in g v d (ho.mem_iff.1 hd)
          have := hp1.1; omega
        obtain ⟨m2, ha2, e2, r2⟩ := spec_GenusRow_cF hg hd c (v + 1) (ringM m1 os) row1 (by omega) (hp1.ring ho) hr1
        have eG : GL (fun v => ord7 (ds g v)) c (v + 1) (ringM m1 os) = GL (fun v => ord7 (ds g v)) c (v + 1) (ringM m os) := GL_same hg (fun v => ord7_mem v) c (v + 1) _ _ (by omega) (ha.ring ho)
        rw [eG] at e2 r2
        have ha2' : AG g v m2 m1 := ha2.down.trans (AG.stay hp1.1 ho)
        have hp2 : PV g v m2 := ⟨ha2'.1, fun u hu => by
          have p := hp1.2 u hu
          constructor
          · intro d hd; rw [ha2'.2.2 u hu d hd]; exact p.1 d hd
          · intro d hd d' hd' q
            rw [ha2'.2.2 u hu d hd, ha2'.2.2 u hu d' hd'] at q
            exact p.2 d hd d' hd' q⟩
        obtain ⟨m3, ha3, e3, r3⟩ := ih (pre ++ [os]) m2 _ (by rw [h]; simp) (ha2'.trans ha) hp2 r2
        rw [List.length_append, List.length_singleton] at e3
        have hx : rd_L1 (ord7 (ds g v)) ((pre.length : Nat) : Int) = os := by rw [h]; exact rdL_app ..
        refine ⟨m3, ha3, ?_, ?_⟩
        · rw [List.length_cons]
          refine EV.congr (fun k => by rw [spec_GenusRow.cL, hx]) (EV.bind (spec_l7Ring_is m1 os hin (by omega)) (EV.bind (by exact_mod_cast e2) ?_))
          rw [List.flatMap_cons, List.foldl_append]
          exact e3
        · rw [List.flatMap_cons, List.foldl_append]; exact r3
    obtain ⟨m', ha, e, r⟩ := loop (ord7 (ds g v)) [] m row rfl (AG.rfl hP.1) hP hr
    refine ⟨m', ha, ?_, r⟩
    refine EV.congr (fun k => by rw [spec_GenusRow.cF]) (EV.bind (spec_l7Darts_is g (v : Int) hg) (EV.bind O7.1 (EV.pos (show (ord7 (ds g v)).length < 1000000 by have := O7.2; omega) e)))
theorem spec_GenusRow_is (g : List (List Int)) (hn : g.length ≤ 1048576) : EV (fun k => spec_GenusRow.f k g) (rowM' g) := by
  refine EV.bind (spec_CountRotations_is g (by omega)) (EV.by (spec_l1In_is _ _ _) ?_)
  unfold rowM'
  by_cases hg : graphB g = true
  · obtain ⟨r1, r2⟩ := rot_bd hg
    have G := graphB_of hg
    by_cases h : rotM g ≤ 2000
    · rw [if_pos ⟨hg, h⟩]
      obtain ⟨m', _, e, _⟩ := spec_GenusRow_cF hg (r2 h) 7 0 (List.replicate (2 * g.length) 0) [] rfl (PV_zero g) (by simp)
      exact EV.pos (decide_eq_true ⟨r1, h⟩) (EV.pos (by omega) (EV.bind e (EV.now _)))
    · rw [if_neg (fun c => h c.2)]
      exact EV.neg (by rw [decide_eq_true_eq]; omega) (EV.now _)
  · rw [if_neg (fun c => hg c.1)]
    have : rotM g = -1 := by unfold rotM; rw [if_neg hg]
    exact EV.neg (by rw [decide_eq_true_eq]; omega) (EV.now _)

/-- the first place that holds more than nothing -/
def leastF : Nat → List Int → Int
  | _, [] => -1
  | i, x :: r => if x > 0 then (i : Int) else leastF (i + 1) r

theorem spec_LeastGenus_l0 (row : List Int) (hn : row.length ≤ 101) : ∀ (suf pre : List Int), row = pre ++ suf → EV (fun k => spec_LeastGenus.l0 k row (pre.length : Int)) (leastF pre.length suf)
  | [], pre, h => by
    refine EV.step (fun k => by rw [spec_LeastGenus.l0]) ?_
    exact EV.neg (by subst h; simp) (EV.now _)
  | x :: suf, pre, h => by
    have hl : (pre.length : Int) < (row.length : Int) := by subst h; exact lt_app ..
    have hx : rd row (pre.length : Int) = x := by subst h; exact rd_app ..
    have ih := spec_LeastGenus_l0 row hn suf (pre ++ [x]) (by rw [h]; simp)
    rw [List.length_append, List.length_singleton] at ih
    refine EV.step (fun k => by rw [spec_LeastGenus.l0]) (EV.pos hl (EV.pos (by omega) ?_))
    rw [hx, w64 (x := (pre.length : Int) + 1) (by omega) (by omega)]
    simp only [leastF]
    by_cases c : x > 0
    · rw [if_pos c]; exact EV.pos c (EV.now _)
    · rw [if_neg c]; exact EV.neg c (by exact_mod_cast ih)
theorem rowM'_len (g : List (List Int)) : (rowM' g).length ≤ 101 := by
  unfold rowM'
  split
  · rename_i h
    obtain ⟨r1, r2⟩ := rot_bd h.1
    obtain ⟨m', _, _, r⟩ := spec_GenusRow_cF h.1 (r2 h.2) 7 0 (List.replicate (2 * g.length) 0) [] rfl (PV_zero g) (by simp)
    exact r
  · simp
theorem spec_LeastGenus_is (g : List (List Int)) (hn : g.length ≤ 1048576) : EV (fun k => spec_LeastGenus.f k g) (leastF 0 (rowM' g)) :=
  EV.bind (spec_GenusRow_is g hn) (spec_LeastGenus_l0 (rowM' g) (rowM'_len g) (rowM' g) [] rfl)

theorem impl_within_is (a b c : Int) : impl_within.f a b c = some (decide (b ≤ a ∧ a ≤ c)) := by
  unfold impl_within.f
  by_cases h : a ≥ b
  · rw [if_pos h]; simp [show b ≤ a from h]
  · rw [if_neg h]; simp; omega

theorem impl_IsGraph_l0 (g : List (List Int)) (hn : g.length < 4611686018427387904) : ∀ (suf pre : List (List Int)), g = pre ++ suf →
    EV (fun k => impl_IsGraph.l0 k g g (g.length : Int) (pre.length : Int)) (suf.all edgeB && decide (1 ≤ g.length ∧ g.length ≤ 10)) := by
  intro suf
  induction suf with
  | nil =>
    intro pre h
    refine EV.step (fun k => by rw [impl_IsGraph.l0]) ?_
    refine EV.neg (by subst h; simp) (EV.by (impl_within_is _ _ _) ((EV.now _).eq ?_))
    rw [Bool.eq_iff_iff]; simp; omega
  | cons x suf ih =>
    intro pre h
    have hl : pre.length < 4611686018427387904 := by subst h; simp at hn; omega
    have hlt : (pre.length : Int) < (g.length : Int) := by subst h; exact lt_app ..
    have hx : rd_L1 g (pre.length : Int) = x := by subst h; exact rdL_app ..
    refine EV.step (fun k => by rw [impl_IsGraph.l0]) ?_
    rw [hx, up (x := x) hl]
    refine EV.pos hlt (EV.pos (by omega) (EV.pos hlt (?_)))
    by_cases h2 : x.length = 2
    · obtain ⟨a, b, rfl⟩ := two_of h2
      have e0 : rd [a, b] 0 = a := rfl
      have e1 : rd [a, b] 1 = b := rfl
      refine EV.pos rfl (EV.pos (by simp) (EV.by (impl_within_is _ _ _) ?_))
      rw [e0]
      by_cases ha : 0 ≤ a ∧ a ≤ 6
      · refine EV.pos (by simpa using ha) (EV.pos (by simp) (EV.by (impl_within_is _ _ _) ?_))
        rw [e1]
        by_cases hb : 0 ≤ b ∧ b ≤ 6
        · refine EV.pos (by simpa using hb) ?_
          by_cases hab : a = b
          · exact EV.pos hab ((EV.now _).eq (by simp [edgeB, hab]))
          · exact EV.neg hab ((ih (pre ++ [[a, b]]) (by simp [h])).eq (by simp [edgeB, ha, hb, hab]))
        · exact EV.neg (by simpa using hb) ((EV.now _).eq (by simp [edgeB, hb]))
      · exact EV.neg (by simpa using ha) ((EV.now _).eq (by simp [edgeB, ha]))
    · refine EV.neg (by omega) ((EV.now _).eq ?_)
      have : edgeB x = false := by
        rcases Bool.eq_false_or_eq_true (edgeB x) with h' | h'
        · exact absurd (edge_len h') h2
        · exact h'
      simp [this]
theorem impl_IsGraph_is (g : List (List Int)) (hn : g.length < 4611686018427387904) : EV (fun k => impl_IsGraph.f k g) (graphB g) := impl_IsGraph_l0 g hn g [] rfl

theorem impl_DegreesOf_l0 (g : List (List Int)) (hg : graphB g = true) : ∀ (suf pre : List (List Int)), g = pre ++ suf →
    EV (fun k => impl_DegreesOf.l0 k ((List.range 7).map fun v : Nat => (degN (v : Int) pre : Int)) g (g.length : Int) (pre.length : Int)) ((List.range 7).map fun v : Nat => (degN (v : Int) g : Int)) := by
  have G := graphB_of hg
  intro suf
  induction suf with
  | nil =>
    intro pre h
    have e : pre = g := by simp [h]
    subst e
    refine EV.step (fun k => by rw [impl_DegreesOf.l0]) ?_
    exact EV.neg (by omega) (EV.now _)
  | cons e suf ih =>
    intro pre h
    obtain ⟨a, b, rfl, a0, a6, b0, b6, hab⟩ := edgeB_of (G.1 e (by subst h; simp))
    have hpl : pre.length < 10 := by subst h; simp at G; omega
    have hlt : (pre.length : Int) < (g.length : Int) := by subst h; exact lt_app ..
    have hx : rd_L1 g (pre.length : Int) = [a, b] := by subst h; exact rdL_app ..
    have hd : ∀ v : Int, degN v pre ≤ 20 := fun v => by have := degN_le v pre; omega
    have ha := hd ((a.toNat : Nat) : Int)
    have hb := hd ((b.toNat : Nat) : Int)
    refine EV.step (fun k => by rw [impl_DegreesOf.l0]) ?_
    rw [hx, show rd [a, b] 0 = a from rfl, show rd [a, b] 1 = b from rfl, up (x := [a, b]) (by omega)]
    refine EV.pos hlt (EV.pos (by omega) (EV.pos hlt (EV.pos (by simp) (EV.pos a0 (EV.pos (by simp; omega) (EV.by rfl (EV.pos (by simp) (EV.pos b0 (EV.pos (by simp; omega) ?_)))))))))
    rw [rd_tab 7 _ a a0 (by omega), tab_set, rd_tab 7 _ b b0 (by omega), tab_set, w64 (x := (degN ((a.toNat : Nat) : Int) pre : Int) + 1) (by omega) (by omega), w64 (by split <;> omega) (by split <;> omega)]
    have := ih (pre ++ [[a, b]]) (by simp [h])
    refine EV.congr (fun k => ?_) this
    congr 1
    apply List.map_congr_left
    intro v hv
    rw [degN_snoc]
    simp only [List.getD_cons_zero, List.getD_cons_succ]
    by_cases h1 : v = b.toNat
    · have h2 : ¬ b.toNat = a.toNat := by omega
      have h3 : ¬ a = (v : Int) := by omega
      have h4 : b = (v : Int) := by omega
      rw [if_pos h1, if_neg h2, if_neg h3, if_pos h4, ← h1]; omega
    · have h4 : ¬ b = (v : Int) := by omega
      rw [if_neg h1, if_neg h4]
      by_cases h2 : v = a.toNat
      · rw [if_pos h2, if_pos (by omega), ← h2]; omega
      · rw [if_neg h2, if_neg (by omega)]; omega
theorem impl_DegreesOf_is (g : List (List Int)) (hn : g.length < 4611686018427387904) : EV (fun k => impl_DegreesOf.f k g) (degM g) := by
  unfold degM
  refine EV.bind (impl_IsGraph_is g hn) ?_
  by_cases hg : graphB g = true
  · rw [if_pos hg]
    refine EV.pos hg (EV.pos (by omega) ?_)
    exact impl_DegreesOf_l0 g hg g [] rfl
  · rw [if_neg hg]
    exact EV.neg hg (EV.now _)

theorem impl_CountRotations_l1 (ds : List Int) (d : Int) (m i : Int) (hd : d ≤ 1000) : ∀ (c lo : Nat) (P r : Int), c = (d - lo).toNat → lo ≤ 100000 →
    EV (fun k => impl_CountRotations.l0 k (wrap64 (P * rise lo c)) ds m (wrap64 (i + 1))) r → EV (fun k => impl_CountRotations.l1 k (wrap64 P) d (lo : Int) ds m i) r := by
  intro c
  induction c with
  | zero =>
    intro lo P r h hl H
    refine EV.step (fun k => by rw [impl_CountRotations.l1]) ?_
    exact EV.neg (by omega) (by simpa [rise] using H)
  | succ c ih =>
    intro lo P r h hl H
    refine EV.step (fun k => by rw [impl_CountRotations.l1]) ?_
    rw [wrap64_mul, w64 (x := (lo : Int) + 1) (by omega) (by omega)]
    have := ih (lo + 1) (P * lo) r (by omega) (by omega) (by simpa only [rise, Int.mul_assoc] using H)
    exact EV.pos (by omega) (EV.congr (fun k => by simp) this)
theorem impl_CountRotations_l0 (ds : List Int) (hd : ∀ d ∈ ds, 0 ≤ d ∧ d ≤ 1000) (hl : ds.length < 4611686018427387904) : ∀ (suf pre : List Int) (P : Int), ds = pre ++ suf →
    EV (fun k => impl_CountRotations.l0 k (wrap64 P) ds (ds.length : Int) (pre.length : Int)) (wrap64 (P * prodM suf)) := by
  intro suf
  induction suf with
  | nil =>
    intro pre P h
    refine EV.step (fun k => by rw [impl_CountRotations.l0]) ?_
    exact EV.neg (by subst h; simp) ((EV.now _).eq (by simp [prodM]))
  | cons d suf ih =>
    intro pre P h
    have hpl : pre.length < 4611686018427387904 := by subst h; simp at hl; omega
    have hlt : (pre.length : Int) < (ds.length : Int) := by subst h; exact lt_app ..
    have hx : rd ds (pre.length : Int) = d := by subst h; exact rd_app ..
    have hb := hd d (by subst h; simp)
    refine EV.step (fun k => by rw [impl_CountRotations.l0]) ?_
    rw [hx]
    refine EV.pos hlt (EV.pos (by omega) (EV.pos hlt ?_))
    refine impl_CountRotations_l1 ds d (ds.length : Int) (pre.length : Int) hb.2 (d - 2).toNat 2 P _ rfl (by omega) ?_
    rw [up (x := d) hpl]
    refine (ih (pre ++ [d]) (P * rise 2 (d - 2).toNat) (by simp [h])).eq ?_
    simp only [prodM]; rw [Int.mul_assoc]
theorem impl_CountRotations_is (g : List (List Int)) (hn : g.length < 4611686018427387904) : EV (fun k => impl_CountRotations.f k g) (rotM g) := by
  unfold rotM
  refine EV.bind (impl_IsGraph_is g hn) ?_
  by_cases hg : graphB g = true
  · rw [if_pos hg]
    refine EV.pos hg (EV.bind (impl_DegreesOf_is g hn) ?_)
    have := impl_CountRotations_l0 (degM g) (degM_bd g) (by unfold degM; rw [if_pos hg]; simp) (degM g) [] 1 rfl
    rw [wrap_1] at this
    exact EV.congr (fun k => rfl) (this.eq (by rw [Int.one_mul]))
  · rw [if_neg hg]
    exact EV.neg hg (EV.now _)

theorem impl_dartsAt_l0 (g : List (List Int)) (hg : graphB g = true) : ∀ (suf pre : List (List Int)), g = pre ++ suf →
    EV (fun k => impl_dartsAt.l0 k ((List.range 7).map fun v : Nat => dartsF (v : Int) 0 pre) g (g.length : Int) (pre.length : Int)) ((List.range 7).map fun v : Nat => dartsF (v : Int) 0 g) := by
  have G := graphB_of hg
  intro suf
  induction suf with
  | nil =>
    intro pre h
    have e : pre = g := by simp [h]
    subst e
    refine EV.step (fun k => by rw [impl_dartsAt.l0]) ?_
    exact EV.neg (by omega) (EV.now _)
  | cons e suf ih =>
    intro pre h
    obtain ⟨a, b, rfl, a0, a6, b0, b6, hab⟩ := edgeB_of (G.1 e (by subst h; simp))
    have hpl : pre.length < 10 := by subst h; simp at G; omega
    have hlt : (pre.length : Int) < (g.length : Int) := by subst h; exact lt_app ..
    have hx : rd_L1 g (pre.length : Int) = [a, b] := by subst h; exact rdL_app ..
    have hd : ∀ v : Int, (dartsF v 0 pre).length ≤ 20 := fun v => by rw [dartsF_len]; have := degN_le v pre; omega
    refine EV.step (fun k => by rw [impl_dartsAt.l0]) ?_
    rw [hx, show rd [a, b] 0 = a from rfl, show rd [a, b] 1 = b from rfl, up (x := [a, b]) (by omega), w64 (x := 2 * (pre.length : Int)) (by omega) (by omega), w64 (x := 2 * (pre.length : Int) + 1) (by omega) (by omega)]
    rw [rdL_tab 7 _ a a0 (by omega), tab_set]
    refine EV.pos hlt (EV.pos (by omega) (EV.pos hlt (EV.pos (by simp) (EV.pos a0 (EV.pos (by simp; omega) (EV.pos (by have := hd ((a.toNat : Nat) : Int); omega) (EV.by rfl (EV.pos (by simp) (EV.pos b0 (EV.pos (by simp; omega) ?_))))))))))
    rw [rdL_tab 7 _ b b0 (by omega), tab_set]
    refine EV.pos (by have := hd ((b.toNat : Nat) : Int); rw [if_neg (by omega)]; omega) ?_
    have := ih (pre ++ [[a, b]]) (by simp [h])
    refine EV.congr (fun k => ?_) this
    congr 1
    apply List.map_congr_left
    intro v hv
    rw [dartsF_snoc]
    simp only [List.getD_cons_zero, List.getD_cons_succ, Nat.zero_add]
    by_cases h1 : v = b.toNat
    · have h2 : ¬ b.toNat = a.toNat := by omega
      have h3 : ¬ a = (v : Int) := by omega
      have h4 : b = (v : Int) := by omega
      rw [if_pos h1, if_neg h2, if_neg h3, if_pos h4, ← h1, List.nil_append]
    · have h4 : ¬ b = (v : Int) := by omega
      rw [if_neg h1, if_neg h4, List.append_nil]
      by_cases h2 : v = a.toNat
      · rw [if_pos h2, if_pos (by omega), ← h2]
      · rw [if_neg h2, if_neg (by omega), List.append_nil]
theorem impl_dartsAt_is (g : List (List Int)) (hg : graphB g = true) : EV (fun k => impl_dartsAt.f k g) ((List.range 7).map fun v : Nat => dartsF (v : Int) 0 g) := by
  refine EV.pos (by omega) ?_
  exact impl_dartsAt_l0 g hg g [] rfl

theorem impl_isPermutation_l0 (p : List Int) (hn : p.length < 4611686018427387904) : ∀ (suf pre : List Int), p = pre ++ suf → pre.Nodup →
    EV (fun k => impl_isPermutation.l0 k p (seenM p.length pre) p (p.length : Int) (pre.length : Int)) (suf.all (inB p.length) && decide (pre ++ suf).Nodup) := by
  intro suf
  induction suf with
  | nil =>
    intro pre h hp
    refine EV.step (fun k => by rw [impl_isPermutation.l0]) ?_
    exact EV.neg (by subst h; simp) ((EV.now _).eq (by simp [hp]))
  | cons x suf ih =>
    intro pre h hp
    have hpl : pre.length < 4611686018427387904 := by subst h; simp at hn; omega
    have hlt : (pre.length : Int) < (p.length : Int) := by subst h; exact lt_app ..
    have hx : rd p (pre.length : Int) = x := by subst h; exact rd_app ..
    refine EV.step (fun k => by rw [impl_isPermutation.l0]) ?_
    rw [hx, up (x := x) hpl, w64 (x := (p.length : Int) - 1) (by omega) (by omega)]
    refine EV.pos hlt (EV.pos (by omega) (EV.pos hlt (EV.by (impl_within_is _ _ _) ?_)))
    by_cases hb : inB p.length x = true
    · have b := inB_of hb
      refine EV.pos (by simp; omega) (EV.pos b.1 (EV.pos (by simp [seenM]; omega) ?_))
      rw [show rdOf false (seenM p.length pre) x = decide (x ∈ pre) by unfold seenM; rw [rdOf_tab _ _ _ _ b.1 b.2, show ((x.toNat : Nat) : Int) = x by omega]]
      by_cases hm : x ∈ pre
      · refine EV.pos (by simpa using hm) ((EV.now _).eq ?_)
        rw [decide_eq_false, Bool.and_false]
        intro c
        exact (List.nodup_append.1 c).2.2 x hm x (by simp) rfl
      · refine EV.neg (by simpa using hm) ?_
        rw [seenM_snoc _ _ _ b.1]
        refine (ih (pre ++ [x]) (by simp [h]) ?_).eq (by simp [hb])
        rw [List.nodup_append]
        refine ⟨hp, by simp, fun a ha c hc => ?_⟩
        rw [List.mem_singleton] at hc
        intro e; exact hm (by rw [← hc, ← e]; exact ha)
    · refine EV.neg (by simp only [inB, decide_eq_true_iff] at hb; simp; omega) ((EV.now _).eq ?_)
      rw [List.all_cons, show inB p.length x = false by simpa using hb]; simp
theorem impl_isPermutation_is (p : List Int) (hn : p.length < 4294967296) : EV (fun k => impl_isPermutation.f k p) (permB p) := by
  refine EV.pos (by omega) (EV.pos (by omega) ?_)
  have := impl_isPermutation_l0 p (by omega) p [] rfl List.nodup_nil
  rw [seenM_nil] at this
  exact this

theorem impl_IsMap_is (w : List Int) (hn : w.length ≤ 1048576) : EV (fun k => impl_IsMap.f k w) (isMapB w) := by
  unfold isMapB
  refine EV.by (impl_within_is _ _ _) ?_
  by_cases h1 : 2 ≤ w.length ∧ w.length ≤ 24
  · rw [decide_eq_true h1, Bool.true_and]
    refine EV.pos (by simp; omega) ?_
    by_cases h2 : w.length % 2 = 0
    · rw [decide_eq_true h2, Bool.true_and]
      exact EV.pos (by omega) (EV.bind (impl_isPermutation_is w (by omega)) (EV.now _))
    · rw [decide_eq_false h2, Bool.false_and]
      exact EV.neg (by omega) (EV.now _)
  · rw [decide_eq_false h1, Bool.false_and]
    exact EV.neg (by simp; omega) (EV.now _)

theorem impl_MapParts_top {n : Nat} {up : List Int} (hl : up.length = n) {h x r : Nat} (H : Rt n up h x r) : EV (fun k => impl_MapParts.top k up (x : Int)) (r : Int) := by
  induction H with
  | root h1 h2 =>
    refine EV.step (fun k => by rw [impl_MapParts.top]) ?_
    rw [rd_getD, Int.toNat_natCast]
    exact EV.pos (by omega) (EV.pos (by omega) (EV.pos h2 (EV.now _)))
  | step h1 h2 h3 _ ih =>
    refine EV.step (fun k => by rw [impl_MapParts.top]) ?_
    rw [rd_getD, Int.toNat_natCast, h2]
    exact EV.pos (by omega) (EV.pos (by omega) (EV.neg (by omega) ih))
theorem impl_MapParts_join {n : Nat} {up : List Int} {E : Nat → Nat → Prop} (F : Forest n up E) {a b : Nat} (ha : a < n) (hb : b < n) :
    ∃ up', Forest n up' (jn E a b) ∧ EV (fun k => impl_MapParts.join k up (a : Int) (b : Int)) up' := by
  obtain ⟨_, A, HA⟩ := F.rt a ha
  obtain ⟨_, B, HB⟩ := F.rt b hb
  have hl := F.len
  have tA := HA.top
  have tB := HB.top
  by_cases h : (A : Int) > (B : Int)
  · refine ⟨_, F.join HA HB, ?_⟩
    refine EV.bind (impl_MapParts_top hl HA) (EV.bind (impl_MapParts_top hl HB) ?_)
    exact EV.pos h (EV.pos (by omega) (EV.pos (by omega) ((EV.now _).eq (by rw [Int.toNat_natCast]))))
  · refine ⟨_, (jn_symm E a b) ▸ F.join HB HA, ?_⟩
    refine EV.bind (impl_MapParts_top hl HA) (EV.bind (impl_MapParts_top hl HB) ?_)
    exact EV.neg h (EV.pos (by omega) (EV.pos (by omega) ((EV.now _).eq (by rw [Int.toNat_natCast]))))
theorem impl_MapParts_cnt {n : Nat} {up : List Int} {E : Nat → Nat → Prop} (F : Forest n up E) (hn : n ≤ 24) : EV (fun k => impl_MapParts.cnt k up 0 0) ((cls n E : Nat) : Int) := by
  have hl := F.len
  rw [← F.count]
  have go : ∀ (c d : Nat), d + c = n → EV (fun k => impl_MapParts.cnt k up (d : Int) (((List.range d).countP fun d : Nat => decide (up.getD d 0 = (d : Int)) : Nat) : Int)) (((List.range n).countP fun d : Nat => decide (up.getD d 0 = (d : Int)) : Nat) : Int) := by
    intro c
    induction c with
    | zero =>
      intro d hd
      have : d = n := by omega
      subst this
      refine EV.step (fun k => by rw [impl_MapParts.cnt]) ?_
      exact EV.neg (by omega) (EV.now _)
    | succ c ih =>
      intro d hd
      have hc : ((List.range d).countP fun d : Nat => decide (up.getD d 0 = (d : Int))) ≤ d := by
        have := List.countP_le_length (p := fun d : Nat => decide (up.getD d 0 = (d : Int))) (l := List.range d)
        simpa using this
      refine EV.step (fun k => by rw [impl_MapParts.cnt]) ?_
      rw [rd_getD, Int.toNat_natCast]
      refine EV.pos (by omega) (EV.pos (by omega) ?_)
      have := ih (d + 1) (by omega)
      rw [w64 (x := (d : Int) + 1) (by omega) (by omega)]
      rw [List.range_succ, List.countP_append] at this
      generalize hq : ((List.range d).countP fun d : Nat => decide (up.getD d 0 = (d : Int))) = q at this hc
      by_cases e : up.getD d 0 = (d : Int)
      · rw [w64 (by omega) (by omega)]
        rw [show ([d].countP fun d : Nat => decide (up.getD d 0 = (d : Int))) = 1 from (countP_one _ d).trans (if_pos (decide_eq_true e))] at this
        exact EV.pos e.symm this
      · rw [show ([d].countP fun d : Nat => decide (up.getD d 0 = (d : Int))) = 0 from (countP_one _ d).trans (if_neg (by rw [decide_eq_false e]; exact Bool.false_ne_true))] at this
        exact EV.neg (fun h => e h.symm) this
  exact go n 0 (by omega)
theorem xor_mate : ∀ d : Nat, d < 24 → Go.bits .xor .i64 (d : Int) 1 = mateN d := by decide
theorem impl_MapParts_l1 {m : List Int} (hm : permB m = true) (hn : m.length ≤ 24) (h2 : m.length % 2 = 0) : ∀ (c d : Nat) (up : List Int) (E : Nat → Nat → Prop), d + c = m.length → Forest m.length up E →
    EV (fun k => impl_MapParts.l1 k m up (d : Int)) ((cls m.length (foldE m c d E) : Nat) : Int)
  | 0, d, up, E, hd, F => by
    refine EV.step (fun k => by rw [impl_MapParts.l1]) ?_
    exact EV.neg (by omega) (impl_MapParts_cnt F hn)
  | c + 1, d, up, E, hd, F => by
    have hg := perm_get hm (d := d) (by omega)
    have ht := mate_lt h2 (d := d) (by omega)
    obtain ⟨u1, F1, j1⟩ := impl_MapParts_join F (a := d) (by omega) hg.2.2
    obtain ⟨u2, F2, j2⟩ := impl_MapParts_join F1 (a := d) (by omega) ht.2.2
    have e1 : m.getD d 0 = (((m.getD d 0).toNat : Nat) : Int) := by omega
    have e2 : mateN d = (((mateN d).toNat : Nat) : Int) := by omega
    rw [← e1] at j1
    rw [← e2] at j2
    refine EV.step (fun k => by rw [impl_MapParts.l1]) ?_
    rw [rd_getD, Int.toNat_natCast, xor_mate d (by omega), w64 (x := (d : Int) + 1) (by omega) (by omega)]
    exact EV.pos (by omega) (EV.pos (by omega) (EV.bind j1 (EV.bind j2 (impl_MapParts_l1 hm hn h2 c (d + 1) _ _ (by omega) F2))))
theorem impl_MapParts_is {m : List Int} (hb : isMapB m = true) : EV (fun k => impl_MapParts.f k m) ((partN m : Nat) : Int) := by
  have hb' := hb
  simp only [isMapB, Bool.and_eq_true, decide_eq_true_eq] at hb'
  obtain ⟨hn, h2, hm⟩ := hb'
  refine EV.bind (impl_IsMap_is m (by omega)) (EV.pos hb (EV.bind (a := idM m.length) ?_ ?_))
  · have H : EV (fun k => impl_MapParts.new k (idM 0) (m.length : Int) 0) (idM m.length) := by
      refine EV.count (g := fun k up i => impl_MapParts.new k up (m.length : Int) i) m.length (fun i => idM i) _ (fun i hi H => ?_) ?_
      · refine EV.step (fun k => by rw [impl_MapParts.new]) ?_
        rw [w64 (x := (i : Int) + 1) (by omega) (by omega)]
        refine EV.pos (by omega) (EV.pos (by simp [idM]; omega) ?_)
        have e : idM (i + 1) = idM i ++ [(i : Int)] := by simp [idM, List.range_succ]
        rw [e] at H; exact H
      · refine EV.step (fun k => by rw [impl_MapParts.new]) ?_
        exact EV.neg (by omega) (EV.now _)
    exact H
  · have := impl_MapParts_l1 hm hn.2 h2 m.length 0 (idM m.length) _ (by omega) (Forest.id _)
    rw [cls_foldE] at this
    exact this

theorem impl_cycles_is {m : List Int} (hm : permB m = true) (hn : m.length ≤ 24) : ∃ cs, cs.length = cycN m ∧ EV (fun k => impl_cycles.f k m) cs := by
  obtain ⟨cs, hc, h⟩ := cyc_all hm (fun k cs seen d => impl_cycles.l0 k m cs seen (m.length : Int) d) (fun k cs seen d c e => impl_cycles.l1 k m cs seen c e (m.length : Int) d)
    (fun cs seen => by
      refine EV.step (fun k => by rw [impl_cycles.l0]) ?_
      exact EV.neg (by omega) (EV.now _))
    (fun cs seen d r hd hl hs K => by
      refine EV.step (fun k => by rw [impl_cycles.l0]) ?_
      rw [rdOf_nat, w64 (x := (d : Int) + 1) (by omega) (by omega)]
      exact EV.pos (by omega) (EV.pos (by omega) (EV.pos (by omega) (EV.pos hs K))))
    (fun cs seen d r hd hl hs K => by
      refine EV.step (fun k => by rw [impl_cycles.l0]) ?_
      rw [rdOf_nat]
      exact EV.pos (by omega) (EV.pos (by omega) (EV.pos (by omega) (EV.neg (by rw [hs]; exact Bool.false_ne_true) K))))
    (fun cs seen d e c r hd he hl hc hs K => by
      refine EV.step (fun k => by rw [impl_cycles.l1]) ?_
      rw [rdOf_nat, rd_getD, Int.toNat_natCast]
      exact EV.pos (by omega) (EV.pos (by omega) (EV.neg (by rw [hs]; exact Bool.false_ne_true) (EV.pos (by omega) (EV.pos (by omega) K)))))
    (fun cs seen d e c r hd he hl hc hs K => by
      refine EV.step (fun k => by rw [impl_cycles.l1]) ?_
      rw [rdOf_nat, w64 (x := (d : Int) + 1) (by omega) (by omega)]
      exact EV.pos (by omega) (EV.pos (by omega) (EV.pos hs (EV.pos (by omega) K))))
  exact ⟨cs, hc, EV.pos (by omega) (EV.pos (by omega) (by rw [Int.toNat_natCast]; exact h))⟩

theorem impl_dual_is {m : List Int} (hn : m.length ≤ 24) (h2 : m.length % 2 = 0) : EV (fun k => impl_dual.f k m) (dualM m) := by
  refine EV.pos (by omega) (EV.pos (by omega) ?_)
  rw [Int.toNat_natCast]
  have H : EV (fun k => impl_dual.l0 k m (((List.range 0).map fun d => m.getD (mateN d).toNat 0) ++ List.replicate (m.length - 0) 0) (m.length : Int) 0) (dualM m) := by
    refine EV.count (g := fun k x i => impl_dual.l0 k m x (m.length : Int) i) m.length (fun i => ((List.range i).map fun d => m.getD (mateN d).toNat 0) ++ List.replicate (m.length - i) 0) _ (fun i hi H => ?_) ?_
    · have ht := mate_lt h2 hi
      refine EV.step (fun k => by rw [impl_dual.l0]) ?_
      rw [w64 (x := (i : Int) + 1) (by omega) (by omega), xor_mate i (by omega), rd_getD, Int.toNat_natCast]
      refine EV.pos (by omega) (EV.pos (by omega) (EV.pos (by omega) (EV.pos (by omega) (EV.pos (by simp; omega) ?_))))
      rw [List.range_succ, List.map_append] at H
      have e : m.length - i = (m.length - (i + 1)) + 1 := by omega
      rw [e, List.replicate_succ, set_app _ _ _ _ _ (by simp)]
      rw [List.append_assoc] at H
      exact H
    · refine EV.step (fun k => by rw [impl_dual.l0]) ?_
      refine EV.neg (by omega) ((EV.now _).eq ?_)
      rw [Nat.sub_self]; simp [dualM]
  exact H

theorem impl_GenusOf_is {m : List Int} (hb : isMapB m = true) : EV (fun k => impl_GenusOf.f k m) (genN m) := by
  have hb' := hb
  simp only [isMapB, Bool.and_eq_true, decide_eq_true_eq] at hb'
  obtain ⟨hn, h2, hm⟩ := hb'
  obtain ⟨a, ha, h⟩ := impl_cycles_is hm hn.2
  obtain ⟨b, hc, k⟩ := impl_cycles_is (dualM_perm hm h2) (by rw [dualM_len]; exact hn.2)
  exact EV.bind (impl_IsMap_is m (by omega)) (EV.pos hb (EV.bind (impl_MapParts_is hb) (EV.bind h (EV.bind (impl_dual_is hn.2 h2) (EV.bind k ((EV.now _).eq (genus_sum hm hn.2 h2 a b ha hc)))))))

theorem rg_is {n : Nat} (d0 : Int) : ∀ (r : List Int) (pre : List Int) (d : Int) (m : List Int), m.length = n → 0 ≤ d → d < n → (∀ x ∈ r, 0 ≤ x ∧ x < n) → (pre ++ d :: r).getD 0 0 = d0 →
    impl_GenusRow.rg r d d0 (ringK m (pre ++ d :: r) pre.length) = some (ringM m (pre ++ d :: r))
  | [], pre, d, m, hm, h0, h1, hr, he => by
    have hl := ringK_len m (pre ++ [d]) pre.length
    rw [impl_GenusRow.rg, if_pos ⟨h0, by omega⟩]
    have e : ringM m (pre ++ [d]) = ringK m (pre ++ [d]) (pre.length + 1) := by
      change ringK m (pre ++ [d]) (pre ++ [d]).length = _
      rw [List.length_append, List.length_singleton]
    rw [e, ringK_succ]
    congr 2
    · congr 1; simp
    · rw [List.length_append, List.length_singleton, Nat.mod_self]; exact he.symm
  | x :: r, pre, d, m, hm, h0, h1, hr, he => by
    have hl := ringK_len m (pre ++ d :: x :: r) pre.length
    have hx := hr x List.mem_cons_self
    rw [impl_GenusRow.rg, if_pos ⟨h0, by omega⟩]
    have ih := rg_is d0 r (pre ++ [d]) x m hm hx.1 hx.2 (fun y hy => hr y (List.mem_cons_of_mem _ hy)) (by rw [List.append_assoc]; exact he)
    rw [List.append_assoc, List.length_append, List.length_singleton] at ih
    simp only [List.singleton_append] at ih
    rw [ringK_succ] at ih
    have e1 : (pre ++ d :: x :: r).getD pre.length 0 = d := by simp
    have e2 : (pre ++ d :: x :: r).getD ((pre.length + 1) % (pre ++ d :: x :: r).length) 0 = x := by
      rw [Nat.mod_eq_of_lt (by simp)]; simp
    rw [e1, e2] at ih
    exact ih
theorem oR_rel {n : Nat} {g : List (List Int)} {v : Nat} {m : List Int} {q : List Int} (f : Nat → List Int → List Int × List Int → Option (List Int × List Int)) (G : List Int → List Int)
    (hf : ∀ x m1 row1, x.Perm q → AG g v m1 m → PV g v m1 → row1.length ≤ 101 → ∃ m', AG g v m' m ∧ PV g v m' ∧ EV (fun k => f k x (m1, row1)) (m', (G x).foldl bumpT row1) ∧ ((G x).foldl bumpT row1).length ≤ 101) (hq : q.length = n) :
    ∀ (a k : Nat) (xs : List Int) (m1 row1 : List Int), k + a = n → xs.Perm q → AG g v m1 m → PV g v m1 → row1.length ≤ 101 →
      ∃ m', AG g v m' m ∧ PV g v m' ∧ EV (fun K => impl_GenusRow.oR (f K) a k xs (m1, row1)) (m', ((ordA a k xs).flatMap G).foldl bumpT row1) ∧ (((ordA a k xs).flatMap G).foldl bumpT row1).length ≤ 101 := by
  intro a
  induction a with
  | zero =>
    intro k xs m1 row1 _ hx ha hp hr
    obtain ⟨m', h1, h2, h3, h4⟩ := hf xs m1 row1 hx ha hp hr
    exact ⟨m', h1, h2, by simpa [impl_GenusRow.oR, ordA] using h3, by simpa [ordA] using h4⟩
  | succ a ih =>
    intro k xs m1 row1 hk hx ha hp hr
    have hl := hx.length_eq
    have go : ∀ c i m1 row1, i + c ≤ n → AG g v m1 m → PV g v m1 → row1.length ≤ 101 →
        ∃ m', AG g v m' m ∧ PV g v m' ∧ EV (fun K => impl_GenusRow.oL (impl_GenusRow.oR (f K) a (k + 1)) k xs c i (m1, row1)) (m', ((ordB (ordA a (k + 1)) k xs c i).flatMap G).foldl bumpT row1) ∧ (((ordB (ordA a (k + 1)) k xs c i).flatMap G).foldl bumpT row1).length ≤ 101 := by
      intro c
      induction c with
      | zero => intro i m1 row1 _ ha hp hr; exact ⟨m1, ha, hp, EV.now _, hr⟩
      | succ c ihc =>
        intro i m1 row1 hi ha hp hr
        obtain ⟨m2, h1, h2, h3, h4⟩ := ih (k + 1) (swG xs k i) m1 row1 (by omega) ((swG_perm xs (by omega) (by omega)).trans hx) ha hp hr
        obtain ⟨m3, k1, k2, k3, k4⟩ := ihc (i + 1) m2 _ (by omega) h1 h2 h4
        refine ⟨m3, k1, k2, ?_, by simpa [ordB, List.foldl_append] using k4⟩
        refine EV.bind h3 ?_
        simpa [ordB, List.foldl_append] using k3
    exact go (a + 1) k m1 row1 (by omega) ha hp hr
theorem PV.like {g : List (List Int)} {v : Nat} {a b : List Int} (h : PV g v b) (ha : AG g v a b) : PV g v a := ⟨ha.1, fun u hu => by
  have p := h.2 u hu
  constructor
  · intro d hd; rw [ha.2.2 u hu d hd]; exact p.1 d hd
  · intro d hd d' hd' q
    rw [ha.2.2 u hu d hd, ha.2.2 u hu d' hd'] at q
    exact p.2 d hd d' hd' q⟩
theorem ordI_mem {g : List (List Int)} (v : Nat) : ∀ os ∈ ordI (ds g v), os.Perm (ds g v) := fun os ho => (ord7_ordI (ds_nodup g v)).2 os ho
theorem flatMap_map' {α β γ : Type} (f : α → β) (h : β → List γ) : ∀ l : List α, (l.map f).flatMap h = l.flatMap fun x => h (f x)
  | [] => rfl
  | x :: l => by rw [List.map_cons, List.flatMap_cons, List.flatMap_cons, flatMap_map' f h l]
theorem impl_GenusRow_gF {g : List (List Int)} (hg : graphB g = true) (hd : ∀ u, u < 7 → (ds g u).length ≤ 7) : ∀ (c v : Nat) (m row : List Int), v + c = 7 → PV g v m → row.length ≤ 101 →
    ∃ m', AG g v m' m ∧ EV (fun k => impl_GenusRow.gF k ((List.range 7).map fun v : Nat => dartsF (v : Int) 0 g) c (v : Int) (m, row)) (m', (GL (fun v => ordI (ds g v)) c v m).foldl bumpT row) ∧ ((GL (fun v => ordI (ds g v)) c v m).foldl bumpT row).length ≤ 101
  | 0, v, m, row, hv, hP, hr => by
    have : v = 7 := by omega
    subst this
    obtain ⟨b1, b2, b3, b4, b5⟩ := leaf_bd hg hP
    obtain ⟨u1, u2⟩ := bump_now b4 b5 hr
    refine ⟨m, AG.rfl hP.1, ?_, by simpa [GL] using u2⟩
    refine EV.congr (fun k => by rw [impl_GenusRow.gF]) (EV.bind (impl_GenusOf_is (leaf_map hg hP)) (EV.by u1 (EV.now (m, bumpT row (genN m)))))
  | c + 1, v, m, row, hv, hP, hr => by
    have hv7 : v < 7 := by omega
    have hdv := hd v hv7
    have hx : rd_L1 ((List.range 7).map fun v : Nat => dartsF (v : Int) 0 g) (v : Int) = ds g v := by
      rw [rdL_tab 7 _ _ (by omega) (by omega), Int.toNat_natCast]; rfl
    have hlen : (v : Int) < (((List.range 7).map fun v : Nat => dartsF (v : Int) 0 g).length : Int) := by simp; omega
    have ev1 : ((v : Int) + 1) = ((v + 1 : Nat) : Int) := by omega
    rcases hds : ds g v with _ | ⟨a, r⟩
    · have hPn : PV g (v + 1) m := by
        have := hP.ring (os := []) (by rw [hds])
        exact this
      obtain ⟨m', h1, h2, h3⟩ := impl_GenusRow_gF hg hd c (v + 1) m row (by omega) hPn hr
      have eG : GL (fun v => ordI (ds g v)) (c + 1) v m = GL (fun v => ordI (ds g v)) c (v + 1) m := by
        simp only [GL, hds, ordI, List.flatMap_cons, List.flatMap_nil, List.append_nil]; rfl
      rw [eG]
      refine ⟨m', h1.down, ?_, h3⟩
      refine EV.congr (fun k => by rw [impl_GenusRow.gF, hx, hds]) (EV.pos hlen (EV.pos (c := ([] : List Int).length = 0) rfl ?_))
      rw [ev1]; exact h2
    · have hlr : r.length + 1 ≤ 7 := by rw [hds] at hdv; simpa using hdv
      have hin := ds_in g v
      rw [hds] at hin
      have ha0 := hin a List.mem_cons_self
      obtain ⟨m', h1, h2, h3, h4⟩ := oR_rel (g := g) (v := v) (m := m) (q := r) (n := r.length)
        (fun k others st => (impl_GenusRow.rg others a a st.1).bind fun m' => impl_GenusRow.gF k ((List.range 7).map fun v : Nat => dartsF (v : Int) 0 g) c ((v : Int) + 1) (m', st.2)) (fun x => GL (fun v => ordI (ds g v)) c (v + 1) (ringM m (a :: x)))
        (fun x m1 row1 hxq ha hp hr1 => by
          have ho : (a :: x).Perm (ds g v) := by rw [hds]; exact hxq.cons a
          obtain ⟨m2, e1, e2, e3⟩ := impl_GenusRow_gF hg hd c (v + 1) (ringM m1 (a :: x)) row1 (by omega) (hp.ring ho) hr1
          have eG : GL (fun v => ordI (ds g v)) c (v + 1) (ringM m1 (a :: x)) = GL (fun v => ordI (ds g v)) c (v + 1) (ringM m (a :: x)) := GL_same hg (fun v => ordI_mem v) c (v + 1) _ _ (by omega) (ha.ring ho)
          rw [eG] at e2 e3
          have ha2 : AG g v m2 m1 := e1.down.trans (AG.stay hp.1 ho)
          refine ⟨m2, ha2.trans ha, hp.like ha2, ?_, e3⟩
          have hl1 := hp.1
          have := rg_is (n := m1.length) a x [] a m1 rfl ha0.1 (by omega) (fun y hy => by
            have := hin y (List.mem_cons_of_mem _ (hxq.mem_iff.1 hy)); omega) rfl
          refine EV.by this ?_
          rw [ev1]; exact e2) rfl r.length 0 r m row (by omega) (.refl _) (AG.rfl hP.1) hP hr
      have eG : GL (fun v => ordI (ds g v)) (c + 1) v m = (ordA r.length 0 r).flatMap fun x => GL (fun v => ordI (ds g v)) c (v + 1) (ringM m (a :: x)) := by
        simp only [GL, hds, ordI]
        rw [flatMap_map']
      rw [eG]
      refine ⟨m', h1, ?_, h4⟩
      refine EV.congr (fun k => by rw [impl_GenusRow.gF, hx, hds]) (EV.pos hlen (EV.neg (by simp) (EV.pos (by simp; omega) ?_)))
      exact h3
theorem impl_GenusRow_is (g : List (List Int)) (hn : g.length ≤ 1048576) : EV (fun k => impl_GenusRow.f k g) (rowM' g) := by
  refine EV.bind (impl_IsGraph_is g (by omega)) ?_
  unfold rowM'
  by_cases hg : graphB g = true
  · obtain ⟨r1, r2⟩ := rot_bd hg
    have G := graphB_of hg
    refine EV.pos hg (EV.bind (impl_CountRotations_is g (by omega)) ?_)
    by_cases h : rotM g ≤ 2000
    · rw [if_pos ⟨hg, h⟩]
      obtain ⟨m', _, e, _⟩ := impl_GenusRow_gF hg (r2 h) 7 0 (List.replicate (2 * g.length) 0) [] rfl (PV_zero g) (by simp)
      refine EV.neg (by omega) (EV.bind (impl_dartsAt_is g hg) (EV.pos (by omega) (EV.bind e ((EV.now _).eq ?_))))
      exact rowG_same g
    · rw [if_neg (fun c => h c.2)]
      exact EV.pos (by omega) (EV.now _)
  · rw [if_neg (fun c => hg c.1)]
    exact EV.neg hg (EV.now _)

theorem impl_LeastGenus_l0 (row : List Int) (hn : row.length ≤ 101) : ∀ (suf pre : List Int), row = pre ++ suf → EV (fun k => impl_LeastGenus.l0 k row (row.length : Int) (pre.length : Int)) (leastF pre.length suf)
  | [], pre, h => by
    refine EV.step (fun k => by rw [impl_LeastGenus.l0]) ?_
    exact EV.neg (by subst h; simp) (EV.now _)
  | x :: suf, pre, h => by
    have hl : (pre.length : Int) < (row.length : Int) := by subst h; exact lt_app ..
    have hx : rd row (pre.length : Int) = x := by subst h; exact rd_app ..
    have ih := impl_LeastGenus_l0 row hn suf (pre ++ [x]) (by rw [h]; simp)
    rw [List.length_append, List.length_singleton] at ih
    refine EV.step (fun k => by rw [impl_LeastGenus.l0]) (EV.pos hl (EV.pos (by omega) (EV.pos hl ?_)))
    rw [hx, w64 (x := (pre.length : Int) + 1) (by omega) (by omega)]
    simp only [leastF]
    by_cases c : x > 0
    · rw [if_pos c]; exact EV.pos c (EV.now _)
    · rw [if_neg c]; exact EV.neg c (by exact_mod_cast ih)
theorem impl_LeastGenus_is (g : List (List Int)) (hn : g.length ≤ 1048576) : EV (fun k => impl_LeastGenus.f k g) (leastF 0 (rowM' g)) :=
  EV.bind (impl_GenusRow_is g hn) (impl_LeastGenus_l0 (rowM' g) (rowM'_len g) (rowM' g) [] rfl)

theorem both (g : List (List Int)) (w : ∀ r ∈ g, r.length ≤ maxLen ∧ ∀ x ∈ r, (Lit.int .i64 x).wf = true) (n : g.length + total g ≤ 1048576) :
    ∃ R : Int, EV (fun k => spec_LeastGenus.f k g) R ∧ EV (fun k => impl_LeastGenus.f k g) R ∧ True :=
  ⟨leastF 0 (rowM' g), spec_LeastGenus_is g (by omega), impl_LeastGenus_is g (by omega), trivial⟩

theorem FnExactLeastGenus (l0 : List (List Int)) (x0 : l0.length ≤ maxLen) (w0 : ∀ r ∈ l0, r.length ≤ maxLen ∧ ∀ x ∈ r, (Lit.int .i64 x).wf = true) : ∃ k, laws_FnExactLeastGenus.f k l0 = some true := by
  refine EV.rounds ?_
  have r0x : ∀ r ∈ l0, r.length ≤ 9223372036854775807 := fun r hr => by have := (w0 r hr).1; unfold maxLen at this; omega
  refine EV.bind (laws_szIntSS_is l0 (1048576) (by omega) (by omega) (by unfold maxLen at x0; omega) r0x) ?_
  unfold szM
  by_cases g0 : ((l0.length : Int) + total l0 ≤ 1048576)
  rotate_left
  · rw [if_neg g0]; exact EV.pos (by omega) (EV.now _)
  rw [if_pos g0]
  refine EV.neg (by omega) ?_
  have n0 : l0.length + total l0 ≤ 1048576 := by omega
  have r0 : ∀ r ∈ l0, r.length ≤ 1048576 := fun r hr => by have := total_mem hr; omega
  have q0 : ∀ r ∈ l0, r.length < 4611686018427387904 := fun r hr => by have := total_mem hr; omega
  obtain ⟨R, S, I, hR⟩ := both l0 w0 n0
  repeat (first
    | exact EV.now _
    | (refine EV.bind (laws_toIntS_is _ (by omega)) ?_)
    | (refine EV.bind (laws_toIntSS_is _ (by omega) (by assumption)) ?_)
    | (refine EV.bind S ?_)
    | (refine EV.bind I ?_)
    | (refine EV.bind (laws_eqIntS_self _ (by omega)) ?_)
    | (refine EV.bind (laws_eqIntSS_self _ (by omega) (by assumption)) ?_)
    | (refine EV.pos rfl ?_)
    | (refine EV.neg (by first | omega | (simp; done)) ?_)
    | (refine EV.pos (by first | omega | (simp; done)) ?_)
    | dsimp only)

end Go.Proofs.Ytnfaejmmbldaeaa.Pure
