/- Pure side of FnExactSlopeWord: the printed functions of the program and of the reference answer alike at every input that the statement takes; no condition beyond the printed statement's bounds. -/
import Derived.Test.YtdkjppbemhpkmaaPFnExactSlopeWordx3
import Derived.Test.YtdkjppbemhpkmaaWSized
set_option linter.unusedVariables false
set_option linter.unusedSimpArgs false
set_option maxRecDepth 10000
/-- the printed row calls the print's word by this name -/
abbrev Go.Proofs.Ytdkjppbemhpkmaa.PrintWords.sized_ints := @Go.Proofs.YtdkjppbemhpkmaaW.PrintWords.sized_ints
namespace Go.Proofs.Ytdkjppbemhpkmaa.Pure
open Go.RowKit Go.Proofs.Ytdkjppbemhpkmaa.PFnExactSlopeWord Go.Proofs.YtdkjppbemhpkmaaW.PrintWords Go.Proofs.YtdkjppbemhpkmaaW.PrintLast Go.Proofs.YtdkjppbemhpkmaaW.PrintMore

/-! ### Base: words of our own, of no program -/
section
theorem w64 {x : Int} (h1 : -9223372036854775808 ≤ x) (h2 : x ≤ 9223372036854775807) : wrap64 x = x := by
  unfold wrap64; omega
theorem wf64 {x : Int} (h : (Lit.int .i64 x).wf = true) : -9223372036854775808 ≤ x ∧ x ≤ 9223372036854775807 := by
  simp only [Lit.wf, IntKind.min, IntKind.max, IntKind.signed, IntKind.bits, Bool.and_eq_true, decide_eq_true_eq, if_true] at h
  omega
/-- from some number of rounds on it answers r -/
structure EV {α : Type} (g : Nat → Option α) (r : α) : Prop where mk :: (out : ∃ K, ∀ k, K ≤ k → g k = some r)
theorem EV.now {α : Type} (r : α) : EV (fun _ => some r) r := ⟨0, fun _ _ => rfl⟩
theorem EV.rounds {α : Type} {g : Nat → Option α} {r : α} (h : EV g r) : ∃ k, g k = some r := by
  obtain ⟨K, h⟩ := h
  exact ⟨K, h K (Nat.le_refl _)⟩
theorem EV.bind {α β : Type} {g : Nat → Option α} {f : Nat → α → Option β} {a : α} {r : β} (h : EV g a) (k : EV (fun n => f n a) r) : EV (fun n => (g n).bind (f n)) r := by
  obtain ⟨K, h⟩ := h
  obtain ⟨K', k⟩ := k
  refine ⟨max K K', fun n hn => ?_⟩
  have h1 := h n (by omega)
  have h2 := k n (by omega)
  simp only [h1, Option.bind_some]
  exact h2
theorem EV.step {α : Type} {g f : Nat → Option α} {r : α} (h : ∀ k, g (k + 1) = f k) (k : EV f r) : EV g r := by
  obtain ⟨K, k⟩ := k
  refine ⟨K + 1, fun n hn => ?_⟩
  obtain ⟨m, rfl⟩ : ∃ m, n = m + 1 := ⟨n - 1, by omega⟩
  rw [h]
  exact k m (by omega)
theorem EV.congr {α : Type} {g f : Nat → Option α} {r : α} (h : ∀ k, g k = f k) (k : EV f r) : EV g r := by
  obtain ⟨K, k⟩ := k
  exact ⟨K, fun n hn => (h n).trans (k n hn)⟩
theorem EV.pos {α : Type} {c : Prop} [Decidable c] {a b : Nat → Option α} {r : α} (h : c) (k : EV a r) : EV (fun n => if c then a n else b n) r :=
  EV.congr (fun n => if_pos h) k
theorem EV.neg {α : Type} {c : Prop} [Decidable c] {a b : Nat → Option α} {r : α} (h : ¬ c) (k : EV b r) : EV (fun n => if c then a n else b n) r :=
  EV.congr (fun n => if_neg h) k
theorem EV.cases {α : Type} {c : Prop} [Decidable c] {a b : Nat → Option α} {r : α} (h : c → EV a r) (h' : ¬ c → EV b r) : EV (fun n => if c then a n else b n) r := by
  by_cases hc : c
  · exact EV.pos hc (h hc)
  · exact EV.neg hc (h' hc)
/-- a callee without rounds -/
theorem EV.by {α β : Type} {g : Option α} {f : Nat → α → Option β} {a : α} {r : β} (h : g = some a) (k : EV (fun n => f n a) r) : EV (fun n => g.bind (f n)) r := by
  subst h; exact k
theorem EV.is {α : Type} {g : Option α} {r : α} (h : g = some r) : EV (fun _ => g) r := ⟨0, fun _ _ => h⟩
theorem EV.eq {α : Type} {g : Nat → Option α} {r r' : α} (h : EV g r) (e : r = r') : EV g r' := e ▸ h
theorem rd_app (pre : List Int) (x : Int) (suf : List Int) : rd (pre ++ x :: suf) (pre.length : Int) = x := by
  simp [rd]
theorem rd_nat (xs : List Int) (i : Nat) (h : i < xs.length) : rd xs (i : Int) = xs[i] := by
  simp [rd, h]
theorem set_app {α : Type} (pre : List α) (x y : α) (suf : List α) (n : Nat) (hn : n = pre.length) : (pre ++ x :: suf).set n y = pre ++ y :: suf := by
  subst hn; simp
end
def smallB (x : Int) : Bool := decide (-1000 ≤ x ∧ x ≤ 1000)
/-- one index on -/
theorem up {α : Type} {x : α} {pre : List α} (h : pre.length < 4611686018427387904) : wrap64 ((pre.length : Int) + 1) = ((pre ++ [x]).length : Int) := by
  rw [w64 (by omega) (by omega)]; simp
theorem lt_app {α : Type} (pre : List α) (x : α) (suf : List α) : (pre.length : Int) < ((pre ++ x :: suf).length : Int) := by simp; omega
def classB (g : Int) (xs : List Int) : Bool := decide (1 ≤ g ∧ g ≤ 3) && (decide ((xs.length : Int) = 2 * g) && xs.all smallB)
theorem EV.uniq {α : Type} {g : Nat → Option α} {r r' : α} (h : EV g r) (h' : EV g r') : r = r' := by
  obtain ⟨K, h⟩ := h
  obtain ⟨K', h'⟩ := h'
  have a := h (max K K') (by omega)
  have b := h' (max K K') (by omega)
  rw [a] at b; exact Option.some.inj b
/-- from some number of rounds on -/
def Evt (P : Nat → Prop) : Prop := ∃ K, ∀ k, K ≤ k → P k
theorem Evt.and {P Q : Nat → Prop} (h : Evt P) (h' : Evt Q) : Evt (fun k => P k ∧ Q k) := by
  obtain ⟨K, h⟩ := h
  obtain ⟨K', h'⟩ := h'
  exact ⟨max K K', fun k hk => ⟨h k (by omega), h' k (by omega)⟩⟩
theorem Evt.const {p : Prop} (h : p) : Evt (fun _ => p) := ⟨0, fun _ _ => h⟩
theorem EV.evt {α : Type} {g : Nat → Option α} {r : α} (h : EV g r) : Evt (fun k => g k = some r) := h.out
theorem Evt.imp {P Q : Nat → Prop} (h : Evt P) (f : ∀ k, P k → Q k) : Evt Q := by
  obtain ⟨K, h⟩ := h
  exact ⟨K, fun k hk => f k (h k hk)⟩
theorem Evt.rounds {P : Nat → Prop} (h : Evt P) : ∃ k, P k := by
  obtain ⟨K, h⟩ := h
  exact ⟨K, h K (Nat.le_refl _)⟩
theorem EV.mono {α : Type} {g : Nat → Option α} (hg : ∀ k, LeO (g k) (g (k + 1))) {k : Nat} {r : α} (h : g k = some r) : EV g r := ⟨k, fun _ hk => at_rounds hg hk h⟩

def marks : Nat → Int → List Int
  | 0, _ => []
  | n + 1, k => k :: marks n (k + 1)
theorem marks_length (n : Nat) : ∀ k, (marks n k).length = n := by
  induction n with
  | zero => intro k; rfl
  | succ n ih => intro k; simp [marks, ih]

theorem laws_eqIntS_l0 (xs ys : List Int) (hn : xs.length < 4611686018427387904) : ∀ (suf suf' pre : List Int), pre.length + suf.length = xs.length → pre.length + suf'.length = ys.length → suf.length = suf'.length → xs.drop pre.length = suf → ys.drop pre.length = suf' →
    EV (fun k => laws_eqIntS.l0 k xs ys (pre.length : Int)) (decide (suf = suf')) := by
  intro suf
  induction suf with
  | nil =>
    intro suf' pre h1 h2 h3 h4 h5
    have : suf' = [] := List.eq_nil_of_length_eq_zero (by simpa using h3.symm)
    subst this
    refine EV.step (fun k => by rw [laws_eqIntS.l0]) ?_
    refine (EV.neg ?_ ((EV.now _).eq (by simp)))
    simp at h1; omega
  | cons x suf ih =>
    intro suf' pre h1 h2 h3 h4 h5
    obtain ⟨y, suf', rfl⟩ : ∃ y t, suf' = y :: t := by
      cases suf' with
      | nil => simp at h3
      | cons y t => exact ⟨y, t, rfl⟩
    simp only [List.length_cons] at h1 h2 h3
    have hl : pre.length < 4611686018427387904 := by omega
    have hx : rd xs (pre.length : Int) = x := by
      rw [rd_nat _ _ (by omega)]
      have := List.getElem_drop (xs := xs) (i := pre.length) (j := 0) (h := by simp; omega)
      simp only [h4] at this; simpa using this.symm
    have hy : rd ys (pre.length : Int) = y := by
      rw [rd_nat _ _ (by omega)]
      have := List.getElem_drop (xs := ys) (i := pre.length) (j := 0) (h := by simp; omega)
      simp only [h5] at this; simpa using this.symm
    refine EV.step (fun k => by rw [laws_eqIntS.l0]) ?_
    refine (EV.pos (by omega) (EV.pos (by omega) (EV.pos (by omega) ?_)))
    rw [hx, hy, up (x := x) hl]
    by_cases hs : x = y
    · refine EV.pos hs ((ih suf' _ (by simp; omega) (by simp; omega) (by omega) ?_ ?_).eq (by simp [hs]))
      · rw [List.length_append, ← List.drop_drop, h4]; rfl
      · rw [List.length_append, ← List.drop_drop, h5]; rfl
    · exact (EV.neg hs (EV.now _)).eq (by simp [hs])
theorem laws_eqIntS_is (xs ys : List Int) (hn : xs.length < 4611686018427387904) : EV (fun k => laws_eqIntS.f k xs ys) (decide (xs = ys)) := by
  by_cases h : xs.length = ys.length
  · exact EV.pos (by omega) (laws_eqIntS_l0 xs ys hn xs ys [] (by simp) (by simp) h rfl rfl)
  · exact (EV.neg (by omega) (EV.now _)).eq (by simp; intro e; exact h (by rw [e]))
theorem laws_eqIntS_self (xs : List Int) (hn : xs.length < 4611686018427387904) : EV (fun k => laws_eqIntS.f k xs xs) true := (laws_eqIntS_is xs xs hn).eq (by simp)

theorem laws_toSlope_is (p q : Int) : laws_toSlope.f p q = some (p, q) := rfl

theorem laws_markIntS_l0 : ∀ (suf pre : List Int) (k : Int), pre.length + suf.length < 4611686018427387904 → 0 ≤ k → k + suf.length < 4611686018427387904 →
    EV (fun r => laws_markIntS.l0 r (pre ++ suf) k (pre.length : Int)) (k + suf.length, pre ++ marks suf.length k) := by
  intro suf
  induction suf with
  | nil =>
    intro pre k h1 h2 h3
    refine EV.step (fun r => by rw [laws_markIntS.l0]) ?_
    exact EV.neg (by simp) ((EV.now _).eq (by simp [marks]))
  | cons x suf ih =>
    intro pre k h1 h2 h3
    simp only [List.length_cons] at h1 h3
    refine EV.step (fun r => by rw [laws_markIntS.l0]) ?_
    refine EV.pos (lt_app ..) (EV.pos (by omega) ?_)
    rw [set_app _ _ _ _ _ (by simp), up (x := k) (by omega), w64 (by omega) (by omega)]
    have := ih (pre ++ [k]) (k + 1) (by simp; omega) (by omega) (by omega)
    simp only [List.append_assoc, List.cons_append, List.nil_append] at this
    refine this.eq ?_
    simp [marks]; omega
theorem laws_markIntS_is (xs : List Int) (k : Int) (h1 : xs.length < 2305843009213693952) (h2 : 0 ≤ k) (h3 : k < 2305843009213693952) : EV (fun r => laws_markIntS.f r xs k) (k + xs.length, marks xs.length k) :=
  laws_markIntS_l0 xs [] k (by simp; omega) h2 (by omega)

theorem laws_heldIntS_l0 : ∀ (n : Nat) (pre : List Int) (k : Int), pre.length + n < 4611686018427387904 → 0 ≤ k → k + n < 4611686018427387904 →
    EV (fun r => laws_heldIntS.l0 r (pre ++ marks n k) k (pre.length : Int)) (k + n) := by
  intro n
  induction n with
  | zero =>
    intro pre k h1 h2 h3
    refine EV.step (fun r => by rw [laws_heldIntS.l0]) ?_
    exact EV.neg (by simp [marks]) ((EV.now _).eq (by simp))
  | succ n ih =>
    intro pre k h1 h2 h3
    refine EV.step (fun r => by rw [laws_heldIntS.l0]) ?_
    rw [marks]
    refine EV.pos (lt_app ..) (EV.pos (by omega) (EV.pos (rd_app ..) ?_))
    rw [up (x := k) (by omega), w64 (by omega) (by omega)]
    have := ih (pre ++ [k]) (k + 1) (by simp; omega) (by omega) (by omega)
    simp only [List.append_assoc, List.cons_append, List.nil_append] at this
    refine this.eq (by omega)
theorem laws_heldIntS_is (n : Nat) (k : Int) (h1 : n < 2305843009213693952) (h2 : 0 ≤ k) (h3 : k < 2305843009213693952) : EV (fun r => laws_heldIntS.f r (marks n k) k) (k + n) :=
  laws_heldIntS_l0 n [] k (by simp; omega) h2 (by omega)

theorem spec_l1In_is (a b c : Int) : spec_l1In.f a b c = some (decide (b ≤ a ∧ a ≤ c)) := by
  unfold spec_l1In.f
  by_cases h : a ≥ b
  · rw [if_pos h]; simp [show b ≤ a from h]
  · rw [if_neg h]; simp; omega

theorem spec_l1Max_is (a b : Int) : spec_l1Max.f a b = some (if a > b then a else b) := by
  unfold spec_l1Max.f; split <;> rfl

theorem spec_l3Abs_is (a : Int) (h : -9223372036854775808 < a) (h' : a ≤ 9223372036854775807) : spec_l3Abs.f a = some (a.natAbs : Int) := by
  unfold spec_l3Abs.f
  rw [spec_l1Max_is, w64 (by omega) (by omega)]
  simp only [Option.bind_some]
  congr 1
  split <;> omega

theorem gcd_step (a b : Int) : Nat.gcd b.natAbs (Int.tmod a b).natAbs = Nat.gcd a.natAbs b.natAbs := by
  rw [Int.natAbs_tmod, Nat.gcd_comm b.natAbs, ← Nat.gcd_rec, Nat.gcd_comm]
theorem tmod_lt (a b : Int) (h : b ≠ 0) : (Int.tmod a b).natAbs < b.natAbs := by
  rw [Int.natAbs_tmod]; exact Nat.mod_lt _ (by omega)
def slopeB (p q : Int) : Bool := decide (-1000 ≤ p ∧ p ≤ 1000) && (decide (0 ≤ q ∧ q ≤ 1000) && (decide (Nat.gcd p.natAbs q.natAbs = 1) && (decide (0 < q) || decide (p = 1))))
/-- p, q by their greatest common divisor, the sign so that q is above 0, or p -/
def lowM (p q : Int) : Int × Int :=
  let d : Int := (Nat.gcd p.natAbs q.natAbs : Nat)
  if q < 0 ∨ (q = 0 ∧ p < 0) then (-(p.tdiv d), -(q.tdiv d)) else (p.tdiv d, q.tdiv d)
def slopeOfM (p q : Int) : Int × Int × Bool :=
  if -1000 ≤ p ∧ p ≤ 1000 then (if -1000 ≤ q ∧ q ≤ 1000 then (if p = 0 ∧ q = 0 then (0, 0, false) else ((lowM p q).1, (lowM p q).2, true)) else (0, 0, false)) else (0, 0, false)
theorem low_of (p q : Int) (hp : -1000 ≤ p ∧ p ≤ 1000) (hq : -1000 ≤ q ∧ q ≤ 1000) (hz : ¬ (p = 0 ∧ q = 0)) :
    ∃ d a b : Int, ((Nat.gcd p.natAbs q.natAbs : Nat) : Int) = d ∧ 0 < d ∧ d ≤ 1000 ∧ p.tdiv d = a ∧ q.tdiv d = b ∧ p = d * a ∧ q = d * b ∧ -1000 ≤ a ∧ a ≤ 1000 ∧ -1000 ≤ b ∧ b ≤ 1000 ∧ (q < 0 ↔ b < 0) ∧ (q = 0 ↔ b = 0) ∧ (p < 0 ↔ a < 0) := by
  have hg : 0 < Nat.gcd p.natAbs q.natAbs := by
    rcases Nat.eq_zero_or_pos (Nat.gcd p.natAbs q.natAbs) with h | h
    · have := Nat.gcd_eq_zero_iff.1 h; omega
    · exact h
  have h1 : Nat.gcd p.natAbs q.natAbs ≤ 1000 := by
    by_cases h : p = 0
    · have := Nat.gcd_le_right p.natAbs (n := q.natAbs) (by omega); omega
    · have := Nat.gcd_le_left q.natAbs (m := p.natAbs) (by omega); omega
  obtain ⟨a, ha⟩ : ∃ a, p = ((Nat.gcd p.natAbs q.natAbs : Nat) : Int) * a := Int.ofNat_dvd_left.2 (Nat.gcd_dvd_left ..)
  obtain ⟨b, hb⟩ : ∃ b, q = ((Nat.gcd p.natAbs q.natAbs : Nat) : Int) * b := Int.ofNat_dvd_left.2 (Nat.gcd_dvd_right ..)
  generalize hd : ((Nat.gcd p.natAbs q.natAbs : Nat) : Int) = d at *
  have hdp : 0 < d := by omega
  have e1 : p.tdiv d = a := by rw [ha]; exact Int.mul_tdiv_cancel_left _ (by omega)
  have e2 : q.tdiv d = b := by rw [hb]; exact Int.mul_tdiv_cancel_left _ (by omega)
  have bnd : ∀ x y : Int, x = d * y → -1000 ≤ x → x ≤ 1000 → -1000 ≤ y ∧ y ≤ 1000 ∧ (x < 0 ↔ y < 0) ∧ (x = 0 ↔ y = 0) := by
    intro x y h h1 h2
    have k1 : 0 < y → y ≤ d * y := fun hy => by have := Int.mul_le_mul_of_nonneg_right (show 1 ≤ d by omega) (show 0 ≤ y by omega); omega
    have k2 : y < 0 → d * y ≤ y := fun hy => by have := Int.mul_le_mul_of_nonpos_right (show 1 ≤ d by omega) (show y ≤ 0 by omega); omega
    have k3 : y = 0 → d * y = 0 := fun hy => by rw [hy]; simp
    rw [← h] at k1 k2 k3
    rcases Int.lt_trichotomy y 0 with hy | hy | hy
    · have := k2 hy; omega
    · have := k3 hy; omega
    · have := k1 hy; omega
  have B1 := bnd p a ha hp.1 hp.2
  have B2 := bnd q b hb hq.1 hq.2
  exact ⟨d, a, b, rfl, hdp, by omega, e1, e2, ha, hb, by omega, by omega, by omega, by omega, B2.2.2.1, B2.2.2.2, B1.2.2.1⟩

theorem spec_l11Gcd_l0 (n : Nat) : ∀ a b : Int, b.natAbs ≤ n → a.natAbs ≤ 9223372036854775807 → b.natAbs ≤ 9223372036854775807 → EV (fun k => spec_l11Gcd.l0 k a b) ((Nat.gcd a.natAbs b.natAbs : Nat) : Int) := by
  induction n with
  | zero =>
    intro a b hb h1 h2
    obtain rfl : b = 0 := by omega
    refine EV.step (fun k => by rw [spec_l11Gcd.l0]) ?_
    refine EV.pos rfl (EV.by (spec_l3Abs_is a (by omega) (by omega)) ((EV.now _).eq (by simp)))
  | succ n ih =>
    intro a b hb h1 h2
    refine EV.step (fun k => by rw [spec_l11Gcd.l0]) ?_
    by_cases h : b = 0
    · subst h
      exact EV.pos rfl (EV.by (spec_l3Abs_is a (by omega) (by omega)) ((EV.now _).eq (by simp)))
    · have hm := tmod_lt a b h
      refine EV.neg h ((ih b (Int.tmod a b) (by omega) (by omega) (by omega)).eq ?_)
      rw [gcd_step]
theorem spec_l11Gcd_is (a b : Int) (h1 : a.natAbs ≤ 9223372036854775807) (h2 : b.natAbs ≤ 9223372036854775807) : EV (fun k => spec_l11Gcd.f k a b) ((Nat.gcd a.natAbs b.natAbs : Nat) : Int) :=
  spec_l11Gcd_l0 b.natAbs a b (Nat.le_refl _) h1 h2

theorem spec_IsSlope_is (p q : Int) : EV (fun k => spec_IsSlope.f k p q) (slopeB p q) := by
  unfold slopeB
  refine EV.by (spec_l1In_is _ _ _) ?_
  by_cases hp : -1000 ≤ p ∧ p ≤ 1000
  · refine EV.pos (by simpa using hp) (EV.by (spec_l1In_is _ _ _) ?_)
    by_cases hq : 0 ≤ q ∧ q ≤ 1000
    · refine EV.pos (by simpa using hq) ?_
      have G := spec_l11Gcd_is p q (by omega) (by omega)
      by_cases h0 : q = 0
      · refine EV.pos h0 ?_
        by_cases h1 : p = 1
        · refine EV.pos h1 (EV.bind G ((EV.now _).eq ?_))
          subst h1; subst h0; decide
        · exact EV.neg h1 ((EV.now _).eq (by simp [h0, h1]))
      · refine EV.neg h0 (EV.bind G ((EV.now _).eq ?_))
        have hq' : 0 < q := by omega
        simp only [hp, hq, hq', decide_true, Bool.true_and, Bool.true_or, Bool.and_true, and_self]
        rw [Bool.eq_iff_iff]; simp; omega
    · exact EV.neg (by simpa using hq) ((EV.now _).eq (by simp [hq]))
  · exact EV.neg (by simpa using hp) ((EV.now _).eq (by simp [hp]))

def crossM (a b c d : Int) : Int := if slopeB a b = true ∧ slopeB c d = true then ((a * d - b * c).natAbs : Int) else -1
theorem slopeB_bd {p q : Int} (h : slopeB p q = true) : -1000 ≤ p ∧ p ≤ 1000 ∧ 0 ≤ q ∧ q ≤ 1000 ∧ Nat.gcd p.natAbs q.natAbs = 1 ∧ (0 < q ∨ p = 1) := by
  unfold slopeB at h
  simp only [Bool.and_eq_true, Bool.or_eq_true, decide_eq_true_eq] at h
  omega
/-- a product of two numbers of bounded size -/
theorem mul_bd {x y : Int} (A B : Nat) (hx : x.natAbs ≤ A) (hy : y.natAbs ≤ B) : (x * y).natAbs ≤ A * B := by
  rw [Int.natAbs_mul]; exact Nat.mul_le_mul hx hy
theorem cross_w {a b c d : Int} (h1 : slopeB a b = true) (h2 : slopeB c d = true) : wrap64 (a * d) = a * d ∧ wrap64 (b * c) = b * c ∧ (a * d - b * c).natAbs ≤ 2000000 := by
  have b1 := slopeB_bd h1
  have b2 := slopeB_bd h2
  have m1 := mul_bd (x := a) (y := d) 1000 1000 (by omega) (by omega)
  have m2 := mul_bd (x := b) (y := c) 1000 1000 (by omega) (by omega)
  refine ⟨w64 (by omega) (by omega), w64 (by omega) (by omega), by omega⟩

def slopeLetter (p : Int) (a n i : Nat) : Int := if i * a % n < n - a then 1 else if p < 0 then -2 else 2
def wordM (p q : Int) : List Int × Bool :=
  if slopeB p q = true ∧ (p.natAbs : Int) + q ≤ 24 then ((List.range (p.natAbs + q.toNat)).map (slopeLetter p p.natAbs (p.natAbs + q.toNat)), true) else ([], false)

theorem spec_SlopeWord_l0 (p q : Int) (a n : Nat) (ha : (p.natAbs : Int) = a) (hq : 0 ≤ q) (hn : (n : Int) = a + q) (hm : n ≤ 24) : ∀ (d i : Nat) (acc : List Int), i + d = n → acc.length = i →
    EV (fun k => spec_SlopeWord.l0 k (a : Int) (n : Int) acc (i : Int) p q) (acc ++ (List.range' i d).map (slopeLetter p a n), true) := by
  intro d
  induction d with
  | zero =>
    intro i acc h1 h2
    refine EV.step (fun k => by rw [spec_SlopeWord.l0]) ?_
    exact EV.neg (by omega) ((EV.now _).eq (by simp))
  | succ d ih =>
    intro i acc h1 h2
    have hb := Nat.mul_le_mul (show i ≤ 24 by omega) (show a ≤ 24 by omega)
    have hc : ((i : Int) * (a : Int)) = ((i * a : Nat) : Int) := by simp
    have hmod : Int.tmod ((i * a : Nat) : Int) (n : Int) = ((i * a % n : Nat) : Int) := rfl
    refine EV.step (fun k => by rw [spec_SlopeWord.l0]) ?_
    rw [w64 (x := (i : Int) * (a : Int)) (by omega) (by omega), hc, hmod, w64 (x := (n : Int) - (a : Int)) (by omega) (by omega), w64 (x := (i : Int) + 1) (by omega) (by omega)]
    refine EV.pos (by omega) (EV.neg (by omega) ?_)
    have next : ∀ x, slopeLetter p a n i = x → EV (fun k => spec_SlopeWord.l0 k (a : Int) (n : Int) (acc ++ [x]) ((i : Int) + 1) p q) (acc ++ (List.range' i (d + 1)).map (slopeLetter p a n), true) := by
      intro x hx
      have := ih (i + 1) (acc ++ [x]) (by omega) (by simp; omega)
      rw [List.range'_succ, List.map_cons, hx]
      simpa using this
    unfold slopeLetter at next
    by_cases h : ((i * a % n : Nat) : Int) < (n : Int) - (a : Int)
    · refine EV.pos h (EV.pos (by omega) (next 1 (by rw [if_pos (by omega)])))
    · refine EV.neg h ?_
      by_cases hp : p < 0
      · refine EV.pos hp (EV.pos (by omega) (next (-2) (by rw [if_neg (by omega), if_pos hp])))
      · refine EV.neg hp (EV.pos (by omega) (next 2 (by rw [if_neg (by omega), if_neg hp])))
theorem spec_SlopeWord_is (p q : Int) : EV (fun k => spec_SlopeWord.f k p q) (wordM p q) := by
  have no : ∀ p q, EV (fun k => spec_SlopeWord.j0 k true p q) ([], false) := fun p q => by
    refine EV.step (fun k => by rw [spec_SlopeWord.j0]) ?_
    exact EV.pos rfl (EV.now _)
  unfold wordM
  refine EV.bind (spec_IsSlope_is p q) ?_
  by_cases hs : slopeB p q = true
  · have b := slopeB_bd hs
    refine EV.pos hs (EV.by (spec_l3Abs_is p (by omega) (by omega)) ?_)
    rw [w64 (x := (p.natAbs : Int) + q) (by omega) (by omega)]
    by_cases hl : (p.natAbs : Int) + q > 24
    · rw [if_neg (by omega), decide_eq_true hl]; exact no p q
    · rw [if_pos ⟨hs, by omega⟩, decide_eq_false hl]
      refine EV.step (fun k => by rw [spec_SlopeWord.j0]) ?_
      refine EV.neg (by simp) (EV.by (spec_l3Abs_is p (by omega) (by omega)) ?_)
      rw [w64 (x := (p.natAbs : Int) + q) (by omega) (by omega)]
      have e : (p.natAbs : Int) + q = ((p.natAbs + q.toNat : Nat) : Int) := by omega
      rw [e]
      have := spec_SlopeWord_l0 p q p.natAbs (p.natAbs + q.toNat) rfl b.2.2.1 (by omega) (by omega) (p.natAbs + q.toNat) 0 [] (by omega) rfl
      simpa [List.range_eq_range'] using this
  · rw [if_neg (fun h => hs h.1)]
    exact EV.neg hs (no p q)

theorem impl_within_is (a b c : Int) : impl_within.f a b c = some (decide (b ≤ a ∧ a ≤ c)) := by
  unfold impl_within.f
  by_cases h : a ≥ b
  · rw [if_pos h]; simp [show b ≤ a from h]
  · rw [if_neg h]; simp; omega

theorem impl_size_is (a : Int) (h : -9223372036854775808 < a) (h' : a ≤ 9223372036854775807) : impl_size.f a = some (a.natAbs : Int) := by
  unfold impl_size.f mx
  rw [w64 (by omega) (by omega)]
  congr 1
  split <;> omega
theorem impl_size_some (a : Int) : ∃ r, impl_size.f a = some r := ⟨_, rfl⟩

theorem impl_gcd_l0 (n : Nat) : ∀ a b : Int, b.natAbs ≤ n → ∃ r, EV (fun k => impl_gcd.l0 k a b) r ∧ (0 ≤ a → 0 ≤ b → r = ((Nat.gcd a.natAbs b.natAbs : Nat) : Int)) := by
  induction n with
  | zero =>
    intro a b hb
    obtain rfl : b = 0 := by omega
    refine ⟨a, EV.step (fun k => by rw [impl_gcd.l0]) ?_, fun h _ => by simp; omega⟩
    exact EV.pos rfl (EV.now _)
  | succ n ih =>
    intro a b hb
    by_cases h : b = 0
    · subst h
      refine ⟨a, EV.step (fun k => by rw [impl_gcd.l0]) ?_, fun h _ => by simp; omega⟩
      exact EV.pos rfl (EV.now _)
    · have hm := tmod_lt a b h
      obtain ⟨r, hr, hv⟩ := ih b (Int.tmod a b) (by omega)
      refine ⟨r, EV.step (fun k => by rw [impl_gcd.l0]) ?_, fun ha hb' => ?_⟩
      · exact EV.neg h hr
      · rw [hv hb' (Int.tmod_nonneg _ ha), gcd_step]
theorem impl_gcd_is (a b : Int) (h1 : a.natAbs ≤ 9223372036854775807) (h2 : b.natAbs ≤ 9223372036854775807) : EV (fun k => impl_gcd.f k a b) ((Nat.gcd a.natAbs b.natAbs : Nat) : Int) := by
  obtain ⟨r, hr, hv⟩ := impl_gcd_l0 (b.natAbs : Int).natAbs (a.natAbs : Int) (b.natAbs : Int) (Nat.le_refl _)
  refine EV.by (impl_size_is a (by omega) (by omega)) (EV.by (impl_size_is b (by omega) (by omega)) (hr.eq ?_))
  rw [hv (by omega) (by omega)]; simp
theorem impl_gcd_some (a b : Int) : ∃ r, EV (fun k => impl_gcd.f k a b) r := by
  obtain ⟨x, hx⟩ := impl_size_some a
  obtain ⟨y, hy⟩ := impl_size_some b
  obtain ⟨r, hr, _⟩ := impl_gcd_l0 y.natAbs x y (Nat.le_refl _)
  exact ⟨r, EV.by hx (EV.by hy hr)⟩

theorem impl_IsSlope_is (p q : Int) : EV (fun k => impl_IsSlope.f k p q) (slopeB p q) := by
  unfold slopeB
  refine EV.by (impl_within_is _ _ _) ?_
  by_cases hp : -1000 ≤ p ∧ p ≤ 1000
  · refine EV.pos (by simpa using hp) (EV.by (impl_within_is _ _ _) ?_)
    by_cases hq : 0 ≤ q ∧ q ≤ 1000
    · refine EV.pos (by simpa using hq) (EV.bind (impl_gcd_is p q (by omega) (by omega)) ?_)
      by_cases hg : Nat.gcd p.natAbs q.natAbs = 1
      · refine EV.pos (by omega) ?_
        by_cases h0 : q > 0
        · exact EV.pos h0 ((EV.now _).eq (by simp [hp, hq, hg]; omega))
        · exact EV.neg h0 ((EV.now _).eq (by simp [hp, hq, hg]; rw [Bool.eq_iff_iff]; simp; omega))
      · exact EV.neg (by omega) ((EV.now _).eq (by simp [hg]))
    · exact EV.neg (by simpa using hq) ((EV.now _).eq (by simp [hq]))
  · exact EV.neg (by simpa using hp) ((EV.now _).eq (by simp [hp]))

theorem impl_SlopeWord_l0 (p q s : Int) (a n : Nat) (hs : s = if p < 0 then -2 else 2) (hq : 0 ≤ q) (hn : (n : Int) = a + q) (hm : n ≤ 24) : ∀ (d i : Nat) (acc : List Int), i + d = n → acc.length = i →
    EV (fun k => impl_SlopeWord.l0 k (a : Int) (n : Int) s acc (n : Int) (i : Int)) (acc ++ (List.range' i d).map (slopeLetter p a n), true) := by
  intro d
  induction d with
  | zero =>
    intro i acc h1 h2
    refine EV.step (fun k => by rw [impl_SlopeWord.l0]) ?_
    exact EV.neg (by omega) ((EV.now _).eq (by simp))
  | succ d ih =>
    intro i acc h1 h2
    have hb := Nat.mul_le_mul (show i ≤ 24 by omega) (show a ≤ 24 by omega)
    have hc : ((i : Int) * (a : Int)) = ((i * a : Nat) : Int) := by simp
    have hmod : Int.tmod ((i * a : Nat) : Int) (n : Int) = ((i * a % n : Nat) : Int) := rfl
    refine EV.step (fun k => by rw [impl_SlopeWord.l0]) ?_
    rw [w64 (x := (i : Int) * (a : Int)) (by omega) (by omega), hc, hmod, w64 (x := (n : Int) - (a : Int)) (by omega) (by omega), w64 (x := (i : Int) + 1) (by omega) (by omega)]
    refine EV.pos (by omega) (EV.neg (by omega) ?_)
    have next : ∀ x, slopeLetter p a n i = x → EV (fun k => impl_SlopeWord.l0 k (a : Int) (n : Int) s (acc ++ [x]) (n : Int) ((i : Int) + 1)) (acc ++ (List.range' i (d + 1)).map (slopeLetter p a n), true) := by
      intro x hx
      have := ih (i + 1) (acc ++ [x]) (by omega) (by simp; omega)
      rw [List.range'_succ, List.map_cons, hx]
      simpa using this
    unfold slopeLetter at next
    by_cases h : ((i * a % n : Nat) : Int) ≥ (n : Int) - (a : Int)
    · refine EV.pos h (EV.pos (by omega) (next s (by rw [if_neg (by omega), hs])))
    · exact EV.neg h (EV.pos (by omega) (next 1 (by rw [if_pos (by omega)])))
theorem impl_SlopeWord_is (p q : Int) : EV (fun k => impl_SlopeWord.f k p q) (wordM p q) := by
  have no : ∀ a p q, EV (fun k => impl_SlopeWord.j0 k a true p q) ([], false) := fun a p q => by
    refine EV.step (fun k => by rw [impl_SlopeWord.j0]) ?_
    exact EV.pos rfl (EV.now _)
  unfold wordM
  obtain ⟨m, hm⟩ := impl_size_some p
  refine EV.by hm (EV.bind (impl_IsSlope_is p q) ?_)
  by_cases hs : slopeB p q = true
  · have b := slopeB_bd hs
    refine EV.pos hs ?_
    obtain rfl : m = (p.natAbs : Int) := Option.some.inj (hm.symm.trans (impl_size_is p (by omega) (by omega)))
    rw [w64 (x := (p.natAbs : Int) + q) (by omega) (by omega)]
    by_cases hl : (p.natAbs : Int) + q > 24
    · rw [if_neg (by omega), decide_eq_true hl]; exact no _ p q
    · rw [if_pos ⟨hs, by omega⟩, decide_eq_false hl]
      refine EV.step (fun k => by rw [impl_SlopeWord.j0]) ?_
      refine EV.neg (by simp) (EV.by rfl ?_)
      rw [w64 (x := (p.natAbs : Int) + q) (by omega) (by omega)]
      have e : (p.natAbs : Int) + q = ((p.natAbs + q.toNat : Nat) : Int) := by omega
      rw [e]
      have go : ∀ s : Int, (s = if p < 0 then -2 else 2) → EV (fun k => impl_SlopeWord.j1 k (p.natAbs : Int) ((p.natAbs + q.toNat : Nat) : Int) s []) ((List.range (p.natAbs + q.toNat)).map (slopeLetter p p.natAbs (p.natAbs + q.toNat)), true) := by
        intro s hs
        refine EV.step (fun k => by rw [impl_SlopeWord.j1]) ?_
        have := impl_SlopeWord_l0 p q s p.natAbs (p.natAbs + q.toNat) hs b.2.2.1 (by omega) (by omega) (p.natAbs + q.toNat) 0 [] (by omega) rfl
        simpa [List.range_eq_range'] using this
      by_cases h : p < 0
      · exact EV.pos h (go (-2) (by rw [if_pos h]))
      · exact EV.neg h (go 2 (by rw [if_neg h]))
  · rw [if_neg (fun h => hs h.1)]
    exact EV.neg hs (no _ p q)

theorem wordM_len (p q : Int) : (wordM p q).1.length ≤ 24 := by
  unfold wordM
  split
  · rename_i h
    have b := slopeB_bd h.1
    simp; omega
  · simp
theorem FnExactSlopeWord (p : Int) (hp : (Lit.int .i64 p).wf = true) (q : Int) (hq : (Lit.int .i64 q).wf = true) : ∃ k, laws_FnExactSlopeWord.f k p q = some true := by
  have hR := wordM_len p q
  have S := spec_SlopeWord_is p q
  have I := impl_SlopeWord_is p q
  refine EV.rounds (EV.by (laws_toSlope_is p q) (EV.bind S (EV.by (laws_toSlope_is p q) (EV.bind I (EV.bind (laws_eqIntS_self _ (by omega)) (EV.pos rfl ?_))))))
  generalize wordM p q = R at *
  have e : (R.2 != R.2) = false := by simp
  rw [e]
  refine EV.step (fun k => by rw [laws_FnExactSlopeWord.j0]) ?_
  refine EV.neg (by simp) (EV.bind (laws_markIntS_is R.1 1 (by omega) (by omega) (by omega)) (EV.bind (laws_heldIntS_is _ 1 (by omega) (by omega) (by omega)) (EV.neg (by omega) (EV.pos rfl ?_))))
  refine EV.by (laws_toSlope_is p q) (EV.bind I (EV.bind (laws_eqIntS_self _ (by omega)) (EV.pos rfl ?_)))
  rw [e]
  refine EV.step (fun k => by rw [laws_FnExactSlopeWord.j1]) ?_
  exact EV.neg (by simp) (EV.bind (laws_heldIntS_is _ 1 (by omega) (by omega) (by omega)) (EV.neg (by omega) (EV.pos rfl (EV.now _))))

end Go.Proofs.Ytdkjppbemhpkmaa.Pure
