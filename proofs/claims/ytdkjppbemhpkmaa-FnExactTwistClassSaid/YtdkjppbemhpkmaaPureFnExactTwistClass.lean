/- Pure side of FnExactTwistClass: the printed functions of the program and of the reference answer alike at every input that the statement takes; no condition beyond the printed statement's bounds. -/
import Derived.Test.YtdkjppbemhpkmaaPFnExactTwistClassx4
import Derived.Test.YtdkjppbemhpkmaaWSized
set_option linter.unusedVariables false
set_option linter.unusedSimpArgs false
set_option maxRecDepth 10000
/-- the printed row calls the print's word by this name -/
abbrev Go.Proofs.Ytdkjppbemhpkmaa.PrintWords.sized_ints := @Go.Proofs.YtdkjppbemhpkmaaW.PrintWords.sized_ints
namespace Go.Proofs.Ytdkjppbemhpkmaa.Pure
open Go.RowKit Go.Proofs.Ytdkjppbemhpkmaa.PFnExactTwistClass Go.Proofs.YtdkjppbemhpkmaaW.PrintWords Go.Proofs.YtdkjppbemhpkmaaW.PrintLast Go.Proofs.YtdkjppbemhpkmaaW.PrintMore

/-! ### Base: words of our own, of no program -/
section
theorem w64 {x : Int} (h1 : -9223372036854775808 ≤ x) (h2 : x ≤ 9223372036854775807) : wrap64 x = x := by
  unfold wrap64; omega
theorem wf64 {x : Int} (h : (Lit.int .i64 x).wf = true) : -9223372036854775808 ≤ x ∧ x ≤ 9223372036854775807 := by
  simp only [Lit.wf, IntKind.min, IntKind.max, IntKind.signed, IntKind.bits, Bool.and_eq_true, decide_eq_true_eq, if_true] at h
  omega
/-- from some number of rounds on it answers r -/
structure EV {α : Type} (g : Nat → Option α) (r : α) : Prop where mk :: (out : ∃ K, ∀ k, K ≤ k → g k = some r)
theorem EV.now {α : Type} (r : α) : EV (fun _ => some r) r := ⟨0, fun _ _ => rfl⟩
theorem EV.rounds {α : Type} {g : Nat → Option α} {r : α} (h : EV g r) : ∃ k, g k = some r := by
  obtain ⟨K, h⟩ := h
  exact ⟨K, h K (Nat.le_refl _)⟩
theorem EV.bind {α β : Type} {g : Nat → Option α} {f : Nat → α → Option β} {a : α} {r : β} (h : EV g a) (k : EV (fun n => f n a) r) : EV (fun n => (g n).bind (f n)) r := by
  obtain ⟨K, h⟩ := h
  obtain ⟨K', k⟩ := k
  refine ⟨max K K', fun n hn => ?_⟩
  have h1 := h n (by omega)
  have h2 := k n (by omega)
  simp only [h1, Option.bind_some]
  exact h2
theorem EV.step {α : Type} {g f : Nat → Option α} {r : α} (h : ∀ k, g (k + 1) = f k) (k : EV f r) : EV g r := by
  obtain ⟨K, k⟩ := k
  refine ⟨K + 1, fun n hn => ?_⟩
  obtain ⟨m, rfl⟩ : ∃ m, n = m + 1 := ⟨n - 1, by omega⟩
  rw [h]
  exact k m (by omega)
theorem EV.congr {α : Type} {g f : Nat → Option α} {r : α} (h : ∀ k, g k = f k) (k : EV f r) : EV g r := by
  obtain ⟨K, k⟩ := k
  exact ⟨K, fun n hn => (h n).trans (k n hn)⟩
theorem EV.pos {α : Type} {c : Prop} [Decidable c] {a b : Nat → Option α} {r : α} (h : c) (k : EV a r) : EV (fun n => if c then a n else b n) r :=
  EV.congr (fun n => if_pos h) k
theorem EV.neg {α : Type} {c : Prop} [Decidable c] {a b : Nat → Option α} {r : α} (h : ¬ c) (k : EV b r) : EV (fun n => if c then a n else b n) r :=
  EV.congr (fun n => if_neg h) k
theorem EV.cases {α : Type} {c : Prop} [Decidable c] {a b : Nat → Option α} {r : α} (h : c → EV a r) (h' : ¬ c → EV b r) : EV (fun n => if c then a n else b n) r := by
  by_cases hc : c
  · exact EV.pos hc (h hc)
  · exact EV.neg hc (h' hc)
/-- a callee without rounds -/
theorem EV.by {α β : Type} {g : Option α} {f : Nat → α → Option β} {a : α} {r : β} (h : g = some a) (k : EV (fun n => f n a) r) : EV (fun n => g.bind (f n)) r := by
  subst h; exact k
theorem EV.is {α : Type} {g : Option α} {r : α} (h : g = some r) : EV (fun _ => g) r := ⟨0, fun _ _ => h⟩
theorem EV.eq {α : Type} {g : Nat → Option α} {r r' : α} (h : EV g r) (e : r = r') : EV g r' := e ▸ h
theorem rd_app (pre : List Int) (x : Int) (suf : List Int) : rd (pre ++ x :: suf) (pre.length : Int) = x := by
  simp [rd]
theorem rd_nat (xs : List Int) (i : Nat) (h : i < xs.length) : rd xs (i : Int) = xs[i] := by
  simp [rd, h]
theorem set_app {α : Type} (pre : List α) (x y : α) (suf : List α) (n : Nat) (hn : n = pre.length) : (pre ++ x :: suf).set n y = pre ++ y :: suf := by
  subst hn; simp
end
def smallB (x : Int) : Bool := decide (-1000 ≤ x ∧ x ≤ 1000)
/-- one index on -/
theorem up {α : Type} {x : α} {pre : List α} (h : pre.length < 4611686018427387904) : wrap64 ((pre.length : Int) + 1) = ((pre ++ [x]).length : Int) := by
  rw [w64 (by omega) (by omega)]; simp
theorem lt_app {α : Type} (pre : List α) (x : α) (suf : List α) : (pre.length : Int) < ((pre ++ x :: suf).length : Int) := by simp; omega
def classB (g : Int) (xs : List Int) : Bool := decide (1 ≤ g ∧ g ≤ 3) && (decide ((xs.length : Int) = 2 * g) && xs.all smallB)
theorem EV.uniq {α : Type} {g : Nat → Option α} {r r' : α} (h : EV g r) (h' : EV g r') : r = r' := by
  obtain ⟨K, h⟩ := h
  obtain ⟨K', h'⟩ := h'
  have a := h (max K K') (by omega)
  have b := h' (max K K') (by omega)
  rw [a] at b; exact Option.some.inj b
/-- from some number of rounds on -/
def Evt (P : Nat → Prop) : Prop := ∃ K, ∀ k, K ≤ k → P k
theorem Evt.and {P Q : Nat → Prop} (h : Evt P) (h' : Evt Q) : Evt (fun k => P k ∧ Q k) := by
  obtain ⟨K, h⟩ := h
  obtain ⟨K', h'⟩ := h'
  exact ⟨max K K', fun k hk => ⟨h k (by omega), h' k (by omega)⟩⟩
theorem Evt.const {p : Prop} (h : p) : Evt (fun _ => p) := ⟨0, fun _ _ => h⟩
theorem EV.evt {α : Type} {g : Nat → Option α} {r : α} (h : EV g r) : Evt (fun k => g k = some r) := h.out
theorem Evt.imp {P Q : Nat → Prop} (h : Evt P) (f : ∀ k, P k → Q k) : Evt Q := by
  obtain ⟨K, h⟩ := h
  exact ⟨K, fun k hk => f k (h k hk)⟩
theorem Evt.rounds {P : Nat → Prop} (h : Evt P) : ∃ k, P k := by
  obtain ⟨K, h⟩ := h
  exact ⟨K, h K (Nat.le_refl _)⟩
theorem EV.mono {α : Type} {g : Nat → Option α} (hg : ∀ k, LeO (g k) (g (k + 1))) {k : Nat} {r : α} (h : g k = some r) : EV g r := ⟨k, fun _ hk => at_rounds hg hk h⟩

theorem laws_toIntS_l0 (xs : List Int) (hn : xs.length < 4611686018427387904) : ∀ suf pre, xs = pre ++ suf → EV (fun k => laws_toIntS.l0 k xs (pre ++ List.replicate suf.length 0) (pre.length : Int)) xs := by
  intro suf
  induction suf with
  | nil =>
    intro pre h
    refine EV.step (fun k => by rw [laws_toIntS.l0]) ?_
    refine (EV.neg ?_ ((EV.now _).eq ?_))
    · subst h; simp
    · subst h; simp
  | cons x suf ih =>
    intro pre h
    have hl : pre.length < 4611686018427387904 := by subst h; simp at hn; omega
    have hlt : (pre.length : Int) < (xs.length : Int) := by subst h; exact lt_app ..
    have hx : rd xs (pre.length : Int) = x := by subst h; exact rd_app ..
    refine EV.step (fun k => by rw [laws_toIntS.l0]) ?_
    refine (EV.pos hlt (EV.pos (by omega) (EV.pos (by simp; omega) ?_)))
    rw [hx, up (x := x) hl, List.length_cons, List.replicate_succ, set_app _ _ _ _ _ (by simp)]
    have := ih (pre ++ [x]) (by simp [h])
    simpa using this
theorem laws_toIntS_is (xs : List Int) (hn : xs.length ≤ 1048576) : EV (fun k => laws_toIntS.f k xs) xs := by
  refine EV.pos (by omega) (EV.pos (by omega) ?_)
  exact laws_toIntS_l0 xs (by omega) xs [] rfl

theorem laws_eqIntS_l0 (xs ys : List Int) (hn : xs.length < 4611686018427387904) : ∀ (suf suf' pre : List Int), pre.length + suf.length = xs.length → pre.length + suf'.length = ys.length → suf.length = suf'.length → xs.drop pre.length = suf → ys.drop pre.length = suf' →
    EV (fun k => laws_eqIntS.l0 k xs ys (pre.length : Int)) (decide (suf = suf')) := by
  intro suf
  induction suf with
  | nil =>
    intro suf' pre h1 h2 h3 h4 h5
    have : suf' = [] := List.eq_nil_of_length_eq_zero (by simpa using h3.symm)
    subst this
    refine EV.step (fun k => by rw [laws_eqIntS.l0]) ?_
    refine (EV.neg ?_ ((EV.now _).eq (by simp)))
    simp at h1; omega
  | cons x suf ih =>
    intro suf' pre h1 h2 h3 h4 h5
    obtain ⟨y, suf', rfl⟩ : ∃ y t, suf' = y :: t := by
      cases suf' with
      | nil => simp at h3
      | cons y t => exact ⟨y, t, rfl⟩
    simp only [List.length_cons] at h1 h2 h3
    have hl : pre.length < 4611686018427387904 := by omega
    have hx : rd xs (pre.length : Int) = x := by
      rw [rd_nat _ _ (by omega)]
      have := List.getElem_drop (xs := xs) (i := pre.length) (j := 0) (h := by simp; omega)
      simp only [h4] at this; simpa using this.symm
    have hy : rd ys (pre.length : Int) = y := by
      rw [rd_nat _ _ (by omega)]
      have := List.getElem_drop (xs := ys) (i := pre.length) (j := 0) (h := by simp; omega)
      simp only [h5] at this; simpa using this.symm
    refine EV.step (fun k => by rw [laws_eqIntS.l0]) ?_
    refine (EV.pos (by omega) (EV.pos (by omega) (EV.pos (by omega) ?_)))
    rw [hx, hy, up (x := x) hl]
    by_cases hs : x = y
    · refine EV.pos hs ((ih suf' _ (by simp; omega) (by simp; omega) (by omega) ?_ ?_).eq (by simp [hs]))
      · rw [List.length_append, ← List.drop_drop, h4]; rfl
      · rw [List.length_append, ← List.drop_drop, h5]; rfl
    · exact (EV.neg hs (EV.now _)).eq (by simp [hs])
theorem laws_eqIntS_is (xs ys : List Int) (hn : xs.length < 4611686018427387904) : EV (fun k => laws_eqIntS.f k xs ys) (decide (xs = ys)) := by
  by_cases h : xs.length = ys.length
  · exact EV.pos (by omega) (laws_eqIntS_l0 xs ys hn xs ys [] (by simp) (by simp) h rfl rfl)
  · exact (EV.neg (by omega) (EV.now _)).eq (by simp; intro e; exact h (by rw [e]))
theorem laws_eqIntS_self (xs : List Int) (hn : xs.length < 4611686018427387904) : EV (fun k => laws_eqIntS.f k xs xs) true := (laws_eqIntS_is xs xs hn).eq (by simp)

def marks : Nat → Int → List Int
  | 0, _ => []
  | n + 1, k => k :: marks n (k + 1)
theorem marks_length (n : Nat) : ∀ k, (marks n k).length = n := by
  induction n with
  | zero => intro k; rfl
  | succ n ih => intro k; simp [marks, ih]

theorem laws_markIntS_l0 : ∀ (suf pre : List Int) (k : Int), pre.length + suf.length < 4611686018427387904 → 0 ≤ k → k + suf.length < 4611686018427387904 →
    EV (fun r => laws_markIntS.l0 r (pre ++ suf) k (pre.length : Int)) (k + suf.length, pre ++ marks suf.length k) := by
  intro suf
  induction suf with
  | nil =>
    intro pre k h1 h2 h3
    refine EV.step (fun r => by rw [laws_markIntS.l0]) ?_
    exact EV.neg (by simp) ((EV.now _).eq (by simp [marks]))
  | cons x suf ih =>
    intro pre k h1 h2 h3
    simp only [List.length_cons] at h1 h3
    refine EV.step (fun r => by rw [laws_markIntS.l0]) ?_
    refine EV.pos (lt_app ..) (EV.pos (by omega) ?_)
    rw [set_app _ _ _ _ _ (by simp), up (x := k) (by omega), w64 (by omega) (by omega)]
    have := ih (pre ++ [k]) (k + 1) (by simp; omega) (by omega) (by omega)
    simp only [List.append_assoc, List.cons_append, List.nil_append] at this
    refine this.eq ?_
    simp [marks]; omega
theorem laws_markIntS_is (xs : List Int) (k : Int) (h1 : xs.length < 2305843009213693952) (h2 : 0 ≤ k) (h3 : k < 2305843009213693952) : EV (fun r => laws_markIntS.f r xs k) (k + xs.length, marks xs.length k) :=
  laws_markIntS_l0 xs [] k (by simp; omega) h2 (by omega)

theorem laws_heldIntS_l0 : ∀ (n : Nat) (pre : List Int) (k : Int), pre.length + n < 4611686018427387904 → 0 ≤ k → k + n < 4611686018427387904 →
    EV (fun r => laws_heldIntS.l0 r (pre ++ marks n k) k (pre.length : Int)) (k + n) := by
  intro n
  induction n with
  | zero =>
    intro pre k h1 h2 h3
    refine EV.step (fun r => by rw [laws_heldIntS.l0]) ?_
    exact EV.neg (by simp [marks]) ((EV.now _).eq (by simp))
  | succ n ih =>
    intro pre k h1 h2 h3
    refine EV.step (fun r => by rw [laws_heldIntS.l0]) ?_
    rw [marks]
    refine EV.pos (lt_app ..) (EV.pos (by omega) (EV.pos (rd_app ..) ?_))
    rw [up (x := k) (by omega), w64 (by omega) (by omega)]
    have := ih (pre ++ [k]) (k + 1) (by simp; omega) (by omega) (by omega)
    simp only [List.append_assoc, List.cons_append, List.nil_append] at this
    refine this.eq (by omega)
theorem laws_heldIntS_is (n : Nat) (k : Int) (h1 : n < 2305843009213693952) (h2 : 0 ≤ k) (h3 : k < 2305843009213693952) : EV (fun r => laws_heldIntS.f r (marks n k) k) (k + n) :=
  laws_heldIntS_l0 n [] k (by simp; omega) h2 (by omega)

theorem spec_l1In_is (a b c : Int) : spec_l1In.f a b c = some (decide (b ≤ a ∧ a ≤ c)) := by
  unfold spec_l1In.f
  by_cases h : a ≥ b
  · rw [if_pos h]; simp [show b ≤ a from h]
  · rw [if_neg h]; simp; omega

theorem spec_l11Fits_l0 (xs : List Int) (hn : xs.length < 4611686018427387904) : ∀ suf pre, xs = pre ++ suf → EV (fun k => spec_l11Fits.l0 k xs (pre.length : Int)) (suf.all smallB) := by
  intro suf
  induction suf with
  | nil =>
    intro pre h
    refine EV.step (fun k => by rw [spec_l11Fits.l0]) ?_
    exact EV.neg (by subst h; simp) (EV.now _)
  | cons x suf ih =>
    intro pre h
    have hl : pre.length < 4611686018427387904 := by subst h; simp at hn; omega
    have hlt : (pre.length : Int) < (xs.length : Int) := by subst h; exact lt_app ..
    have hx : rd xs (pre.length : Int) = x := by subst h; exact rd_app ..
    refine EV.step (fun k => by rw [spec_l11Fits.l0]) ?_
    refine EV.pos hlt (EV.pos (by omega) (EV.by (spec_l1In_is _ _ _) ?_))
    rw [hx, up (x := x) hl]
    by_cases hs : smallB x = true
    · exact EV.pos hs ((ih (pre ++ [x]) (by simp [h])).eq (by simp [hs]))
    · exact EV.neg hs ((EV.now _).eq (by simp [hs]))
theorem spec_l11Fits_is (xs : List Int) (hn : xs.length < 4611686018427387904) : EV (fun k => spec_l11Fits.f k xs) (xs.all smallB) := spec_l11Fits_l0 xs hn xs [] rfl

theorem spec_IsClass_is (g : Int) (xs : List Int) (hn : xs.length < 4611686018427387904) : EV (fun k => spec_IsClass.f k g xs) (classB g xs) := by
  unfold classB
  refine EV.by (spec_l1In_is _ _ _) ?_
  by_cases hg : 1 ≤ g ∧ g ≤ 3
  · refine EV.pos (by simpa using hg) ?_
    rw [w64 (by omega) (by omega)]
    by_cases hl : (xs.length : Int) = 2 * g
    · exact EV.pos hl (EV.bind (spec_l11Fits_is xs hn) ((EV.now _).eq (by simp [hg, hl])))
    · exact EV.neg hl ((EV.now _).eq (by simp [hl]))
  · exact EV.neg (by simpa using hg) ((EV.now _).eq (by simp [hg]))

theorem gcd_step (a b : Int) : Nat.gcd b.natAbs (Int.tmod a b).natAbs = Nat.gcd a.natAbs b.natAbs := by
  rw [Int.natAbs_tmod, Nat.gcd_comm b.natAbs, ← Nat.gcd_rec, Nat.gcd_comm]
theorem tmod_lt (a b : Int) (h : b ≠ 0) : (Int.tmod a b).natAbs < b.natAbs := by
  rw [Int.natAbs_tmod]; exact Nat.mod_lt _ (by omega)
def slopeB (p q : Int) : Bool := decide (-1000 ≤ p ∧ p ≤ 1000) && (decide (0 ≤ q ∧ q ≤ 1000) && (decide (Nat.gcd p.natAbs q.natAbs = 1) && (decide (0 < q) || decide (p = 1))))
/-- p, q by their greatest common divisor, the sign so that q is above 0, or p -/
def lowM (p q : Int) : Int × Int :=
  let d : Int := (Nat.gcd p.natAbs q.natAbs : Nat)
  if q < 0 ∨ (q = 0 ∧ p < 0) then (-(p.tdiv d), -(q.tdiv d)) else (p.tdiv d, q.tdiv d)
def slopeOfM (p q : Int) : Int × Int × Bool :=
  if -1000 ≤ p ∧ p ≤ 1000 then (if -1000 ≤ q ∧ q ≤ 1000 then (if p = 0 ∧ q = 0 then (0, 0, false) else ((lowM p q).1, (lowM p q).2, true)) else (0, 0, false)) else (0, 0, false)
theorem low_of (p q : Int) (hp : -1000 ≤ p ∧ p ≤ 1000) (hq : -1000 ≤ q ∧ q ≤ 1000) (hz : ¬ (p = 0 ∧ q = 0)) :
    ∃ d a b : Int, ((Nat.gcd p.natAbs q.natAbs : Nat) : Int) = d ∧ 0 < d ∧ d ≤ 1000 ∧ p.tdiv d = a ∧ q.tdiv d = b ∧ p = d * a ∧ q = d * b ∧ -1000 ≤ a ∧ a ≤ 1000 ∧ -1000 ≤ b ∧ b ≤ 1000 ∧ (q < 0 ↔ b < 0) ∧ (q = 0 ↔ b = 0) ∧ (p < 0 ↔ a < 0) := by
  have hg : 0 < Nat.gcd p.natAbs q.natAbs := by
    rcases Nat.eq_zero_or_pos (Nat.gcd p.natAbs q.natAbs) with h | h
    · have := Nat.gcd_eq_zero_iff.1 h; omega
    · exact h
  have h1 : Nat.gcd p.natAbs q.natAbs ≤ 1000 := by
    by_cases h : p = 0
    · have := Nat.gcd_le_right p.natAbs (n := q.natAbs) (by omega); omega
    · have := Nat.gcd_le_left q.natAbs (m := p.natAbs) (by omega); omega
  obtain ⟨a, ha⟩ : ∃ a, p = ((Nat.gcd p.natAbs q.natAbs : Nat) : Int) * a := Int.ofNat_dvd_left.2 (Nat.gcd_dvd_left ..)
  obtain ⟨b, hb⟩ : ∃ b, q = ((Nat.gcd p.natAbs q.natAbs : Nat) : Int) * b := Int.ofNat_dvd_left.2 (Nat.gcd_dvd_right ..)
  generalize hd : ((Nat.gcd p.natAbs q.natAbs : Nat) : Int) = d at *
  have hdp : 0 < d := by omega
  have e1 : p.tdiv d = a := by rw [ha]; exact Int.mul_tdiv_cancel_left _ (by omega)
  have e2 : q.tdiv d = b := by rw [hb]; exact Int.mul_tdiv_cancel_left _ (by omega)
  have bnd : ∀ x y : Int, x = d * y → -1000 ≤ x → x ≤ 1000 → -1000 ≤ y ∧ y ≤ 1000 ∧ (x < 0 ↔ y < 0) ∧ (x = 0 ↔ y = 0) := by
    intro x y h h1 h2
    have k1 : 0 < y → y ≤ d * y := fun hy => by have := Int.mul_le_mul_of_nonneg_right (show 1 ≤ d by omega) (show 0 ≤ y by omega); omega
    have k2 : y < 0 → d * y ≤ y := fun hy => by have := Int.mul_le_mul_of_nonpos_right (show 1 ≤ d by omega) (show y ≤ 0 by omega); omega
    have k3 : y = 0 → d * y = 0 := fun hy => by rw [hy]; simp
    rw [← h] at k1 k2 k3
    rcases Int.lt_trichotomy y 0 with hy | hy | hy
    · have := k2 hy; omega
    · have := k3 hy; omega
    · have := k1 hy; omega
  have B1 := bnd p a ha hp.1 hp.2
  have B2 := bnd q b hb hq.1 hq.2
  exact ⟨d, a, b, rfl, hdp, by omega, e1, e2, ha, hb, by omega, by omega, by omega, by omega, B2.2.2.1, B2.2.2.2, B1.2.2.1⟩

def crossM (a b c d : Int) : Int := if slopeB a b = true ∧ slopeB c d = true then ((a * d - b * c).natAbs : Int) else -1
theorem slopeB_bd {p q : Int} (h : slopeB p q = true) : -1000 ≤ p ∧ p ≤ 1000 ∧ 0 ≤ q ∧ q ≤ 1000 ∧ Nat.gcd p.natAbs q.natAbs = 1 ∧ (0 < q ∨ p = 1) := by
  unfold slopeB at h
  simp only [Bool.and_eq_true, Bool.or_eq_true, decide_eq_true_eq] at h
  omega
/-- a product of two numbers of bounded size -/
theorem mul_bd {x y : Int} (A B : Nat) (hx : x.natAbs ≤ A) (hy : y.natAbs ≤ B) : (x * y).natAbs ≤ A * B := by
  rw [Int.natAbs_mul]; exact Nat.mul_le_mul hx hy
theorem cross_w {a b c d : Int} (h1 : slopeB a b = true) (h2 : slopeB c d = true) : wrap64 (a * d) = a * d ∧ wrap64 (b * c) = b * c ∧ (a * d - b * c).natAbs ≤ 2000000 := by
  have b1 := slopeB_bd h1
  have b2 := slopeB_bd h2
  have m1 := mul_bd (x := a) (y := d) 1000 1000 (by omega) (by omega)
  have m2 := mul_bd (x := b) (y := c) 1000 1000 (by omega) (by omega)
  refine ⟨w64 (by omega) (by omega), w64 (by omega) (by omega), by omega⟩

def formM : List Int → List Int → Int
  | a :: b :: xs, c :: d :: ys => (a * d - b * c) + formM xs ys
  | _, _ => 0
theorem smallB_bd {x : Int} (h : smallB x = true) : -1000 ≤ x ∧ x ≤ 1000 := by simpa [smallB] using h
theorem form_term {a b c d : Int} (ha : smallB a = true) (hb : smallB b = true) (hc : smallB c = true) (hd : smallB d = true) : (a * d).natAbs ≤ 1000000 ∧ (b * c).natAbs ≤ 1000000 := by
  have := smallB_bd ha; have := smallB_bd hb; have := smallB_bd hc; have := smallB_bd hd
  exact ⟨mul_bd 1000 1000 (by omega) (by omega), mul_bd 1000 1000 (by omega) (by omega)⟩
theorem formM_bd : ∀ (n : Nat) (xs ys : List Int), xs.length ≤ n → xs.all smallB = true → ys.all smallB = true → (formM xs ys).natAbs ≤ 1000000 * xs.length
  | 0, xs, ys, hn, _, _ => by
    have : xs = [] := List.eq_nil_of_length_eq_zero (by omega)
    subst this; simp [formM]
  | n + 1, xs, ys, hn, hx, hy => by
    match xs, ys with
    | a :: b :: xs, c :: d :: ys =>
      simp only [List.all_cons, Bool.and_eq_true, List.length_cons] at hx hy hn
      have t := form_term hx.1 hx.2.1 hy.1 hy.2.1
      have r := formM_bd n xs ys (by omega) hx.2.2 hy.2.2
      simp only [formM, List.length_cons]; omega
    | [], _ => simp [formM]
    | [_], _ => simp [formM]
    | _ :: _ :: _, [] => simp [formM]
    | _ :: _ :: _, [_] => simp [formM]
theorem rd_app1 (pre : List Int) (x y : Int) (suf : List Int) (i : Int) (h : i = pre.length + 1) : rd (pre ++ x :: y :: suf) i = y := by
  subst h
  have := rd_app (pre ++ [x]) y suf
  simpa using this

theorem spec_l11Form_l0 : ∀ (n : Nat) (sx sy px py : List Int) (acc : Int), sx.length ≤ n → px.length = py.length → sx.length = sy.length → sx.all smallB = true → sy.all smallB = true → px.length + sx.length < 1000000 →
    acc.natAbs + 1000000 * sx.length ≤ 1000000000000000 → EV (fun k => spec_l11Form.l0 k (px ++ sx) (py ++ sy) acc (px.length : Int)) (acc + formM sx sy) := by
  intro n
  induction n with
  | zero =>
    intro sx sy px py acc hn hp hs _ _ hl _
    have e : sx = [] := List.eq_nil_of_length_eq_zero (by omega)
    subst e
    refine EV.step (fun k => by rw [spec_l11Form.l0]) ?_
    rw [w64 (by omega) (by omega)]
    exact EV.neg (by simp; omega) ((EV.now _).eq (by simp [formM]))
  | succ n ih =>
    intro sx sy px py acc hn hp hs h1 h2 hl ha
    match sx, sy with
    | [], _ =>
      refine EV.step (fun k => by rw [spec_l11Form.l0]) ?_
      rw [w64 (by omega) (by omega)]
      exact EV.neg (by simp; omega) ((EV.now _).eq (by simp [formM]))
    | [_], _ =>
      refine EV.step (fun k => by rw [spec_l11Form.l0]) ?_
      rw [w64 (by omega) (by omega)]
      exact EV.neg (by simp) ((EV.now _).eq (by simp [formM]))
    | _ :: _ :: _, [] => simp at hs
    | _ :: _ :: _, [_] => simp at hs
    | a :: b :: xs, c :: d :: ys =>
      simp only [List.all_cons, Bool.and_eq_true, List.length_cons] at h1 h2 hn hs hl ha
      have t := form_term h1.1 h1.2.1 h2.1 h2.2.1
      refine EV.step (fun k => by rw [spec_l11Form.l0]) ?_
      rw [w64 (x := (px.length : Int) + 1) (by omega) (by omega), w64 (x := (px.length : Int) + 2) (by omega) (by omega)]
      refine EV.pos (by simp; omega) (EV.pos (by omega) (EV.pos (by simp; omega) (EV.pos (by omega) (EV.pos (by simp; omega) (EV.pos (by simp; omega) ?_)))))
      have e3 : rd (py ++ c :: d :: ys) (px.length : Int) = c := by rw [hp]; exact rd_app ..
      rw [rd_app, e3, rd_app1 px a b xs _ rfl, rd_app1 py c d ys _ (by rw [hp])]
      rw [w64 (x := a * d) (by omega) (by omega), w64 (x := b * c) (by omega) (by omega)]
      rw [w64 (x := acc + a * d) (by omega) (by omega), w64 (by omega) (by omega)]
      have := ih xs ys (px ++ [a, b]) (py ++ [c, d]) (acc + (a * d - b * c)) (by omega) (by simp; omega) (by omega) h1.2.2 h2.2.2 (by simp; omega) (by omega)
      simp only [List.append_assoc, List.cons_append, List.nil_append, List.length_append, List.length_cons, List.length_nil] at this
      have e : acc + a * d - b * c = acc + (a * d - b * c) := by omega
      rw [e]
      refine EV.congr (fun k => ?_) (this.eq (by simp only [formM]; omega))
      congr 1
theorem spec_l11Form_is (xs ys : List Int) (hs : xs.length = ys.length) (h1 : xs.all smallB = true) (h2 : ys.all smallB = true) (hl : xs.length ≤ 1000) : EV (fun k => spec_l11Form.f k xs ys) (formM xs ys) :=
  (spec_l11Form_l0 xs.length xs ys [] [] 0 (Nat.le_refl _) rfl hs h1 h2 (by simp; omega) (by simp; omega)).eq (by simp)

def formOfM (g : Int) (xs ys : List Int) : Int := if classB g xs = true ∧ classB g ys = true then formM xs ys else 0
theorem class_of {g : Int} {xs : List Int} (h : classB g xs = true) : (1 ≤ g ∧ g ≤ 3) ∧ (xs.length : Int) = 2 * g ∧ xs.all smallB = true := by
  simpa [classB, and_assoc] using h

def twistL (n : Int) (x c : List Int) : List Int := List.zipWith (fun a b => a + n * b) x c
def twistM (g : Int) (c x : List Int) (k : Int) : List Int × Bool :=
  if classB g c = true ∧ classB g x = true ∧ -20 ≤ k ∧ k ≤ 20 then
    (if (twistL (k * formM c x) x c).all smallB = true then (twistL (k * formM c x) x c, true) else ([], false))
  else ([], false)
theorem form_class {g : Int} {c x : List Int} (hc : classB g c = true) (hx : classB g x = true) : (formM c x).natAbs ≤ 6000000 := by
  obtain ⟨_, c2, c3⟩ := class_of hc
  obtain ⟨_, x2, x3⟩ := class_of hx
  have := formM_bd c.length c x (Nat.le_refl _) c3 x3
  omega
theorem twist_term {n a b : Int} (hn : n.natAbs ≤ 120000000) (ha : smallB a = true) (hb : smallB b = true) : wrap64 (n * b) = n * b ∧ wrap64 (a + n * b) = a + n * b := by
  have h1 := smallB_bd ha
  have h2 := smallB_bd hb
  have := mul_bd (x := n) (y := b) 120000000 1000 hn (by omega)
  exact ⟨w64 (by omega) (by omega), w64 (by omega) (by omega)⟩

theorem spec_TwistClass_l0 (x c : List Int) (n : Int) (hl : x.length ≤ 1000) (hlc : c.length = x.length) (hn : n.natAbs ≤ 120000000) (hx : x.all smallB = true) (hc : c.all smallB = true) :
    ∀ (sx sc px pc acc : List Int), x = px ++ sx → c = pc ++ sc → px.length = pc.length → acc.length = px.length → (acc ++ twistL n sx sc).length ≤ 1000 →
    EV (fun k => spec_TwistClass.l0 k c x n acc (px.length : Int)) (if (acc ++ twistL n sx sc).all smallB = true then (acc ++ twistL n sx sc, true) else ([], false)) := by
  intro sx
  induction sx with
  | nil =>
    intro sc px pc acc h1 h2 h3 h4 h5
    have e : twistL n [] sc = [] := rfl
    rw [e, List.append_nil] at h5 ⊢
    refine EV.step (fun k => by rw [spec_TwistClass.l0]) ?_
    refine EV.neg (by subst h1; simp) (EV.bind (spec_l11Fits_is acc (by omega)) ?_)
    by_cases hs : acc.all smallB = true
    · exact EV.pos hs ((EV.now _).eq (by rw [if_pos hs]))
    · exact EV.neg hs ((EV.now _).eq (by rw [if_neg hs]))
  | cons a sx ih =>
    intro sc px pc acc h1 h2 h3 h4 h5
    obtain ⟨b, sc, rfl⟩ : ∃ b t, sc = b :: t := by
      cases sc with
      | nil => exfalso; subst h1; subst h2; simp at hlc; omega
      | cons b t => exact ⟨b, t, rfl⟩
    have e : twistL n (a :: sx) (b :: sc) = (a + n * b) :: twistL n sx sc := rfl
    have ha : smallB a = true := by subst h1; simp at hx; exact hx.2.1
    have hb : smallB b = true := by subst h2; simp at hc; exact hc.2.1
    have hp : px.length < 4611686018427387904 := by subst h1; simp at hl; omega
    have r1 : rd x (px.length : Int) = a := by subst h1; exact rd_app ..
    have r2 : rd c (px.length : Int) = b := by subst h2; rw [h3]; exact rd_app ..
    have l1 : (px.length : Int) < (x.length : Int) := by subst h1; exact lt_app ..
    refine EV.step (fun k => by rw [spec_TwistClass.l0]) ?_
    rw [r1, r2, (twist_term hn ha hb).1, (twist_term hn ha hb).2, up (x := a) hp]
    refine EV.pos l1 (EV.pos (by omega) (EV.pos (by omega) (EV.pos (by omega) ?_)))
    rw [e] at h5 ⊢
    have := ih sc (px ++ [a]) (pc ++ [b]) (acc ++ [a + n * b]) (by simp [h1]) (by simp [h2]) (by simp [h3]) (by simp [h4]) (by simpa using h5)
    simpa using this
theorem spec_TwistClass_is (g : Int) (c x : List Int) (t : Int) (h1 : c.length ≤ 1048576) (h2 : x.length ≤ 1048576) : EV (fun k => spec_TwistClass.f k g c x t) (twistM g c x t) := by
  have no : EV (fun k => spec_TwistClass.j0 k c x t true) ([], false) := by
    refine EV.step (fun k => by rw [spec_TwistClass.j0]) ?_
    exact EV.pos rfl (EV.now _)
  unfold twistM
  refine EV.bind (spec_IsClass_is g c (by omega)) ?_
  by_cases hc : classB g c = true
  · refine EV.pos hc (EV.bind (spec_IsClass_is g x (by omega)) ?_)
    by_cases hx : classB g x = true
    · refine EV.pos hx (EV.by (spec_l1In_is _ _ _) ?_)
      by_cases ht : -20 ≤ t ∧ t ≤ 20
      · rw [if_pos ⟨hc, hx, ht⟩]
        obtain ⟨_, c2, c3⟩ := class_of hc
        obtain ⟨_, x2, x3⟩ := class_of hx
        have hf := form_class hc hx
        have hn := mul_bd (x := t) (y := formM c x) 20 6000000 (by omega) hf
        have e : (!decide (-20 ≤ t ∧ t ≤ 20)) = false := by simp [ht]
        rw [e]
        refine EV.step (fun k => by rw [spec_TwistClass.j0]) ?_
        refine EV.neg (by simp) (EV.bind (spec_l11Form_is c x (by omega) c3 x3 (by omega)) ?_)
        rw [w64 (x := t * formM c x) (by omega) (by omega)]
        exact spec_TwistClass_l0 x c (t * formM c x) (by omega) (by omega) (by omega) x3 c3 x c [] [] [] rfl rfl rfl rfl (by simp [twistL]; omega)
      · rw [if_neg (fun h => ht h.2.2)]
        have e : (!decide (-20 ≤ t ∧ t ≤ 20)) = true := by simp [ht]
        rw [e]; exact no
    · rw [if_neg (fun h => hx h.2.1)]
      exact EV.neg hx no
  · rw [if_neg (fun h => hc h.1)]
    exact EV.neg hc no

theorem impl_within_is (a b c : Int) : impl_within.f a b c = some (decide (b ≤ a ∧ a ≤ c)) := by
  unfold impl_within.f
  by_cases h : a ≥ b
  · rw [if_pos h]; simp [show b ≤ a from h]
  · rw [if_neg h]; simp; omega

theorem impl_areSmall_l0 (xs : List Int) (hn : xs.length < 4611686018427387904) : ∀ suf pre, xs = pre ++ suf → EV (fun k => impl_areSmall.l0 k xs (xs.length : Int) (pre.length : Int)) (suf.all smallB) := by
  intro suf
  induction suf with
  | nil =>
    intro pre h
    refine EV.step (fun k => by rw [impl_areSmall.l0]) ?_
    exact EV.neg (by subst h; simp) (EV.now _)
  | cons x suf ih =>
    intro pre h
    have hl : pre.length < 4611686018427387904 := by subst h; simp at hn; omega
    have hlt : (pre.length : Int) < (xs.length : Int) := by subst h; exact lt_app ..
    have hx : rd xs (pre.length : Int) = x := by subst h; exact rd_app ..
    refine EV.step (fun k => by rw [impl_areSmall.l0]) ?_
    refine EV.pos hlt (EV.pos (by omega) (EV.pos hlt (EV.by (impl_within_is _ _ _) ?_)))
    rw [hx, up (x := x) hl]
    by_cases hs : smallB x = true
    · exact EV.pos hs ((ih (pre ++ [x]) (by simp [h])).eq (by simp [hs]))
    · exact EV.neg hs ((EV.now _).eq (by simp [hs]))
theorem impl_areSmall_is (xs : List Int) (hn : xs.length < 4611686018427387904) : EV (fun k => impl_areSmall.f k xs) (xs.all smallB) := impl_areSmall_l0 xs hn xs [] rfl

theorem impl_IsClass_is (g : Int) (xs : List Int) (hn : xs.length < 4611686018427387904) : EV (fun k => impl_IsClass.f k g xs) (classB g xs) := by
  unfold classB
  refine EV.by (impl_within_is _ _ _) ?_
  by_cases hg : 1 ≤ g ∧ g ≤ 3
  · refine EV.pos (by simpa using hg) ?_
    rw [w64 (by omega) (by omega)]
    by_cases hl : (xs.length : Int) = 2 * g
    · exact EV.pos hl (EV.bind (impl_areSmall_is xs hn) ((EV.now _).eq (by simp [hg, hl])))
    · exact EV.neg hl ((EV.now _).eq (by simp [hl]))
  · exact EV.neg (by simpa using hg) ((EV.now _).eq (by simp [hg]))

theorem impl_form_l0 : ∀ (n : Nat) (sx sy px py : List Int) (acc : Int), sx.length ≤ n → px.length = py.length → sx.length = sy.length → sx.all smallB = true → sy.all smallB = true → px.length + sx.length < 1000000 →
    acc.natAbs + 1000000 * sx.length ≤ 1000000000000000 → EV (fun k => impl_form.l0 k (px ++ sx) (py ++ sy) acc (px.length : Int)) (acc + formM sx sy) := by
  intro n
  induction n with
  | zero =>
    intro sx sy px py acc hn hp hs _ _ hl _
    have e : sx = [] := List.eq_nil_of_length_eq_zero (by omega)
    subst e
    refine EV.step (fun k => by rw [impl_form.l0]) ?_
    rw [w64 (by omega) (by omega)]
    exact EV.neg (by simp; omega) ((EV.now _).eq (by simp [formM]))
  | succ n ih =>
    intro sx sy px py acc hn hp hs h1 h2 hl ha
    match sx, sy with
    | [], _ =>
      refine EV.step (fun k => by rw [impl_form.l0]) ?_
      rw [w64 (by omega) (by omega)]
      exact EV.neg (by simp; omega) ((EV.now _).eq (by simp [formM]))
    | [_], _ =>
      refine EV.step (fun k => by rw [impl_form.l0]) ?_
      rw [w64 (by omega) (by omega)]
      exact EV.neg (by simp) ((EV.now _).eq (by simp [formM]))
    | _ :: _ :: _, [] => simp at hs
    | _ :: _ :: _, [_] => simp at hs
    | a :: b :: xs, c :: d :: ys =>
      simp only [List.all_cons, Bool.and_eq_true, List.length_cons] at h1 h2 hn hs hl ha
      have t := form_term h1.1 h1.2.1 h2.1 h2.2.1
      refine EV.step (fun k => by rw [impl_form.l0]) ?_
      rw [w64 (x := (px.length : Int) + 1) (by omega) (by omega), w64 (x := (px.length : Int) + 2) (by omega) (by omega)]
      refine EV.pos (by simp; omega) (EV.pos (by omega) (EV.pos (by simp; omega) (EV.pos (by omega) (EV.pos (by simp; omega) (EV.pos (by simp; omega) ?_)))))
      have e3 : rd (py ++ c :: d :: ys) (px.length : Int) = c := by rw [hp]; exact rd_app ..
      rw [rd_app, e3, rd_app1 px a b xs _ rfl, rd_app1 py c d ys _ (by rw [hp])]
      rw [w64 (x := a * d) (by omega) (by omega), w64 (x := b * c) (by omega) (by omega)]
      rw [w64 (x := a * d - b * c) (by omega) (by omega), w64 (by omega) (by omega)]
      have := ih xs ys (px ++ [a, b]) (py ++ [c, d]) (acc + (a * d - b * c)) (by omega) (by simp; omega) (by omega) h1.2.2 h2.2.2 (by simp; omega) (by omega)
      simp only [List.append_assoc, List.cons_append, List.nil_append, List.length_append, List.length_cons, List.length_nil] at this
      refine EV.congr (fun k => ?_) (this.eq (by simp only [formM]; omega))
      congr 1
theorem impl_form_is (xs ys : List Int) (hs : xs.length = ys.length) (h1 : xs.all smallB = true) (h2 : ys.all smallB = true) (hl : xs.length ≤ 1000) : EV (fun k => impl_form.f k xs ys) (formM xs ys) :=
  (impl_form_l0 xs.length xs ys [] [] 0 (Nat.le_refl _) rfl hs h1 h2 (by simp; omega) (by simp; omega)).eq (by simp)

theorem impl_TwistClass_l0 (x c : List Int) (n : Int) (hl : x.length ≤ 1000) (hlc : c.length = x.length) (hn : n.natAbs ≤ 120000000) (hx : x.all smallB = true) (hc : c.all smallB = true) :
    ∀ (sx sc px pc acc : List Int), x = px ++ sx → c = pc ++ sc → px.length = pc.length → acc.length = px.length → (acc ++ twistL n sx sc).length ≤ 1000 →
    EV (fun k => impl_TwistClass.l0 k c x acc n (x.length : Int) (px.length : Int)) (if (acc ++ twistL n sx sc).all smallB = true then (acc ++ twistL n sx sc, true) else ([], false)) := by
  intro sx
  induction sx with
  | nil =>
    intro sc px pc acc h1 h2 h3 h4 h5
    have e : twistL n [] sc = [] := rfl
    rw [e, List.append_nil] at h5 ⊢
    refine EV.step (fun k => by rw [impl_TwistClass.l0]) ?_
    refine EV.neg (by subst h1; simp) (EV.bind (impl_areSmall_is acc (by omega)) ?_)
    by_cases hs : acc.all smallB = true
    · exact EV.pos hs ((EV.now _).eq (by rw [if_pos hs]))
    · exact EV.neg hs ((EV.now _).eq (by rw [if_neg hs]))
  | cons a sx ih =>
    intro sc px pc acc h1 h2 h3 h4 h5
    obtain ⟨b, sc, rfl⟩ : ∃ b t, sc = b :: t := by
      cases sc with
      | nil => exfalso; subst h1; subst h2; simp at hlc; omega
      | cons b t => exact ⟨b, t, rfl⟩
    have e : twistL n (a :: sx) (b :: sc) = (a + n * b) :: twistL n sx sc := rfl
    have ha : smallB a = true := by subst h1; simp at hx; exact hx.2.1
    have hb : smallB b = true := by subst h2; simp at hc; exact hc.2.1
    have hp : px.length < 4611686018427387904 := by subst h1; simp at hl; omega
    have r1 : rd x (px.length : Int) = a := by subst h1; exact rd_app ..
    have r2 : rd c (px.length : Int) = b := by subst h2; rw [h3]; exact rd_app ..
    have l1 : (px.length : Int) < (x.length : Int) := by subst h1; exact lt_app ..
    refine EV.step (fun k => by rw [impl_TwistClass.l0]) ?_
    rw [r1, r2, (twist_term hn ha hb).1, (twist_term hn ha hb).2, up (x := a) hp]
    refine EV.pos l1 (EV.pos (by omega) (EV.pos l1 (EV.pos (by omega) (EV.pos (by omega) ?_))))
    rw [e] at h5 ⊢
    have := ih sc (px ++ [a]) (pc ++ [b]) (acc ++ [a + n * b]) (by simp [h1]) (by simp [h2]) (by simp [h3]) (by simp [h4]) (by simpa using h5)
    simpa using this
theorem impl_TwistClass_is (g : Int) (c x : List Int) (t : Int) (h1 : c.length ≤ 1048576) (h2 : x.length ≤ 1048576) : EV (fun k => impl_TwistClass.f k g c x t) (twistM g c x t) := by
  have no : EV (fun k => impl_TwistClass.j0 k c x t true) ([], false) := by
    refine EV.step (fun k => by rw [impl_TwistClass.j0]) ?_
    exact EV.pos rfl (EV.now _)
  unfold twistM
  refine EV.bind (impl_IsClass_is g c (by omega)) ?_
  by_cases hc : classB g c = true
  · refine EV.pos hc (EV.bind (impl_IsClass_is g x (by omega)) ?_)
    by_cases hx : classB g x = true
    · refine EV.pos hx (EV.by (impl_within_is _ _ _) ?_)
      by_cases ht : -20 ≤ t ∧ t ≤ 20
      · rw [if_pos ⟨hc, hx, ht⟩]
        obtain ⟨_, c2, c3⟩ := class_of hc
        obtain ⟨_, x2, x3⟩ := class_of hx
        have hf := form_class hc hx
        have hn := mul_bd (x := t) (y := formM c x) 20 6000000 (by omega) hf
        have e : (!decide (-20 ≤ t ∧ t ≤ 20)) = false := by simp [ht]
        rw [e]
        refine EV.step (fun k => by rw [impl_TwistClass.j0]) ?_
        refine EV.neg (by simp) (EV.bind (impl_form_is c x (by omega) c3 x3 (by omega)) ?_)
        rw [w64 (x := t * formM c x) (by omega) (by omega)]
        exact impl_TwistClass_l0 x c (t * formM c x) (by omega) (by omega) (by omega) x3 c3 x c [] [] [] rfl rfl rfl rfl (by simp [twistL]; omega)
      · rw [if_neg (fun h => ht h.2.2)]
        have e : (!decide (-20 ≤ t ∧ t ≤ 20)) = true := by simp [ht]
        rw [e]; exact no
    · rw [if_neg (fun h => hx h.2.1)]
      exact EV.neg hx no
  · rw [if_neg (fun h => hc h.1)]
    exact EV.neg hc no

theorem twistM_len (g : Int) (c x : List Int) (t : Int) : (twistM g c x t).1.length ≤ 6 := by
  unfold twistM
  split
  · rename_i h
    obtain ⟨_, x2, _⟩ := class_of h.2.1
    split
    · simp [twistL]; omega
    · simp
  · simp
theorem FnExactTwistClass : laws_FnExactTwistClass.Pure := by
  intro g c x t hg h1 h2 h3 k1 k2 k3 ht
  refine EV.rounds (EV.cases (fun _ => EV.now _) fun hl1 => EV.cases (fun _ => EV.now _) fun hl2 => ?_)
  have n1 : c.length ≤ 1048576 := by omega
  have n2 : x.length ≤ 1048576 := by omega
  have hR := twistM_len g c x t
  have S := spec_TwistClass_is g c x t n1 n2
  have I := impl_TwistClass_is g c x t n1 n2
  refine EV.bind (laws_toIntS_is c n1) (EV.bind (laws_toIntS_is x n2) (EV.bind S (EV.bind (laws_toIntS_is c n1) (EV.bind (laws_toIntS_is x n2) (EV.bind I ?_)))))
  refine EV.bind (laws_eqIntS_self _ (by omega)) (EV.pos rfl ?_)
  generalize twistM g c x t = R at *
  have e : (R.2 != R.2) = false := by simp
  rw [e]
  refine EV.step (fun k => by rw [laws_FnExactTwistClass.j0]) ?_
  refine EV.neg (by simp) (EV.bind (laws_toIntS_is c n1) (EV.bind (laws_eqIntS_self c (by omega)) (EV.pos rfl (EV.bind (laws_toIntS_is x n2) (EV.bind (laws_eqIntS_self x (by omega)) (EV.pos rfl ?_))))))
  refine EV.bind (laws_markIntS_is c 1 (by omega) (by omega) (by omega)) (EV.bind (laws_markIntS_is x _ (by omega) (by dsimp only; omega) (by dsimp only; omega)) (EV.neg (by dsimp only; omega) ?_))
  refine EV.bind (laws_eqIntS_self _ (by omega)) (EV.pos rfl ?_)
  rw [e]
  refine EV.step (fun k => by rw [laws_FnExactTwistClass.j1]) ?_
  refine EV.neg (by simp) (EV.bind (laws_markIntS_is R.1 1 (by omega) (by omega) (by omega)) (EV.bind (laws_heldIntS_is _ 1 (by omega) (by omega) (by omega)) (EV.neg (by omega) (EV.pos rfl ?_))))
  refine EV.bind (laws_toIntS_is c n1) (EV.bind (laws_toIntS_is x n2) ?_)
  refine EV.bind I (EV.bind (laws_eqIntS_self _ (by omega)) (EV.pos rfl ?_))
  rw [e]
  refine EV.step (fun k => by rw [laws_FnExactTwistClass.j2]) ?_
  exact EV.neg (by simp) (EV.bind (laws_heldIntS_is _ 1 (by omega) (by omega) (by omega)) (EV.neg (by omega) (EV.pos rfl (EV.now _))))

end Go.Proofs.Ytdkjppbemhpkmaa.Pure
