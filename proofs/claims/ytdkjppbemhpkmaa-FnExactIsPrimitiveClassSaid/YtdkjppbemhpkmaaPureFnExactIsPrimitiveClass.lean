/- Pure side of FnExactIsPrimitiveClass: the printed functions of the program and of the reference answer alike at every input that the statement takes; no condition beyond the printed statement's bounds. -/
import Derived.Test.YtdkjppbemhpkmaaPFnExactIsPrimitiveClassx2
import Derived.Test.YtdkjppbemhpkmaaWSized
set_option linter.unusedVariables false
set_option linter.unusedSimpArgs false
set_option maxRecDepth 10000
/-- the printed row calls the print's word by this name -/
abbrev Go.Proofs.Ytdkjppbemhpkmaa.PrintWords.sized_ints := @Go.Proofs.YtdkjppbemhpkmaaW.PrintWords.sized_ints
namespace Go.Proofs.Ytdkjppbemhpkmaa.Pure
open Go.RowKit Go.Proofs.Ytdkjppbemhpkmaa.PFnExactIsPrimitiveClass Go.Proofs.YtdkjppbemhpkmaaW.PrintWords Go.Proofs.YtdkjppbemhpkmaaW.PrintLast Go.Proofs.YtdkjppbemhpkmaaW.PrintMore

/-! ### Base: words of our own, of no program -/
section
theorem w64 {x : Int} (h1 : -9223372036854775808 ≤ x) (h2 : x ≤ 9223372036854775807) : wrap64 x = x := by
  unfold wrap64; omega
theorem wf64 {x : Int} (h : (Lit.int .i64 x).wf = true) : -9223372036854775808 ≤ x ∧ x ≤ 9223372036854775807 := by
  simp only [Lit.wf, IntKind.min, IntKind.max, IntKind.signed, IntKind.bits, Bool.and_eq_true, decide_eq_true_eq, if_true] at h
  omega
/-- from some number of rounds on it answers r -/
structure EV {α : Type} (g : Nat → Option α) (r : α) : Prop where mk :: (out : ∃ K, ∀ k, K ≤ k → g k = some r)
theorem EV.now {α : Type} (r : α) : EV (fun _ => some r) r := ⟨0, fun _ _ => rfl⟩
theorem EV.rounds {α : Type} {g : Nat → Option α} {r : α} (h : EV g r) : ∃ k, g k = some r := by
  obtain ⟨K, h⟩ := h
  exact ⟨K, h K (Nat.le_refl _)⟩
theorem EV.bind {α β : Type} {g : Nat → Option α} {f : Nat → α → Option β} {a : α} {r : β} (h : EV g a) (k : EV (fun n => f n a) r) : EV (fun n => (g n).bind (f n)) r := by
  obtain ⟨K, h⟩ := h
  obtain ⟨K', k⟩ := k
  refine ⟨max K K', fun n hn => ?_⟩
  have h1 := h n (by omega)
  have h2 := k n (by omega)
  simp only [h1, Option.bind_some]
  exact h2
theorem EV.step {α : Type} {g f : Nat → Option α} {r : α} (h : ∀ k, g (k + 1) = f k) (k : EV f r) : EV g r := by
  obtain ⟨K, k⟩ := k
  refine ⟨K + 1, fun n hn => ?_⟩
  obtain ⟨m, rfl⟩ : ∃ m, n = m + 1 := ⟨n - 1, by omega⟩
  rw [h]
  exact k m (by omega)
theorem EV.congr {α : Type} {g f : Nat → Option α} {r : α} (h : ∀ k, g k = f k) (k : EV f r) : EV g r := by
  obtain ⟨K, k⟩ := k
  exact ⟨K, fun n hn => (h n).trans (k n hn)⟩
theorem EV.pos {α : Type} {c : Prop} [Decidable c] {a b : Nat → Option α} {r : α} (h : c) (k : EV a r) : EV (fun n => if c then a n else b n) r :=
  EV.congr (fun n => if_pos h) k
theorem EV.neg {α : Type} {c : Prop} [Decidable c] {a b : Nat → Option α} {r : α} (h : ¬ c) (k : EV b r) : EV (fun n => if c then a n else b n) r :=
  EV.congr (fun n => if_neg h) k
theorem EV.cases {α : Type} {c : Prop} [Decidable c] {a b : Nat → Option α} {r : α} (h : c → EV a r) (h' : ¬ c → EV b r) : EV (fun n => if c then a n else b n) r := by
  by_cases hc : c
  · exact EV.pos hc (h hc)
  · exact EV.neg hc (h' hc)
/-- a callee without rounds -/
theorem EV.by {α β : Type} {g : Option α} {f : Nat → α → Option β} {a : α} {r : β} (h : g = some a) (k : EV (fun n => f n a) r) : EV (fun n => g.bind (f n)) r := by
  subst h; exact k
theorem EV.is {α : Type} {g : Option α} {r : α} (h : g = some r) : EV (fun _ => g) r := ⟨0, fun _ _ => h⟩
theorem EV.eq {α : Type} {g : Nat → Option α} {r r' : α} (h : EV g r) (e : r = r') : EV g r' := e ▸ h
theorem rd_app (pre : List Int) (x : Int) (suf : List Int) : rd (pre ++ x :: suf) (pre.length : Int) = x := by
  simp [rd]
theorem rd_nat (xs : List Int) (i : Nat) (h : i < xs.length) : rd xs (i : Int) = xs[i] := by
  simp [rd, h]
theorem set_app {α : Type} (pre : List α) (x y : α) (suf : List α) (n : Nat) (hn : n = pre.length) : (pre ++ x :: suf).set n y = pre ++ y :: suf := by
  subst hn; simp
end
def smallB (x : Int) : Bool := decide (-1000 ≤ x ∧ x ≤ 1000)
/-- one index on -/
theorem up {α : Type} {x : α} {pre : List α} (h : pre.length < 4611686018427387904) : wrap64 ((pre.length : Int) + 1) = ((pre ++ [x]).length : Int) := by
  rw [w64 (by omega) (by omega)]; simp
theorem lt_app {α : Type} (pre : List α) (x : α) (suf : List α) : (pre.length : Int) < ((pre ++ x :: suf).length : Int) := by simp; omega
def classB (g : Int) (xs : List Int) : Bool := decide (1 ≤ g ∧ g ≤ 3) && (decide ((xs.length : Int) = 2 * g) && xs.all smallB)
theorem EV.uniq {α : Type} {g : Nat → Option α} {r r' : α} (h : EV g r) (h' : EV g r') : r = r' := by
  obtain ⟨K, h⟩ := h
  obtain ⟨K', h'⟩ := h'
  have a := h (max K K') (by omega)
  have b := h' (max K K') (by omega)
  rw [a] at b; exact Option.some.inj b
/-- from some number of rounds on -/
def Evt (P : Nat → Prop) : Prop := ∃ K, ∀ k, K ≤ k → P k
theorem Evt.and {P Q : Nat → Prop} (h : Evt P) (h' : Evt Q) : Evt (fun k => P k ∧ Q k) := by
  obtain ⟨K, h⟩ := h
  obtain ⟨K', h'⟩ := h'
  exact ⟨max K K', fun k hk => ⟨h k (by omega), h' k (by omega)⟩⟩
theorem Evt.const {p : Prop} (h : p) : Evt (fun _ => p) := ⟨0, fun _ _ => h⟩
theorem EV.evt {α : Type} {g : Nat → Option α} {r : α} (h : EV g r) : Evt (fun k => g k = some r) := h.out
theorem Evt.imp {P Q : Nat → Prop} (h : Evt P) (f : ∀ k, P k → Q k) : Evt Q := by
  obtain ⟨K, h⟩ := h
  exact ⟨K, fun k hk => f k (h k hk)⟩
theorem Evt.rounds {P : Nat → Prop} (h : Evt P) : ∃ k, P k := by
  obtain ⟨K, h⟩ := h
  exact ⟨K, h K (Nat.le_refl _)⟩
theorem EV.mono {α : Type} {g : Nat → Option α} (hg : ∀ k, LeO (g k) (g (k + 1))) {k : Nat} {r : α} (h : g k = some r) : EV g r := ⟨k, fun _ hk => at_rounds hg hk h⟩

theorem laws_toIntS_l0 (xs : List Int) (hn : xs.length < 4611686018427387904) : ∀ suf pre, xs = pre ++ suf → EV (fun k => laws_toIntS.l0 k xs (pre ++ List.replicate suf.length 0) (pre.length : Int)) xs := by
  intro suf
  induction suf with
  | nil =>
    intro pre h
    refine EV.step (fun k => by rw [laws_toIntS.l0]) ?_
    refine (EV.neg ?_ ((EV.now _).eq ?_))
    · subst h; simp
    · subst h; simp
  | cons x suf ih =>
    intro pre h
    have hl : pre.length < 4611686018427387904 := by subst h; simp at hn; omega
    have hlt : (pre.length : Int) < (xs.length : Int) := by subst h; exact lt_app ..
    have hx : rd xs (pre.length : Int) = x := by subst h; exact rd_app ..
    refine EV.step (fun k => by rw [laws_toIntS.l0]) ?_
    refine (EV.pos hlt (EV.pos (by omega) (EV.pos (by simp; omega) ?_)))
    rw [hx, up (x := x) hl, List.length_cons, List.replicate_succ, set_app _ _ _ _ _ (by simp)]
    have := ih (pre ++ [x]) (by simp [h])
    simpa using this
theorem laws_toIntS_is (xs : List Int) (hn : xs.length ≤ 1048576) : EV (fun k => laws_toIntS.f k xs) xs := by
  refine EV.pos (by omega) (EV.pos (by omega) ?_)
  exact laws_toIntS_l0 xs (by omega) xs [] rfl

theorem laws_eqIntS_l0 (xs ys : List Int) (hn : xs.length < 4611686018427387904) : ∀ (suf suf' pre : List Int), pre.length + suf.length = xs.length → pre.length + suf'.length = ys.length → suf.length = suf'.length → xs.drop pre.length = suf → ys.drop pre.length = suf' →
    EV (fun k => laws_eqIntS.l0 k xs ys (pre.length : Int)) (decide (suf = suf')) := by
  intro suf
  induction suf with
  | nil =>
    intro suf' pre h1 h2 h3 h4 h5
    have : suf' = [] := List.eq_nil_of_length_eq_zero (by simpa using h3.symm)
    subst this
    refine EV.step (fun k => by rw [laws_eqIntS.l0]) ?_
    refine (EV.neg ?_ ((EV.now _).eq (by simp)))
    simp at h1; omega
  | cons x suf ih =>
    intro suf' pre h1 h2 h3 h4 h5
    obtain ⟨y, suf', rfl⟩ : ∃ y t, suf' = y :: t := by
      cases suf' with
      | nil => simp at h3
      | cons y t => exact ⟨y, t, rfl⟩
    simp only [List.length_cons] at h1 h2 h3
    have hl : pre.length < 4611686018427387904 := by omega
    have hx : rd xs (pre.length : Int) = x := by
      rw [rd_nat _ _ (by omega)]
      have := List.getElem_drop (xs := xs) (i := pre.length) (j := 0) (h := by simp; omega)
      simp only [h4] at this; simpa using this.symm
    have hy : rd ys (pre.length : Int) = y := by
      rw [rd_nat _ _ (by omega)]
      have := List.getElem_drop (xs := ys) (i := pre.length) (j := 0) (h := by simp; omega)
      simp only [h5] at this; simpa using this.symm
    refine EV.step (fun k => by rw [laws_eqIntS.l0]) ?_
    refine (EV.pos (by omega) (EV.pos (by omega) (EV.pos (by omega) ?_)))
    rw [hx, hy, up (x := x) hl]
    by_cases hs : x = y
    · refine EV.pos hs ((ih suf' _ (by simp; omega) (by simp; omega) (by omega) ?_ ?_).eq (by simp [hs]))
      · rw [List.length_append, ← List.drop_drop, h4]; rfl
      · rw [List.length_append, ← List.drop_drop, h5]; rfl
    · exact (EV.neg hs (EV.now _)).eq (by simp [hs])
theorem laws_eqIntS_is (xs ys : List Int) (hn : xs.length < 4611686018427387904) : EV (fun k => laws_eqIntS.f k xs ys) (decide (xs = ys)) := by
  by_cases h : xs.length = ys.length
  · exact EV.pos (by omega) (laws_eqIntS_l0 xs ys hn xs ys [] (by simp) (by simp) h rfl rfl)
  · exact (EV.neg (by omega) (EV.now _)).eq (by simp; intro e; exact h (by rw [e]))
theorem laws_eqIntS_self (xs : List Int) (hn : xs.length < 4611686018427387904) : EV (fun k => laws_eqIntS.f k xs xs) true := (laws_eqIntS_is xs xs hn).eq (by simp)

theorem spec_l1In_is (a b c : Int) : spec_l1In.f a b c = some (decide (b ≤ a ∧ a ≤ c)) := by
  unfold spec_l1In.f
  by_cases h : a ≥ b
  · rw [if_pos h]; simp [show b ≤ a from h]
  · rw [if_neg h]; simp; omega

theorem spec_l11Fits_l0 (xs : List Int) (hn : xs.length < 4611686018427387904) : ∀ suf pre, xs = pre ++ suf → EV (fun k => spec_l11Fits.l0 k xs (pre.length : Int)) (suf.all smallB) := by
  intro suf
  induction suf with
  | nil =>
    intro pre h
    refine EV.step (fun k => by rw [spec_l11Fits.l0]) ?_
    exact EV.neg (by subst h; simp) (EV.now _)
  | cons x suf ih =>
    intro pre h
    have hl : pre.length < 4611686018427387904 := by subst h; simp at hn; omega
    have hlt : (pre.length : Int) < (xs.length : Int) := by subst h; exact lt_app ..
    have hx : rd xs (pre.length : Int) = x := by subst h; exact rd_app ..
    refine EV.step (fun k => by rw [spec_l11Fits.l0]) ?_
    refine EV.pos hlt (EV.pos (by omega) (EV.by (spec_l1In_is _ _ _) ?_))
    rw [hx, up (x := x) hl]
    by_cases hs : smallB x = true
    · exact EV.pos hs ((ih (pre ++ [x]) (by simp [h])).eq (by simp [hs]))
    · exact EV.neg hs ((EV.now _).eq (by simp [hs]))
theorem spec_l11Fits_is (xs : List Int) (hn : xs.length < 4611686018427387904) : EV (fun k => spec_l11Fits.f k xs) (xs.all smallB) := spec_l11Fits_l0 xs hn xs [] rfl

theorem spec_IsClass_is (g : Int) (xs : List Int) (hn : xs.length < 4611686018427387904) : EV (fun k => spec_IsClass.f k g xs) (classB g xs) := by
  unfold classB
  refine EV.by (spec_l1In_is _ _ _) ?_
  by_cases hg : 1 ≤ g ∧ g ≤ 3
  · refine EV.pos (by simpa using hg) ?_
    rw [w64 (by omega) (by omega)]
    by_cases hl : (xs.length : Int) = 2 * g
    · exact EV.pos hl (EV.bind (spec_l11Fits_is xs hn) ((EV.now _).eq (by simp [hg, hl])))
    · exact EV.neg hl ((EV.now _).eq (by simp [hl]))
  · exact EV.neg (by simpa using hg) ((EV.now _).eq (by simp [hg]))

theorem spec_l1Max_is (a b : Int) : spec_l1Max.f a b = some (if a > b then a else b) := by
  unfold spec_l1Max.f; split <;> rfl

theorem spec_l3Abs_is (a : Int) (h : -9223372036854775808 < a) (h' : a ≤ 9223372036854775807) : spec_l3Abs.f a = some (a.natAbs : Int) := by
  unfold spec_l3Abs.f
  rw [spec_l1Max_is, w64 (by omega) (by omega)]
  simp only [Option.bind_some]
  congr 1
  split <;> omega

theorem gcd_step (a b : Int) : Nat.gcd b.natAbs (Int.tmod a b).natAbs = Nat.gcd a.natAbs b.natAbs := by
  rw [Int.natAbs_tmod, Nat.gcd_comm b.natAbs, ← Nat.gcd_rec, Nat.gcd_comm]
theorem tmod_lt (a b : Int) (h : b ≠ 0) : (Int.tmod a b).natAbs < b.natAbs := by
  rw [Int.natAbs_tmod]; exact Nat.mod_lt _ (by omega)
def slopeB (p q : Int) : Bool := decide (-1000 ≤ p ∧ p ≤ 1000) && (decide (0 ≤ q ∧ q ≤ 1000) && (decide (Nat.gcd p.natAbs q.natAbs = 1) && (decide (0 < q) || decide (p = 1))))
/-- p, q by their greatest common divisor, the sign so that q is above 0, or p -/
def lowM (p q : Int) : Int × Int :=
  let d : Int := (Nat.gcd p.natAbs q.natAbs : Nat)
  if q < 0 ∨ (q = 0 ∧ p < 0) then (-(p.tdiv d), -(q.tdiv d)) else (p.tdiv d, q.tdiv d)
def slopeOfM (p q : Int) : Int × Int × Bool :=
  if -1000 ≤ p ∧ p ≤ 1000 then (if -1000 ≤ q ∧ q ≤ 1000 then (if p = 0 ∧ q = 0 then (0, 0, false) else ((lowM p q).1, (lowM p q).2, true)) else (0, 0, false)) else (0, 0, false)
theorem low_of (p q : Int) (hp : -1000 ≤ p ∧ p ≤ 1000) (hq : -1000 ≤ q ∧ q ≤ 1000) (hz : ¬ (p = 0 ∧ q = 0)) :
    ∃ d a b : Int, ((Nat.gcd p.natAbs q.natAbs : Nat) : Int) = d ∧ 0 < d ∧ d ≤ 1000 ∧ p.tdiv d = a ∧ q.tdiv d = b ∧ p = d * a ∧ q = d * b ∧ -1000 ≤ a ∧ a ≤ 1000 ∧ -1000 ≤ b ∧ b ≤ 1000 ∧ (q < 0 ↔ b < 0) ∧ (q = 0 ↔ b = 0) ∧ (p < 0 ↔ a < 0) := by
  have hg : 0 < Nat.gcd p.natAbs q.natAbs := by
    rcases Nat.eq_zero_or_pos (Nat.gcd p.natAbs q.natAbs) with h | h
    · have := Nat.gcd_eq_zero_iff.1 h; omega
    · exact h
  have h1 : Nat.gcd p.natAbs q.natAbs ≤ 1000 := by
    by_cases h : p = 0
    · have := Nat.gcd_le_right p.natAbs (n := q.natAbs) (by omega); omega
    · have := Nat.gcd_le_left q.natAbs (m := p.natAbs) (by omega); omega
  obtain ⟨a, ha⟩ : ∃ a, p = ((Nat.gcd p.natAbs q.natAbs : Nat) : Int) * a := Int.ofNat_dvd_left.2 (Nat.gcd_dvd_left ..)
  obtain ⟨b, hb⟩ : ∃ b, q = ((Nat.gcd p.natAbs q.natAbs : Nat) : Int) * b := Int.ofNat_dvd_left.2 (Nat.gcd_dvd_right ..)
  generalize hd : ((Nat.gcd p.natAbs q.natAbs : Nat) : Int) = d at *
  have hdp : 0 < d := by omega
  have e1 : p.tdiv d = a := by rw [ha]; exact Int.mul_tdiv_cancel_left _ (by omega)
  have e2 : q.tdiv d = b := by rw [hb]; exact Int.mul_tdiv_cancel_left _ (by omega)
  have bnd : ∀ x y : Int, x = d * y → -1000 ≤ x → x ≤ 1000 → -1000 ≤ y ∧ y ≤ 1000 ∧ (x < 0 ↔ y < 0) ∧ (x = 0 ↔ y = 0) := by
    intro x y h h1 h2
    have k1 : 0 < y → y ≤ d * y := fun hy => by have := Int.mul_le_mul_of_nonneg_right (show 1 ≤ d by omega) (show 0 ≤ y by omega); omega
    have k2 : y < 0 → d * y ≤ y := fun hy => by have := Int.mul_le_mul_of_nonpos_right (show 1 ≤ d by omega) (show y ≤ 0 by omega); omega
    have k3 : y = 0 → d * y = 0 := fun hy => by rw [hy]; simp
    rw [← h] at k1 k2 k3
    rcases Int.lt_trichotomy y 0 with hy | hy | hy
    · have := k2 hy; omega
    · have := k3 hy; omega
    · have := k1 hy; omega
  have B1 := bnd p a ha hp.1 hp.2
  have B2 := bnd q b hb hq.1 hq.2
  exact ⟨d, a, b, rfl, hdp, by omega, e1, e2, ha, hb, by omega, by omega, by omega, by omega, B2.2.2.1, B2.2.2.2, B1.2.2.1⟩

theorem spec_l11Gcd_l0 (n : Nat) : ∀ a b : Int, b.natAbs ≤ n → a.natAbs ≤ 9223372036854775807 → b.natAbs ≤ 9223372036854775807 → EV (fun k => spec_l11Gcd.l0 k a b) ((Nat.gcd a.natAbs b.natAbs : Nat) : Int) := by
  induction n with
  | zero =>
    intro a b hb h1 h2
    obtain rfl : b = 0 := by omega
    refine EV.step (fun k => by rw [spec_l11Gcd.l0]) ?_
    refine EV.pos rfl (EV.by (spec_l3Abs_is a (by omega) (by omega)) ((EV.now _).eq (by simp)))
  | succ n ih =>
    intro a b hb h1 h2
    refine EV.step (fun k => by rw [spec_l11Gcd.l0]) ?_
    by_cases h : b = 0
    · subst h
      exact EV.pos rfl (EV.by (spec_l3Abs_is a (by omega) (by omega)) ((EV.now _).eq (by simp)))
    · have hm := tmod_lt a b h
      refine EV.neg h ((ih b (Int.tmod a b) (by omega) (by omega) (by omega)).eq ?_)
      rw [gcd_step]
theorem spec_l11Gcd_is (a b : Int) (h1 : a.natAbs ≤ 9223372036854775807) (h2 : b.natAbs ≤ 9223372036854775807) : EV (fun k => spec_l11Gcd.f k a b) ((Nat.gcd a.natAbs b.natAbs : Nat) : Int) :=
  spec_l11Gcd_l0 b.natAbs a b (Nat.le_refl _) h1 h2

def crossM (a b c d : Int) : Int := if slopeB a b = true ∧ slopeB c d = true then ((a * d - b * c).natAbs : Int) else -1
theorem slopeB_bd {p q : Int} (h : slopeB p q = true) : -1000 ≤ p ∧ p ≤ 1000 ∧ 0 ≤ q ∧ q ≤ 1000 ∧ Nat.gcd p.natAbs q.natAbs = 1 ∧ (0 < q ∨ p = 1) := by
  unfold slopeB at h
  simp only [Bool.and_eq_true, Bool.or_eq_true, decide_eq_true_eq] at h
  omega
/-- a product of two numbers of bounded size -/
theorem mul_bd {x y : Int} (A B : Nat) (hx : x.natAbs ≤ A) (hy : y.natAbs ≤ B) : (x * y).natAbs ≤ A * B := by
  rw [Int.natAbs_mul]; exact Nat.mul_le_mul hx hy
theorem cross_w {a b c d : Int} (h1 : slopeB a b = true) (h2 : slopeB c d = true) : wrap64 (a * d) = a * d ∧ wrap64 (b * c) = b * c ∧ (a * d - b * c).natAbs ≤ 2000000 := by
  have b1 := slopeB_bd h1
  have b2 := slopeB_bd h2
  have m1 := mul_bd (x := a) (y := d) 1000 1000 (by omega) (by omega)
  have m2 := mul_bd (x := b) (y := c) 1000 1000 (by omega) (by omega)
  refine ⟨w64 (by omega) (by omega), w64 (by omega) (by omega), by omega⟩

def formM : List Int → List Int → Int
  | a :: b :: xs, c :: d :: ys => (a * d - b * c) + formM xs ys
  | _, _ => 0
theorem smallB_bd {x : Int} (h : smallB x = true) : -1000 ≤ x ∧ x ≤ 1000 := by simpa [smallB] using h
theorem form_term {a b c d : Int} (ha : smallB a = true) (hb : smallB b = true) (hc : smallB c = true) (hd : smallB d = true) : (a * d).natAbs ≤ 1000000 ∧ (b * c).natAbs ≤ 1000000 := by
  have := smallB_bd ha; have := smallB_bd hb; have := smallB_bd hc; have := smallB_bd hd
  exact ⟨mul_bd 1000 1000 (by omega) (by omega), mul_bd 1000 1000 (by omega) (by omega)⟩
theorem formM_bd : ∀ (n : Nat) (xs ys : List Int), xs.length ≤ n → xs.all smallB = true → ys.all smallB = true → (formM xs ys).natAbs ≤ 1000000 * xs.length
  | 0, xs, ys, hn, _, _ => by
    have : xs = [] := List.eq_nil_of_length_eq_zero (by omega)
    subst this; simp [formM]
  | n + 1, xs, ys, hn, hx, hy => by
    match xs, ys with
    | a :: b :: xs, c :: d :: ys =>
      simp only [List.all_cons, Bool.and_eq_true, List.length_cons] at hx hy hn
      have t := form_term hx.1 hx.2.1 hy.1 hy.2.1
      have r := formM_bd n xs ys (by omega) hx.2.2 hy.2.2
      simp only [formM, List.length_cons]; omega
    | [], _ => simp [formM]
    | [_], _ => simp [formM]
    | _ :: _ :: _, [] => simp [formM]
    | _ :: _ :: _, [_] => simp [formM]
theorem rd_app1 (pre : List Int) (x y : Int) (suf : List Int) (i : Int) (h : i = pre.length + 1) : rd (pre ++ x :: y :: suf) i = y := by
  subst h
  have := rd_app (pre ++ [x]) y suf
  simpa using this

def formOfM (g : Int) (xs ys : List Int) : Int := if classB g xs = true ∧ classB g ys = true then formM xs ys else 0
theorem class_of {g : Int} {xs : List Int} (h : classB g xs = true) : (1 ≤ g ∧ g ≤ 3) ∧ (xs.length : Int) = 2 * g ∧ xs.all smallB = true := by
  simpa [classB, and_assoc] using h

def gcdL (xs : List Int) (d : Nat) : Nat := xs.foldl (fun d x => Nat.gcd d x.natAbs) d
def primM (g : Int) (xs : List Int) : Bool := classB g xs && decide (gcdL xs 0 = 1)
theorem gcd_small {d : Nat} {x : Int} (hd : d ≤ 1000) (hx : smallB x = true) : Nat.gcd d x.natAbs ≤ 1000 := by
  have := smallB_bd hx
  rcases Nat.eq_zero_or_pos d with h | h
  · subst h; rw [Nat.gcd_zero_left]; omega
  · have := Nat.gcd_le_left x.natAbs h; omega

theorem spec_IsPrimitiveClass_l0 (xs : List Int) (hn : xs.length < 4611686018427387904) : ∀ (suf pre : List Int) (d : Nat), xs = pre ++ suf → suf.all smallB = true → d ≤ 1000 →
    EV (fun k => spec_IsPrimitiveClass.l0 k xs (d : Int) (pre.length : Int)) (decide (gcdL suf d = 1)) := by
  intro suf
  induction suf with
  | nil =>
    intro pre d h _ hd
    refine EV.step (fun k => by rw [spec_IsPrimitiveClass.l0]) ?_
    refine EV.neg (by subst h; simp) ((EV.now _).eq ?_)
    rw [Bool.eq_iff_iff, beq_iff_eq, decide_eq_true_iff]
    show (d : Int) = 1 ↔ d = 1
    omega
  | cons x suf ih =>
    intro pre d h hs hd
    simp only [List.all_cons, Bool.and_eq_true] at hs
    have hl : pre.length < 4611686018427387904 := by subst h; simp at hn; omega
    have hlt : (pre.length : Int) < (xs.length : Int) := by subst h; exact lt_app ..
    have hx : rd xs (pre.length : Int) = x := by subst h; exact rd_app ..
    have hb := smallB_bd hs.1
    refine EV.step (fun k => by rw [spec_IsPrimitiveClass.l0]) ?_
    refine EV.pos hlt (EV.pos (by omega) (EV.bind (spec_l11Gcd_is (d : Int) (rd xs (pre.length : Int)) (by omega) (by rw [hx]; omega)) ?_))
    rw [hx, up (x := x) hl]
    have := ih (pre ++ [x]) (Nat.gcd d x.natAbs) (by simp [h]) hs.2 (gcd_small hd hs.1)
    exact this
theorem spec_IsPrimitiveClass_is (g : Int) (xs : List Int) (hn : xs.length < 4611686018427387904) : EV (fun k => spec_IsPrimitiveClass.f k g xs) (primM g xs) := by
  unfold primM
  refine EV.bind (spec_IsClass_is g xs hn) ?_
  by_cases c : classB g xs = true
  · exact EV.pos c ((spec_IsPrimitiveClass_l0 xs hn xs [] 0 rfl (class_of c).2.2 (by omega)).eq (by simp [c]))
  · exact EV.neg c ((EV.now _).eq (by simp [c]))

theorem impl_within_is (a b c : Int) : impl_within.f a b c = some (decide (b ≤ a ∧ a ≤ c)) := by
  unfold impl_within.f
  by_cases h : a ≥ b
  · rw [if_pos h]; simp [show b ≤ a from h]
  · rw [if_neg h]; simp; omega

theorem impl_areSmall_l0 (xs : List Int) (hn : xs.length < 4611686018427387904) : ∀ suf pre, xs = pre ++ suf → EV (fun k => impl_areSmall.l0 k xs (xs.length : Int) (pre.length : Int)) (suf.all smallB) := by
  intro suf
  induction suf with
  | nil =>
    intro pre h
    refine EV.step (fun k => by rw [impl_areSmall.l0]) ?_
    exact EV.neg (by subst h; simp) (EV.now _)
  | cons x suf ih =>
    intro pre h
    have hl : pre.length < 4611686018427387904 := by subst h; simp at hn; omega
    have hlt : (pre.length : Int) < (xs.length : Int) := by subst h; exact lt_app ..
    have hx : rd xs (pre.length : Int) = x := by subst h; exact rd_app ..
    refine EV.step (fun k => by rw [impl_areSmall.l0]) ?_
    refine EV.pos hlt (EV.pos (by omega) (EV.pos hlt (EV.by (impl_within_is _ _ _) ?_)))
    rw [hx, up (x := x) hl]
    by_cases hs : smallB x = true
    · exact EV.pos hs ((ih (pre ++ [x]) (by simp [h])).eq (by simp [hs]))
    · exact EV.neg hs ((EV.now _).eq (by simp [hs]))
theorem impl_areSmall_is (xs : List Int) (hn : xs.length < 4611686018427387904) : EV (fun k => impl_areSmall.f k xs) (xs.all smallB) := impl_areSmall_l0 xs hn xs [] rfl

theorem impl_IsClass_is (g : Int) (xs : List Int) (hn : xs.length < 4611686018427387904) : EV (fun k => impl_IsClass.f k g xs) (classB g xs) := by
  unfold classB
  refine EV.by (impl_within_is _ _ _) ?_
  by_cases hg : 1 ≤ g ∧ g ≤ 3
  · refine EV.pos (by simpa using hg) ?_
    rw [w64 (by omega) (by omega)]
    by_cases hl : (xs.length : Int) = 2 * g
    · exact EV.pos hl (EV.bind (impl_areSmall_is xs hn) ((EV.now _).eq (by simp [hg, hl])))
    · exact EV.neg hl ((EV.now _).eq (by simp [hl]))
  · exact EV.neg (by simpa using hg) ((EV.now _).eq (by simp [hg]))

theorem impl_size_is (a : Int) (h : -9223372036854775808 < a) (h' : a ≤ 9223372036854775807) : impl_size.f a = some (a.natAbs : Int) := by
  unfold impl_size.f mx
  rw [w64 (by omega) (by omega)]
  congr 1
  split <;> omega
theorem impl_size_some (a : Int) : ∃ r, impl_size.f a = some r := ⟨_, rfl⟩

theorem impl_gcd_l0 (n : Nat) : ∀ a b : Int, b.natAbs ≤ n → ∃ r, EV (fun k => impl_gcd.l0 k a b) r ∧ (0 ≤ a → 0 ≤ b → r = ((Nat.gcd a.natAbs b.natAbs : Nat) : Int)) := by
  induction n with
  | zero =>
    intro a b hb
    obtain rfl : b = 0 := by omega
    refine ⟨a, EV.step (fun k => by rw [impl_gcd.l0]) ?_, fun h _ => by simp; omega⟩
    exact EV.pos rfl (EV.now _)
  | succ n ih =>
    intro a b hb
    by_cases h : b = 0
    · subst h
      refine ⟨a, EV.step (fun k => by rw [impl_gcd.l0]) ?_, fun h _ => by simp; omega⟩
      exact EV.pos rfl (EV.now _)
    · have hm := tmod_lt a b h
      obtain ⟨r, hr, hv⟩ := ih b (Int.tmod a b) (by omega)
      refine ⟨r, EV.step (fun k => by rw [impl_gcd.l0]) ?_, fun ha hb' => ?_⟩
      · exact EV.neg h hr
      · rw [hv hb' (Int.tmod_nonneg _ ha), gcd_step]
theorem impl_gcd_is (a b : Int) (h1 : a.natAbs ≤ 9223372036854775807) (h2 : b.natAbs ≤ 9223372036854775807) : EV (fun k => impl_gcd.f k a b) ((Nat.gcd a.natAbs b.natAbs : Nat) : Int) := by
  obtain ⟨r, hr, hv⟩ := impl_gcd_l0 (b.natAbs : Int).natAbs (a.natAbs : Int) (b.natAbs : Int) (Nat.le_refl _)
  refine EV.by (impl_size_is a (by omega) (by omega)) (EV.by (impl_size_is b (by omega) (by omega)) (hr.eq ?_))
  rw [hv (by omega) (by omega)]; simp
theorem impl_gcd_some (a b : Int) : ∃ r, EV (fun k => impl_gcd.f k a b) r := by
  obtain ⟨x, hx⟩ := impl_size_some a
  obtain ⟨y, hy⟩ := impl_size_some b
  obtain ⟨r, hr, _⟩ := impl_gcd_l0 y.natAbs x y (Nat.le_refl _)
  exact ⟨r, EV.by hx (EV.by hy hr)⟩

theorem impl_IsPrimitiveClass_l0 (g : Int) (xs : List Int) (hn : xs.length < 4611686018427387904) : ∀ (suf pre : List Int) (d : Int), xs = pre ++ suf →
    ∃ D : Int, EV (fun k => impl_IsPrimitiveClass.l0 k g xs d xs (xs.length : Int) (pre.length : Int)) (classB g xs && decide (D = 1)) ∧ (∀ e : Nat, d = e → e ≤ 1000 → suf.all smallB = true → D = gcdL suf e) := by
  intro suf
  induction suf with
  | nil =>
    intro pre d h
    refine ⟨d, ?_, fun e he _ _ => by rw [he]; rfl⟩
    refine EV.step (fun k => by rw [impl_IsPrimitiveClass.l0]) ?_
    refine EV.neg (by subst h; simp) (EV.bind (impl_IsClass_is g xs hn) ?_)
    by_cases c : classB g xs = true
    · exact EV.pos c ((EV.now _).eq (by rw [Bool.eq_iff_iff]; simp [c]))
    · exact EV.neg c ((EV.now _).eq (by simp [c]))
  | cons x suf ih =>
    intro pre d h
    have hl : pre.length < 4611686018427387904 := by subst h; simp at hn; omega
    have hlt : (pre.length : Int) < (xs.length : Int) := by subst h; exact lt_app ..
    have hx : rd xs (pre.length : Int) = x := by subst h; exact rd_app ..
    obtain ⟨r, hr⟩ := impl_gcd_some d x
    obtain ⟨D, hD, hv⟩ := ih (pre ++ [x]) r (by simp [h])
    refine ⟨D, ?_, fun e he h1 hs => ?_⟩
    · refine EV.step (fun k => by rw [impl_IsPrimitiveClass.l0]) ?_
      rw [hx, up (x := x) hl]
      exact EV.pos hlt (EV.pos (by omega) (EV.pos hlt (EV.bind hr hD)))
    · simp only [List.all_cons, Bool.and_eq_true] at hs
      have hb := smallB_bd hs.1
      have : r = ((Nat.gcd d.natAbs x.natAbs : Nat) : Int) := EV.uniq hr (impl_gcd_is d x (by omega) (by omega))
      rw [hv (Nat.gcd e x.natAbs) (by rw [this, he]; simp) (gcd_small h1 hs.1) hs.2]
      simp [gcdL]
theorem impl_IsPrimitiveClass_is (g : Int) (xs : List Int) (hn : xs.length < 4611686018427387904) : EV (fun k => impl_IsPrimitiveClass.f k g xs) (primM g xs) := by
  obtain ⟨D, hD, hv⟩ := impl_IsPrimitiveClass_l0 g xs hn xs [] 0 rfl
  refine EV.congr (fun k => rfl) (hD.eq ?_)
  unfold primM
  by_cases c : classB g xs = true
  · rw [hv 0 rfl (by omega) (class_of c).2.2, Bool.eq_iff_iff]; simp [c]; omega
  · simp [c]

theorem FnExactIsPrimitiveClass : laws_FnExactIsPrimitiveClass.Pure := by
  intro g xs hg h1 h2 h3
  refine EV.rounds (EV.cases (fun _ => EV.now _) fun hlen => ?_)
  have hl : xs.length ≤ 1048576 := by omega
  have hl' : xs.length < 4611686018427387904 := by omega
  refine EV.bind (laws_toIntS_is xs hl) (EV.bind (spec_IsPrimitiveClass_is g xs hl') (EV.bind (laws_toIntS_is xs hl) (EV.bind (impl_IsPrimitiveClass_is g xs hl') (EV.neg (by simp) ?_))))
  exact EV.bind (laws_toIntS_is xs hl) (EV.bind (laws_eqIntS_self xs hl') (EV.pos rfl (EV.now _)))

end Go.Proofs.Ytdkjppbemhpkmaa.Pure
