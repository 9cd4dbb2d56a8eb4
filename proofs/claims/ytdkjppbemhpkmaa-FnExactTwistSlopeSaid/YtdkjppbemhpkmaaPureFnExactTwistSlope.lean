/- Pure side of FnExactTwistSlope: the printed functions of the program and of the reference answer alike at every input that the statement takes; no condition beyond the printed statement's bounds. -/
import Derived.Test.YtdkjppbemhpkmaaVFnExactTwistSlope
import Derived.Test.YtdkjppbemhpkmaaWSized
set_option linter.unusedVariables false
set_option linter.unusedSimpArgs false
set_option maxRecDepth 10000
/-- the printed row calls the print's word by this name -/
abbrev Go.Proofs.Ytdkjppbemhpkmaa.PrintWords.sized_ints := @Go.Proofs.YtdkjppbemhpkmaaW.PrintWords.sized_ints
namespace Go.Proofs.Ytdkjppbemhpkmaa.Pure
open Go.RowKit Go.Proofs.Ytdkjppbemhpkmaa.PFnExactTwistSlope Go.Proofs.YtdkjppbemhpkmaaW.PrintWords Go.Proofs.YtdkjppbemhpkmaaW.PrintLast Go.Proofs.YtdkjppbemhpkmaaW.PrintMore

/-! ### Base: words of our own, of no program -/
section
theorem w64 {x : Int} (h1 : -9223372036854775808 ≤ x) (h2 : x ≤ 9223372036854775807) : wrap64 x = x := by
  unfold wrap64; omega
theorem wf64 {x : Int} (h : (Lit.int .i64 x).wf = true) : -9223372036854775808 ≤ x ∧ x ≤ 9223372036854775807 := by
  simp only [Lit.wf, IntKind.min, IntKind.max, IntKind.signed, IntKind.bits, Bool.and_eq_true, decide_eq_true_eq, if_true] at h
  omega
/-- from some number of rounds on it answers r -/
structure EV {α : Type} (g : Nat → Option α) (r : α) : Prop where mk :: (out : ∃ K, ∀ k, K ≤ k → g k = some r)
theorem EV.now {α : Type} (r : α) : EV (fun _ => some r) r := ⟨0, fun _ _ => rfl⟩
theorem EV.rounds {α : Type} {g : Nat → Option α} {r : α} (h : EV g r) : ∃ k, g k = some r := by
  obtain ⟨K, h⟩ := h
  exact ⟨K, h K (Nat.le_refl _)⟩
theorem EV.bind {α β : Type} {g : Nat → Option α} {f : Nat → α → Option β} {a : α} {r : β} (h : EV g a) (k : EV (fun n => f n a) r) : EV (fun n => (g n).bind (f n)) r := by
  obtain ⟨K, h⟩ := h
  obtain ⟨K', k⟩ := k
  refine ⟨max K K', fun n hn => ?_⟩
  have h1 := h n (by omega)
  have h2 := k n (by omega)
  simp only [h1, Option.bind_some]
  exact h2
theorem EV.step {α : Type} {g f : Nat → Option α} {r : α} (h : ∀ k, g (k + 1) = f k) (k : EV f r) : EV g r := by
  obtain ⟨K, k⟩ := k
  refine ⟨K + 1, fun n hn => ?_⟩
  obtain ⟨m, rfl⟩ : ∃ m, n = m + 1 := ⟨n - 1, by omega⟩
  rw [h]
  exact k m (by omega)
theorem EV.congr {α : Type} {g f : Nat → Option α} {r : α} (h : ∀ k, g k = f k) (k : EV f r) : EV g r := by
  obtain ⟨K, k⟩ := k
  exact ⟨K, fun n hn => (h n).trans (k n hn)⟩
theorem EV.pos {α : Type} {c : Prop} [Decidable c] {a b : Nat → Option α} {r : α} (h : c) (k : EV a r) : EV (fun n => if c then a n else b n) r :=
  EV.congr (fun n => if_pos h) k
theorem EV.neg {α : Type} {c : Prop} [Decidable c] {a b : Nat → Option α} {r : α} (h : ¬ c) (k : EV b r) : EV (fun n => if c then a n else b n) r :=
  EV.congr (fun n => if_neg h) k
theorem EV.cases {α : Type} {c : Prop} [Decidable c] {a b : Nat → Option α} {r : α} (h : c → EV a r) (h' : ¬ c → EV b r) : EV (fun n => if c then a n else b n) r := by
  by_cases hc : c
  · exact EV.pos hc (h hc)
  · exact EV.neg hc (h' hc)
/-- a callee without rounds -/
theorem EV.by {α β : Type} {g : Option α} {f : Nat → α → Option β} {a : α} {r : β} (h : g = some a) (k : EV (fun n => f n a) r) : EV (fun n => g.bind (f n)) r := by
  subst h; exact k
theorem EV.is {α : Type} {g : Option α} {r : α} (h : g = some r) : EV (fun _ => g) r := ⟨0, fun _ _ => h⟩
theorem EV.eq {α : Type} {g : Nat → Option α} {r r' : α} (h : EV g r) (e : r = r') : EV g r' := e ▸ h
theorem rd_app (pre : List Int) (x : Int) (suf : List Int) : rd (pre ++ x :: suf) (pre.length : Int) = x := by
  simp [rd]
theorem rd_nat (xs : List Int) (i : Nat) (h : i < xs.length) : rd xs (i : Int) = xs[i] := by
  simp [rd, h]
theorem set_app {α : Type} (pre : List α) (x y : α) (suf : List α) (n : Nat) (hn : n = pre.length) : (pre ++ x :: suf).set n y = pre ++ y :: suf := by
  subst hn; simp
end
def smallB (x : Int) : Bool := decide (-1000 ≤ x ∧ x ≤ 1000)
/-- one index on -/
theorem up {α : Type} {x : α} {pre : List α} (h : pre.length < 4611686018427387904) : wrap64 ((pre.length : Int) + 1) = ((pre ++ [x]).length : Int) := by
  rw [w64 (by omega) (by omega)]; simp
theorem lt_app {α : Type} (pre : List α) (x : α) (suf : List α) : (pre.length : Int) < ((pre ++ x :: suf).length : Int) := by simp; omega
def classB (g : Int) (xs : List Int) : Bool := decide (1 ≤ g ∧ g ≤ 3) && (decide ((xs.length : Int) = 2 * g) && xs.all smallB)
theorem EV.uniq {α : Type} {g : Nat → Option α} {r r' : α} (h : EV g r) (h' : EV g r') : r = r' := by
  obtain ⟨K, h⟩ := h
  obtain ⟨K', h'⟩ := h'
  have a := h (max K K') (by omega)
  have b := h' (max K K') (by omega)
  rw [a] at b; exact Option.some.inj b
/-- from some number of rounds on -/
def Evt (P : Nat → Prop) : Prop := ∃ K, ∀ k, K ≤ k → P k
theorem Evt.and {P Q : Nat → Prop} (h : Evt P) (h' : Evt Q) : Evt (fun k => P k ∧ Q k) := by
  obtain ⟨K, h⟩ := h
  obtain ⟨K', h'⟩ := h'
  exact ⟨max K K', fun k hk => ⟨h k (by omega), h' k (by omega)⟩⟩
theorem Evt.const {p : Prop} (h : p) : Evt (fun _ => p) := ⟨0, fun _ _ => h⟩
theorem EV.evt {α : Type} {g : Nat → Option α} {r : α} (h : EV g r) : Evt (fun k => g k = some r) := h.out
theorem Evt.imp {P Q : Nat → Prop} (h : Evt P) (f : ∀ k, P k → Q k) : Evt Q := by
  obtain ⟨K, h⟩ := h
  exact ⟨K, fun k hk => f k (h k hk)⟩
theorem Evt.rounds {P : Nat → Prop} (h : Evt P) : ∃ k, P k := by
  obtain ⟨K, h⟩ := h
  exact ⟨K, h K (Nat.le_refl _)⟩
theorem EV.mono {α : Type} {g : Nat → Option α} (hg : ∀ k, LeO (g k) (g (k + 1))) {k : Nat} {r : α} (h : g k = some r) : EV g r := ⟨k, fun _ hk => at_rounds hg hk h⟩

theorem laws_toSlope_is (p q : Int) : laws_toSlope.f p q = some (p, q) := rfl

theorem laws_eqSlope_self (p q : Int) : laws_eqSlope.f p q p q = some true := by
  unfold laws_eqSlope.f; rw [if_pos rfl, if_pos rfl]

theorem spec_l1In_is (a b c : Int) : spec_l1In.f a b c = some (decide (b ≤ a ∧ a ≤ c)) := by
  unfold spec_l1In.f
  by_cases h : a ≥ b
  · rw [if_pos h]; simp [show b ≤ a from h]
  · rw [if_neg h]; simp; omega

theorem spec_l1Max_is (a b : Int) : spec_l1Max.f a b = some (if a > b then a else b) := by
  unfold spec_l1Max.f; split <;> rfl

theorem spec_l3Abs_is (a : Int) (h : -9223372036854775808 < a) (h' : a ≤ 9223372036854775807) : spec_l3Abs.f a = some (a.natAbs : Int) := by
  unfold spec_l3Abs.f
  rw [spec_l1Max_is, w64 (by omega) (by omega)]
  simp only [Option.bind_some]
  congr 1
  split <;> omega

theorem gcd_step (a b : Int) : Nat.gcd b.natAbs (Int.tmod a b).natAbs = Nat.gcd a.natAbs b.natAbs := by
  rw [Int.natAbs_tmod, Nat.gcd_comm b.natAbs, ← Nat.gcd_rec, Nat.gcd_comm]
theorem tmod_lt (a b : Int) (h : b ≠ 0) : (Int.tmod a b).natAbs < b.natAbs := by
  rw [Int.natAbs_tmod]; exact Nat.mod_lt _ (by omega)
def slopeB (p q : Int) : Bool := decide (-1000 ≤ p ∧ p ≤ 1000) && (decide (0 ≤ q ∧ q ≤ 1000) && (decide (Nat.gcd p.natAbs q.natAbs = 1) && (decide (0 < q) || decide (p = 1))))
/-- p, q by their greatest common divisor, the sign so that q is above 0, or p -/
def lowM (p q : Int) : Int × Int :=
  let d : Int := (Nat.gcd p.natAbs q.natAbs : Nat)
  if q < 0 ∨ (q = 0 ∧ p < 0) then (-(p.tdiv d), -(q.tdiv d)) else (p.tdiv d, q.tdiv d)
def slopeOfM (p q : Int) : Int × Int × Bool :=
  if -1000 ≤ p ∧ p ≤ 1000 then (if -1000 ≤ q ∧ q ≤ 1000 then (if p = 0 ∧ q = 0 then (0, 0, false) else ((lowM p q).1, (lowM p q).2, true)) else (0, 0, false)) else (0, 0, false)
theorem low_of (p q : Int) (hp : -1000 ≤ p ∧ p ≤ 1000) (hq : -1000 ≤ q ∧ q ≤ 1000) (hz : ¬ (p = 0 ∧ q = 0)) :
    ∃ d a b : Int, ((Nat.gcd p.natAbs q.natAbs : Nat) : Int) = d ∧ 0 < d ∧ d ≤ 1000 ∧ p.tdiv d = a ∧ q.tdiv d = b ∧ p = d * a ∧ q = d * b ∧ -1000 ≤ a ∧ a ≤ 1000 ∧ -1000 ≤ b ∧ b ≤ 1000 ∧ (q < 0 ↔ b < 0) ∧ (q = 0 ↔ b = 0) ∧ (p < 0 ↔ a < 0) := by
  have hg : 0 < Nat.gcd p.natAbs q.natAbs := by
    rcases Nat.eq_zero_or_pos (Nat.gcd p.natAbs q.natAbs) with h | h
    · have := Nat.gcd_eq_zero_iff.1 h; omega
    · exact h
  have h1 : Nat.gcd p.natAbs q.natAbs ≤ 1000 := by
    by_cases h : p = 0
    · have := Nat.gcd_le_right p.natAbs (n := q.natAbs) (by omega); omega
    · have := Nat.gcd_le_left q.natAbs (m := p.natAbs) (by omega); omega
  obtain ⟨a, ha⟩ : ∃ a, p = ((Nat.gcd p.natAbs q.natAbs : Nat) : Int) * a := Int.ofNat_dvd_left.2 (Nat.gcd_dvd_left ..)
  obtain ⟨b, hb⟩ : ∃ b, q = ((Nat.gcd p.natAbs q.natAbs : Nat) : Int) * b := Int.ofNat_dvd_left.2 (Nat.gcd_dvd_right ..)
  generalize hd : ((Nat.gcd p.natAbs q.natAbs : Nat) : Int) = d at *
  have hdp : 0 < d := by omega
  have e1 : p.tdiv d = a := by rw [ha]; exact Int.mul_tdiv_cancel_left _ (by omega)
  have e2 : q.tdiv d = b := by rw [hb]; exact Int.mul_tdiv_cancel_left _ (by omega)
  have bnd : ∀ x y : Int, x = d * y → -1000 ≤ x → x ≤ 1000 → -1000 ≤ y ∧ y ≤ 1000 ∧ (x < 0 ↔ y < 0) ∧ (x = 0 ↔ y = 0) := by
    intro x y h h1 h2
    have k1 : 0 < y → y ≤ d * y := fun hy => by have := Int.mul_le_mul_of_nonneg_right (show 1 ≤ d by omega) (show 0 ≤ y by omega); omega
    have k2 : y < 0 → d * y ≤ y := fun hy => by have := Int.mul_le_mul_of_nonpos_right (show 1 ≤ d by omega) (show y ≤ 0 by omega); omega
    have k3 : y = 0 → d * y = 0 := fun hy => by rw [hy]; simp
    rw [← h] at k1 k2 k3
    rcases Int.lt_trichotomy y 0 with hy | hy | hy
    · have := k2 hy; omega
    · have := k3 hy; omega
    · have := k1 hy; omega
  have B1 := bnd p a ha hp.1 hp.2
  have B2 := bnd q b hb hq.1 hq.2
  exact ⟨d, a, b, rfl, hdp, by omega, e1, e2, ha, hb, by omega, by omega, by omega, by omega, B2.2.2.1, B2.2.2.2, B1.2.2.1⟩

theorem spec_l11Gcd_l0 (n : Nat) : ∀ a b : Int, b.natAbs ≤ n → a.natAbs ≤ 9223372036854775807 → b.natAbs ≤ 9223372036854775807 → EV (fun k => spec_l11Gcd.l0 k a b) ((Nat.gcd a.natAbs b.natAbs : Nat) : Int) := by
  induction n with
  | zero =>
    intro a b hb h1 h2
    obtain rfl : b = 0 := by omega
    refine EV.step (fun k => by rw [spec_l11Gcd.l0]) ?_
    refine EV.pos rfl (EV.by (spec_l3Abs_is a (by omega) (by omega)) ((EV.now _).eq (by simp)))
  | succ n ih =>
    intro a b hb h1 h2
    refine EV.step (fun k => by rw [spec_l11Gcd.l0]) ?_
    by_cases h : b = 0
    · subst h
      exact EV.pos rfl (EV.by (spec_l3Abs_is a (by omega) (by omega)) ((EV.now _).eq (by simp)))
    · have hm := tmod_lt a b h
      refine EV.neg h ((ih b (Int.tmod a b) (by omega) (by omega) (by omega)).eq ?_)
      rw [gcd_step]
theorem spec_l11Gcd_is (a b : Int) (h1 : a.natAbs ≤ 9223372036854775807) (h2 : b.natAbs ≤ 9223372036854775807) : EV (fun k => spec_l11Gcd.f k a b) ((Nat.gcd a.natAbs b.natAbs : Nat) : Int) :=
  spec_l11Gcd_l0 b.natAbs a b (Nat.le_refl _) h1 h2

theorem spec_IsSlope_is (p q : Int) : EV (fun k => spec_IsSlope.f k p q) (slopeB p q) := by
  unfold slopeB
  refine EV.by (spec_l1In_is _ _ _) ?_
  by_cases hp : -1000 ≤ p ∧ p ≤ 1000
  · refine EV.pos (by simpa using hp) (EV.by (spec_l1In_is _ _ _) ?_)
    by_cases hq : 0 ≤ q ∧ q ≤ 1000
    · refine EV.pos (by simpa using hq) ?_
      have G := spec_l11Gcd_is p q (by omega) (by omega)
      by_cases h0 : q = 0
      · refine EV.pos h0 ?_
        by_cases h1 : p = 1
        · refine EV.pos h1 (EV.bind G ((EV.now _).eq ?_))
          subst h1; subst h0; decide
        · exact EV.neg h1 ((EV.now _).eq (by simp [h0, h1]))
      · refine EV.neg h0 (EV.bind G ((EV.now _).eq ?_))
        have hq' : 0 < q := by omega
        simp only [hp, hq, hq', decide_true, Bool.true_and, Bool.true_or, Bool.and_true, and_self]
        rw [Bool.eq_iff_iff]; simp; omega
    · exact EV.neg (by simpa using hq) ((EV.now _).eq (by simp [hq]))
  · exact EV.neg (by simpa using hp) ((EV.now _).eq (by simp [hp]))

theorem spec_SlopeOf_is (p q : Int) : EV (fun k => spec_SlopeOf.f k p q) (slopeOfM p q) := by
  have no : ∀ p q : Int, EV (fun k => spec_SlopeOf.j0 k p q true) (0, 0, false) := fun p q => by
    refine EV.step (fun k => by rw [spec_SlopeOf.j0]) ?_
    exact EV.pos rfl (EV.now _)
  unfold slopeOfM
  refine EV.by (spec_l1In_is _ _ _) ?_
  by_cases hp : -1000 ≤ p ∧ p ≤ 1000
  · refine EV.pos (by simpa using hp) (EV.by (spec_l1In_is _ _ _) ?_)
    rw [if_pos hp]
    by_cases hq : -1000 ≤ q ∧ q ≤ 1000
    · rw [if_pos hq]
      refine EV.pos (by simpa using hq) ?_
      by_cases hz : p = 0 ∧ q = 0
      · rw [if_pos hz]
        obtain ⟨rfl, rfl⟩ := hz
        exact EV.pos rfl (no 0 0)
      · rw [if_neg hz]
        have main : EV (fun k => spec_SlopeOf.j0 k p q false) ((lowM p q).1, (lowM p q).2, true) := by
          obtain ⟨d, a, b, hd, d0, d1, ea, eb, _, _, a1, a2, b1, b2, sb, _, sa⟩ := low_of p q hp hq hz
          have e3 : p.tdiv (-d) = -a := by rw [Int.tdiv_neg, ea]
          have e4 : q.tdiv (-d) = -b := by rw [Int.tdiv_neg, eb]
          refine EV.step (fun k => by rw [spec_SlopeOf.j0]) ?_
          refine EV.neg (by simp) (EV.bind (spec_l11Gcd_is p q (by omega) (by omega)) ?_)
          unfold lowM
          simp only [hd, ea, eb, w64 (x := -d) (by omega) (by omega), e3, e4]
          rw [w64 (x := -a) (by omega) (by omega), w64 (x := -b) (by omega) (by omega), w64 (x := a) (by omega) (by omega), w64 (x := b) (by omega) (by omega)]
          by_cases hn : q < 0
          · refine EV.pos hn (EV.neg (by omega) ((EV.now _).eq ?_))
            rw [if_pos (Or.inl hn)]
          · refine EV.neg hn ?_
            by_cases h0 : q = 0
            · refine EV.pos h0 ?_
              by_cases hm : p < 0
              · refine EV.pos hm (EV.neg (by omega) ((EV.now _).eq ?_))
                rw [if_pos (Or.inr ⟨h0, hm⟩)]
              · refine EV.neg hm (EV.neg (by omega) ((EV.now _).eq ?_))
                rw [if_neg (by omega)]
            · refine EV.neg h0 (EV.neg (by omega) ((EV.now _).eq ?_))
              rw [if_neg (by omega)]
        by_cases h0 : p = 0
        · refine EV.pos h0 ?_
          have : (q == 0) = false := by simp; omega
          rw [this]; exact main
        · exact EV.neg h0 main
    · rw [if_neg hq]
      exact EV.neg (by simpa using hq) (no p q)
  · rw [if_neg hp]
    exact EV.neg (by simpa using hp) (no p q)

def crossM (a b c d : Int) : Int := if slopeB a b = true ∧ slopeB c d = true then ((a * d - b * c).natAbs : Int) else -1
theorem slopeB_bd {p q : Int} (h : slopeB p q = true) : -1000 ≤ p ∧ p ≤ 1000 ∧ 0 ≤ q ∧ q ≤ 1000 ∧ Nat.gcd p.natAbs q.natAbs = 1 ∧ (0 < q ∨ p = 1) := by
  unfold slopeB at h
  simp only [Bool.and_eq_true, Bool.or_eq_true, decide_eq_true_eq] at h
  omega
/-- a product of two numbers of bounded size -/
theorem mul_bd {x y : Int} (A B : Nat) (hx : x.natAbs ≤ A) (hy : y.natAbs ≤ B) : (x * y).natAbs ≤ A * B := by
  rw [Int.natAbs_mul]; exact Nat.mul_le_mul hx hy
theorem cross_w {a b c d : Int} (h1 : slopeB a b = true) (h2 : slopeB c d = true) : wrap64 (a * d) = a * d ∧ wrap64 (b * c) = b * c ∧ (a * d - b * c).natAbs ≤ 2000000 := by
  have b1 := slopeB_bd h1
  have b2 := slopeB_bd h2
  have m1 := mul_bd (x := a) (y := d) 1000 1000 (by omega) (by omega)
  have m2 := mul_bd (x := b) (y := c) 1000 1000 (by omega) (by omega)
  refine ⟨w64 (by omega) (by omega), w64 (by omega) (by omega), by omega⟩

def sumM (a b c d : Int) : Int × Int × Bool := if crossM a b c d = 1 then slopeOfM (a + c) (b + d) else (0, 0, false)
/-- (a, b) twists (c, d) -/
def twistSM (a b c d t : Int) : Int × Int × Bool :=
  if slopeB a b = true ∧ slopeB c d = true ∧ -20 ≤ t ∧ t ≤ 20 then slopeOfM (c + t * (c * b - d * a) * a) (d + t * (c * b - d * a) * b) else (0, 0, false)
theorem cross_one {a b c d : Int} (h : crossM a b c d = 1) : slopeB a b = true ∧ slopeB c d = true := by
  unfold crossM at h
  split at h
  · assumption
  · omega
theorem twist_w {a b c d t : Int} (h1 : slopeB a b = true) (h2 : slopeB c d = true) (h3 : -20 ≤ t ∧ t ≤ 20) :
    wrap64 (c * b) = c * b ∧ wrap64 (d * a) = d * a ∧ wrap64 (c * b - d * a) = c * b - d * a ∧ wrap64 (t * (c * b - d * a)) = t * (c * b - d * a) ∧
    wrap64 (t * (c * b - d * a) * a) = t * (c * b - d * a) * a ∧ wrap64 (t * (c * b - d * a) * b) = t * (c * b - d * a) * b ∧
    wrap64 (c + t * (c * b - d * a) * a) = c + t * (c * b - d * a) * a ∧ wrap64 (d + t * (c * b - d * a) * b) = d + t * (c * b - d * a) * b := by
  have b1 := slopeB_bd h1
  have b2 := slopeB_bd h2
  have m1 := mul_bd (x := c) (y := b) 1000 1000 (by omega) (by omega)
  have m2 := mul_bd (x := d) (y := a) 1000 1000 (by omega) (by omega)
  have m3 := mul_bd (x := t) (y := c * b - d * a) 20 2000000 (by omega) (by omega)
  have m4 := mul_bd (x := t * (c * b - d * a)) (y := a) 40000000 1000 (by omega) (by omega)
  have m5 := mul_bd (x := t * (c * b - d * a)) (y := b) 40000000 1000 (by omega) (by omega)
  refine ⟨w64 (by omega) (by omega), w64 (by omega) (by omega), w64 (by omega) (by omega), w64 (by omega) (by omega), w64 (by omega) (by omega), w64 (by omega) (by omega), w64 (by omega) (by omega), w64 (by omega) (by omega)⟩

theorem spec_TwistSlope_is (a b c d t : Int) : EV (fun k => spec_TwistSlope.f k a b c d t) (twistSM a b c d t) := by
  unfold twistSM
  refine EV.bind (spec_IsSlope_is a b) ?_
  by_cases h1 : slopeB a b = true
  · refine EV.pos h1 (EV.bind (spec_IsSlope_is c d) ?_)
    by_cases h2 : slopeB c d = true
    · refine EV.pos h2 (EV.by (spec_l1In_is _ _ _) ?_)
      by_cases h3 : -20 ≤ t ∧ t ≤ 20
      · rw [if_pos ⟨h1, h2, h3⟩]
        obtain ⟨e1, e2, e3, e4, e5, e6, e7, e8⟩ := twist_w h1 h2 h3
        rw [e1, e2, e3, e4, e5, e6, e7, e8]
        exact EV.pos (by simpa using h3) (EV.bind (spec_SlopeOf_is _ _) (EV.now _))
      · rw [if_neg (fun h => h3 h.2.2)]
        exact EV.neg (by simpa using h3) (EV.now _)
    · rw [if_neg (fun h => h2 h.2.1)]
      exact EV.neg h2 (EV.now _)
  · rw [if_neg (fun h => h1 h.1)]
    exact EV.neg h1 (EV.now _)

theorem impl_within_is (a b c : Int) : impl_within.f a b c = some (decide (b ≤ a ∧ a ≤ c)) := by
  unfold impl_within.f
  by_cases h : a ≥ b
  · rw [if_pos h]; simp [show b ≤ a from h]
  · rw [if_neg h]; simp; omega

theorem impl_size_is (a : Int) (h : -9223372036854775808 < a) (h' : a ≤ 9223372036854775807) : impl_size.f a = some (a.natAbs : Int) := by
  unfold impl_size.f mx
  rw [w64 (by omega) (by omega)]
  congr 1
  split <;> omega
theorem impl_size_some (a : Int) : ∃ r, impl_size.f a = some r := ⟨_, rfl⟩

theorem impl_gcd_l0 (n : Nat) : ∀ a b : Int, b.natAbs ≤ n → ∃ r, EV (fun k => impl_gcd.l0 k a b) r ∧ (0 ≤ a → 0 ≤ b → r = ((Nat.gcd a.natAbs b.natAbs : Nat) : Int)) := by
  induction n with
  | zero =>
    intro a b hb
    obtain rfl : b = 0 := by omega
    refine ⟨a, EV.step (fun k => by rw [impl_gcd.l0]) ?_, fun h _ => by simp; omega⟩
    exact EV.pos rfl (EV.now _)
  | succ n ih =>
    intro a b hb
    by_cases h : b = 0
    · subst h
      refine ⟨a, EV.step (fun k => by rw [impl_gcd.l0]) ?_, fun h _ => by simp; omega⟩
      exact EV.pos rfl (EV.now _)
    · have hm := tmod_lt a b h
      obtain ⟨r, hr, hv⟩ := ih b (Int.tmod a b) (by omega)
      refine ⟨r, EV.step (fun k => by rw [impl_gcd.l0]) ?_, fun ha hb' => ?_⟩
      · exact EV.neg h hr
      · rw [hv hb' (Int.tmod_nonneg _ ha), gcd_step]
theorem impl_gcd_is (a b : Int) (h1 : a.natAbs ≤ 9223372036854775807) (h2 : b.natAbs ≤ 9223372036854775807) : EV (fun k => impl_gcd.f k a b) ((Nat.gcd a.natAbs b.natAbs : Nat) : Int) := by
  obtain ⟨r, hr, hv⟩ := impl_gcd_l0 (b.natAbs : Int).natAbs (a.natAbs : Int) (b.natAbs : Int) (Nat.le_refl _)
  refine EV.by (impl_size_is a (by omega) (by omega)) (EV.by (impl_size_is b (by omega) (by omega)) (hr.eq ?_))
  rw [hv (by omega) (by omega)]; simp
theorem impl_gcd_some (a b : Int) : ∃ r, EV (fun k => impl_gcd.f k a b) r := by
  obtain ⟨x, hx⟩ := impl_size_some a
  obtain ⟨y, hy⟩ := impl_size_some b
  obtain ⟨r, hr, _⟩ := impl_gcd_l0 y.natAbs x y (Nat.le_refl _)
  exact ⟨r, EV.by hx (EV.by hy hr)⟩

theorem impl_IsSlope_is (p q : Int) : EV (fun k => impl_IsSlope.f k p q) (slopeB p q) := by
  unfold slopeB
  refine EV.by (impl_within_is _ _ _) ?_
  by_cases hp : -1000 ≤ p ∧ p ≤ 1000
  · refine EV.pos (by simpa using hp) (EV.by (impl_within_is _ _ _) ?_)
    by_cases hq : 0 ≤ q ∧ q ≤ 1000
    · refine EV.pos (by simpa using hq) (EV.bind (impl_gcd_is p q (by omega) (by omega)) ?_)
      by_cases hg : Nat.gcd p.natAbs q.natAbs = 1
      · refine EV.pos (by omega) ?_
        by_cases h0 : q > 0
        · exact EV.pos h0 ((EV.now _).eq (by simp [hp, hq, hg]; omega))
        · exact EV.neg h0 ((EV.now _).eq (by simp [hp, hq, hg]; rw [Bool.eq_iff_iff]; simp; omega))
      · exact EV.neg (by omega) ((EV.now _).eq (by simp [hg]))
    · exact EV.neg (by simpa using hq) ((EV.now _).eq (by simp [hq]))
  · exact EV.neg (by simpa using hp) ((EV.now _).eq (by simp [hp]))

theorem impl_lowest_is (p q : Int) (hp : -1000 ≤ p ∧ p ≤ 1000) (hq : -1000 ≤ q ∧ q ≤ 1000) (hz : ¬ (p = 0 ∧ q = 0)) : EV (fun k => impl_lowest.f k p q) (lowM p q) := by
  obtain ⟨d, a, b, hd, d0, d1, ea, eb, _, _, a1, a2, b1, b2, sb, zb, sa⟩ := low_of p q hp hq hz
  refine EV.bind (impl_gcd_is p q (by omega) (by omega)) ?_
  unfold lowM
  simp only [hd, ea, eb]
  rw [w64 (x := a) (by omega) (by omega), w64 (x := b) (by omega) (by omega), w64 (x := -a) (by omega) (by omega), w64 (x := -b) (by omega) (by omega)]
  refine EV.neg (by omega) ?_
  by_cases hn : b < 0
  · refine EV.pos hn ((EV.now _).eq ?_)
    rw [if_pos (by omega)]
  · refine EV.neg hn ?_
    by_cases h0 : b = 0
    · refine EV.pos h0 ?_
      by_cases hm : a < 0
      · refine EV.pos hm ((EV.now _).eq ?_)
        rw [if_pos (by omega)]
      · refine EV.neg hm ((EV.now _).eq ?_)
        rw [if_neg (by omega)]
    · refine EV.neg h0 ((EV.now _).eq ?_)
      rw [if_neg (by omega)]

theorem impl_SlopeOf_is (p q : Int) : EV (fun k => impl_SlopeOf.f k p q) (slopeOfM p q) := by
  unfold slopeOfM
  have main : ¬ (p = 0 ∧ q = 0) → EV (fun k => (impl_within.f p (-1000) 1000).bind fun t112 => (if t112 = true then ((impl_within.f q (-1000) 1000).bind fun t113 => (if t113 = true then ((impl_lowest.f k p q).bind fun bt114 => (some (bt114.1, bt114.2, true))) else (some (0, 0, false)))) else (some (0, 0, false))))
      (if -1000 ≤ p ∧ p ≤ 1000 then (if -1000 ≤ q ∧ q ≤ 1000 then (if p = 0 ∧ q = 0 then (0, 0, false) else ((lowM p q).1, (lowM p q).2, true)) else (0, 0, false)) else (0, 0, false)) := by
    intro hz
    refine EV.by (impl_within_is _ _ _) ?_
    by_cases hp : -1000 ≤ p ∧ p ≤ 1000
    · rw [if_pos hp]
      refine EV.pos (by simpa using hp) (EV.by (impl_within_is _ _ _) ?_)
      by_cases hq : -1000 ≤ q ∧ q ≤ 1000
      · rw [if_pos hq, if_neg hz]
        exact EV.pos (by simpa using hq) (EV.bind (impl_lowest_is p q hp hq hz) (EV.now _))
      · rw [if_neg hq]
        exact EV.neg (by simpa using hq) (EV.now _)
    · rw [if_neg hp]
      exact EV.neg (by simpa using hp) (EV.now _)
  by_cases h0 : p = 0
  · refine EV.pos h0 ?_
    by_cases h1 : q = 0
    · refine EV.pos h1 ((EV.now _).eq ?_)
      subst h0; subst h1; decide
    · exact EV.neg h1 (main (by omega))
  · exact EV.neg h0 (main (by omega))

theorem impl_TwistSlope_is (a b c d t : Int) : EV (fun k => impl_TwistSlope.f k a b c d t) (twistSM a b c d t) := by
  unfold twistSM
  refine EV.bind (impl_IsSlope_is a b) ?_
  by_cases h1 : slopeB a b = true
  · refine EV.pos h1 (EV.bind (impl_IsSlope_is c d) ?_)
    by_cases h2 : slopeB c d = true
    · refine EV.pos h2 (EV.by (impl_within_is _ _ _) ?_)
      by_cases h3 : -20 ≤ t ∧ t ≤ 20
      · rw [if_pos ⟨h1, h2, h3⟩]
        obtain ⟨e1, e2, e3, e4, e5, e6, e7, e8⟩ := twist_w h1 h2 h3
        rw [e1, e2, e3, e4, e5, e6, e7, e8]
        exact EV.pos (by simpa using h3) (EV.bind (impl_SlopeOf_is _ _) (EV.now _))
      · rw [if_neg (fun h => h3 h.2.2)]
        exact EV.neg (by simpa using h3) (EV.now _)
    · rw [if_neg (fun h => h2 h.2.1)]
      exact EV.neg h2 (EV.now _)
  · rw [if_neg (fun h => h1 h.1)]
    exact EV.neg h1 (EV.now _)

theorem FnExactTwistSlope (a : Int) (ha : (Lit.int .i64 a).wf = true) (b : Int) (hb : (Lit.int .i64 b).wf = true) (c : Int) (hc : (Lit.int .i64 c).wf = true) (d : Int) (hd : (Lit.int .i64 d).wf = true) (t : Int) (ht : (Lit.int .i64 t).wf = true) : ∃ k, laws_FnExactTwistSlope.f k a b c d t = some true :=
  EV.rounds (EV.by (laws_toSlope_is a b) (EV.by (laws_toSlope_is c d) (EV.bind (spec_TwistSlope_is a b c d t) (EV.by (laws_toSlope_is a b) (EV.by (laws_toSlope_is c d) (EV.bind (impl_TwistSlope_is a b c d t) (EV.by (laws_eqSlope_self _ _) (EV.pos rfl (EV.neg (by simp) (EV.now _))))))))))

end Go.Proofs.Ytdkjppbemhpkmaa.Pure
