/- Pure side of FnExactParseSlope: the printed functions of the program and of the reference answer alike at every input that the statement takes; no condition beyond the printed statement's bounds. -/
import Derived.Test.YtkjflikcifcnkaaDoorPFnExactParseSlopex5
import Derived.Test.YtkjflikcifcnkaaDoorWSized
set_option linter.unusedVariables false
set_option linter.unusedSimpArgs false
set_option linter.unnecessarySimpa false
set_option maxRecDepth 10000
/-- the printed row calls the print's word by this name -/
abbrev Go.Proofs.YtkjflikcifcnkaaDoor.PrintWords.sized_ints := @Go.Proofs.YtkjflikcifcnkaaDoorW.PrintWords.sized_ints
namespace Go.Proofs.YtkjflikcifcnkaaDoor.Pure
open Go.RowKit Go.Proofs.YtkjflikcifcnkaaDoor.PFnExactParseSlope Go.Proofs.YtkjflikcifcnkaaDoorW.PrintWords Go.Proofs.YtkjflikcifcnkaaDoorW.PrintLast Go.Proofs.YtkjflikcifcnkaaDoorW.PrintMore

/-! ### Base: words of our own, of no program -/
section
theorem w64 {x : Int} (h1 : -9223372036854775808 ≤ x) (h2 : x ≤ 9223372036854775807) : wrap64 x = x := by
  unfold wrap64; omega
theorem wf64 {x : Int} (h : (Lit.int .i64 x).wf = true) : -9223372036854775808 ≤ x ∧ x ≤ 9223372036854775807 := by
  simp only [Lit.wf, IntKind.min, IntKind.max, IntKind.signed, IntKind.bits, Bool.and_eq_true, decide_eq_true_eq, if_true] at h
  omega
/-- from some number of rounds on it answers r -/
structure EV {α : Type} (g : Nat → Option α) (r : α) : Prop where mk :: (out : ∃ K, ∀ k, K ≤ k → g k = some r)
theorem EV.now {α : Type} (r : α) : EV (fun _ => some r) r := ⟨0, fun _ _ => rfl⟩
theorem EV.rounds {α : Type} {g : Nat → Option α} {r : α} (h : EV g r) : ∃ k, g k = some r := by
  obtain ⟨K, h⟩ := h
  exact ⟨K, h K (Nat.le_refl _)⟩
theorem EV.bind {α β : Type} {g : Nat → Option α} {f : Nat → α → Option β} {a : α} {r : β} (h : EV g a) (k : EV (fun n => f n a) r) : EV (fun n => (g n).bind (f n)) r := by
  obtain ⟨K, h⟩ := h
  obtain ⟨K', k⟩ := k
  refine ⟨max K K', fun n hn => ?_⟩
  have h1 := h n (by omega)
  have h2 := k n (by omega)
  simp only [h1, Option.bind_some]
  exact h2
theorem EV.step {α : Type} {g f : Nat → Option α} {r : α} (h : ∀ k, g (k + 1) = f k) (k : EV f r) : EV g r := by
  obtain ⟨K, k⟩ := k
  refine ⟨K + 1, fun n hn => ?_⟩
  obtain ⟨m, rfl⟩ : ∃ m, n = m + 1 := ⟨n - 1, by omega⟩
  rw [h]
  exact k m (by omega)
theorem EV.congr {α : Type} {g f : Nat → Option α} {r : α} (h : ∀ k, g k = f k) (k : EV f r) : EV g r := by
  obtain ⟨K, k⟩ := k
  exact ⟨K, fun n hn => (h n).trans (k n hn)⟩
theorem EV.pos {α : Type} {c : Prop} [Decidable c] {a b : Nat → Option α} {r : α} (h : c) (k : EV a r) : EV (fun n => if c then a n else b n) r :=
  EV.congr (fun n => if_pos h) k
theorem EV.neg {α : Type} {c : Prop} [Decidable c] {a b : Nat → Option α} {r : α} (h : ¬ c) (k : EV b r) : EV (fun n => if c then a n else b n) r :=
  EV.congr (fun n => if_neg h) k
theorem EV.cases {α : Type} {c : Prop} [Decidable c] {a b : Nat → Option α} {r : α} (h : c → EV a r) (h' : ¬ c → EV b r) : EV (fun n => if c then a n else b n) r := by
  by_cases hc : c
  · exact EV.pos hc (h hc)
  · exact EV.neg hc (h' hc)
/-- a callee without rounds -/
theorem EV.by {α β : Type} {g : Option α} {f : Nat → α → Option β} {a : α} {r : β} (h : g = some a) (k : EV (fun n => f n a) r) : EV (fun n => g.bind (f n)) r := by
  subst h; exact k
theorem EV.is {α : Type} {g : Option α} {r : α} (h : g = some r) : EV (fun _ => g) r := ⟨0, fun _ _ => h⟩
theorem EV.eq {α : Type} {g : Nat → Option α} {r r' : α} (h : EV g r) (e : r = r') : EV g r' := e ▸ h
theorem rd_app (pre : List Int) (x : Int) (suf : List Int) : rd (pre ++ x :: suf) (pre.length : Int) = x := by
  simp [rd]
theorem rd_nat (xs : List Int) (i : Nat) (h : i < xs.length) : rd xs (i : Int) = xs[i] := by
  simp [rd, h]
theorem set_app {α : Type} (pre : List α) (x y : α) (suf : List α) (n : Nat) (hn : n = pre.length) : (pre ++ x :: suf).set n y = pre ++ y :: suf := by
  subst hn; simp
end
def smallB (x : Int) : Bool := decide (-1000 ≤ x ∧ x ≤ 1000)
/-- one index on -/
theorem up {α : Type} {x : α} {pre : List α} (h : pre.length < 4611686018427387904) : wrap64 ((pre.length : Int) + 1) = ((pre ++ [x]).length : Int) := by
  rw [w64 (by omega) (by omega)]; simp
theorem lt_app {α : Type} (pre : List α) (x : α) (suf : List α) : (pre.length : Int) < ((pre ++ x :: suf).length : Int) := by simp; omega
def classB (g : Int) (xs : List Int) : Bool := decide (1 ≤ g ∧ g ≤ 3) && (decide ((xs.length : Int) = 2 * g) && xs.all smallB)
theorem EV.uniq {α : Type} {g : Nat → Option α} {r r' : α} (h : EV g r) (h' : EV g r') : r = r' := by
  obtain ⟨K, h⟩ := h
  obtain ⟨K', h'⟩ := h'
  have a := h (max K K') (by omega)
  have b := h' (max K K') (by omega)
  rw [a] at b; exact Option.some.inj b
/-- from some number of rounds on -/
def Evt (P : Nat → Prop) : Prop := ∃ K, ∀ k, K ≤ k → P k
theorem Evt.and {P Q : Nat → Prop} (h : Evt P) (h' : Evt Q) : Evt (fun k => P k ∧ Q k) := by
  obtain ⟨K, h⟩ := h
  obtain ⟨K', h'⟩ := h'
  exact ⟨max K K', fun k hk => ⟨h k (by omega), h' k (by omega)⟩⟩
theorem Evt.const {p : Prop} (h : p) : Evt (fun _ => p) := ⟨0, fun _ _ => h⟩
theorem EV.evt {α : Type} {g : Nat → Option α} {r : α} (h : EV g r) : Evt (fun k => g k = some r) := h.out
theorem Evt.imp {P Q : Nat → Prop} (h : Evt P) (f : ∀ k, P k → Q k) : Evt Q := by
  obtain ⟨K, h⟩ := h
  exact ⟨K, fun k hk => f k (h k hk)⟩
theorem Evt.rounds {P : Nat → Prop} (h : Evt P) : ∃ k, P k := by
  obtain ⟨K, h⟩ := h
  exact ⟨K, h K (Nat.le_refl _)⟩
theorem EV.mono {α : Type} {g : Nat → Option α} (hg : ∀ k, LeO (g k) (g (k + 1))) {k : Nat} {r : α} (h : g k = some r) : EV g r := ⟨k, fun _ hk => at_rounds hg hk h⟩

theorem spec_l1In_is (a b c : Int) : spec_l1In.f a b c = some (decide (b ≤ a ∧ a ≤ c)) := by
  unfold spec_l1In.f
  by_cases h : a ≥ b
  · rw [if_pos h]; simp [show b ≤ a from h]
  · rw [if_neg h]; simp; omega

theorem spec_l1Max_is (a b : Int) : spec_l1Max.f a b = some (if a > b then a else b) := by
  unfold spec_l1Max.f; split <;> rfl

theorem spec_l3Abs_is (a : Int) (h : -9223372036854775808 < a) (h' : a ≤ 9223372036854775807) : spec_l3Abs.f a = some (a.natAbs : Int) := by
  unfold spec_l3Abs.f
  rw [spec_l1Max_is, w64 (by omega) (by omega)]
  simp only [Option.bind_some]
  congr 1
  split <;> omega

theorem gcd_step (a b : Int) : Nat.gcd b.natAbs (Int.tmod a b).natAbs = Nat.gcd a.natAbs b.natAbs := by
  rw [Int.natAbs_tmod, Nat.gcd_comm b.natAbs, ← Nat.gcd_rec, Nat.gcd_comm]
theorem tmod_lt (a b : Int) (h : b ≠ 0) : (Int.tmod a b).natAbs < b.natAbs := by
  rw [Int.natAbs_tmod]; exact Nat.mod_lt _ (by omega)
def slopeB (p q : Int) : Bool := decide (-1000 ≤ p ∧ p ≤ 1000) && (decide (0 ≤ q ∧ q ≤ 1000) && (decide (Nat.gcd p.natAbs q.natAbs = 1) && (decide (0 < q) || decide (p = 1))))
/-- p, q by their greatest common divisor, the sign so that q is above 0, or p -/
def lowM (p q : Int) : Int × Int :=
  let d : Int := (Nat.gcd p.natAbs q.natAbs : Nat)
  if q < 0 ∨ (q = 0 ∧ p < 0) then (-(p.tdiv d), -(q.tdiv d)) else (p.tdiv d, q.tdiv d)
def slopeOfM (p q : Int) : Int × Int × Bool :=
  if -1000 ≤ p ∧ p ≤ 1000 then (if -1000 ≤ q ∧ q ≤ 1000 then (if p = 0 ∧ q = 0 then (0, 0, false) else ((lowM p q).1, (lowM p q).2, true)) else (0, 0, false)) else (0, 0, false)
theorem low_of (p q : Int) (hp : -1000 ≤ p ∧ p ≤ 1000) (hq : -1000 ≤ q ∧ q ≤ 1000) (hz : ¬ (p = 0 ∧ q = 0)) :
    ∃ d a b : Int, ((Nat.gcd p.natAbs q.natAbs : Nat) : Int) = d ∧ 0 < d ∧ d ≤ 1000 ∧ p.tdiv d = a ∧ q.tdiv d = b ∧ p = d * a ∧ q = d * b ∧ -1000 ≤ a ∧ a ≤ 1000 ∧ -1000 ≤ b ∧ b ≤ 1000 ∧ (q < 0 ↔ b < 0) ∧ (q = 0 ↔ b = 0) ∧ (p < 0 ↔ a < 0) := by
  have hg : 0 < Nat.gcd p.natAbs q.natAbs := by
    rcases Nat.eq_zero_or_pos (Nat.gcd p.natAbs q.natAbs) with h | h
    · have := Nat.gcd_eq_zero_iff.1 h; omega
    · exact h
  have h1 : Nat.gcd p.natAbs q.natAbs ≤ 1000 := by
    by_cases h : p = 0
    · have := Nat.gcd_le_right p.natAbs (n := q.natAbs) (by omega); omega
    · have := Nat.gcd_le_left q.natAbs (m := p.natAbs) (by omega); omega
  obtain ⟨a, ha⟩ : ∃ a, p = ((Nat.gcd p.natAbs q.natAbs : Nat) : Int) * a := Int.ofNat_dvd_left.2 (Nat.gcd_dvd_left ..)
  obtain ⟨b, hb⟩ : ∃ b, q = ((Nat.gcd p.natAbs q.natAbs : Nat) : Int) * b := Int.ofNat_dvd_left.2 (Nat.gcd_dvd_right ..)
  generalize hd : ((Nat.gcd p.natAbs q.natAbs : Nat) : Int) = d at *
  have hdp : 0 < d := by omega
  have e1 : p.tdiv d = a := by rw [ha]; exact Int.mul_tdiv_cancel_left _ (by omega)
  have e2 : q.tdiv d = b := by rw [hb]; exact Int.mul_tdiv_cancel_left _ (by omega)
  have bnd : ∀ x y : Int, x = d * y → -1000 ≤ x → x ≤ 1000 → -1000 ≤ y ∧ y ≤ 1000 ∧ (x < 0 ↔ y < 0) ∧ (x = 0 ↔ y = 0) := by
    intro x y h h1 h2
    have k1 : 0 < y → y ≤ d * y := fun hy => by have := Int.mul_le_mul_of_nonneg_right (show 1 ≤ d by omega) (show 0 ≤ y by omega); omega
    have k2 : y < 0 → d * y ≤ y := fun hy => by have := Int.mul_le_mul_of_nonpos_right (show 1 ≤ d by omega) (show y ≤ 0 by omega); omega
    have k3 : y = 0 → d * y = 0 := fun hy => by rw [hy]; simp
    rw [← h] at k1 k2 k3
    rcases Int.lt_trichotomy y 0 with hy | hy | hy
    · have := k2 hy; omega
    · have := k3 hy; omega
    · have := k1 hy; omega
  have B1 := bnd p a ha hp.1 hp.2
  have B2 := bnd q b hb hq.1 hq.2
  exact ⟨d, a, b, rfl, hdp, by omega, e1, e2, ha, hb, by omega, by omega, by omega, by omega, B2.2.2.1, B2.2.2.2, B1.2.2.1⟩

theorem spec_l11Gcd_l0 (n : Nat) : ∀ a b : Int, b.natAbs ≤ n → a.natAbs ≤ 9223372036854775807 → b.natAbs ≤ 9223372036854775807 → EV (fun k => spec_l11Gcd.l0 k a b) ((Nat.gcd a.natAbs b.natAbs : Nat) : Int) := by
  induction n with
  | zero =>
    intro a b hb h1 h2
    obtain rfl : b = 0 := by omega
    refine EV.step (fun k => by rw [spec_l11Gcd.l0]) ?_
    refine EV.pos rfl (EV.by (spec_l3Abs_is a (by omega) (by omega)) ((EV.now _).eq (by simp)))
  | succ n ih =>
    intro a b hb h1 h2
    refine EV.step (fun k => by rw [spec_l11Gcd.l0]) ?_
    by_cases h : b = 0
    · subst h
      exact EV.pos rfl (EV.by (spec_l3Abs_is a (by omega) (by omega)) ((EV.now _).eq (by simp)))
    · have hm := tmod_lt a b h
      refine EV.neg h ((ih b (Int.tmod a b) (by omega) (by omega) (by omega)).eq ?_)
      rw [gcd_step]
theorem spec_l11Gcd_is (a b : Int) (h1 : a.natAbs ≤ 9223372036854775807) (h2 : b.natAbs ≤ 9223372036854775807) : EV (fun k => spec_l11Gcd.f k a b) ((Nat.gcd a.natAbs b.natAbs : Nat) : Int) :=
  spec_l11Gcd_l0 b.natAbs a b (Nat.le_refl _) h1 h2

theorem spec_IsSlope_is (p q : Int) : EV (fun k => spec_IsSlope.f k p q) (slopeB p q) := by
  unfold slopeB
  refine EV.by (spec_l1In_is _ _ _) ?_
  by_cases hp : -1000 ≤ p ∧ p ≤ 1000
  · refine EV.pos (by simpa using hp) (EV.by (spec_l1In_is _ _ _) ?_)
    by_cases hq : 0 ≤ q ∧ q ≤ 1000
    · refine EV.pos (by simpa using hq) ?_
      have G := spec_l11Gcd_is p q (by omega) (by omega)
      by_cases h0 : q = 0
      · refine EV.pos h0 ?_
        by_cases h1 : p = 1
        · refine EV.pos h1 (EV.bind G ((EV.now _).eq ?_))
          subst h1; subst h0; decide
        · exact EV.neg h1 ((EV.now _).eq (by simp [h0, h1]))
      · refine EV.neg h0 (EV.bind G ((EV.now _).eq ?_))
        have hq' : 0 < q := by omega
        simp only [hp, hq, hq', decide_true, Bool.true_and, Bool.true_or, Bool.and_true, and_self]
        rw [Bool.eq_iff_iff]; simp; omega
    · exact EV.neg (by simpa using hq) ((EV.now _).eq (by simp [hq]))
  · exact EV.neg (by simpa using hp) ((EV.now _).eq (by simp [hp]))

/-- the pieces of s between the bytes c, from i on, the running piece begun at st; n bytes are left -/
def spM (s : ByteArray) (c : Int) : Nat → Nat → Nat → List ByteArray
  | 0, st, i => [s.extract st i]
  | n + 1, st, i => if bt s (i : Int) = c then s.extract st i :: spM s c n (i + 1) (i + 1) else spM s c n st (i + 1)
def splitM (s : ByteArray) (c : Int) : List ByteArray := spM s c s.size 0 0

theorem spec_SplitByte_l0 (s : ByteArray) (c : Int) (hs : s.size ≤ 1048576) : ∀ (n st i : Nat) (acc : List ByteArray), i + n = s.size → st ≤ i → acc.length ≤ i →
    EV (fun k => spec_SplitByte.l0 k s c acc (st : Int) (i : Int)) (acc ++ spM s c n st i) := by
  intro n
  induction n with
  | zero =>
    intro st i acc h hst ha
    refine EV.step (fun k => by rw [spec_SplitByte.l0]) ?_
    rw [w64 (x := (i : Int) + 1) (by omega) (by omega)]
    refine EV.pos (by omega) (EV.pos (by omega) (EV.pos (by omega) (EV.pos (by omega) (EV.pos (by omega) ?_))))
    refine EV.step (fun k => by rw [spec_SplitByte.l0]) ?_
    exact EV.neg (by omega) ((EV.now _).eq (by simp [spM]))
  | succ n ih =>
    intro st i acc h hst ha
    refine EV.step (fun k => by rw [spec_SplitByte.l0]) ?_
    rw [w64 (x := (i : Int) + 1) (by omega) (by omega)]
    refine EV.pos (by omega) (EV.neg (by omega) (EV.pos (by omega) (EV.pos (by omega) ?_)))
    refine EV.cases (fun hc => ?_) (fun hc => ?_)
    · refine EV.pos (by omega) (EV.pos (by omega) (EV.pos (by omega) ?_))
      have := ih (i + 1) (i + 1) (acc ++ [s.extract st i]) (by omega) (by omega) (by simp; omega)
      refine EV.congr (fun k => by simp) (this.eq ?_)
      simp [spM, hc]
    · have := ih st (i + 1) acc (by omega) (by omega) (by omega)
      refine EV.congr (fun k => by simp) (this.eq ?_)
      simp [spM, hc]
theorem spec_SplitByte_is (s : ByteArray) (c : Int) (hs : s.size ≤ 1048576) : EV (fun k => spec_SplitByte.f k s c) (splitM s c) := by
  have := spec_SplitByte_l0 s c hs s.size 0 0 [] (by omega) (by omega) (by simp)
  exact this

/-- the decimal numeral -/
def fmtM (n : Int) : ByteArray := ⟨(Lib.itoa n).toArray⟩
def bs (l : List UInt8) : ByteArray := ⟨l.toArray⟩
theorem bs_app (a b : List UInt8) : bs a ++ bs b = bs (a ++ b) := by
  apply ByteArray.ext
  simp [bs]
theorem bs_size (a : List UInt8) : (bs a).size = a.length := by simp [bs, ByteArray.size]
theorem digs_len (d : Nat) : ∀ u, 0 < u → u < 10 ^ d → (Lib.decDigits u).length ≤ d := by
  induction d with
  | zero => intro u h0 h; simp at h; omega
  | succ d ih =>
    intro u h0 h
    rw [Lib.decDigits]
    by_cases c : u < 10
    · rw [dif_pos c]; simp
    · rw [dif_neg c]
      have := ih (u / 10) (by omega) (by rw [Nat.pow_succ] at h; omega)
      simp; omega
theorem fmtM_size (n : Int) (h1 : -9223372036854775808 ≤ n) (h2 : n ≤ 9223372036854775807) : (fmtM n).size ≤ 21 := by
  have a : ∀ u : Nat, u < 10 ^ 20 → (Lib.decDigits u).length ≤ 20 := by
    intro u hu
    by_cases h : u = 0
    · subst h; rw [Lib.decDigits]; simp
    · exact digs_len 20 u (by omega) hu
  show (bs (Lib.itoa n)).size ≤ 21
  rw [bs_size]; unfold Lib.itoa
  split
  · have := a n.natAbs (by omega); simp; omega
  · have := a n.toNat (by omega); omega
theorem wrap_neg (a : Int) (h : -100 ≤ a ∧ a ≤ 100) : wrap64 (-a) = -a := w64 (by omega) (by omega)

theorem spec_FormatInt_l0 (b : Bool) : ∀ (d : Nat) (n : Int) (out : List UInt8), n.natAbs < 10 ^ d → -9223372036854775808 ≤ n → n ≤ 9223372036854775807 → out.length + d ≤ 50 →
    EV (fun k => spec_FormatInt.l0 k n b (bs out)) (bs ((if b = true then [45] else []) ++ ((if n = 0 then [] else Lib.decDigits n.natAbs) ++ out))) := by
  intro d
  induction d with
  | zero =>
    intro n out h _ _ hs
    have h0 : n = 0 := by simp at h; omega
    refine EV.step (fun k => by rw [spec_FormatInt.l0]) (EV.pos h0 ?_)
    refine EV.cases (fun hb => ?_) (fun hb => (EV.now _).eq (by simp [hb, h0]))
    exact EV.pos (by rw [bs_size]; omega) ((EV.now _).eq (by show bs [45] ++ bs out = _; rw [bs_app]; simp [hb, h0]))
  | succ d ih =>
    intro n out h h1 h2 hs
    refine EV.step (fun k => by rw [spec_FormatInt.l0]) ?_
    by_cases h0 : n = 0
    · refine EV.pos h0 ?_
      refine EV.cases (fun hb => ?_) (fun hb => (EV.now _).eq (by simp [hb, h0]))
      exact EV.pos (by rw [bs_size]; omega) ((EV.now _).eq (by show bs [45] ++ bs out = _; rw [bs_app]; simp [hb, h0]))
    · have q1 : (Int.tdiv n 10).natAbs = n.natAbs / 10 := by rw [Int.natAbs_tdiv]; rfl
      have q2 : (Int.tmod n 10).natAbs = n.natAbs % 10 := by rw [Int.natAbs_tmod]; rfl
      have hm : n.natAbs % 10 < 10 := Nat.mod_lt _ (by omega)
      have e : wrap64 (Int.tdiv n 10) = Int.tdiv n 10 := w64 (by omega) (by omega)
      have key : ∀ c : Int, c = 48 + ((n.natAbs % 10 : Nat) : Int) →
          EV (fun k => (some ([c % 256] : List Int)).bind fun y => if (strOfNums y).size + (bs out).size ≤ 9223372036854775807 then spec_FormatInt.l0 k (wrap64 (Int.tdiv n 10)) b (strOfNums y ++ bs out) else none)
            (bs ((if b = true then [45] else []) ++ ((if n = 0 then [] else Lib.decDigits n.natAbs) ++ out))) := by
        intro c hc
        have e1 : strOfNums [c % 256] = bs [UInt8.ofNat (48 + n.natAbs % 10)] := by
          have : (c % 256).toNat = 48 + n.natAbs % 10 := by omega
          simp only [strOfNums, bs, List.map_cons, List.map_nil, this]
        refine EV.by rfl ?_
        rw [e1, bs_app, e]
        refine EV.pos (by rw [bs_size, bs_size]; simp; omega) ((ih (Int.tdiv n 10) _ (by rw [q1]; rw [Nat.pow_succ] at h; omega) (by omega) (by omega) (by simp; omega)).eq ?_)
        congr 2
        rw [if_neg h0, q1]
        conv => rhs; rw [Lib.decDigits]
        by_cases c10 : n.natAbs < 10
        · rw [dif_pos c10, if_pos (by omega), Nat.mod_eq_of_lt c10]; simp
        · rw [dif_neg c10, if_neg (by omega)]; simp
      refine EV.neg h0 (EV.cases (fun hn => ?_) (fun hn => ?_))
      · exact key _ (by rw [wrap_neg _ (by omega), w64 (by omega) (by omega)]; omega)
      · exact key _ (by rw [w64 (by omega) (by omega)]; omega)
theorem spec_FormatInt_is (n : Int) (h1 : -9223372036854775808 ≤ n) (h2 : n ≤ 9223372036854775807) : EV (fun k => spec_FormatInt.f k n) (fmtM n) := by
  unfold spec_FormatInt.f
  refine EV.cases (fun h => (EV.now _).eq ?_) (fun h => (spec_FormatInt_l0 (decide (n < 0)) 20 n [] (by omega) h1 h2 (by simp)).eq ?_)
  · subst h
    show bs [48] = bs (Lib.itoa 0)
    unfold Lib.itoa
    rw [if_neg (by omega), Lib.decDigits]; rfl
  · show _ = bs (Lib.itoa n)
    unfold Lib.itoa
    by_cases hn : n < 0
    · simp [hn, h]
    · have : n.toNat = n.natAbs := by omega
      simp [hn, h, this]

/-- the value of a row of digits behind acc -/
def valL : List UInt8 → Nat → Option Nat
  | [], acc => some acc
  | c :: r, acc => if 48 ≤ c.toNat ∧ c.toNat ≤ 57 then valL r (10 * acc + (c.toNat - 48)) else none
theorem valL_app (a b : List UInt8) (acc : Nat) : valL (a ++ b) acc = (valL a acc).bind (fun v => valL b v) := by
  induction a generalizing acc with
  | nil => rfl
  | cons c r ih =>
    simp only [List.cons_append, valL]
    split
    · exact ih _
    · rfl
theorem valL_digs (u : Nat) : valL (Lib.decDigits u) 0 = some u := by
  induction u using Nat.strongRecOn with
  | ind u ih =>
    rw [Lib.decDigits]
    by_cases h : u < 10
    · have e : (UInt8.ofNat (48 + u)).toNat = 48 + u := by simp; omega
      rw [dif_pos h]; simp only [valL, e]
      rw [if_pos (by omega)]; congr 1; omega
    · have e : (UInt8.ofNat (48 + u % 10)).toNat = 48 + u % 10 := by simp; omega
      rw [dif_neg h, valL_app, ih (u / 10) (by omega), Option.bind_some]
      simp only [valL, e]
      rw [if_pos (by omega)]; congr 1; omega
theorem valL_lt : ∀ (l : List UInt8) (d acc v : Nat), acc < 10 ^ d → valL l acc = some v → v < 10 ^ (d + l.length)
  | [], d, acc, v, h, e => by simp only [valL, Option.some.injEq] at e; subst e; exact h
  | c :: r, d, acc, v, h, e => by
    simp only [valL] at e
    split at e
    · rename_i hc
      have := valL_lt r (d + 1) _ v (by rw [Nat.pow_succ]; omega) e
      rw [List.length_cons, show d + (r.length + 1) = d + 1 + r.length by omega]; exact this
    · cases e
theorem valL_ge : ∀ (l : List UInt8) (acc v : Nat), valL l acc = some v → acc ≤ v
  | [], acc, v, e => by simp only [valL, Option.some.injEq] at e; omega
  | c :: r, acc, v, e => by
    simp only [valL] at e
    split at e
    · have := valL_ge r _ v e; omega
    · cases e
theorem parse_val : ∀ (l : List UInt8) (acc v : Nat), valL l acc = some v → v < 1000000000000000000 → Lib.parseUint10 acc l = .ok v
  | [], acc, v, e, _ => by simp only [valL, Option.some.injEq] at e; simp only [Lib.parseUint10, e]
  | c :: r, acc, v, e, h => by
    simp only [valL] at e
    split at e
    · rename_i hc
      have g := valL_ge r _ v e
      simp only [Lib.parseUint10]
      rw [if_pos hc, if_neg (by omega), if_neg (by omega)]
      have := parse_val r _ v e h
      rw [show acc * 10 + (c.toNat - 48) = 10 * acc + (c.toNat - 48) by omega]; exact this
    · cases e
theorem digs_head (u : Nat) : ∃ c r, Lib.decDigits u = c :: r ∧ 48 ≤ c.toNat ∧ c.toNat ≤ 57 := by
  have h := valL_digs u
  cases e : Lib.decDigits u with
  | nil =>
    rw [Lib.decDigits] at e
    split at e <;> simp at e
  | cons c r =>
    rw [e] at h
    simp only [valL] at h
    split at h
    · exact ⟨c, r, rfl, by assumption⟩
    · cases h
theorem atoi_fmt (n : Int) (h1 : -999999999999 ≤ n) (h2 : n ≤ 999999999999) : Lib.atoiAll (Lib.itoa n) = .ok n := by
  unfold Lib.itoa
  by_cases h : n < 0
  · rw [if_pos h]
    obtain ⟨c, r, e, _⟩ := digs_head n.natAbs
    have p := parse_val _ 0 _ (valL_digs n.natAbs) (by omega)
    have e45 : (45 : UInt8).toNat = 45 := rfl
    simp only [Lib.atoiAll, e45]
    rw [if_pos (Or.inr trivial)]
    have pm : Lib.parseMag (Lib.decDigits n.natAbs) = .ok n.natAbs := by
      unfold Lib.parseMag
      rw [if_neg (by rw [e]; simp)]; exact p
    rw [pm]
    have g : ¬ 9223372036854775808 < n.natAbs := by omega
    simp only [not_true_eq_false, false_and, true_and, if_false, if_true, g]
    congr 1; omega
  · rw [if_neg h]
    obtain ⟨c, r, e, hc⟩ := digs_head n.toNat
    have p := parse_val _ 0 _ (valL_digs n.toNat) (by omega)
    have pm : Lib.parseMag (Lib.decDigits n.toNat) = .ok n.toNat := by
      unfold Lib.parseMag
      rw [if_neg (by rw [e]; simp)]; exact p
    rw [e] at pm ⊢
    simp only [Lib.atoiAll]
    rw [if_neg (by omega), pm]
    simp only []
    rw [if_neg (by omega), if_neg (by omega)]
    rw [if_neg (by omega)]
    congr 1; omega
/-- what a text of at most twelve digits reads as -/
def RD (s : ByteArray) (r : Int × Bool) : Prop :=
  (∃ n : Int, -999999999999 ≤ n ∧ n ≤ 999999999999 ∧ s = fmtM n ∧ r = (n, true)) ∨ ((∀ n : Int, -999999999999 ≤ n → n ≤ 999999999999 → s ≠ fmtM n) ∧ r = (0, false))
theorem fmtM_inj {n m : Int} (h1 : -999999999999 ≤ n) (h2 : n ≤ 999999999999) (h3 : -999999999999 ≤ m) (h4 : m ≤ 999999999999) (h : fmtM n = fmtM m) : n = m := by
  have a := atoi_fmt n h1 h2
  have b := atoi_fmt m h3 h4
  have e : Lib.itoa n = Lib.itoa m := by
    have := congrArg (fun x : ByteArray => x.data.toList) h
    simpa [fmtM] using this
  rw [e, b] at a
  injection a with a; exact a.symm
theorem RD_uniq {s : ByteArray} {r r' : Int × Bool} (h : RD s r) (h' : RD s r') : r = r' := by
  rcases h with ⟨n, a1, a2, a3, rfl⟩ | ⟨a, rfl⟩ <;> rcases h' with ⟨m, b1, b2, b3, rfl⟩ | ⟨b, rfl⟩
  · rw [fmtM_inj a1 a2 b1 b2 (a3.symm.trans b3)]
  · exact absurd a3 (b n a1 a2)
  · exact absurd b3 (a m b1 b2)
  · rfl
theorem bytes_eq {x y : ByteArray} (h : x.toList = y.toList) : x = y := by
  rw [ByteArray.toList_eq, ByteArray.toList_eq] at h
  exact WideShapes.bytes_inj h
/-- the reference's reading -/
def readM (s : ByteArray) : Int × Bool :=
  let neg : Bool := s.data.toList.head? == some 45
  let t := if neg = true then s.data.toList.tail else s.data.toList
  if t.length < 1 then (0, false) else if t.length > 12 then (0, false) else
  match valL t 0 with
  | none => (0, false)
  | some v => if (fmtM (if neg = true then -(v : Int) else v)).toList = s.toList then ((if neg = true then -(v : Int) else v), true) else (0, false)
theorem readM_fmt (n : Int) (h1 : -999999999999 ≤ n) (h2 : n ≤ 999999999999) : readM (fmtM n) = (n, true) := by
  have len : ∀ u : Nat, u < 10 ^ 12 → 1 ≤ (Lib.decDigits u).length ∧ (Lib.decDigits u).length ≤ 12 := by
    intro u hu
    obtain ⟨c, r, e, _⟩ := digs_head u
    refine ⟨by rw [e]; simp, ?_⟩
    by_cases h : u = 0
    · subst h; rw [Lib.decDigits]; simp
    · exact digs_len 12 u (by omega) hu
  unfold readM
  by_cases h : n < 0
  · have e : (fmtM n).data.toList = 45 :: Lib.decDigits n.natAbs := by simp [fmtM, Lib.itoa, h]
    have l := len n.natAbs (by omega)
    simp only [e, List.head?_cons, beq_self_eq_true, if_true, List.tail_cons, valL_digs]
    rw [if_neg (by omega), if_neg (by omega)]
    rw [show -((n.natAbs : Nat) : Int) = n by omega, if_pos rfl]
  · have e : (fmtM n).data.toList = Lib.decDigits n.toNat := by simp [fmtM, Lib.itoa, h]
    have l := len n.toNat (by omega)
    obtain ⟨c, r, e2, hc⟩ := digs_head n.toNat
    have hneg : ((Lib.decDigits n.toNat).head? == some 45) = false := by
      rw [e2]
      simp only [List.head?_cons, beq_eq_false_iff_ne, ne_eq, Option.some.injEq]
      intro h; rw [h] at hc; simp at hc
    simp only [e, hneg, valL_digs, Bool.false_eq_true, ↓reduceIte]
    rw [if_neg (by omega), if_neg (by omega)]
    rw [show ((n.toNat : Nat) : Int) = n by omega, if_pos rfl]
theorem readM_RD (s : ByteArray) : RD s (readM s) := by
  by_cases h : ∃ n : Int, -999999999999 ≤ n ∧ n ≤ 999999999999 ∧ s = fmtM n
  · obtain ⟨n, h1, h2, rfl⟩ := h
    exact .inl ⟨n, h1, h2, rfl, readM_fmt n h1 h2⟩
  · have no : ∀ n : Int, -999999999999 ≤ n → n ≤ 999999999999 → s ≠ fmtM n := fun n a b e => h ⟨n, a, b, e⟩
    refine .inr ⟨no, ?_⟩
    unfold readM
    simp only []
    generalize (if (s.data.toList.head? == some 45) = true then s.data.toList.tail else s.data.toList) = t
    generalize (s.data.toList.head? == some 45) = neg
    split
    · rfl
    · split
      · rfl
      · cases hv : valL t 0 with
        | none => rfl
        | some v =>
          have b := valL_lt t 0 0 v (by decide) hv
          have b2 : 10 ^ (0 + t.length) ≤ 10 ^ 12 := Nat.pow_le_pow_right (by decide) (by omega)
          have hv2 : v ≤ 999999999999 := by omega
          simp only []
          rw [if_neg]
          intro e
          exact no (if neg = true then -(v : Int) else v) (by split <;> omega) (by split <;> omega) (bytes_eq e).symm

theorem bt_list (s : ByteArray) (i : Nat) (h : i < s.size) : bt s (i : Int) = ((s.data.toList[i]'(by simpa using h)).toNat : Int) := by
  unfold bt
  rw [dif_pos (by omega)]
  simp only [Int.toNat_natCast]
  rfl
theorem bt_drop (s : ByteArray) (i : Nat) (c : UInt8) (r : List UInt8) (h : s.data.toList.drop i = c :: r) : i < s.size ∧ bt s (i : Int) = (c.toNat : Int) ∧ s.data.toList.drop (i + 1) = r := by
  have hl : i < s.data.toList.length := by
    rcases Nat.lt_or_ge i s.data.toList.length with g | g
    · exact g
    · rw [List.drop_eq_nil_of_le g] at h; cases h
  have hs : i < s.size := by simpa using hl
  rw [List.drop_eq_getElem_cons hl] at h
  injection h with h1 h2
  exact ⟨hs, by rw [bt_list s i hs, h1], h2⟩
theorem spec_l1Read_l0 (s t : ByteArray) (neg : Bool) : ∀ (l : List UInt8) (i acc : Nat), t.data.toList.drop i = l → i + l.length = t.size → acc < 10 ^ i → t.size ≤ 12 →
    EV (fun k => spec_l1Read.l0 k s neg t (acc : Int) (i : Int)) (match valL l acc with | none => (0, false) | some v => if (fmtM (if neg = true then -(v : Int) else v)).toList = s.toList then ((if neg = true then -(v : Int) else v), true) else (0, false)) := by
  intro l
  induction l with
  | nil =>
    intro i acc hd hl ha ht
    have b : 10 ^ i ≤ 10 ^ 12 := Nat.pow_le_pow_right (by decide) (by omega)
    have ha2 : acc < 1000000000000 := by omega
    refine EV.step (fun k => by rw [spec_l1Read.l0]) (EV.neg (by simp at hl; omega) ?_)
    simp only [valL]
    cases neg with
    | true =>
      refine EV.pos rfl ?_
      rw [w64 (x := -(acc : Int)) (by omega) (by omega)]
      refine EV.bind (spec_FormatInt_is _ (by omega) (by omega)) ?_
      exact EV.cases (fun h => (EV.now _).eq (by simp [h])) (fun h => (EV.now _).eq (by simp [h]))
    | false =>
      refine EV.neg (by decide) ?_
      refine EV.bind (spec_FormatInt_is _ (by omega) (by omega)) ?_
      exact EV.cases (fun h => (EV.now _).eq (by simp [h])) (fun h => (EV.now _).eq (by simp [h]))
  | cons c r ih =>
    intro i acc hd hl ha ht
    obtain ⟨hs, hb, hr⟩ := bt_drop t i c r hd
    have b : 10 ^ (i + 1) ≤ 10 ^ 12 := Nat.pow_le_pow_right (by decide) (by omega)
    have b0 : 10 ^ (i + 1) = 10 ^ i * 10 := Nat.pow_succ ..
    refine EV.step (fun k => by rw [spec_l1Read.l0]) (EV.pos (by omega) (EV.pos (by omega) ?_))
    rw [hb]
    have hc := c.toNat_lt
    simp only [valL]
    refine EV.cases (fun h => (EV.now _).eq (by rw [if_neg (by omega)])) (fun h => ?_)
    refine EV.cases (fun h' => (EV.now _).eq (by rw [if_neg (by omega)])) (fun h' => ?_)
    rw [if_pos (by omega)]
    have e : wrap64 (wrap64 (10 * (acc : Int)) + ((c.toNat : Int) - 48) % 256) = ((10 * acc + (c.toNat - 48) : Nat) : Int) := by
      rw [w64 (x := 10 * (acc : Int)) (by omega) (by omega), w64 (by omega) (by omega)]; omega
    have e2 : wrap64 ((i : Int) + 1) = ((i + 1 : Nat) : Int) := by rw [w64 (by omega) (by omega)]; omega
    rw [e, e2]
    exact ih (i + 1) _ hr (by simp at hl; omega) (by omega) ht
theorem spec_l1Read_j1 (s t : ByteArray) (neg : Bool) : EV (fun k => spec_l1Read.j1 k s 12 neg t)
    (if t.data.toList.length < 1 then (0, false) else if t.data.toList.length > 12 then (0, false) else
      match valL t.data.toList 0 with | none => (0, false) | some v => if (fmtM (if neg = true then -(v : Int) else v)).toList = s.toList then ((if neg = true then -(v : Int) else v), true) else (0, false)) := by
  have hl : t.data.toList.length = t.size := by simp
  rw [hl]
  refine EV.step (fun k => by rw [spec_l1Read.j1]) ?_
  refine EV.cases (fun h => ?_) (fun h => ?_)
  · rw [if_pos (by omega)]
    exact EV.step (fun k => by rw [spec_l1Read.j2]) (EV.pos rfl (EV.now _))
  · rw [if_neg (by omega)]
    refine EV.step (fun k => by rw [spec_l1Read.j2]) ?_
    refine EV.cases (fun h' => ?_) (fun h' => ?_)
    · rw [if_pos (by simp at h'; omega)]; exact EV.now _
    · have h12 : t.size ≤ 12 := by simp at h'; omega
      rw [if_neg (by omega)]
      exact spec_l1Read_l0 s t neg t.data.toList 0 0 rfl (by omega) (by decide) h12
theorem spec_l1Read_is (s : ByteArray) : EV (fun k => spec_l1Read.f k s 12) (readM s) := by
  unfold spec_l1Read.f
  have j : ∀ neg : Bool, neg = (s.data.toList.head? == some 45) → EV (fun k => spec_l1Read.j0 k s 12 neg) (readM s) := by
    intro neg hn
    refine EV.step (fun k => by rw [spec_l1Read.j0]) ?_
    unfold readM
    simp only [← hn]
    cases neg with
    | true =>
      have h0 : 1 ≤ s.size := by
        cases e : s.data.toList with
        | nil => rw [e] at hn; simp at hn
        | cons a r =>
          have : s.data.toList.length = s.size := by simp
          rw [e] at this; simp at this; omega
      refine EV.pos rfl (EV.pos (by omega) ?_)
      have e : (s.extract 1 s.size).data.toList = s.data.toList.tail := by
        have := Lib.extract_data s 1 s.size
        rw [this, List.drop_one, List.take_of_length_le (by simp)]
      have := spec_l1Read_j1 s (s.extract 1 s.size) true
      rw [e] at this
      exact this
    | false =>
      refine EV.neg (by decide) ?_
      exact spec_l1Read_j1 s s false
  refine EV.cases (fun h => EV.pos (by omega) (j _ ?_)) (fun h => j _ ?_)
  · cases e : s.data.toList with
    | nil =>
      have : s.data.toList.length = s.size := by simp
      rw [e] at this; simp at this; omega
    | cons c r =>
      obtain ⟨_, hb, _⟩ := bt_drop s 0 c r (by simpa using e)
      rw [show ((0 : Nat) : Int) = 0 from rfl] at hb
      rw [hb]
      simp only [List.head?_cons]
      rw [Bool.eq_iff_iff]
      simp only [beq_iff_eq, Option.some.injEq]
      constructor
      · intro h; exact UInt8.toNat_inj.1 (by have : (45 : UInt8).toNat = 45 := rfl; omega)
      · intro h; rw [h]; rfl
  · cases e : s.data.toList with
    | nil => rfl
    | cons c r =>
      have : s.data.toList.length = s.size := by simp
      rw [e] at this; simp at this; omega

theorem spec_ParseInt_is (s : ByteArray) : EV (fun k => spec_ParseInt.f k s) (readM s) := by
  unfold spec_ParseInt.f
  exact EV.bind (spec_l1Read_is s) (EV.now _)

def parseSlopeM (s : ByteArray) : Int × Int × Bool :=
  let l := splitM s 47
  if l.length = 2 then
    let a := readM (rdOf ByteArray.empty l 0)
    let b := readM (rdOf ByteArray.empty l 1)
    if a.2 = true then (if b.2 = true then (if slopeB a.1 b.1 = true then (a.1, b.1, true) else (0, 0, false)) else (0, 0, false)) else (0, 0, false)
  else (0, 0, false)

theorem spec_ParseSlope_is (s : ByteArray) (hs : s.size ≤ 1048576) : EV (fun k => spec_ParseSlope.f k s) (parseSlopeM s) := by
  unfold spec_ParseSlope.f parseSlopeM
  refine EV.bind (spec_SplitByte_is s 47 hs) ?_
  generalize splitM s 47 = l
  simp only []
  refine EV.cases (fun h => ?_) (fun h => (EV.now _).eq (by rw [if_neg (by omega)]))
  rw [if_pos (by omega)]
  refine EV.pos (by omega) (EV.bind (spec_ParseInt_is _) (EV.pos (by omega) (EV.bind (spec_ParseInt_is _) ?_)))
  generalize readM (rdOf ByteArray.empty l 0) = a
  generalize readM (rdOf ByteArray.empty l 1) = b
  refine EV.cases (fun h => ?_) (fun h => (EV.now _).eq (by rw [if_neg h]))
  rw [if_pos h]
  refine EV.cases (fun h => ?_) (fun h => (EV.now _).eq (by rw [if_neg h]))
  rw [if_pos h]
  refine EV.bind (spec_IsSlope_is _ _) ?_
  exact EV.cases (fun h => (EV.now _).eq (by rw [if_pos h])) (fun h => (EV.now _).eq (by rw [if_neg h]))

theorem impl_within_is (a b c : Int) : impl_within.f a b c = some (decide (b ≤ a ∧ a ≤ c)) := by
  unfold impl_within.f
  by_cases h : a ≥ b
  · rw [if_pos h]; simp [show b ≤ a from h]
  · rw [if_neg h]; simp; omega

theorem impl_size_is (a : Int) (h : -9223372036854775808 < a) (h' : a ≤ 9223372036854775807) : impl_size.f a = some (a.natAbs : Int) := by
  unfold impl_size.f mx
  rw [w64 (by omega) (by omega)]
  congr 1
  split <;> omega
theorem impl_size_some (a : Int) : ∃ r, impl_size.f a = some r := ⟨_, rfl⟩

theorem impl_gcd_l0 (n : Nat) : ∀ a b : Int, b.natAbs ≤ n → ∃ r, EV (fun k => impl_gcd.l0 k a b) r ∧ (0 ≤ a → 0 ≤ b → r = ((Nat.gcd a.natAbs b.natAbs : Nat) : Int)) := by
  induction n with
  | zero =>
    intro a b hb
    obtain rfl : b = 0 := by omega
    refine ⟨a, EV.step (fun k => by rw [impl_gcd.l0]) ?_, fun h _ => by simp; omega⟩
    exact EV.pos rfl (EV.now _)
  | succ n ih =>
    intro a b hb
    by_cases h : b = 0
    · subst h
      refine ⟨a, EV.step (fun k => by rw [impl_gcd.l0]) ?_, fun h _ => by simp; omega⟩
      exact EV.pos rfl (EV.now _)
    · have hm := tmod_lt a b h
      obtain ⟨r, hr, hv⟩ := ih b (Int.tmod a b) (by omega)
      refine ⟨r, EV.step (fun k => by rw [impl_gcd.l0]) ?_, fun ha hb' => ?_⟩
      · exact EV.neg h hr
      · rw [hv hb' (Int.tmod_nonneg _ ha), gcd_step]
theorem impl_gcd_is (a b : Int) (h1 : a.natAbs ≤ 9223372036854775807) (h2 : b.natAbs ≤ 9223372036854775807) : EV (fun k => impl_gcd.f k a b) ((Nat.gcd a.natAbs b.natAbs : Nat) : Int) := by
  obtain ⟨r, hr, hv⟩ := impl_gcd_l0 (b.natAbs : Int).natAbs (a.natAbs : Int) (b.natAbs : Int) (Nat.le_refl _)
  refine EV.by (impl_size_is a (by omega) (by omega)) (EV.by (impl_size_is b (by omega) (by omega)) (hr.eq ?_))
  rw [hv (by omega) (by omega)]; simp
theorem impl_gcd_some (a b : Int) : ∃ r, EV (fun k => impl_gcd.f k a b) r := by
  obtain ⟨x, hx⟩ := impl_size_some a
  obtain ⟨y, hy⟩ := impl_size_some b
  obtain ⟨r, hr, _⟩ := impl_gcd_l0 y.natAbs x y (Nat.le_refl _)
  exact ⟨r, EV.by hx (EV.by hy hr)⟩

theorem impl_IsSlope_is (p q : Int) : EV (fun k => impl_IsSlope.f k p q) (slopeB p q) := by
  unfold slopeB
  refine EV.by (impl_within_is _ _ _) ?_
  by_cases hp : -1000 ≤ p ∧ p ≤ 1000
  · refine EV.pos (by simpa using hp) (EV.by (impl_within_is _ _ _) ?_)
    by_cases hq : 0 ≤ q ∧ q ≤ 1000
    · refine EV.pos (by simpa using hq) (EV.bind (impl_gcd_is p q (by omega) (by omega)) ?_)
      by_cases hg : Nat.gcd p.natAbs q.natAbs = 1
      · refine EV.pos (by omega) ?_
        by_cases h0 : q > 0
        · exact EV.pos h0 ((EV.now _).eq (by simp [hp, hq, hg]; omega))
        · exact EV.neg h0 ((EV.now _).eq (by simp [hp, hq, hg]; rw [Bool.eq_iff_iff]; simp; omega))
      · exact EV.neg (by omega) ((EV.now _).eq (by simp [hg]))
    · exact EV.neg (by simpa using hq) ((EV.now _).eq (by simp [hq]))
  · exact EV.neg (by simpa using hp) ((EV.now _).eq (by simp [hp]))

theorem impl_SplitByte_l0 (s : ByteArray) (c : Int) (hs : s.size ≤ 1048576) : ∀ (n st i : Nat) (acc : List ByteArray), i + n = s.size → st ≤ i → acc.length ≤ i →
    EV (fun k => impl_SplitByte.l0 k s c acc (st : Int) (s.size : Int) (i : Int)) (acc ++ spM s c n st i) := by
  intro n
  induction n with
  | zero =>
    intro st i acc h hst ha
    have e : i = s.size := by omega
    refine EV.step (fun k => by rw [impl_SplitByte.l0]) ?_
    refine EV.neg (by omega) (EV.pos (by omega) (EV.pos (by omega) (EV.pos (by omega) ((EV.now _).eq (by simp [spM, e])))))
  | succ n ih =>
    intro st i acc h hst ha
    refine EV.step (fun k => by rw [impl_SplitByte.l0]) ?_
    rw [w64 (x := (i : Int) + 1) (by omega) (by omega)]
    refine EV.pos (by omega) (EV.pos (by omega) (EV.pos (by omega) ?_))
    refine EV.cases (fun hc => ?_) (fun hc => ?_)
    · refine EV.pos (by omega) (EV.pos (by omega) (EV.pos (by omega) (EV.pos (by omega) ?_)))
      have := ih (i + 1) (i + 1) (acc ++ [s.extract st i]) (by omega) (by omega) (by simp; omega)
      refine EV.congr (fun k => by simp) (this.eq ?_)
      simp [spM, hc]
    · have := ih st (i + 1) acc (by omega) (by omega) (by omega)
      refine EV.congr (fun k => by simp) (this.eq ?_)
      simp [spM, hc]
theorem impl_SplitByte_is (s : ByteArray) (c : Int) (hs : s.size ≤ 1048576) : EV (fun k => impl_SplitByte.f k s c) (splitM s c) := by
  have := impl_SplitByte_l0 s c hs s.size 0 0 [] (by omega) (by omega) (by simp)
  exact this

theorem impl_readInt_is (s : ByteArray) : impl_readInt.f s (-999999999999) 999999999999 = some (readM s) := by
  have R := readM_RD s
  unfold impl_readInt.f
  rw [if_pos (by decide)]
  rcases R with ⟨n, h1, h2, hs, hr⟩ | ⟨no, hr⟩
  · rw [hr]
    have sz := fmtM_size n (by omega) (by omega)
    have len : s.size ≤ 20 := by
      have h : ∀ u : Nat, u < 10 ^ 12 → (Lib.decDigits u).length ≤ 12 := by
        intro u hu
        by_cases h : u = 0
        · subst h; rw [Lib.decDigits]; simp
        · exact digs_len 12 u (by omega) hu
      rw [hs]
      show (bs (Lib.itoa n)).size ≤ 20
      rw [bs_size]; unfold Lib.itoa
      split
      · have := h n.natAbs (by omega); simp; omega
      · have := h n.toNat (by omega); omega
    rw [if_neg (by omega)]
    have a : Lib.atoiAll s.data.toList = .ok n := by
      rw [hs]
      have := atoi_fmt n h1 h2
      simpa [fmtM] using this
    rw [a]
    simp only []
    rw [if_pos ⟨h1, h2⟩, if_pos (by rw [hs]; rfl)]
  · rw [hr]
    split
    · rfl
    · split
      · rename_i n hn
        by_cases hin : -999999999999 ≤ n ∧ n ≤ 999999999999
        · rw [if_pos hin, if_neg]
          intro e
          exact no n hin.1 hin.2 (bytes_eq e).symm
        · rw [if_neg hin]
      · rfl

theorem impl_ParseInt_is (s : ByteArray) : impl_ParseInt.f s = some (readM s) := by
  unfold impl_ParseInt.f
  rw [impl_readInt_is]; rfl

theorem impl_ParseSlope_is (s : ByteArray) (hs : s.size ≤ 1048576) : EV (fun k => impl_ParseSlope.f k s) (parseSlopeM s) := by
  unfold impl_ParseSlope.f parseSlopeM
  refine EV.bind (impl_SplitByte_is s 47 hs) ?_
  generalize splitM s 47 = l
  simp only []
  refine EV.cases (fun h => ?_) (fun h => (EV.now _).eq (by rw [if_neg (by omega)]))
  rw [if_pos (by omega)]
  refine EV.pos (by omega) (EV.by (impl_ParseInt_is _) (EV.pos (by omega) (EV.by (impl_ParseInt_is _) ?_)))
  generalize readM (rdOf ByteArray.empty l 0) = a
  generalize readM (rdOf ByteArray.empty l 1) = b
  refine EV.cases (fun h => ?_) (fun h => (EV.now _).eq (by rw [if_neg h]))
  rw [if_pos h]
  refine EV.cases (fun h => ?_) (fun h => (EV.now _).eq (by rw [if_neg h]))
  rw [if_pos h]
  refine EV.bind (impl_IsSlope_is _ _) ?_
  exact EV.cases (fun h => (EV.now _).eq (by rw [if_pos h])) (fun h => (EV.now _).eq (by rw [if_neg h]))

theorem laws_eqSlope_self (p q : Int) : laws_eqSlope.f p q p q = some true := by
  unfold laws_eqSlope.f; rw [if_pos rfl, if_pos rfl]

theorem FnExactParseSlope (s : ByteArray) (z : s.size ≤ 140737488351232) : ∃ k, laws_FnExactParseSlope.f k s = some true := by
  refine EV.rounds (EV.cases (fun h => EV.now _) (fun h => ?_))
  refine EV.bind (spec_ParseSlope_is s (by omega)) (EV.bind (impl_ParseSlope_is s (by omega)) ?_)
  generalize parseSlopeM s = r
  refine EV.by (laws_eqSlope_self _ _) (EV.pos rfl (EV.neg (by simp) (EV.now _)))

end Go.Proofs.YtkjflikcifcnkaaDoor.Pure
