/- Pure side of FnExactSlopeText: the printed functions of the program and of the reference answer alike at every input that the statement takes; no condition beyond the printed statement's bounds. -/
import Derived.Test.YtkjflikcifcnkaaDoorPFnExactSlopeTextx2
import Derived.Test.YtkjflikcifcnkaaDoorWSized
set_option linter.unusedVariables false
set_option linter.unusedSimpArgs false
set_option linter.unnecessarySimpa false
set_option maxRecDepth 10000
/-- the printed row calls the print's word by this name -/
abbrev Go.Proofs.YtkjflikcifcnkaaDoor.PrintWords.sized_ints := @Go.Proofs.YtkjflikcifcnkaaDoorW.PrintWords.sized_ints
namespace Go.Proofs.YtkjflikcifcnkaaDoor.Pure
open Go.RowKit Go.Proofs.YtkjflikcifcnkaaDoor.PFnExactSlopeText Go.Proofs.YtkjflikcifcnkaaDoorW.PrintWords Go.Proofs.YtkjflikcifcnkaaDoorW.PrintLast Go.Proofs.YtkjflikcifcnkaaDoorW.PrintMore

/-! ### Base: words of our own, of no program -/
section
theorem w64 {x : Int} (h1 : -9223372036854775808 ≤ x) (h2 : x ≤ 9223372036854775807) : wrap64 x = x := by
  unfold wrap64; omega
theorem wf64 {x : Int} (h : (Lit.int .i64 x).wf = true) : -9223372036854775808 ≤ x ∧ x ≤ 9223372036854775807 := by
  simp only [Lit.wf, IntKind.min, IntKind.max, IntKind.signed, IntKind.bits, Bool.and_eq_true, decide_eq_true_eq, if_true] at h
  omega
/-- from some number of rounds on it answers r -/
structure EV {α : Type} (g : Nat → Option α) (r : α) : Prop where mk :: (out : ∃ K, ∀ k, K ≤ k → g k = some r)
theorem EV.now {α : Type} (r : α) : EV (fun _ => some r) r := ⟨0, fun _ _ => rfl⟩
theorem EV.rounds {α : Type} {g : Nat → Option α} {r : α} (h : EV g r) : ∃ k, g k = some r := by
  obtain ⟨K, h⟩ := h
  exact ⟨K, h K (Nat.le_refl _)⟩
theorem EV.bind {α β : Type} {g : Nat → Option α} {f : Nat → α → Option β} {a : α} {r : β} (h : EV g a) (k : EV (fun n => f n a) r) : EV (fun n => (g n).bind (f n)) r := by
  obtain ⟨K, h⟩ := h
  obtain ⟨K', k⟩ := k
  refine ⟨max K K', fun n hn => ?_⟩
  have h1 := h n (by omega)
  have h2 := k n (by omega)
  simp only [h1, Option.bind_some]
  exact h2
theorem EV.step {α : Type} {g f : Nat → Option α} {r : α} (h : ∀ k, g (k + 1) = f k) (k : EV f r) : EV g r := by
  obtain ⟨K, k⟩ := k
  refine ⟨K + 1, fun n hn => ?_⟩
  obtain ⟨m, rfl⟩ : ∃ m, n = m + 1 := ⟨n - 1, by omega⟩
  rw [h]
  exact k m (by omega)
theorem EV.congr {α : Type} {g f : Nat → Option α} {r : α} (h : ∀ k, g k = f k) (k : EV f r) : EV g r := by
  obtain ⟨K, k⟩ := k
  exact ⟨K, fun n hn => (h n).trans (k n hn)⟩
theorem EV.pos {α : Type} {c : Prop} [Decidable c] {a b : Nat → Option α} {r : α} (h : c) (k : EV a r) : EV (fun n => if c then a n else b n) r :=
  EV.congr (fun n => if_pos h) k
theorem EV.neg {α : Type} {c : Prop} [Decidable c] {a b : Nat → Option α} {r : α} (h : ¬ c) (k : EV b r) : EV (fun n => if c then a n else b n) r :=
  EV.congr (fun n => if_neg h) k
theorem EV.cases {α : Type} {c : Prop} [Decidable c] {a b : Nat → Option α} {r : α} (h : c → EV a r) (h' : ¬ c → EV b r) : EV (fun n => if c then a n else b n) r := by
  by_cases hc : c
  · exact EV.pos hc (h hc)
  · exact EV.neg hc (h' hc)
/-- a callee without rounds -/
theorem EV.by {α β : Type} {g : Option α} {f : Nat → α → Option β} {a : α} {r : β} (h : g = some a) (k : EV (fun n => f n a) r) : EV (fun n => g.bind (f n)) r := by
  subst h; exact k
theorem EV.is {α : Type} {g : Option α} {r : α} (h : g = some r) : EV (fun _ => g) r := ⟨0, fun _ _ => h⟩
theorem EV.eq {α : Type} {g : Nat → Option α} {r r' : α} (h : EV g r) (e : r = r') : EV g r' := e ▸ h
theorem rd_app (pre : List Int) (x : Int) (suf : List Int) : rd (pre ++ x :: suf) (pre.length : Int) = x := by
  simp [rd]
theorem rd_nat (xs : List Int) (i : Nat) (h : i < xs.length) : rd xs (i : Int) = xs[i] := by
  simp [rd, h]
theorem set_app {α : Type} (pre : List α) (x y : α) (suf : List α) (n : Nat) (hn : n = pre.length) : (pre ++ x :: suf).set n y = pre ++ y :: suf := by
  subst hn; simp
end
def smallB (x : Int) : Bool := decide (-1000 ≤ x ∧ x ≤ 1000)
/-- one index on -/
theorem up {α : Type} {x : α} {pre : List α} (h : pre.length < 4611686018427387904) : wrap64 ((pre.length : Int) + 1) = ((pre ++ [x]).length : Int) := by
  rw [w64 (by omega) (by omega)]; simp
theorem lt_app {α : Type} (pre : List α) (x : α) (suf : List α) : (pre.length : Int) < ((pre ++ x :: suf).length : Int) := by simp; omega
def classB (g : Int) (xs : List Int) : Bool := decide (1 ≤ g ∧ g ≤ 3) && (decide ((xs.length : Int) = 2 * g) && xs.all smallB)
theorem EV.uniq {α : Type} {g : Nat → Option α} {r r' : α} (h : EV g r) (h' : EV g r') : r = r' := by
  obtain ⟨K, h⟩ := h
  obtain ⟨K', h'⟩ := h'
  have a := h (max K K') (by omega)
  have b := h' (max K K') (by omega)
  rw [a] at b; exact Option.some.inj b
/-- from some number of rounds on -/
def Evt (P : Nat → Prop) : Prop := ∃ K, ∀ k, K ≤ k → P k
theorem Evt.and {P Q : Nat → Prop} (h : Evt P) (h' : Evt Q) : Evt (fun k => P k ∧ Q k) := by
  obtain ⟨K, h⟩ := h
  obtain ⟨K', h'⟩ := h'
  exact ⟨max K K', fun k hk => ⟨h k (by omega), h' k (by omega)⟩⟩
theorem Evt.const {p : Prop} (h : p) : Evt (fun _ => p) := ⟨0, fun _ _ => h⟩
theorem EV.evt {α : Type} {g : Nat → Option α} {r : α} (h : EV g r) : Evt (fun k => g k = some r) := h.out
theorem Evt.imp {P Q : Nat → Prop} (h : Evt P) (f : ∀ k, P k → Q k) : Evt Q := by
  obtain ⟨K, h⟩ := h
  exact ⟨K, fun k hk => f k (h k hk)⟩
theorem Evt.rounds {P : Nat → Prop} (h : Evt P) : ∃ k, P k := by
  obtain ⟨K, h⟩ := h
  exact ⟨K, h K (Nat.le_refl _)⟩
theorem EV.mono {α : Type} {g : Nat → Option α} (hg : ∀ k, LeO (g k) (g (k + 1))) {k : Nat} {r : α} (h : g k = some r) : EV g r := ⟨k, fun _ hk => at_rounds hg hk h⟩

theorem spec_l1In_is (a b c : Int) : spec_l1In.f a b c = some (decide (b ≤ a ∧ a ≤ c)) := by
  unfold spec_l1In.f
  by_cases h : a ≥ b
  · rw [if_pos h]; simp [show b ≤ a from h]
  · rw [if_neg h]; simp; omega

theorem spec_l1Max_is (a b : Int) : spec_l1Max.f a b = some (if a > b then a else b) := by
  unfold spec_l1Max.f; split <;> rfl

theorem spec_l3Abs_is (a : Int) (h : -9223372036854775808 < a) (h' : a ≤ 9223372036854775807) : spec_l3Abs.f a = some (a.natAbs : Int) := by
  unfold spec_l3Abs.f
  rw [spec_l1Max_is, w64 (by omega) (by omega)]
  simp only [Option.bind_some]
  congr 1
  split <;> omega

theorem gcd_step (a b : Int) : Nat.gcd b.natAbs (Int.tmod a b).natAbs = Nat.gcd a.natAbs b.natAbs := by
  rw [Int.natAbs_tmod, Nat.gcd_comm b.natAbs, ← Nat.gcd_rec, Nat.gcd_comm]
theorem tmod_lt (a b : Int) (h : b ≠ 0) : (Int.tmod a b).natAbs < b.natAbs := by
  rw [Int.natAbs_tmod]; exact Nat.mod_lt _ (by omega)
def slopeB (p q : Int) : Bool := decide (-1000 ≤ p ∧ p ≤ 1000) && (decide (0 ≤ q ∧ q ≤ 1000) && (decide (Nat.gcd p.natAbs q.natAbs = 1) && (decide (0 < q) || decide (p = 1))))
/-- p, q by their greatest common divisor, the sign so that q is above 0, or p -/
def lowM (p q : Int) : Int × Int :=
  let d : Int := (Nat.gcd p.natAbs q.natAbs : Nat)
  if q < 0 ∨ (q = 0 ∧ p < 0) then (-(p.tdiv d), -(q.tdiv d)) else (p.tdiv d, q.tdiv d)
def slopeOfM (p q : Int) : Int × Int × Bool :=
  if -1000 ≤ p ∧ p ≤ 1000 then (if -1000 ≤ q ∧ q ≤ 1000 then (if p = 0 ∧ q = 0 then (0, 0, false) else ((lowM p q).1, (lowM p q).2, true)) else (0, 0, false)) else (0, 0, false)
theorem low_of (p q : Int) (hp : -1000 ≤ p ∧ p ≤ 1000) (hq : -1000 ≤ q ∧ q ≤ 1000) (hz : ¬ (p = 0 ∧ q = 0)) :
    ∃ d a b : Int, ((Nat.gcd p.natAbs q.natAbs : Nat) : Int) = d ∧ 0 < d ∧ d ≤ 1000 ∧ p.tdiv d = a ∧ q.tdiv d = b ∧ p = d * a ∧ q = d * b ∧ -1000 ≤ a ∧ a ≤ 1000 ∧ -1000 ≤ b ∧ b ≤ 1000 ∧ (q < 0 ↔ b < 0) ∧ (q = 0 ↔ b = 0) ∧ (p < 0 ↔ a < 0) := by
  have hg : 0 < Nat.gcd p.natAbs q.natAbs := by
    rcases Nat.eq_zero_or_pos (Nat.gcd p.natAbs q.natAbs) with h | h
    · have := Nat.gcd_eq_zero_iff.1 h; omega
    · exact h
  have h1 : Nat.gcd p.natAbs q.natAbs ≤ 1000 := by
    by_cases h : p = 0
    · have := Nat.gcd_le_right p.natAbs (n := q.natAbs) (by omega); omega
    · have := Nat.gcd_le_left q.natAbs (m := p.natAbs) (by omega); omega
  obtain ⟨a, ha⟩ : ∃ a, p = ((Nat.gcd p.natAbs q.natAbs : Nat) : Int) * a := Int.ofNat_dvd_left.2 (Nat.gcd_dvd_left ..)
  obtain ⟨b, hb⟩ : ∃ b, q = ((Nat.gcd p.natAbs q.natAbs : Nat) : Int) * b := Int.ofNat_dvd_left.2 (Nat.gcd_dvd_right ..)
  generalize hd : ((Nat.gcd p.natAbs q.natAbs : Nat) : Int) = d at *
  have hdp : 0 < d := by omega
  have e1 : p.tdiv d = a := by rw [ha]; exact Int.mul_tdiv_cancel_left _ (by omega)
  have e2 : q.tdiv d = b := by rw [hb]; exact Int.mul_tdiv_cancel_left _ (by omega)
  have bnd : ∀ x y : Int, x = d * y → -1000 ≤ x → x ≤ 1000 → -1000 ≤ y ∧ y ≤ 1000 ∧ (x < 0 ↔ y < 0) ∧ (x = 0 ↔ y = 0) := by
    intro x y h h1 h2
    have k1 : 0 < y → y ≤ d * y := fun hy => by have := Int.mul_le_mul_of_nonneg_right (show 1 ≤ d by omega) (show 0 ≤ y by omega); omega
    have k2 : y < 0 → d * y ≤ y := fun hy => by have := Int.mul_le_mul_of_nonpos_right (show 1 ≤ d by omega) (show y ≤ 0 by omega); omega
    have k3 : y = 0 → d * y = 0 := fun hy => by rw [hy]; simp
    rw [← h] at k1 k2 k3
    rcases Int.lt_trichotomy y 0 with hy | hy | hy
    · have := k2 hy; omega
    · have := k3 hy; omega
    · have := k1 hy; omega
  have B1 := bnd p a ha hp.1 hp.2
  have B2 := bnd q b hb hq.1 hq.2
  exact ⟨d, a, b, rfl, hdp, by omega, e1, e2, ha, hb, by omega, by omega, by omega, by omega, B2.2.2.1, B2.2.2.2, B1.2.2.1⟩

theorem spec_l11Gcd_l0 (n : Nat) : ∀ a b : Int, b.natAbs ≤ n → a.natAbs ≤ 9223372036854775807 → b.natAbs ≤ 9223372036854775807 → EV (fun k => spec_l11Gcd.l0 k a b) ((Nat.gcd a.natAbs b.natAbs : Nat) : Int) := by
  induction n with
  | zero =>
    intro a b hb h1 h2
    obtain rfl : b = 0 := by omega
    refine EV.step (fun k => by rw [spec_l11Gcd.l0]) ?_
    refine EV.pos rfl (EV.by (spec_l3Abs_is a (by omega) (by omega)) ((EV.now _).eq (by simp)))
  | succ n ih =>
    intro a b hb h1 h2
    refine EV.step (fun k => by rw [spec_l11Gcd.l0]) ?_
    by_cases h : b = 0
    · subst h
      exact EV.pos rfl (EV.by (spec_l3Abs_is a (by omega) (by omega)) ((EV.now _).eq (by simp)))
    · have hm := tmod_lt a b h
      refine EV.neg h ((ih b (Int.tmod a b) (by omega) (by omega) (by omega)).eq ?_)
      rw [gcd_step]
theorem spec_l11Gcd_is (a b : Int) (h1 : a.natAbs ≤ 9223372036854775807) (h2 : b.natAbs ≤ 9223372036854775807) : EV (fun k => spec_l11Gcd.f k a b) ((Nat.gcd a.natAbs b.natAbs : Nat) : Int) :=
  spec_l11Gcd_l0 b.natAbs a b (Nat.le_refl _) h1 h2

theorem spec_IsSlope_is (p q : Int) : EV (fun k => spec_IsSlope.f k p q) (slopeB p q) := by
  unfold slopeB
  refine EV.by (spec_l1In_is _ _ _) ?_
  by_cases hp : -1000 ≤ p ∧ p ≤ 1000
  · refine EV.pos (by simpa using hp) (EV.by (spec_l1In_is _ _ _) ?_)
    by_cases hq : 0 ≤ q ∧ q ≤ 1000
    · refine EV.pos (by simpa using hq) ?_
      have G := spec_l11Gcd_is p q (by omega) (by omega)
      by_cases h0 : q = 0
      · refine EV.pos h0 ?_
        by_cases h1 : p = 1
        · refine EV.pos h1 (EV.bind G ((EV.now _).eq ?_))
          subst h1; subst h0; decide
        · exact EV.neg h1 ((EV.now _).eq (by simp [h0, h1]))
      · refine EV.neg h0 (EV.bind G ((EV.now _).eq ?_))
        have hq' : 0 < q := by omega
        simp only [hp, hq, hq', decide_true, Bool.true_and, Bool.true_or, Bool.and_true, and_self]
        rw [Bool.eq_iff_iff]; simp; omega
    · exact EV.neg (by simpa using hq) ((EV.now _).eq (by simp [hq]))
  · exact EV.neg (by simpa using hp) ((EV.now _).eq (by simp [hp]))

/-- the decimal numeral -/
def fmtM (n : Int) : ByteArray := ⟨(Lib.itoa n).toArray⟩
def bs (l : List UInt8) : ByteArray := ⟨l.toArray⟩
theorem bs_app (a b : List UInt8) : bs a ++ bs b = bs (a ++ b) := by
  apply ByteArray.ext
  simp [bs]
theorem bs_size (a : List UInt8) : (bs a).size = a.length := by simp [bs, ByteArray.size]
theorem digs_len (d : Nat) : ∀ u, 0 < u → u < 10 ^ d → (Lib.decDigits u).length ≤ d := by
  induction d with
  | zero => intro u h0 h; simp at h; omega
  | succ d ih =>
    intro u h0 h
    rw [Lib.decDigits]
    by_cases c : u < 10
    · rw [dif_pos c]; simp
    · rw [dif_neg c]
      have := ih (u / 10) (by omega) (by rw [Nat.pow_succ] at h; omega)
      simp; omega
theorem fmtM_size (n : Int) (h1 : -9223372036854775808 ≤ n) (h2 : n ≤ 9223372036854775807) : (fmtM n).size ≤ 21 := by
  have a : ∀ u : Nat, u < 10 ^ 20 → (Lib.decDigits u).length ≤ 20 := by
    intro u hu
    by_cases h : u = 0
    · subst h; rw [Lib.decDigits]; simp
    · exact digs_len 20 u (by omega) hu
  show (bs (Lib.itoa n)).size ≤ 21
  rw [bs_size]; unfold Lib.itoa
  split
  · have := a n.natAbs (by omega); simp; omega
  · have := a n.toNat (by omega); omega
theorem wrap_neg (a : Int) (h : -100 ≤ a ∧ a ≤ 100) : wrap64 (-a) = -a := w64 (by omega) (by omega)

theorem spec_FormatInt_l0 (b : Bool) : ∀ (d : Nat) (n : Int) (out : List UInt8), n.natAbs < 10 ^ d → -9223372036854775808 ≤ n → n ≤ 9223372036854775807 → out.length + d ≤ 50 →
    EV (fun k => spec_FormatInt.l0 k n b (bs out)) (bs ((if b = true then [45] else []) ++ ((if n = 0 then [] else Lib.decDigits n.natAbs) ++ out))) := by
  intro d
  induction d with
  | zero =>
    intro n out h _ _ hs
    have h0 : n = 0 := by simp at h; omega
    refine EV.step (fun k => by rw [spec_FormatInt.l0]) (EV.pos h0 ?_)
    refine EV.cases (fun hb => ?_) (fun hb => (EV.now _).eq (by simp [hb, h0]))
    exact EV.pos (by rw [bs_size]; omega) ((EV.now _).eq (by show bs [45] ++ bs out = _; rw [bs_app]; simp [hb, h0]))
  | succ d ih =>
    intro n out h h1 h2 hs
    refine EV.step (fun k => by rw [spec_FormatInt.l0]) ?_
    by_cases h0 : n = 0
    · refine EV.pos h0 ?_
      refine EV.cases (fun hb => ?_) (fun hb => (EV.now _).eq (by simp [hb, h0]))
      exact EV.pos (by rw [bs_size]; omega) ((EV.now _).eq (by show bs [45] ++ bs out = _; rw [bs_app]; simp [hb, h0]))
    · have q1 : (Int.tdiv n 10).natAbs = n.natAbs / 10 := by rw [Int.natAbs_tdiv]; rfl
      have q2 : (Int.tmod n 10).natAbs = n.natAbs % 10 := by rw [Int.natAbs_tmod]; rfl
      have hm : n.natAbs % 10 < 10 := Nat.mod_lt _ (by omega)
      have e : wrap64 (Int.tdiv n 10) = Int.tdiv n 10 := w64 (by omega) (by omega)
      have key : ∀ c : Int, c = 48 + ((n.natAbs % 10 : Nat) : Int) →
          EV (fun k => (some ([c % 256] : List Int)).bind fun y => if (strOfNums y).size + (bs out).size ≤ 9223372036854775807 then spec_FormatInt.l0 k (wrap64 (Int.tdiv n 10)) b (strOfNums y ++ bs out) else none)
            (bs ((if b = true then [45] else []) ++ ((if n = 0 then [] else Lib.decDigits n.natAbs) ++ out))) := by
        intro c hc
        have e1 : strOfNums [c % 256] = bs [UInt8.ofNat (48 + n.natAbs % 10)] := by
          have : (c % 256).toNat = 48 + n.natAbs % 10 := by omega
          simp only [strOfNums, bs, List.map_cons, List.map_nil, this]
        refine EV.by rfl ?_
        rw [e1, bs_app, e]
        refine EV.pos (by rw [bs_size, bs_size]; simp; omega) ((ih (Int.tdiv n 10) _ (by rw [q1]; rw [Nat.pow_succ] at h; omega) (by omega) (by omega) (by simp; omega)).eq ?_)
        congr 2
        rw [if_neg h0, q1]
        conv => rhs; rw [Lib.decDigits]
        by_cases c10 : n.natAbs < 10
        · rw [dif_pos c10, if_pos (by omega), Nat.mod_eq_of_lt c10]; simp
        · rw [dif_neg c10, if_neg (by omega)]; simp
      refine EV.neg h0 (EV.cases (fun hn => ?_) (fun hn => ?_))
      · exact key _ (by rw [wrap_neg _ (by omega), w64 (by omega) (by omega)]; omega)
      · exact key _ (by rw [w64 (by omega) (by omega)]; omega)
theorem spec_FormatInt_is (n : Int) (h1 : -9223372036854775808 ≤ n) (h2 : n ≤ 9223372036854775807) : EV (fun k => spec_FormatInt.f k n) (fmtM n) := by
  unfold spec_FormatInt.f
  refine EV.cases (fun h => (EV.now _).eq ?_) (fun h => (spec_FormatInt_l0 (decide (n < 0)) 20 n [] (by omega) h1 h2 (by simp)).eq ?_)
  · subst h
    show bs [48] = bs (Lib.itoa 0)
    unfold Lib.itoa
    rw [if_neg (by omega), Lib.decDigits]; rfl
  · show _ = bs (Lib.itoa n)
    unfold Lib.itoa
    by_cases hn : n < 0
    · simp [hn, h]
    · have : n.toNat = n.natAbs := by omega
      simp [hn, h, this]

def slopeTextM (p q : Int) : ByteArray := if slopeB p q = true then (fmtM p ++ (⟨#[47]⟩ : ByteArray)) ++ fmtM q else ⟨#[]⟩
theorem slopeB_pq {p q : Int} (h : slopeB p q = true) : -1000 ≤ p ∧ p ≤ 1000 ∧ 0 ≤ q ∧ q ≤ 1000 := by
  unfold slopeB at h; simp at h; omega
theorem app_size (a b : ByteArray) : (a ++ b).size = a.size + b.size := ByteArray.size_append

theorem spec_SlopeText_is (p q : Int) : EV (fun k => spec_SlopeText.f k p q) (slopeTextM p q) := by
  unfold spec_SlopeText.f slopeTextM
  refine EV.bind (spec_IsSlope_is p q) ?_
  refine EV.cases (fun h => ?_) (fun h => (EV.now _).eq (by simp [h]))
  have b := slopeB_pq h
  have a1 := fmtM_size p (by omega) (by omega)
  have a2 := fmtM_size q (by omega) (by omega)
  refine EV.bind (spec_FormatInt_is p (by omega) (by omega)) (EV.pos (by omega) (EV.bind (spec_FormatInt_is q (by omega) (by omega)) (EV.pos ?_ ((EV.now _).eq (by simp [h])))))
  rw [app_size]; show (fmtM p).size + 1 + (fmtM q).size ≤ _; omega

theorem laws_toSlope_is (p q : Int) : laws_toSlope.f p q = some (p, q) := rfl

theorem impl_within_is (a b c : Int) : impl_within.f a b c = some (decide (b ≤ a ∧ a ≤ c)) := by
  unfold impl_within.f
  by_cases h : a ≥ b
  · rw [if_pos h]; simp [show b ≤ a from h]
  · rw [if_neg h]; simp; omega

theorem impl_size_is (a : Int) (h : -9223372036854775808 < a) (h' : a ≤ 9223372036854775807) : impl_size.f a = some (a.natAbs : Int) := by
  unfold impl_size.f mx
  rw [w64 (by omega) (by omega)]
  congr 1
  split <;> omega
theorem impl_size_some (a : Int) : ∃ r, impl_size.f a = some r := ⟨_, rfl⟩

theorem impl_gcd_l0 (n : Nat) : ∀ a b : Int, b.natAbs ≤ n → ∃ r, EV (fun k => impl_gcd.l0 k a b) r ∧ (0 ≤ a → 0 ≤ b → r = ((Nat.gcd a.natAbs b.natAbs : Nat) : Int)) := by
  induction n with
  | zero =>
    intro a b hb
    obtain rfl : b = 0 := by omega
    refine ⟨a, EV.step (fun k => by rw [impl_gcd.l0]) ?_, fun h _ => by simp; omega⟩
    exact EV.pos rfl (EV.now _)
  | succ n ih =>
    intro a b hb
    by_cases h : b = 0
    · subst h
      refine ⟨a, EV.step (fun k => by rw [impl_gcd.l0]) ?_, fun h _ => by simp; omega⟩
      exact EV.pos rfl (EV.now _)
    · have hm := tmod_lt a b h
      obtain ⟨r, hr, hv⟩ := ih b (Int.tmod a b) (by omega)
      refine ⟨r, EV.step (fun k => by rw [impl_gcd.l0]) ?_, fun ha hb' => ?_⟩
      · exact EV.neg h hr
      · rw [hv hb' (Int.tmod_nonneg _ ha), gcd_step]
theorem impl_gcd_is (a b : Int) (h1 : a.natAbs ≤ 9223372036854775807) (h2 : b.natAbs ≤ 9223372036854775807) : EV (fun k => impl_gcd.f k a b) ((Nat.gcd a.natAbs b.natAbs : Nat) : Int) := by
  obtain ⟨r, hr, hv⟩ := impl_gcd_l0 (b.natAbs : Int).natAbs (a.natAbs : Int) (b.natAbs : Int) (Nat.le_refl _)
  refine EV.by (impl_size_is a (by omega) (by omega)) (EV.by (impl_size_is b (by omega) (by omega)) (hr.eq ?_))
  rw [hv (by omega) (by omega)]; simp
theorem impl_gcd_some (a b : Int) : ∃ r, EV (fun k => impl_gcd.f k a b) r := by
  obtain ⟨x, hx⟩ := impl_size_some a
  obtain ⟨y, hy⟩ := impl_size_some b
  obtain ⟨r, hr, _⟩ := impl_gcd_l0 y.natAbs x y (Nat.le_refl _)
  exact ⟨r, EV.by hx (EV.by hy hr)⟩

theorem impl_IsSlope_is (p q : Int) : EV (fun k => impl_IsSlope.f k p q) (slopeB p q) := by
  unfold slopeB
  refine EV.by (impl_within_is _ _ _) ?_
  by_cases hp : -1000 ≤ p ∧ p ≤ 1000
  · refine EV.pos (by simpa using hp) (EV.by (impl_within_is _ _ _) ?_)
    by_cases hq : 0 ≤ q ∧ q ≤ 1000
    · refine EV.pos (by simpa using hq) (EV.bind (impl_gcd_is p q (by omega) (by omega)) ?_)
      by_cases hg : Nat.gcd p.natAbs q.natAbs = 1
      · refine EV.pos (by omega) ?_
        by_cases h0 : q > 0
        · exact EV.pos h0 ((EV.now _).eq (by simp [hp, hq, hg]; omega))
        · exact EV.neg h0 ((EV.now _).eq (by simp [hp, hq, hg]; rw [Bool.eq_iff_iff]; simp; omega))
      · exact EV.neg (by omega) ((EV.now _).eq (by simp [hg]))
    · exact EV.neg (by simpa using hq) ((EV.now _).eq (by simp [hq]))
  · exact EV.neg (by simpa using hp) ((EV.now _).eq (by simp [hp]))

theorem impl_FormatInt_is (n : Int) (h1 : -9223372036854775808 ≤ n) (h2 : n ≤ 9223372036854775807) : impl_FormatInt.f n = some (fmtM n) := if_pos ⟨h1, h2⟩

theorem impl_SlopeText_is (p q : Int) : EV (fun k => impl_SlopeText.f k p q) (slopeTextM p q) := by
  unfold impl_SlopeText.f slopeTextM
  refine EV.bind (impl_IsSlope_is p q) ?_
  refine EV.cases (fun h => ?_) (fun h => (EV.now _).eq (by simp [h]))
  have b := slopeB_pq h
  have a1 := fmtM_size p (by omega) (by omega)
  have a2 := fmtM_size q (by omega) (by omega)
  refine EV.by (impl_FormatInt_is p (by omega) (by omega)) (EV.pos (by omega) (EV.by (impl_FormatInt_is q (by omega) (by omega)) (EV.pos ?_ ((EV.now _).eq (by simp [h])))))
  rw [app_size]; show (fmtM p).size + 1 + (fmtM q).size ≤ _; omega

theorem FnExactSlopeText (p : Int) (hp : (Lit.int .i64 p).wf = true) (q : Int) (hq : (Lit.int .i64 q).wf = true) : ∃ k, laws_FnExactSlopeText.f k p q = some true :=
  EV.rounds (EV.by (laws_toSlope_is p q) (EV.bind (spec_SlopeText_is p q) (EV.by (laws_toSlope_is p q) (EV.bind (impl_SlopeText_is p q) (EV.pos rfl (EV.now _))))))

end Go.Proofs.YtkjflikcifcnkaaDoor.Pure
