/- Pure side of FnExactBraidHolds: the printed functions of the program and of the reference answer alike at every input that the statement takes; no condition beyond the printed statement's bounds. -/
import Derived.Test.YthhgecgbofcbeaaPFnExactBraidHoldsx10
import Derived.Test.YthhgecgbofcbeaaWSized
set_option linter.unusedVariables false
set_option linter.unusedSimpArgs false
set_option linter.unnecessarySimpa false
set_option maxRecDepth 10000
/-- the printed row calls the print's word by this name -/
abbrev Go.Proofs.Ythhgecgbofcbeaa.PrintWords.sized_ints := @Go.Proofs.YthhgecgbofcbeaaW.PrintWords.sized_ints
namespace Go.Proofs.Ythhgecgbofcbeaa.Pure
open Go.RowKit Go.Proofs.Ythhgecgbofcbeaa.PFnExactBraidHolds Go.Proofs.YthhgecgbofcbeaaW.PrintWords Go.Proofs.YthhgecgbofcbeaaW.PrintLast Go.Proofs.YthhgecgbofcbeaaW.PrintMore

/-! ### Base: words of our own, of no program -/
section
theorem w64 {x : Int} (h1 : -9223372036854775808 ≤ x) (h2 : x ≤ 9223372036854775807) : wrap64 x = x := by
  unfold wrap64; omega
theorem wf64 {x : Int} (h : (Lit.int .i64 x).wf = true) : -9223372036854775808 ≤ x ∧ x ≤ 9223372036854775807 := by
  simp only [Lit.wf, IntKind.min, IntKind.max, IntKind.signed, IntKind.bits, Bool.and_eq_true, decide_eq_true_eq, if_true] at h
  omega
/-- from some number of rounds on it answers r -/
structure EV {α : Type} (g : Nat → Option α) (r : α) : Prop where mk :: (out : ∃ K, ∀ k, K ≤ k → g k = some r)
theorem EV.now {α : Type} (r : α) : EV (fun _ => some r) r := ⟨0, fun _ _ => rfl⟩
theorem EV.rounds {α : Type} {g : Nat → Option α} {r : α} (h : EV g r) : ∃ k, g k = some r := by
  obtain ⟨K, h⟩ := h
  exact ⟨K, h K (Nat.le_refl _)⟩
theorem EV.bind {α β : Type} {g : Nat → Option α} {f : Nat → α → Option β} {a : α} {r : β} (h : EV g a) (k : EV (fun n => f n a) r) : EV (fun n => (g n).bind (f n)) r := by
  obtain ⟨K, h⟩ := h
  obtain ⟨K', k⟩ := k
  refine ⟨max K K', fun n hn => ?_⟩
  have h1 := h n (by omega)
  have h2 := k n (by omega)
  simp only [h1, Option.bind_some]
  exact h2
theorem EV.step {α : Type} {g f : Nat → Option α} {r : α} (h : ∀ k, g (k + 1) = f k) (k : EV f r) : EV g r := by
  obtain ⟨K, k⟩ := k
  refine ⟨K + 1, fun n hn => ?_⟩
  obtain ⟨m, rfl⟩ : ∃ m, n = m + 1 := ⟨n - 1, by omega⟩
  rw [h]
  exact k m (by omega)
theorem EV.congr {α : Type} {g f : Nat → Option α} {r : α} (h : ∀ k, g k = f k) (k : EV f r) : EV g r := by
  obtain ⟨K, k⟩ := k
  exact ⟨K, fun n hn => (h n).trans (k n hn)⟩
theorem EV.pos {α : Type} {c : Prop} [Decidable c] {a b : Nat → Option α} {r : α} (h : c) (k : EV a r) : EV (fun n => if c then a n else b n) r :=
  EV.congr (fun n => if_pos h) k
theorem EV.neg {α : Type} {c : Prop} [Decidable c] {a b : Nat → Option α} {r : α} (h : ¬ c) (k : EV b r) : EV (fun n => if c then a n else b n) r :=
  EV.congr (fun n => if_neg h) k
theorem EV.cases {α : Type} {c : Prop} [Decidable c] {a b : Nat → Option α} {r : α} (h : c → EV a r) (h' : ¬ c → EV b r) : EV (fun n => if c then a n else b n) r := by
  by_cases hc : c
  · exact EV.pos hc (h hc)
  · exact EV.neg hc (h' hc)
/-- a callee without rounds -/
theorem EV.by {α β : Type} {g : Option α} {f : Nat → α → Option β} {a : α} {r : β} (h : g = some a) (k : EV (fun n => f n a) r) : EV (fun n => g.bind (f n)) r := by
  subst h; exact k
theorem EV.is {α : Type} {g : Option α} {r : α} (h : g = some r) : EV (fun _ => g) r := ⟨0, fun _ _ => h⟩
theorem EV.eq {α : Type} {g : Nat → Option α} {r r' : α} (h : EV g r) (e : r = r') : EV g r' := e ▸ h
theorem rd_app (pre : List Int) (x : Int) (suf : List Int) : rd (pre ++ x :: suf) (pre.length : Int) = x := by
  simp [rd]
theorem rd_nat (xs : List Int) (i : Nat) (h : i < xs.length) : rd xs (i : Int) = xs[i] := by
  simp [rd, h]
theorem set_app {α : Type} (pre : List α) (x y : α) (suf : List α) (n : Nat) (hn : n = pre.length) : (pre ++ x :: suf).set n y = pre ++ y :: suf := by
  subst hn; simp
end
def smallB (x : Int) : Bool := decide (-1000 ≤ x ∧ x ≤ 1000)
/-- one index on -/
theorem up {α : Type} {x : α} {pre : List α} (h : pre.length < 4611686018427387904) : wrap64 ((pre.length : Int) + 1) = ((pre ++ [x]).length : Int) := by
  rw [w64 (by omega) (by omega)]; simp
theorem lt_app {α : Type} (pre : List α) (x : α) (suf : List α) : (pre.length : Int) < ((pre ++ x :: suf).length : Int) := by simp; omega
def classB (g : Int) (xs : List Int) : Bool := decide (1 ≤ g ∧ g ≤ 3) && (decide ((xs.length : Int) = 2 * g) && xs.all smallB)
theorem EV.uniq {α : Type} {g : Nat → Option α} {r r' : α} (h : EV g r) (h' : EV g r') : r = r' := by
  obtain ⟨K, h⟩ := h
  obtain ⟨K', h'⟩ := h'
  have a := h (max K K') (by omega)
  have b := h' (max K K') (by omega)
  rw [a] at b; exact Option.some.inj b
/-- from some number of rounds on -/
def Evt (P : Nat → Prop) : Prop := ∃ K, ∀ k, K ≤ k → P k
theorem Evt.and {P Q : Nat → Prop} (h : Evt P) (h' : Evt Q) : Evt (fun k => P k ∧ Q k) := by
  obtain ⟨K, h⟩ := h
  obtain ⟨K', h'⟩ := h'
  exact ⟨max K K', fun k hk => ⟨h k (by omega), h' k (by omega)⟩⟩
theorem Evt.const {p : Prop} (h : p) : Evt (fun _ => p) := ⟨0, fun _ _ => h⟩
theorem EV.evt {α : Type} {g : Nat → Option α} {r : α} (h : EV g r) : Evt (fun k => g k = some r) := h.out
theorem Evt.imp {P Q : Nat → Prop} (h : Evt P) (f : ∀ k, P k → Q k) : Evt Q := by
  obtain ⟨K, h⟩ := h
  exact ⟨K, fun k hk => f k (h k hk)⟩
theorem Evt.rounds {P : Nat → Prop} (h : Evt P) : ∃ k, P k := by
  obtain ⟨K, h⟩ := h
  exact ⟨K, h K (Nat.le_refl _)⟩
theorem EV.mono {α : Type} {g : Nat → Option α} (hg : ∀ k, LeO (g k) (g (k + 1))) {k : Nat} {r : α} (h : g k = some r) : EV g r := ⟨k, fun _ hk => at_rounds hg hk h⟩

theorem laws_toIntS_l0 (xs : List Int) (hn : xs.length < 4611686018427387904) : ∀ suf pre, xs = pre ++ suf → EV (fun k => laws_toIntS.l0 k xs (pre ++ List.replicate suf.length 0) (pre.length : Int)) xs := by
  intro suf
  induction suf with
  | nil =>
    intro pre h
    refine EV.step (fun k => by rw [laws_toIntS.l0]) ?_
    refine (EV.neg ?_ ((EV.now _).eq ?_))
    · subst h; simp
    · subst h; simp
  | cons x suf ih =>
    intro pre h
    have hl : pre.length < 4611686018427387904 := by subst h; simp at hn; omega
    have hlt : (pre.length : Int) < (xs.length : Int) := by subst h; exact lt_app ..
    have hx : rd xs (pre.length : Int) = x := by subst h; exact rd_app ..
    refine EV.step (fun k => by rw [laws_toIntS.l0]) ?_
    refine (EV.pos hlt (EV.pos (by omega) (EV.pos (by simp; omega) ?_)))
    rw [hx, up (x := x) hl, List.length_cons, List.replicate_succ, set_app _ _ _ _ _ (by simp)]
    have := ih (pre ++ [x]) (by simp [h])
    simpa using this
theorem laws_toIntS_is (xs : List Int) (hn : xs.length ≤ 1048576) : EV (fun k => laws_toIntS.f k xs) xs := by
  refine EV.pos (by omega) (EV.pos (by omega) ?_)
  exact laws_toIntS_l0 xs (by omega) xs [] rfl

theorem laws_eqIntS_l0 (xs ys : List Int) (hn : xs.length < 4611686018427387904) : ∀ (suf suf' pre : List Int), pre.length + suf.length = xs.length → pre.length + suf'.length = ys.length → suf.length = suf'.length → xs.drop pre.length = suf → ys.drop pre.length = suf' →
    EV (fun k => laws_eqIntS.l0 k xs ys (pre.length : Int)) (decide (suf = suf')) := by
  intro suf
  induction suf with
  | nil =>
    intro suf' pre h1 h2 h3 h4 h5
    have : suf' = [] := List.eq_nil_of_length_eq_zero (by simpa using h3.symm)
    subst this
    refine EV.step (fun k => by rw [laws_eqIntS.l0]) ?_
    refine (EV.neg ?_ ((EV.now _).eq (by simp)))
    simp at h1; omega
  | cons x suf ih =>
    intro suf' pre h1 h2 h3 h4 h5
    obtain ⟨y, suf', rfl⟩ : ∃ y t, suf' = y :: t := by
      cases suf' with
      | nil => simp at h3
      | cons y t => exact ⟨y, t, rfl⟩
    simp only [List.length_cons] at h1 h2 h3
    have hl : pre.length < 4611686018427387904 := by omega
    have hx : rd xs (pre.length : Int) = x := by
      rw [rd_nat _ _ (by omega)]
      have := List.getElem_drop (xs := xs) (i := pre.length) (j := 0) (h := by simp; omega)
      simp only [h4] at this; simpa using this.symm
    have hy : rd ys (pre.length : Int) = y := by
      rw [rd_nat _ _ (by omega)]
      have := List.getElem_drop (xs := ys) (i := pre.length) (j := 0) (h := by simp; omega)
      simp only [h5] at this; simpa using this.symm
    refine EV.step (fun k => by rw [laws_eqIntS.l0]) ?_
    refine (EV.pos (by omega) (EV.pos (by omega) (EV.pos (by omega) ?_)))
    rw [hx, hy, up (x := x) hl]
    by_cases hs : x = y
    · refine EV.pos hs ((ih suf' _ (by simp; omega) (by simp; omega) (by omega) ?_ ?_).eq (by simp [hs]))
      · rw [List.length_append, ← List.drop_drop, h4]; rfl
      · rw [List.length_append, ← List.drop_drop, h5]; rfl
    · exact (EV.neg hs (EV.now _)).eq (by simp [hs])
theorem laws_eqIntS_is (xs ys : List Int) (hn : xs.length < 4611686018427387904) : EV (fun k => laws_eqIntS.f k xs ys) (decide (xs = ys)) := by
  by_cases h : xs.length = ys.length
  · exact EV.pos (by omega) (laws_eqIntS_l0 xs ys hn xs ys [] (by simp) (by simp) h rfl rfl)
  · exact (EV.neg (by omega) (EV.now _)).eq (by simp; intro e; exact h (by rw [e]))
theorem laws_eqIntS_self (xs : List Int) (hn : xs.length < 4611686018427387904) : EV (fun k => laws_eqIntS.f k xs xs) true := (laws_eqIntS_is xs xs hn).eq (by simp)

theorem spec_l1In_is (a b c : Int) : spec_l1In.f a b c = some (decide (b ≤ a ∧ a ≤ c)) := by
  unfold spec_l1In.f
  by_cases h : a ≥ b
  · rw [if_pos h]; simp [show b ≤ a from h]
  · rw [if_neg h]; simp; omega

theorem spec_l11Fits_l0 (xs : List Int) (hn : xs.length < 4611686018427387904) : ∀ suf pre, xs = pre ++ suf → EV (fun k => spec_l11Fits.l0 k xs (pre.length : Int)) (suf.all smallB) := by
  intro suf
  induction suf with
  | nil =>
    intro pre h
    refine EV.step (fun k => by rw [spec_l11Fits.l0]) ?_
    exact EV.neg (by subst h; simp) (EV.now _)
  | cons x suf ih =>
    intro pre h
    have hl : pre.length < 4611686018427387904 := by subst h; simp at hn; omega
    have hlt : (pre.length : Int) < (xs.length : Int) := by subst h; exact lt_app ..
    have hx : rd xs (pre.length : Int) = x := by subst h; exact rd_app ..
    refine EV.step (fun k => by rw [spec_l11Fits.l0]) ?_
    refine EV.pos hlt (EV.pos (by omega) (EV.by (spec_l1In_is _ _ _) ?_))
    rw [hx, up (x := x) hl]
    by_cases hs : smallB x = true
    · exact EV.pos hs ((ih (pre ++ [x]) (by simp [h])).eq (by simp [hs]))
    · exact EV.neg hs ((EV.now _).eq (by simp [hs]))
theorem spec_l11Fits_is (xs : List Int) (hn : xs.length < 4611686018427387904) : EV (fun k => spec_l11Fits.f k xs) (xs.all smallB) := spec_l11Fits_l0 xs hn xs [] rfl

theorem spec_IsClass_is (g : Int) (xs : List Int) (hn : xs.length < 4611686018427387904) : EV (fun k => spec_IsClass.f k g xs) (classB g xs) := by
  unfold classB
  refine EV.by (spec_l1In_is _ _ _) ?_
  by_cases hg : 1 ≤ g ∧ g ≤ 3
  · refine EV.pos (by simpa using hg) ?_
    rw [w64 (by omega) (by omega)]
    by_cases hl : (xs.length : Int) = 2 * g
    · exact EV.pos hl (EV.bind (spec_l11Fits_is xs hn) ((EV.now _).eq (by simp [hg, hl])))
    · exact EV.neg hl ((EV.now _).eq (by simp [hl]))
  · exact EV.neg (by simpa using hg) ((EV.now _).eq (by simp [hg]))

theorem gcd_step (a b : Int) : Nat.gcd b.natAbs (Int.tmod a b).natAbs = Nat.gcd a.natAbs b.natAbs := by
  rw [Int.natAbs_tmod, Nat.gcd_comm b.natAbs, ← Nat.gcd_rec, Nat.gcd_comm]
theorem tmod_lt (a b : Int) (h : b ≠ 0) : (Int.tmod a b).natAbs < b.natAbs := by
  rw [Int.natAbs_tmod]; exact Nat.mod_lt _ (by omega)
def slopeB (p q : Int) : Bool := decide (-1000 ≤ p ∧ p ≤ 1000) && (decide (0 ≤ q ∧ q ≤ 1000) && (decide (Nat.gcd p.natAbs q.natAbs = 1) && (decide (0 < q) || decide (p = 1))))
/-- p, q by their greatest common divisor, the sign so that q is above 0, or p -/
def lowM (p q : Int) : Int × Int :=
  let d : Int := (Nat.gcd p.natAbs q.natAbs : Nat)
  if q < 0 ∨ (q = 0 ∧ p < 0) then (-(p.tdiv d), -(q.tdiv d)) else (p.tdiv d, q.tdiv d)
def slopeOfM (p q : Int) : Int × Int × Bool :=
  if -1000 ≤ p ∧ p ≤ 1000 then (if -1000 ≤ q ∧ q ≤ 1000 then (if p = 0 ∧ q = 0 then (0, 0, false) else ((lowM p q).1, (lowM p q).2, true)) else (0, 0, false)) else (0, 0, false)
theorem low_of (p q : Int) (hp : -1000 ≤ p ∧ p ≤ 1000) (hq : -1000 ≤ q ∧ q ≤ 1000) (hz : ¬ (p = 0 ∧ q = 0)) :
    ∃ d a b : Int, ((Nat.gcd p.natAbs q.natAbs : Nat) : Int) = d ∧ 0 < d ∧ d ≤ 1000 ∧ p.tdiv d = a ∧ q.tdiv d = b ∧ p = d * a ∧ q = d * b ∧ -1000 ≤ a ∧ a ≤ 1000 ∧ -1000 ≤ b ∧ b ≤ 1000 ∧ (q < 0 ↔ b < 0) ∧ (q = 0 ↔ b = 0) ∧ (p < 0 ↔ a < 0) := by
  have hg : 0 < Nat.gcd p.natAbs q.natAbs := by
    rcases Nat.eq_zero_or_pos (Nat.gcd p.natAbs q.natAbs) with h | h
    · have := Nat.gcd_eq_zero_iff.1 h; omega
    · exact h
  have h1 : Nat.gcd p.natAbs q.natAbs ≤ 1000 := by
    by_cases h : p = 0
    · have := Nat.gcd_le_right p.natAbs (n := q.natAbs) (by omega); omega
    · have := Nat.gcd_le_left q.natAbs (m := p.natAbs) (by omega); omega
  obtain ⟨a, ha⟩ : ∃ a, p = ((Nat.gcd p.natAbs q.natAbs : Nat) : Int) * a := Int.ofNat_dvd_left.2 (Nat.gcd_dvd_left ..)
  obtain ⟨b, hb⟩ : ∃ b, q = ((Nat.gcd p.natAbs q.natAbs : Nat) : Int) * b := Int.ofNat_dvd_left.2 (Nat.gcd_dvd_right ..)
  generalize hd : ((Nat.gcd p.natAbs q.natAbs : Nat) : Int) = d at *
  have hdp : 0 < d := by omega
  have e1 : p.tdiv d = a := by rw [ha]; exact Int.mul_tdiv_cancel_left _ (by omega)
  have e2 : q.tdiv d = b := by rw [hb]; exact Int.mul_tdiv_cancel_left _ (by omega)
  have bnd : ∀ x y : Int, x = d * y → -1000 ≤ x → x ≤ 1000 → -1000 ≤ y ∧ y ≤ 1000 ∧ (x < 0 ↔ y < 0) ∧ (x = 0 ↔ y = 0) := by
    intro x y h h1 h2
    have k1 : 0 < y → y ≤ d * y := fun hy => by have := Int.mul_le_mul_of_nonneg_right (show 1 ≤ d by omega) (show 0 ≤ y by omega); omega
    have k2 : y < 0 → d * y ≤ y := fun hy => by have := Int.mul_le_mul_of_nonpos_right (show 1 ≤ d by omega) (show y ≤ 0 by omega); omega
    have k3 : y = 0 → d * y = 0 := fun hy => by rw [hy]; simp
    rw [← h] at k1 k2 k3
    rcases Int.lt_trichotomy y 0 with hy | hy | hy
    · have := k2 hy; omega
    · have := k3 hy; omega
    · have := k1 hy; omega
  have B1 := bnd p a ha hp.1 hp.2
  have B2 := bnd q b hb hq.1 hq.2
  exact ⟨d, a, b, rfl, hdp, by omega, e1, e2, ha, hb, by omega, by omega, by omega, by omega, B2.2.2.1, B2.2.2.2, B1.2.2.1⟩

def crossM (a b c d : Int) : Int := if slopeB a b = true ∧ slopeB c d = true then ((a * d - b * c).natAbs : Int) else -1
theorem slopeB_bd {p q : Int} (h : slopeB p q = true) : -1000 ≤ p ∧ p ≤ 1000 ∧ 0 ≤ q ∧ q ≤ 1000 ∧ Nat.gcd p.natAbs q.natAbs = 1 ∧ (0 < q ∨ p = 1) := by
  unfold slopeB at h
  simp only [Bool.and_eq_true, Bool.or_eq_true, decide_eq_true_eq] at h
  omega
/-- a product of two numbers of bounded size -/
theorem mul_bd {x y : Int} (A B : Nat) (hx : x.natAbs ≤ A) (hy : y.natAbs ≤ B) : (x * y).natAbs ≤ A * B := by
  rw [Int.natAbs_mul]; exact Nat.mul_le_mul hx hy
theorem cross_w {a b c d : Int} (h1 : slopeB a b = true) (h2 : slopeB c d = true) : wrap64 (a * d) = a * d ∧ wrap64 (b * c) = b * c ∧ (a * d - b * c).natAbs ≤ 2000000 := by
  have b1 := slopeB_bd h1
  have b2 := slopeB_bd h2
  have m1 := mul_bd (x := a) (y := d) 1000 1000 (by omega) (by omega)
  have m2 := mul_bd (x := b) (y := c) 1000 1000 (by omega) (by omega)
  refine ⟨w64 (by omega) (by omega), w64 (by omega) (by omega), by omega⟩

def formM : List Int → List Int → Int
  | a :: b :: xs, c :: d :: ys => (a * d - b * c) + formM xs ys
  | _, _ => 0
theorem smallB_bd {x : Int} (h : smallB x = true) : -1000 ≤ x ∧ x ≤ 1000 := by simpa [smallB] using h
theorem form_term {a b c d : Int} (ha : smallB a = true) (hb : smallB b = true) (hc : smallB c = true) (hd : smallB d = true) : (a * d).natAbs ≤ 1000000 ∧ (b * c).natAbs ≤ 1000000 := by
  have := smallB_bd ha; have := smallB_bd hb; have := smallB_bd hc; have := smallB_bd hd
  exact ⟨mul_bd 1000 1000 (by omega) (by omega), mul_bd 1000 1000 (by omega) (by omega)⟩
theorem formM_bd : ∀ (n : Nat) (xs ys : List Int), xs.length ≤ n → xs.all smallB = true → ys.all smallB = true → (formM xs ys).natAbs ≤ 1000000 * xs.length
  | 0, xs, ys, hn, _, _ => by
    have : xs = [] := List.eq_nil_of_length_eq_zero (by omega)
    subst this; simp [formM]
  | n + 1, xs, ys, hn, hx, hy => by
    match xs, ys with
    | a :: b :: xs, c :: d :: ys =>
      simp only [List.all_cons, Bool.and_eq_true, List.length_cons] at hx hy hn
      have t := form_term hx.1 hx.2.1 hy.1 hy.2.1
      have r := formM_bd n xs ys (by omega) hx.2.2 hy.2.2
      simp only [formM, List.length_cons]; omega
    | [], _ => simp [formM]
    | [_], _ => simp [formM]
    | _ :: _ :: _, [] => simp [formM]
    | _ :: _ :: _, [_] => simp [formM]
theorem rd_app1 (pre : List Int) (x y : Int) (suf : List Int) (i : Int) (h : i = pre.length + 1) : rd (pre ++ x :: y :: suf) i = y := by
  subst h
  have := rd_app (pre ++ [x]) y suf
  simpa using this

theorem spec_l11Form_l0 : ∀ (n : Nat) (sx sy px py : List Int) (acc : Int), sx.length ≤ n → px.length = py.length → sx.length = sy.length → sx.all smallB = true → sy.all smallB = true → px.length + sx.length < 1000000 →
    acc.natAbs + 1000000 * sx.length ≤ 1000000000000000 → EV (fun k => spec_l11Form.l0 k (px ++ sx) (py ++ sy) acc (px.length : Int)) (acc + formM sx sy) := by
  intro n
  induction n with
  | zero =>
    intro sx sy px py acc hn hp hs _ _ hl _
    have e : sx = [] := List.eq_nil_of_length_eq_zero (by omega)
    subst e
    refine EV.step (fun k => by rw [spec_l11Form.l0]) ?_
    rw [w64 (by omega) (by omega)]
    exact EV.neg (by simp; omega) ((EV.now _).eq (by simp [formM]))
  | succ n ih =>
    intro sx sy px py acc hn hp hs h1 h2 hl ha
    match sx, sy with
    | [], _ =>
      refine EV.step (fun k => by rw [spec_l11Form.l0]) ?_
      rw [w64 (by omega) (by omega)]
      exact EV.neg (by simp; omega) ((EV.now _).eq (by simp [formM]))
    | [_], _ =>
      refine EV.step (fun k => by rw [spec_l11Form.l0]) ?_
      rw [w64 (by omega) (by omega)]
      exact EV.neg (by simp) ((EV.now _).eq (by simp [formM]))
    | _ :: _ :: _, [] => simp at hs
    | _ :: _ :: _, [_] => simp at hs
    | a :: b :: xs, c :: d :: ys =>
      simp only [List.all_cons, Bool.and_eq_true, List.length_cons] at h1 h2 hn hs hl ha
      have t := form_term h1.1 h1.2.1 h2.1 h2.2.1
      refine EV.step (fun k => by rw [spec_l11Form.l0]) ?_
      rw [w64 (x := (px.length : Int) + 1) (by omega) (by omega), w64 (x := (px.length : Int) + 2) (by omega) (by omega)]
      refine EV.pos (by simp; omega) (EV.pos (by omega) (EV.pos (by simp; omega) (EV.pos (by omega) (EV.pos (by simp; omega) (EV.pos (by simp; omega) ?_)))))
      have e3 : rd (py ++ c :: d :: ys) (px.length : Int) = c := by rw [hp]; exact rd_app ..
      rw [rd_app, e3, rd_app1 px a b xs _ rfl, rd_app1 py c d ys _ (by rw [hp])]
      rw [w64 (x := a * d) (by omega) (by omega), w64 (x := b * c) (by omega) (by omega)]
      rw [w64 (x := acc + a * d) (by omega) (by omega), w64 (by omega) (by omega)]
      have := ih xs ys (px ++ [a, b]) (py ++ [c, d]) (acc + (a * d - b * c)) (by omega) (by simp; omega) (by omega) h1.2.2 h2.2.2 (by simp; omega) (by omega)
      simp only [List.append_assoc, List.cons_append, List.nil_append, List.length_append, List.length_cons, List.length_nil] at this
      have e : acc + a * d - b * c = acc + (a * d - b * c) := by omega
      rw [e]
      refine EV.congr (fun k => ?_) (this.eq (by simp only [formM]; omega))
      congr 1
theorem spec_l11Form_is (xs ys : List Int) (hs : xs.length = ys.length) (h1 : xs.all smallB = true) (h2 : ys.all smallB = true) (hl : xs.length ≤ 1000) : EV (fun k => spec_l11Form.f k xs ys) (formM xs ys) :=
  (spec_l11Form_l0 xs.length xs ys [] [] 0 (Nat.le_refl _) rfl hs h1 h2 (by simp; omega) (by simp; omega)).eq (by simp)

def formOfM (g : Int) (xs ys : List Int) : Int := if classB g xs = true ∧ classB g ys = true then formM xs ys else 0
theorem class_of {g : Int} {xs : List Int} (h : classB g xs = true) : (1 ≤ g ∧ g ≤ 3) ∧ (xs.length : Int) = 2 * g ∧ xs.all smallB = true := by
  simpa [classB, and_assoc] using h

def twistL (n : Int) (x c : List Int) : List Int := List.zipWith (fun a b => a + n * b) x c
def twistM (g : Int) (c x : List Int) (k : Int) : List Int × Bool :=
  if classB g c = true ∧ classB g x = true ∧ -20 ≤ k ∧ k ≤ 20 then
    (if (twistL (k * formM c x) x c).all smallB = true then (twistL (k * formM c x) x c, true) else ([], false))
  else ([], false)
theorem form_class {g : Int} {c x : List Int} (hc : classB g c = true) (hx : classB g x = true) : (formM c x).natAbs ≤ 6000000 := by
  obtain ⟨_, c2, c3⟩ := class_of hc
  obtain ⟨_, x2, x3⟩ := class_of hx
  have := formM_bd c.length c x (Nat.le_refl _) c3 x3
  omega
theorem twist_term {n a b : Int} (hn : n.natAbs ≤ 120000000) (ha : smallB a = true) (hb : smallB b = true) : wrap64 (n * b) = n * b ∧ wrap64 (a + n * b) = a + n * b := by
  have h1 := smallB_bd ha
  have h2 := smallB_bd hb
  have := mul_bd (x := n) (y := b) 120000000 1000 hn (by omega)
  exact ⟨w64 (by omega) (by omega), w64 (by omega) (by omega)⟩

theorem spec_TwistClass_l0 (x c : List Int) (n : Int) (hl : x.length ≤ 1000) (hlc : c.length = x.length) (hn : n.natAbs ≤ 120000000) (hx : x.all smallB = true) (hc : c.all smallB = true) :
    ∀ (sx sc px pc acc : List Int), x = px ++ sx → c = pc ++ sc → px.length = pc.length → acc.length = px.length → (acc ++ twistL n sx sc).length ≤ 1000 →
    EV (fun k => spec_TwistClass.l0 k c x n acc (px.length : Int)) (if (acc ++ twistL n sx sc).all smallB = true then (acc ++ twistL n sx sc, true) else ([], false)) := by
  intro sx
  induction sx with
  | nil =>
    intro sc px pc acc h1 h2 h3 h4 h5
    have e : twistL n [] sc = [] := rfl
    rw [e, List.append_nil] at h5 ⊢
    refine EV.step (fun k => by rw [spec_TwistClass.l0]) ?_
    refine EV.neg (by subst h1; simp) (EV.bind (spec_l11Fits_is acc (by omega)) ?_)
    by_cases hs : acc.all smallB = true
    · exact EV.pos hs ((EV.now _).eq (by rw [if_pos hs]))
    · exact EV.neg hs ((EV.now _).eq (by rw [if_neg hs]))
  | cons a sx ih =>
    intro sc px pc acc h1 h2 h3 h4 h5
    obtain ⟨b, sc, rfl⟩ : ∃ b t, sc = b :: t := by
      cases sc with
      | nil => exfalso; subst h1; subst h2; simp at hlc; omega
      | cons b t => exact ⟨b, t, rfl⟩
    have e : twistL n (a :: sx) (b :: sc) = (a + n * b) :: twistL n sx sc := rfl
    have ha : smallB a = true := by subst h1; simp at hx; exact hx.2.1
    have hb : smallB b = true := by subst h2; simp at hc; exact hc.2.1
    have hp : px.length < 4611686018427387904 := by subst h1; simp at hl; omega
    have r1 : rd x (px.length : Int) = a := by subst h1; exact rd_app ..
    have r2 : rd c (px.length : Int) = b := by subst h2; rw [h3]; exact rd_app ..
    have l1 : (px.length : Int) < (x.length : Int) := by subst h1; exact lt_app ..
    refine EV.step (fun k => by rw [spec_TwistClass.l0]) ?_
    rw [r1, r2, (twist_term hn ha hb).1, (twist_term hn ha hb).2, up (x := a) hp]
    refine EV.pos l1 (EV.pos (by omega) (EV.pos (by omega) (EV.pos (by omega) ?_)))
    rw [e] at h5 ⊢
    have := ih sc (px ++ [a]) (pc ++ [b]) (acc ++ [a + n * b]) (by simp [h1]) (by simp [h2]) (by simp [h3]) (by simp [h4]) (by simpa using h5)
    simpa using this
theorem spec_TwistClass_is (g : Int) (c x : List Int) (t : Int) (h1 : c.length ≤ 1048576) (h2 : x.length ≤ 1048576) : EV (fun k => spec_TwistClass.f k g c x t) (twistM g c x t) := by
  have no : EV (fun k => spec_TwistClass.j0 k c x t true) ([], false) := by
    refine EV.step (fun k => by rw [spec_TwistClass.j0]) ?_
    exact EV.pos rfl (EV.now _)
  unfold twistM
  refine EV.bind (spec_IsClass_is g c (by omega)) ?_
  by_cases hc : classB g c = true
  · refine EV.pos hc (EV.bind (spec_IsClass_is g x (by omega)) ?_)
    by_cases hx : classB g x = true
    · refine EV.pos hx (EV.by (spec_l1In_is _ _ _) ?_)
      by_cases ht : -20 ≤ t ∧ t ≤ 20
      · rw [if_pos ⟨hc, hx, ht⟩]
        obtain ⟨_, c2, c3⟩ := class_of hc
        obtain ⟨_, x2, x3⟩ := class_of hx
        have hf := form_class hc hx
        have hn := mul_bd (x := t) (y := formM c x) 20 6000000 (by omega) hf
        have e : (!decide (-20 ≤ t ∧ t ≤ 20)) = false := by simp [ht]
        rw [e]
        refine EV.step (fun k => by rw [spec_TwistClass.j0]) ?_
        refine EV.neg (by simp) (EV.bind (spec_l11Form_is c x (by omega) c3 x3 (by omega)) ?_)
        rw [w64 (x := t * formM c x) (by omega) (by omega)]
        exact spec_TwistClass_l0 x c (t * formM c x) (by omega) (by omega) (by omega) x3 c3 x c [] [] [] rfl rfl rfl rfl (by simp [twistL]; omega)
      · rw [if_neg (fun h => ht h.2.2)]
        have e : (!decide (-20 ≤ t ∧ t ≤ 20)) = true := by simp [ht]
        rw [e]; exact no
    · rw [if_neg (fun h => hx h.2.1)]
      exact EV.neg hx no
  · rw [if_neg (fun h => hc h.1)]
    exact EV.neg hc no

def marks : Nat → Int → List Int
  | 0, _ => []
  | n + 1, k => k :: marks n (k + 1)
theorem marks_length (n : Nat) : ∀ k, (marks n k).length = n := by
  induction n with
  | zero => intro k; rfl
  | succ n ih => intro k; simp [marks, ih]

theorem rdL_app (pre : List (List Int)) (x : List Int) (suf : List (List Int)) : rd_L1 (pre ++ x :: suf) (pre.length : Int) = x := by
  simp [rd_L1]
theorem rdL_nat (xs : List (List Int)) (i : Nat) (h : i < xs.length) : rd_L1 xs (i : Int) = xs[i] := by
  simp [rd_L1, h]

def total : List (List Int) → Nat
  | [] => 0
  | r :: rs => r.length + total rs
def marksL : List (List Int) → Int → List (List Int)
  | [], _ => []
  | r :: rs, k => marks r.length k :: marksL rs (k + r.length)
theorem total_mem {r : List Int} : ∀ {xs : List (List Int)}, r ∈ xs → r.length ≤ total xs
  | [], h => by cases h
  | x :: xs, h => by
    rcases List.mem_cons.1 h with rfl | h
    · simp [total]
    · have := total_mem h; simp only [total]; omega
theorem marksL_length : ∀ (xs : List (List Int)) (k : Int), (marksL xs k).length = xs.length
  | [], _ => rfl
  | x :: xs, k => by simp [marksL, marksL_length xs]
/-- what szIntSS answers -/
def szM (xs : List (List Int)) (left : Int) : Int := if (xs.length : Int) + total xs ≤ left then left - xs.length - total xs else -1

def rowB (n : Nat) (r : List Int) : Bool := decide (r.length = n) && r.all smallB
def tableB (t : List (List Int)) : Bool := t.all (rowB t.length) && decide (1 ≤ t.length ∧ t.length ≤ 6)
def dot : List Int → List Int → Int
  | a :: r, b :: x => a * b + dot r x
  | _, _ => 0
def outM (o : List Int) : List Int × Bool := if o.all smallB = true then (o, true) else ([], false)
def applyM (t : List (List Int)) (x : List Int) : List Int × Bool :=
  if tableB t = true ∧ x.length = t.length ∧ x.all smallB = true then outM (t.map fun r => dot r x) else ([], false)
theorem rowB_of {n : Nat} {r : List Int} (h : rowB n r = true) : r.length = n ∧ r.all smallB = true := by simpa [rowB] using h
theorem term_bd {a b : Int} (ha : smallB a = true) (hb : smallB b = true) : (a * b).natAbs ≤ 1000000 := by
  have := smallB_bd ha; have := smallB_bd hb
  exact mul_bd 1000 1000 (by omega) (by omega)
theorem tableB_of {t : List (List Int)} (h : tableB t = true) : (∀ r ∈ t, r.length = t.length ∧ r.all smallB = true) ∧ 1 ≤ t.length ∧ t.length ≤ 6 := by
  unfold tableB at h
  rw [Bool.and_eq_true, List.all_eq_true, decide_eq_true_iff] at h
  exact ⟨fun r hr => rowB_of (h.1 r hr), h.2⟩
theorem applyM_len (t : List (List Int)) (x : List Int) : (applyM t x).1.length ≤ 6 := by
  unfold applyM
  split
  · rename_i h
    have := (tableB_of h.1).2
    unfold outM
    split
    · simp; omega
    · simp
  · simp

/-- column j of t -/
def colL (t : List (List Int)) (j : Nat) : List Int := t.map fun r => r.getD j 0
/-- the products of s with the columns below n, from column j on: none if one fails -/
def colsM (s t : List (List Int)) : Nat → Nat → Option (List (List Int))
  | 0, _ => some []
  | n + 1, j => if (applyM s (colL t j)).2 = true then (colsM s t n (j + 1)).map ((applyM s (colL t j)).1 :: ·) else none
/-- columns to rows -/
def rowsOf (n : Nat) (cs : List (List Int)) : List (List Int) := (List.range n).map fun i => cs.map fun c => c.getD i 0
def timesM (s t : List (List Int)) : List (List Int) × Bool :=
  if tableB s = true ∧ tableB t = true ∧ s.length = t.length then
    (match colsM s t t.length 0 with
     | some cs => (rowsOf t.length cs, true)
     | none => ([], false))
  else ([], false)
def mixM (n : Nat) (t cs : List (List Int)) : List (List Int) := (List.range n).map fun i => (cs.map fun c => c.getD i 0) ++ (t.getD i []).drop cs.length
def resM (n : Nat) (cs : List (List Int)) : Option (List (List Int)) → List (List Int) × Bool
  | some cs' => (rowsOf n (cs ++ cs'), true)
  | none => ([], false)
theorem rowsOf_snoc (n : Nat) (cs : List (List Int)) (own : List Int) (h : own.length = n) : List.zipWith (fun r v => r ++ [v]) (rowsOf n cs) own = rowsOf n (cs ++ [own]) := by
  apply List.ext_getElem
  · simp [rowsOf, h]
  · intro i h1 h2
    have hi : i < own.length := by simp [rowsOf] at h1; omega
    simp [rowsOf, hi]
theorem mixM_snoc (n : Nat) (t cs : List (List Int)) (own : List Int) (h : own.length = n) (ht : t.length = n) (hr : ∀ r ∈ t, cs.length < r.length) : List.zipWith (fun r v => r.set cs.length v) (mixM n t cs) own = mixM n t (cs ++ [own]) := by
  apply List.ext_getElem
  · simp [mixM, h]
  · intro i h1 h2
    have hi : i < own.length := by simp [mixM] at h1; omega
    have hit : i < t.length := by omega
    have hri : cs.length < (t[i]).length := hr _ (List.getElem_mem hit)
    simp only [mixM, List.getElem_zipWith, List.getElem_map, List.getElem_range, List.getD_eq_getElem?_getD, List.getElem?_eq_getElem hit, Option.getD_some, List.map_append, List.map_cons, List.map_nil, List.length_append, List.length_cons, List.length_nil, List.getElem?_eq_getElem hi]
    rw [List.drop_eq_getElem_cons hri, set_app _ _ _ _ _ (by simp)]
    simp
theorem mixM_full (n : Nat) (t cs : List (List Int)) (ht : t.length = n) (hr : ∀ r ∈ t, r.length = n) (hc : cs.length = n) : mixM n t cs = rowsOf n cs := by
  unfold mixM rowsOf
  apply List.map_congr_left
  intro i hi
  have hit : i < t.length := by rw [ht]; exact List.mem_range.1 hi
  have : (t[i]).length = n := hr _ (List.getElem_mem hit)
  rw [List.getD_eq_getElem?_getD, List.getElem?_eq_getElem hit, Option.getD_some, hc, List.drop_of_length_le (by omega), List.append_nil]
theorem mixM_nil (n : Nat) (t : List (List Int)) (ht : t.length = n) : mixM n t [] = t := by
  apply List.ext_getElem
  · simp [mixM, ht]
  · intro i h1 h2
    simp [mixM, h2]
theorem rowsOf_nil (n : Nat) : rowsOf n [] = List.replicate n [] := by
  apply List.ext_getElem
  · simp [rowsOf]
  · intro i h1 h2
    simp [rowsOf]
theorem rd_col (r : List Int) (j : Nat) : rd r (j : Int) = r.getD j 0 := by simp [rd]
theorem applyM_ok {s : List (List Int)} {x : List Int} (h : (applyM s x).2 = true) : tableB s = true ∧ x.length = s.length ∧ x.all smallB = true ∧ (applyM s x).1.length = s.length := by
  unfold applyM at h ⊢
  by_cases c : tableB s = true ∧ x.length = s.length ∧ x.all smallB = true
  · rw [if_pos c] at h ⊢
    refine ⟨c.1, c.2.1, c.2.2, ?_⟩
    unfold outM at h ⊢
    split
    · simp
    · rename_i hn; rw [if_neg hn] at h; cases h
  · rw [if_neg c] at h; cases h
theorem colsM_len {s t : List (List Int)} : ∀ {n j : Nat} {cs : List (List Int)}, colsM s t n j = some cs → cs.length = n
  | 0, j, cs, h => by simp only [colsM] at h; rw [← Option.some.inj h]; rfl
  | n + 1, j, cs, h => by
    simp only [colsM] at h
    split at h
    · obtain ⟨cs', h', rfl⟩ := Option.map_eq_some_iff.1 h
      simp [colsM_len h']
    · cases h
theorem colsM_all {s t : List (List Int)} : ∀ {n j : Nat} {cs : List (List Int)}, colsM s t n j = some cs → ∀ i, j ≤ i → i < j + n → (applyM s (colL t i)).2 = true
  | 0, j, cs, h, i, h1, h2 => by omega
  | n + 1, j, cs, h, i, h1, h2 => by
    simp only [colsM] at h
    split at h
    · rename_i hc
      obtain ⟨cs', h', rfl⟩ := Option.map_eq_some_iff.1 h
      by_cases e : i = j
      · rw [e]; exact hc
      · exact colsM_all h' i (by omega) (by omega)
    · cases h
theorem times_eq (s t : List (List Int)) (h0 : t.length ≠ 0) (hs : ∀ r ∈ t, r.length = t.length) : timesM s t = resM t.length [] (colsM s t t.length 0) := by
  unfold timesM
  by_cases c : tableB s = true ∧ tableB t = true ∧ s.length = t.length
  · rw [if_pos c]
    rcases colsM s t t.length 0 with _ | cs <;> rfl
  · rw [if_neg c]
    rcases hc : colsM s t t.length 0 with _ | cs
    · rfl
    · exfalso
      have A := colsM_all hc
      have a0 := applyM_ok (A 0 (by omega) (by omega))
      have hl : s.length = t.length := by have := a0.2.1; simp [colL] at this; omega
      refine c ⟨a0.1, ?_, hl⟩
      unfold tableB
      rw [Bool.and_eq_true, List.all_eq_true, decide_eq_true_iff]
      have bs := (tableB_of a0.1).2
      refine ⟨fun r hr => ?_, by omega⟩
      unfold rowB
      rw [Bool.and_eq_true, decide_eq_true_iff, List.all_eq_true]
      refine ⟨hs r hr, fun x hx => ?_⟩
      obtain ⟨j, hj, rfl⟩ := List.mem_iff_getElem.1 hx
      have hrl := hs r hr
      have aj := (applyM_ok (A j (by omega) (by omega))).2.2.1
      rw [List.all_eq_true] at aj
      refine aj _ (List.mem_map.2 ⟨r, hr, ?_⟩)
      rw [List.getD_eq_getElem?_getD, List.getElem?_eq_getElem hj]; rfl
theorem timesM_sz (s t : List (List Int)) : (timesM s t).1.length ≤ 6 ∧ ∀ r ∈ (timesM s t).1, r.length ≤ 6 := by
  unfold timesM
  split
  · rename_i h
    have := (tableB_of h.2.1).2
    rcases hc : colsM s t t.length 0 with _ | cs
    · simp
    · have hl := colsM_len hc
      refine ⟨by simp [rowsOf]; omega, fun r hr => ?_⟩
      simp only [rowsOf, List.mem_map] at hr
      obtain ⟨i, _, rfl⟩ := hr
      simp; omega
  · simp
theorem total_le {n : Nat} : ∀ {xs : List (List Int)}, (∀ r ∈ xs, r.length ≤ n) → total xs ≤ n * xs.length
  | [], _ => by simp [total]
  | x :: xs, h => by
    have h1 := h x (by simp)
    have h2 := total_le (xs := xs) (fun r hr => h r (by simp [hr]))
    simp only [total, List.length_cons, Nat.mul_add]; omega

/-- a loop that looks at each member and answers early, or goes on -/
theorem EV.scan {α : Type} {g : Nat → Int → Option Bool} (xs : List α) (p : α → Bool) (fin : Bool)
    (hs : ∀ (i : Nat) (h : i < xs.length) (r : Bool), (p xs[i] = true → EV (fun k => g k ((i : Int) + 1)) r) → (p xs[i] = false → r = false) → EV (fun k => g k (i : Int)) r)
    (hf : EV (fun k => g k (xs.length : Int)) fin) : EV (fun k => g k 0) (xs.all p && fin) := by
  suffices h : ∀ (n i : Nat), i + n = xs.length → EV (fun k => g k (i : Int)) ((xs.drop i).all p && fin) by
    have := h xs.length 0 (by omega)
    simpa using this
  intro n
  induction n with
  | zero =>
    intro i hi
    have e : i = xs.length := by omega
    subst e
    simpa using hf
  | succ n ih =>
    intro i hi
    have hlt : i < xs.length := by omega
    have e : xs.drop i = xs[i] :: xs.drop (i + 1) := List.drop_eq_getElem_cons hlt
    rw [e, List.all_cons]
    refine hs i hlt _ (fun hp => ?_) (fun hp => by simp [hp])
    rw [hp, Bool.true_and]
    exact_mod_cast ih (i + 1) (by omega)
/-- what a loop over the members answers: the state is carried on, or an answer is given early -/
def runM {α σ ρ : Type} (f : σ → α → σ ⊕ ρ) (fin : σ → ρ) : σ → List α → ρ
  | s, [] => fin s
  | s, x :: xs => (match f s x with
    | .inl s' => runM f fin s' xs
    | .inr r => r)
theorem EV.run {α σ ρ : Type} {g : Nat → σ → Int → Option ρ} (xs : List α) (f : σ → α → σ ⊕ ρ) (fin : σ → ρ) (I : Nat → σ → Prop)
    (hs : ∀ (i : Nat) (h : i < xs.length) (s : σ) (r : ρ), I i s → (∀ s', f s xs[i] = .inl s' → I (i + 1) s' → EV (fun k => g k s' ((i : Int) + 1)) r) → (∀ a, f s xs[i] = .inr a → r = a) → EV (fun k => g k s (i : Int)) r)
    (hf : ∀ s, I xs.length s → EV (fun k => g k s (xs.length : Int)) (fin s)) : ∀ s, I 0 s → EV (fun k => g k s 0) (runM f fin s xs) := by
  suffices h : ∀ (n i : Nat), i + n = xs.length → ∀ s, I i s → EV (fun k => g k s (i : Int)) (runM f fin s (xs.drop i)) by
    intro s hI
    have := h xs.length 0 (by omega) s hI
    simpa using this
  intro n
  induction n with
  | zero =>
    intro i hi s hI
    have e : i = xs.length := by omega
    subst e
    simpa [runM] using hf s hI
  | succ n ih =>
    intro i hi s hI
    have hlt : i < xs.length := by omega
    have e : xs.drop i = xs[i] :: xs.drop (i + 1) := List.drop_eq_getElem_cons hlt
    rw [e]
    refine hs i hlt s _ hI (fun s' h' hI' => ?_) (fun a ha => by simp [runM, ha])
    have := ih (i + 1) (by omega) s' hI'
    simp only [runM, h']
    exact_mod_cast this
/-- a fold over the members -/
theorem EV.fold {α σ ρ : Type} {g : Nat → σ → Int → Option ρ} (xs : List α) (f : σ → α → σ) (fin : σ → ρ) (I : Nat → σ → Prop)
    (hs : ∀ (i : Nat) (h : i < xs.length) (s : σ) (r : ρ), I i s → (I (i + 1) (f s xs[i]) → EV (fun k => g k (f s xs[i]) ((i : Int) + 1)) r) → EV (fun k => g k s (i : Int)) r)
    (hf : ∀ s, I xs.length s → EV (fun k => g k s (xs.length : Int)) (fin s)) : ∀ s, I 0 s → EV (fun k => g k s 0) (fin (xs.foldl f s)) := by
  suffices h : ∀ (n i : Nat), i + n = xs.length → ∀ s, I i s → EV (fun k => g k s (i : Int)) (fin ((xs.drop i).foldl f s)) by
    intro s hI
    have := h xs.length 0 (by omega) s hI
    simpa using this
  intro n
  induction n with
  | zero =>
    intro i hi s hI
    have e : i = xs.length := by omega
    subst e
    simpa using hf s hI
  | succ n ih =>
    intro i hi s hI
    have hlt : i < xs.length := by omega
    have e : xs.drop i = xs[i] :: xs.drop (i + 1) := List.drop_eq_getElem_cons hlt
    rw [e, List.foldl_cons]
    refine hs i hlt s _ hI (fun hI' => ?_)
    exact_mod_cast ih (i + 1) (by omega) _ hI'
/-- a loop that changes each member of a list once, in order -/
theorem EV.zip {α β ρ : Type} {g : Nat → List α → Int → Option ρ} (upd : α → β → α) (t : List α) (x : List β) (hl : t.length = x.length) (r : ρ)
    (hs : ∀ (i : Nat) (h : i < t.length) (h' : i < x.length) (s : List α), s.length = t.length → s[i]? = some t[i] → EV (fun k => g k (s.set i (upd t[i] x[i])) ((i : Int) + 1)) r → EV (fun k => g k s (i : Int)) r)
    (hf : EV (fun k => g k (List.zipWith upd t x) (t.length : Int)) r) : EV (fun k => g k t 0) r := by
  suffices h : ∀ (n i : Nat), i + n = t.length → EV (fun k => g k (List.zipWith upd (t.take i) (x.take i) ++ t.drop i) (i : Int)) r by
    have := h t.length 0 (by omega)
    simpa using this
  intro n
  induction n with
  | zero =>
    intro i hi
    have e : i = t.length := by omega
    subst e
    rw [List.take_length, List.drop_length, List.append_nil, hl, List.take_length, ← hl]
    exact hf
  | succ n ih =>
    intro i hi
    have h1 : i < t.length := by omega
    have h2 : i < x.length := by omega
    have e : t.drop i = t[i] :: t.drop (i + 1) := List.drop_eq_getElem_cons h1
    have hz : (List.zipWith upd (t.take i) (x.take i)).length = i := by simp; omega
    refine hs i h1 h2 _ (by simp; omega) ?_ ?_
    · rw [List.getElem?_append_right (by omega), hz, Nat.sub_self, e]; rfl
    · have := ih (i + 1) (by omega)
      rw [e, set_app _ _ _ _ _ hz.symm]
      have e2 : List.zipWith upd (t.take (i + 1)) (x.take (i + 1)) = List.zipWith upd (t.take i) (x.take i) ++ [upd t[i] x[i]] := by
        rw [List.take_succ_eq_append_getElem h1, List.take_succ_eq_append_getElem h2, List.zipWith_append (by simp; omega)]; rfl
      rw [e2, List.append_assoc, List.singleton_append] at this
      exact_mod_cast this
/-- counting up to n, the state told by the count -/
theorem EV.count {σ ρ : Type} {g : Nat → σ → Int → Option ρ} (n : Nat) (f : Nat → σ) (r : ρ)
    (hs : ∀ i, i < n → EV (fun k => g k (f (i + 1)) ((i : Int) + 1)) r → EV (fun k => g k (f i) (i : Int)) r)
    (hf : EV (fun k => g k (f n) (n : Int)) r) : EV (fun k => g k (f 0) 0) r := by
  suffices h : ∀ (m i : Nat), i + m = n → EV (fun k => g k (f i) (i : Int)) r by exact h n 0 (by omega)
  intro m
  induction m with
  | zero => intro i hi; have : i = n := by omega
            subst this; exact hf
  | succ m ih => intro i hi; exact hs i (by omega) (by exact_mod_cast ih (i + 1) (by omega))
/-- counting up to n with an early answer -/
theorem EV.countB {g : Nat → Int → Option Bool} (n : Nat) (p : Nat → Bool) (fin : Bool)
    (hs : ∀ (i : Nat) (h : i < n) (r : Bool), (p i = true → EV (fun k => g k ((i : Int) + 1)) r) → (p i = false → r = false) → EV (fun k => g k (i : Int)) r)
    (hf : EV (fun k => g k (n : Int)) fin) : EV (fun k => g k 0) ((List.range n).all p && fin) := by
  refine EV.scan (List.range n) p fin (fun i h r H1 H2 => ?_) (by rw [List.length_range]; exact hf)
  rw [List.getElem_range] at H1 H2
  exact hs i (by simpa using h) r H1 H2
/-- counting up to n with an early answer, into what comes behind -/
theorem EV.countC {ρ : Type} {g : Nat → Int → Option ρ} (n : Nat) (p : Nat → Bool) (r early : ρ)
    (hs : ∀ i, i < n → (p i = true → EV (fun k => g k ((i : Int) + 1)) r) → (p i = false → r = early) → EV (fun k => g k (i : Int)) r)
    (hf : (List.range n).all p = true → EV (fun k => g k (n : Int)) r) (he : (List.range n).all p = false → r = early) : EV (fun k => g k 0) r := by
  suffices h : ∀ (m i : Nat), i + m = n → (∀ j, j < i → p j = true) → EV (fun k => g k (i : Int)) r by exact h n 0 (by omega) (fun j hj => by omega)
  intro m
  induction m with
  | zero =>
    intro i hi ha
    have : i = n := by omega
    subst this
    exact hf (by rw [List.all_eq_true]; intro x hx; exact ha x (List.mem_range.1 hx))
  | succ m ih =>
    intro i hi ha
    refine hs i (by omega) (fun hp => ?_) (fun hp => he ?_)
    · have := ih (i + 1) (by omega) (fun j hj => by
        by_cases e : j = i
        · rw [e]; exact hp
        · exact ha j (by omega))
      exact_mod_cast this
    · rw [List.all_eq_false]
      exact ⟨i, List.mem_range.2 (by omega), by simp [hp]⟩
/-- looking at each member with an early answer, into what comes behind -/
theorem EV.scanC {α ρ : Type} {g : Nat → Int → Option ρ} (xs : List α) (p : α → Bool) (r early : ρ)
    (hs : ∀ (i : Nat) (h : i < xs.length), (p xs[i] = true → EV (fun k => g k ((i : Int) + 1)) r) → (p xs[i] = false → r = early) → EV (fun k => g k (i : Int)) r)
    (hf : xs.all p = true → EV (fun k => g k (xs.length : Int)) r) (he : xs.all p = false → r = early) : EV (fun k => g k 0) r := by
  have e : xs.all p = (List.range xs.length).all (fun i => (xs[i]?.map p).getD true) := by
    rw [Bool.eq_iff_iff, List.all_eq_true, List.all_eq_true]
    constructor
    · intro h i hi
      have := List.mem_range.1 hi
      simpa [this] using h _ (List.getElem_mem this)
    · intro h x hx
      obtain ⟨i, hi, rfl⟩ := List.mem_iff_getElem.1 hx
      have := h i (List.mem_range.2 hi)
      simpa [hi] using this
  rw [e] at hf he
  refine EV.countC xs.length _ r early (fun i hi H1 H2 => ?_) hf he
  exact hs i hi (fun h => H1 (by simpa [hi] using h)) (fun h => H2 (by simpa [hi] using h))
theorem wrap_01 : wrap64 ((0 : Int) + 1) = 1 := by rw [w64 (by omega) (by omega)]; rfl
theorem wrap_11 : wrap64 ((1 : Int) + 1) = 2 := by rw [w64 (by omega) (by omega)]; rfl
theorem wrap_1 : wrap64 1 = 1 := w64 (by omega) (by omega)
/-- a fold over the members, into what comes behind -/
theorem EV.foldC {α σ ρ : Type} {g : Nat → σ → Int → Option ρ} (xs : List α) (f : σ → α → σ) (I : Nat → σ → Prop) (r : ρ)
    (hs : ∀ (i : Nat) (h : i < xs.length) (s : σ), I i s → (I (i + 1) (f s xs[i]) → EV (fun k => g k (f s xs[i]) ((i : Int) + 1)) r) → EV (fun k => g k s (i : Int)) r)
    (s : σ) (hI : I 0 s) (hf : I xs.length (xs.foldl f s) → EV (fun k => g k (xs.foldl f s) (xs.length : Int)) r) : EV (fun k => g k s 0) r := by
  suffices h : ∀ (n i : Nat), i + n = xs.length → ∀ s, I i s → (I xs.length ((xs.drop i).foldl f s) → EV (fun k => g k ((xs.drop i).foldl f s) (xs.length : Int)) r) → EV (fun k => g k s (i : Int)) r by
    have := h xs.length 0 (by omega) s hI (by simpa using hf)
    simpa using this
  intro n
  induction n with
  | zero =>
    intro i hi s hI hf
    have e : i = xs.length := by omega
    subst e
    simpa using hf (by simpa using hI)
  | succ n ih =>
    intro i hi s hI hf
    have hlt : i < xs.length := by omega
    have e : xs.drop i = xs[i] :: xs.drop (i + 1) := List.drop_eq_getElem_cons hlt
    rw [e, List.foldl_cons] at hf
    refine hs i hlt s hI (fun hI' => ?_)
    exact_mod_cast ih (i + 1) (by omega) _ hI' hf

def unitM (n i : Nat) : List Int := (List.replicate n 0).set i 1
theorem unitM_length (n i : Nat) : (unitM n i).length = n := by simp [unitM]
theorem unitM_small (n i : Nat) : (unitM n i).all smallB = true := by
  rw [List.all_eq_true]
  intro x hx
  rcases List.mem_or_eq_of_mem_set hx with h | h
  · rw [(List.mem_replicate.1 h).2]; rfl
  · rw [h]; rfl
theorem getElem_rdL (s : List (List Int)) (i : Nat) (r : List Int) (h : s[i]? = some r) : rd_L1 s (i : Int) = r := by
  simp [rd_L1, h]

theorem spec_l11Unit_is (n i : Nat) (hn : n ≤ 1000) (hi : i < n) : spec_l11Unit.f (n : Int) (i : Int) = some (unitM n i) := by
  unfold spec_l11Unit.f
  rw [if_pos (by omega), if_pos (by omega)]
  simp only [Option.bind_some]
  rw [if_pos (by omega), if_pos (by simp; omega)]
  rfl

/-- the images of the unit columns, from column j on -/
def colsT (g : Int) (c : List Int) (w : Nat) : Nat → Nat → Option (List (List Int))
  | 0, _ => some []
  | n + 1, j => if (twistM g c (unitM w j) 1).2 = true then (colsT g c w n (j + 1)).map ((twistM g c (unitM w j) 1).1 :: ·) else none
def twmM (g : Int) (c : List Int) : List (List Int) × Bool :=
  if classB g c = true then resM (2 * g).toNat [] (colsT g c (2 * g).toNat (2 * g).toNat 0) else ([], false)
theorem twistM_ok {g : Int} {c x : List Int} {t : Int} (h : (twistM g c x t).2 = true) : (twistM g c x t).1.length = x.length := by
  unfold twistM at h ⊢
  by_cases hc : classB g c = true ∧ classB g x = true ∧ -20 ≤ t ∧ t ≤ 20
  · rw [if_pos hc] at h ⊢
    have a := class_of hc.1
    have b := class_of hc.2.1
    split
    · simp [twistL]; omega
    · rename_i h'; rw [if_neg h'] at h; cases h
  · rw [if_neg hc] at h; cases h
theorem colsT_len {g : Int} {c : List Int} {w : Nat} : ∀ {n j : Nat} {cs : List (List Int)}, colsT g c w n j = some cs → cs.length = n
  | 0, j, cs, h => by simp only [colsT] at h; rw [← Option.some.inj h]; rfl
  | n + 1, j, cs, h => by
    simp only [colsT] at h
    split at h
    · obtain ⟨cs', h', rfl⟩ := Option.map_eq_some_iff.1 h
      simp [colsT_len h']
    · cases h
theorem twmM_sz (g : Int) (c : List Int) : (twmM g c).1.length ≤ 6 ∧ ∀ r ∈ (twmM g c).1, r.length ≤ 6 := by
  unfold twmM
  split
  · rename_i h
    have := class_of h
    rcases hc : colsT g c (2 * g).toNat (2 * g).toNat 0 with _ | cs
    · simp [resM]
    · have hl := colsT_len hc
      refine ⟨by simp [resM, rowsOf]; omega, fun r hr => ?_⟩
      simp only [resM, rowsOf, List.mem_map] at hr
      obtain ⟨i, _, rfl⟩ := hr
      simp; omega
  · simp

theorem mixM_zero (n : Nat) : mixM n (List.replicate n (List.replicate n 0)) [] = List.replicate n (List.replicate n 0) := mixM_nil _ _ (by simp)
theorem spec_TwistMatrix_l1 (g : Int) (c : List Int) (w : Nat) (hw : (w : Int) = 2 * g) (hb : w ≤ 6) (hc : c.length ≤ 1048576) : ∀ (n : Nat) (cs : List (List Int)), cs.length + n = w →
    EV (fun k => spec_TwistMatrix.l1 k g c (mixM w (List.replicate w (List.replicate w 0)) cs) (cs.length : Int)) (resM w cs (colsT g c w n cs.length)) := by
  have e2 : wrap64 (2 * g) = (w : Int) := by rw [w64 (by omega) (by omega), hw]
  have hrow : ∀ r ∈ List.replicate w (List.replicate w (0 : Int)), r.length = w := fun r hr => by rw [(List.mem_replicate.1 hr).2]; simp
  intro n
  induction n with
  | zero =>
    intro cs h
    refine EV.step (fun k => by rw [spec_TwistMatrix.l1]) ?_
    rw [e2]
    refine EV.neg (by omega) ((EV.now _).eq ?_)
    rw [mixM_full _ _ _ (by simp) hrow (by omega)]
    simp [colsT, resM]
  | succ n ih =>
    intro cs h
    refine EV.step (fun k => by rw [spec_TwistMatrix.l1]) ?_
    rw [e2]
    refine EV.pos (by omega) (EV.by (spec_l11Unit_is w cs.length (by omega) (by omega)) ?_)
    refine EV.bind (spec_TwistClass_is g c _ 1 hc (by rw [unitM_length]; omega)) ?_
    by_cases ok : (twistM g c (unitM w cs.length) 1).2 = true
    · have hl := twistM_ok ok
      rw [unitM_length] at hl
      refine EV.pos ok ?_
      refine EV.zip (g := fun k t i => spec_TwistMatrix.l2 k g c t (cs.length : Int) (twistM g c (unitM w cs.length) 1).1 i) (fun r v => r.set cs.length v) (mixM w (List.replicate w (List.replicate w 0)) cs) (twistM g c (unitM w cs.length) 1).1 (by simp [mixM, hl]) _ (fun i h1 h2 s hs hsi H => ?_) ?_
      · have hm : (mixM w (List.replicate w (List.replicate w 0)) cs).length = w := by simp [mixM]
        have hri : ((mixM w (List.replicate w (List.replicate w 0)) cs)[i]).length = w := by
          have : i < w := by omega
          simp only [mixM, List.getElem_map, List.getElem_range]
          simp [this]; omega
        refine EV.step (fun k => by rw [spec_TwistMatrix.l2]) ?_
        rw [e2, getElem_rdL _ _ _ hsi, rd_nat _ _ h2, w64 (x := (i : Int) + 1) (by omega) (by omega)]
        refine EV.pos (by omega) (EV.pos (by omega) (EV.pos (by omega) (EV.pos (by omega) (EV.pos (by omega) (EV.pos (by omega) ?_)))))
        simpa using H
      · rw [mixM_snoc w _ cs _ hl (by simp) (fun r hr => by have := hrow r hr; omega)]
        refine EV.step (fun k => by rw [spec_TwistMatrix.l2]) ?_
        rw [e2, w64 (x := (cs.length : Int) + 1) (by omega) (by omega)]
        refine EV.neg (by simp [mixM]) ?_
        have := ih (cs ++ [(twistM g c (unitM w cs.length) 1).1]) (by simp; omega)
        simp only [List.length_append, List.length_cons, List.length_nil] at this
        refine EV.congr (fun k => rfl) (this.eq ?_)
        simp only [colsT]
        rw [if_pos ok]
        rcases colsT g c w n (cs.length + 1) with _ | cs'
        · rfl
        · simp [resM]
    · refine EV.neg ok ((EV.now _).eq ?_)
      simp only [colsT]
      rw [if_neg ok]; rfl
theorem spec_TwistMatrix_is (g : Int) (c : List Int) (hc : c.length ≤ 1048576) : EV (fun k => spec_TwistMatrix.f k g c) (twmM g c) := by
  unfold twmM
  refine EV.bind (spec_IsClass_is g c (by omega)) ?_
  by_cases h : classB g c = true
  · have a := class_of h
    have hw : (((2 * g).toNat : Nat) : Int) = 2 * g := by omega
    have e2 : wrap64 (2 * g) = (((2 * g).toNat : Nat) : Int) := by rw [w64 (by omega) (by omega), hw]
    refine EV.pos h ?_
    rw [if_pos h]
    have hb : (2 * g).toNat ≤ 6 := by omega
    generalize (2 * g).toNat = w at *
    refine EV.count (g := fun k t i => spec_TwistMatrix.l0 k g c t i) w (fun i => List.replicate i (List.replicate w 0)) _ (fun i hi H => ?_) ?_
    · refine EV.step (fun k => by rw [spec_TwistMatrix.l0]) ?_
      rw [e2, w64 (x := (i : Int) + 1) (by omega) (by omega)]
      refine EV.pos (by omega) (EV.pos (by omega) (EV.pos (by omega) (EV.pos (by simp; omega) ?_)))
      simpa [List.replicate_succ'] using H
    · refine EV.step (fun k => by rw [spec_TwistMatrix.l0]) ?_
      rw [e2]
      refine EV.neg (by omega) ?_
      have := spec_TwistMatrix_l1 g c w hw hb hc w [] (by simp)
      rw [mixM_zero] at this
      exact this
  · exact EV.neg h ((EV.now _).eq (by rw [if_neg h]))

theorem spec_l11Table_l0 (t : List (List Int)) (hn : t.length < 4611686018427387904) (hr : ∀ r ∈ t, r.length < 4611686018427387904) : ∀ (suf pre : List (List Int)), t = pre ++ suf →
    EV (fun k => spec_l11Table.l0 k t (pre.length : Int)) (suf.all (rowB t.length) && decide (1 ≤ t.length ∧ t.length ≤ 6)) := by
  intro suf
  induction suf with
  | nil =>
    intro pre h
    refine EV.step (fun k => by rw [spec_l11Table.l0]) ?_
    refine EV.neg (by subst h; simp) (EV.by (spec_l1In_is _ _ _) ((EV.now _).eq ?_))
    rw [Bool.eq_iff_iff]; simp; omega
  | cons x suf ih =>
    intro pre h
    have hl : pre.length < 4611686018427387904 := by subst h; simp at hn; omega
    have hlt : (pre.length : Int) < (t.length : Int) := by subst h; exact lt_app ..
    have hx : rd_L1 t (pre.length : Int) = x := by subst h; exact rdL_app ..
    have hx' : x.length < 4611686018427387904 := hr x (by subst h; simp)
    refine EV.step (fun k => by rw [spec_l11Table.l0]) ?_
    rw [hx, up (x := x) hl]
    refine EV.pos hlt (EV.pos (by omega) ?_)
    by_cases h2 : x.length = t.length
    · refine EV.pos (by omega) (EV.bind (spec_l11Fits_is x hx') ?_)
      by_cases hs : x.all smallB = true
      · exact EV.pos hs ((ih (pre ++ [x]) (by simp [h])).eq (by rw [List.all_cons, show rowB t.length x = true by simp only [rowB, h2, hs, decide_true, Bool.and_self], Bool.true_and]))
      · exact EV.neg hs ((EV.now _).eq (by rw [List.all_cons, show rowB t.length x = false by simp only [rowB, Bool.not_eq_true] at hs ⊢; rw [hs, Bool.and_false], Bool.false_and, Bool.false_and]))
    · exact EV.neg (by omega) ((EV.now _).eq (by rw [List.all_cons, show rowB t.length x = false by simp only [rowB, h2, decide_false, Bool.false_and], Bool.false_and, Bool.false_and]))
theorem spec_l11Table_is (t : List (List Int)) (hn : t.length < 4611686018427387904) (hr : ∀ r ∈ t, r.length < 4611686018427387904) : EV (fun k => spec_l11Table.f k t) (tableB t) := spec_l11Table_l0 t hn hr t [] rfl

theorem spec_l5Copy_l0 (t : List (List Int)) (hn : t.length ≤ 1048576) (hr : ∀ r ∈ t, r.length ≤ 1048576) : ∀ (suf pre : List (List Int)), t = pre ++ suf →
    EV (fun k => spec_l5Copy.l0 k t pre (pre.length : Int)) t := by
  intro suf
  induction suf with
  | nil =>
    intro pre h
    refine EV.step (fun k => by rw [spec_l5Copy.l0]) ?_
    exact EV.neg (by subst h; simp) ((EV.now _).eq (by simp [h]))
  | cons x suf ih =>
    intro pre h
    have hl : pre.length < 1048576 := by subst h; simp at hn; omega
    have hlt : (pre.length : Int) < (t.length : Int) := by subst h; exact lt_app ..
    have hx : rd_L1 t (pre.length : Int) = x := by subst h; exact rdL_app ..
    have hx' : x.length ≤ 1048576 := hr x (by subst h; simp)
    refine EV.step (fun k => by rw [spec_l5Copy.l0]) ?_
    rw [hx, up (x := x) (by omega)]
    refine EV.pos hlt (EV.by rfl (EV.pos (by omega) (EV.pos (by simp; omega) (EV.pos (by omega) ?_))))
    have := ih (pre ++ [x]) (by simp [h])
    simpa using this
theorem spec_l5Copy_is (t : List (List Int)) (hn : t.length ≤ 1048576) (hr : ∀ r ∈ t, r.length ≤ 1048576) : EV (fun k => spec_l5Copy.f k t) t := spec_l5Copy_l0 t hn hr t [] rfl

theorem spec_ApplyTable_l1 (t : List (List Int)) (x r out : List Int) (i : Nat) (hi : i < t.length) (ht : rd_L1 t (i : Int) = r) (ho : out.length ≤ 1000) (hi' : i ≤ 1000) {R : List Int × Bool} :
    ∀ (sx sr px pr : List Int) (acc : Int), x = px ++ sx → r = pr ++ sr → pr.length = px.length → sr.length = sx.length → sr.all smallB = true → sx.all smallB = true → px.length + sx.length ≤ 1000 → acc.natAbs + 1000000 * sx.length ≤ 1000000000000 →
    EV (fun k => spec_ApplyTable.l0 k t x (out ++ [acc + dot sr sx]) ((i + 1 : Nat) : Int)) R → EV (fun k => spec_ApplyTable.l1 k t x out (i : Int) acc (px.length : Int)) R := by
  intro sx
  induction sx with
  | nil =>
    intro sr px pr acc h1 h2 h3 h4 _ _ h5 _ H
    have : sr = [] := List.eq_nil_of_length_eq_zero (by simpa using h4)
    subst this
    refine EV.step (fun k => by rw [spec_ApplyTable.l1]) ?_
    rw [w64 (x := (i : Int) + 1) (by omega) (by omega)]
    refine EV.neg (by subst h1; simp) (EV.pos (by omega) ?_)
    simpa [dot] using H
  | cons b sx ih =>
    intro sr px pr acc h1 h2 h3 h4 h6 h7 h5 h8 H
    obtain ⟨a, sr, rfl⟩ : ∃ a t, sr = a :: t := by
      cases sr with
      | nil => simp at h4
      | cons a t => exact ⟨a, t, rfl⟩
    simp only [List.all_cons, Bool.and_eq_true, List.length_cons] at h4 h5 h6 h7 h8
    have tb := term_bd h6.1 h7.1
    have r1 : rd r (px.length : Int) = a := by subst h2; rw [← h3]; exact rd_app ..
    have r2 : rd x (px.length : Int) = b := by subst h1; exact rd_app ..
    refine EV.step (fun k => by rw [spec_ApplyTable.l1]) ?_
    rw [ht, r1, r2, w64 (x := a * b) (by omega) (by omega), w64 (x := acc + a * b) (by omega) (by omega), up (x := b) (by omega)]
    refine EV.pos (by subst h1; exact lt_app ..) (EV.pos (by omega) (EV.pos (by omega) (EV.pos (by omega) (EV.pos (by subst h2; rw [← h3]; exact lt_app ..) ?_))))
    refine ih sr (px ++ [b]) (pr ++ [a]) (acc + a * b) (by simp [h1]) (by simp [h2]) (by simp [h3]) (by omega) h6.2 h7.2 (by simp; omega) (by omega) ?_
    have e : acc + a * b + dot sr sx = acc + dot (a :: sr) (b :: sx) := by simp only [dot]; omega
    rw [e]; exact H
theorem spec_ApplyTable_l0 (t : List (List Int)) (x : List Int) (hx : x.length = t.length) (hs : x.all smallB = true) (ht : ∀ r ∈ t, r.length = t.length ∧ r.all smallB = true) (hl : t.length ≤ 6) : ∀ (suf pre : List (List Int)), t = pre ++ suf →
    EV (fun k => spec_ApplyTable.l0 k t x (pre.map fun r => dot r x) (pre.length : Int)) (outM (t.map fun r => dot r x)) := by
  intro suf
  induction suf with
  | nil =>
    intro pre h
    have e : pre = t := by simp [h]
    subst e
    refine EV.step (fun k => by rw [spec_ApplyTable.l0]) ?_
    refine EV.neg (by omega) (EV.bind (spec_l11Fits_is _ (by simp; omega)) ?_)
    unfold outM
    by_cases c : (pre.map fun r => dot r x).all smallB = true
    · exact EV.pos c ((EV.now _).eq (by rw [if_pos c]))
    · exact EV.neg c ((EV.now _).eq (by rw [if_neg c]))
  | cons r suf ih =>
    intro pre h
    have hr := ht r (by rw [h]; simp)
    have hlt : pre.length < t.length := by subst h; simp
    refine EV.step (fun k => by rw [spec_ApplyTable.l0]) ?_
    refine EV.pos (by omega) (spec_ApplyTable_l1 t x r (pre.map fun r => dot r x) pre.length hlt (by subst h; exact rdL_app ..) (by simp; omega) (by omega) x r [] [] 0 rfl rfl rfl (by omega) hr.2 hs (by simp; omega) (by simp; omega) ?_)
    have := ih (pre ++ [r]) (by simp [h])
    simpa using this
theorem spec_ApplyTable_is (t : List (List Int)) (x : List Int) (hn : t.length < 4611686018427387904) (hr : ∀ r ∈ t, r.length < 4611686018427387904) (hx : x.length < 4611686018427387904) : EV (fun k => spec_ApplyTable.f k t x) (applyM t x) := by
  have no : EV (fun k => spec_ApplyTable.j0 k t x true) ([], false) := by
    refine EV.step (fun k => by rw [spec_ApplyTable.j0]) ?_
    exact EV.pos rfl (EV.now _)
  unfold applyM
  refine EV.bind (spec_l11Table_is t hn hr) ?_
  by_cases h1 : tableB t = true
  · refine EV.pos h1 ?_
    by_cases h2 : x.length = t.length
    · refine EV.pos (by omega) (EV.bind (spec_l11Fits_is x hx) ?_)
      by_cases h3 : x.all smallB = true
      · rw [if_pos ⟨h1, h2, h3⟩, h3]
        refine EV.step (fun k => by rw [spec_ApplyTable.j0]) ?_
        have tb := tableB_of h1
        exact EV.neg (by simp) (spec_ApplyTable_l0 t x h2 h3 tb.1 tb.2.2 t [] rfl)
      · rw [if_neg (fun h => h3 h.2.2), show (x.all smallB) = false by simpa using h3]
        exact no
    · rw [if_neg (fun h => h2 h.2.1)]
      exact EV.neg (by omega) no
  · rw [if_neg (fun h => h1 h.1)]
    exact EV.neg h1 no

theorem spec_TimesTable_l2 (s t : List (List Int)) (j : Nat) (x : List Int) (hj : j ≤ 1000) {R : List (List Int) × Bool} : ∀ (so po : List (List Int)) (sx px : List Int), x = px ++ sx → px.length = po.length → so.length = sx.length → t.length = po.length + so.length → t.length ≤ 1000 → (∀ r ∈ so, j < r.length) →
    EV (fun k => spec_TimesTable.l0 k s t (po ++ List.zipWith (fun r v => r.set j v) so sx) ((j + 1 : Nat) : Int)) R → EV (fun k => spec_TimesTable.l2 k s t (po ++ so) (j : Int) x (po.length : Int)) R := by
  intro so
  induction so with
  | nil =>
    intro po sx px h1 h2 h3 h4 h5 h6 H
    refine EV.step (fun k => by rw [spec_TimesTable.l2]) ?_
    rw [w64 (x := (j : Int) + 1) (by omega) (by omega)]
    refine EV.neg (by simp at h4; omega) ?_
    simpa using H
  | cons r so ih =>
    intro po sx px h1 h2 h3 h4 h5 h6 H
    obtain ⟨v, sx, rfl⟩ : ∃ a t, sx = a :: t := by
      cases sx with
      | nil => simp at h3
      | cons a t => exact ⟨a, t, rfl⟩
    simp only [List.length_cons] at h3 h4
    have hr := h6 r (by simp)
    have r2 : rd x (po.length : Int) = v := by subst h1; rw [← h2]; exact rd_app ..
    refine EV.step (fun k => by rw [spec_TimesTable.l2]) ?_
    rw [rdL_app, r2, up (x := r) (by omega), set_app _ _ _ _ _ (by simp), show ((j : Int)).toNat = j from rfl]
    refine EV.pos (by omega) (EV.pos (by omega) (EV.pos (lt_app ..) (EV.pos (by subst h1; simp; omega) (EV.pos (by omega) (EV.pos (by omega) ?_)))))
    have := ih (po ++ [r.set j v]) sx (px ++ [v]) (by simp [h1]) (by simp [h2]) (by omega) (by simp; omega) h5 (fun r' hr' => h6 r' (by simp [hr'])) (by simpa using H)
    simpa using this
theorem spec_TimesTable_l1 (s t out : List (List Int)) (j : Nat) (hl : t.length ≤ 1000) (hj : ∀ r ∈ t, j < r.length) {R : List (List Int) × Bool}
    (H : EV (fun k => (spec_ApplyTable.f k s (colL t j)).bind fun bt179 => (if bt179.2 = true then (spec_TimesTable.l2 k s t out (j : Int) bt179.1 0) else (some ((([] : List (List Int))), false)))) R) : ∀ (suf pre : List (List Int)), t = pre ++ suf →
    EV (fun k => spec_TimesTable.l1 k s t out (j : Int) (colL pre j) (pre.length : Int)) R := by
  intro suf
  induction suf with
  | nil =>
    intro pre h
    have e : pre = t := by simp [h]
    subst e
    refine EV.step (fun k => by rw [spec_TimesTable.l1]) ?_
    exact EV.neg (by omega) H
  | cons r suf ih =>
    intro pre h
    have hl' : pre.length < 1000 := by subst h; simp at hl; omega
    have hlt : (pre.length : Int) < (t.length : Int) := by subst h; exact lt_app ..
    have hx : rd_L1 t (pre.length : Int) = r := by subst h; exact rdL_app ..
    have hr := hj r (by subst h; simp)
    refine EV.step (fun k => by rw [spec_TimesTable.l1]) ?_
    rw [hx, rd_col, up (x := r) (by omega)]
    refine EV.pos hlt (EV.pos (by omega) (EV.pos (by omega) (EV.pos (by omega) (EV.pos (by simp [colL]; omega) ?_))))
    have := ih (pre ++ [r]) (by simp [h])
    simpa [colL] using this
theorem spec_TimesTable_l0 (s t : List (List Int)) (hs : s.length = t.length) (ht : ∀ r ∈ t, r.length = t.length) (hl : t.length ≤ 6) (hsr : ∀ r ∈ s, r.length < 4611686018427387904) : ∀ (n : Nat) (cs : List (List Int)), cs.length + n = t.length →
    EV (fun k => spec_TimesTable.l0 k s t (mixM t.length t cs) (cs.length : Int)) (resM t.length cs (colsM s t n cs.length)) := by
  intro n
  induction n with
  | zero =>
    intro cs h
    refine EV.step (fun k => by rw [spec_TimesTable.l0]) ?_
    refine EV.neg (by omega) ((EV.now _).eq ?_)
    rw [mixM_full _ _ _ rfl ht (by omega)]
    simp [colsM, resM]
  | succ n ih =>
    intro cs h
    have hj : ∀ r ∈ t, cs.length < r.length := fun r hr => by have := ht r hr; omega
    refine EV.step (fun k => by rw [spec_TimesTable.l0]) ?_
    refine EV.pos (by omega) (spec_TimesTable_l1 s t _ cs.length (by omega) hj ?_ t [] rfl)
    refine EV.bind (spec_ApplyTable_is s (colL t cs.length) (by omega) hsr (by simp [colL]; omega)) ?_
    by_cases ok : (applyM s (colL t cs.length)).2 = true
    · have a := applyM_ok ok
      have hown : (applyM s (colL t cs.length)).1.length = t.length := by omega
      refine EV.pos ok ?_
      have := spec_TimesTable_l2 s t cs.length (applyM s (colL t cs.length)).1 (by omega) (mixM t.length t cs) [] (applyM s (colL t cs.length)).1 [] rfl rfl (by simp [mixM]; omega) (by simp [mixM]) (by omega) (fun r hr => ?_) (R := resM t.length cs (colsM s t (n + 1) cs.length)) ?_
      · exact this
      · simp only [mixM, List.mem_map] at hr
        obtain ⟨i, hi, rfl⟩ := hr
        have hit : i < t.length := List.mem_range.1 hi
        have := ht _ (List.getElem_mem hit)
        simp [hit]; omega
      · rw [List.nil_append, mixM_snoc _ _ _ _ hown rfl hj]
        have := ih (cs ++ [(applyM s (colL t cs.length)).1]) (by simp; omega)
        simp only [List.length_append, List.length_cons, List.length_nil] at this
        refine this.eq ?_
        simp only [colsM]
        rw [if_pos ok]
        rcases colsM s t n (cs.length + 1) with _ | cs'
        · rfl
        · simp [resM]
    · refine EV.neg ok ((EV.now _).eq ?_)
      simp only [colsM]
      rw [if_neg ok]; rfl
theorem spec_TimesTable_is (s t : List (List Int)) (hs : s.length ≤ 1048576) (ht : t.length ≤ 1048576) (hsr : ∀ r ∈ s, r.length ≤ 1048576) (htr : ∀ r ∈ t, r.length ≤ 1048576) : EV (fun k => spec_TimesTable.f k s t) (timesM s t) := by
  have no : EV (fun k => spec_TimesTable.j0 k s t true) ([], false) := by
    refine EV.step (fun k => by rw [spec_TimesTable.j0]) ?_
    exact EV.pos rfl (EV.now _)
  refine EV.bind (spec_l11Table_is s (by omega) (fun r hr => by have := hsr r hr; omega)) ?_
  by_cases h1 : tableB s = true
  · refine EV.pos h1 (EV.bind (spec_l11Table_is t (by omega) (fun r hr => by have := htr r hr; omega)) ?_)
    by_cases h2 : tableB t = true
    · refine EV.pos h2 ?_
      have tb := tableB_of h2
      by_cases h3 : s.length = t.length
      · rw [show ((s.length : Int) != (t.length : Int)) = false by simp [h3], times_eq s t (by omega) (fun r hr => (tb.1 r hr).1)]
        refine EV.step (fun k => by rw [spec_TimesTable.j0]) ?_
        refine EV.neg (by simp) (EV.bind (spec_l5Copy_is t ht htr) ?_)
        have := spec_TimesTable_l0 s t h3 (fun r hr => (tb.1 r hr).1) tb.2.2 (fun r hr => by have := hsr r hr; omega) t.length [] (by simp)
        rw [mixM_nil _ _ rfl] at this
        exact this
      · rw [show ((s.length : Int) != (t.length : Int)) = true by simp; omega]
        unfold timesM
        rw [if_neg (fun h => h3 h.2.2)]; exact no
    · unfold timesM
      rw [if_neg (fun h => h2 h.2.1)]; exact EV.neg h2 no
  · unfold timesM
    rw [if_neg (fun h => h1 h.1)]; exact EV.neg h1 no

def threeM (s t u : List (List Int)) : List (List Int) × Bool := if (timesM s t).2 = true then timesM (timesM s t).1 u else ([], false)
def szT (t : List (List Int)) : Prop := t.length ≤ 6 ∧ ∀ r ∈ t, r.length ≤ 6
theorem threeM_sz (s t u : List (List Int)) : szT (threeM s t u).1 := by
  unfold threeM
  split
  · exact timesM_sz _ _
  · exact ⟨by simp, by simp⟩
def braidM (g : Int) (c d : List Int) : Bool :=
  (twmM g c).2 && ((twmM g d).2 && ((threeM (twmM g c).1 (twmM g d).1 (twmM g c).1).2 && ((threeM (twmM g d).1 (twmM g c).1 (twmM g d).1).2 && decide ((threeM (twmM g c).1 (twmM g d).1 (twmM g c).1).1 = (threeM (twmM g d).1 (twmM g c).1 (twmM g d).1).1))))

theorem spec_Times6 (s t : List (List Int)) (hs : szT s) (ht : szT t) : EV (fun k => spec_TimesTable.f k s t) (timesM s t) :=
  spec_TimesTable_is s t (by have := hs.1; omega) (by have := ht.1; omega) (fun r hr => by have := hs.2 r hr; omega) (fun r hr => by have := ht.2 r hr; omega)
theorem spec_l11Three_is (s t u : List (List Int)) (hs : szT s) (ht : szT t) (hu : szT u) : EV (fun k => spec_l11Three.f k s t u) (threeM s t u) := by
  unfold threeM
  refine EV.bind (spec_Times6 s t hs ht) ?_
  by_cases h : (timesM s t).2 = true
  · rw [if_pos h]
    exact EV.pos h (EV.bind (spec_Times6 _ u (timesM_sz _ _) hu) (EV.now _))
  · rw [if_neg h]
    exact EV.neg h (EV.now _)

theorem spec_l2Same_is (xs ys : List Int) (hn : xs.length < 4294967296) : EV (fun k => spec_l2Same.f k xs ys) (decide (xs = ys)) := by
  by_cases h : xs.length = ys.length
  · refine EV.pos (by omega) ?_
    have := EV.countB (g := fun k i => spec_l2Same.l0 k xs ys i) xs.length (fun i => decide (xs.getD i 0 = ys.getD i 0)) true (fun i hi r H1 H2 => ?_) ?_
    · refine EV.eq this ?_
      rw [Bool.eq_iff_iff, Bool.and_true, List.all_eq_true, decide_eq_true_iff]
      constructor
      · intro hh
        apply List.ext_getElem h
        intro i h1 h2
        have := hh i (List.mem_range.2 h1)
        rw [decide_eq_true_iff] at this
        simpa [h1, h2] using this
      · intro e i _; rw [e]; simp
    · have hi' : i < ys.length := by omega
      have e1 : xs.getD i 0 = xs[i] := by simp [hi]
      have e2 : ys.getD i 0 = ys[i] := by simp [hi']
      rw [e1, e2] at H1 H2
      refine EV.step (fun k => by rw [spec_l2Same.l0]) ?_
      rw [rd_nat _ _ hi, rd_nat _ _ hi', w64 (x := (i : Int) + 1) (by omega) (by omega)]
      refine EV.pos (by omega) (EV.pos (by omega) (EV.pos (by omega) ?_))
      exact EV.cases (fun c => H1 (by simpa using c)) (fun c => (EV.now _).eq (H2 (by simpa using c)).symm)
    · refine EV.step (fun k => by rw [spec_l2Same.l0]) ?_
      exact EV.neg (by omega) (EV.now _)
  · exact EV.neg (by omega) ((EV.now _).eq (by simp; intro e; exact h (by rw [e])))

theorem spec_l11Same_is (xs ys : List (List Int)) (hn : xs.length < 4294967296) (hr : ∀ r ∈ xs, r.length < 4294967296) : EV (fun k => spec_l11Same.f k xs ys) (decide (xs = ys)) := by
  by_cases h : xs.length = ys.length
  · refine EV.pos (by omega) ?_
    have := EV.countB (g := fun k i => spec_l11Same.l0 k xs ys i) xs.length (fun i => decide (xs.getD i [] = ys.getD i [])) true (fun i hi r H1 H2 => ?_) ?_
    · refine EV.eq this ?_
      rw [Bool.eq_iff_iff, Bool.and_true, List.all_eq_true, decide_eq_true_iff]
      constructor
      · intro hh
        apply List.ext_getElem h
        intro i h1 h2
        have := hh i (List.mem_range.2 h1)
        rw [decide_eq_true_iff] at this
        simpa [h1, h2] using this
      · intro e i _; rw [e]; simp
    · have hi' : i < ys.length := by omega
      have e1 : xs.getD i [] = xs[i] := by simp [hi]
      have e2 : ys.getD i [] = ys[i] := by simp [hi']
      rw [e1, e2] at H1 H2
      refine EV.step (fun k => by rw [spec_l11Same.l0]) ?_
      rw [rdL_nat _ _ hi, rdL_nat _ _ hi', w64 (x := (i : Int) + 1) (by omega) (by omega)]
      refine EV.pos (by omega) (EV.pos (by omega) (EV.pos (by omega) (EV.bind (spec_l2Same_is _ _ (hr _ (List.getElem_mem hi))) ?_)))
      exact EV.cases (fun c => H1 (by simpa using c)) (fun c => (EV.now _).eq (H2 (by simpa using c)).symm)
    · refine EV.step (fun k => by rw [spec_l11Same.l0]) ?_
      exact EV.neg (by omega) (EV.now _)
  · exact EV.neg (by omega) ((EV.now _).eq (by simp; intro e; exact h (by rw [e])))

theorem spec_BraidHolds_is (g : Int) (c d : List Int) (hc : c.length ≤ 1048576) (hd : d.length ≤ 1048576) : EV (fun k => spec_BraidHolds.f k g c d) (braidM g c d) := by
  unfold braidM
  refine EV.bind (spec_TwistMatrix_is g c hc) (EV.bind (spec_TwistMatrix_is g d hd) ?_)
  have sc : szT (twmM g c).1 := twmM_sz g c
  have sd : szT (twmM g d).1 := twmM_sz g d
  generalize twmM g c = C at *
  generalize twmM g d = D at *
  have no : EV (fun k => spec_BraidHolds.j0 k C.1 D.1 true) false := by
    refine EV.step (fun k => by rw [spec_BraidHolds.j0]) ?_
    exact EV.pos rfl (EV.now _)
  by_cases h1 : C.2 = true
  · rw [h1, Bool.true_and]
    refine EV.pos rfl ?_
    by_cases h2 : D.2 = true
    · rw [h2, Bool.true_and]
      refine EV.step (fun k => by rw [spec_BraidHolds.j0]) ?_
      refine EV.neg (by simp) (EV.bind (spec_l11Three_is _ _ _ sc sd sc) (EV.bind (spec_l11Three_is _ _ _ sd sc sd) ?_))
      have z := threeM_sz C.1 D.1 C.1
      by_cases h3 : (threeM C.1 D.1 C.1).2 = true
      · rw [h3, Bool.true_and]
        refine EV.pos rfl ?_
        by_cases h4 : (threeM D.1 C.1 D.1).2 = true
        · rw [h4, Bool.true_and]
          exact EV.pos rfl (EV.bind (spec_l11Same_is _ _ (by have := z.1; omega) (fun r hr => by have := z.2 r hr; omega)) (EV.now _))
        · rw [show (threeM D.1 C.1 D.1).2 = false by simpa using h4, Bool.false_and]
          exact EV.neg (by simp) (EV.now _)
      · rw [show (threeM C.1 D.1 C.1).2 = false by simpa using h3, Bool.false_and]
        exact EV.neg (by simp) (EV.now _)
    · rw [show D.2 = false by simpa using h2, Bool.false_and]; exact no
  · rw [show C.2 = false by simpa using h1, Bool.false_and]
    exact EV.neg (by simp) no

theorem impl_within_is (a b c : Int) : impl_within.f a b c = some (decide (b ≤ a ∧ a ≤ c)) := by
  unfold impl_within.f
  by_cases h : a ≥ b
  · rw [if_pos h]; simp [show b ≤ a from h]
  · rw [if_neg h]; simp; omega

theorem impl_areSmall_l0 (xs : List Int) (hn : xs.length < 4611686018427387904) : ∀ suf pre, xs = pre ++ suf → EV (fun k => impl_areSmall.l0 k xs (xs.length : Int) (pre.length : Int)) (suf.all smallB) := by
  intro suf
  induction suf with
  | nil =>
    intro pre h
    refine EV.step (fun k => by rw [impl_areSmall.l0]) ?_
    exact EV.neg (by subst h; simp) (EV.now _)
  | cons x suf ih =>
    intro pre h
    have hl : pre.length < 4611686018427387904 := by subst h; simp at hn; omega
    have hlt : (pre.length : Int) < (xs.length : Int) := by subst h; exact lt_app ..
    have hx : rd xs (pre.length : Int) = x := by subst h; exact rd_app ..
    refine EV.step (fun k => by rw [impl_areSmall.l0]) ?_
    refine EV.pos hlt (EV.pos (by omega) (EV.pos hlt (EV.by (impl_within_is _ _ _) ?_)))
    rw [hx, up (x := x) hl]
    by_cases hs : smallB x = true
    · exact EV.pos hs ((ih (pre ++ [x]) (by simp [h])).eq (by simp [hs]))
    · exact EV.neg hs ((EV.now _).eq (by simp [hs]))
theorem impl_areSmall_is (xs : List Int) (hn : xs.length < 4611686018427387904) : EV (fun k => impl_areSmall.f k xs) (xs.all smallB) := impl_areSmall_l0 xs hn xs [] rfl

theorem impl_IsClass_is (g : Int) (xs : List Int) (hn : xs.length < 4611686018427387904) : EV (fun k => impl_IsClass.f k g xs) (classB g xs) := by
  unfold classB
  refine EV.by (impl_within_is _ _ _) ?_
  by_cases hg : 1 ≤ g ∧ g ≤ 3
  · refine EV.pos (by simpa using hg) ?_
    rw [w64 (by omega) (by omega)]
    by_cases hl : (xs.length : Int) = 2 * g
    · exact EV.pos hl (EV.bind (impl_areSmall_is xs hn) ((EV.now _).eq (by simp [hg, hl])))
    · exact EV.neg hl ((EV.now _).eq (by simp [hl]))
  · exact EV.neg (by simpa using hg) ((EV.now _).eq (by simp [hg]))

theorem impl_form_l0 : ∀ (n : Nat) (sx sy px py : List Int) (acc : Int), sx.length ≤ n → px.length = py.length → sx.length = sy.length → sx.all smallB = true → sy.all smallB = true → px.length + sx.length < 1000000 →
    acc.natAbs + 1000000 * sx.length ≤ 1000000000000000 → EV (fun k => impl_form.l0 k (px ++ sx) (py ++ sy) acc (px.length : Int)) (acc + formM sx sy) := by
  intro n
  induction n with
  | zero =>
    intro sx sy px py acc hn hp hs _ _ hl _
    have e : sx = [] := List.eq_nil_of_length_eq_zero (by omega)
    subst e
    refine EV.step (fun k => by rw [impl_form.l0]) ?_
    rw [w64 (by omega) (by omega)]
    exact EV.neg (by simp; omega) ((EV.now _).eq (by simp [formM]))
  | succ n ih =>
    intro sx sy px py acc hn hp hs h1 h2 hl ha
    match sx, sy with
    | [], _ =>
      refine EV.step (fun k => by rw [impl_form.l0]) ?_
      rw [w64 (by omega) (by omega)]
      exact EV.neg (by simp; omega) ((EV.now _).eq (by simp [formM]))
    | [_], _ =>
      refine EV.step (fun k => by rw [impl_form.l0]) ?_
      rw [w64 (by omega) (by omega)]
      exact EV.neg (by simp) ((EV.now _).eq (by simp [formM]))
    | _ :: _ :: _, [] => simp at hs
    | _ :: _ :: _, [_] => simp at hs
    | a :: b :: xs, c :: d :: ys =>
      simp only [List.all_cons, Bool.and_eq_true, List.length_cons] at h1 h2 hn hs hl ha
      have t := form_term h1.1 h1.2.1 h2.1 h2.2.1
      refine EV.step (fun k => by rw [impl_form.l0]) ?_
      rw [w64 (x := (px.length : Int) + 1) (by omega) (by omega), w64 (x := (px.length : Int) + 2) (by omega) (by omega)]
      refine EV.pos (by simp; omega) (EV.pos (by omega) (EV.pos (by simp; omega) (EV.pos (by omega) (EV.pos (by simp; omega) (EV.pos (by simp; omega) ?_)))))
      have e3 : rd (py ++ c :: d :: ys) (px.length : Int) = c := by rw [hp]; exact rd_app ..
      rw [rd_app, e3, rd_app1 px a b xs _ rfl, rd_app1 py c d ys _ (by rw [hp])]
      rw [w64 (x := a * d) (by omega) (by omega), w64 (x := b * c) (by omega) (by omega)]
      rw [w64 (x := a * d - b * c) (by omega) (by omega), w64 (by omega) (by omega)]
      have := ih xs ys (px ++ [a, b]) (py ++ [c, d]) (acc + (a * d - b * c)) (by omega) (by simp; omega) (by omega) h1.2.2 h2.2.2 (by simp; omega) (by omega)
      simp only [List.append_assoc, List.cons_append, List.nil_append, List.length_append, List.length_cons, List.length_nil] at this
      refine EV.congr (fun k => ?_) (this.eq (by simp only [formM]; omega))
      congr 1
theorem impl_form_is (xs ys : List Int) (hs : xs.length = ys.length) (h1 : xs.all smallB = true) (h2 : ys.all smallB = true) (hl : xs.length ≤ 1000) : EV (fun k => impl_form.f k xs ys) (formM xs ys) :=
  (impl_form_l0 xs.length xs ys [] [] 0 (Nat.le_refl _) rfl hs h1 h2 (by simp; omega) (by simp; omega)).eq (by simp)

theorem impl_TwistClass_l0 (x c : List Int) (n : Int) (hl : x.length ≤ 1000) (hlc : c.length = x.length) (hn : n.natAbs ≤ 120000000) (hx : x.all smallB = true) (hc : c.all smallB = true) :
    ∀ (sx sc px pc acc : List Int), x = px ++ sx → c = pc ++ sc → px.length = pc.length → acc.length = px.length → (acc ++ twistL n sx sc).length ≤ 1000 →
    EV (fun k => impl_TwistClass.l0 k c x acc n (x.length : Int) (px.length : Int)) (if (acc ++ twistL n sx sc).all smallB = true then (acc ++ twistL n sx sc, true) else ([], false)) := by
  intro sx
  induction sx with
  | nil =>
    intro sc px pc acc h1 h2 h3 h4 h5
    have e : twistL n [] sc = [] := rfl
    rw [e, List.append_nil] at h5 ⊢
    refine EV.step (fun k => by rw [impl_TwistClass.l0]) ?_
    refine EV.neg (by subst h1; simp) (EV.bind (impl_areSmall_is acc (by omega)) ?_)
    by_cases hs : acc.all smallB = true
    · exact EV.pos hs ((EV.now _).eq (by rw [if_pos hs]))
    · exact EV.neg hs ((EV.now _).eq (by rw [if_neg hs]))
  | cons a sx ih =>
    intro sc px pc acc h1 h2 h3 h4 h5
    obtain ⟨b, sc, rfl⟩ : ∃ b t, sc = b :: t := by
      cases sc with
      | nil => exfalso; subst h1; subst h2; simp at hlc; omega
      | cons b t => exact ⟨b, t, rfl⟩
    have e : twistL n (a :: sx) (b :: sc) = (a + n * b) :: twistL n sx sc := rfl
    have ha : smallB a = true := by subst h1; simp at hx; exact hx.2.1
    have hb : smallB b = true := by subst h2; simp at hc; exact hc.2.1
    have hp : px.length < 4611686018427387904 := by subst h1; simp at hl; omega
    have r1 : rd x (px.length : Int) = a := by subst h1; exact rd_app ..
    have r2 : rd c (px.length : Int) = b := by subst h2; rw [h3]; exact rd_app ..
    have l1 : (px.length : Int) < (x.length : Int) := by subst h1; exact lt_app ..
    refine EV.step (fun k => by rw [impl_TwistClass.l0]) ?_
    rw [r1, r2, (twist_term hn ha hb).1, (twist_term hn ha hb).2, up (x := a) hp]
    refine EV.pos l1 (EV.pos (by omega) (EV.pos l1 (EV.pos (by omega) (EV.pos (by omega) ?_))))
    rw [e] at h5 ⊢
    have := ih sc (px ++ [a]) (pc ++ [b]) (acc ++ [a + n * b]) (by simp [h1]) (by simp [h2]) (by simp [h3]) (by simp [h4]) (by simpa using h5)
    simpa using this
theorem impl_TwistClass_is (g : Int) (c x : List Int) (t : Int) (h1 : c.length ≤ 1048576) (h2 : x.length ≤ 1048576) : EV (fun k => impl_TwistClass.f k g c x t) (twistM g c x t) := by
  have no : EV (fun k => impl_TwistClass.j0 k c x t true) ([], false) := by
    refine EV.step (fun k => by rw [impl_TwistClass.j0]) ?_
    exact EV.pos rfl (EV.now _)
  unfold twistM
  refine EV.bind (impl_IsClass_is g c (by omega)) ?_
  by_cases hc : classB g c = true
  · refine EV.pos hc (EV.bind (impl_IsClass_is g x (by omega)) ?_)
    by_cases hx : classB g x = true
    · refine EV.pos hx (EV.by (impl_within_is _ _ _) ?_)
      by_cases ht : -20 ≤ t ∧ t ≤ 20
      · rw [if_pos ⟨hc, hx, ht⟩]
        obtain ⟨_, c2, c3⟩ := class_of hc
        obtain ⟨_, x2, x3⟩ := class_of hx
        have hf := form_class hc hx
        have hn := mul_bd (x := t) (y := formM c x) 20 6000000 (by omega) hf
        have e : (!decide (-20 ≤ t ∧ t ≤ 20)) = false := by simp [ht]
        rw [e]
        refine EV.step (fun k => by rw [impl_TwistClass.j0]) ?_
        refine EV.neg (by simp) (EV.bind (impl_form_is c x (by omega) c3 x3 (by omega)) ?_)
        rw [w64 (x := t * formM c x) (by omega) (by omega)]
        exact impl_TwistClass_l0 x c (t * formM c x) (by omega) (by omega) (by omega) x3 c3 x c [] [] [] rfl rfl rfl rfl (by simp [twistL]; omega)
      · rw [if_neg (fun h => ht h.2.2)]
        have e : (!decide (-20 ≤ t ∧ t ≤ 20)) = true := by simp [ht]
        rw [e]; exact no
    · rw [if_neg (fun h => hx h.2.1)]
      exact EV.neg hx no
  · rw [if_neg (fun h => hc h.1)]
    exact EV.neg hc no

theorem impl_unit_is (n i : Nat) (hn : n ≤ 1000) (hi : i < n) : impl_unit.f (n : Int) (i : Int) = some (unitM n i) := by
  unfold impl_unit.f
  rw [if_pos (by omega), if_pos (by omega)]
  simp only [Option.bind_some]
  rw [if_pos (by omega), if_pos (by simp; omega)]
  rfl

theorem impl_TwistMatrix_l0 (g : Int) (c : List Int) (w : Nat) (hw : (w : Int) = 2 * g) (hb : w ≤ 6) (hc : c.length ≤ 1048576) : ∀ (n : Nat) (cs : List (List Int)), cs.length + n = w →
    EV (fun k => impl_TwistMatrix.l0 k g c (rowsOf w cs) (w : Int) (cs.length : Int)) (resM w cs (colsT g c w n cs.length)) := by
  have e2 : wrap64 (2 * g) = (w : Int) := by rw [w64 (by omega) (by omega), hw]
  intro n
  induction n with
  | zero =>
    intro cs h
    refine EV.step (fun k => by rw [impl_TwistMatrix.l0]) ?_
    refine EV.neg (by omega) ((EV.now _).eq ?_)
    simp [colsT, resM]
  | succ n ih =>
    intro cs h
    refine EV.step (fun k => by rw [impl_TwistMatrix.l0]) ?_
    rw [e2]
    refine EV.pos (by omega) (EV.by (impl_unit_is w cs.length (by omega) (by omega)) ?_)
    refine EV.bind (impl_TwistClass_is g c _ 1 hc (by rw [unitM_length]; omega)) ?_
    by_cases ok : (twistM g c (unitM w cs.length) 1).2 = true
    · have hl := twistM_ok ok
      rw [unitM_length] at hl
      refine EV.pos ok ?_
      refine EV.zip (g := fun k t i => impl_TwistMatrix.l1 k g c t (w : Int) (cs.length : Int) (twistM g c (unitM w cs.length) 1).1 ((twistM g c (unitM w cs.length) 1).1.length : Int) i) (fun r v => r ++ [v]) (rowsOf w cs) (twistM g c (unitM w cs.length) 1).1 (by simp [rowsOf, hl]) _ (fun i h1 h2 s hs hsi H => ?_) ?_
      · have hm : (rowsOf w cs).length = w := by simp [rowsOf]
        have hri : ((rowsOf w cs)[i]).length = cs.length := by simp [rowsOf]
        refine EV.step (fun k => by rw [impl_TwistMatrix.l1]) ?_
        rw [getElem_rdL _ _ _ hsi, rd_nat _ _ h2, w64 (x := (i : Int) + 1) (by omega) (by omega)]
        refine EV.pos (by omega) (EV.pos (by omega) (EV.pos (by omega) (EV.pos (by omega) (EV.pos (by omega) ?_))))
        simpa using H
      · rw [rowsOf_snoc w cs _ hl]
        refine EV.step (fun k => by rw [impl_TwistMatrix.l1]) ?_
        rw [w64 (x := (cs.length : Int) + 1) (by omega) (by omega)]
        refine EV.neg (by simp [rowsOf]; omega) ?_
        have := ih (cs ++ [(twistM g c (unitM w cs.length) 1).1]) (by simp; omega)
        simp only [List.length_append, List.length_cons, List.length_nil] at this
        refine EV.congr (fun k => rfl) (this.eq ?_)
        simp only [colsT]
        rw [if_pos ok]
        rcases colsT g c w n (cs.length + 1) with _ | cs'
        · rfl
        · simp [resM]
    · refine EV.neg ok ((EV.now _).eq ?_)
      simp only [colsT]
      rw [if_neg ok]; rfl
theorem impl_TwistMatrix_is (g : Int) (c : List Int) (hc : c.length ≤ 1048576) : EV (fun k => impl_TwistMatrix.f k g c) (twmM g c) := by
  unfold twmM
  refine EV.bind (impl_IsClass_is g c (by omega)) ?_
  by_cases h : classB g c = true
  · have a := class_of h
    have hw : (((2 * g).toNat : Nat) : Int) = 2 * g := by omega
    have e2 : wrap64 (2 * g) = (((2 * g).toNat : Nat) : Int) := by rw [w64 (by omega) (by omega), hw]
    refine EV.pos h ?_
    rw [if_pos h, e2]
    have hb : (2 * g).toNat ≤ 6 := by omega
    generalize (2 * g).toNat = w at *
    refine EV.pos (by omega) (EV.pos (by omega) ?_)
    have := impl_TwistMatrix_l0 g c w hw hb hc w [] (by simp)
    rw [rowsOf_nil] at this
    exact this
  · exact EV.neg h ((EV.now _).eq (by rw [if_neg h]))

theorem impl_ApplyTable_l1 (t : List (List Int)) (x r out : List Int) (i : Nat) (ho : out.length ≤ 1000) (hi' : i ≤ 1000) {R : List Int × Bool} :
    ∀ (sx sr px pr : List Int) (acc : Int), x = px ++ sx → r = pr ++ sr → pr.length = px.length → sr.length = sx.length → sr.all smallB = true → sx.all smallB = true → px.length + sx.length ≤ 1000 → acc.natAbs + 1000000 * sx.length ≤ 1000000000000 →
    EV (fun k => impl_ApplyTable.l0 k t x (out ++ [acc + dot sr sx]) t (t.length : Int) ((i + 1 : Nat) : Int)) R → EV (fun k => impl_ApplyTable.l1 k t x out acc t (t.length : Int) (i : Int) r (r.length : Int) (pr.length : Int)) R := by
  intro sx
  induction sx with
  | nil =>
    intro sr px pr acc h1 h2 h3 h4 _ _ h5 _ H
    have : sr = [] := List.eq_nil_of_length_eq_zero (by simpa using h4)
    subst this
    refine EV.step (fun k => by rw [impl_ApplyTable.l1]) ?_
    rw [w64 (x := (i : Int) + 1) (by omega) (by omega)]
    refine EV.neg (by subst h2; simp) (EV.pos (by omega) ?_)
    simpa [dot] using H
  | cons b sx ih =>
    intro sr px pr acc h1 h2 h3 h4 h6 h7 h5 h8 H
    obtain ⟨a, sr, rfl⟩ : ∃ a t, sr = a :: t := by
      cases sr with
      | nil => simp at h4
      | cons a t => exact ⟨a, t, rfl⟩
    simp only [List.all_cons, Bool.and_eq_true, List.length_cons] at h4 h5 h6 h7 h8
    have tb := term_bd h6.1 h7.1
    have r1 : rd r (pr.length : Int) = a := by subst h2; exact rd_app ..
    have r2 : rd x (pr.length : Int) = b := by subst h1; rw [h3]; exact rd_app ..
    have l1 : (pr.length : Int) < (r.length : Int) := by subst h2; exact lt_app ..
    have l2 : (pr.length : Int) < (x.length : Int) := by subst h1; rw [h3]; exact lt_app ..
    refine EV.step (fun k => by rw [impl_ApplyTable.l1]) ?_
    rw [r1, r2, w64 (x := a * b) (by omega) (by omega), w64 (x := acc + a * b) (by omega) (by omega), up (x := a) (by omega)]
    refine EV.pos l1 (EV.pos (by omega) (EV.pos l1 (EV.pos l2 ?_)))
    refine ih sr (px ++ [b]) (pr ++ [a]) (acc + a * b) (by simp [h1]) (by simp [h2]) (by simp [h3]) (by omega) h6.2 h7.2 (by simp; omega) (by omega) ?_
    have e : acc + a * b + dot sr sx = acc + dot (a :: sr) (b :: sx) := by simp only [dot]; omega
    rw [e]; exact H
theorem impl_ApplyTable_l0 (t : List (List Int)) (x : List Int) (hx : x.length = t.length) (hs : x.all smallB = true) (hr : ∀ r ∈ t, r.length < 4611686018427387904) (hl : t.length ≤ 6) : ∀ (suf pre : List (List Int)), t = pre ++ suf →
    EV (fun k => impl_ApplyTable.l0 k t x (pre.map fun r => dot r x) t (t.length : Int) (pre.length : Int)) (if suf.all (rowB t.length) = true then outM (t.map fun r => dot r x) else ([], false)) := by
  intro suf
  induction suf with
  | nil =>
    intro pre h
    have e : pre = t := by simp [h]
    subst e
    refine EV.step (fun k => by rw [impl_ApplyTable.l0]) ?_
    refine EV.neg (by omega) (EV.bind (impl_areSmall_is _ (by simp; omega)) ?_)
    rw [if_pos (show ([] : List (List Int)).all (rowB pre.length) = true from rfl)]
    unfold outM
    by_cases c : (pre.map fun r => dot r x).all smallB = true
    · exact EV.pos c ((EV.now _).eq (by rw [if_pos c]))
    · exact EV.neg c ((EV.now _).eq (by rw [if_neg c]))
  | cons r suf ih =>
    intro pre h
    have hr' := hr r (by rw [h]; simp)
    have hlt : (pre.length : Int) < (t.length : Int) := by subst h; exact lt_app ..
    have hrd : rd_L1 t (pre.length : Int) = r := by subst h; exact rdL_app ..
    have no : ∀ b, b = true → rowB t.length r = false → EV (fun k => impl_ApplyTable.j2 k t x (pre.map fun r => dot r x) r t (t.length : Int) (pre.length : Int) b) (if (r :: suf).all (rowB t.length) = true then outM (t.map fun r => dot r x) else ([], false)) := by
      intro b hb hf
      subst hb
      refine EV.step (fun k => by rw [impl_ApplyTable.j2]) ?_
      exact EV.pos rfl ((EV.now _).eq (by rw [List.all_cons, hf, if_neg (by simp)]))
    refine EV.step (fun k => by rw [impl_ApplyTable.l0]) ?_
    rw [hrd]
    refine EV.pos hlt (EV.pos (by omega) (EV.pos hlt ?_))
    by_cases h2 : r.length = t.length
    · refine EV.pos (by omega) (EV.bind (impl_areSmall_is r hr') ?_)
      by_cases hs' : r.all smallB = true
      · have hb : rowB t.length r = true := by simp only [rowB, h2, hs', decide_true, Bool.and_self]
        rw [hs']
        refine EV.step (fun k => by rw [impl_ApplyTable.j2]) ?_
        refine EV.neg (by simp) (impl_ApplyTable_l1 t x r (pre.map fun r => dot r x) pre.length (by simp; omega) (by omega) x r [] [] 0 rfl rfl rfl (by omega) hs' hs (by simp; omega) (by simp; omega) ?_)
        have := ih (pre ++ [r]) (by simp [h])
        rw [List.all_cons, hb, Bool.true_and]
        simpa using this
      · have : r.all smallB = false := by simpa using hs'
        rw [this]
        exact no _ rfl (by simp only [rowB, this, Bool.and_false])
    · exact EV.neg (by omega) (no _ rfl (by simp only [rowB, h2, decide_false, Bool.false_and]))
theorem impl_ApplyTable_is (t : List (List Int)) (x : List Int) (hr : ∀ r ∈ t, r.length < 4611686018427387904) (hx : x.length < 4611686018427387904) : EV (fun k => impl_ApplyTable.f k t x) (applyM t x) := by
  have no : EV (fun k => impl_ApplyTable.j0 k t x true) ([], false) := by
    refine EV.step (fun k => by rw [impl_ApplyTable.j0]) ?_
    exact EV.pos rfl (EV.now _)
  unfold applyM tableB
  refine EV.by (impl_within_is _ _ _) ?_
  by_cases h1 : 1 ≤ t.length ∧ t.length ≤ 6
  · refine EV.pos (by simp; omega) ?_
    by_cases h2 : x.length = t.length
    · refine EV.pos (by omega) (EV.bind (impl_areSmall_is x hx) ?_)
      by_cases h3 : x.all smallB = true
      · rw [h3]
        refine EV.step (fun k => by rw [impl_ApplyTable.j0]) ?_
        refine EV.neg (by simp) ((impl_ApplyTable_l0 t x h2 h3 hr h1.2 t [] rfl).eq ?_)
        by_cases h4 : t.all (rowB t.length) = true
        · rw [if_pos h4, if_pos ⟨by simp [h4, h1], h2, rfl⟩]
        · rw [if_neg h4, if_neg (fun h => h4 (by have := h.1; rw [Bool.and_eq_true] at this; exact this.1))]
      · rw [if_neg (fun h => h3 h.2.2), show (x.all smallB) = false by simpa using h3]
        exact no
    · rw [if_neg (fun h => h2 h.2.1)]
      exact EV.neg (by omega) no
  · rw [if_neg (fun h => h1 (by have := h.1; rw [Bool.and_eq_true, decide_eq_true_iff] at this; exact this.2))]
    exact EV.neg (by simp; omega) no

theorem impl_TimesTable_l3 (s t : List (List Int)) (n j : Nat) (x : List Int) (hj : j ≤ 1048576) {R : List (List Int) × Bool} : ∀ (so po : List (List Int)) (sx px : List Int), x = px ++ sx → px.length = po.length → so.length = sx.length → x.length ≤ 1048576 → (∀ r ∈ so, r.length ≤ 1048576) →
    EV (fun k => impl_TimesTable.l1 k s t (po ++ List.zipWith (fun r v => r ++ [v]) so sx) (n : Int) ((j + 1 : Nat) : Int)) R → EV (fun k => impl_TimesTable.l3 k s t (po ++ so) (n : Int) (j : Int) x (x.length : Int) (po.length : Int)) R := by
  intro so
  induction so with
  | nil =>
    intro po sx px h1 h2 h3 h5 h6 H
    have : sx = [] := List.eq_nil_of_length_eq_zero (by simpa using h3.symm)
    subst this
    refine EV.step (fun k => by rw [impl_TimesTable.l3]) ?_
    rw [w64 (x := (j : Int) + 1) (by omega) (by omega)]
    refine EV.neg (by subst h1; simp; omega) ?_
    simpa using H
  | cons r so ih =>
    intro po sx px h1 h2 h3 h5 h6 H
    obtain ⟨v, sx, rfl⟩ : ∃ a t, sx = a :: t := by
      cases sx with
      | nil => simp at h3
      | cons a t => exact ⟨a, t, rfl⟩
    simp only [List.length_cons] at h3
    have hr := h6 r (by simp)
    have r2 : rd x (po.length : Int) = v := by subst h1; rw [← h2]; exact rd_app ..
    have l2 : (po.length : Int) < (x.length : Int) := by subst h1; rw [← h2]; exact lt_app ..
    refine EV.step (fun k => by rw [impl_TimesTable.l3]) ?_
    rw [rdL_app, r2, up (x := r) (by omega), set_app _ _ _ _ _ (by simp)]
    refine EV.pos l2 (EV.pos (by omega) (EV.pos l2 (EV.pos (lt_app ..) (EV.pos (by omega) ?_))))
    have := ih (po ++ [r ++ [v]]) sx (px ++ [v]) (by simp [h1]) (by simp [h2]) (by omega) h5 (fun r' hr' => h6 r' (by simp [hr'])) (by simpa using H)
    simpa using this
theorem impl_TimesTable_l2 (s t out : List (List Int)) (n j : Nat) (hl : t.length ≤ 1048576) (hj : ∀ r ∈ t, j < r.length) {R : List (List Int) × Bool}
    (H : EV (fun k => (impl_ApplyTable.f k s (colL t j)).bind fun bt218 => (if bt218.2 = true then (impl_TimesTable.l3 k s t out (n : Int) (j : Int) bt218.1 (bt218.1.length : Int) 0) else (some (([] : List (List Int)), false)))) R) : ∀ (suf pre : List (List Int)), t = pre ++ suf →
    EV (fun k => impl_TimesTable.l2 k s t out (j : Int) (colL pre j) (n : Int) (j : Int) t (t.length : Int) (pre.length : Int)) R := by
  intro suf
  induction suf with
  | nil =>
    intro pre h
    have e : pre = t := by simp [h]
    subst e
    refine EV.step (fun k => by rw [impl_TimesTable.l2]) ?_
    exact EV.neg (by omega) H
  | cons r suf ih =>
    intro pre h
    have hl' : pre.length < 1048576 := by subst h; simp at hl; omega
    have hlt : (pre.length : Int) < (t.length : Int) := by subst h; exact lt_app ..
    have hx : rd_L1 t (pre.length : Int) = r := by subst h; exact rdL_app ..
    have hr := hj r (by subst h; simp)
    refine EV.step (fun k => by rw [impl_TimesTable.l2]) ?_
    rw [hx, rd_col, up (x := r) (by omega)]
    refine EV.pos hlt (EV.pos (by omega) (EV.pos hlt (EV.pos (by omega) (EV.pos (by omega) (EV.pos (by simp [colL]; omega) ?_)))))
    have := ih (pre ++ [r]) (by simp [h])
    simpa [colL] using this
theorem impl_TimesTable_l1 (s t : List (List Int)) (ht : ∀ r ∈ t, r.length = t.length) (hl : t.length ≤ 1048576) (hsr : ∀ r ∈ s, r.length < 4611686018427387904) : ∀ (n : Nat) (cs : List (List Int)), cs.length + n = t.length →
    EV (fun k => impl_TimesTable.l1 k s t (rowsOf t.length cs) (t.length : Int) (cs.length : Int)) (resM t.length cs (colsM s t n cs.length)) := by
  intro n
  induction n with
  | zero =>
    intro cs h
    refine EV.step (fun k => by rw [impl_TimesTable.l1]) ?_
    refine EV.neg (by omega) ((EV.now _).eq ?_)
    simp [colsM, resM]
  | succ n ih =>
    intro cs h
    have hj : ∀ r ∈ t, cs.length < r.length := fun r hr => by have := ht r hr; omega
    refine EV.step (fun k => by rw [impl_TimesTable.l1]) ?_
    refine EV.pos (by omega) (impl_TimesTable_l2 s t _ t.length cs.length hl hj ?_ t [] rfl)
    refine EV.bind (impl_ApplyTable_is s (colL t cs.length) hsr (by simp [colL]; omega)) ?_
    by_cases ok : (applyM s (colL t cs.length)).2 = true
    · have a := applyM_ok ok
      have hc : (colL t cs.length).length = t.length := by simp [colL]
      have hown : (applyM s (colL t cs.length)).1.length = t.length := by omega
      refine EV.pos ok ?_
      have := impl_TimesTable_l3 s t t.length cs.length (applyM s (colL t cs.length)).1 (by omega) (rowsOf t.length cs) [] (applyM s (colL t cs.length)).1 [] rfl rfl (by simp [rowsOf]; omega) (by omega) (fun r hr => ?_) (R := resM t.length cs (colsM s t (n + 1) cs.length)) ?_
      · exact this
      · simp only [rowsOf, List.mem_map] at hr
        obtain ⟨i, hi, rfl⟩ := hr
        simp; omega
      · rw [List.nil_append, rowsOf_snoc _ _ _ hown]
        have := ih (cs ++ [(applyM s (colL t cs.length)).1]) (by simp; omega)
        simp only [List.length_append, List.length_cons, List.length_nil] at this
        refine this.eq ?_
        simp only [colsM]
        rw [if_pos ok]
        rcases colsM s t n (cs.length + 1) with _ | cs'
        · rfl
        · simp [resM]
    · refine EV.neg ok ((EV.now _).eq ?_)
      simp only [colsM]
      rw [if_neg ok]; rfl
theorem impl_TimesTable_l0 (s t : List (List Int)) (hl : t.length ≤ 1048576) (hsr : ∀ r ∈ s, r.length < 4611686018427387904) (htr : ∀ r ∈ t, r.length ≤ 1048576) : ∀ (suf pre : List (List Int)), t = pre ++ suf → (∀ r ∈ pre, r.length = t.length) →
    EV (fun k => impl_TimesTable.l0 k s t (List.replicate t.length []) t (t.length : Int) (pre.length : Int)) (if ∀ r ∈ suf, r.length = t.length then resM t.length [] (colsM s t t.length 0) else ([], false)) := by
  intro suf
  induction suf with
  | nil =>
    intro pre h hp
    have e : pre = t := by simp [h]
    subst e
    refine EV.step (fun k => by rw [impl_TimesTable.l0]) ?_
    refine EV.neg (by omega) ?_
    have := impl_TimesTable_l1 s pre hp hl hsr pre.length [] (by simp)
    rw [rowsOf_nil] at this
    exact this.eq (by rw [if_pos (by simp)]; rfl)
  | cons r suf ih =>
    intro pre h hp
    have hl' : pre.length < 1048576 := by subst h; simp at hl; omega
    have hlt : (pre.length : Int) < (t.length : Int) := by subst h; exact lt_app ..
    have hx : rd_L1 t (pre.length : Int) = r := by subst h; exact rdL_app ..
    refine EV.step (fun k => by rw [impl_TimesTable.l0]) ?_
    rw [hx, up (x := r) (by omega)]
    refine EV.pos hlt (EV.pos (by omega) (EV.pos hlt ?_))
    by_cases h2 : r.length = t.length
    · refine EV.pos (by omega) ((ih (pre ++ [r]) (by simp [h]) (fun r' hr' => ?_)).eq ?_)
      · rcases List.mem_append.1 hr' with h' | h'
        · exact hp r' h'
        · rw [List.mem_singleton.1 h']; exact h2
      · by_cases c : ∀ r ∈ suf, r.length = t.length
        · rw [if_pos c, if_pos (by intro r' hr'; rcases List.mem_cons.1 hr' with rfl | h'; exact h2; exact c r' h')]
        · rw [if_neg c, if_neg (fun h' => c fun r' hr' => h' r' (by simp [hr']))]
    · exact EV.neg (by omega) ((EV.now _).eq (by rw [if_neg (fun h' => h2 (h' r (by simp)))]))
theorem impl_TimesTable_is (s t : List (List Int)) (ht : t.length ≤ 1048576) (hsr : ∀ r ∈ s, r.length ≤ 1048576) (htr : ∀ r ∈ t, r.length ≤ 1048576) : EV (fun k => impl_TimesTable.f k s t) (timesM s t) := by
  refine EV.pos (by omega) (EV.pos (by omega) ?_)
  by_cases h0 : t.length = 0
  · refine EV.pos (by omega) ((EV.now _).eq ?_)
    unfold timesM
    rw [if_neg (fun h => by have := (tableB_of h.2.1).2; omega)]
  · refine EV.neg (by omega) ((impl_TimesTable_l0 s t ht (fun r hr => by have := hsr r hr; omega) htr t [] rfl (by simp)).eq ?_)
    by_cases c : ∀ r ∈ t, r.length = t.length
    · rw [if_pos c, times_eq s t h0 c]
    · rw [if_neg c]
      unfold timesM
      rw [if_neg (fun h => c fun r hr => ((tableB_of h.2.1).1 r hr).1)]

theorem impl_Times6 (s t : List (List Int)) (hs : szT s) (ht : szT t) : EV (fun k => impl_TimesTable.f k s t) (timesM s t) :=
  impl_TimesTable_is s t (by have := ht.1; omega) (fun r hr => by have := hs.2 r hr; omega) (fun r hr => by have := ht.2 r hr; omega)
theorem impl_threeTimes_is (s t u : List (List Int)) (hs : szT s) (ht : szT t) (hu : szT u) : EV (fun k => impl_threeTimes.f k s t u) (threeM s t u) := by
  unfold threeM
  refine EV.bind (impl_Times6 s t hs ht) ?_
  by_cases h : (timesM s t).2 = true
  · rw [if_pos h]
    exact EV.pos h (EV.bind (impl_Times6 _ u (timesM_sz _ _) hu) (EV.now _))
  · rw [if_neg h]
    exact EV.neg h (EV.now _)

theorem impl_sameInts_is (xs ys : List Int) (hn : xs.length < 4294967296) : EV (fun k => impl_sameInts.f k xs ys) (decide (xs = ys)) := by
  by_cases h : xs.length = ys.length
  · refine EV.pos (by omega) ?_
    have := EV.countB (g := fun k i => impl_sameInts.l0 k xs ys (xs.length : Int) i) xs.length (fun i => decide (xs.getD i 0 = ys.getD i 0)) true (fun i hi r H1 H2 => ?_) ?_
    · refine EV.eq this ?_
      rw [Bool.eq_iff_iff, Bool.and_true, List.all_eq_true, decide_eq_true_iff]
      constructor
      · intro hh
        apply List.ext_getElem h
        intro i h1 h2
        have := hh i (List.mem_range.2 h1)
        rw [decide_eq_true_iff] at this
        simpa [h1, h2] using this
      · intro e i _; rw [e]; simp
    · have hi' : i < ys.length := by omega
      have e1 : xs.getD i 0 = xs[i] := by simp [hi]
      have e2 : ys.getD i 0 = ys[i] := by simp [hi']
      rw [e1, e2] at H1 H2
      refine EV.step (fun k => by rw [impl_sameInts.l0]) ?_
      rw [rd_nat _ _ hi, rd_nat _ _ hi', w64 (x := (i : Int) + 1) (by omega) (by omega)]
      refine EV.pos (by omega) (EV.pos (by omega) (EV.pos (by omega) (EV.pos (by omega) ?_)))
      exact EV.cases (fun c => H1 (by simpa using c)) (fun c => (EV.now _).eq (H2 (by simpa using c)).symm)
    · refine EV.step (fun k => by rw [impl_sameInts.l0]) ?_
      exact EV.neg (by omega) (EV.now _)
  · exact EV.neg (by omega) ((EV.now _).eq (by simp; intro e; exact h (by rw [e])))

theorem impl_sameRows_is (xs ys : List (List Int)) (hn : xs.length < 4294967296) (hr : ∀ r ∈ xs, r.length < 4294967296) : EV (fun k => impl_sameRows.f k xs ys) (decide (xs = ys)) := by
  by_cases h : xs.length = ys.length
  · refine EV.pos (by omega) ?_
    have := EV.countB (g := fun k i => impl_sameRows.l0 k xs ys (xs.length : Int) i) xs.length (fun i => decide (xs.getD i [] = ys.getD i [])) true (fun i hi r H1 H2 => ?_) ?_
    · refine EV.eq this ?_
      rw [Bool.eq_iff_iff, Bool.and_true, List.all_eq_true, decide_eq_true_iff]
      constructor
      · intro hh
        apply List.ext_getElem h
        intro i h1 h2
        have := hh i (List.mem_range.2 h1)
        rw [decide_eq_true_iff] at this
        simpa [h1, h2] using this
      · intro e i _; rw [e]; simp
    · have hi' : i < ys.length := by omega
      have e1 : xs.getD i [] = xs[i] := by simp [hi]
      have e2 : ys.getD i [] = ys[i] := by simp [hi']
      rw [e1, e2] at H1 H2
      refine EV.step (fun k => by rw [impl_sameRows.l0]) ?_
      rw [rdL_nat _ _ hi, rdL_nat _ _ hi', w64 (x := (i : Int) + 1) (by omega) (by omega)]
      refine EV.pos (by omega) (EV.pos (by omega) (EV.pos (by omega) (EV.pos (by omega) (EV.bind (impl_sameInts_is _ _ (hr _ (List.getElem_mem hi))) ?_))))
      exact EV.cases (fun c => H1 (by simpa using c)) (fun c => (EV.now _).eq (H2 (by simpa using c)).symm)
    · refine EV.step (fun k => by rw [impl_sameRows.l0]) ?_
      exact EV.neg (by omega) (EV.now _)
  · exact EV.neg (by omega) ((EV.now _).eq (by simp; intro e; exact h (by rw [e])))

theorem impl_BraidHolds_is (g : Int) (c d : List Int) (hc : c.length ≤ 1048576) (hd : d.length ≤ 1048576) : EV (fun k => impl_BraidHolds.f k g c d) (braidM g c d) := by
  unfold braidM
  refine EV.bind (impl_TwistMatrix_is g c hc) (EV.bind (impl_TwistMatrix_is g d hd) ?_)
  have sc : szT (twmM g c).1 := twmM_sz g c
  have sd : szT (twmM g d).1 := twmM_sz g d
  generalize twmM g c = C at *
  generalize twmM g d = D at *
  have no : EV (fun k => impl_BraidHolds.j0 k C.1 D.1 true) false := by
    refine EV.step (fun k => by rw [impl_BraidHolds.j0]) ?_
    exact EV.pos rfl (EV.now _)
  by_cases h1 : C.2 = true
  · rw [h1, Bool.true_and]
    refine EV.pos rfl ?_
    by_cases h2 : D.2 = true
    · rw [h2, Bool.true_and]
      refine EV.step (fun k => by rw [impl_BraidHolds.j0]) ?_
      refine EV.neg (by simp) (EV.bind (impl_threeTimes_is _ _ _ sc sd sc) (EV.bind (impl_threeTimes_is _ _ _ sd sc sd) ?_))
      have z := threeM_sz C.1 D.1 C.1
      by_cases h3 : (threeM C.1 D.1 C.1).2 = true
      · rw [h3, Bool.true_and]
        refine EV.pos rfl ?_
        by_cases h4 : (threeM D.1 C.1 D.1).2 = true
        · rw [h4, Bool.true_and]
          exact EV.pos rfl (EV.bind (impl_sameRows_is _ _ (by have := z.1; omega) (fun r hr => by have := z.2 r hr; omega)) (EV.now _))
        · rw [show (threeM D.1 C.1 D.1).2 = false by simpa using h4, Bool.false_and]
          exact EV.neg (by simp) (EV.now _)
      · rw [show (threeM C.1 D.1 C.1).2 = false by simpa using h3, Bool.false_and]
        exact EV.neg (by simp) (EV.now _)
    · rw [show D.2 = false by simpa using h2, Bool.false_and]; exact no
  · rw [show C.2 = false by simpa using h1, Bool.false_and]
    exact EV.neg (by simp) no

theorem both (g : Int) (wg : (Lit.int .i64 g).wf = true) (x : List Int) (wx : ∀ z ∈ x, (Lit.int .i64 z).wf = true) (nx : x.length ≤ 1048576) (y : List Int) (wy : ∀ z ∈ y, (Lit.int .i64 z).wf = true) (ny : y.length ≤ 1048576) :
    ∃ R : Bool, EV (fun k => spec_BraidHolds.f k g x y) R ∧ EV (fun k => impl_BraidHolds.f k g x y) R ∧ True :=
  ⟨_, spec_BraidHolds_is g x y nx ny, impl_BraidHolds_is g x y nx ny, trivial⟩

theorem FnExactBraidHolds : laws_FnExactBraidHolds.Pure := by
  intro a0 l1 l2 w0 x1 y1 w1 x2 y2 w2
  refine EV.rounds ?_
  refine EV.cases (fun _ => EV.now _) fun g1 => ?_
  have n1 : l1.length ≤ 1048576 := by omega
  refine EV.cases (fun _ => EV.now _) fun g2 => ?_
  have n2 : l2.length ≤ 1048576 := by omega
  obtain ⟨R, S, I, hR⟩ := both a0 w0 l1 w1 n1 l2 w2 n2
  repeat (first
    | exact EV.now _
    | (refine EV.bind (laws_toIntS_is _ (by omega)) ?_)
    | (refine EV.bind S ?_)
    | (refine EV.bind I ?_)
    | (refine EV.bind (laws_eqIntS_self _ (by omega)) ?_)
    | (refine EV.pos rfl ?_)
    | (refine EV.neg (by first | omega | (simp; done)) ?_)
    | (refine EV.pos (by first | omega | (simp; done)) ?_)
    | dsimp only)

end Go.Proofs.Ythhgecgbofcbeaa.Pure
