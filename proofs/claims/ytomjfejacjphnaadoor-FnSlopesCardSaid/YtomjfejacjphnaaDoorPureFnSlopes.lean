/- Pure side of FnSlopes: slopes, their words and their twists hang together: the printed law answers true at every code; no condition beyond the printed statement's bounds. -/
import Derived.Test.YtomjfejacjphnaaDoorVFnSlopes
import Derived.Test.YtomjfejacjphnaaDoorWSized
set_option linter.unusedVariables false
set_option linter.unusedSimpArgs false
set_option linter.unnecessarySimpa false
set_option maxRecDepth 10000
/-- the printed row calls the print's word by this name -/
abbrev Go.Proofs.YtomjfejacjphnaaDoor.PrintWords.sized_ints := @Go.Proofs.YtomjfejacjphnaaDoorW.PrintWords.sized_ints
namespace Go.Proofs.YtomjfejacjphnaaDoor.Pure
open Go.RowKit Go.Proofs.YtomjfejacjphnaaDoor.PFnSlopes Go.Proofs.YtomjfejacjphnaaDoorW.PrintWords Go.Proofs.YtomjfejacjphnaaDoorW.PrintLast Go.Proofs.YtomjfejacjphnaaDoorW.PrintMore

/-! ### Base: words of our own, of no program -/
section
theorem w64 {x : Int} (h1 : -9223372036854775808 ≤ x) (h2 : x ≤ 9223372036854775807) : wrap64 x = x := by
  unfold wrap64; omega
/-- from some number of rounds on it answers r -/
structure EV {α : Type} (g : Nat → Option α) (r : α) : Prop where mk :: (out : ∃ K, ∀ k, K ≤ k → g k = some r)
theorem EV.now {α : Type} (r : α) : EV (fun _ => some r) r := ⟨0, fun _ _ => rfl⟩
theorem EV.rounds {α : Type} {g : Nat → Option α} {r : α} (h : EV g r) : ∃ k, g k = some r := by
  obtain ⟨K, h⟩ := h
  exact ⟨K, h K (Nat.le_refl _)⟩
theorem EV.bind {α β : Type} {g : Nat → Option α} {f : Nat → α → Option β} {a : α} {r : β} (h : EV g a) (k : EV (fun n => f n a) r) : EV (fun n => (g n).bind (f n)) r := by
  obtain ⟨K, h⟩ := h
  obtain ⟨K', k⟩ := k
  refine ⟨max K K', fun n hn => ?_⟩
  have h1 := h n (by omega)
  have h2 := k n (by omega)
  simp only [h1, Option.bind_some]
  exact h2
theorem EV.step {α : Type} {g f : Nat → Option α} {r : α} (h : ∀ k, g (k + 1) = f k) (k : EV f r) : EV g r := by
  obtain ⟨K, k⟩ := k
  refine ⟨K + 1, fun n hn => ?_⟩
  obtain ⟨m, rfl⟩ : ∃ m, n = m + 1 := ⟨n - 1, by omega⟩
  rw [h]
  exact k m (by omega)
theorem EV.congr {α : Type} {g f : Nat → Option α} {r : α} (h : ∀ k, g k = f k) (k : EV f r) : EV g r := by
  obtain ⟨K, k⟩ := k
  exact ⟨K, fun n hn => (h n).trans (k n hn)⟩
theorem EV.pos {α : Type} {c : Prop} [Decidable c] {a b : Nat → Option α} {r : α} (h : c) (k : EV a r) : EV (fun n => if c then a n else b n) r :=
  EV.congr (fun n => if_pos h) k
theorem EV.neg {α : Type} {c : Prop} [Decidable c] {a b : Nat → Option α} {r : α} (h : ¬ c) (k : EV b r) : EV (fun n => if c then a n else b n) r :=
  EV.congr (fun n => if_neg h) k
theorem EV.cases {α : Type} {c : Prop} [Decidable c] {a b : Nat → Option α} {r : α} (h : c → EV a r) (h' : ¬ c → EV b r) : EV (fun n => if c then a n else b n) r := by
  by_cases hc : c
  · exact EV.pos hc (h hc)
  · exact EV.neg hc (h' hc)
/-- a callee without rounds -/
theorem EV.by {α β : Type} {g : Option α} {f : Nat → α → Option β} {a : α} {r : β} (h : g = some a) (k : EV (fun n => f n a) r) : EV (fun n => g.bind (f n)) r := by
  subst h; exact k
theorem EV.eq {α : Type} {g : Nat → Option α} {r r' : α} (h : EV g r) (e : r = r') : EV g r' := e ▸ h
theorem rd_nat (xs : List Int) (i : Nat) (h : i < xs.length) : rd xs (i : Int) = xs[i] := by
  simp [rd, h]
end
/-- from some number of rounds on -/
def Evt (P : Nat → Prop) : Prop := ∃ K, ∀ k, K ≤ k → P k
theorem Evt.and {P Q : Nat → Prop} (h : Evt P) (h' : Evt Q) : Evt (fun k => P k ∧ Q k) := by
  obtain ⟨K, h⟩ := h
  obtain ⟨K', h'⟩ := h'
  exact ⟨max K K', fun k hk => ⟨h k (by omega), h' k (by omega)⟩⟩
theorem Evt.rounds {P : Nat → Prop} (h : Evt P) : ∃ k, P k := by
  obtain ⟨K, h⟩ := h
  exact ⟨K, h K (Nat.le_refl _)⟩
theorem gcd_step (a b : Int) : Nat.gcd b.natAbs (Int.tmod a b).natAbs = Nat.gcd a.natAbs b.natAbs := by
  rw [Int.natAbs_tmod, Nat.gcd_comm b.natAbs, ← Nat.gcd_rec, Nat.gcd_comm]
theorem tmod_lt (a b : Int) (h : b ≠ 0) : (Int.tmod a b).natAbs < b.natAbs := by
  rw [Int.natAbs_tmod]; exact Nat.mod_lt _ (by omega)
def slopeB (p q : Int) : Bool := decide (-1000 ≤ p ∧ p ≤ 1000) && (decide (0 ≤ q ∧ q ≤ 1000) && (decide (Nat.gcd p.natAbs q.natAbs = 1) && (decide (0 < q) || decide (p = 1))))
/-- p, q by their greatest common divisor, the sign so that q is above 0, or p -/
def lowM (p q : Int) : Int × Int :=
  let d : Int := (Nat.gcd p.natAbs q.natAbs : Nat)
  if q < 0 ∨ (q = 0 ∧ p < 0) then (-(p.tdiv d), -(q.tdiv d)) else (p.tdiv d, q.tdiv d)
def slopeOfM (p q : Int) : Int × Int × Bool :=
  if -1000 ≤ p ∧ p ≤ 1000 then (if -1000 ≤ q ∧ q ≤ 1000 then (if p = 0 ∧ q = 0 then (0, 0, false) else ((lowM p q).1, (lowM p q).2, true)) else (0, 0, false)) else (0, 0, false)
theorem low_of (p q : Int) (hp : -1000 ≤ p ∧ p ≤ 1000) (hq : -1000 ≤ q ∧ q ≤ 1000) (hz : ¬ (p = 0 ∧ q = 0)) :
    ∃ d a b : Int, ((Nat.gcd p.natAbs q.natAbs : Nat) : Int) = d ∧ 0 < d ∧ d ≤ 1000 ∧ p.tdiv d = a ∧ q.tdiv d = b ∧ p = d * a ∧ q = d * b ∧ -1000 ≤ a ∧ a ≤ 1000 ∧ -1000 ≤ b ∧ b ≤ 1000 ∧ (q < 0 ↔ b < 0) ∧ (q = 0 ↔ b = 0) ∧ (p < 0 ↔ a < 0) := by
  have hg : 0 < Nat.gcd p.natAbs q.natAbs := by
    rcases Nat.eq_zero_or_pos (Nat.gcd p.natAbs q.natAbs) with h | h
    · have := Nat.gcd_eq_zero_iff.1 h; omega
    · exact h
  have h1 : Nat.gcd p.natAbs q.natAbs ≤ 1000 := by
    by_cases h : p = 0
    · have := Nat.gcd_le_right p.natAbs (n := q.natAbs) (by omega); omega
    · have := Nat.gcd_le_left q.natAbs (m := p.natAbs) (by omega); omega
  obtain ⟨a, ha⟩ : ∃ a, p = ((Nat.gcd p.natAbs q.natAbs : Nat) : Int) * a := Int.ofNat_dvd_left.2 (Nat.gcd_dvd_left ..)
  obtain ⟨b, hb⟩ : ∃ b, q = ((Nat.gcd p.natAbs q.natAbs : Nat) : Int) * b := Int.ofNat_dvd_left.2 (Nat.gcd_dvd_right ..)
  generalize hd : ((Nat.gcd p.natAbs q.natAbs : Nat) : Int) = d at *
  have hdp : 0 < d := by omega
  have e1 : p.tdiv d = a := by rw [ha]; exact Int.mul_tdiv_cancel_left _ (by omega)
  have e2 : q.tdiv d = b := by rw [hb]; exact Int.mul_tdiv_cancel_left _ (by omega)
  have bnd : ∀ x y : Int, x = d * y → -1000 ≤ x → x ≤ 1000 → -1000 ≤ y ∧ y ≤ 1000 ∧ (x < 0 ↔ y < 0) ∧ (x = 0 ↔ y = 0) := by
    intro x y h h1 h2
    have k1 : 0 < y → y ≤ d * y := fun hy => by have := Int.mul_le_mul_of_nonneg_right (show 1 ≤ d by omega) (show 0 ≤ y by omega); omega
    have k2 : y < 0 → d * y ≤ y := fun hy => by have := Int.mul_le_mul_of_nonpos_right (show 1 ≤ d by omega) (show y ≤ 0 by omega); omega
    have k3 : y = 0 → d * y = 0 := fun hy => by rw [hy]; simp
    rw [← h] at k1 k2 k3
    rcases Int.lt_trichotomy y 0 with hy | hy | hy
    · have := k2 hy; omega
    · have := k3 hy; omega
    · have := k1 hy; omega
  have B1 := bnd p a ha hp.1 hp.2
  have B2 := bnd q b hb hq.1 hq.2
  exact ⟨d, a, b, rfl, hdp, by omega, e1, e2, ha, hb, by omega, by omega, by omega, by omega, B2.2.2.1, B2.2.2.2, B1.2.2.1⟩

def crossM (a b c d : Int) : Int := if slopeB a b = true ∧ slopeB c d = true then ((a * d - b * c).natAbs : Int) else -1
theorem slopeB_bd {p q : Int} (h : slopeB p q = true) : -1000 ≤ p ∧ p ≤ 1000 ∧ 0 ≤ q ∧ q ≤ 1000 ∧ Nat.gcd p.natAbs q.natAbs = 1 ∧ (0 < q ∨ p = 1) := by
  unfold slopeB at h
  simp only [Bool.and_eq_true, Bool.or_eq_true, decide_eq_true_eq] at h
  omega
/-- a product of two numbers of bounded size -/
theorem mul_bd {x y : Int} (A B : Nat) (hx : x.natAbs ≤ A) (hy : y.natAbs ≤ B) : (x * y).natAbs ≤ A * B := by
  rw [Int.natAbs_mul]; exact Nat.mul_le_mul hx hy
theorem cross_w {a b c d : Int} (h1 : slopeB a b = true) (h2 : slopeB c d = true) : wrap64 (a * d) = a * d ∧ wrap64 (b * c) = b * c ∧ (a * d - b * c).natAbs ≤ 2000000 := by
  have b1 := slopeB_bd h1
  have b2 := slopeB_bd h2
  have m1 := mul_bd (x := a) (y := d) 1000 1000 (by omega) (by omega)
  have m2 := mul_bd (x := b) (y := c) 1000 1000 (by omega) (by omega)
  refine ⟨w64 (by omega) (by omega), w64 (by omega) (by omega), by omega⟩

def sumM (a b c d : Int) : Int × Int × Bool := if crossM a b c d = 1 then slopeOfM (a + c) (b + d) else (0, 0, false)
/-- (a, b) twists (c, d) -/
def twistSM (a b c d t : Int) : Int × Int × Bool :=
  if slopeB a b = true ∧ slopeB c d = true ∧ -20 ≤ t ∧ t ≤ 20 then slopeOfM (c + t * (c * b - d * a) * a) (d + t * (c * b - d * a) * b) else (0, 0, false)
theorem cross_one {a b c d : Int} (h : crossM a b c d = 1) : slopeB a b = true ∧ slopeB c d = true := by
  unfold crossM at h
  split at h
  · assumption
  · omega
theorem twist_w {a b c d t : Int} (h1 : slopeB a b = true) (h2 : slopeB c d = true) (h3 : -20 ≤ t ∧ t ≤ 20) :
    wrap64 (c * b) = c * b ∧ wrap64 (d * a) = d * a ∧ wrap64 (c * b - d * a) = c * b - d * a ∧ wrap64 (t * (c * b - d * a)) = t * (c * b - d * a) ∧
    wrap64 (t * (c * b - d * a) * a) = t * (c * b - d * a) * a ∧ wrap64 (t * (c * b - d * a) * b) = t * (c * b - d * a) * b ∧
    wrap64 (c + t * (c * b - d * a) * a) = c + t * (c * b - d * a) * a ∧ wrap64 (d + t * (c * b - d * a) * b) = d + t * (c * b - d * a) * b := by
  have b1 := slopeB_bd h1
  have b2 := slopeB_bd h2
  have m1 := mul_bd (x := c) (y := b) 1000 1000 (by omega) (by omega)
  have m2 := mul_bd (x := d) (y := a) 1000 1000 (by omega) (by omega)
  have m3 := mul_bd (x := t) (y := c * b - d * a) 20 2000000 (by omega) (by omega)
  have m4 := mul_bd (x := t * (c * b - d * a)) (y := a) 40000000 1000 (by omega) (by omega)
  have m5 := mul_bd (x := t * (c * b - d * a)) (y := b) 40000000 1000 (by omega) (by omega)
  refine ⟨w64 (by omega) (by omega), w64 (by omega) (by omega), w64 (by omega) (by omega), w64 (by omega) (by omega), w64 (by omega) (by omega), w64 (by omega) (by omega), w64 (by omega) (by omega), w64 (by omega) (by omega)⟩

def slopeLetter (p : Int) (a n i : Nat) : Int := if i * a % n < n - a then 1 else if p < 0 then -2 else 2
def wordM (p q : Int) : List Int × Bool :=
  if slopeB p q = true ∧ (p.natAbs : Int) + q ≤ 24 then ((List.range (p.natAbs + q.toNat)).map (slopeLetter p p.natAbs (p.natAbs + q.toNat)), true) else ([], false)

/-- a loop that looks at each member and answers early, or goes on -/
theorem EV.scan {α : Type} {g : Nat → Int → Option Bool} (xs : List α) (p : α → Bool) (fin : Bool)
    (hs : ∀ (i : Nat) (h : i < xs.length) (r : Bool), (p xs[i] = true → EV (fun k => g k ((i : Int) + 1)) r) → (p xs[i] = false → r = false) → EV (fun k => g k (i : Int)) r)
    (hf : EV (fun k => g k (xs.length : Int)) fin) : EV (fun k => g k 0) (xs.all p && fin) := by
  suffices h : ∀ (n i : Nat), i + n = xs.length → EV (fun k => g k (i : Int)) ((xs.drop i).all p && fin) by
    have := h xs.length 0 (by omega)
    simpa using this
  intro n
  induction n with
  | zero =>
    intro i hi
    have e : i = xs.length := by omega
    subst e
    simpa using hf
  | succ n ih =>
    intro i hi
    have hlt : i < xs.length := by omega
    have e : xs.drop i = xs[i] :: xs.drop (i + 1) := List.drop_eq_getElem_cons hlt
    rw [e, List.all_cons]
    refine hs i hlt _ (fun hp => ?_) (fun hp => by simp [hp])
    rw [hp, Bool.true_and]
    exact_mod_cast ih (i + 1) (by omega)
/-- a fold over the members -/
theorem EV.fold {α σ ρ : Type} {g : Nat → σ → Int → Option ρ} (xs : List α) (f : σ → α → σ) (fin : σ → ρ) (I : Nat → σ → Prop)
    (hs : ∀ (i : Nat) (h : i < xs.length) (s : σ) (r : ρ), I i s → (I (i + 1) (f s xs[i]) → EV (fun k => g k (f s xs[i]) ((i : Int) + 1)) r) → EV (fun k => g k s (i : Int)) r)
    (hf : ∀ s, I xs.length s → EV (fun k => g k s (xs.length : Int)) (fin s)) : ∀ s, I 0 s → EV (fun k => g k s 0) (fin (xs.foldl f s)) := by
  suffices h : ∀ (n i : Nat), i + n = xs.length → ∀ s, I i s → EV (fun k => g k s (i : Int)) (fin ((xs.drop i).foldl f s)) by
    intro s hI
    have := h xs.length 0 (by omega) s hI
    simpa using this
  intro n
  induction n with
  | zero =>
    intro i hi s hI
    have e : i = xs.length := by omega
    subst e
    simpa using hf s hI
  | succ n ih =>
    intro i hi s hI
    have hlt : i < xs.length := by omega
    have e : xs.drop i = xs[i] :: xs.drop (i + 1) := List.drop_eq_getElem_cons hlt
    rw [e, List.foldl_cons]
    refine hs i hlt s _ hI (fun hI' => ?_)
    exact_mod_cast ih (i + 1) (by omega) _ hI'
/-- counting up to n, the state told by the count -/
theorem EV.count {σ ρ : Type} {g : Nat → σ → Int → Option ρ} (n : Nat) (f : Nat → σ) (r : ρ)
    (hs : ∀ i, i < n → EV (fun k => g k (f (i + 1)) ((i : Int) + 1)) r → EV (fun k => g k (f i) (i : Int)) r)
    (hf : EV (fun k => g k (f n) (n : Int)) r) : EV (fun k => g k (f 0) 0) r := by
  suffices h : ∀ (m i : Nat), i + m = n → EV (fun k => g k (f i) (i : Int)) r by exact h n 0 (by omega)
  intro m
  induction m with
  | zero => intro i hi; have : i = n := by omega
            subst this; exact hf
  | succ m ih => intro i hi; exact hs i (by omega) (by exact_mod_cast ih (i + 1) (by omega))
def letterB (x : Int) : Bool := decide (-8 ≤ x ∧ x ≤ 8 ∧ x ≠ 0)
def wordB (xs : List Int) : Bool := xs.all letterB && decide (xs.length ≤ 24)
theorem letterB_of {x : Int} (h : letterB x = true) : -8 ≤ x ∧ x ≤ 8 ∧ x ≠ 0 := by simpa [letterB] using h
theorem wordB_of {xs : List Int} (h : wordB xs = true) : (∀ x ∈ xs, letterB x = true) ∧ xs.length ≤ 24 := by simpa [wordB] using h
theorem all_getElem {α : Type} {p : α → Bool} {xs : List α} (h : ∀ x ∈ xs, p x = true) (i : Nat) (hi : i < xs.length) : p xs[i] = true := h _ (List.getElem_mem hi)
/-- one letter counted -/
def addL (v : List Int) (x : Int) : List Int := v.set (x.natAbs - 1) (if 0 < x then v.getD (x.natAbs - 1) 0 + 1 else v.getD (x.natAbs - 1) 0 - 1)
def sumsM (xs : List Int) : List Int := xs.foldl addL (List.replicate 8 0)
def sumsI (i : Nat) (v : List Int) : Prop := v.length = 8 ∧ ∀ j, (v.getD j 0).natAbs ≤ i
theorem sumsI_zero : sumsI 0 (List.replicate 8 0) := by
  refine ⟨rfl, fun j => ?_⟩
  rw [List.getD_eq_getElem?_getD, List.getElem?_replicate]
  split <;> simp
theorem sumsI_next {i : Nat} {v : List Int} (h : sumsI i v) (x : Int) : sumsI (i + 1) (addL v x) := by
  refine ⟨by simp [addL, h.1], fun j => ?_⟩
  have h1 := h.2 j
  have h2 := h.2 (x.natAbs - 1)
  unfold addL
  rw [List.getD_eq_getElem?_getD, List.getElem?_set]
  split
  · split
    · simp only [Option.getD_some]; split <;> omega
    · simp
  · rw [← List.getD_eq_getElem?_getD]; omega
theorem sumsM_len (xs : List Int) : (sumsM xs).length = 8 := by
  suffices h : ∀ (v : List Int), (xs.foldl addL v).length = v.length by rw [sumsM, h]; rfl
  induction xs with
  | nil => intro v; rfl
  | cons x xs ih => intro v; rw [List.foldl_cons, ih]; simp [addL]
def redStep (s : List Int) (x : Int) : List Int := if 0 < s.length ∧ s.getD (s.length - 1) 0 = -x then s.take (s.length - 1) else s ++ [x]
def redM (w : List Int) : List Int := w.foldl redStep []
theorem redStep_len (s : List Int) (x : Int) : (redStep s x).length ≤ s.length + 1 := by
  unfold redStep
  split
  · rw [List.length_take]; omega
  · simp
theorem redM_len (w : List Int) : (redM w).length ≤ w.length := by
  suffices hh : ∀ s, (w.foldl redStep s).length ≤ s.length + w.length by have := hh []; simpa [redM] using this
  induction w with
  | nil => intro s; simp
  | cons x w ih => intro s; have := ih (redStep s x); have := redStep_len s x; simp only [List.foldl_cons, List.length_cons]; omega
/-- the pieces of s between the bytes c, from i on, the running piece begun at st; n bytes are left -/
def spM (s : ByteArray) (c : Int) : Nat → Nat → Nat → List ByteArray
  | 0, st, i => [s.extract st i]
  | n + 1, st, i => if bt s (i : Int) = c then s.extract st i :: spM s c n (i + 1) (i + 1) else spM s c n st (i + 1)
def splitM (s : ByteArray) (c : Int) : List ByteArray := spM s c s.size 0 0

/-- the decimal numeral -/
def fmtM (n : Int) : ByteArray := ⟨(Lib.itoa n).toArray⟩
def bs (l : List UInt8) : ByteArray := ⟨l.toArray⟩
theorem bs_app (a b : List UInt8) : bs a ++ bs b = bs (a ++ b) := by
  apply ByteArray.ext
  simp [bs]
theorem bs_size (a : List UInt8) : (bs a).size = a.length := by simp [bs, ByteArray.size]
theorem digs_len (d : Nat) : ∀ u, 0 < u → u < 10 ^ d → (Lib.decDigits u).length ≤ d := by
  induction d with
  | zero => intro u h0 h; simp at h; omega
  | succ d ih =>
    intro u h0 h
    rw [Lib.decDigits]
    by_cases c : u < 10
    · rw [dif_pos c]; simp
    · rw [dif_neg c]
      have := ih (u / 10) (by omega) (by rw [Nat.pow_succ] at h; omega)
      simp; omega
theorem fmtM_size (n : Int) (h1 : -9223372036854775808 ≤ n) (h2 : n ≤ 9223372036854775807) : (fmtM n).size ≤ 21 := by
  have a : ∀ u : Nat, u < 10 ^ 20 → (Lib.decDigits u).length ≤ 20 := by
    intro u hu
    by_cases h : u = 0
    · subst h; rw [Lib.decDigits]; simp
    · exact digs_len 20 u (by omega) hu
  show (bs (Lib.itoa n)).size ≤ 21
  rw [bs_size]; unfold Lib.itoa
  split
  · have := a n.natAbs (by omega); simp; omega
  · have := a n.toNat (by omega); omega
theorem wrap_neg (a : Int) (h : -100 ≤ a ∧ a ≤ 100) : wrap64 (-a) = -a := w64 (by omega) (by omega)

/-- the value of a row of digits behind acc -/
def valL : List UInt8 → Nat → Option Nat
  | [], acc => some acc
  | c :: r, acc => if 48 ≤ c.toNat ∧ c.toNat ≤ 57 then valL r (10 * acc + (c.toNat - 48)) else none
theorem valL_app (a b : List UInt8) (acc : Nat) : valL (a ++ b) acc = (valL a acc).bind (fun v => valL b v) := by
  induction a generalizing acc with
  | nil => rfl
  | cons c r ih =>
    simp only [List.cons_append, valL]
    split
    · exact ih _
    · rfl
theorem valL_digs (u : Nat) : valL (Lib.decDigits u) 0 = some u := by
  induction u using Nat.strongRecOn with
  | ind u ih =>
    rw [Lib.decDigits]
    by_cases h : u < 10
    · have e : (UInt8.ofNat (48 + u)).toNat = 48 + u := by simp; omega
      rw [dif_pos h]; simp only [valL, e]
      rw [if_pos (by omega)]; congr 1; omega
    · have e : (UInt8.ofNat (48 + u % 10)).toNat = 48 + u % 10 := by simp; omega
      rw [dif_neg h, valL_app, ih (u / 10) (by omega), Option.bind_some]
      simp only [valL, e]
      rw [if_pos (by omega)]; congr 1; omega
theorem valL_lt : ∀ (l : List UInt8) (d acc v : Nat), acc < 10 ^ d → valL l acc = some v → v < 10 ^ (d + l.length)
  | [], d, acc, v, h, e => by simp only [valL, Option.some.injEq] at e; subst e; exact h
  | c :: r, d, acc, v, h, e => by
    simp only [valL] at e
    split at e
    · rename_i hc
      have := valL_lt r (d + 1) _ v (by rw [Nat.pow_succ]; omega) e
      rw [List.length_cons, show d + (r.length + 1) = d + 1 + r.length by omega]; exact this
    · cases e
theorem valL_ge : ∀ (l : List UInt8) (acc v : Nat), valL l acc = some v → acc ≤ v
  | [], acc, v, e => by simp only [valL, Option.some.injEq] at e; omega
  | c :: r, acc, v, e => by
    simp only [valL] at e
    split at e
    · have := valL_ge r _ v e; omega
    · cases e
theorem parse_val : ∀ (l : List UInt8) (acc v : Nat), valL l acc = some v → v < 1000000000000000000 → Lib.parseUint10 acc l = .ok v
  | [], acc, v, e, _ => by simp only [valL, Option.some.injEq] at e; simp only [Lib.parseUint10, e]
  | c :: r, acc, v, e, h => by
    simp only [valL] at e
    split at e
    · rename_i hc
      have g := valL_ge r _ v e
      simp only [Lib.parseUint10]
      rw [if_pos hc, if_neg (by omega), if_neg (by omega)]
      have := parse_val r _ v e h
      rw [show acc * 10 + (c.toNat - 48) = 10 * acc + (c.toNat - 48) by omega]; exact this
    · cases e
theorem digs_head (u : Nat) : ∃ c r, Lib.decDigits u = c :: r ∧ 48 ≤ c.toNat ∧ c.toNat ≤ 57 := by
  have h := valL_digs u
  cases e : Lib.decDigits u with
  | nil =>
    rw [Lib.decDigits] at e
    split at e <;> simp at e
  | cons c r =>
    rw [e] at h
    simp only [valL] at h
    split at h
    · exact ⟨c, r, rfl, by assumption⟩
    · cases h
theorem atoi_fmt (n : Int) (h1 : -999999999999 ≤ n) (h2 : n ≤ 999999999999) : Lib.atoiAll (Lib.itoa n) = .ok n := by
  unfold Lib.itoa
  by_cases h : n < 0
  · rw [if_pos h]
    obtain ⟨c, r, e, _⟩ := digs_head n.natAbs
    have p := parse_val _ 0 _ (valL_digs n.natAbs) (by omega)
    have e45 : (45 : UInt8).toNat = 45 := rfl
    simp only [Lib.atoiAll, e45]
    rw [if_pos (Or.inr trivial)]
    have pm : Lib.parseMag (Lib.decDigits n.natAbs) = .ok n.natAbs := by
      unfold Lib.parseMag
      rw [if_neg (by rw [e]; simp)]; exact p
    rw [pm]
    have g : ¬ 9223372036854775808 < n.natAbs := by omega
    simp only [not_true_eq_false, false_and, true_and, if_false, if_true, g]
    congr 1; omega
  · rw [if_neg h]
    obtain ⟨c, r, e, hc⟩ := digs_head n.toNat
    have p := parse_val _ 0 _ (valL_digs n.toNat) (by omega)
    have pm : Lib.parseMag (Lib.decDigits n.toNat) = .ok n.toNat := by
      unfold Lib.parseMag
      rw [if_neg (by rw [e]; simp)]; exact p
    rw [e] at pm ⊢
    simp only [Lib.atoiAll]
    rw [if_neg (by omega), pm]
    simp only []
    rw [if_neg (by omega), if_neg (by omega)]
    rw [if_neg (by omega)]
    congr 1; omega
/-- what a text of at most twelve digits reads as -/
def RD (s : ByteArray) (r : Int × Bool) : Prop :=
  (∃ n : Int, -999999999999 ≤ n ∧ n ≤ 999999999999 ∧ s = fmtM n ∧ r = (n, true)) ∨ ((∀ n : Int, -999999999999 ≤ n → n ≤ 999999999999 → s ≠ fmtM n) ∧ r = (0, false))
theorem bytes_eq {x y : ByteArray} (h : x.toList = y.toList) : x = y := by
  rw [ByteArray.toList_eq, ByteArray.toList_eq] at h
  exact WideShapes.bytes_inj h
/-- the reference's reading -/
def readM (s : ByteArray) : Int × Bool :=
  let neg : Bool := s.data.toList.head? == some 45
  let t := if neg = true then s.data.toList.tail else s.data.toList
  if t.length < 1 then (0, false) else if t.length > 12 then (0, false) else
  match valL t 0 with
  | none => (0, false)
  | some v => if (fmtM (if neg = true then -(v : Int) else v)).toList = s.toList then ((if neg = true then -(v : Int) else v), true) else (0, false)
theorem readM_fmt (n : Int) (h1 : -999999999999 ≤ n) (h2 : n ≤ 999999999999) : readM (fmtM n) = (n, true) := by
  have len : ∀ u : Nat, u < 10 ^ 12 → 1 ≤ (Lib.decDigits u).length ∧ (Lib.decDigits u).length ≤ 12 := by
    intro u hu
    obtain ⟨c, r, e, _⟩ := digs_head u
    refine ⟨by rw [e]; simp, ?_⟩
    by_cases h : u = 0
    · subst h; rw [Lib.decDigits]; simp
    · exact digs_len 12 u (by omega) hu
  unfold readM
  by_cases h : n < 0
  · have e : (fmtM n).data.toList = 45 :: Lib.decDigits n.natAbs := by simp [fmtM, Lib.itoa, h]
    have l := len n.natAbs (by omega)
    simp only [e, List.head?_cons, beq_self_eq_true, if_true, List.tail_cons, valL_digs]
    rw [if_neg (by omega), if_neg (by omega)]
    rw [show -((n.natAbs : Nat) : Int) = n by omega, if_pos rfl]
  · have e : (fmtM n).data.toList = Lib.decDigits n.toNat := by simp [fmtM, Lib.itoa, h]
    have l := len n.toNat (by omega)
    obtain ⟨c, r, e2, hc⟩ := digs_head n.toNat
    have hneg : ((Lib.decDigits n.toNat).head? == some 45) = false := by
      rw [e2]
      simp only [List.head?_cons, beq_eq_false_iff_ne, ne_eq, Option.some.injEq]
      intro h; rw [h] at hc; simp at hc
    simp only [e, hneg, valL_digs, Bool.false_eq_true, ↓reduceIte]
    rw [if_neg (by omega), if_neg (by omega)]
    rw [show ((n.toNat : Nat) : Int) = n by omega, if_pos rfl]
theorem readM_RD (s : ByteArray) : RD s (readM s) := by
  by_cases h : ∃ n : Int, -999999999999 ≤ n ∧ n ≤ 999999999999 ∧ s = fmtM n
  · obtain ⟨n, h1, h2, rfl⟩ := h
    exact .inl ⟨n, h1, h2, rfl, readM_fmt n h1 h2⟩
  · have no : ∀ n : Int, -999999999999 ≤ n → n ≤ 999999999999 → s ≠ fmtM n := fun n a b e => h ⟨n, a, b, e⟩
    refine .inr ⟨no, ?_⟩
    unfold readM
    simp only []
    generalize (if (s.data.toList.head? == some 45) = true then s.data.toList.tail else s.data.toList) = t
    generalize (s.data.toList.head? == some 45) = neg
    split
    · rfl
    · split
      · rfl
      · cases hv : valL t 0 with
        | none => rfl
        | some v =>
          have b := valL_lt t 0 0 v (by decide) hv
          have b2 : 10 ^ (0 + t.length) ≤ 10 ^ 12 := Nat.pow_le_pow_right (by decide) (by omega)
          have hv2 : v ≤ 999999999999 := by omega
          simp only []
          rw [if_neg]
          intro e
          exact no (if neg = true then -(v : Int) else v) (by split <;> omega) (by split <;> omega) (bytes_eq e).symm

def parseSlopeM (s : ByteArray) : Int × Int × Bool :=
  let l := splitM s 47
  if l.length = 2 then
    let a := readM (rdOf ByteArray.empty l 0)
    let b := readM (rdOf ByteArray.empty l 1)
    if a.2 = true then (if b.2 = true then (if slopeB a.1 b.1 = true then (a.1, b.1, true) else (0, 0, false)) else (0, 0, false)) else (0, 0, false)
  else (0, 0, false)

def slopeTextM (p q : Int) : ByteArray := if slopeB p q = true then (fmtM p ++ (⟨#[47]⟩ : ByteArray)) ++ fmtM q else ⟨#[]⟩
theorem slopeB_pq {p q : Int} (h : slopeB p q = true) : -1000 ≤ p ∧ p ≤ 1000 ∧ 0 ≤ q ∧ q ≤ 1000 := by
  unfold slopeB at h; simp at h; omega
theorem app_size (a b : ByteArray) : (a ++ b).size = a.size + b.size := ByteArray.size_append

/-! ### slopes: what the law asks of their numbers -/
theorem gcd_dvd (p q : Int) : ((Nat.gcd p.natAbs q.natAbs : Nat) : Int) ∣ p ∧ ((Nat.gcd p.natAbs q.natAbs : Nat) : Int) ∣ q :=
  ⟨Int.ofNat_dvd_left.2 (Nat.gcd_dvd_left ..), Int.ofNat_dvd_left.2 (Nat.gcd_dvd_right ..)⟩
theorem gcd_one {p q x y : Int} (h : (p * y - q * x).natAbs = 1) : Nat.gcd p.natAbs q.natAbs = 1 := by
  obtain ⟨h1, h2⟩ := gcd_dvd p q
  have h3 : ((Nat.gcd p.natAbs q.natAbs : Nat) : Int) ∣ p * y - q * x := Int.dvd_sub (Int.dvd_mul_of_dvd_left h1) (Int.dvd_mul_of_dvd_left h2)
  have h4 := Int.ofNat_dvd_left.1 h3
  rw [h] at h4
  exact Nat.dvd_one.1 h4
theorem slope_prim {p q : Int} (hp : -1000 ≤ p ∧ p ≤ 1000) (hq : -1000 ≤ q ∧ q ≤ 1000) (hg : Nat.gcd p.natAbs q.natAbs = 1) : ∃ s : Int, (s = 1 ∨ s = -1) ∧ slopeOfM p q = (s * p, s * q, true) ∧ slopeB (s * p) (s * q) = true := by
  have hz : ¬ (p = 0 ∧ q = 0) := by rintro ⟨rfl, rfl⟩; simp at hg
  unfold slopeOfM
  rw [if_pos hp, if_pos hq, if_neg hz]
  unfold lowM
  simp only [hg]
  by_cases c : q < 0 ∨ q = 0 ∧ p < 0
  · refine ⟨-1, .inr rfl, by rw [if_pos c]; simp, ?_⟩
    simp only [slopeB, Bool.and_eq_true, Bool.or_eq_true, decide_eq_true_eq]
    refine ⟨by omega, by omega, by simpa using hg, ?_⟩
    by_cases hq0 : q = 0
    · right; subst hq0; simp at hg; omega
    · left; omega
  · refine ⟨1, .inl rfl, by rw [if_neg c]; simp, ?_⟩
    simp only [slopeB, Bool.and_eq_true, Bool.or_eq_true, decide_eq_true_eq]
    refine ⟨by omega, by omega, by simpa using hg, ?_⟩
    by_cases hq0 : q = 0
    · right; subst hq0; simp at hg; omega
    · left; omega
theorem slope_low {p q : Int} (h : slopeB p q = true) : slopeOfM p q = (p, q, true) := by
  have b := slopeB_bd h
  unfold slopeOfM
  rw [if_pos (by omega), if_pos (by omega), if_neg (by omega)]
  unfold lowM
  simp only [b.2.2.2.2.1]
  rw [if_neg (by omega)]
  simp
theorem slope_ok {p q : Int} (h : (slopeOfM p q).2.2 = true) : slopeB (slopeOfM p q).1 (slopeOfM p q).2.1 = true := by
  unfold slopeOfM at h ⊢
  split
  · rename_i hp
    split
    · rename_i hq
      split
      · rename_i hz; rw [if_pos hp, if_pos hq, if_pos hz] at h; cases h
      · rename_i hz
        obtain ⟨d, a, b, e, d0, d1, e1, e2, ep, eq, a0, a1, b0, b1, s1, s2, s3⟩ := low_of p q hp hq hz
        have hg : Nat.gcd a.natAbs b.natAbs = 1 := by
          have k : Nat.gcd p.natAbs q.natAbs = d.natAbs * Nat.gcd a.natAbs b.natAbs := by
            rw [ep, eq, Int.natAbs_mul, Int.natAbs_mul, Nat.gcd_mul_left]
          have k2 : Nat.gcd p.natAbs q.natAbs = d.natAbs := by omega
          rw [k2] at k
          exact Nat.eq_of_mul_eq_mul_left (show 0 < d.natAbs by omega) (by omega)
        unfold lowM
        simp only [e, e1, e2]
        by_cases c : q < 0 ∨ q = 0 ∧ p < 0
        · rw [if_pos c]
          simp only [slopeB, Bool.and_eq_true, Bool.or_eq_true, decide_eq_true_eq]
          refine ⟨by omega, by omega, by simpa using hg, ?_⟩
          by_cases hb : b = 0
          · right; subst hb; simp at hg; omega
          · left; omega
        · rw [if_neg c]
          simp only [slopeB, Bool.and_eq_true, Bool.or_eq_true, decide_eq_true_eq]
          refine ⟨by omega, by omega, hg, ?_⟩
          by_cases hb : b = 0
          · right; subst hb; simp at hg; omega
          · left; omega
    · rename_i hq; rw [if_pos hp, if_neg hq] at h; cases h
  · rename_i hp; rw [if_neg hp] at h; cases h
theorem cross_symm (a b c d : Int) : crossM a b c d = crossM c d a b := by
  unfold crossM
  by_cases h : slopeB a b = true ∧ slopeB c d = true
  · rw [if_pos h, if_pos h.symm]
    rw [Int.mul_comm c b, Int.mul_comm d a]; omega
  · rw [if_neg h, if_neg (fun k => h k.symm)]
theorem cross_self {a b : Int} (h : slopeB a b = true) : crossM a b a b = 0 := by
  unfold crossM
  rw [if_pos ⟨h, h⟩, Int.mul_comm b a]; omega
theorem abs_sign {s x : Int} (hs : s = 1 ∨ s = -1) : (s * x).natAbs = x.natAbs := by
  rcases hs with rfl | rfl <;> simp
theorem sum_cross {a b c d : Int} (h : (sumM a b c d).2.2 = true) : crossM (sumM a b c d).1 (sumM a b c d).2.1 a b = 1 ∧ crossM (sumM a b c d).1 (sumM a b c d).2.1 c d = 1 := by
  unfold sumM at h ⊢
  by_cases hc : crossM a b c d = 1
  · rw [if_pos hc] at h ⊢
    obtain ⟨h1, h2⟩ := cross_one hc
    have hd : (a * d - b * c).natAbs = 1 := by
      unfold crossM at hc
      rw [if_pos ⟨h1, h2⟩] at hc; omega
    have e1 : (a + c) * b - (b + d) * a = b * c - a * d := by
      rw [Int.add_mul, Int.add_mul, Int.mul_comm c b, Int.mul_comm d a, Int.mul_comm b a]; omega
    have e2 : (a + c) * d - (b + d) * c = a * d - b * c := by
      rw [Int.add_mul, Int.add_mul, Int.mul_comm d c]; omega
    have hp : -1000 ≤ a + c ∧ a + c ≤ 1000 := by
      unfold slopeOfM at h
      split at h
      · assumption
      · cases h
    have hq : -1000 ≤ b + d ∧ b + d ≤ 1000 := by
      unfold slopeOfM at h
      rw [if_pos hp] at h
      split at h
      · assumption
      · cases h
    obtain ⟨s, hs, es, hb⟩ := slope_prim hp hq (gcd_one (x := a) (y := b) (by rw [e1]; omega))
    rw [es]
    dsimp only
    unfold crossM
    rw [if_pos ⟨hb, h1⟩, if_pos ⟨hb, h2⟩, Int.mul_assoc, Int.mul_assoc, ← Int.mul_sub, abs_sign hs, Int.mul_assoc, Int.mul_assoc, ← Int.mul_sub, abs_sign hs, e1, e2]
    omega
  · rw [if_neg hc] at h; cases h
theorem twist_zero {a b c d : Int} (h1 : slopeB a b = true) (h2 : slopeB c d = true) : twistSM a b c d 0 = (c, d, true) := by
  unfold twistSM
  rw [if_pos ⟨h1, h2, by decide, by decide⟩]
  simp only [Int.zero_mul, Int.add_zero]
  exact slope_low h2
theorem twist_slopes {a b c d t : Int} (h : (twistSM a b c d t).2.2 = true) : slopeB a b = true ∧ slopeB c d = true ∧ -20 ≤ t ∧ t ≤ 20 := by
  unfold twistSM at h
  split at h
  · assumption
  · cases h
theorem twist_cross {a b c d t : Int} (h : (twistSM a b c d t).2.2 = true) : crossM a b (twistSM a b c d t).1 (twistSM a b c d t).2.1 = crossM a b c d ∧
    crossM (twistSM a b c d t).1 (twistSM a b c d t).2.1 c d = (t.natAbs : Int) * crossM a b c d * crossM a b c d := by
  obtain ⟨h1, h2, ht⟩ := twist_slopes h
  unfold twistSM at h ⊢
  rw [if_pos ⟨h1, h2, ht⟩] at h ⊢
  generalize hD : c * b - d * a = D at *
  generalize hm : t * D = m at *
  have hp : -1000 ≤ c + m * a ∧ c + m * a ≤ 1000 := by
    unfold slopeOfM at h
    split at h
    · assumption
    · cases h
  have hq : -1000 ≤ d + m * b ∧ d + m * b ≤ 1000 := by
    unfold slopeOfM at h
    rw [if_pos hp] at h
    split at h
    · assumption
    · cases h
  have e1 : (c + m * a) * b - (d + m * b) * a = D := by
    rw [Int.add_mul, Int.add_mul, Int.mul_assoc, Int.mul_assoc, Int.mul_comm b a]; omega
  have hg : Nat.gcd (c + m * a).natAbs (d + m * b).natAbs = 1 := by
    obtain ⟨g1, g2⟩ := gcd_dvd (c + m * a) (d + m * b)
    generalize Nat.gcd (c + m * a).natAbs (d + m * b).natAbs = G at *
    have g3 : (G : Int) ∣ D := by rw [← e1]; exact Int.dvd_sub (Int.dvd_mul_of_dvd_left g1) (Int.dvd_mul_of_dvd_left g2)
    have g4 : (G : Int) ∣ m := by rw [← hm]; exact Int.dvd_mul_of_dvd_right g3
    have g5 : (G : Int) ∣ c := by
      have := Int.dvd_sub g1 (Int.dvd_mul_of_dvd_left (b := m) (c := a) g4)
      rwa [Int.add_sub_cancel] at this
    have g6 : (G : Int) ∣ d := by
      have := Int.dvd_sub g2 (Int.dvd_mul_of_dvd_left (b := m) (c := b) g4)
      rwa [Int.add_sub_cancel] at this
    have g7 : G ∣ Nat.gcd c.natAbs d.natAbs := Nat.dvd_gcd (Int.ofNat_dvd_left.1 g5) (Int.ofNat_dvd_left.1 g6)
    rw [(slopeB_bd h2).2.2.2.2.1] at g7
    exact Nat.dvd_one.1 g7
  obtain ⟨s, hs, es, hb⟩ := slope_prim hp hq hg
  rw [es]
  dsimp only
  have eD : (a * d - b * c).natAbs = D.natAbs := by rw [← hD, Int.mul_comm c b, Int.mul_comm d a]; omega
  unfold crossM
  rw [if_pos ⟨h1, hb⟩, if_pos ⟨h1, h2⟩, if_pos ⟨hb, h2⟩]
  constructor
  · rw [Int.mul_left_comm, Int.mul_left_comm b, ← Int.mul_sub, abs_sign hs, Int.mul_comm a, Int.mul_comm b (c + m * a), eD]
    omega
  · rw [Int.mul_assoc, Int.mul_assoc, ← Int.mul_sub, abs_sign hs]
    have e2 : (c + m * a) * d - (d + m * b) * c = m * (a * d - b * c) := by
      rw [Int.add_mul, Int.add_mul, Int.mul_assoc, Int.mul_assoc, Int.mul_comm d c, Int.mul_sub]; omega
    rw [e2, Int.natAbs_mul, ← hm, Int.natAbs_mul, eD]
    simp only [Int.natCast_mul]
/-- the letters of a slope's word, checked -/
def wordOK (p q : Int) : Bool :=
  let w := (List.range (p.natAbs + q.toNat)).map (slopeLetter p p.natAbs (p.natAbs + q.toNat))
  decide ((sumsM w).getD 0 0 = q) && (decide ((sumsM w).getD 1 0 = p) && (wordB w && (decide (redM w = w) && !decide (2 ≤ w.length ∧ w.getD 0 0 = -(w.getD (w.length - 1) 0)))))
theorem words_ok : ∀ a : Nat, a < 25 → ∀ q : Nat, q < 25 - a → (slopeB (a : Int) (q : Int) = true → wordOK (a : Int) (q : Int) = true) ∧ (slopeB (-(a : Int)) (q : Int) = true → wordOK (-(a : Int)) (q : Int) = true) := by decide +kernel
theorem word_ok {p q : Int} (h : (wordM p q).2 = true) : slopeB p q = true ∧ (sumsM (wordM p q).1).getD 0 0 = q ∧ (sumsM (wordM p q).1).getD 1 0 = p ∧ ((wordM p q).1.length : Int) = q + p.natAbs ∧ wordB (wordM p q).1 = true ∧
    redM (wordM p q).1 = (wordM p q).1 ∧ ¬ (2 ≤ (wordM p q).1.length ∧ (wordM p q).1.getD 0 0 = -((wordM p q).1.getD ((wordM p q).1.length - 1) 0)) := by
  unfold wordM at h ⊢
  split
  · rename_i hc
    have b := slopeB_bd hc.1
    have k : wordOK p q = true := by
      have w := words_ok p.natAbs (by omega) q.toNat (by omega)
      have eq : ((q.toNat : Nat) : Int) = q := by omega
      rw [eq] at w
      by_cases hp : 0 ≤ p
      · have ep : ((p.natAbs : Nat) : Int) = p := by omega
        rw [ep] at w; exact w.1 hc.1
      · have ep : -((p.natAbs : Nat) : Int) = p := by omega
        rw [ep] at w; exact w.2 hc.1
    simp only [wordOK, Bool.and_eq_true, decide_eq_true_eq, Bool.not_eq_true', decide_eq_false_iff_not] at k
    exact ⟨hc.1, k.1, k.2.1, by simp; omega, k.2.2.1, k.2.2.2.1, k.2.2.2.2⟩
  · rename_i hc; rw [if_neg hc] at h; cases h
/-! ### the text of a slope is read back -/
theorem bt_bs (l : List UInt8) (i : Nat) : bt (bs l) (i : Int) = ((l.getD i 0).toNat : Int) := by
  unfold bt
  have hs : (bs l).size = l.length := bs_size l
  by_cases h : i < l.length
  · rw [dif_pos (by rw [hs]; simpa using h)]
    have : (bs l)[(i : Int).toNat]'(by rw [hs]; simpa using h) = l[i] := by
      simp [bs, ByteArray.getElem_eq_getElem_data]
    rw [this]
    simp [h]
  · rw [dif_neg (by rw [hs]; simpa using h)]
    simp [List.getElem?_eq_none (show l.length ≤ i by omega)]
theorem ext_bs (l : List UInt8) (i j : Nat) : (bs l).extract i j = bs ((l.take j).drop i) := by
  apply ByteArray.ext
  simp [bs, ByteArray.data_extract, List.drop_take]
theorem sp_no (c : Int) : ∀ (l pre : List UInt8) (st : Nat), (∀ b ∈ l, (b.toNat : Int) ≠ c) → spM (bs (pre ++ l)) c l.length st pre.length = [(bs (pre ++ l)).extract st (pre.length + l.length)]
  | [], pre, st, _ => by simp [spM]
  | b :: l, pre, st, h => by
    have ih := sp_no c l (pre ++ [b]) st (fun x hx => h x (List.mem_cons_of_mem _ hx))
    have e : pre ++ [b] ++ l = pre ++ b :: l := by simp
    have el : (pre ++ [b]).length = pre.length + 1 := by simp
    rw [e, el] at ih
    have eb : bt (bs (pre ++ b :: l)) ((pre.length : Nat) : Int) = (b.toNat : Int) := by
      rw [bt_bs, List.getD_eq_getElem?_getD, List.getElem?_append_right (by omega)]; simp
    rw [List.length_cons, spM, eb, if_neg (h b List.mem_cons_self), ih]
    congr 2; omega
theorem sp_hit (c : UInt8) (l2 : List UInt8) : ∀ (l1 pre : List UInt8) (st : Nat), (∀ b ∈ l1, (b.toNat : Int) ≠ (c.toNat : Int)) →
    spM (bs (pre ++ (l1 ++ c :: l2))) (c.toNat : Int) (l1.length + 1 + l2.length) st pre.length = (bs (pre ++ (l1 ++ c :: l2))).extract st (pre.length + l1.length) :: spM (bs (pre ++ (l1 ++ c :: l2))) (c.toNat : Int) l2.length (pre.length + l1.length + 1) (pre.length + l1.length + 1)
  | [], pre, st, _ => by
    have eb : bt (bs (pre ++ ([] ++ c :: l2))) ((pre.length : Nat) : Int) = (c.toNat : Int) := by
      rw [bt_bs, List.getD_eq_getElem?_getD, List.getElem?_append_right (by omega)]; simp
    rw [show ([] : List UInt8).length + 1 + l2.length = l2.length + 1 by simp; omega, spM, eb, if_pos rfl]
    simp
  | b :: l1, pre, st, h => by
    have ih := sp_hit c l2 l1 (pre ++ [b]) st (fun x hx => h x (List.mem_cons_of_mem _ hx))
    have e : pre ++ [b] ++ (l1 ++ c :: l2) = pre ++ (b :: l1 ++ c :: l2) := by simp
    have el : (pre ++ [b]).length = pre.length + 1 := by simp
    rw [e, el] at ih
    have eb : bt (bs (pre ++ (b :: l1 ++ c :: l2))) ((pre.length : Nat) : Int) = (b.toNat : Int) := by
      rw [bt_bs, List.getD_eq_getElem?_getD, List.getElem?_append_right (by omega)]; simp
    rw [show (b :: l1).length + 1 + l2.length = (l1.length + 1 + l2.length) + 1 by simp; omega, spM, eb, if_neg (h b List.mem_cons_self), ih]
    rw [show pre.length + (b :: l1).length = pre.length + 1 + l1.length by simp; omega]
theorem split_two {l1 l2 : List UInt8} (h1 : ∀ b ∈ l1, b ≠ 47) (h2 : ∀ b ∈ l2, b ≠ 47) : splitM (bs (l1 ++ 47 :: l2)) 47 = [bs l1, bs l2] := by
  have ne : ∀ b : UInt8, b ≠ 47 → (b.toNat : Int) ≠ ((47 : UInt8).toNat : Int) := fun b hb e => hb (by
    have : b.toNat = (47 : UInt8).toNat := by omega
    exact UInt8.toNat_inj.1 this)
  have a := sp_hit 47 l2 l1 [] 0 (fun b hb => ne b (h1 b hb))
  have c := sp_no ((47 : UInt8).toNat : Int) l2 (l1 ++ [47]) (l1.length + 1) (fun b hb => ne b (h2 b hb))
  have e : (l1 ++ [47]) ++ l2 = l1 ++ 47 :: l2 := by simp
  have el : (l1 ++ [(47 : UInt8)]).length = l1.length + 1 := by simp
  rw [e, el] at c
  simp only [List.nil_append, List.length_nil, Nat.zero_add] at a
  have sz : (bs (l1 ++ 47 :: l2)).size = l1.length + 1 + l2.length := by rw [bs_size]; simp; omega
  show spM (bs (l1 ++ 47 :: l2)) ((47 : UInt8).toNat : Int) (bs (l1 ++ 47 :: l2)).size 0 0 = _
  rw [sz, a, c, ext_bs, ext_bs]
  congr 2
  · simp
  · congr 1
    rw [show l1 ++ (47 : UInt8) :: l2 = (l1 ++ [47]) ++ l2 by simp, List.take_of_length_le (by simp; omega), List.drop_left' (by simp)]
theorem valL_dig : ∀ (l : List UInt8) (acc v : Nat), valL l acc = some v → ∀ b ∈ l, 48 ≤ b.toNat
  | [], _, _, _, b, hb => absurd hb (by simp)
  | c :: r, acc, v, e, b, hb => by
    simp only [valL] at e
    split at e
    · rename_i hc
      rcases List.mem_cons.1 hb with rfl | hb
      · exact hc.1
      · exact valL_dig r _ v e b hb
    · cases e
theorem itoa_no (n : Int) : ∀ b ∈ Lib.itoa n, b ≠ 47 := by
  have d : ∀ u : Nat, ∀ b ∈ Lib.decDigits u, b ≠ 47 := fun u b hb e => by
    have := valL_dig _ _ _ (valL_digs u) b hb
    rw [e] at this; exact absurd this (by decide)
  intro b hb
  unfold Lib.itoa at hb
  split at hb
  · rcases List.mem_cons.1 hb with rfl | hb
    · decide
    · exact d _ b hb
  · exact d _ b hb
theorem parse_text {p q : Int} (h : slopeB p q = true) : parseSlopeM (slopeTextM p q) = (p, q, true) := by
  have b := slopeB_bd h
  have e : slopeTextM p q = bs (Lib.itoa p ++ 47 :: Lib.itoa q) := by
    unfold slopeTextM
    rw [if_pos h]
    show (bs (Lib.itoa p) ++ bs [47]) ++ bs (Lib.itoa q) = _
    rw [bs_app, bs_app]; simp
  unfold parseSlopeM
  rw [e, split_two (itoa_no p) (itoa_no q)]
  have r1 : rdOf ByteArray.empty [bs (Lib.itoa p), bs (Lib.itoa q)] 0 = fmtM p := rfl
  have r2 : rdOf ByteArray.empty [bs (Lib.itoa p), bs (Lib.itoa q)] 1 = fmtM q := rfl
  simp only [r1, r2, readM_fmt p (by omega) (by omega), readM_fmt q (by omega) (by omega), h, List.length_cons, List.length_nil, if_true]
theorem parse_none {p q : Int} (h : slopeB p q ≠ true) : parseSlopeM (slopeTextM p q) = (0, 0, false) := by
  unfold slopeTextM
  rw [if_neg h]
  decide +kernel

theorem laws_big_no (l : List Int) (h : ¬ (l.length : Int) > 1048576) : laws_big.f l = some false := by
  unfold laws_big.f; rw [decide_eq_false h]

theorem spec_l1In_is (a b c : Int) : spec_l1In.f a b c = some (decide (b ≤ a ∧ a ≤ c)) := by
  unfold spec_l1In.f
  by_cases h : a ≥ b
  · rw [if_pos h]; simp [show b ≤ a from h]
  · rw [if_neg h]; simp; omega

theorem spec_l1Max_is (a b : Int) : spec_l1Max.f a b = some (if a > b then a else b) := by
  unfold spec_l1Max.f; split <;> rfl

theorem spec_l3Abs_is (a : Int) (h : -9223372036854775808 < a) (h' : a ≤ 9223372036854775807) : spec_l3Abs.f a = some (a.natAbs : Int) := by
  unfold spec_l3Abs.f
  rw [spec_l1Max_is, w64 (by omega) (by omega)]
  simp only [Option.bind_some]
  congr 1
  split <;> omega

theorem spec_l11Gcd_l0 (n : Nat) : ∀ a b : Int, b.natAbs ≤ n → a.natAbs ≤ 9223372036854775807 → b.natAbs ≤ 9223372036854775807 → EV (fun k => spec_l11Gcd.l0 k a b) ((Nat.gcd a.natAbs b.natAbs : Nat) : Int) := by
  induction n with
  | zero =>
    intro a b hb h1 h2
    obtain rfl : b = 0 := by omega
    refine EV.step (fun k => by rw [spec_l11Gcd.l0]) ?_
    refine EV.pos rfl (EV.by (spec_l3Abs_is a (by omega) (by omega)) ((EV.now _).eq (by simp)))
  | succ n ih =>
    intro a b hb h1 h2
    refine EV.step (fun k => by rw [spec_l11Gcd.l0]) ?_
    by_cases h : b = 0
    · subst h
      exact EV.pos rfl (EV.by (spec_l3Abs_is a (by omega) (by omega)) ((EV.now _).eq (by simp)))
    · have hm := tmod_lt a b h
      refine EV.neg h ((ih b (Int.tmod a b) (by omega) (by omega) (by omega)).eq ?_)
      rw [gcd_step]
theorem spec_l11Gcd_is (a b : Int) (h1 : a.natAbs ≤ 9223372036854775807) (h2 : b.natAbs ≤ 9223372036854775807) : EV (fun k => spec_l11Gcd.f k a b) ((Nat.gcd a.natAbs b.natAbs : Nat) : Int) :=
  spec_l11Gcd_l0 b.natAbs a b (Nat.le_refl _) h1 h2

theorem spec_SlopeOf_is (p q : Int) : EV (fun k => spec_SlopeOf.f k p q) (slopeOfM p q) := by
  have no : ∀ p q : Int, EV (fun k => spec_SlopeOf.j0 k p q true) (0, 0, false) := fun p q => by
    refine EV.step (fun k => by rw [spec_SlopeOf.j0]) ?_
    exact EV.pos rfl (EV.now _)
  unfold slopeOfM
  refine EV.by (spec_l1In_is _ _ _) ?_
  by_cases hp : -1000 ≤ p ∧ p ≤ 1000
  · refine EV.pos (by simpa using hp) (EV.by (spec_l1In_is _ _ _) ?_)
    rw [if_pos hp]
    by_cases hq : -1000 ≤ q ∧ q ≤ 1000
    · rw [if_pos hq]
      refine EV.pos (by simpa using hq) ?_
      by_cases hz : p = 0 ∧ q = 0
      · rw [if_pos hz]
        obtain ⟨rfl, rfl⟩ := hz
        exact EV.pos rfl (no 0 0)
      · rw [if_neg hz]
        have main : EV (fun k => spec_SlopeOf.j0 k p q false) ((lowM p q).1, (lowM p q).2, true) := by
          obtain ⟨d, a, b, hd, d0, d1, ea, eb, _, _, a1, a2, b1, b2, sb, _, sa⟩ := low_of p q hp hq hz
          have e3 : p.tdiv (-d) = -a := by rw [Int.tdiv_neg, ea]
          have e4 : q.tdiv (-d) = -b := by rw [Int.tdiv_neg, eb]
          refine EV.step (fun k => by rw [spec_SlopeOf.j0]) ?_
          refine EV.neg (by simp) (EV.bind (spec_l11Gcd_is p q (by omega) (by omega)) ?_)
          unfold lowM
          simp only [hd, ea, eb, w64 (x := -d) (by omega) (by omega), e3, e4]
          rw [w64 (x := -a) (by omega) (by omega), w64 (x := -b) (by omega) (by omega), w64 (x := a) (by omega) (by omega), w64 (x := b) (by omega) (by omega)]
          by_cases hn : q < 0
          · refine EV.pos hn (EV.neg (by omega) ((EV.now _).eq ?_))
            rw [if_pos (Or.inl hn)]
          · refine EV.neg hn ?_
            by_cases h0 : q = 0
            · refine EV.pos h0 ?_
              by_cases hm : p < 0
              · refine EV.pos hm (EV.neg (by omega) ((EV.now _).eq ?_))
                rw [if_pos (Or.inr ⟨h0, hm⟩)]
              · refine EV.neg hm (EV.neg (by omega) ((EV.now _).eq ?_))
                rw [if_neg (by omega)]
            · refine EV.neg h0 (EV.neg (by omega) ((EV.now _).eq ?_))
              rw [if_neg (by omega)]
        by_cases h0 : p = 0
        · refine EV.pos h0 ?_
          have : (q == 0) = false := by simp; omega
          rw [this]; exact main
        · exact EV.neg h0 main
    · rw [if_neg hq]
      exact EV.neg (by simpa using hq) (no p q)
  · rw [if_neg hp]
    exact EV.neg (by simpa using hp) (no p q)

theorem spec_IsSlope_is (p q : Int) : EV (fun k => spec_IsSlope.f k p q) (slopeB p q) := by
  unfold slopeB
  refine EV.by (spec_l1In_is _ _ _) ?_
  by_cases hp : -1000 ≤ p ∧ p ≤ 1000
  · refine EV.pos (by simpa using hp) (EV.by (spec_l1In_is _ _ _) ?_)
    by_cases hq : 0 ≤ q ∧ q ≤ 1000
    · refine EV.pos (by simpa using hq) ?_
      have G := spec_l11Gcd_is p q (by omega) (by omega)
      by_cases h0 : q = 0
      · refine EV.pos h0 ?_
        by_cases h1 : p = 1
        · refine EV.pos h1 (EV.bind G ((EV.now _).eq ?_))
          subst h1; subst h0; decide
        · exact EV.neg h1 ((EV.now _).eq (by simp [h0, h1]))
      · refine EV.neg h0 (EV.bind G ((EV.now _).eq ?_))
        have hq' : 0 < q := by omega
        simp only [hp, hq, hq', decide_true, Bool.true_and, Bool.true_or, Bool.and_true, and_self]
        rw [Bool.eq_iff_iff]; simp; omega
    · exact EV.neg (by simpa using hq) ((EV.now _).eq (by simp [hq]))
  · exact EV.neg (by simpa using hp) ((EV.now _).eq (by simp [hp]))

theorem spec_TwistSlope_is (a b c d t : Int) : EV (fun k => spec_TwistSlope.f k a b c d t) (twistSM a b c d t) := by
  unfold twistSM
  refine EV.bind (spec_IsSlope_is a b) ?_
  by_cases h1 : slopeB a b = true
  · refine EV.pos h1 (EV.bind (spec_IsSlope_is c d) ?_)
    by_cases h2 : slopeB c d = true
    · refine EV.pos h2 (EV.by (spec_l1In_is _ _ _) ?_)
      by_cases h3 : -20 ≤ t ∧ t ≤ 20
      · rw [if_pos ⟨h1, h2, h3⟩]
        obtain ⟨e1, e2, e3, e4, e5, e6, e7, e8⟩ := twist_w h1 h2 h3
        rw [e1, e2, e3, e4, e5, e6, e7, e8]
        exact EV.pos (by simpa using h3) (EV.bind (spec_SlopeOf_is _ _) (EV.now _))
      · rw [if_neg (fun h => h3 h.2.2)]
        exact EV.neg (by simpa using h3) (EV.now _)
    · rw [if_neg (fun h => h2 h.2.1)]
      exact EV.neg h2 (EV.now _)
  · rw [if_neg (fun h => h1 h.1)]
    exact EV.neg h1 (EV.now _)

theorem spec_l1New_l0 (b : List Int) (hb : b.length ≤ 1048576) : ∀ (n i : Nat) (x : Int), i + n = b.length → ∃ h, EV (fun k => spec_l1New.l0 k b x (i : Int)) (b, 0, h)
  | 0, i, x, hi => ⟨x, EV.step (fun k => by rw [spec_l1New.l0]) (EV.neg (by omega) (EV.now _))⟩
  | n + 1, i, x, hi => by
    by_cases h4 : (i : Int) < 4000
    · obtain ⟨h, H⟩ := spec_l1New_l0 b hb n (i + 1) (Go.bits .and .i64 (wrap64 ((wrap64 ((wrap64 (x * 131)) + (wrap64 (rd b (i : Int))))) + 7)) 1073741823) (by omega)
      refine ⟨h, EV.step (fun k => by rw [spec_l1New.l0]) (EV.pos (by omega) (EV.pos h4 (EV.pos (by omega) ?_)))⟩
      rw [w64 (x := (i : Int) + 1) (by omega) (by omega)]
      rw [show ((i + 1 : Nat) : Int) = (i : Int) + 1 by omega] at H
      exact H
    · exact ⟨x, EV.step (fun k => by rw [spec_l1New.l0]) (EV.pos (by omega) (EV.neg h4 (EV.now _)))⟩
theorem spec_l1New_is (b : List Int) (hb : b.length ≤ 1048576) : ∃ h, EV (fun k => spec_l1New.f k b) (b, 0, h) :=
  spec_l1New_l0 b hb b.length 0 _ (by omega)

theorem and255 (x : Int) : 0 ≤ Go.bits .and .i64 x 255 ∧ Go.bits .and .i64 x 255 ≤ 255 := by
  have h : (BitVec.ofInt 64 x &&& BitVec.ofInt 64 255).toNat ≤ 255 := by
    rw [BitVec.toNat_and]; exact Nat.le_trans Nat.and_le_right (by decide)
  have e : Go.bits .and .i64 x 255 = IntKind.i64.wrap (((BitVec.ofInt 64 x &&& BitVec.ofInt 64 255).toNat : Nat) : Int) := rfl
  rw [e, IntKind.wrap_i64]
  omega

theorem spec_l1Byte_is (b : List Int) (i h : Int) (hb : b.length ≤ 1048576) (hi : 0 ≤ i) : ∃ x i' h', spec_l1Byte.f b i h = some (x, i', h') ∧ 0 ≤ x ∧ x ≤ 255 ∧ 0 ≤ i' := by
  unfold spec_l1Byte.f
  by_cases hc : i < (b.length : Int)
  · rw [if_pos hc, if_pos hi, w64 (x := i + 1) (by omega) (by omega)]
    exact ⟨_, _, _, rfl, (and255 _).1, (and255 _).2, by omega⟩
  · rw [if_neg hc]
    exact ⟨_, _, _, rfl, (and255 _).1, (and255 _).2, hi⟩

theorem spec_l1Below_is (b : List Int) (i h n : Int) (hb : b.length ≤ 1048576) (hi : 0 ≤ i) (h1 : 0 < n) (h2 : n ≤ 256) : ∃ x i' h', spec_l1Below.f b i h n = some (x, i', h') ∧ 0 ≤ x ∧ x < n ∧ 0 ≤ i' := by
  obtain ⟨x, i', h', e, a, c, d⟩ := spec_l1Byte_is b i h hb hi
  unfold spec_l1Below.f
  rw [if_neg (by omega), if_pos h2, e]
  simp only [Option.bind_some]
  rw [if_neg (by omega)]
  refine ⟨_, _, _, rfl, ?_, ?_, d⟩
  · exact Int.tmod_nonneg _ a
  · exact Int.tmod_lt_of_pos _ h1

theorem spec_l1Once_is (b : List Int) (i h n : Int) (hb : b.length ≤ 1048576) (hi : 0 ≤ i) (h1 : 0 < n) (h2 : n ≤ 256) : ∃ x i' h', spec_l1Once.f b i h n = some (x, i', h') ∧ 0 ≤ i' := by
  obtain ⟨x, i', h', e, a, c, d⟩ := spec_l1Below_is b i h n hb hi h1 h2
  unfold spec_l1Once.f
  rw [e]
  exact ⟨_, _, _, rfl, d⟩

theorem spec_l1Bit_is (b : Bool) : spec_l1Bit.f b = some (if b = true then 1 else 0) := by
  cases b <;> rfl
theorem spec_l1PickInt_is (b : List Int) (i h : Int) (l : List Int) (hb : b.length ≤ 1048576) (hi : 0 ≤ i) (h1 : 0 < l.length) (h2 : l.length ≤ 256) : ∃ x i' h', spec_l1PickInt.f b i h l = some (x, i', h') ∧ x ∈ l ∧ 0 ≤ i' := by
  obtain ⟨x, i', h', e, a, c, d⟩ := spec_l1Below_is b i h l.length hb hi (by omega) (by omega)
  unfold spec_l1PickInt.f
  rw [e]
  simp only [Option.bind_some]
  rw [if_pos a, if_pos c]
  refine ⟨_, _, _, rfl, ?_, d⟩
  have hx : x.toNat < l.length := by omega
  have : rd l x = l[x.toNat] := by simp [rd, hx]
  rw [this]; exact List.getElem_mem _

theorem spec_l12Draw_is (b : List Int) (c h : Int) (hb : b.length ≤ 1048576) (hc : 0 ≤ c) : ∃ x y c' h', EV (fun k => spec_l12Draw.f k b c h) (x, y, c', h') ∧ 0 ≤ c' := by
  obtain ⟨x, c1, h1, e1, _, _, k1⟩ := spec_l1Below_is b c h 25 hb hc (by omega) (by omega)
  obtain ⟨y, c2, h2, e2, _, _, k2⟩ := spec_l1Below_is b c1 h1 13 hb k1 (by omega) (by omega)
  obtain ⟨t, c3, h3, e3, k3⟩ := spec_l1Once_is b c2 h2 2 hb k2 (by omega) (by omega)
  obtain ⟨z, c4, h4, e4, _, _, k4⟩ := spec_l1Below_is b c3 h3 20 hb k3 (by omega) (by omega)
  obtain ⟨u, c5, h5, e5, _, k5⟩ := spec_l1PickInt_is b c4 h4 [1, (-1), 2, 0] hb k4 (by decide) (by decide)
  obtain ⟨v, c6, h6, e6, _, k6⟩ := spec_l1PickInt_is b c5 h5 [0, (-1), 2, 1001] hb k5 (by decide) (by decide)
  by_cases hz : z = 0
  · exact ⟨u, v, c6, h6, EV.by e1 (EV.by e2 (EV.by e3 (EV.by (spec_l1Bit_is _) (EV.bind (spec_SlopeOf_is _ _) (EV.by e4 (EV.pos hz (EV.by e5 (EV.by e6 (EV.now _))))))))), k6⟩
  · by_cases hz1 : z = 1
    · exact ⟨1000, 999, c4, h4, EV.by e1 (EV.by e2 (EV.by e3 (EV.by (spec_l1Bit_is _) (EV.bind (spec_SlopeOf_is _ _) (EV.by e4 (EV.neg hz (EV.pos hz1 (EV.now _)))))))), k4⟩
    · exact ⟨_, _, c4, h4, EV.by e1 (EV.by e2 (EV.by e3 (EV.by (spec_l1Bit_is _) (EV.bind (spec_SlopeOf_is _ _) (EV.by e4 (EV.neg hz (EV.neg hz1 (EV.now _)))))))), k4⟩

theorem spec_l12Two_is (b : List Int) (hb : b.length ≤ 1048576) : ∃ x y z u : Int, EV (fun k => spec_l12Two.f k b) (x, y, z, u) := by
  obtain ⟨h, E⟩ := spec_l1New_is b hb
  obtain ⟨x, y, c1, h1, E1, k1⟩ := spec_l12Draw_is b 0 h hb (by omega)
  obtain ⟨t, c2, h2, e2, k2⟩ := spec_l1Once_is b c1 h1 2 hb k1 (by omega) (by omega)
  have last : ∀ (c h m n : Int), 0 ≤ c → ∃ z u : Int, EV (fun k => spec_l12Two.j0 k false b c h x y m n) (x, y, z, u) := by
    intro c h m n hc
    obtain ⟨z, u, c', h', Ez, _⟩ := spec_l12Draw_is b c h hb hc
    by_cases ok : (slopeOfM x (wrap64 (y + 1))).2.2 = true
    · exact ⟨_, _, EV.step (fun k => by rw [spec_l12Two.j0]) (EV.neg (by simp) (EV.bind (spec_SlopeOf_is _ _) (EV.pos ok (EV.now _))))⟩
    · refine ⟨z, u, EV.step (fun k => by rw [spec_l12Two.j0]) (EV.neg (by simp) (EV.bind (spec_SlopeOf_is _ _) (EV.neg ok ?_)))⟩
      exact EV.bind Ez (EV.now _)
  by_cases ht : t = true
  · obtain ⟨n, c3, h3, e3, _, _, k3⟩ := spec_l1Below_is b c2 h2 5 hb k2 (by omega) (by omega)
    by_cases ok : (twistSM x y 0 1 (wrap64 (n - 2))).2.2 = true
    · obtain ⟨w, c4, h4, e4, k4⟩ := spec_l1Once_is b c3 h3 2 hb k3 (by omega) (by omega)
      by_cases hw : w = true
      · exact ⟨x, y, _, _, EV.bind E (EV.bind E1 (EV.by e2 (EV.pos ht (EV.by e3 (EV.bind (spec_TwistSlope_is _ _ _ _ _) (EV.pos ok (EV.by e4 (EV.step (fun k => by rw [spec_l12Two.j0]) (EV.pos hw (EV.now _))))))))))⟩
      · obtain ⟨z, u, L⟩ := last c4 h4 (twistSM x y 0 1 (wrap64 (n - 2))).1 (twistSM x y 0 1 (wrap64 (n - 2))).2.1 k4
        have hw' : w = false := by simpa using hw
        exact ⟨x, y, z, u, EV.bind E (EV.bind E1 (EV.by e2 (EV.pos ht (EV.by e3 (EV.bind (spec_TwistSlope_is _ _ _ _ _) (EV.pos ok (EV.by e4 (by rw [hw']; exact L))))))))⟩
    · obtain ⟨z, u, L⟩ := last c3 h3 (twistSM x y 0 1 (wrap64 (n - 2))).1 (twistSM x y 0 1 (wrap64 (n - 2))).2.1 k3
      exact ⟨x, y, z, u, EV.bind E (EV.bind E1 (EV.by e2 (EV.pos ht (EV.by e3 (EV.bind (spec_TwistSlope_is _ _ _ _ _) (EV.neg ok L))))))⟩
  · obtain ⟨z, u, c3, h3, E3, _⟩ := spec_l12Draw_is b c2 h2 hb k2
    exact ⟨x, y, z, u, EV.bind E (EV.bind E1 (EV.by e2 (EV.neg ht (EV.bind E3 (EV.now _)))))⟩

theorem spec_DrawCrossNumber_is (b : List Int) (hb : b.length ≤ 1048576) : ∃ x y z u : Int, EV (fun k => spec_DrawCrossNumber.f k b) (x, y, z, u) := by
  obtain ⟨x, y, z, u, E⟩ := spec_l12Two_is b hb
  exact ⟨x, y, z, u, EV.bind E (EV.now _)⟩

theorem impl_within_is (a b c : Int) : impl_within.f a b c = some (decide (b ≤ a ∧ a ≤ c)) := by
  unfold impl_within.f
  by_cases h : a ≥ b
  · rw [if_pos h]; simp [show b ≤ a from h]
  · rw [if_neg h]; simp; omega

theorem impl_size_is (a : Int) (h : -9223372036854775808 < a) (h' : a ≤ 9223372036854775807) : impl_size.f a = some (a.natAbs : Int) := by
  unfold impl_size.f mx
  rw [w64 (by omega) (by omega)]
  congr 1
  split <;> omega
theorem impl_size_some (a : Int) : ∃ r, impl_size.f a = some r := ⟨_, rfl⟩

theorem impl_gcd_l0 (n : Nat) : ∀ a b : Int, b.natAbs ≤ n → ∃ r, EV (fun k => impl_gcd.l0 k a b) r ∧ (0 ≤ a → 0 ≤ b → r = ((Nat.gcd a.natAbs b.natAbs : Nat) : Int)) := by
  induction n with
  | zero =>
    intro a b hb
    obtain rfl : b = 0 := by omega
    refine ⟨a, EV.step (fun k => by rw [impl_gcd.l0]) ?_, fun h _ => by simp; omega⟩
    exact EV.pos rfl (EV.now _)
  | succ n ih =>
    intro a b hb
    by_cases h : b = 0
    · subst h
      refine ⟨a, EV.step (fun k => by rw [impl_gcd.l0]) ?_, fun h _ => by simp; omega⟩
      exact EV.pos rfl (EV.now _)
    · have hm := tmod_lt a b h
      obtain ⟨r, hr, hv⟩ := ih b (Int.tmod a b) (by omega)
      refine ⟨r, EV.step (fun k => by rw [impl_gcd.l0]) ?_, fun ha hb' => ?_⟩
      · exact EV.neg h hr
      · rw [hv hb' (Int.tmod_nonneg _ ha), gcd_step]
theorem impl_gcd_is (a b : Int) (h1 : a.natAbs ≤ 9223372036854775807) (h2 : b.natAbs ≤ 9223372036854775807) : EV (fun k => impl_gcd.f k a b) ((Nat.gcd a.natAbs b.natAbs : Nat) : Int) := by
  obtain ⟨r, hr, hv⟩ := impl_gcd_l0 (b.natAbs : Int).natAbs (a.natAbs : Int) (b.natAbs : Int) (Nat.le_refl _)
  refine EV.by (impl_size_is a (by omega) (by omega)) (EV.by (impl_size_is b (by omega) (by omega)) (hr.eq ?_))
  rw [hv (by omega) (by omega)]; simp
theorem impl_IsSlope_is (p q : Int) : EV (fun k => impl_IsSlope.f k p q) (slopeB p q) := by
  unfold slopeB
  refine EV.by (impl_within_is _ _ _) ?_
  by_cases hp : -1000 ≤ p ∧ p ≤ 1000
  · refine EV.pos (by simpa using hp) (EV.by (impl_within_is _ _ _) ?_)
    by_cases hq : 0 ≤ q ∧ q ≤ 1000
    · refine EV.pos (by simpa using hq) (EV.bind (impl_gcd_is p q (by omega) (by omega)) ?_)
      by_cases hg : Nat.gcd p.natAbs q.natAbs = 1
      · refine EV.pos (by omega) ?_
        by_cases h0 : q > 0
        · exact EV.pos h0 ((EV.now _).eq (by simp [hp, hq, hg]; omega))
        · exact EV.neg h0 ((EV.now _).eq (by simp [hp, hq, hg]; rw [Bool.eq_iff_iff]; simp; omega))
      · exact EV.neg (by omega) ((EV.now _).eq (by simp [hg]))
    · exact EV.neg (by simpa using hq) ((EV.now _).eq (by simp [hq]))
  · exact EV.neg (by simpa using hp) ((EV.now _).eq (by simp [hp]))

theorem impl_cross_is {a b c d : Int} (h1 : slopeB a b = true) (h2 : slopeB c d = true) : impl_cross.f a b c d = some ((a * d - b * c).natAbs : Int) := by
  obtain ⟨e1, e2, e3⟩ := cross_w h1 h2
  unfold impl_cross.f
  rw [e1, e2, w64 (by omega) (by omega), impl_size_is _ (by omega) (by omega)]; rfl

theorem impl_CrossNumber_is (a b c d : Int) : EV (fun k => impl_CrossNumber.f k a b c d) (crossM a b c d) := by
  unfold crossM
  refine EV.bind (impl_IsSlope_is a b) ?_
  by_cases h1 : slopeB a b = true
  · refine EV.pos h1 (EV.bind (impl_IsSlope_is c d) ?_)
    by_cases h2 : slopeB c d = true
    · exact EV.pos h2 (EV.by (impl_cross_is h1 h2) ((EV.now _).eq (by rw [if_pos ⟨h1, h2⟩])))
    · exact EV.neg h2 ((EV.now _).eq (by rw [if_neg (fun h => h2 h.2)]))
  · exact EV.neg h1 ((EV.now _).eq (by rw [if_neg (fun h => h1 h.1)]))

theorem spec_DrawSlopeOf_is (b : List Int) (hb : b.length ≤ 1048576) : ∃ x y : Int, EV (fun k => spec_DrawSlopeOf.f k b) (x, y) := by
  obtain ⟨h, E⟩ := spec_l1New_is b hb
  obtain ⟨x, c1, h1, e1, _, _, k1⟩ := spec_l1Below_is b 0 h 25 hb (by omega) (by omega) (by omega)
  obtain ⟨t, c2, h2, e2, k2⟩ := spec_l1Once_is b c1 h1 14 hb k1 (by omega) (by omega)
  obtain ⟨y, c3, h3, e3, _, _, k3⟩ := spec_l1Below_is b c2 h2 25 hb k2 (by omega) (by omega)
  exact ⟨_, _, EV.bind E (EV.by e1 (EV.by e2 (EV.by (spec_l1Bit_is _) (EV.by e3 (EV.now _)))))⟩

theorem impl_lowest_is (p q : Int) (hp : -1000 ≤ p ∧ p ≤ 1000) (hq : -1000 ≤ q ∧ q ≤ 1000) (hz : ¬ (p = 0 ∧ q = 0)) : EV (fun k => impl_lowest.f k p q) (lowM p q) := by
  obtain ⟨d, a, b, hd, d0, d1, ea, eb, _, _, a1, a2, b1, b2, sb, zb, sa⟩ := low_of p q hp hq hz
  refine EV.bind (impl_gcd_is p q (by omega) (by omega)) ?_
  unfold lowM
  simp only [hd, ea, eb]
  rw [w64 (x := a) (by omega) (by omega), w64 (x := b) (by omega) (by omega), w64 (x := -a) (by omega) (by omega), w64 (x := -b) (by omega) (by omega)]
  refine EV.neg (by omega) ?_
  by_cases hn : b < 0
  · refine EV.pos hn ((EV.now _).eq ?_)
    rw [if_pos (by omega)]
  · refine EV.neg hn ?_
    by_cases h0 : b = 0
    · refine EV.pos h0 ?_
      by_cases hm : a < 0
      · refine EV.pos hm ((EV.now _).eq ?_)
        rw [if_pos (by omega)]
      · refine EV.neg hm ((EV.now _).eq ?_)
        rw [if_neg (by omega)]
    · refine EV.neg h0 ((EV.now _).eq ?_)
      rw [if_neg (by omega)]

theorem impl_SlopeOf_is (p q : Int) : EV (fun k => impl_SlopeOf.f k p q) (slopeOfM p q) := by
  unfold slopeOfM
  have main : ¬ (p = 0 ∧ q = 0) → EV (fun k => (impl_within.f p (-1000) 1000).bind fun t112 => (if t112 = true then ((impl_within.f q (-1000) 1000).bind fun t113 => (if t113 = true then ((impl_lowest.f k p q).bind fun bt114 => (some (bt114.1, bt114.2, true))) else (some (0, 0, false)))) else (some (0, 0, false))))
      (if -1000 ≤ p ∧ p ≤ 1000 then (if -1000 ≤ q ∧ q ≤ 1000 then (if p = 0 ∧ q = 0 then (0, 0, false) else ((lowM p q).1, (lowM p q).2, true)) else (0, 0, false)) else (0, 0, false)) := by
    intro hz
    refine EV.by (impl_within_is _ _ _) ?_
    by_cases hp : -1000 ≤ p ∧ p ≤ 1000
    · rw [if_pos hp]
      refine EV.pos (by simpa using hp) (EV.by (impl_within_is _ _ _) ?_)
      by_cases hq : -1000 ≤ q ∧ q ≤ 1000
      · rw [if_pos hq, if_neg hz]
        exact EV.pos (by simpa using hq) (EV.bind (impl_lowest_is p q hp hq hz) (EV.now _))
      · rw [if_neg hq]
        exact EV.neg (by simpa using hq) (EV.now _)
    · rw [if_neg hp]
      exact EV.neg (by simpa using hp) (EV.now _)
  by_cases h0 : p = 0
  · refine EV.pos h0 ?_
    by_cases h1 : q = 0
    · refine EV.pos h1 ((EV.now _).eq ?_)
      subst h0; subst h1; decide
    · exact EV.neg h1 (main (by omega))
  · exact EV.neg h0 (main (by omega))

theorem spec_FormatInt_l0 (b : Bool) : ∀ (d : Nat) (n : Int) (out : List UInt8), n.natAbs < 10 ^ d → -9223372036854775808 ≤ n → n ≤ 9223372036854775807 → out.length + d ≤ 50 →
    EV (fun k => spec_FormatInt.l0 k n b (bs out)) (bs ((if b = true then [45] else []) ++ ((if n = 0 then [] else Lib.decDigits n.natAbs) ++ out))) := by
  intro d
  induction d with
  | zero =>
    intro n out h _ _ hs
    have h0 : n = 0 := by simp at h; omega
    refine EV.step (fun k => by rw [spec_FormatInt.l0]) (EV.pos h0 ?_)
    refine EV.cases (fun hb => ?_) (fun hb => (EV.now _).eq (by simp [hb, h0]))
    exact EV.pos (by rw [bs_size]; omega) ((EV.now _).eq (by show bs [45] ++ bs out = _; rw [bs_app]; simp [hb, h0]))
  | succ d ih =>
    intro n out h h1 h2 hs
    refine EV.step (fun k => by rw [spec_FormatInt.l0]) ?_
    by_cases h0 : n = 0
    · refine EV.pos h0 ?_
      refine EV.cases (fun hb => ?_) (fun hb => (EV.now _).eq (by simp [hb, h0]))
      exact EV.pos (by rw [bs_size]; omega) ((EV.now _).eq (by show bs [45] ++ bs out = _; rw [bs_app]; simp [hb, h0]))
    · have q1 : (Int.tdiv n 10).natAbs = n.natAbs / 10 := by rw [Int.natAbs_tdiv]; rfl
      have q2 : (Int.tmod n 10).natAbs = n.natAbs % 10 := by rw [Int.natAbs_tmod]; rfl
      have hm : n.natAbs % 10 < 10 := Nat.mod_lt _ (by omega)
      have e : wrap64 (Int.tdiv n 10) = Int.tdiv n 10 := w64 (by omega) (by omega)
      have key : ∀ c : Int, c = 48 + ((n.natAbs % 10 : Nat) : Int) →
          EV (fun k => (some ([c % 256] : List Int)).bind fun y => if (strOfNums y).size + (bs out).size ≤ 9223372036854775807 then spec_FormatInt.l0 k (wrap64 (Int.tdiv n 10)) b (strOfNums y ++ bs out) else none)
            (bs ((if b = true then [45] else []) ++ ((if n = 0 then [] else Lib.decDigits n.natAbs) ++ out))) := by
        intro c hc
        have e1 : strOfNums [c % 256] = bs [UInt8.ofNat (48 + n.natAbs % 10)] := by
          have : (c % 256).toNat = 48 + n.natAbs % 10 := by omega
          simp only [strOfNums, bs, List.map_cons, List.map_nil, this]
        refine EV.by rfl ?_
        rw [e1, bs_app, e]
        refine EV.pos (by rw [bs_size, bs_size]; simp; omega) ((ih (Int.tdiv n 10) _ (by rw [q1]; rw [Nat.pow_succ] at h; omega) (by omega) (by omega) (by simp; omega)).eq ?_)
        congr 2
        rw [if_neg h0, q1]
        conv => rhs; rw [Lib.decDigits]
        by_cases c10 : n.natAbs < 10
        · rw [dif_pos c10, if_pos (by omega), Nat.mod_eq_of_lt c10]; simp
        · rw [dif_neg c10, if_neg (by omega)]; simp
      refine EV.neg h0 (EV.cases (fun hn => ?_) (fun hn => ?_))
      · exact key _ (by rw [wrap_neg _ (by omega), w64 (by omega) (by omega)]; omega)
      · exact key _ (by rw [w64 (by omega) (by omega)]; omega)
theorem spec_FormatInt_is (n : Int) (h1 : -9223372036854775808 ≤ n) (h2 : n ≤ 9223372036854775807) : EV (fun k => spec_FormatInt.f k n) (fmtM n) := by
  unfold spec_FormatInt.f
  refine EV.cases (fun h => (EV.now _).eq ?_) (fun h => (spec_FormatInt_l0 (decide (n < 0)) 20 n [] (by omega) h1 h2 (by simp)).eq ?_)
  · subst h
    show bs [48] = bs (Lib.itoa 0)
    unfold Lib.itoa
    rw [if_neg (by omega), Lib.decDigits]; rfl
  · show _ = bs (Lib.itoa n)
    unfold Lib.itoa
    by_cases hn : n < 0
    · simp [hn, h]
    · have : n.toNat = n.natAbs := by omega
      simp [hn, h, this]

theorem spec_SlopeText_is (p q : Int) : EV (fun k => spec_SlopeText.f k p q) (slopeTextM p q) := by
  unfold spec_SlopeText.f slopeTextM
  refine EV.bind (spec_IsSlope_is p q) ?_
  refine EV.cases (fun h => ?_) (fun h => (EV.now _).eq (by simp [h]))
  have b := slopeB_pq h
  have a1 := fmtM_size p (by omega) (by omega)
  have a2 := fmtM_size q (by omega) (by omega)
  refine EV.bind (spec_FormatInt_is p (by omega) (by omega)) (EV.pos (by omega) (EV.bind (spec_FormatInt_is q (by omega) (by omega)) (EV.pos ?_ ((EV.now _).eq (by simp [h])))))
  rw [app_size]; show (fmtM p).size + 1 + (fmtM q).size ≤ _; omega

theorem spec_l1Pick_is (b : List Int) (i h : Int) (l : List ByteArray) (hb : b.length ≤ 1048576) (hi : 0 ≤ i) (h1 : 0 < l.length) (h2 : l.length ≤ 256) : ∃ x i' h', spec_l1Pick.f b i h l = some (x, i', h') ∧ x ∈ l ∧ 0 ≤ i' := by
  obtain ⟨x, i', h', e, a, c, d⟩ := spec_l1Below_is b i h l.length hb hi (by omega) (by omega)
  unfold spec_l1Pick.f
  rw [e]
  simp only [Option.bind_some]
  rw [if_pos a, if_pos c]
  refine ⟨_, _, _, rfl, ?_, d⟩
  have hx : x.toNat < l.length := by omega
  have : rdOf ByteArray.empty l x = l[x.toNat] := by simp [rdOf, hx]
  rw [this]; exact List.getElem_mem _

theorem ext_size (s : ByteArray) (i j : Nat) : (s.extract i j).size ≤ s.size := by
  rw [ByteArray.size_extract]; omega
theorem spec_l1Turned_is (b : List Int) (i h : Int) (s : ByteArray) (l : List ByteArray) (hb : b.length ≤ 1048576) (hi : 0 ≤ i) (hs : s.size ≤ 255) (h1 : 0 < l.length) (h2 : l.length ≤ 256) (hl : ∀ x ∈ l, x.size ≤ 1) :
    ∃ x i' h', spec_l1Turned.f b i h s l = some (x, i', h') ∧ x.size ≤ 1000 ∧ 0 ≤ i' := by
  obtain ⟨a, c1, x1, e1, a0, a1, k1⟩ := spec_l1Below_is b i h ((s.size : Int) + 1) hb hi (by omega) (by omega)
  obtain ⟨d, c2, x2, e2, d0, d1, k2⟩ := spec_l1Below_is b c1 x1 6 hb k1 (by omega) (by omega)
  obtain ⟨y, c3, x3, e3, hy, k3⟩ := spec_l1Pick_is b c2 x2 l hb k2 h1 h2
  have b1 := ext_size s 0 a.toNat
  have b2 := ext_size s a.toNat s.size
  have b3 := hl y hy
  have n1 : ((s.extract 0 a.toNat) ++ y).size = (s.extract 0 a.toNat).size + y.size := ByteArray.size_append
  have n2 : (((s.extract 0 a.toNat) ++ y) ++ (s.extract a.toNat s.size)).size = ((s.extract 0 a.toNat) ++ y).size + (s.extract a.toNat s.size).size := ByteArray.size_append
  unfold spec_l1Turned.f
  rw [w64 (x := (s.size : Int) + 1) (by omega) (by omega), e1]
  simp only [Option.bind_some]
  rw [e2]
  simp only [Option.bind_some]
  by_cases h0 : d = 0
  · rw [if_pos h0, if_pos a0, if_pos (by omega), e3]
    simp only [Option.bind_some]
    rw [if_pos (by omega), if_pos (by omega)]
    exact ⟨_, _, _, rfl, by omega, k3⟩
  · rw [if_neg h0]
    by_cases h1' : d = 1
    · rw [if_pos h1', if_pos a0, if_pos (by omega)]
      exact ⟨_, _, _, rfl, by omega, k2⟩
    · rw [if_neg h1']
      exact ⟨_, _, _, rfl, by omega, k2⟩

theorem slope_text_small (p q : Int) : (slopeTextM p q).size ≤ 255 := by
  unfold slopeTextM
  split
  · rename_i h
    have b := slopeB_bd h
    have a1 := fmtM_size p (by omega) (by omega)
    have a2 := fmtM_size q (by omega) (by omega)
    rw [ByteArray.size_append, ByteArray.size_append]
    have e : (⟨#[47]⟩ : ByteArray).size = 1 := rfl
    omega
  · decide
theorem spec_DrawParseSlope_is (b : List Int) (hb : b.length ≤ 1048576) : ∃ t : ByteArray, EV (fun k => spec_DrawParseSlope.f k b) t ∧ t.size ≤ 1000 := by
  obtain ⟨h, E⟩ := spec_l1New_is b hb
  obtain ⟨x, y, c1, h1, E1, k1⟩ := spec_l12Draw_is b 0 h hb (by omega)
  obtain ⟨t, c3, h3, e3, l, k3⟩ := spec_l1Turned_is b c1 h1 (slopeTextM x y) [(⟨#[47]⟩ : ByteArray), (⟨#[45]⟩ : ByteArray), (⟨#[49]⟩ : ByteArray), (⟨#[48]⟩ : ByteArray), (⟨#[50]⟩ : ByteArray)] hb k1 (slope_text_small x y) (by decide) (by decide) (by decide)
  exact ⟨t, EV.bind E (EV.bind E1 (EV.bind (spec_SlopeText_is x y) (EV.by e3 (EV.now _)))), l⟩

theorem impl_SplitByte_l0 (s : ByteArray) (c : Int) (hs : s.size ≤ 1048576) : ∀ (n st i : Nat) (acc : List ByteArray), i + n = s.size → st ≤ i → acc.length ≤ i →
    EV (fun k => impl_SplitByte.l0 k s c acc (st : Int) (s.size : Int) (i : Int)) (acc ++ spM s c n st i) := by
  intro n
  induction n with
  | zero =>
    intro st i acc h hst ha
    have e : i = s.size := by omega
    refine EV.step (fun k => by rw [impl_SplitByte.l0]) ?_
    refine EV.neg (by omega) (EV.pos (by omega) (EV.pos (by omega) (EV.pos (by omega) ((EV.now _).eq (by simp [spM, e])))))
  | succ n ih =>
    intro st i acc h hst ha
    refine EV.step (fun k => by rw [impl_SplitByte.l0]) ?_
    rw [w64 (x := (i : Int) + 1) (by omega) (by omega)]
    refine EV.pos (by omega) (EV.pos (by omega) (EV.pos (by omega) ?_))
    refine EV.cases (fun hc => ?_) (fun hc => ?_)
    · refine EV.pos (by omega) (EV.pos (by omega) (EV.pos (by omega) (EV.pos (by omega) ?_)))
      have := ih (i + 1) (i + 1) (acc ++ [s.extract st i]) (by omega) (by omega) (by simp; omega)
      refine EV.congr (fun k => by simp) (this.eq ?_)
      simp [spM, hc]
    · have := ih st (i + 1) acc (by omega) (by omega) (by omega)
      refine EV.congr (fun k => by simp) (this.eq ?_)
      simp [spM, hc]
theorem impl_SplitByte_is (s : ByteArray) (c : Int) (hs : s.size ≤ 1048576) : EV (fun k => impl_SplitByte.f k s c) (splitM s c) := by
  have := impl_SplitByte_l0 s c hs s.size 0 0 [] (by omega) (by omega) (by simp)
  exact this

theorem impl_readInt_is (s : ByteArray) : impl_readInt.f s (-999999999999) 999999999999 = some (readM s) := by
  have R := readM_RD s
  unfold impl_readInt.f
  rw [if_pos (by decide)]
  rcases R with ⟨n, h1, h2, hs, hr⟩ | ⟨no, hr⟩
  · rw [hr]
    have sz := fmtM_size n (by omega) (by omega)
    have len : s.size ≤ 20 := by
      have h : ∀ u : Nat, u < 10 ^ 12 → (Lib.decDigits u).length ≤ 12 := by
        intro u hu
        by_cases h : u = 0
        · subst h; rw [Lib.decDigits]; simp
        · exact digs_len 12 u (by omega) hu
      rw [hs]
      show (bs (Lib.itoa n)).size ≤ 20
      rw [bs_size]; unfold Lib.itoa
      split
      · have := h n.natAbs (by omega); simp; omega
      · have := h n.toNat (by omega); omega
    rw [if_neg (by omega)]
    have a : Lib.atoiAll s.data.toList = .ok n := by
      rw [hs]
      have := atoi_fmt n h1 h2
      simpa [fmtM] using this
    rw [a]
    simp only []
    rw [if_pos ⟨h1, h2⟩, if_pos (by rw [hs]; rfl)]
  · rw [hr]
    split
    · rfl
    · split
      · rename_i n hn
        by_cases hin : -999999999999 ≤ n ∧ n ≤ 999999999999
        · rw [if_pos hin, if_neg]
          intro e
          exact no n hin.1 hin.2 (bytes_eq e).symm
        · rw [if_neg hin]
      · rfl

theorem impl_ParseInt_is (s : ByteArray) : impl_ParseInt.f s = some (readM s) := by
  unfold impl_ParseInt.f
  rw [impl_readInt_is]; rfl

theorem impl_ParseSlope_is (s : ByteArray) (hs : s.size ≤ 1048576) : EV (fun k => impl_ParseSlope.f k s) (parseSlopeM s) := by
  unfold impl_ParseSlope.f parseSlopeM
  refine EV.bind (impl_SplitByte_is s 47 hs) ?_
  generalize splitM s 47 = l
  simp only []
  refine EV.cases (fun h => ?_) (fun h => (EV.now _).eq (by rw [if_neg (by omega)]))
  rw [if_pos (by omega)]
  refine EV.pos (by omega) (EV.by (impl_ParseInt_is _) (EV.pos (by omega) (EV.by (impl_ParseInt_is _) ?_)))
  generalize readM (rdOf ByteArray.empty l 0) = a
  generalize readM (rdOf ByteArray.empty l 1) = b
  refine EV.cases (fun h => ?_) (fun h => (EV.now _).eq (by rw [if_neg h]))
  rw [if_pos h]
  refine EV.cases (fun h => ?_) (fun h => (EV.now _).eq (by rw [if_neg h]))
  rw [if_pos h]
  refine EV.bind (impl_IsSlope_is _ _) ?_
  exact EV.cases (fun h => (EV.now _).eq (by rw [if_pos h])) (fun h => (EV.now _).eq (by rw [if_neg h]))

theorem spec_SplitByte_l0 (s : ByteArray) (c : Int) (hs : s.size ≤ 1048576) : ∀ (n st i : Nat) (acc : List ByteArray), i + n = s.size → st ≤ i → acc.length ≤ i →
    EV (fun k => spec_SplitByte.l0 k s c acc (st : Int) (i : Int)) (acc ++ spM s c n st i) := by
  intro n
  induction n with
  | zero =>
    intro st i acc h hst ha
    refine EV.step (fun k => by rw [spec_SplitByte.l0]) ?_
    rw [w64 (x := (i : Int) + 1) (by omega) (by omega)]
    refine EV.pos (by omega) (EV.pos (by omega) (EV.pos (by omega) (EV.pos (by omega) (EV.pos (by omega) ?_))))
    refine EV.step (fun k => by rw [spec_SplitByte.l0]) ?_
    exact EV.neg (by omega) ((EV.now _).eq (by simp [spM]))
  | succ n ih =>
    intro st i acc h hst ha
    refine EV.step (fun k => by rw [spec_SplitByte.l0]) ?_
    rw [w64 (x := (i : Int) + 1) (by omega) (by omega)]
    refine EV.pos (by omega) (EV.neg (by omega) (EV.pos (by omega) (EV.pos (by omega) ?_)))
    refine EV.cases (fun hc => ?_) (fun hc => ?_)
    · refine EV.pos (by omega) (EV.pos (by omega) (EV.pos (by omega) ?_))
      have := ih (i + 1) (i + 1) (acc ++ [s.extract st i]) (by omega) (by omega) (by simp; omega)
      refine EV.congr (fun k => by simp) (this.eq ?_)
      simp [spM, hc]
    · have := ih st (i + 1) acc (by omega) (by omega) (by omega)
      refine EV.congr (fun k => by simp) (this.eq ?_)
      simp [spM, hc]
theorem spec_SplitByte_is (s : ByteArray) (c : Int) (hs : s.size ≤ 1048576) : EV (fun k => spec_SplitByte.f k s c) (splitM s c) := by
  have := spec_SplitByte_l0 s c hs s.size 0 0 [] (by omega) (by omega) (by simp)
  exact this

theorem bt_list (s : ByteArray) (i : Nat) (h : i < s.size) : bt s (i : Int) = ((s.data.toList[i]'(by simpa using h)).toNat : Int) := by
  unfold bt
  rw [dif_pos (by omega)]
  simp only [Int.toNat_natCast]
  rfl
theorem bt_drop (s : ByteArray) (i : Nat) (c : UInt8) (r : List UInt8) (h : s.data.toList.drop i = c :: r) : i < s.size ∧ bt s (i : Int) = (c.toNat : Int) ∧ s.data.toList.drop (i + 1) = r := by
  have hl : i < s.data.toList.length := by
    rcases Nat.lt_or_ge i s.data.toList.length with g | g
    · exact g
    · rw [List.drop_eq_nil_of_le g] at h; cases h
  have hs : i < s.size := by simpa using hl
  rw [List.drop_eq_getElem_cons hl] at h
  injection h with h1 h2
  exact ⟨hs, by rw [bt_list s i hs, h1], h2⟩
theorem spec_l1Read_l0 (s t : ByteArray) (neg : Bool) : ∀ (l : List UInt8) (i acc : Nat), t.data.toList.drop i = l → i + l.length = t.size → acc < 10 ^ i → t.size ≤ 12 →
    EV (fun k => spec_l1Read.l0 k s neg t (acc : Int) (i : Int)) (match valL l acc with | none => (0, false) | some v => if (fmtM (if neg = true then -(v : Int) else v)).toList = s.toList then ((if neg = true then -(v : Int) else v), true) else (0, false)) := by
  intro l
  induction l with
  | nil =>
    intro i acc hd hl ha ht
    have b : 10 ^ i ≤ 10 ^ 12 := Nat.pow_le_pow_right (by decide) (by omega)
    have ha2 : acc < 1000000000000 := by omega
    refine EV.step (fun k => by rw [spec_l1Read.l0]) (EV.neg (by simp at hl; omega) ?_)
    simp only [valL]
    cases neg with
    | true =>
      refine EV.pos rfl ?_
      rw [w64 (x := -(acc : Int)) (by omega) (by omega)]
      refine EV.bind (spec_FormatInt_is _ (by omega) (by omega)) ?_
      exact EV.cases (fun h => (EV.now _).eq (by simp [h])) (fun h => (EV.now _).eq (by simp [h]))
    | false =>
      refine EV.neg (by decide) ?_
      refine EV.bind (spec_FormatInt_is _ (by omega) (by omega)) ?_
      exact EV.cases (fun h => (EV.now _).eq (by simp [h])) (fun h => (EV.now _).eq (by simp [h]))
  | cons c r ih =>
    intro i acc hd hl ha ht
    obtain ⟨hs, hb, hr⟩ := bt_drop t i c r hd
    have b : 10 ^ (i + 1) ≤ 10 ^ 12 := Nat.pow_le_pow_right (by decide) (by omega)
    have b0 : 10 ^ (i + 1) = 10 ^ i * 10 := Nat.pow_succ ..
    refine EV.step (fun k => by rw [spec_l1Read.l0]) (EV.pos (by omega) (EV.pos (by omega) ?_))
    rw [hb]
    have hc := c.toNat_lt
    simp only [valL]
    refine EV.cases (fun h => (EV.now _).eq (by rw [if_neg (by omega)])) (fun h => ?_)
    refine EV.cases (fun h' => (EV.now _).eq (by rw [if_neg (by omega)])) (fun h' => ?_)
    rw [if_pos (by omega)]
    have e : wrap64 (wrap64 (10 * (acc : Int)) + ((c.toNat : Int) - 48) % 256) = ((10 * acc + (c.toNat - 48) : Nat) : Int) := by
      rw [w64 (x := 10 * (acc : Int)) (by omega) (by omega), w64 (by omega) (by omega)]; omega
    have e2 : wrap64 ((i : Int) + 1) = ((i + 1 : Nat) : Int) := by rw [w64 (by omega) (by omega)]; omega
    rw [e, e2]
    exact ih (i + 1) _ hr (by simp at hl; omega) (by omega) ht
theorem spec_l1Read_j1 (s t : ByteArray) (neg : Bool) : EV (fun k => spec_l1Read.j1 k s 12 neg t)
    (if t.data.toList.length < 1 then (0, false) else if t.data.toList.length > 12 then (0, false) else
      match valL t.data.toList 0 with | none => (0, false) | some v => if (fmtM (if neg = true then -(v : Int) else v)).toList = s.toList then ((if neg = true then -(v : Int) else v), true) else (0, false)) := by
  have hl : t.data.toList.length = t.size := by simp
  rw [hl]
  refine EV.step (fun k => by rw [spec_l1Read.j1]) ?_
  refine EV.cases (fun h => ?_) (fun h => ?_)
  · rw [if_pos (by omega)]
    exact EV.step (fun k => by rw [spec_l1Read.j2]) (EV.pos rfl (EV.now _))
  · rw [if_neg (by omega)]
    refine EV.step (fun k => by rw [spec_l1Read.j2]) ?_
    refine EV.cases (fun h' => ?_) (fun h' => ?_)
    · rw [if_pos (by simp at h'; omega)]; exact EV.now _
    · have h12 : t.size ≤ 12 := by simp at h'; omega
      rw [if_neg (by omega)]
      exact spec_l1Read_l0 s t neg t.data.toList 0 0 rfl (by omega) (by decide) h12
theorem spec_l1Read_is (s : ByteArray) : EV (fun k => spec_l1Read.f k s 12) (readM s) := by
  unfold spec_l1Read.f
  have j : ∀ neg : Bool, neg = (s.data.toList.head? == some 45) → EV (fun k => spec_l1Read.j0 k s 12 neg) (readM s) := by
    intro neg hn
    refine EV.step (fun k => by rw [spec_l1Read.j0]) ?_
    unfold readM
    simp only [← hn]
    cases neg with
    | true =>
      have h0 : 1 ≤ s.size := by
        cases e : s.data.toList with
        | nil => rw [e] at hn; simp at hn
        | cons a r =>
          have : s.data.toList.length = s.size := by simp
          rw [e] at this; simp at this; omega
      refine EV.pos rfl (EV.pos (by omega) ?_)
      have e : (s.extract 1 s.size).data.toList = s.data.toList.tail := by
        have := Lib.extract_data s 1 s.size
        rw [this, List.drop_one, List.take_of_length_le (by simp)]
      have := spec_l1Read_j1 s (s.extract 1 s.size) true
      rw [e] at this
      exact this
    | false =>
      refine EV.neg (by decide) ?_
      exact spec_l1Read_j1 s s false
  refine EV.cases (fun h => EV.pos (by omega) (j _ ?_)) (fun h => j _ ?_)
  · cases e : s.data.toList with
    | nil =>
      have : s.data.toList.length = s.size := by simp
      rw [e] at this; simp at this; omega
    | cons c r =>
      obtain ⟨_, hb, _⟩ := bt_drop s 0 c r (by simpa using e)
      rw [show ((0 : Nat) : Int) = 0 from rfl] at hb
      rw [hb]
      simp only [List.head?_cons]
      rw [Bool.eq_iff_iff]
      simp only [beq_iff_eq, Option.some.injEq]
      constructor
      · intro h; exact UInt8.toNat_inj.1 (by have : (45 : UInt8).toNat = 45 := rfl; omega)
      · intro h; rw [h]; rfl
  · cases e : s.data.toList with
    | nil => rfl
    | cons c r =>
      have : s.data.toList.length = s.size := by simp
      rw [e] at this; simp at this; omega

theorem spec_ParseInt_is (s : ByteArray) : EV (fun k => spec_ParseInt.f k s) (readM s) := by
  unfold spec_ParseInt.f
  exact EV.bind (spec_l1Read_is s) (EV.now _)

theorem spec_ParseSlope_is (s : ByteArray) (hs : s.size ≤ 1048576) : EV (fun k => spec_ParseSlope.f k s) (parseSlopeM s) := by
  unfold spec_ParseSlope.f parseSlopeM
  refine EV.bind (spec_SplitByte_is s 47 hs) ?_
  generalize splitM s 47 = l
  simp only []
  refine EV.cases (fun h => ?_) (fun h => (EV.now _).eq (by rw [if_neg (by omega)]))
  rw [if_pos (by omega)]
  refine EV.pos (by omega) (EV.bind (spec_ParseInt_is _) (EV.pos (by omega) (EV.bind (spec_ParseInt_is _) ?_)))
  generalize readM (rdOf ByteArray.empty l 0) = a
  generalize readM (rdOf ByteArray.empty l 1) = b
  refine EV.cases (fun h => ?_) (fun h => (EV.now _).eq (by rw [if_neg h]))
  rw [if_pos h]
  refine EV.cases (fun h => ?_) (fun h => (EV.now _).eq (by rw [if_neg h]))
  rw [if_pos h]
  refine EV.bind (spec_IsSlope_is _ _) ?_
  exact EV.cases (fun h => (EV.now _).eq (by rw [if_pos h])) (fun h => (EV.now _).eq (by rw [if_neg h]))

theorem spec_DrawTwistSlope_is (b : List Int) (hb : b.length ≤ 1048576) : ∃ x y z u n : Int, EV (fun k => spec_DrawTwistSlope.f k b) (x, y, z, u, n) ∧ n.natAbs ≤ 1000000 := by
  obtain ⟨x, y, z, u, E⟩ := spec_l12Two_is b hb
  obtain ⟨h, E1⟩ := spec_l1New_is b hb
  obtain ⟨n, c1, h1, e1, hn, _⟩ := spec_l1PickInt_is b 0 h [1, (-1), 2, 0, 20, (-21)] hb (by omega) (by decide) (by decide)
  refine ⟨x, y, z, u, n, EV.bind E (EV.bind E1 (EV.by e1 (EV.now _))), ?_⟩
  simp only [List.mem_cons, List.not_mem_nil, or_false] at hn
  omega

theorem impl_TwistSlope_is (a b c d t : Int) : EV (fun k => impl_TwistSlope.f k a b c d t) (twistSM a b c d t) := by
  unfold twistSM
  refine EV.bind (impl_IsSlope_is a b) ?_
  by_cases h1 : slopeB a b = true
  · refine EV.pos h1 (EV.bind (impl_IsSlope_is c d) ?_)
    by_cases h2 : slopeB c d = true
    · refine EV.pos h2 (EV.by (impl_within_is _ _ _) ?_)
      by_cases h3 : -20 ≤ t ∧ t ≤ 20
      · rw [if_pos ⟨h1, h2, h3⟩]
        obtain ⟨e1, e2, e3, e4, e5, e6, e7, e8⟩ := twist_w h1 h2 h3
        rw [e1, e2, e3, e4, e5, e6, e7, e8]
        exact EV.pos (by simpa using h3) (EV.bind (impl_SlopeOf_is _ _) (EV.now _))
      · rw [if_neg (fun h => h3 h.2.2)]
        exact EV.neg (by simpa using h3) (EV.now _)
    · rw [if_neg (fun h => h2 h.2.1)]
      exact EV.neg h2 (EV.now _)
  · rw [if_neg (fun h => h1 h.1)]
    exact EV.neg h1 (EV.now _)

theorem impl_SumSlope_is (a b c d : Int) : EV (fun k => impl_SumSlope.f k a b c d) (sumM a b c d) := by
  unfold sumM
  refine EV.bind (impl_CrossNumber_is a b c d) ?_
  by_cases h : crossM a b c d = 1
  · obtain ⟨h1, h2⟩ := cross_one h
    have b1 := slopeB_bd h1
    have b2 := slopeB_bd h2
    rw [w64 (x := a + c) (by omega) (by omega), w64 (x := b + d) (by omega) (by omega), if_pos h]
    exact EV.pos h (EV.bind (impl_SlopeOf_is _ _) (EV.now _))
  · rw [if_neg h]
    exact EV.neg h (EV.now _)

theorem spec_CrossNumber_is (a b c d : Int) : EV (fun k => spec_CrossNumber.f k a b c d) (crossM a b c d) := by
  unfold crossM
  refine EV.bind (spec_IsSlope_is a b) ?_
  by_cases h1 : slopeB a b = true
  · refine EV.pos h1 (EV.bind (spec_IsSlope_is c d) ?_)
    by_cases h2 : slopeB c d = true
    · obtain ⟨e1, e2, e3⟩ := cross_w h1 h2
      refine EV.pos h2 (EV.by (a := ((a * d - b * c).natAbs : Int)) ?_ ((EV.now _).eq ?_))
      · rw [e1, e2, w64 (by omega) (by omega), spec_l3Abs_is _ (by omega) (by omega)]
      · rw [if_pos ⟨h1, h2⟩]
    · exact EV.neg h2 ((EV.now _).eq (by rw [if_neg (fun h => h2 h.2)]))
  · exact EV.neg h1 ((EV.now _).eq (by rw [if_neg (fun h => h1 h.1)]))

theorem spec_SumSlope_is (a b c d : Int) : EV (fun k => spec_SumSlope.f k a b c d) (sumM a b c d) := by
  unfold sumM
  refine EV.bind (spec_CrossNumber_is a b c d) ?_
  by_cases h : crossM a b c d = 1
  · obtain ⟨h1, h2⟩ := cross_one h
    have b1 := slopeB_bd h1
    have b2 := slopeB_bd h2
    rw [w64 (x := a + c) (by omega) (by omega), w64 (x := b + d) (by omega) (by omega), if_pos h]
    exact EV.pos h (EV.bind (spec_SlopeOf_is _ _) (EV.now _))
  · rw [if_neg h]
    exact EV.neg h (EV.now _)

theorem impl_SlopeWord_l0 (p q s : Int) (a n : Nat) (hs : s = if p < 0 then -2 else 2) (hq : 0 ≤ q) (hn : (n : Int) = a + q) (hm : n ≤ 24) : ∀ (d i : Nat) (acc : List Int), i + d = n → acc.length = i →
    EV (fun k => impl_SlopeWord.l0 k (a : Int) (n : Int) s acc (n : Int) (i : Int)) (acc ++ (List.range' i d).map (slopeLetter p a n), true) := by
  intro d
  induction d with
  | zero =>
    intro i acc h1 h2
    refine EV.step (fun k => by rw [impl_SlopeWord.l0]) ?_
    exact EV.neg (by omega) ((EV.now _).eq (by simp))
  | succ d ih =>
    intro i acc h1 h2
    have hb := Nat.mul_le_mul (show i ≤ 24 by omega) (show a ≤ 24 by omega)
    have hc : ((i : Int) * (a : Int)) = ((i * a : Nat) : Int) := by simp
    have hmod : Int.tmod ((i * a : Nat) : Int) (n : Int) = ((i * a % n : Nat) : Int) := rfl
    refine EV.step (fun k => by rw [impl_SlopeWord.l0]) ?_
    rw [w64 (x := (i : Int) * (a : Int)) (by omega) (by omega), hc, hmod, w64 (x := (n : Int) - (a : Int)) (by omega) (by omega), w64 (x := (i : Int) + 1) (by omega) (by omega)]
    refine EV.pos (by omega) (EV.neg (by omega) ?_)
    have next : ∀ x, slopeLetter p a n i = x → EV (fun k => impl_SlopeWord.l0 k (a : Int) (n : Int) s (acc ++ [x]) (n : Int) ((i : Int) + 1)) (acc ++ (List.range' i (d + 1)).map (slopeLetter p a n), true) := by
      intro x hx
      have := ih (i + 1) (acc ++ [x]) (by omega) (by simp; omega)
      rw [List.range'_succ, List.map_cons, hx]
      simpa using this
    unfold slopeLetter at next
    by_cases h : ((i * a % n : Nat) : Int) ≥ (n : Int) - (a : Int)
    · refine EV.pos h (EV.pos (by omega) (next s (by rw [if_neg (by omega), hs])))
    · exact EV.neg h (EV.pos (by omega) (next 1 (by rw [if_pos (by omega)])))
theorem impl_SlopeWord_is (p q : Int) : EV (fun k => impl_SlopeWord.f k p q) (wordM p q) := by
  have no : ∀ a p q, EV (fun k => impl_SlopeWord.j0 k a true p q) ([], false) := fun a p q => by
    refine EV.step (fun k => by rw [impl_SlopeWord.j0]) ?_
    exact EV.pos rfl (EV.now _)
  unfold wordM
  obtain ⟨m, hm⟩ := impl_size_some p
  refine EV.by hm (EV.bind (impl_IsSlope_is p q) ?_)
  by_cases hs : slopeB p q = true
  · have b := slopeB_bd hs
    refine EV.pos hs ?_
    obtain rfl : m = (p.natAbs : Int) := Option.some.inj (hm.symm.trans (impl_size_is p (by omega) (by omega)))
    rw [w64 (x := (p.natAbs : Int) + q) (by omega) (by omega)]
    by_cases hl : (p.natAbs : Int) + q > 24
    · rw [if_neg (by omega), decide_eq_true hl]; exact no _ p q
    · rw [if_pos ⟨hs, by omega⟩, decide_eq_false hl]
      refine EV.step (fun k => by rw [impl_SlopeWord.j0]) ?_
      refine EV.neg (by simp) (EV.by rfl ?_)
      rw [w64 (x := (p.natAbs : Int) + q) (by omega) (by omega)]
      have e : (p.natAbs : Int) + q = ((p.natAbs + q.toNat : Nat) : Int) := by omega
      rw [e]
      have go : ∀ s : Int, (s = if p < 0 then -2 else 2) → EV (fun k => impl_SlopeWord.j1 k (p.natAbs : Int) ((p.natAbs + q.toNat : Nat) : Int) s []) ((List.range (p.natAbs + q.toNat)).map (slopeLetter p p.natAbs (p.natAbs + q.toNat)), true) := by
        intro s hs
        refine EV.step (fun k => by rw [impl_SlopeWord.j1]) ?_
        have := impl_SlopeWord_l0 p q s p.natAbs (p.natAbs + q.toNat) hs b.2.2.1 (by omega) (by omega) (p.natAbs + q.toNat) 0 [] (by omega) rfl
        simpa [List.range_eq_range'] using this
      by_cases h : p < 0
      · exact EV.pos h (go (-2) (by rw [if_pos h]))
      · exact EV.neg h (go 2 (by rw [if_neg h]))
  · rw [if_neg (fun h => hs h.1)]
    exact EV.neg hs (no _ p q)

theorem spec_SlopeWord_l0 (p q : Int) (a n : Nat) (ha : (p.natAbs : Int) = a) (hq : 0 ≤ q) (hn : (n : Int) = a + q) (hm : n ≤ 24) : ∀ (d i : Nat) (acc : List Int), i + d = n → acc.length = i →
    EV (fun k => spec_SlopeWord.l0 k (a : Int) (n : Int) acc (i : Int) p q) (acc ++ (List.range' i d).map (slopeLetter p a n), true) := by
  intro d
  induction d with
  | zero =>
    intro i acc h1 h2
    refine EV.step (fun k => by rw [spec_SlopeWord.l0]) ?_
    exact EV.neg (by omega) ((EV.now _).eq (by simp))
  | succ d ih =>
    intro i acc h1 h2
    have hb := Nat.mul_le_mul (show i ≤ 24 by omega) (show a ≤ 24 by omega)
    have hc : ((i : Int) * (a : Int)) = ((i * a : Nat) : Int) := by simp
    have hmod : Int.tmod ((i * a : Nat) : Int) (n : Int) = ((i * a % n : Nat) : Int) := rfl
    refine EV.step (fun k => by rw [spec_SlopeWord.l0]) ?_
    rw [w64 (x := (i : Int) * (a : Int)) (by omega) (by omega), hc, hmod, w64 (x := (n : Int) - (a : Int)) (by omega) (by omega), w64 (x := (i : Int) + 1) (by omega) (by omega)]
    refine EV.pos (by omega) (EV.neg (by omega) ?_)
    have next : ∀ x, slopeLetter p a n i = x → EV (fun k => spec_SlopeWord.l0 k (a : Int) (n : Int) (acc ++ [x]) ((i : Int) + 1) p q) (acc ++ (List.range' i (d + 1)).map (slopeLetter p a n), true) := by
      intro x hx
      have := ih (i + 1) (acc ++ [x]) (by omega) (by simp; omega)
      rw [List.range'_succ, List.map_cons, hx]
      simpa using this
    unfold slopeLetter at next
    by_cases h : ((i * a % n : Nat) : Int) < (n : Int) - (a : Int)
    · refine EV.pos h (EV.pos (by omega) (next 1 (by rw [if_pos (by omega)])))
    · refine EV.neg h ?_
      by_cases hp : p < 0
      · refine EV.pos hp (EV.pos (by omega) (next (-2) (by rw [if_neg (by omega), if_pos hp])))
      · refine EV.neg hp (EV.pos (by omega) (next 2 (by rw [if_neg (by omega), if_neg hp])))
theorem spec_SlopeWord_is (p q : Int) : EV (fun k => spec_SlopeWord.f k p q) (wordM p q) := by
  have no : ∀ p q, EV (fun k => spec_SlopeWord.j0 k true p q) ([], false) := fun p q => by
    refine EV.step (fun k => by rw [spec_SlopeWord.j0]) ?_
    exact EV.pos rfl (EV.now _)
  unfold wordM
  refine EV.bind (spec_IsSlope_is p q) ?_
  by_cases hs : slopeB p q = true
  · have b := slopeB_bd hs
    refine EV.pos hs (EV.by (spec_l3Abs_is p (by omega) (by omega)) ?_)
    rw [w64 (x := (p.natAbs : Int) + q) (by omega) (by omega)]
    by_cases hl : (p.natAbs : Int) + q > 24
    · rw [if_neg (by omega), decide_eq_true hl]; exact no p q
    · rw [if_pos ⟨hs, by omega⟩, decide_eq_false hl]
      refine EV.step (fun k => by rw [spec_SlopeWord.j0]) ?_
      refine EV.neg (by simp) (EV.by (spec_l3Abs_is p (by omega) (by omega)) ?_)
      rw [w64 (x := (p.natAbs : Int) + q) (by omega) (by omega)]
      have e : (p.natAbs : Int) + q = ((p.natAbs + q.toNat : Nat) : Int) := by omega
      rw [e]
      have := spec_SlopeWord_l0 p q p.natAbs (p.natAbs + q.toNat) rfl b.2.2.1 (by omega) (by omega) (p.natAbs + q.toNat) 0 [] (by omega) rfl
      simpa [List.range_eq_range'] using this
  · rw [if_neg (fun h => hs h.1)]
    exact EV.neg hs (no p q)

theorem laws_sameInts_self (a : List Int) (ha : a.length ≤ 1048576) : EV (fun k => laws_sameInts.f k a a) true := by
  refine EV.pos rfl ?_
  have := EV.scan (g := fun k i => laws_sameInts.l0 k a a i) a (fun _ => true) true (fun i hi r H1 _ => ?_) ?_
  · rw [show (a.all fun _ => true) = true from List.all_eq_true.2 (fun _ _ => rfl), Bool.true_and] at this
    exact this
  · refine EV.step (fun k => by rw [laws_sameInts.l0]) ?_
    rw [w64 (x := (i : Int) + 1) (by omega) (by omega)]
    exact EV.pos (by omega) (EV.pos (by omega) (EV.pos (by omega) (EV.pos rfl (H1 rfl))))
  · refine EV.step (fun k => by rw [laws_sameInts.l0]) ?_
    exact EV.neg (by omega) (EV.now _)

theorem impl_IsBasisPair_is (a b c d : Int) : EV (fun k => impl_IsBasisPair.f k a b c d) (crossM a b c d == 1) := EV.bind (impl_CrossNumber_is a b c d) (EV.now _)

theorem impl_FormatInt_is (n : Int) (h1 : -9223372036854775808 ≤ n) (h2 : n ≤ 9223372036854775807) : impl_FormatInt.f n = some (fmtM n) := if_pos ⟨h1, h2⟩

theorem impl_SlopeText_is (p q : Int) : EV (fun k => impl_SlopeText.f k p q) (slopeTextM p q) := by
  unfold impl_SlopeText.f slopeTextM
  refine EV.bind (impl_IsSlope_is p q) ?_
  refine EV.cases (fun h => ?_) (fun h => (EV.now _).eq (by simp [h]))
  have b := slopeB_pq h
  have a1 := fmtM_size p (by omega) (by omega)
  have a2 := fmtM_size q (by omega) (by omega)
  refine EV.by (impl_FormatInt_is p (by omega) (by omega)) (EV.pos (by omega) (EV.by (impl_FormatInt_is q (by omega) (by omega)) (EV.pos ?_ ((EV.now _).eq (by simp [h])))))
  rw [app_size]; show (fmtM p).size + 1 + (fmtM q).size ≤ _; omega

theorem laws_magnitude_is (a : Int) (h : a.natAbs ≤ 1000000) : laws_magnitude.f a = some (a.natAbs : Int) := by
  unfold laws_magnitude.f
  split
  · rw [w64 (by omega) (by omega)]; congr 1; omega
  · congr 1; omega

theorem spec_l2Letter_is (a : Int) : spec_l2Letter.f a = some (letterB a) := by
  unfold spec_l2Letter.f
  rw [spec_l1In_is, spec_l1In_is]
  simp only [Option.bind_some]
  by_cases h : 1 ≤ a ∧ a ≤ 8
  · rw [if_pos (by simp [h])]; simp [letterB]; omega
  · rw [if_neg (by simpa using h)]; simp [letterB]; congr 1; rw [Bool.eq_iff_iff]; simp; omega

theorem spec_IsWord_is (xs : List Int) (hn : xs.length < 4611686018427387904) : EV (fun k => spec_IsWord.f k xs) (wordB xs) := by
  refine EV.scan (g := fun k i => spec_IsWord.l0 k xs i) xs letterB (decide (xs.length ≤ 24)) (fun i h r H1 H2 => ?_) ?_
  · refine EV.step (fun k => by rw [spec_IsWord.l0]) ?_
    rw [rd_nat _ _ h, w64 (x := (i : Int) + 1) (by omega) (by omega)]
    refine EV.pos (by omega) (EV.pos (by omega) (EV.by (spec_l2Letter_is _) ?_))
    exact EV.cases H1 (fun c => (EV.now _).eq (H2 (by simpa using c)).symm)
  · refine EV.step (fun k => by rw [spec_IsWord.l0]) ?_
    refine EV.neg (by omega) ((EV.now _).eq ?_)
    rw [Bool.eq_iff_iff]; simp; omega

theorem spec_LetterSums_is (xs : List Int) (hn : xs.length < 4611686018427387904) : EV (fun k => spec_LetterSums.f k xs) (if wordB xs = true then sumsM xs else []) := by
  refine EV.bind (spec_IsWord_is xs hn) ?_
  by_cases hw : wordB xs = true
  · refine EV.pos hw (EV.pos (by omega) ?_)
    rw [if_pos hw]
    have hxs := wordB_of hw
    refine EV.fold (g := fun k v i => spec_LetterSums.l0 k xs v i) xs addL id sumsI (fun i h v r hI H => ?_) (fun v hI => ?_) _ sumsI_zero
    · have hx := letterB_of (all_getElem hxs.1 i h)
      have hI' := sumsI_next hI xs[i]
      have hb := hI.2 (xs[i].natAbs - 1)
      have H := H hI'
      refine EV.step (fun k => by rw [spec_LetterSums.l0]) ?_
      rw [rd_nat _ _ h, w64 (x := (i : Int) + 1) (by omega) (by omega)]
      refine EV.pos (by omega) (EV.pos (by omega) ?_)
      by_cases hp : xs[i] > 0
      · rw [w64 (x := xs[i] - 1) (by omega) (by omega)]
        refine EV.pos hp (EV.pos (by omega) (EV.pos (by have := hI.1; omega) ?_))
        have e : (xs[i] - 1).toNat = xs[i].natAbs - 1 := by omega
        unfold rd
        rw [e, w64 (by omega) (by omega)]
        simpa only [addL, if_pos hp] using H
      · rw [w64 (x := -xs[i]) (by omega) (by omega), w64 (x := -xs[i] - 1) (by omega) (by omega)]
        refine EV.neg hp (EV.pos (by omega) (EV.pos (by have := hI.1; omega) ?_))
        have e : (-xs[i] - 1).toNat = xs[i].natAbs - 1 := by omega
        unfold rd
        rw [e, w64 (by omega) (by omega)]
        simpa only [addL, if_neg (show ¬ 0 < xs[i] from hp)] using H
    · refine EV.step (fun k => by rw [spec_LetterSums.l0]) ?_
      exact EV.neg (by omega) (EV.now _)
  · exact EV.neg hw ((EV.now _).eq (by rw [if_neg hw]))

theorem redM_take (w : List Int) (i : Nat) (h : i < w.length) : redM (w.take (i + 1)) = redStep (redM (w.take i)) w[i] := by
  unfold redM
  rw [List.take_succ_eq_append_getElem h, List.foldl_append]; rfl
theorem spec_l2Reduce_is (w : List Int) (hw : ∀ x ∈ w, letterB x = true) (hn : w.length < 4294967296) : EV (fun k => spec_l2Reduce.f k w) (redM w) := by
  refine EV.count (g := fun k s i => spec_l2Reduce.l0 k w s i) w.length (fun i => redM (w.take i)) _ (fun i h H => ?_) ?_
  · have hx := letterB_of (hw _ (List.getElem_mem h))
    have hl := redM_len (w.take i)
    rw [List.length_take] at hl
    rw [redM_take w i h] at H
    refine EV.step (fun k => by rw [spec_l2Reduce.l0]) ?_
    rw [rd_nat _ _ h, w64 (x := (i : Int) + 1) (by omega) (by omega), w64 (x := -w[i]) (by omega) (by omega)]
    refine EV.pos (by omega) ?_
    generalize redM (w.take i) = s at *
    unfold redStep at H
    by_cases h0 : 0 < s.length
    · have e : rd s ((s.length : Int) - 1) = s.getD (s.length - 1) 0 := by
        unfold rd; rw [show ((s.length : Int) - 1).toNat = s.length - 1 by omega]
      rw [w64 (x := (s.length : Int) - 1) (by omega) (by omega), e]
      refine EV.pos (by omega) (EV.pos (by omega) (EV.pos (by omega) (EV.pos (by omega) ?_)))
      by_cases hc : s.getD (s.length - 1) 0 = -w[i]
      · rw [if_pos ⟨h0, hc⟩] at H
        refine EV.pos hc (EV.pos (by omega) ?_)
        rw [show ((s.length : Int) - 1).toNat = s.length - 1 by omega]
        exact H
      · rw [if_neg (fun c => hc c.2)] at H
        exact EV.neg hc (EV.pos (by omega) H)
    · rw [if_neg (fun c => h0 c.1)] at H
      exact EV.neg (by omega) (EV.pos (by omega) (EV.pos (by omega) H))
  · refine EV.step (fun k => by rw [spec_l2Reduce.l0]) ?_
    rw [List.take_length]
    exact EV.neg (by omega) (EV.now _)

theorem spec_l2Core_is {w : List Int} (hw : ∀ x ∈ w, letterB x = true) (hn : w.length ≤ 1000) (hr : redM w = w) (hc : ¬ (2 ≤ w.length ∧ w.getD 0 0 = -(w.getD (w.length - 1) 0))) : EV (fun k => spec_l2Core.f k w) w := by
  have R := spec_l2Reduce_is w hw (by omega)
  rw [hr] at R
  refine EV.bind R (EV.bind (EV.step (fun k => by rw [spec_l2Core.l0]) (EV.neg ?_ (EV.now _))) (EV.pos ⟨by omega, by omega⟩ (EV.now _)))
  rintro ⟨h1, h2⟩
  have h3 : 2 ≤ w.length := by omega
  refine hc ⟨h3, ?_⟩
  have e0 : rd w 0 = w.getD 0 0 := rfl
  have e1 : rd w ((w.length : Int) - 1) = w.getD (w.length - 1) 0 := by
    rw [show ((w.length : Int) - 1) = ((w.length - 1 : Nat) : Int) by omega]; rfl
  have b := hw _ (List.getElem_mem (show w.length - 1 < w.length by omega))
  have eg : w.getD (w.length - 1) 0 = w[w.length - 1] := by rw [List.getD_eq_getElem?_getD, List.getElem?_eq_getElem (by omega), Option.getD_some]
  have lb := letterB_of b
  rw [e0, e1, eg, w64 (by omega) (by omega)] at h2
  rw [eg]; exact h2

theorem spec_CoreWord_is {w : List Int} (hw : wordB w = true) (hr : redM w = w) (hc : ¬ (2 ≤ w.length ∧ w.getD 0 0 = -(w.getD (w.length - 1) 0))) : EV (fun k => spec_CoreWord.f k w) w := by
  have B := wordB_of hw
  exact EV.bind (spec_IsWord_is w (by omega)) (EV.pos hw (EV.bind (spec_l2Core_is B.1 (by omega) hr hc) (EV.now _)))

theorem wordM_len (p q : Int) : (wordM p q).1.length ≤ 24 := by
  unfold wordM
  split
  · rename_i h
    have b := slopeB_bd h.1
    simp; omega
  · simp
theorem fs_ev (b : List Int) (hb : b.length ≤ 140737488351232) : EV (fun k => laws_FnSlopes.f k b) true := by
  by_cases h : (b.length : Int) > 1048576
  · refine EV.by (show laws_big.f b = some true by unfold laws_big.f; rw [decide_eq_true h]) ?_
    exact EV.pos rfl (EV.now _)
  · have hb' : b.length ≤ 1048576 := by omega
    obtain ⟨a0, a1, b0, b1, Ea⟩ := spec_DrawCrossNumber_is b hb'
    obtain ⟨p, q, Ep⟩ := spec_DrawSlopeOf_is b hb'
    obtain ⟨t, Et, tl⟩ := spec_DrawParseSlope_is b hb'
    obtain ⟨c0, c1, d0, d1, n, Ec, hn⟩ := spec_DrawTwistSlope_is b hb'
    have wl := wordM_len a0 a1
    -- the last way: the word of a
    have j4 : EV (fun k => laws_FnSlopes.j4 k (wordM a0 a1).1 (wordM a0 a1).2 a0 a1) true := by
      refine EV.step (fun k => by rw [laws_FnSlopes.j4]) ?_
      by_cases hw : (wordM a0 a1).2 = true
      · obtain ⟨hs, w0, w1, wn, wb, wr, wc⟩ := word_ok hw
        have bd := slopeB_bd hs
        have sl := sumsM_len (wordM a0 a1).1
        have L := spec_LetterSums_is (wordM a0 a1).1 (by omega)
        rw [if_pos wb] at L
        have r0 : rd (sumsM (wordM a0 a1).1) 0 = a1 := w0
        have r1 : rd (sumsM (wordM a0 a1).1) 1 = a0 := w1
        refine EV.pos hw (EV.bind L (EV.pos (by omega) (EV.pos r0 (EV.pos (by omega) (EV.pos r1 (EV.by (laws_magnitude_is a0 (by omega)) ?_))))))
        refine EV.pos (by rw [w64 (x := a1 + (a0.natAbs : Int)) (by omega) (by omega)]; exact wn) (EV.bind (spec_CoreWord_is wb wr wc) ?_)
        exact (EV.now _).eq (by simp)
      · exact EV.neg hw (EV.now _)
    have j3 : EV (fun k => laws_FnSlopes.j3 k n (twistSM c0 c1 d0 d1 n).2.2 (wordM a0 a1).1 (wordM a0 a1).2 false a0 a1 c0 c1 d0 d1 (twistSM c0 c1 d0 d1 n).1 (twistSM c0 c1 d0 d1 n).2.1) true := by
      refine EV.step (fun k => by rw [laws_FnSlopes.j3]) ?_
      refine EV.neg (by simp) ?_
      by_cases ht : (twistSM c0 c1 d0 d1 n).2.2 = true
      · obtain ⟨h1, h2, h3⟩ := twist_slopes ht
        obtain ⟨x1, x2⟩ := twist_cross ht
        have Z := impl_TwistSlope_is c0 c1 d0 d1 0
        rw [twist_zero h1 h2] at Z
        have cb : 0 ≤ crossM c0 c1 d0 d1 ∧ crossM c0 c1 d0 d1 ≤ 2000000 := by
          have := (cross_w h1 h2).2.2
          unfold crossM
          rw [if_pos ⟨h1, h2⟩]; omega
        refine EV.pos ht (EV.bind Z (EV.bind (impl_CrossNumber_is _ _ _ _) (EV.bind (impl_CrossNumber_is _ _ _ _) (EV.pos x1 (EV.pos rfl (EV.neg (by simp) ?_))))))
        refine EV.bind (impl_CrossNumber_is _ _ _ _) (EV.by (laws_magnitude_is n hn) (EV.bind (impl_CrossNumber_is _ _ _ _) (EV.bind (impl_CrossNumber_is _ _ _ _) (EV.pos ?_ j4))))
        have m1 := mul_bd (x := (n.natAbs : Int)) (y := crossM c0 c1 d0 d1) 20 2000000 (by omega) (by omega)
        have m2 := mul_bd (x := (n.natAbs : Int) * crossM c0 c1 d0 d1) (y := crossM c0 c1 d0 d1) 40000000 2000000 (by omega) (by omega)
        rw [x2, w64 (x := (n.natAbs : Int) * crossM c0 c1 d0 d1) (by omega) (by omega), w64 (by omega) (by omega)]
      · exact EV.neg ht j4
    have j2 : EV (fun k => laws_FnSlopes.j2 k n (twistSM c0 c1 d0 d1 n).2.2 (sumM a0 a1 b0 b1).2.2 (wordM a0 a1).1 (wordM a0 a1).2 false a0 a1 b0 b1 c0 c1 d0 d1 (twistSM c0 c1 d0 d1 n).1 (twistSM c0 c1 d0 d1 n).2.1 (sumM a0 a1 b0 b1).1 (sumM a0 a1 b0 b1).2.1) true := by
      refine EV.step (fun k => by rw [laws_FnSlopes.j2]) ?_
      refine EV.neg (by simp) ?_
      by_cases hs : (sumM a0 a1 b0 b1).2.2 = true
      · obtain ⟨x1, x2⟩ := sum_cross hs
        refine EV.pos hs (EV.bind (impl_CrossNumber_is _ _ _ _) (EV.pos x1 (EV.bind (impl_CrossNumber_is _ _ _ _) ?_)))
        rw [x2]; exact j3
      · exact EV.neg hs j3
    have j1 : EV (fun k => laws_FnSlopes.j1 k (crossM a0 a1 b0 b1) (slopeOfM p q).2.2 n (twistSM c0 c1 d0 d1 n).2.2 (sumM a0 a1 b0 b1).2.2 (wordM a0 a1).1 (wordM a0 a1).2 false a0 a1 b0 b1 (slopeOfM p q).1 (slopeOfM p q).2.1 c0 c1 d0 d1 (twistSM c0 c1 d0 d1 n).1 (twistSM c0 c1 d0 d1 n).2.1 (sumM a0 a1 b0 b1).1 (sumM a0 a1 b0 b1).2.1) true := by
      refine EV.step (fun k => by rw [laws_FnSlopes.j1]) ?_
      refine EV.neg (by simp) (EV.bind (impl_CrossNumber_is _ _ _ _) (EV.pos (cross_symm _ _ _ _) (EV.bind (spec_IsSlope_is a0 a1) ?_)))
      have ok : ∀ (X : Nat → Bool → Option Bool), EV (fun k => X k false) true → EV (fun k => if (slopeOfM p q).2.2 = true then (spec_IsSlope.f k (slopeOfM p q).1 (slopeOfM p q).2.1).bind fun t => X k (!t) else X k false) true := by
        intro X H
        by_cases ho : (slopeOfM p q).2.2 = true
        · refine EV.pos ho (EV.bind (spec_IsSlope_is _ _) ?_)
          rw [slope_ok ho]; exact H
        · exact EV.neg ho H
      by_cases hs : slopeB a0 a1 = true
      · refine EV.pos hs (EV.bind (impl_CrossNumber_is _ _ _ _) (EV.pos (cross_self hs) (ok (fun k f => laws_FnSlopes.j2 k n (twistSM c0 c1 d0 d1 n).2.2 (sumM a0 a1 b0 b1).2.2 (wordM a0 a1).1 (wordM a0 a1).2 f a0 a1 b0 b1 c0 c1 d0 d1 (twistSM c0 c1 d0 d1 n).1 (twistSM c0 c1 d0 d1 n).2.1 (sumM a0 a1 b0 b1).1 (sumM a0 a1 b0 b1).2.1) j2)))
      · exact EV.neg hs (ok (fun k f => laws_FnSlopes.j2 k n (twistSM c0 c1 d0 d1 n).2.2 (sumM a0 a1 b0 b1).2.2 (wordM a0 a1).1 (wordM a0 a1).2 f a0 a1 b0 b1 c0 c1 d0 d1 (twistSM c0 c1 d0 d1 n).1 (twistSM c0 c1 d0 d1 n).2.1 (sumM a0 a1 b0 b1).1 (sumM a0 a1 b0 b1).2.1) j2)
    have j0 : EV (fun k => laws_FnSlopes.j0 k (crossM a0 a1 b0 b1) (slopeOfM p q).2.2 n (twistSM c0 c1 d0 d1 n).2.2 (sumM a0 a1 b0 b1).2.2 (wordM a0 a1).1 (wordM a0 a1).2 false a0 a1 b0 b1 (slopeOfM p q).1 (slopeOfM p q).2.1 c0 c1 d0 d1 (twistSM c0 c1 d0 d1 n).1 (twistSM c0 c1 d0 d1 n).2.1 (sumM a0 a1 b0 b1).1 (sumM a0 a1 b0 b1).2.1) true := by
      refine EV.step (fun k => by rw [laws_FnSlopes.j0]) ?_
      have ts := slope_text_small a0 a1
      refine EV.neg (by simp) (EV.bind (impl_SlopeText_is a0 a1) (EV.bind (impl_ParseSlope_is _ (by omega)) (EV.bind (spec_SlopeText_is a0 a1) (EV.pos rfl (EV.bind (spec_IsSlope_is a0 a1) ?_)))))
      by_cases hs : slopeB a0 a1 = true
      · rw [parse_text hs, hs]
        refine EV.neg (by simp) (EV.pos rfl ?_)
        have e : (!(a0 == a0) || !(a1 == a1)) = false := by simp
        rw [e]; exact j1
      · rw [parse_none hs]
        have hf : slopeB a0 a1 = false := by simpa using hs
        rw [hf]
        exact EV.neg (by simp) (EV.neg (by simp) j1)
    refine EV.by (laws_big_no b h) (EV.neg (by simp) ?_)
    refine EV.bind Ea (EV.bind (impl_CrossNumber_is _ _ _ _) (EV.bind Ep (EV.bind (impl_SlopeOf_is _ _) (EV.bind (spec_SlopeOf_is _ _) ?_))))
    refine EV.bind Et (EV.bind (impl_ParseSlope_is t (by omega)) (EV.bind (spec_ParseSlope_is t (by omega)) (EV.bind Ec (EV.bind (impl_TwistSlope_is _ _ _ _ _) (EV.bind (spec_TwistSlope_is _ _ _ _ _) ?_)))))
    refine EV.bind (impl_SumSlope_is _ _ _ _) (EV.bind (spec_SumSlope_is _ _ _ _) (EV.bind (impl_SlopeWord_is _ _) (EV.bind (spec_SlopeWord_is _ _) (EV.bind (spec_CrossNumber_is _ _ _ _) (EV.pos rfl ?_)))))
    refine EV.neg (by simp) (EV.neg (by simp) (EV.neg (by simp) (EV.neg (by simp) (EV.neg (by simp) (EV.neg (by simp) (EV.neg (by simp) (EV.neg (by simp) (EV.neg (by simp) ?_))))))))
    refine EV.bind (laws_sameInts_self _ (show (wordM a0 a1).1.length ≤ 1048576 by omega)) (EV.pos rfl (EV.bind (impl_IsSlope_is _ _) (EV.bind (spec_IsSlope_is _ _) (EV.neg (by simp) (EV.bind (impl_IsBasisPair_is _ _ _ _) ?_)))))
    rw [show ((crossM a0 a1 b0 b1 == 1) != (crossM a0 a1 b0 b1 == 1)) = false by simp]
    exact j0
theorem FnSlopes : laws_FnSlopes.Pure := by
  intro b h1 h2 h3
  exact EV.rounds (fs_ev b (by omega))

end Go.Proofs.YtomjfejacjphnaaDoor.Pure
