/- Pure side of FnTwists: at every input the printed law answers true: twists keep the form, are undone, and braid or commute as the form tells; no condition beyond the printed statement's bounds. -/
import Derived.Test.YtimjefomgaaegaaVFnTwists
import Derived.Test.YtimjefomgaaegaaWSized
set_option linter.unusedVariables false
set_option linter.unusedSimpArgs false
set_option linter.unnecessarySimpa false
set_option maxRecDepth 10000
/-- the printed row calls the print's word by this name -/
abbrev Go.Proofs.Ytimjefomgaaegaa.PrintWords.sized_ints := @Go.Proofs.YtimjefomgaaegaaW.PrintWords.sized_ints
namespace Go.Proofs.Ytimjefomgaaegaa.Pure
open Go.RowKit Go.Proofs.Ytimjefomgaaegaa.PFnTwists Go.Proofs.YtimjefomgaaegaaW.PrintWords Go.Proofs.YtimjefomgaaegaaW.PrintLast Go.Proofs.YtimjefomgaaegaaW.PrintMore

/-! ### Base: words of our own, of no program -/
section
theorem w64 {x : Int} (h1 : -9223372036854775808 ≤ x) (h2 : x ≤ 9223372036854775807) : wrap64 x = x := by
  unfold wrap64; omega
theorem wf64 {x : Int} (h : (Lit.int .i64 x).wf = true) : -9223372036854775808 ≤ x ∧ x ≤ 9223372036854775807 := by
  simp only [Lit.wf, IntKind.min, IntKind.max, IntKind.signed, IntKind.bits, Bool.and_eq_true, decide_eq_true_eq, if_true] at h
  omega
/-- from some number of rounds on it answers r -/
structure EV {α : Type} (g : Nat → Option α) (r : α) : Prop where mk :: (out : ∃ K, ∀ k, K ≤ k → g k = some r)
theorem EV.now {α : Type} (r : α) : EV (fun _ => some r) r := ⟨0, fun _ _ => rfl⟩
theorem EV.rounds {α : Type} {g : Nat → Option α} {r : α} (h : EV g r) : ∃ k, g k = some r := by
  obtain ⟨K, h⟩ := h
  exact ⟨K, h K (Nat.le_refl _)⟩
theorem EV.bind {α β : Type} {g : Nat → Option α} {f : Nat → α → Option β} {a : α} {r : β} (h : EV g a) (k : EV (fun n => f n a) r) : EV (fun n => (g n).bind (f n)) r := by
  obtain ⟨K, h⟩ := h
  obtain ⟨K', k⟩ := k
  refine ⟨max K K', fun n hn => ?_⟩
  have h1 := h n (by omega)
  have h2 := k n (by omega)
  simp only [h1, Option.bind_some]
  exact h2
theorem EV.step {α : Type} {g f : Nat → Option α} {r : α} (h : ∀ k, g (k + 1) = f k) (k : EV f r) : EV g r := by
  obtain ⟨K, k⟩ := k
  refine ⟨K + 1, fun n hn => ?_⟩
  obtain ⟨m, rfl⟩ : ∃ m, n = m + 1 := ⟨n - 1, by omega⟩
  rw [h]
  exact k m (by omega)
theorem EV.congr {α : Type} {g f : Nat → Option α} {r : α} (h : ∀ k, g k = f k) (k : EV f r) : EV g r := by
  obtain ⟨K, k⟩ := k
  exact ⟨K, fun n hn => (h n).trans (k n hn)⟩
theorem EV.pos {α : Type} {c : Prop} [Decidable c] {a b : Nat → Option α} {r : α} (h : c) (k : EV a r) : EV (fun n => if c then a n else b n) r :=
  EV.congr (fun n => if_pos h) k
theorem EV.neg {α : Type} {c : Prop} [Decidable c] {a b : Nat → Option α} {r : α} (h : ¬ c) (k : EV b r) : EV (fun n => if c then a n else b n) r :=
  EV.congr (fun n => if_neg h) k
theorem EV.cases {α : Type} {c : Prop} [Decidable c] {a b : Nat → Option α} {r : α} (h : c → EV a r) (h' : ¬ c → EV b r) : EV (fun n => if c then a n else b n) r := by
  by_cases hc : c
  · exact EV.pos hc (h hc)
  · exact EV.neg hc (h' hc)
/-- a callee without rounds -/
theorem EV.by {α β : Type} {g : Option α} {f : Nat → α → Option β} {a : α} {r : β} (h : g = some a) (k : EV (fun n => f n a) r) : EV (fun n => g.bind (f n)) r := by
  subst h; exact k
theorem EV.is {α : Type} {g : Option α} {r : α} (h : g = some r) : EV (fun _ => g) r := ⟨0, fun _ _ => h⟩
theorem EV.eq {α : Type} {g : Nat → Option α} {r r' : α} (h : EV g r) (e : r = r') : EV g r' := e ▸ h
theorem rd_app (pre : List Int) (x : Int) (suf : List Int) : rd (pre ++ x :: suf) (pre.length : Int) = x := by
  simp [rd]
theorem rd_nat (xs : List Int) (i : Nat) (h : i < xs.length) : rd xs (i : Int) = xs[i] := by
  simp [rd, h]
theorem set_app {α : Type} (pre : List α) (x y : α) (suf : List α) (n : Nat) (hn : n = pre.length) : (pre ++ x :: suf).set n y = pre ++ y :: suf := by
  subst hn; simp
end
def smallB (x : Int) : Bool := decide (-1000 ≤ x ∧ x ≤ 1000)
/-- one index on -/
theorem up {α : Type} {x : α} {pre : List α} (h : pre.length < 4611686018427387904) : wrap64 ((pre.length : Int) + 1) = ((pre ++ [x]).length : Int) := by
  rw [w64 (by omega) (by omega)]; simp
theorem lt_app {α : Type} (pre : List α) (x : α) (suf : List α) : (pre.length : Int) < ((pre ++ x :: suf).length : Int) := by simp; omega
def classB (g : Int) (xs : List Int) : Bool := decide (1 ≤ g ∧ g ≤ 3) && (decide ((xs.length : Int) = 2 * g) && xs.all smallB)
theorem EV.uniq {α : Type} {g : Nat → Option α} {r r' : α} (h : EV g r) (h' : EV g r') : r = r' := by
  obtain ⟨K, h⟩ := h
  obtain ⟨K', h'⟩ := h'
  have a := h (max K K') (by omega)
  have b := h' (max K K') (by omega)
  rw [a] at b; exact Option.some.inj b
/-- from some number of rounds on -/
def Evt (P : Nat → Prop) : Prop := ∃ K, ∀ k, K ≤ k → P k
theorem Evt.and {P Q : Nat → Prop} (h : Evt P) (h' : Evt Q) : Evt (fun k => P k ∧ Q k) := by
  obtain ⟨K, h⟩ := h
  obtain ⟨K', h'⟩ := h'
  exact ⟨max K K', fun k hk => ⟨h k (by omega), h' k (by omega)⟩⟩
theorem Evt.const {p : Prop} (h : p) : Evt (fun _ => p) := ⟨0, fun _ _ => h⟩
theorem EV.evt {α : Type} {g : Nat → Option α} {r : α} (h : EV g r) : Evt (fun k => g k = some r) := h.out
theorem Evt.imp {P Q : Nat → Prop} (h : Evt P) (f : ∀ k, P k → Q k) : Evt Q := by
  obtain ⟨K, h⟩ := h
  exact ⟨K, fun k hk => f k (h k hk)⟩
theorem Evt.rounds {P : Nat → Prop} (h : Evt P) : ∃ k, P k := by
  obtain ⟨K, h⟩ := h
  exact ⟨K, h K (Nat.le_refl _)⟩
theorem EV.mono {α : Type} {g : Nat → Option α} (hg : ∀ k, LeO (g k) (g (k + 1))) {k : Nat} {r : α} (h : g k = some r) : EV g r := ⟨k, fun _ hk => at_rounds hg hk h⟩

def marks : Nat → Int → List Int
  | 0, _ => []
  | n + 1, k => k :: marks n (k + 1)
theorem marks_length (n : Nat) : ∀ k, (marks n k).length = n := by
  induction n with
  | zero => intro k; rfl
  | succ n ih => intro k; simp [marks, ih]

theorem rdL_app (pre : List (List Int)) (x : List Int) (suf : List (List Int)) : rd_L2 (pre ++ x :: suf) (pre.length : Int) = x := by
  simp [rd_L2]
theorem rdL_nat (xs : List (List Int)) (i : Nat) (h : i < xs.length) : rd_L2 xs (i : Int) = xs[i] := by
  simp [rd_L2, h]

def total : List (List Int) → Nat
  | [] => 0
  | r :: rs => r.length + total rs
def marksL : List (List Int) → Int → List (List Int)
  | [], _ => []
  | r :: rs, k => marks r.length k :: marksL rs (k + r.length)
theorem total_mem {r : List Int} : ∀ {xs : List (List Int)}, r ∈ xs → r.length ≤ total xs
  | [], h => by cases h
  | x :: xs, h => by
    rcases List.mem_cons.1 h with rfl | h
    · simp [total]
    · have := total_mem h; simp only [total]; omega
theorem marksL_length : ∀ (xs : List (List Int)) (k : Int), (marksL xs k).length = xs.length
  | [], _ => rfl
  | x :: xs, k => by simp [marksL, marksL_length xs]
/-- what szIntSS answers -/
def szM (xs : List (List Int)) (left : Int) : Int := if (xs.length : Int) + total xs ≤ left then left - xs.length - total xs else -1

theorem gcd_step (a b : Int) : Nat.gcd b.natAbs (Int.tmod a b).natAbs = Nat.gcd a.natAbs b.natAbs := by
  rw [Int.natAbs_tmod, Nat.gcd_comm b.natAbs, ← Nat.gcd_rec, Nat.gcd_comm]
theorem tmod_lt (a b : Int) (h : b ≠ 0) : (Int.tmod a b).natAbs < b.natAbs := by
  rw [Int.natAbs_tmod]; exact Nat.mod_lt _ (by omega)
def slopeB (p q : Int) : Bool := decide (-1000 ≤ p ∧ p ≤ 1000) && (decide (0 ≤ q ∧ q ≤ 1000) && (decide (Nat.gcd p.natAbs q.natAbs = 1) && (decide (0 < q) || decide (p = 1))))
/-- p, q by their greatest common divisor, the sign so that q is above 0, or p -/
def lowM (p q : Int) : Int × Int :=
  let d : Int := (Nat.gcd p.natAbs q.natAbs : Nat)
  if q < 0 ∨ (q = 0 ∧ p < 0) then (-(p.tdiv d), -(q.tdiv d)) else (p.tdiv d, q.tdiv d)
def slopeOfM (p q : Int) : Int × Int × Bool :=
  if -1000 ≤ p ∧ p ≤ 1000 then (if -1000 ≤ q ∧ q ≤ 1000 then (if p = 0 ∧ q = 0 then (0, 0, false) else ((lowM p q).1, (lowM p q).2, true)) else (0, 0, false)) else (0, 0, false)
theorem low_of (p q : Int) (hp : -1000 ≤ p ∧ p ≤ 1000) (hq : -1000 ≤ q ∧ q ≤ 1000) (hz : ¬ (p = 0 ∧ q = 0)) :
    ∃ d a b : Int, ((Nat.gcd p.natAbs q.natAbs : Nat) : Int) = d ∧ 0 < d ∧ d ≤ 1000 ∧ p.tdiv d = a ∧ q.tdiv d = b ∧ p = d * a ∧ q = d * b ∧ -1000 ≤ a ∧ a ≤ 1000 ∧ -1000 ≤ b ∧ b ≤ 1000 ∧ (q < 0 ↔ b < 0) ∧ (q = 0 ↔ b = 0) ∧ (p < 0 ↔ a < 0) := by
  have hg : 0 < Nat.gcd p.natAbs q.natAbs := by
    rcases Nat.eq_zero_or_pos (Nat.gcd p.natAbs q.natAbs) with h | h
    · have := Nat.gcd_eq_zero_iff.1 h; omega
    · exact h
  have h1 : Nat.gcd p.natAbs q.natAbs ≤ 1000 := by
    by_cases h : p = 0
    · have := Nat.gcd_le_right p.natAbs (n := q.natAbs) (by omega); omega
    · have := Nat.gcd_le_left q.natAbs (m := p.natAbs) (by omega); omega
  obtain ⟨a, ha⟩ : ∃ a, p = ((Nat.gcd p.natAbs q.natAbs : Nat) : Int) * a := Int.ofNat_dvd_left.2 (Nat.gcd_dvd_left ..)
  obtain ⟨b, hb⟩ : ∃ b, q = ((Nat.gcd p.natAbs q.natAbs : Nat) : Int) * b := Int.ofNat_dvd_left.2 (Nat.gcd_dvd_right ..)
  generalize hd : ((Nat.gcd p.natAbs q.natAbs : Nat) : Int) = d at *
  have hdp : 0 < d := by omega
  have e1 : p.tdiv d = a := by rw [ha]; exact Int.mul_tdiv_cancel_left _ (by omega)
  have e2 : q.tdiv d = b := by rw [hb]; exact Int.mul_tdiv_cancel_left _ (by omega)
  have bnd : ∀ x y : Int, x = d * y → -1000 ≤ x → x ≤ 1000 → -1000 ≤ y ∧ y ≤ 1000 ∧ (x < 0 ↔ y < 0) ∧ (x = 0 ↔ y = 0) := by
    intro x y h h1 h2
    have k1 : 0 < y → y ≤ d * y := fun hy => by have := Int.mul_le_mul_of_nonneg_right (show 1 ≤ d by omega) (show 0 ≤ y by omega); omega
    have k2 : y < 0 → d * y ≤ y := fun hy => by have := Int.mul_le_mul_of_nonpos_right (show 1 ≤ d by omega) (show y ≤ 0 by omega); omega
    have k3 : y = 0 → d * y = 0 := fun hy => by rw [hy]; simp
    rw [← h] at k1 k2 k3
    rcases Int.lt_trichotomy y 0 with hy | hy | hy
    · have := k2 hy; omega
    · have := k3 hy; omega
    · have := k1 hy; omega
  have B1 := bnd p a ha hp.1 hp.2
  have B2 := bnd q b hb hq.1 hq.2
  exact ⟨d, a, b, rfl, hdp, by omega, e1, e2, ha, hb, by omega, by omega, by omega, by omega, B2.2.2.1, B2.2.2.2, B1.2.2.1⟩

def crossM (a b c d : Int) : Int := if slopeB a b = true ∧ slopeB c d = true then ((a * d - b * c).natAbs : Int) else -1
theorem slopeB_bd {p q : Int} (h : slopeB p q = true) : -1000 ≤ p ∧ p ≤ 1000 ∧ 0 ≤ q ∧ q ≤ 1000 ∧ Nat.gcd p.natAbs q.natAbs = 1 ∧ (0 < q ∨ p = 1) := by
  unfold slopeB at h
  simp only [Bool.and_eq_true, Bool.or_eq_true, decide_eq_true_eq] at h
  omega
/-- a product of two numbers of bounded size -/
theorem mul_bd {x y : Int} (A B : Nat) (hx : x.natAbs ≤ A) (hy : y.natAbs ≤ B) : (x * y).natAbs ≤ A * B := by
  rw [Int.natAbs_mul]; exact Nat.mul_le_mul hx hy
theorem cross_w {a b c d : Int} (h1 : slopeB a b = true) (h2 : slopeB c d = true) : wrap64 (a * d) = a * d ∧ wrap64 (b * c) = b * c ∧ (a * d - b * c).natAbs ≤ 2000000 := by
  have b1 := slopeB_bd h1
  have b2 := slopeB_bd h2
  have m1 := mul_bd (x := a) (y := d) 1000 1000 (by omega) (by omega)
  have m2 := mul_bd (x := b) (y := c) 1000 1000 (by omega) (by omega)
  refine ⟨w64 (by omega) (by omega), w64 (by omega) (by omega), by omega⟩

def formM : List Int → List Int → Int
  | a :: b :: xs, c :: d :: ys => (a * d - b * c) + formM xs ys
  | _, _ => 0
theorem smallB_bd {x : Int} (h : smallB x = true) : -1000 ≤ x ∧ x ≤ 1000 := by simpa [smallB] using h
theorem form_term {a b c d : Int} (ha : smallB a = true) (hb : smallB b = true) (hc : smallB c = true) (hd : smallB d = true) : (a * d).natAbs ≤ 1000000 ∧ (b * c).natAbs ≤ 1000000 := by
  have := smallB_bd ha; have := smallB_bd hb; have := smallB_bd hc; have := smallB_bd hd
  exact ⟨mul_bd 1000 1000 (by omega) (by omega), mul_bd 1000 1000 (by omega) (by omega)⟩
theorem formM_bd : ∀ (n : Nat) (xs ys : List Int), xs.length ≤ n → xs.all smallB = true → ys.all smallB = true → (formM xs ys).natAbs ≤ 1000000 * xs.length
  | 0, xs, ys, hn, _, _ => by
    have : xs = [] := List.eq_nil_of_length_eq_zero (by omega)
    subst this; simp [formM]
  | n + 1, xs, ys, hn, hx, hy => by
    match xs, ys with
    | a :: b :: xs, c :: d :: ys =>
      simp only [List.all_cons, Bool.and_eq_true, List.length_cons] at hx hy hn
      have t := form_term hx.1 hx.2.1 hy.1 hy.2.1
      have r := formM_bd n xs ys (by omega) hx.2.2 hy.2.2
      simp only [formM, List.length_cons]; omega
    | [], _ => simp [formM]
    | [_], _ => simp [formM]
    | _ :: _ :: _, [] => simp [formM]
    | _ :: _ :: _, [_] => simp [formM]
theorem rd_app1 (pre : List Int) (x y : Int) (suf : List Int) (i : Int) (h : i = pre.length + 1) : rd (pre ++ x :: y :: suf) i = y := by
  subst h
  have := rd_app (pre ++ [x]) y suf
  simpa using this

def rowB (n : Nat) (r : List Int) : Bool := decide (r.length = n) && r.all smallB
def tableB (t : List (List Int)) : Bool := t.all (rowB t.length) && decide (1 ≤ t.length ∧ t.length ≤ 6)
def dot : List Int → List Int → Int
  | a :: r, b :: x => a * b + dot r x
  | _, _ => 0
def outM (o : List Int) : List Int × Bool := if o.all smallB = true then (o, true) else ([], false)
def applyM (t : List (List Int)) (x : List Int) : List Int × Bool :=
  if tableB t = true ∧ x.length = t.length ∧ x.all smallB = true then outM (t.map fun r => dot r x) else ([], false)
theorem rowB_of {n : Nat} {r : List Int} (h : rowB n r = true) : r.length = n ∧ r.all smallB = true := by simpa [rowB] using h
theorem term_bd {a b : Int} (ha : smallB a = true) (hb : smallB b = true) : (a * b).natAbs ≤ 1000000 := by
  have := smallB_bd ha; have := smallB_bd hb
  exact mul_bd 1000 1000 (by omega) (by omega)
theorem tableB_of {t : List (List Int)} (h : tableB t = true) : (∀ r ∈ t, r.length = t.length ∧ r.all smallB = true) ∧ 1 ≤ t.length ∧ t.length ≤ 6 := by
  unfold tableB at h
  rw [Bool.and_eq_true, List.all_eq_true, decide_eq_true_iff] at h
  exact ⟨fun r hr => rowB_of (h.1 r hr), h.2⟩
theorem applyM_len (t : List (List Int)) (x : List Int) : (applyM t x).1.length ≤ 6 := by
  unfold applyM
  split
  · rename_i h
    have := (tableB_of h.1).2
    unfold outM
    split
    · simp; omega
    · simp
  · simp

/-- column j of t -/
def colL (t : List (List Int)) (j : Nat) : List Int := t.map fun r => r.getD j 0
/-- the products of s with the columns below n, from column j on: none if one fails -/
def colsM (s t : List (List Int)) : Nat → Nat → Option (List (List Int))
  | 0, _ => some []
  | n + 1, j => if (applyM s (colL t j)).2 = true then (colsM s t n (j + 1)).map ((applyM s (colL t j)).1 :: ·) else none
/-- columns to rows -/
def rowsOf (n : Nat) (cs : List (List Int)) : List (List Int) := (List.range n).map fun i => cs.map fun c => c.getD i 0
def timesM (s t : List (List Int)) : List (List Int) × Bool :=
  if tableB s = true ∧ tableB t = true ∧ s.length = t.length then
    (match colsM s t t.length 0 with
     | some cs => (rowsOf t.length cs, true)
     | none => ([], false))
  else ([], false)
def mixM (n : Nat) (t cs : List (List Int)) : List (List Int) := (List.range n).map fun i => (cs.map fun c => c.getD i 0) ++ (t.getD i []).drop cs.length
def resM (n : Nat) (cs : List (List Int)) : Option (List (List Int)) → List (List Int) × Bool
  | some cs' => (rowsOf n (cs ++ cs'), true)
  | none => ([], false)
theorem rowsOf_snoc (n : Nat) (cs : List (List Int)) (own : List Int) (h : own.length = n) : List.zipWith (fun r v => r ++ [v]) (rowsOf n cs) own = rowsOf n (cs ++ [own]) := by
  apply List.ext_getElem
  · simp [rowsOf, h]
  · intro i h1 h2
    have hi : i < own.length := by simp [rowsOf] at h1; omega
    simp [rowsOf, hi]
theorem mixM_snoc (n : Nat) (t cs : List (List Int)) (own : List Int) (h : own.length = n) (ht : t.length = n) (hr : ∀ r ∈ t, cs.length < r.length) : List.zipWith (fun r v => r.set cs.length v) (mixM n t cs) own = mixM n t (cs ++ [own]) := by
  apply List.ext_getElem
  · simp [mixM, h]
  · intro i h1 h2
    have hi : i < own.length := by simp [mixM] at h1; omega
    have hit : i < t.length := by omega
    have hri : cs.length < (t[i]).length := hr _ (List.getElem_mem hit)
    simp only [mixM, List.getElem_zipWith, List.getElem_map, List.getElem_range, List.getD_eq_getElem?_getD, List.getElem?_eq_getElem hit, Option.getD_some, List.map_append, List.map_cons, List.map_nil, List.length_append, List.length_cons, List.length_nil, List.getElem?_eq_getElem hi]
    rw [List.drop_eq_getElem_cons hri, set_app _ _ _ _ _ (by simp)]
    simp
theorem mixM_full (n : Nat) (t cs : List (List Int)) (ht : t.length = n) (hr : ∀ r ∈ t, r.length = n) (hc : cs.length = n) : mixM n t cs = rowsOf n cs := by
  unfold mixM rowsOf
  apply List.map_congr_left
  intro i hi
  have hit : i < t.length := by rw [ht]; exact List.mem_range.1 hi
  have : (t[i]).length = n := hr _ (List.getElem_mem hit)
  rw [List.getD_eq_getElem?_getD, List.getElem?_eq_getElem hit, Option.getD_some, hc, List.drop_of_length_le (by omega), List.append_nil]
theorem mixM_nil (n : Nat) (t : List (List Int)) (ht : t.length = n) : mixM n t [] = t := by
  apply List.ext_getElem
  · simp [mixM, ht]
  · intro i h1 h2
    simp [mixM, h2]
theorem rowsOf_nil (n : Nat) : rowsOf n [] = List.replicate n [] := by
  apply List.ext_getElem
  · simp [rowsOf]
  · intro i h1 h2
    simp [rowsOf]
theorem rd_col (r : List Int) (j : Nat) : rd r (j : Int) = r.getD j 0 := by simp [rd]
theorem applyM_ok {s : List (List Int)} {x : List Int} (h : (applyM s x).2 = true) : tableB s = true ∧ x.length = s.length ∧ x.all smallB = true ∧ (applyM s x).1.length = s.length := by
  unfold applyM at h ⊢
  by_cases c : tableB s = true ∧ x.length = s.length ∧ x.all smallB = true
  · rw [if_pos c] at h ⊢
    refine ⟨c.1, c.2.1, c.2.2, ?_⟩
    unfold outM at h ⊢
    split
    · simp
    · rename_i hn; rw [if_neg hn] at h; cases h
  · rw [if_neg c] at h; cases h
theorem colsM_len {s t : List (List Int)} : ∀ {n j : Nat} {cs : List (List Int)}, colsM s t n j = some cs → cs.length = n
  | 0, j, cs, h => by simp only [colsM] at h; rw [← Option.some.inj h]; rfl
  | n + 1, j, cs, h => by
    simp only [colsM] at h
    split at h
    · obtain ⟨cs', h', rfl⟩ := Option.map_eq_some_iff.1 h
      simp [colsM_len h']
    · cases h
theorem colsM_all {s t : List (List Int)} : ∀ {n j : Nat} {cs : List (List Int)}, colsM s t n j = some cs → ∀ i, j ≤ i → i < j + n → (applyM s (colL t i)).2 = true
  | 0, j, cs, h, i, h1, h2 => by omega
  | n + 1, j, cs, h, i, h1, h2 => by
    simp only [colsM] at h
    split at h
    · rename_i hc
      obtain ⟨cs', h', rfl⟩ := Option.map_eq_some_iff.1 h
      by_cases e : i = j
      · rw [e]; exact hc
      · exact colsM_all h' i (by omega) (by omega)
    · cases h
theorem times_eq (s t : List (List Int)) (h0 : t.length ≠ 0) (hs : ∀ r ∈ t, r.length = t.length) : timesM s t = resM t.length [] (colsM s t t.length 0) := by
  unfold timesM
  by_cases c : tableB s = true ∧ tableB t = true ∧ s.length = t.length
  · rw [if_pos c]
    rcases colsM s t t.length 0 with _ | cs <;> rfl
  · rw [if_neg c]
    rcases hc : colsM s t t.length 0 with _ | cs
    · rfl
    · exfalso
      have A := colsM_all hc
      have a0 := applyM_ok (A 0 (by omega) (by omega))
      have hl : s.length = t.length := by have := a0.2.1; simp [colL] at this; omega
      refine c ⟨a0.1, ?_, hl⟩
      unfold tableB
      rw [Bool.and_eq_true, List.all_eq_true, decide_eq_true_iff]
      have bs := (tableB_of a0.1).2
      refine ⟨fun r hr => ?_, by omega⟩
      unfold rowB
      rw [Bool.and_eq_true, decide_eq_true_iff, List.all_eq_true]
      refine ⟨hs r hr, fun x hx => ?_⟩
      obtain ⟨j, hj, rfl⟩ := List.mem_iff_getElem.1 hx
      have hrl := hs r hr
      have aj := (applyM_ok (A j (by omega) (by omega))).2.2.1
      rw [List.all_eq_true] at aj
      refine aj _ (List.mem_map.2 ⟨r, hr, ?_⟩)
      rw [List.getD_eq_getElem?_getD, List.getElem?_eq_getElem hj]; rfl
theorem timesM_sz (s t : List (List Int)) : (timesM s t).1.length ≤ 6 ∧ ∀ r ∈ (timesM s t).1, r.length ≤ 6 := by
  unfold timesM
  split
  · rename_i h
    have := (tableB_of h.2.1).2
    rcases hc : colsM s t t.length 0 with _ | cs
    · simp
    · have hl := colsM_len hc
      refine ⟨by simp [rowsOf]; omega, fun r hr => ?_⟩
      simp only [rowsOf, List.mem_map] at hr
      obtain ⟨i, _, rfl⟩ := hr
      simp; omega
  · simp
theorem total_le {n : Nat} : ∀ {xs : List (List Int)}, (∀ r ∈ xs, r.length ≤ n) → total xs ≤ n * xs.length
  | [], _ => by simp [total]
  | x :: xs, h => by
    have h1 := h x (by simp)
    have h2 := total_le (xs := xs) (fun r hr => h r (by simp [hr]))
    simp only [total, List.length_cons, Nat.mul_add]; omega

/-- a loop that looks at each member and answers early, or goes on -/
theorem EV.scan {α : Type} {g : Nat → Int → Option Bool} (xs : List α) (p : α → Bool) (fin : Bool)
    (hs : ∀ (i : Nat) (h : i < xs.length) (r : Bool), (p xs[i] = true → EV (fun k => g k ((i : Int) + 1)) r) → (p xs[i] = false → r = false) → EV (fun k => g k (i : Int)) r)
    (hf : EV (fun k => g k (xs.length : Int)) fin) : EV (fun k => g k 0) (xs.all p && fin) := by
  suffices h : ∀ (n i : Nat), i + n = xs.length → EV (fun k => g k (i : Int)) ((xs.drop i).all p && fin) by
    have := h xs.length 0 (by omega)
    simpa using this
  intro n
  induction n with
  | zero =>
    intro i hi
    have e : i = xs.length := by omega
    subst e
    simpa using hf
  | succ n ih =>
    intro i hi
    have hlt : i < xs.length := by omega
    have e : xs.drop i = xs[i] :: xs.drop (i + 1) := List.drop_eq_getElem_cons hlt
    rw [e, List.all_cons]
    refine hs i hlt _ (fun hp => ?_) (fun hp => by simp [hp])
    rw [hp, Bool.true_and]
    exact_mod_cast ih (i + 1) (by omega)
/-- what a loop over the members answers: the state is carried on, or an answer is given early -/
def runM {α σ ρ : Type} (f : σ → α → σ ⊕ ρ) (fin : σ → ρ) : σ → List α → ρ
  | s, [] => fin s
  | s, x :: xs => (match f s x with
    | .inl s' => runM f fin s' xs
    | .inr r => r)
theorem EV.run {α σ ρ : Type} {g : Nat → σ → Int → Option ρ} (xs : List α) (f : σ → α → σ ⊕ ρ) (fin : σ → ρ) (I : Nat → σ → Prop)
    (hs : ∀ (i : Nat) (h : i < xs.length) (s : σ) (r : ρ), I i s → (∀ s', f s xs[i] = .inl s' → I (i + 1) s' → EV (fun k => g k s' ((i : Int) + 1)) r) → (∀ a, f s xs[i] = .inr a → r = a) → EV (fun k => g k s (i : Int)) r)
    (hf : ∀ s, I xs.length s → EV (fun k => g k s (xs.length : Int)) (fin s)) : ∀ s, I 0 s → EV (fun k => g k s 0) (runM f fin s xs) := by
  suffices h : ∀ (n i : Nat), i + n = xs.length → ∀ s, I i s → EV (fun k => g k s (i : Int)) (runM f fin s (xs.drop i)) by
    intro s hI
    have := h xs.length 0 (by omega) s hI
    simpa using this
  intro n
  induction n with
  | zero =>
    intro i hi s hI
    have e : i = xs.length := by omega
    subst e
    simpa [runM] using hf s hI
  | succ n ih =>
    intro i hi s hI
    have hlt : i < xs.length := by omega
    have e : xs.drop i = xs[i] :: xs.drop (i + 1) := List.drop_eq_getElem_cons hlt
    rw [e]
    refine hs i hlt s _ hI (fun s' h' hI' => ?_) (fun a ha => by simp [runM, ha])
    have := ih (i + 1) (by omega) s' hI'
    simp only [runM, h']
    exact_mod_cast this
/-- a fold over the members -/
theorem EV.fold {α σ ρ : Type} {g : Nat → σ → Int → Option ρ} (xs : List α) (f : σ → α → σ) (fin : σ → ρ) (I : Nat → σ → Prop)
    (hs : ∀ (i : Nat) (h : i < xs.length) (s : σ) (r : ρ), I i s → (I (i + 1) (f s xs[i]) → EV (fun k => g k (f s xs[i]) ((i : Int) + 1)) r) → EV (fun k => g k s (i : Int)) r)
    (hf : ∀ s, I xs.length s → EV (fun k => g k s (xs.length : Int)) (fin s)) : ∀ s, I 0 s → EV (fun k => g k s 0) (fin (xs.foldl f s)) := by
  suffices h : ∀ (n i : Nat), i + n = xs.length → ∀ s, I i s → EV (fun k => g k s (i : Int)) (fin ((xs.drop i).foldl f s)) by
    intro s hI
    have := h xs.length 0 (by omega) s hI
    simpa using this
  intro n
  induction n with
  | zero =>
    intro i hi s hI
    have e : i = xs.length := by omega
    subst e
    simpa using hf s hI
  | succ n ih =>
    intro i hi s hI
    have hlt : i < xs.length := by omega
    have e : xs.drop i = xs[i] :: xs.drop (i + 1) := List.drop_eq_getElem_cons hlt
    rw [e, List.foldl_cons]
    refine hs i hlt s _ hI (fun hI' => ?_)
    exact_mod_cast ih (i + 1) (by omega) _ hI'
/-- a loop that changes each member of a list once, in order -/
theorem EV.zip {α β ρ : Type} {g : Nat → List α → Int → Option ρ} (upd : α → β → α) (t : List α) (x : List β) (hl : t.length = x.length) (r : ρ)
    (hs : ∀ (i : Nat) (h : i < t.length) (h' : i < x.length) (s : List α), s.length = t.length → s[i]? = some t[i] → EV (fun k => g k (s.set i (upd t[i] x[i])) ((i : Int) + 1)) r → EV (fun k => g k s (i : Int)) r)
    (hf : EV (fun k => g k (List.zipWith upd t x) (t.length : Int)) r) : EV (fun k => g k t 0) r := by
  suffices h : ∀ (n i : Nat), i + n = t.length → EV (fun k => g k (List.zipWith upd (t.take i) (x.take i) ++ t.drop i) (i : Int)) r by
    have := h t.length 0 (by omega)
    simpa using this
  intro n
  induction n with
  | zero =>
    intro i hi
    have e : i = t.length := by omega
    subst e
    rw [List.take_length, List.drop_length, List.append_nil, hl, List.take_length, ← hl]
    exact hf
  | succ n ih =>
    intro i hi
    have h1 : i < t.length := by omega
    have h2 : i < x.length := by omega
    have e : t.drop i = t[i] :: t.drop (i + 1) := List.drop_eq_getElem_cons h1
    have hz : (List.zipWith upd (t.take i) (x.take i)).length = i := by simp; omega
    refine hs i h1 h2 _ (by simp; omega) ?_ ?_
    · rw [List.getElem?_append_right (by omega), hz, Nat.sub_self, e]; rfl
    · have := ih (i + 1) (by omega)
      rw [e, set_app _ _ _ _ _ hz.symm]
      have e2 : List.zipWith upd (t.take (i + 1)) (x.take (i + 1)) = List.zipWith upd (t.take i) (x.take i) ++ [upd t[i] x[i]] := by
        rw [List.take_succ_eq_append_getElem h1, List.take_succ_eq_append_getElem h2, List.zipWith_append (by simp; omega)]; rfl
      rw [e2, List.append_assoc, List.singleton_append] at this
      exact_mod_cast this
/-- counting up to n, the state told by the count -/
theorem EV.count {σ ρ : Type} {g : Nat → σ → Int → Option ρ} (n : Nat) (f : Nat → σ) (r : ρ)
    (hs : ∀ i, i < n → EV (fun k => g k (f (i + 1)) ((i : Int) + 1)) r → EV (fun k => g k (f i) (i : Int)) r)
    (hf : EV (fun k => g k (f n) (n : Int)) r) : EV (fun k => g k (f 0) 0) r := by
  suffices h : ∀ (m i : Nat), i + m = n → EV (fun k => g k (f i) (i : Int)) r by exact h n 0 (by omega)
  intro m
  induction m with
  | zero => intro i hi; have : i = n := by omega
            subst this; exact hf
  | succ m ih => intro i hi; exact hs i (by omega) (by exact_mod_cast ih (i + 1) (by omega))
/-- counting up to n with an early answer -/
theorem EV.countB {g : Nat → Int → Option Bool} (n : Nat) (p : Nat → Bool) (fin : Bool)
    (hs : ∀ (i : Nat) (h : i < n) (r : Bool), (p i = true → EV (fun k => g k ((i : Int) + 1)) r) → (p i = false → r = false) → EV (fun k => g k (i : Int)) r)
    (hf : EV (fun k => g k (n : Int)) fin) : EV (fun k => g k 0) ((List.range n).all p && fin) := by
  refine EV.scan (List.range n) p fin (fun i h r H1 H2 => ?_) (by rw [List.length_range]; exact hf)
  rw [List.getElem_range] at H1 H2
  exact hs i (by simpa using h) r H1 H2
/-- counting up to n with an early answer, into what comes behind -/
theorem EV.countC {ρ : Type} {g : Nat → Int → Option ρ} (n : Nat) (p : Nat → Bool) (r early : ρ)
    (hs : ∀ i, i < n → (p i = true → EV (fun k => g k ((i : Int) + 1)) r) → (p i = false → r = early) → EV (fun k => g k (i : Int)) r)
    (hf : (List.range n).all p = true → EV (fun k => g k (n : Int)) r) (he : (List.range n).all p = false → r = early) : EV (fun k => g k 0) r := by
  suffices h : ∀ (m i : Nat), i + m = n → (∀ j, j < i → p j = true) → EV (fun k => g k (i : Int)) r by exact h n 0 (by omega) (fun j hj => by omega)
  intro m
  induction m with
  | zero =>
    intro i hi ha
    have : i = n := by omega
    subst this
    exact hf (by rw [List.all_eq_true]; intro x hx; exact ha x (List.mem_range.1 hx))
  | succ m ih =>
    intro i hi ha
    refine hs i (by omega) (fun hp => ?_) (fun hp => he ?_)
    · have := ih (i + 1) (by omega) (fun j hj => by
        by_cases e : j = i
        · rw [e]; exact hp
        · exact ha j (by omega))
      exact_mod_cast this
    · rw [List.all_eq_false]
      exact ⟨i, List.mem_range.2 (by omega), by simp [hp]⟩
/-- looking at each member with an early answer, into what comes behind -/
theorem EV.scanC {α ρ : Type} {g : Nat → Int → Option ρ} (xs : List α) (p : α → Bool) (r early : ρ)
    (hs : ∀ (i : Nat) (h : i < xs.length), (p xs[i] = true → EV (fun k => g k ((i : Int) + 1)) r) → (p xs[i] = false → r = early) → EV (fun k => g k (i : Int)) r)
    (hf : xs.all p = true → EV (fun k => g k (xs.length : Int)) r) (he : xs.all p = false → r = early) : EV (fun k => g k 0) r := by
  have e : xs.all p = (List.range xs.length).all (fun i => (xs[i]?.map p).getD true) := by
    rw [Bool.eq_iff_iff, List.all_eq_true, List.all_eq_true]
    constructor
    · intro h i hi
      have := List.mem_range.1 hi
      simpa [this] using h _ (List.getElem_mem this)
    · intro h x hx
      obtain ⟨i, hi, rfl⟩ := List.mem_iff_getElem.1 hx
      have := h i (List.mem_range.2 hi)
      simpa [hi] using this
  rw [e] at hf he
  refine EV.countC xs.length _ r early (fun i hi H1 H2 => ?_) hf he
  exact hs i hi (fun h => H1 (by simpa [hi] using h)) (fun h => H2 (by simpa [hi] using h))
theorem wrap_01 : wrap64 ((0 : Int) + 1) = 1 := by rw [w64 (by omega) (by omega)]; rfl
theorem wrap_11 : wrap64 ((1 : Int) + 1) = 2 := by rw [w64 (by omega) (by omega)]; rfl
theorem wrap_1 : wrap64 1 = 1 := w64 (by omega) (by omega)
/-- a fold over the members, into what comes behind -/
theorem EV.foldC {α σ ρ : Type} {g : Nat → σ → Int → Option ρ} (xs : List α) (f : σ → α → σ) (I : Nat → σ → Prop) (r : ρ)
    (hs : ∀ (i : Nat) (h : i < xs.length) (s : σ), I i s → (I (i + 1) (f s xs[i]) → EV (fun k => g k (f s xs[i]) ((i : Int) + 1)) r) → EV (fun k => g k s (i : Int)) r)
    (s : σ) (hI : I 0 s) (hf : I xs.length (xs.foldl f s) → EV (fun k => g k (xs.foldl f s) (xs.length : Int)) r) : EV (fun k => g k s 0) r := by
  suffices h : ∀ (n i : Nat), i + n = xs.length → ∀ s, I i s → (I xs.length ((xs.drop i).foldl f s) → EV (fun k => g k ((xs.drop i).foldl f s) (xs.length : Int)) r) → EV (fun k => g k s (i : Int)) r by
    have := h xs.length 0 (by omega) s hI (by simpa using hf)
    simpa using this
  intro n
  induction n with
  | zero =>
    intro i hi s hI hf
    have e : i = xs.length := by omega
    subst e
    simpa using hf (by simpa using hI)
  | succ n ih =>
    intro i hi s hI hf
    have hlt : i < xs.length := by omega
    have e : xs.drop i = xs[i] :: xs.drop (i + 1) := List.drop_eq_getElem_cons hlt
    rw [e, List.foldl_cons] at hf
    refine hs i hlt s hI (fun hI' => ?_)
    exact_mod_cast ih (i + 1) (by omega) _ hI' hf

def unitM (n i : Nat) : List Int := (List.replicate n 0).set i 1
theorem unitM_length (n i : Nat) : (unitM n i).length = n := by simp [unitM]
theorem unitM_small (n i : Nat) : (unitM n i).all smallB = true := by
  rw [List.all_eq_true]
  intro x hx
  rcases List.mem_or_eq_of_mem_set hx with h | h
  · rw [(List.mem_replicate.1 h).2]; rfl
  · rw [h]; rfl
theorem getElem_rdL (s : List (List Int)) (i : Nat) (r : List Int) (h : s[i]? = some r) : rd_L2 s (i : Int) = r := by
  simp [rd_L2, h]

def formOfM (g : Int) (xs ys : List Int) : Int := if classB g xs = true ∧ classB g ys = true then formM xs ys else 0
theorem class_of {g : Int} {xs : List Int} (h : classB g xs = true) : (1 ≤ g ∧ g ≤ 3) ∧ (xs.length : Int) = 2 * g ∧ xs.all smallB = true := by
  simpa [classB, and_assoc] using h

def twistL (n : Int) (x c : List Int) : List Int := List.zipWith (fun a b => a + n * b) x c
def twistM (g : Int) (c x : List Int) (k : Int) : List Int × Bool :=
  if classB g c = true ∧ classB g x = true ∧ -20 ≤ k ∧ k ≤ 20 then
    (if (twistL (k * formM c x) x c).all smallB = true then (twistL (k * formM c x) x c, true) else ([], false))
  else ([], false)
theorem form_class {g : Int} {c x : List Int} (hc : classB g c = true) (hx : classB g x = true) : (formM c x).natAbs ≤ 6000000 := by
  obtain ⟨_, c2, c3⟩ := class_of hc
  obtain ⟨_, x2, x3⟩ := class_of hx
  have := formM_bd c.length c x (Nat.le_refl _) c3 x3
  omega
theorem twist_term {n a b : Int} (hn : n.natAbs ≤ 120000000) (ha : smallB a = true) (hb : smallB b = true) : wrap64 (n * b) = n * b ∧ wrap64 (a + n * b) = a + n * b := by
  have h1 := smallB_bd ha
  have h2 := smallB_bd hb
  have := mul_bd (x := n) (y := b) 120000000 1000 hn (by omega)
  exact ⟨w64 (by omega) (by omega), w64 (by omega) (by omega)⟩

/-- the images of the unit columns, from column j on -/
def colsT (g : Int) (c : List Int) (w : Nat) : Nat → Nat → Option (List (List Int))
  | 0, _ => some []
  | n + 1, j => if (twistM g c (unitM w j) 1).2 = true then (colsT g c w n (j + 1)).map ((twistM g c (unitM w j) 1).1 :: ·) else none
def twmM (g : Int) (c : List Int) : List (List Int) × Bool :=
  if classB g c = true then resM (2 * g).toNat [] (colsT g c (2 * g).toNat (2 * g).toNat 0) else ([], false)
theorem twistM_ok {g : Int} {c x : List Int} {t : Int} (h : (twistM g c x t).2 = true) : (twistM g c x t).1.length = x.length := by
  unfold twistM at h ⊢
  by_cases hc : classB g c = true ∧ classB g x = true ∧ -20 ≤ t ∧ t ≤ 20
  · rw [if_pos hc] at h ⊢
    have a := class_of hc.1
    have b := class_of hc.2.1
    split
    · simp [twistL]; omega
    · rename_i h'; rw [if_neg h'] at h; cases h
  · rw [if_neg hc] at h; cases h
theorem colsT_len {g : Int} {c : List Int} {w : Nat} : ∀ {n j : Nat} {cs : List (List Int)}, colsT g c w n j = some cs → cs.length = n
  | 0, j, cs, h => by simp only [colsT] at h; rw [← Option.some.inj h]; rfl
  | n + 1, j, cs, h => by
    simp only [colsT] at h
    split at h
    · obtain ⟨cs', h', rfl⟩ := Option.map_eq_some_iff.1 h
      simp [colsT_len h']
    · cases h
theorem twmM_sz (g : Int) (c : List Int) : (twmM g c).1.length ≤ 6 ∧ ∀ r ∈ (twmM g c).1, r.length ≤ 6 := by
  unfold twmM
  split
  · rename_i h
    have := class_of h
    rcases hc : colsT g c (2 * g).toNat (2 * g).toNat 0 with _ | cs
    · simp [resM]
    · have hl := colsT_len hc
      refine ⟨by simp [resM, rowsOf]; omega, fun r hr => ?_⟩
      simp only [resM, rowsOf, List.mem_map] at hr
      obtain ⟨i, _, rfl⟩ := hr
      simp; omega
  · simp

def threeM (s t u : List (List Int)) : List (List Int) × Bool := if (timesM s t).2 = true then timesM (timesM s t).1 u else ([], false)
def szT (t : List (List Int)) : Prop := t.length ≤ 6 ∧ ∀ r ∈ t, r.length ≤ 6
theorem threeM_sz (s t u : List (List Int)) : szT (threeM s t u).1 := by
  unfold threeM
  split
  · exact timesM_sz _ _
  · exact ⟨by simp, by simp⟩
def braidM (g : Int) (c d : List Int) : Bool :=
  (twmM g c).2 && ((twmM g d).2 && ((threeM (twmM g c).1 (twmM g d).1 (twmM g c).1).2 && ((threeM (twmM g d).1 (twmM g c).1 (twmM g d).1).2 && decide ((threeM (twmM g c).1 (twmM g d).1 (twmM g c).1).1 = (threeM (twmM g d).1 (twmM g c).1 (twmM g d).1).1))))

def commM (g : Int) (c d : List Int) : Bool :=
  (twmM g c).2 && ((twmM g d).2 && ((timesM (twmM g c).1 (twmM g d).1).2 && ((timesM (twmM g d).1 (twmM g c).1).2 && decide ((timesM (twmM g c).1 (twmM g d).1).1 = (timesM (twmM g d).1 (twmM g c).1).1))))

def symB (g : Int) (t : List (List Int)) : Bool :=
  decide (1 ≤ g ∧ g ≤ 3) && decide ((t.length : Int) = 2 * g) && tableB t &&
    ((List.range t.length).all fun i => (List.range t.length).all fun j => decide (formM (colL t i) (colL t j) = formM (unitM t.length i) (unitM t.length j)))
theorem colL_length (t : List (List Int)) (j : Nat) : (colL t j).length = t.length := by simp [colL]
theorem colL_small {t : List (List Int)} (h : tableB t = true) (j : Nat) (hj : j < t.length) : (colL t j).all smallB = true := by
  have a := tableB_of h
  rw [List.all_eq_true]
  intro x hx
  simp only [colL, List.mem_map] at hx
  obtain ⟨r, hr, rfl⟩ := hx
  have b := a.1 r hr
  rw [List.getD_eq_getElem?_getD, List.getElem?_eq_getElem (by omega)]
  exact List.all_eq_true.1 b.2 _ (List.getElem_mem _)
theorem rowsOf_get (t : List (List Int)) (n i : Nat) (h : i < n) : rd_L2 (rowsOf n t) (i : Int) = colL t i := by
  simp [rd_L2, rowsOf, colL, h]

/-! ### twists as maps: what the law of twists needs -/
section
def twV (c v : List Int) : List Int := twistL (formM c v) v c
theorem twistL_len (n : Int) (x c : List Int) (h : x.length = c.length) : (twistL n x c).length = c.length := by simp [twistL, h]
theorem twV_len (c v : List Int) (h : v.length = c.length) : (twV c v).length = c.length := twistL_len _ _ _ h
theorem formM_twist (n : Int) : ∀ (e x c : List Int), x.length = e.length → c.length = e.length → formM e (twistL n x c) = formM e x + n * formM e c
  | p :: q :: e, a :: b :: x, c :: d :: cs, h1, h2 => by
    have ih := formM_twist n e x cs (by simpa using h1) (by simpa using h2)
    have e1 : twistL n (a :: b :: x) (c :: d :: cs) = (a + n * c) :: (b + n * d) :: twistL n x cs := rfl
    rw [e1]; simp only [formM]; rw [ih]; grind
  | [], [], [], _, _ => by simp [twistL, formM]
  | [p], [a], [c], _, _ => by simp [twistL, formM]
theorem formM_anti : ∀ (x y : List Int), x.length = y.length → formM x y = - formM y x
  | a :: b :: x, c :: d :: y, h => by
    have ih := formM_anti x y (by simpa using h)
    simp only [formM]; rw [ih]; grind
  | [], [], _ => by simp [formM]
  | [_], [_], _ => by simp [formM]
theorem formM_self (x : List Int) : formM x x = 0 := by have := formM_anti x x rfl; omega
theorem twistL_twistL (m n : Int) : ∀ (x c : List Int), x.length = c.length → twistL m (twistL n x c) c = twistL (n + m) x c
  | a :: x, c :: cs, h => by
    have ih := twistL_twistL m n x cs (by simpa using h)
    simp only [twistL, List.zipWith_cons_cons] at ih ⊢
    rw [ih]; congr 1; grind
  | [], [], _ => rfl
theorem twistL_zero : ∀ (x c : List Int), x.length = c.length → twistL 0 x c = x
  | a :: x, c :: cs, h => by
    have ih := twistL_zero x cs (by simpa using h)
    simp only [twistL, List.zipWith_cons_cons] at ih ⊢
    rw [ih]; congr 1; grind
  | [], [], _ => rfl
theorem twistL_comm (m n : Int) : ∀ (x c d : List Int), x.length = c.length → x.length = d.length → twistL m (twistL n x c) d = twistL n (twistL m x d) c
  | a :: x, c :: cs, d :: ds, h1, h2 => by
    have ih := twistL_comm m n x cs ds (by simpa using h1) (by simpa using h2)
    simp only [twistL, List.zipWith_cons_cons] at ih ⊢
    rw [ih]; congr 1; grind
  | [], [], [], _, _ => rfl
theorem form_keep (c u v : List Int) (hu : u.length = c.length) (hv : v.length = c.length) : formM (twV c u) (twV c v) = formM u v := by
  unfold twV
  rw [formM_twist _ _ _ _ (by rw [twistL_len _ _ _ hu, hv]) (by rw [twistL_len _ _ _ hu])]
  rw [formM_anti _ v (by rw [twistL_len _ _ _ hu, hv]), formM_anti _ c (by rw [twistL_len _ _ _ hu])]
  rw [formM_twist _ _ _ _ (by omega) (by omega), formM_twist _ _ _ _ hu rfl, formM_self, formM_anti v c hv, formM_anti v u (by omega)]
  grind
theorem dot_lin (F G : Nat → Int) (a b : Int) : ∀ (l : List Nat) (v : List Int), dot (l.map fun j => a * F j + b * G j) v = a * dot (l.map F) v + b * dot (l.map G) v
  | j :: l, z :: v => by
    have ih := dot_lin F G a b l v
    simp only [List.map_cons, dot]; rw [ih]; grind
  | [], v => by simp [dot]
  | j :: l, [] => by simp [dot]
theorem formM_two (a b : Int) (xs : List Int) : ∀ (y : List Int), 2 ≤ y.length → formM (a :: b :: xs) y = (a * y.getD 1 0 + (-b) * y.getD 0 0) + formM xs (y.drop 2)
  | c :: d :: y, _ => by simp only [formM, List.getD_cons_zero, List.getD_cons_succ, List.drop_succ_cons, List.drop_zero]; grind
theorem form_dot : ∀ (n : Nat) (x : List Int) (l : List Nat) (h : Nat → List Int) (v H : List Int), x.length = n → (∀ j ∈ l, (h j).length = x.length) → H.length = x.length →
    (∀ i, i < x.length → H.getD i 0 = dot (l.map fun j => (h j).getD i 0) v) → dot (l.map fun j => formM x (h j)) v = formM x H
  | 0, x, l, h, v, H, hn, hl, hH, he => by
    obtain rfl : x = [] := List.eq_nil_of_length_eq_zero hn
    obtain rfl : H = [] := List.eq_nil_of_length_eq_zero (by simpa using hH)
    have : (l.map fun j => formM [] (h j)) = l.map fun j => 0 * (0 : Int) + 0 * 0 := List.map_congr_left fun j _ => by simp [formM]
    rw [this, dot_lin (fun _ => 0) (fun _ => 0)]; simp [formM]
  | 1, x, l, h, v, H, hn, hl, hH, he => by
    obtain ⟨a, rfl⟩ := List.length_eq_one_iff.1 hn
    have : (l.map fun j => formM [a] (h j)) = l.map fun j => 0 * (0 : Int) + 0 * 0 := List.map_congr_left fun j _ => by simp [formM]
    rw [this, dot_lin (fun _ => 0) (fun _ => 0)]
    simp [formM]
  | n + 2, x, l, h, v, H, hn, hl, hH, he => by
    match x, hn with
    | a :: b :: xs, hn =>
      simp only [List.length_cons] at hn hl hH he
      have e : (l.map fun j => formM (a :: b :: xs) (h j)) = l.map fun j => 1 * (a * (h j).getD 1 0 + (-b) * (h j).getD 0 0) + 1 * formM xs ((h j).drop 2) :=
        List.map_congr_left fun j hj => by rw [formM_two _ _ _ _ (by rw [hl j hj]; omega)]; grind
      rw [e, dot_lin (fun j => a * (h j).getD 1 0 + (-b) * (h j).getD 0 0) (fun j => formM xs ((h j).drop 2)), dot_lin (fun j => (h j).getD 1 0) (fun j => (h j).getD 0 0)]
      rw [form_dot n xs l (fun j => (h j).drop 2) v (H.drop 2) (by omega) (fun j hj => by simp [hl j hj]) (by simp [hH]) (fun i hi => ?_)]
      · rw [formM_two a b xs H (by omega), ← he 1 (by omega), ← he 0 (by omega)]; grind
      · have := he (i + 2) (by omega)
        simpa [List.getD_eq_getElem?_getD, Nat.add_comm] using this
/-- the table whose columns are f, applied -/
def actM (w : Nat) (f : Nat → List Int) (v : List Int) : List Int := (List.range w).map fun i => dot ((List.range w).map fun j => (f j).getD i 0) v
def tabM (w : Nat) (f : Nat → List Int) : List (List Int) := rowsOf w ((List.range w).map f)
theorem tab_act (w : Nat) (f : Nat → List Int) (v : List Int) : (tabM w f).map (fun r => dot r v) = actM w f v := by
  simp [tabM, rowsOf, actM, List.map_map, Function.comp_def]
theorem act_len (w : Nat) (f : Nat → List Int) (v : List Int) : (actM w f v).length = w := by simp [actM]
theorem act_get (w : Nat) (f : Nat → List Int) (v : List Int) (i : Nat) (hi : i < w) : (actM w f v).getD i 0 = dot ((List.range w).map fun j => (f j).getD i 0) v := by
  simp [actM, List.getD_eq_getElem?_getD, hi]
theorem twistL_getD (n : Int) : ∀ (x c : List Int) (i : Nat), x.length = c.length → (twistL n x c).getD i 0 = x.getD i 0 + n * c.getD i 0
  | a :: x, c :: cs, 0, h => by simp [twistL]
  | a :: x, c :: cs, i + 1, h => by
    have := twistL_getD n x cs i (by simpa using h)
    simpa [twistL] using this
  | [], [], i, h => by simp [twistL]
theorem act_twV (w : Nat) (x : List Int) (f : Nat → List Int) (v : List Int) (hx : x.length = w) (hf : ∀ j, j < w → (f j).length = w) : actM w (fun j => twV x (f j)) v = twV x (actM w f v) := by
  have hfd := form_dot x.length x (List.range w) f v (actM w f v) rfl (fun j hj => by rw [hf j (List.mem_range.1 hj), hx]) (by rw [act_len, hx]) (fun i hi => act_get w f v i (by omega))
  apply List.ext_getElem
  · rw [act_len, twV_len _ _ (by rw [act_len, hx]), hx]
  · intro i h1 h2
    have hi : i < w := by rw [act_len] at h1; exact h1
    have a1 : (actM w (fun j => twV x (f j)) v)[i] = (actM w (fun j => twV x (f j)) v).getD i 0 := by simp [List.getD_eq_getElem?_getD, h1]
    have a2 : (twV x (actM w f v))[i] = (twV x (actM w f v)).getD i 0 := by simp [List.getD_eq_getElem?_getD, h2]
    rw [a1, a2, act_get _ _ _ _ hi]
    unfold twV
    rw [twistL_getD _ _ _ _ (by rw [act_len, hx]), act_get _ _ _ _ hi, ← hfd]
    have e : ((List.range w).map fun j => (twistL (formM x (f j)) (f j) x).getD i 0) = (List.range w).map fun j => 1 * (f j).getD i 0 + x.getD i 0 * formM x (f j) :=
      List.map_congr_left fun j hj => by rw [twistL_getD _ _ _ _ (by rw [hf j (List.mem_range.1 hj), hx])]; grind
    rw [e, dot_lin (fun j => (f j).getD i 0) (fun j => formM x (f j))]; grind
theorem act_unit (w : Nat) (hw : w = 2 ∨ w = 4 ∨ w = 6) : ∀ v : List Int, v.length = w → actM w (unitM w) v = v := by
  rcases hw with rfl | rfl | rfl
  · intro v h
    match v, h with
    | [a, b], _ => simp [actM, unitM, dot, List.range_succ]
  · intro v h
    match v, h with
    | [a, b, c, d], _ => simp [actM, unitM, dot, List.range_succ]
  · intro v h
    match v, h with
    | [a, b, c, d, e, f], _ => simp [actM, unitM, dot, List.range_succ]
/-- bounds of entries -/
def bdL (A : Nat) (v : List Int) : Prop := ∀ z ∈ v, z.natAbs ≤ A
theorem bd_small {A : Nat} {v : List Int} (h : bdL A v) (hA : A ≤ 1000) : v.all smallB = true := by
  rw [List.all_eq_true]; intro z hz; have := h z hz; simp [smallB]; omega
theorem bd_twist {A B N : Nat} {n : Int} (hn : n.natAbs ≤ N) : ∀ {v c : List Int}, bdL A v → bdL B c → bdL (A + N * B) (twistL n v c)
  | a :: v, c :: cs, h1, h2 => by
    have ih := bd_twist hn (v := v) (c := cs) (fun z hz => h1 z (by simp [hz])) (fun z hz => h2 z (by simp [hz]))
    intro z hz
    simp only [twistL, List.zipWith_cons_cons, List.mem_cons] at hz
    rcases hz with rfl | hz
    · have := h1 a (by simp)
      have := mul_bd N B hn (h2 c (by simp))
      omega
    · exact ih z hz
  | [], _, _, _ => by intro z hz; simp [twistL] at hz
  | _ :: _, [], _, _ => by intro z hz; simp [twistL] at hz
theorem bd_unit (w j : Nat) : bdL 1 (unitM w j) := by
  intro x hx
  rcases List.mem_or_eq_of_mem_set hx with h | h
  · rw [(List.mem_replicate.1 h).2]; decide
  · rw [h]; decide
theorem form_unit (w : Nat) (hw : w = 2 ∨ w = 4 ∨ w = 6) (A : Nat) : ∀ (c : List Int) (j : Nat), c.length = w → j < w → bdL A c → (formM c (unitM w j)).natAbs ≤ A := by
  rcases hw with rfl | rfl | rfl
  · intro c j h hj hb
    match c, h with
    | [a, b], _ =>
      simp only [bdL, List.mem_cons, List.not_mem_nil, or_false, forall_eq_or_imp, forall_eq] at hb
      rcases j with _ | _ | j <;> simp [formM, unitM] <;> omega
  · intro c j h hj hb
    match c, h with
    | [a, b, c, d], _ =>
      simp only [bdL, List.mem_cons, List.not_mem_nil, or_false, forall_eq_or_imp, forall_eq] at hb
      rcases j with _ | _ | _ | _ | j <;> simp [formM, unitM] <;> omega
  · intro c j h hj hb
    match c, h with
    | [a, b, c, d, e, f], _ =>
      simp only [bdL, List.mem_cons, List.not_mem_nil, or_false, forall_eq_or_imp, forall_eq] at hb
      rcases j with _ | _ | _ | _ | _ | _ | j <;> simp [formM, unitM] <;> omega
theorem tab_len (w : Nat) (f : Nat → List Int) : (tabM w f).length = w := by simp [tabM, rowsOf]
theorem tab_ok (w : Nat) (hw : 1 ≤ w ∧ w ≤ 6) (f : Nat → List Int) (hf : ∀ j, j < w → (f j).length = w ∧ (f j).all smallB = true) : tableB (tabM w f) = true := by
  unfold tableB
  rw [Bool.and_eq_true, List.all_eq_true, decide_eq_true_iff, tab_len]
  refine ⟨fun r hr => ?_, hw⟩
  simp only [tabM, rowsOf, List.mem_map, List.mem_range] at hr
  obtain ⟨i, hi, rfl⟩ := hr
  unfold rowB
  rw [Bool.and_eq_true, decide_eq_true_iff, List.all_eq_true]
  refine ⟨by simp, fun z hz => ?_⟩
  simp only [List.map_map, List.mem_map, List.mem_range, Function.comp] at hz
  obtain ⟨j, hj, rfl⟩ := hz
  have := hf j hj
  rw [List.getD_eq_getElem?_getD, List.getElem?_eq_getElem (by omega)]
  exact List.all_eq_true.1 this.2 _ (List.getElem_mem _)
theorem tab_col (w : Nat) (f : Nat → List Int) (j : Nat) (hj : j < w) (hf : (f j).length = w) : colL (tabM w f) j = f j := by
  apply List.ext_getElem
  · simp [colL, tab_len, hf]
  · intro i h1 h2
    simp [colL, tabM, rowsOf, hj, h2]
theorem apply_tab (w : Nat) (hw : 1 ≤ w ∧ w ≤ 6) (f : Nat → List Int) (v : List Int) (hf : ∀ j, j < w → (f j).length = w ∧ (f j).all smallB = true) (hv : v.length = w) (hs : v.all smallB = true) :
    applyM (tabM w f) v = outM (actM w f v) := by
  unfold applyM
  rw [if_pos ⟨tab_ok w hw f hf, by rw [tab_len, hv], hs⟩, tab_act]
theorem colsM_tab (s t : List (List Int)) (F : Nat → List Int) : ∀ (n j : Nat), (∀ i, j ≤ i → i < j + n → applyM s (colL t i) = (F i, true)) → colsM s t n j = some ((List.range' j n).map F)
  | 0, j, h => rfl
  | n + 1, j, h => by
    have h0 := h j (Nat.le_refl _) (by omega)
    simp only [colsM, h0, if_true, List.range'_succ, List.map_cons]
    rw [colsM_tab s t F n (j + 1) (fun i a b => h i (by omega) (by omega))]; rfl
theorem times_tab (w : Nat) (hw : 1 ≤ w ∧ w ≤ 6) (f h : Nat → List Int) (hf : ∀ j, j < w → (f j).length = w ∧ (f j).all smallB = true) (hh : ∀ j, j < w → (h j).length = w ∧ (h j).all smallB = true)
    (hs : ∀ j, j < w → (actM w f (h j)).all smallB = true) : timesM (tabM w f) (tabM w h) = (tabM w (fun j => actM w f (h j)), true) := by
  rw [times_eq _ _ (by rw [tab_len]; omega) (fun r hr => (tableB_of (tab_ok w hw h hh)).1 r hr |>.1), tab_len]
  rw [colsM_tab (tabM w f) (tabM w h) (fun j => actM w f (h j)) w 0 (fun i _ hi => by
    have hi : i < w := by omega
    rw [tab_col w h i hi (hh i hi).1, apply_tab w hw f _ hf (hh i hi).1 (hh i hi).2]
    unfold outM; rw [if_pos (hs i hi)])]
  rw [← List.range_eq_range']
  simp [resM, tabM]
theorem tab_congr (w : Nat) (f h : Nat → List Int) (e : ∀ j, j < w → f j = h j) : tabM w f = tabM w h := by
  unfold tabM
  rw [List.map_congr_left fun j hj => e j (List.mem_range.1 hj)]
theorem colsT_eq {g : Int} {c : List Int} {w : Nat} : ∀ {n j : Nat} {cs : List (List Int)}, colsT g c w n j = some cs → (cs = (List.range' j n).map fun j => (twistM g c (unitM w j) 1).1) ∧ ∀ i, j ≤ i → i < j + n → (twistM g c (unitM w i) 1).2 = true
  | 0, j, cs, h => by simp only [colsT] at h; rw [← Option.some.inj h]; exact ⟨rfl, fun i h1 h2 => by omega⟩
  | n + 1, j, cs, h => by
    simp only [colsT] at h
    split at h
    · rename_i hc
      obtain ⟨cs', h', rfl⟩ := Option.map_eq_some_iff.1 h
      have ih := colsT_eq h'
      refine ⟨by rw [ih.1, List.range'_succ, List.map_cons], fun i h1 h2 => ?_⟩
      by_cases e : i = j
      · rw [e]; exact hc
      · exact ih.2 i (by omega) (by omega)
    · cases h
theorem colsT_of {g : Int} {c : List Int} {w : Nat} : ∀ (n j : Nat), (∀ i, j ≤ i → i < j + n → (twistM g c (unitM w i) 1).2 = true) → colsT g c w n j = some ((List.range' j n).map fun j => (twistM g c (unitM w j) 1).1)
  | 0, j, h => rfl
  | n + 1, j, h => by
    simp only [colsT, h j (Nat.le_refl _) (by omega), if_true, List.range'_succ, List.map_cons]
    rw [colsT_of n (j + 1) (fun i a b => h i (by omega) (by omega))]; rfl
theorem twistM_one {g : Int} {c x : List Int} (h : (twistM g c x 1).2 = true) : (twistM g c x 1).1 = twV c x ∧ (twV c x).all smallB = true := by
  unfold twistM at h ⊢
  by_cases hc : classB g c = true ∧ classB g x = true ∧ (-20 : Int) ≤ 1 ∧ (1 : Int) ≤ 20
  · rw [if_pos hc] at h ⊢
    rw [Int.one_mul] at h ⊢
    split
    · rename_i h'; exact ⟨rfl, h'⟩
    · rename_i h'; rw [if_neg h'] at h; cases h
  · rw [if_neg hc] at h; cases h
theorem w_of {g : Int} {c : List Int} (h : classB g c = true) : ((2 * g).toNat = 2 ∨ (2 * g).toNat = 4 ∨ (2 * g).toNat = 6) ∧ c.length = (2 * g).toNat := by
  have := class_of h
  omega
/-- a twist's table, where there is one -/
theorem twmM_true {g : Int} {c : List Int} (h : (twmM g c).2 = true) : classB g c = true ∧ (twmM g c).1 = tabM (2 * g).toNat (fun j => twV c (unitM (2 * g).toNat j)) ∧ ∀ j, j < (2 * g).toNat → (twV c (unitM (2 * g).toNat j)).all smallB = true := by
  unfold twmM at h ⊢
  by_cases hc : classB g c = true
  · rw [if_pos hc] at h ⊢
    rcases e : colsT g c (2 * g).toNat (2 * g).toNat 0 with _ | cs
    · rw [e] at h; simp [resM] at h
    · have a := colsT_eq e
      refine ⟨hc, ?_, fun j hj => (twistM_one (a.2 j (by omega) (by omega))).2⟩
      simp only [resM, List.nil_append]
      unfold tabM
      rw [a.1, ← List.range_eq_range']
      congr 1
      exact List.map_congr_left fun j hj => (twistM_one (a.2 j (by omega) (by have := List.mem_range.1 hj; omega))).1
  · rw [if_neg hc] at h; cases h
theorem unit_class {g : Int} {c : List Int} (h : classB g c = true) (j : Nat) : classB g (unitM (2 * g).toNat j) = true := by
  have := class_of h
  simp only [classB, Bool.and_eq_true, decide_eq_true_eq, unitM_length, unitM_small, and_true]
  omega
theorem twmM_small {g : Int} {c : List Int} (h : classB g c = true) (hb : bdL 2 c) : twmM g c = (tabM (2 * g).toNat (fun j => twV c (unitM (2 * g).toNat j)), true) := by
  have hw := w_of h
  have ok : ∀ i, 0 ≤ i → i < 0 + (2 * g).toNat → (twistM g c (unitM (2 * g).toNat i) 1).2 = true := fun i _ hi => by
    unfold twistM
    rw [if_pos ⟨h, unit_class h i, by decide, by decide⟩, Int.one_mul, if_pos (bd_small (bd_twist (N := 2) (form_unit _ hw.1 2 c i hw.2 (by omega) hb) (bd_unit _ i) hb) (by decide))]
  have : (twmM g c).2 = true := by
    unfold twmM
    rw [if_pos h, colsT_of _ _ ok]; rfl
  exact Prod.ext (twmM_true this).2.1 this
/-- a twist's table applied -/
theorem act_tw {g : Int} {c : List Int} (h : classB g c = true) (v : List Int) (hv : v.length = (2 * g).toNat) : actM (2 * g).toNat (fun j => twV c (unitM (2 * g).toNat j)) v = twV c v := by
  have hw := w_of h
  rw [act_twV _ _ _ _ hw.2 (fun j _ => unitM_length _ _), act_unit _ hw.1 v hv]
theorem sym_tw {g : Int} {c : List Int} (h : (twmM g c).2 = true) : symB g (twmM g c).1 = true := by
  obtain ⟨hc, e, hs⟩ := twmM_true h
  have hw := w_of hc
  have a := class_of hc
  have hl : ∀ j, (twV c (unitM (2 * g).toNat j)).length = (2 * g).toNat := fun j => by rw [twV_len _ _ (by rw [unitM_length, hw.2]), hw.2]
  rw [e]
  unfold symB
  rw [tab_len, tab_ok _ (by omega) _ (fun j hj => ⟨hl j, hs j hj⟩)]
  simp only [Bool.and_eq_true, decide_eq_true_eq, List.all_eq_true, List.mem_range, and_true]
  refine ⟨⟨a.1, by omega⟩, fun i hi j hj => ?_⟩
  rw [tab_col _ _ i hi (hl i), tab_col _ _ j hj (hl j)]
  exact form_keep _ _ _ (by rw [unitM_length, hw.2]) (by rw [unitM_length, hw.2])
/-- two twists that don't cross commute -/
theorem tw_comm (x y v : List Int) (hx : x.length = v.length) (hy : y.length = v.length) (h : formM x y = 0) : twV x (twV y v) = twV y (twV x v) ∧ twV x (twV y v) = twistL (formM x v) (twistL (formM y v) v y) x := by
  have h' : formM y x = 0 := by rw [formM_anti y x (by omega), h]; rfl
  have e1 : twV x (twV y v) = twistL (formM x v) (twistL (formM y v) v y) x := by
    unfold twV; rw [formM_twist _ _ _ _ (by omega) (by omega), h, Int.mul_zero, Int.add_zero]
  have e2 : twV y (twV x v) = twistL (formM y v) (twistL (formM x v) v x) y := by
    unfold twV; rw [formM_twist _ _ _ _ (by omega) (by omega), h', Int.mul_zero, Int.add_zero]
  exact ⟨by rw [e1, e2, twistL_comm _ _ _ _ _ (by omega) (by omega)], e1⟩
theorem tw_two (x y v : List Int) (hx : x.length = v.length) (hy : y.length = v.length) : twV x (twV y v) = twistL (formM x v + formM y v * formM x y) (twistL (formM y v) v y) x := by
  unfold twV; rw [formM_twist _ _ _ _ (by omega) (by omega)]
theorem tw_three (x y v : List Int) (hx : x.length = v.length) (hy : y.length = v.length) (h : formM x y * formM x y = 1) :
    twV x (twV y (twV x v)) = twistL (formM y v - formM x v * formM x y) (twistL (formM x v + formM y v * formM x y) v x) y := by
  have lx : (twV x v).length = v.length := by rw [twV_len _ _ hx.symm, hx]
  rw [tw_two x y (twV x v) (by omega) (by omega)]
  have a1 : formM y (twV x v) = formM y v - formM x v * formM x y := by
    unfold twV; rw [formM_twist _ _ _ _ (by omega) (by omega), formM_anti y x (by omega)]; grind
  have a2 : formM x (twV x v) = formM x v := by
    unfold twV; rw [formM_twist _ _ _ _ (by omega) (by omega), formM_self]; grind
  rw [a1, a2]
  have a3 : formM x v + (formM y v - formM x v * formM x y) * formM x y = formM y v * formM x y := by grind
  rw [a3, twistL_comm _ _ _ _ _ (by omega) (by omega)]
  unfold twV
  rw [twistL_twistL _ _ _ _ (by omega)]
theorem tw_braid (x y v : List Int) (hx : x.length = v.length) (hy : y.length = v.length) (h : formM x y * formM x y = 1) : twV x (twV y (twV x v)) = twV y (twV x (twV y v)) := by
  have h' : formM y x = - formM x y := formM_anti y x (by omega)
  rw [tw_three x y v hx hy h, tw_three y x v hy hx (by rw [h']; grind), h', twistL_comm _ _ _ _ _ (by omega) (by omega)]
  congr 1
  · grind
  · congr 1; grind
theorem bd_mono {A B : Nat} {v : List Int} (h : bdL A v) (hab : A ≤ B) : bdL B v := fun z hz => Nat.le_trans (h z hz) hab
theorem bd_tw {g : Int} {c : List Int} (h : classB g c = true) (hb : bdL 2 c) (j : Nat) (hj : j < (2 * g).toNat) : bdL 5 (twV c (unitM (2 * g).toNat j)) := by
  have hw := w_of h
  exact bd_twist (A := 1) (B := 2) (N := 2) (form_unit _ hw.1 2 c j hw.2 hj hb) (bd_unit _ j) hb
theorem comm_small {g : Int} {x y : List Int} (h1 : classB g x = true) (h2 : classB g y = true) (b1 : bdL 2 x) (b2 : bdL 2 y) (h : formM x y = 0) : commM g x y = true := by
  have w1 := w_of h1
  have w2 := w_of h2
  have a := class_of h1
  unfold commM
  rw [twmM_small h1 b1, twmM_small h2 b2]
  have U : ∀ j, (unitM (2 * g).toNat j).length = (2 * g).toNat := fun j => unitM_length _ _
  have L1 : ∀ j, (twV x (unitM (2 * g).toNat j)).length = (2 * g).toNat := fun j => by rw [twV_len _ _ (by rw [U, w1.2]), w1.2]
  have L2 : ∀ j, (twV y (unitM (2 * g).toNat j)).length = (2 * g).toNat := fun j => by rw [twV_len _ _ (by rw [U, w2.2]), w2.2]
  have S1 : ∀ j, j < (2 * g).toNat → (twV x (unitM (2 * g).toNat j)).length = (2 * g).toNat ∧ (twV x (unitM (2 * g).toNat j)).all smallB = true := fun j hj => ⟨L1 j, bd_small (bd_tw h1 b1 j hj) (by decide)⟩
  have S2 : ∀ j, j < (2 * g).toNat → (twV y (unitM (2 * g).toNat j)).length = (2 * g).toNat ∧ (twV y (unitM (2 * g).toNat j)).all smallB = true := fun j hj => ⟨L2 j, bd_small (bd_tw h2 b2 j hj) (by decide)⟩
  have C : ∀ j, j < (2 * g).toNat → twV x (twV y (unitM (2 * g).toNat j)) = twV y (twV x (unitM (2 * g).toNat j)) ∧ (twV x (twV y (unitM (2 * g).toNat j))).all smallB = true := fun j hj => by
    have c := tw_comm x y (unitM (2 * g).toNat j) (by rw [U, w1.2]) (by rw [U, w2.2]) h
    refine ⟨c.1, ?_⟩
    rw [c.2]
    exact bd_small (bd_twist (A := 5) (B := 2) (N := 2) (form_unit _ w1.1 2 x j w1.2 hj b1) (bd_tw h2 b2 j hj) b1) (by decide)
  rw [times_tab _ (by omega) _ _ S1 S2 (fun j hj => by rw [act_tw h1 _ (L2 j)]; exact (C j hj).2), times_tab _ (by omega) _ _ S2 S1 (fun j hj => by rw [act_tw h2 _ (L1 j), ← (C j hj).1]; exact (C j hj).2)]
  simp only [Bool.true_and, decide_eq_true_eq]
  exact tab_congr _ _ _ fun j hj => by rw [act_tw h1 _ (L2 j), act_tw h2 _ (L1 j)]; exact (C j hj).1
theorem sq_one {s : Int} (h : s = 1 ∨ s = -1) : s * s = 1 := by rcases h with rfl | rfl <;> decide
theorem braid_half {g : Int} {x y : List Int} (h1 : classB g x = true) (h2 : classB g y = true) (b1 : bdL 2 x) (b2 : bdL 2 y) (h : formM x y = 1 ∨ formM x y = -1) :
    threeM (twmM g x).1 (twmM g y).1 (twmM g x).1 = (tabM (2 * g).toNat (fun j => twV x (twV y (twV x (unitM (2 * g).toNat j)))), true) := by
  have w1 := w_of h1
  have w2 := w_of h2
  have a := class_of h1
  rw [twmM_small h1 b1, twmM_small h2 b2]
  have U : ∀ j, (unitM (2 * g).toNat j).length = (2 * g).toNat := fun j => unitM_length _ _
  have L1 : ∀ j, (twV x (unitM (2 * g).toNat j)).length = (2 * g).toNat := fun j => by rw [twV_len _ _ (by rw [U, w1.2]), w1.2]
  have L2 : ∀ j, (twV y (unitM (2 * g).toNat j)).length = (2 * g).toNat := fun j => by rw [twV_len _ _ (by rw [U, w2.2]), w2.2]
  have S1 : ∀ j, j < (2 * g).toNat → (twV x (unitM (2 * g).toNat j)).length = (2 * g).toNat ∧ (twV x (unitM (2 * g).toNat j)).all smallB = true := fun j hj => ⟨L1 j, bd_small (bd_tw h1 b1 j hj) (by decide)⟩
  have S2 : ∀ j, j < (2 * g).toNat → (twV y (unitM (2 * g).toNat j)).length = (2 * g).toNat ∧ (twV y (unitM (2 * g).toNat j)).all smallB = true := fun j hj => ⟨L2 j, bd_small (bd_tw h2 b2 j hj) (by decide)⟩
  have P : ∀ (p q s : Int), p.natAbs ≤ 2 → q.natAbs ≤ 2 → (s = 1 ∨ s = -1) → (p + q * s).natAbs ≤ 4 ∧ (q - p * s).natAbs ≤ 4 := fun p q s hp hq hs => by rcases hs with rfl | rfl <;> omega
  have X2 : ∀ j, j < (2 * g).toNat → (twV x (twV y (unitM (2 * g).toNat j))).all smallB = true := fun j hj => by
    rw [tw_two x y _ (by rw [U, w1.2]) (by rw [U, w2.2])]
    have p1 := form_unit _ w1.1 2 x j w1.2 hj b1
    have p2 := form_unit _ w2.1 2 y j w2.2 hj b2
    exact bd_small (bd_twist (A := 5) (B := 2) (N := 4) (P _ _ _ p1 p2 h).1 (bd_tw h2 b2 j hj) b1) (by decide)
  have LX : ∀ j, (twV x (twV y (unitM (2 * g).toNat j))).length = (2 * g).toNat := fun j => by rw [twV_len _ _ (by rw [L2, w1.2]), w1.2]
  have X3 : ∀ j, j < (2 * g).toNat → (twV x (twV y (twV x (unitM (2 * g).toNat j)))).all smallB = true := fun j hj => by
    rw [tw_three x y _ (by rw [U, w1.2]) (by rw [U, w2.2]) (sq_one h)]
    have p1 := form_unit _ w1.1 2 x j w1.2 hj b1
    have p2 := form_unit _ w2.1 2 y j w2.2 hj b2
    exact bd_small (bd_twist (A := 9) (B := 2) (N := 4) (P _ _ _ p1 p2 h).2 (bd_twist (A := 1) (B := 2) (N := 4) (P _ _ _ p1 p2 h).1 (bd_unit _ j) b1) b2) (by decide)
  unfold threeM
  rw [times_tab _ (by omega) _ _ S1 S2 (fun j hj => by rw [act_tw h1 _ (L2 j)]; exact X2 j hj), if_pos rfl]
  rw [tab_congr _ _ (fun j => twV x (twV y (unitM (2 * g).toNat j))) fun j hj => act_tw h1 _ (L2 j)]
  have A3 : ∀ j, j < (2 * g).toNat → actM (2 * g).toNat (fun j => twV x (twV y (unitM (2 * g).toNat j))) (twV x (unitM (2 * g).toNat j)) = twV x (twV y (twV x (unitM (2 * g).toNat j))) := fun j hj => by
    rw [act_twV _ _ _ _ w1.2 (fun j _ => L2 j), act_tw h2 _ (L1 j)]
  rw [times_tab _ (by omega) _ _ (fun j hj => ⟨LX j, X2 j hj⟩) S1 (fun j hj => by rw [A3 j hj]; exact X3 j hj)]
  rw [tab_congr _ _ _ A3]
theorem braid_small {g : Int} {x y : List Int} (h1 : classB g x = true) (h2 : classB g y = true) (b1 : bdL 2 x) (b2 : bdL 2 y) (h : formM x y = 1 ∨ formM x y = -1) : braidM g x y = true := by
  have w1 := w_of h1
  have w2 := w_of h2
  unfold braidM
  rw [braid_half h1 h2 b1 b2 h, braid_half h2 h1 b2 b1 (by rw [formM_anti y x (by omega)]; omega), twmM_small h1 b1, twmM_small h2 b2]
  simp only [Bool.true_and, decide_eq_true_eq]
  exact tab_congr _ _ _ fun j hj => tw_braid x y _ (by rw [unitM_length, w1.2]) (by rw [unitM_length, w2.2]) (sq_one h)
/-- a twist undone -/
theorem tw_back {h : Int} {c z : List Int} {k : Int} (hok : (twistM h c z k).2 = true) (hk : -19 ≤ k) :
    ((twistM h c (twistM h c z k).1 (-k)).2 = true → (twistM h c (twistM h c z k).1 (-k)).1 = z) ∧ formOfM h c (twistM h c z k).1 = formOfM h c z := by
  unfold twistM at hok ⊢
  by_cases hc : classB h c = true ∧ classB h z = true ∧ -20 ≤ k ∧ k ≤ 20
  · rw [if_pos hc] at hok ⊢
    have a := class_of hc.1
    have b := class_of hc.2.1
    have hl : z.length = c.length := by omega
    by_cases hs : (twistL (k * formM c z) z c).all smallB = true
    · rw [if_pos hs]
      have ct : classB h (twistL (k * formM c z) z c) = true := by
        simp only [classB, Bool.and_eq_true, decide_eq_true_eq, hs, and_true, twistL_len _ _ _ hl]; exact ⟨a.1, a.2.1⟩
      have ef : formM c (twistL (k * formM c z) z c) = formM c z := by rw [formM_twist _ _ _ _ hl rfl, formM_self]; omega
      refine ⟨fun h2 => ?_, ?_⟩
      · dsimp only at h2 ⊢
        rw [if_pos ⟨hc.1, ct, by omega, by omega⟩] at h2 ⊢
        rw [ef, twistL_twistL _ _ _ _ hl, show k * formM c z + -k * formM c z = 0 by grind, twistL_zero _ _ hl] at h2 ⊢
        rw [if_pos b.2.2]
      · unfold formOfM
        rw [if_pos ⟨hc.1, ct⟩, if_pos ⟨hc.1, hc.2.1⟩, ef]
    · rw [if_neg hs] at hok; cases hok
  · rw [if_neg hc] at hok; cases hok
end

theorem laws_big_no (l : List Int) (h : ¬ (l.length : Int) > 1048576) : laws_big.f l = some false := by
  unfold laws_big.f; rw [decide_eq_false h]

theorem laws_sameInts_self (a : List Int) (ha : a.length ≤ 1048576) : EV (fun k => laws_sameInts.f k a a) true := by
  refine EV.pos rfl ?_
  have := EV.scan (g := fun k i => laws_sameInts.l0 k a a i) a (fun _ => true) true (fun i hi r H1 _ => ?_) ?_
  · rw [show (a.all fun _ => true) = true from List.all_eq_true.2 (fun _ _ => rfl), Bool.true_and] at this
    exact this
  · refine EV.step (fun k => by rw [laws_sameInts.l0]) ?_
    rw [w64 (x := (i : Int) + 1) (by omega) (by omega)]
    exact EV.pos (by omega) (EV.pos (by omega) (EV.pos (by omega) (EV.pos rfl (H1 rfl))))
  · refine EV.step (fun k => by rw [laws_sameInts.l0]) ?_
    exact EV.neg (by omega) (EV.now _)

theorem laws_sameLists_self (a : List (List Int)) (ha : a.length ≤ 1048576) (hr : ∀ r ∈ a, r.length ≤ 1048576) : EV (fun k => laws_sameLists.f k a a) true := by
  refine EV.pos rfl ?_
  have := EV.scan (g := fun k i => laws_sameLists.l0 k a a i) a (fun _ => true) true (fun i hi r H1 _ => ?_) ?_
  · rw [show (a.all fun _ => true) = true from List.all_eq_true.2 (fun _ _ => rfl), Bool.true_and] at this
    exact this
  · refine EV.step (fun k => by rw [laws_sameLists.l0]) ?_
    rw [w64 (x := (i : Int) + 1) (by omega) (by omega), rdL_nat _ _ hi]
    exact EV.pos (by omega) (EV.pos (by omega) (EV.pos (by omega) (EV.bind (laws_sameInts_self _ (hr _ (List.getElem_mem hi))) (EV.pos rfl (H1 rfl)))))
  · refine EV.step (fun k => by rw [laws_sameLists.l0]) ?_
    exact EV.neg (by omega) (EV.now _)

theorem spec_l1New_l0 (b : List Int) (hb : b.length ≤ 1048576) : ∀ (n i : Nat) (x : Int), i + n = b.length → ∃ h, EV (fun k => spec_l1New.l0 k b x (i : Int)) (b, 0, h)
  | 0, i, x, hi => ⟨x, EV.step (fun k => by rw [spec_l1New.l0]) (EV.neg (by omega) (EV.now _))⟩
  | n + 1, i, x, hi => by
    by_cases h4 : (i : Int) < 4000
    · obtain ⟨h, H⟩ := spec_l1New_l0 b hb n (i + 1) (Go.bits .and .i64 (wrap64 ((wrap64 ((wrap64 (x * 131)) + (wrap64 (rd b (i : Int))))) + 7)) 1073741823) (by omega)
      refine ⟨h, EV.step (fun k => by rw [spec_l1New.l0]) (EV.pos (by omega) (EV.pos h4 (EV.pos (by omega) ?_)))⟩
      rw [w64 (x := (i : Int) + 1) (by omega) (by omega)]
      rw [show ((i + 1 : Nat) : Int) = (i : Int) + 1 by omega] at H
      exact H
    · exact ⟨x, EV.step (fun k => by rw [spec_l1New.l0]) (EV.pos (by omega) (EV.neg h4 (EV.now _)))⟩
theorem spec_l1New_is (b : List Int) (hb : b.length ≤ 1048576) : ∃ h, EV (fun k => spec_l1New.f k b) (b, 0, h) :=
  spec_l1New_l0 b hb b.length 0 _ (by omega)

theorem and255 (x : Int) : 0 ≤ Go.bits .and .i64 x 255 ∧ Go.bits .and .i64 x 255 ≤ 255 := by
  have h : (BitVec.ofInt 64 x &&& BitVec.ofInt 64 255).toNat ≤ 255 := by
    rw [BitVec.toNat_and]; exact Nat.le_trans Nat.and_le_right (by decide)
  have e : Go.bits .and .i64 x 255 = IntKind.i64.wrap (((BitVec.ofInt 64 x &&& BitVec.ofInt 64 255).toNat : Nat) : Int) := rfl
  rw [e, IntKind.wrap_i64]
  omega

theorem spec_l1Byte_is (b : List Int) (i h : Int) (hb : b.length ≤ 1048576) (hi : 0 ≤ i) : ∃ x i' h', spec_l1Byte.f b i h = some (x, i', h') ∧ 0 ≤ x ∧ x ≤ 255 ∧ 0 ≤ i' := by
  unfold spec_l1Byte.f
  by_cases hc : i < (b.length : Int)
  · rw [if_pos hc, if_pos hi, w64 (x := i + 1) (by omega) (by omega)]
    exact ⟨_, _, _, rfl, (and255 _).1, (and255 _).2, by omega⟩
  · rw [if_neg hc]
    exact ⟨_, _, _, rfl, (and255 _).1, (and255 _).2, hi⟩

theorem spec_l1Below_is (b : List Int) (i h n : Int) (hb : b.length ≤ 1048576) (hi : 0 ≤ i) (h1 : 0 < n) (h2 : n ≤ 256) : ∃ x i' h', spec_l1Below.f b i h n = some (x, i', h') ∧ 0 ≤ x ∧ x < n ∧ 0 ≤ i' := by
  obtain ⟨x, i', h', e, a, c, d⟩ := spec_l1Byte_is b i h hb hi
  unfold spec_l1Below.f
  rw [if_neg (by omega), if_pos h2, e]
  simp only [Option.bind_some]
  rw [if_neg (by omega)]
  refine ⟨_, _, _, rfl, ?_, ?_, d⟩
  · exact Int.tmod_nonneg _ a
  · exact Int.tmod_lt_of_pos _ h1

theorem spec_l1PickInt_is (b : List Int) (i h : Int) (l : List Int) (hb : b.length ≤ 1048576) (hi : 0 ≤ i) (h1 : 0 < l.length) (h2 : l.length ≤ 256) : ∃ x i' h', spec_l1PickInt.f b i h l = some (x, i', h') ∧ x ∈ l ∧ 0 ≤ i' := by
  obtain ⟨x, i', h', e, a, c, d⟩ := spec_l1Below_is b i h l.length hb hi (by omega) (by omega)
  unfold spec_l1PickInt.f
  rw [e]
  simp only [Option.bind_some]
  rw [if_pos a, if_pos c]
  refine ⟨_, _, _, rfl, ?_, d⟩
  have hx : x.toNat < l.length := by omega
  have : rd l x = l[x.toNat] := by simp [rd, hx]
  rw [this]; exact List.getElem_mem _

theorem spec_l1Once_is (b : List Int) (i h n : Int) (hb : b.length ≤ 1048576) (hi : 0 ≤ i) (h1 : 0 < n) (h2 : n ≤ 256) : ∃ x i' h', spec_l1Once.f b i h n = some (x, i', h') ∧ 0 ≤ i' := by
  obtain ⟨x, i', h', e, a, c, d⟩ := spec_l1Below_is b i h n hb hi h1 h2
  unfold spec_l1Once.f
  rw [e]
  exact ⟨_, _, _, rfl, d⟩

def drawnL (n : Nat) (x : List Int) : Prop := x.length = n ∧ ∀ z ∈ x, z.natAbs ≤ 1001
theorem spec_l11Class_l0 (b : List Int) (hb : b.length ≤ 1048576) (g : Int) (w : Nat) (hw : (w : Int) = 2 * g) (h1 : 1 ≤ g) (h3 : g ≤ 3) : ∀ (n j : Nat) (acc : List Int) (i h : Int), j + n = w → 0 ≤ i → drawnL j acc →
    ∃ L i' h', EV (fun k => spec_l11Class.l0 k g acc (j : Int) b i h) (L, i', h') ∧ drawnL w L ∧ 0 ≤ i'
  | 0, j, acc, i, h, hj, hi, ha => by
    have e2 : wrap64 (2 * g) = (w : Int) := by rw [w64 (by omega) (by omega), hw]
    obtain ⟨o, i1, h1', e1, p1⟩ := spec_l1Once_is b i h 20 hb hi (by omega) (by omega)
    obtain ⟨x, i3, h3', e3, p3, q3⟩ := spec_l1PickInt_is b i1 h1' [1000, 1001, (-1000)] hb p1 (by decide) (by decide)
    cases o with
    | true =>
      refine ⟨acc.set 0 x, i3, h3', EV.step (fun k => by rw [spec_l11Class.l0]) ?_, ⟨by simp [ha.1]; omega, fun z hz => ?_⟩, q3⟩
      · rw [e2]
        refine EV.neg (by omega) (EV.by e1 (EV.pos rfl (EV.by e3 (EV.pos ?_ (EV.now _)))))
        have := ha.1; omega
      · rcases List.mem_or_eq_of_mem_set hz with h | h
        · exact ha.2 z h
        · subst h
          simp only [List.mem_cons, List.not_mem_nil, or_false] at p3
          omega
    | false =>
      refine ⟨acc, i1, h1', EV.step (fun k => by rw [spec_l11Class.l0]) ?_, ⟨by have := ha.1; omega, ha.2⟩, p1⟩
      rw [e2]
      exact EV.neg (by omega) (EV.by e1 (EV.neg (by simp) (EV.now _)))
  | n + 1, j, acc, i, h, hj, hi, ha => by
    have e2 : wrap64 (2 * g) = (w : Int) := by rw [w64 (by omega) (by omega), hw]
    obtain ⟨x, i1, h1', e1, p1, q1, r1⟩ := spec_l1Below_is b i h 5 hb hi (by omega) (by omega)
    obtain ⟨L, i', h', H, hL, hi'⟩ := spec_l11Class_l0 b hb g w hw h1 h3 n (j + 1) (acc ++ [x - 2]) i1 h1' (by omega) r1 ⟨by simp [ha.1], fun z hz => by
      rcases List.mem_append.1 hz with h | h
      · exact ha.2 z h
      · rw [List.mem_singleton.1 h]; omega⟩
    refine ⟨L, i', h', EV.step (fun k => by rw [spec_l11Class.l0]) ?_, hL, hi'⟩
    rw [e2]
    refine EV.pos (by omega) (EV.by e1 (EV.pos (by have := ha.1; omega) ?_))
    rw [w64 (x := x - 2) (by omega) (by omega), w64 (x := (j : Int) + 1) (by omega) (by omega)]
    exact_mod_cast H
theorem spec_l11Class_is (b : List Int) (hb : b.length ≤ 1048576) (i h g : Int) (hi : 0 ≤ i) (h1 : 1 ≤ g) (h3 : g ≤ 3) : ∃ L i' h', EV (fun k => spec_l11Class.f k b i h g) (L, i', h') ∧ drawnL (2 * g).toNat L ∧ 0 ≤ i' :=
  spec_l11Class_l0 b hb g (2 * g).toNat (by omega) h1 h3 (2 * g).toNat 0 [] i h (by omega) hi ⟨rfl, fun z hz => by cases hz⟩

def drawnC (x : List Int) : Prop := 1 ≤ x.length ∧ x.length ≤ 6 ∧ ∀ z ∈ x, z.natAbs ≤ 1001
theorem drawnC_of {g : Int} {x : List Int} (h1 : 1 ≤ g) (h3 : g ≤ 3) (h : drawnL (2 * g).toNat x) : drawnC x := by
  have := h.1
  exact ⟨by omega, by omega, h.2⟩
theorem spec_l11Two_is (b : List Int) (hb : b.length ≤ 1048576) : ∃ g x y, EV (fun k => spec_l11Two.f k b) (g, x, y) ∧ 0 ≤ g ∧ g ≤ 4 ∧ drawnC x ∧ drawnC y := by
  obtain ⟨h0, E0⟩ := spec_l1New_is b hb
  obtain ⟨g, i1, h1, e1, p1, q1, r1⟩ := spec_l1Below_is b 0 h0 3 hb (by omega) (by omega) (by omega)
  have hg : wrap64 (1 + g) = 1 + g := w64 (by omega) (by omega)
  obtain ⟨x, i2, h2, E2, d2, r2⟩ := spec_l11Class_is b hb i1 h1 (1 + g) r1 (by omega) (by omega)
  obtain ⟨y, i3, h3, E3, d3, r3⟩ := spec_l11Class_is b hb i2 h2 (1 + g) r2 (by omega) (by omega)
  obtain ⟨c, i4, h4, e4, p4, q4, r4⟩ := spec_l1Below_is b i3 h3 16 hb r3 (by omega) (by omega)
  obtain ⟨z, i5, h5, e5, m5, r5⟩ := spec_l1PickInt_is b i4 h4 [0, 4, 1] hb r4 (by decide) (by decide)
  have dx := drawnC_of (by omega) (by omega) d2
  have dy := drawnC_of (by omega) (by omega) d3
  have front : ∀ (R : Int × List Int × List Int), EV (fun _ : Nat => (if c = 0 then ((spec_l1PickInt.f b i4 h4 (([0, 4, 1] : List Int))).bind fun bt174 => (some (bt174.1, x, y))) else (if c = 1 then (if 1 ≤ (y.length : Int) then (some (1 + g, x, (y.take (1 : Int).toNat))) else (none)) else (if c = 2 then ((some (([] : List Int) : List Int)).bind fun y180 => (if y180.length + x.length < 17592186044416 then (some (1 + g, x, (y180 ++ x))) else (none))) else (if c = 3 then ((some (([] : List Int) : List Int)).bind fun y186 => (if y186.length + x.length < 17592186044416 then (some (1 + g, x, (y186 ++ x))) else (none))) else (some (1 + g, x, y))))))) R → EV (fun k => spec_l11Two.f k b) R := fun R H => by
    refine EV.bind E0 (EV.by e1 ?_)
    rw [hg]
    exact EV.bind E2 (EV.bind E3 (EV.by e4 H))
  by_cases c0 : c = 0
  · refine ⟨z, x, y, front _ (EV.pos c0 (EV.by e5 (EV.now _))), ?_, ?_, dx, dy⟩
    · simp only [List.mem_cons, List.not_mem_nil, or_false] at m5; omega
    · simp only [List.mem_cons, List.not_mem_nil, or_false] at m5; omega
  · by_cases c1 : c = 1
    · refine ⟨1 + g, x, y.take 1, front _ (EV.neg c0 (EV.pos c1 (EV.pos (by have := dy.1; omega) (EV.now _)))), by omega, by omega, dx, ⟨by simp; have := dy.1; omega, by simp; omega, fun q hq => dy.2.2 q (List.mem_of_mem_take hq)⟩⟩
    · by_cases c2 : c = 2
      · exact ⟨1 + g, x, x, front _ (EV.neg c0 (EV.neg c1 (EV.pos c2 (EV.by rfl (EV.pos (by simp; have := dx.2.1; omega) (EV.now _)))))), by omega, by omega, dx, dx⟩
      · by_cases c3 : c = 3
        · exact ⟨1 + g, x, x, front _ (EV.neg c0 (EV.neg c1 (EV.neg c2 (EV.pos c3 (EV.by rfl (EV.pos (by simp; have := dx.2.1; omega) (EV.now _))))))), by omega, by omega, dx, dx⟩
        · exact ⟨1 + g, x, y, front _ (EV.neg c0 (EV.neg c1 (EV.neg c2 (EV.neg c3 (EV.now _))))), by omega, by omega, dx, dy⟩

theorem impl_within_is (a b c : Int) : impl_within.f a b c = some (decide (b ≤ a ∧ a ≤ c)) := by
  unfold impl_within.f
  by_cases h : a ≥ b
  · rw [if_pos h]; simp [show b ≤ a from h]
  · rw [if_neg h]; simp; omega

theorem impl_areSmall_l0 (xs : List Int) (hn : xs.length < 4611686018427387904) : ∀ suf pre, xs = pre ++ suf → EV (fun k => impl_areSmall.l0 k xs (xs.length : Int) (pre.length : Int)) (suf.all smallB) := by
  intro suf
  induction suf with
  | nil =>
    intro pre h
    refine EV.step (fun k => by rw [impl_areSmall.l0]) ?_
    exact EV.neg (by subst h; simp) (EV.now _)
  | cons x suf ih =>
    intro pre h
    have hl : pre.length < 4611686018427387904 := by subst h; simp at hn; omega
    have hlt : (pre.length : Int) < (xs.length : Int) := by subst h; exact lt_app ..
    have hx : rd xs (pre.length : Int) = x := by subst h; exact rd_app ..
    refine EV.step (fun k => by rw [impl_areSmall.l0]) ?_
    refine EV.pos hlt (EV.pos (by omega) (EV.pos hlt (EV.by (impl_within_is _ _ _) ?_)))
    rw [hx, up (x := x) hl]
    by_cases hs : smallB x = true
    · exact EV.pos hs ((ih (pre ++ [x]) (by simp [h])).eq (by simp [hs]))
    · exact EV.neg hs ((EV.now _).eq (by simp [hs]))
theorem impl_areSmall_is (xs : List Int) (hn : xs.length < 4611686018427387904) : EV (fun k => impl_areSmall.f k xs) (xs.all smallB) := impl_areSmall_l0 xs hn xs [] rfl

theorem impl_IsClass_is (g : Int) (xs : List Int) (hn : xs.length < 4611686018427387904) : EV (fun k => impl_IsClass.f k g xs) (classB g xs) := by
  unfold classB
  refine EV.by (impl_within_is _ _ _) ?_
  by_cases hg : 1 ≤ g ∧ g ≤ 3
  · refine EV.pos (by simpa using hg) ?_
    rw [w64 (by omega) (by omega)]
    by_cases hl : (xs.length : Int) = 2 * g
    · exact EV.pos hl (EV.bind (impl_areSmall_is xs hn) ((EV.now _).eq (by simp [hg, hl])))
    · exact EV.neg hl ((EV.now _).eq (by simp [hl]))
  · exact EV.neg (by simpa using hg) ((EV.now _).eq (by simp [hg]))

theorem impl_form_l0 : ∀ (n : Nat) (sx sy px py : List Int) (acc : Int), sx.length ≤ n → px.length = py.length → sx.length = sy.length → sx.all smallB = true → sy.all smallB = true → px.length + sx.length < 1000000 →
    acc.natAbs + 1000000 * sx.length ≤ 1000000000000000 → EV (fun k => impl_form.l0 k (px ++ sx) (py ++ sy) acc (px.length : Int)) (acc + formM sx sy) := by
  intro n
  induction n with
  | zero =>
    intro sx sy px py acc hn hp hs _ _ hl _
    have e : sx = [] := List.eq_nil_of_length_eq_zero (by omega)
    subst e
    refine EV.step (fun k => by rw [impl_form.l0]) ?_
    rw [w64 (by omega) (by omega)]
    exact EV.neg (by simp; omega) ((EV.now _).eq (by simp [formM]))
  | succ n ih =>
    intro sx sy px py acc hn hp hs h1 h2 hl ha
    match sx, sy with
    | [], _ =>
      refine EV.step (fun k => by rw [impl_form.l0]) ?_
      rw [w64 (by omega) (by omega)]
      exact EV.neg (by simp; omega) ((EV.now _).eq (by simp [formM]))
    | [_], _ =>
      refine EV.step (fun k => by rw [impl_form.l0]) ?_
      rw [w64 (by omega) (by omega)]
      exact EV.neg (by simp) ((EV.now _).eq (by simp [formM]))
    | _ :: _ :: _, [] => simp at hs
    | _ :: _ :: _, [_] => simp at hs
    | a :: b :: xs, c :: d :: ys =>
      simp only [List.all_cons, Bool.and_eq_true, List.length_cons] at h1 h2 hn hs hl ha
      have t := form_term h1.1 h1.2.1 h2.1 h2.2.1
      refine EV.step (fun k => by rw [impl_form.l0]) ?_
      rw [w64 (x := (px.length : Int) + 1) (by omega) (by omega), w64 (x := (px.length : Int) + 2) (by omega) (by omega)]
      refine EV.pos (by simp; omega) (EV.pos (by omega) (EV.pos (by simp; omega) (EV.pos (by omega) (EV.pos (by simp; omega) (EV.pos (by simp; omega) ?_)))))
      have e3 : rd (py ++ c :: d :: ys) (px.length : Int) = c := by rw [hp]; exact rd_app ..
      rw [rd_app, e3, rd_app1 px a b xs _ rfl, rd_app1 py c d ys _ (by rw [hp])]
      rw [w64 (x := a * d) (by omega) (by omega), w64 (x := b * c) (by omega) (by omega)]
      rw [w64 (x := a * d - b * c) (by omega) (by omega), w64 (by omega) (by omega)]
      have := ih xs ys (px ++ [a, b]) (py ++ [c, d]) (acc + (a * d - b * c)) (by omega) (by simp; omega) (by omega) h1.2.2 h2.2.2 (by simp; omega) (by omega)
      simp only [List.append_assoc, List.cons_append, List.nil_append, List.length_append, List.length_cons, List.length_nil] at this
      refine EV.congr (fun k => ?_) (this.eq (by simp only [formM]; omega))
      congr 1
theorem impl_form_is (xs ys : List Int) (hs : xs.length = ys.length) (h1 : xs.all smallB = true) (h2 : ys.all smallB = true) (hl : xs.length ≤ 1000) : EV (fun k => impl_form.f k xs ys) (formM xs ys) :=
  (impl_form_l0 xs.length xs ys [] [] 0 (Nat.le_refl _) rfl hs h1 h2 (by simp; omega) (by simp; omega)).eq (by simp)

theorem impl_TwistClass_l0 (x c : List Int) (n : Int) (hl : x.length ≤ 1000) (hlc : c.length = x.length) (hn : n.natAbs ≤ 120000000) (hx : x.all smallB = true) (hc : c.all smallB = true) :
    ∀ (sx sc px pc acc : List Int), x = px ++ sx → c = pc ++ sc → px.length = pc.length → acc.length = px.length → (acc ++ twistL n sx sc).length ≤ 1000 →
    EV (fun k => impl_TwistClass.l0 k c x acc n (x.length : Int) (px.length : Int)) (if (acc ++ twistL n sx sc).all smallB = true then (acc ++ twistL n sx sc, true) else ([], false)) := by
  intro sx
  induction sx with
  | nil =>
    intro sc px pc acc h1 h2 h3 h4 h5
    have e : twistL n [] sc = [] := rfl
    rw [e, List.append_nil] at h5 ⊢
    refine EV.step (fun k => by rw [impl_TwistClass.l0]) ?_
    refine EV.neg (by subst h1; simp) (EV.bind (impl_areSmall_is acc (by omega)) ?_)
    by_cases hs : acc.all smallB = true
    · exact EV.pos hs ((EV.now _).eq (by rw [if_pos hs]))
    · exact EV.neg hs ((EV.now _).eq (by rw [if_neg hs]))
  | cons a sx ih =>
    intro sc px pc acc h1 h2 h3 h4 h5
    obtain ⟨b, sc, rfl⟩ : ∃ b t, sc = b :: t := by
      cases sc with
      | nil => exfalso; subst h1; subst h2; simp at hlc; omega
      | cons b t => exact ⟨b, t, rfl⟩
    have e : twistL n (a :: sx) (b :: sc) = (a + n * b) :: twistL n sx sc := rfl
    have ha : smallB a = true := by subst h1; simp at hx; exact hx.2.1
    have hb : smallB b = true := by subst h2; simp at hc; exact hc.2.1
    have hp : px.length < 4611686018427387904 := by subst h1; simp at hl; omega
    have r1 : rd x (px.length : Int) = a := by subst h1; exact rd_app ..
    have r2 : rd c (px.length : Int) = b := by subst h2; rw [h3]; exact rd_app ..
    have l1 : (px.length : Int) < (x.length : Int) := by subst h1; exact lt_app ..
    refine EV.step (fun k => by rw [impl_TwistClass.l0]) ?_
    rw [r1, r2, (twist_term hn ha hb).1, (twist_term hn ha hb).2, up (x := a) hp]
    refine EV.pos l1 (EV.pos (by omega) (EV.pos l1 (EV.pos (by omega) (EV.pos (by omega) ?_))))
    rw [e] at h5 ⊢
    have := ih sc (px ++ [a]) (pc ++ [b]) (acc ++ [a + n * b]) (by simp [h1]) (by simp [h2]) (by simp [h3]) (by simp [h4]) (by simpa using h5)
    simpa using this
theorem impl_TwistClass_is (g : Int) (c x : List Int) (t : Int) (h1 : c.length ≤ 1048576) (h2 : x.length ≤ 1048576) : EV (fun k => impl_TwistClass.f k g c x t) (twistM g c x t) := by
  have no : EV (fun k => impl_TwistClass.j0 k c x t true) ([], false) := by
    refine EV.step (fun k => by rw [impl_TwistClass.j0]) ?_
    exact EV.pos rfl (EV.now _)
  unfold twistM
  refine EV.bind (impl_IsClass_is g c (by omega)) ?_
  by_cases hc : classB g c = true
  · refine EV.pos hc (EV.bind (impl_IsClass_is g x (by omega)) ?_)
    by_cases hx : classB g x = true
    · refine EV.pos hx (EV.by (impl_within_is _ _ _) ?_)
      by_cases ht : -20 ≤ t ∧ t ≤ 20
      · rw [if_pos ⟨hc, hx, ht⟩]
        obtain ⟨_, c2, c3⟩ := class_of hc
        obtain ⟨_, x2, x3⟩ := class_of hx
        have hf := form_class hc hx
        have hn := mul_bd (x := t) (y := formM c x) 20 6000000 (by omega) hf
        have e : (!decide (-20 ≤ t ∧ t ≤ 20)) = false := by simp [ht]
        rw [e]
        refine EV.step (fun k => by rw [impl_TwistClass.j0]) ?_
        refine EV.neg (by simp) (EV.bind (impl_form_is c x (by omega) c3 x3 (by omega)) ?_)
        rw [w64 (x := t * formM c x) (by omega) (by omega)]
        exact impl_TwistClass_l0 x c (t * formM c x) (by omega) (by omega) (by omega) x3 c3 x c [] [] [] rfl rfl rfl rfl (by simp [twistL]; omega)
      · rw [if_neg (fun h => ht h.2.2)]
        have e : (!decide (-20 ≤ t ∧ t ≤ 20)) = true := by simp [ht]
        rw [e]; exact no
    · rw [if_neg (fun h => hx h.2.1)]
      exact EV.neg hx no
  · rw [if_neg (fun h => hc h.1)]
    exact EV.neg hc no

theorem spec_l1In_is (a b c : Int) : spec_l1In.f a b c = some (decide (b ≤ a ∧ a ≤ c)) := by
  unfold spec_l1In.f
  by_cases h : a ≥ b
  · rw [if_pos h]; simp [show b ≤ a from h]
  · rw [if_neg h]; simp; omega

theorem spec_l11Fits_l0 (xs : List Int) (hn : xs.length < 4611686018427387904) : ∀ suf pre, xs = pre ++ suf → EV (fun k => spec_l11Fits.l0 k xs (pre.length : Int)) (suf.all smallB) := by
  intro suf
  induction suf with
  | nil =>
    intro pre h
    refine EV.step (fun k => by rw [spec_l11Fits.l0]) ?_
    exact EV.neg (by subst h; simp) (EV.now _)
  | cons x suf ih =>
    intro pre h
    have hl : pre.length < 4611686018427387904 := by subst h; simp at hn; omega
    have hlt : (pre.length : Int) < (xs.length : Int) := by subst h; exact lt_app ..
    have hx : rd xs (pre.length : Int) = x := by subst h; exact rd_app ..
    refine EV.step (fun k => by rw [spec_l11Fits.l0]) ?_
    refine EV.pos hlt (EV.pos (by omega) (EV.by (spec_l1In_is _ _ _) ?_))
    rw [hx, up (x := x) hl]
    by_cases hs : smallB x = true
    · exact EV.pos hs ((ih (pre ++ [x]) (by simp [h])).eq (by simp [hs]))
    · exact EV.neg hs ((EV.now _).eq (by simp [hs]))
theorem spec_l11Fits_is (xs : List Int) (hn : xs.length < 4611686018427387904) : EV (fun k => spec_l11Fits.f k xs) (xs.all smallB) := spec_l11Fits_l0 xs hn xs [] rfl

theorem spec_IsClass_is (g : Int) (xs : List Int) (hn : xs.length < 4611686018427387904) : EV (fun k => spec_IsClass.f k g xs) (classB g xs) := by
  unfold classB
  refine EV.by (spec_l1In_is _ _ _) ?_
  by_cases hg : 1 ≤ g ∧ g ≤ 3
  · refine EV.pos (by simpa using hg) ?_
    rw [w64 (by omega) (by omega)]
    by_cases hl : (xs.length : Int) = 2 * g
    · exact EV.pos hl (EV.bind (spec_l11Fits_is xs hn) ((EV.now _).eq (by simp [hg, hl])))
    · exact EV.neg hl ((EV.now _).eq (by simp [hl]))
  · exact EV.neg (by simpa using hg) ((EV.now _).eq (by simp [hg]))

theorem spec_l11Form_l0 : ∀ (n : Nat) (sx sy px py : List Int) (acc : Int), sx.length ≤ n → px.length = py.length → sx.length = sy.length → sx.all smallB = true → sy.all smallB = true → px.length + sx.length < 1000000 →
    acc.natAbs + 1000000 * sx.length ≤ 1000000000000000 → EV (fun k => spec_l11Form.l0 k (px ++ sx) (py ++ sy) acc (px.length : Int)) (acc + formM sx sy) := by
  intro n
  induction n with
  | zero =>
    intro sx sy px py acc hn hp hs _ _ hl _
    have e : sx = [] := List.eq_nil_of_length_eq_zero (by omega)
    subst e
    refine EV.step (fun k => by rw [spec_l11Form.l0]) ?_
    rw [w64 (by omega) (by omega)]
    exact EV.neg (by simp; omega) ((EV.now _).eq (by simp [formM]))
  | succ n ih =>
    intro sx sy px py acc hn hp hs h1 h2 hl ha
    match sx, sy with
    | [], _ =>
      refine EV.step (fun k => by rw [spec_l11Form.l0]) ?_
      rw [w64 (by omega) (by omega)]
      exact EV.neg (by simp; omega) ((EV.now _).eq (by simp [formM]))
    | [_], _ =>
      refine EV.step (fun k => by rw [spec_l11Form.l0]) ?_
      rw [w64 (by omega) (by omega)]
      exact EV.neg (by simp) ((EV.now _).eq (by simp [formM]))
    | _ :: _ :: _, [] => simp at hs
    | _ :: _ :: _, [_] => simp at hs
    | a :: b :: xs, c :: d :: ys =>
      simp only [List.all_cons, Bool.and_eq_true, List.length_cons] at h1 h2 hn hs hl ha
      have t := form_term h1.1 h1.2.1 h2.1 h2.2.1
      refine EV.step (fun k => by rw [spec_l11Form.l0]) ?_
      rw [w64 (x := (px.length : Int) + 1) (by omega) (by omega), w64 (x := (px.length : Int) + 2) (by omega) (by omega)]
      refine EV.pos (by simp; omega) (EV.pos (by omega) (EV.pos (by simp; omega) (EV.pos (by omega) (EV.pos (by simp; omega) (EV.pos (by simp; omega) ?_)))))
      have e3 : rd (py ++ c :: d :: ys) (px.length : Int) = c := by rw [hp]; exact rd_app ..
      rw [rd_app, e3, rd_app1 px a b xs _ rfl, rd_app1 py c d ys _ (by rw [hp])]
      rw [w64 (x := a * d) (by omega) (by omega), w64 (x := b * c) (by omega) (by omega)]
      rw [w64 (x := acc + a * d) (by omega) (by omega), w64 (by omega) (by omega)]
      have := ih xs ys (px ++ [a, b]) (py ++ [c, d]) (acc + (a * d - b * c)) (by omega) (by simp; omega) (by omega) h1.2.2 h2.2.2 (by simp; omega) (by omega)
      simp only [List.append_assoc, List.cons_append, List.nil_append, List.length_append, List.length_cons, List.length_nil] at this
      have e : acc + a * d - b * c = acc + (a * d - b * c) := by omega
      rw [e]
      refine EV.congr (fun k => ?_) (this.eq (by simp only [formM]; omega))
      congr 1
theorem spec_l11Form_is (xs ys : List Int) (hs : xs.length = ys.length) (h1 : xs.all smallB = true) (h2 : ys.all smallB = true) (hl : xs.length ≤ 1000) : EV (fun k => spec_l11Form.f k xs ys) (formM xs ys) :=
  (spec_l11Form_l0 xs.length xs ys [] [] 0 (Nat.le_refl _) rfl hs h1 h2 (by simp; omega) (by simp; omega)).eq (by simp)

theorem spec_TwistClass_l0 (x c : List Int) (n : Int) (hl : x.length ≤ 1000) (hlc : c.length = x.length) (hn : n.natAbs ≤ 120000000) (hx : x.all smallB = true) (hc : c.all smallB = true) :
    ∀ (sx sc px pc acc : List Int), x = px ++ sx → c = pc ++ sc → px.length = pc.length → acc.length = px.length → (acc ++ twistL n sx sc).length ≤ 1000 →
    EV (fun k => spec_TwistClass.l0 k c x n acc (px.length : Int)) (if (acc ++ twistL n sx sc).all smallB = true then (acc ++ twistL n sx sc, true) else ([], false)) := by
  intro sx
  induction sx with
  | nil =>
    intro sc px pc acc h1 h2 h3 h4 h5
    have e : twistL n [] sc = [] := rfl
    rw [e, List.append_nil] at h5 ⊢
    refine EV.step (fun k => by rw [spec_TwistClass.l0]) ?_
    refine EV.neg (by subst h1; simp) (EV.bind (spec_l11Fits_is acc (by omega)) ?_)
    by_cases hs : acc.all smallB = true
    · exact EV.pos hs ((EV.now _).eq (by rw [if_pos hs]))
    · exact EV.neg hs ((EV.now _).eq (by rw [if_neg hs]))
  | cons a sx ih =>
    intro sc px pc acc h1 h2 h3 h4 h5
    obtain ⟨b, sc, rfl⟩ : ∃ b t, sc = b :: t := by
      cases sc with
      | nil => exfalso; subst h1; subst h2; simp at hlc; omega
      | cons b t => exact ⟨b, t, rfl⟩
    have e : twistL n (a :: sx) (b :: sc) = (a + n * b) :: twistL n sx sc := rfl
    have ha : smallB a = true := by subst h1; simp at hx; exact hx.2.1
    have hb : smallB b = true := by subst h2; simp at hc; exact hc.2.1
    have hp : px.length < 4611686018427387904 := by subst h1; simp at hl; omega
    have r1 : rd x (px.length : Int) = a := by subst h1; exact rd_app ..
    have r2 : rd c (px.length : Int) = b := by subst h2; rw [h3]; exact rd_app ..
    have l1 : (px.length : Int) < (x.length : Int) := by subst h1; exact lt_app ..
    refine EV.step (fun k => by rw [spec_TwistClass.l0]) ?_
    rw [r1, r2, (twist_term hn ha hb).1, (twist_term hn ha hb).2, up (x := a) hp]
    refine EV.pos l1 (EV.pos (by omega) (EV.pos (by omega) (EV.pos (by omega) ?_)))
    rw [e] at h5 ⊢
    have := ih sc (px ++ [a]) (pc ++ [b]) (acc ++ [a + n * b]) (by simp [h1]) (by simp [h2]) (by simp [h3]) (by simp [h4]) (by simpa using h5)
    simpa using this
theorem spec_TwistClass_is (g : Int) (c x : List Int) (t : Int) (h1 : c.length ≤ 1048576) (h2 : x.length ≤ 1048576) : EV (fun k => spec_TwistClass.f k g c x t) (twistM g c x t) := by
  have no : EV (fun k => spec_TwistClass.j0 k c x t true) ([], false) := by
    refine EV.step (fun k => by rw [spec_TwistClass.j0]) ?_
    exact EV.pos rfl (EV.now _)
  unfold twistM
  refine EV.bind (spec_IsClass_is g c (by omega)) ?_
  by_cases hc : classB g c = true
  · refine EV.pos hc (EV.bind (spec_IsClass_is g x (by omega)) ?_)
    by_cases hx : classB g x = true
    · refine EV.pos hx (EV.by (spec_l1In_is _ _ _) ?_)
      by_cases ht : -20 ≤ t ∧ t ≤ 20
      · rw [if_pos ⟨hc, hx, ht⟩]
        obtain ⟨_, c2, c3⟩ := class_of hc
        obtain ⟨_, x2, x3⟩ := class_of hx
        have hf := form_class hc hx
        have hn := mul_bd (x := t) (y := formM c x) 20 6000000 (by omega) hf
        have e : (!decide (-20 ≤ t ∧ t ≤ 20)) = false := by simp [ht]
        rw [e]
        refine EV.step (fun k => by rw [spec_TwistClass.j0]) ?_
        refine EV.neg (by simp) (EV.bind (spec_l11Form_is c x (by omega) c3 x3 (by omega)) ?_)
        rw [w64 (x := t * formM c x) (by omega) (by omega)]
        exact spec_TwistClass_l0 x c (t * formM c x) (by omega) (by omega) (by omega) x3 c3 x c [] [] [] rfl rfl rfl rfl (by simp [twistL]; omega)
      · rw [if_neg (fun h => ht h.2.2)]
        have e : (!decide (-20 ≤ t ∧ t ≤ 20)) = true := by simp [ht]
        rw [e]; exact no
    · rw [if_neg (fun h => hx h.2.1)]
      exact EV.neg hx no
  · rw [if_neg (fun h => hc h.1)]
    exact EV.neg hc no

theorem impl_unit_is (n i : Nat) (hn : n ≤ 1000) (hi : i < n) : impl_unit.f (n : Int) (i : Int) = some (unitM n i) := by
  unfold impl_unit.f
  rw [if_pos (by omega), if_pos (by omega)]
  simp only [Option.bind_some]
  rw [if_pos (by omega), if_pos (by simp; omega)]
  rfl

theorem impl_TwistMatrix_l0 (g : Int) (c : List Int) (w : Nat) (hw : (w : Int) = 2 * g) (hb : w ≤ 6) (hc : c.length ≤ 1048576) : ∀ (n : Nat) (cs : List (List Int)), cs.length + n = w →
    EV (fun k => impl_TwistMatrix.l0 k g c (rowsOf w cs) (w : Int) (cs.length : Int)) (resM w cs (colsT g c w n cs.length)) := by
  have e2 : wrap64 (2 * g) = (w : Int) := by rw [w64 (by omega) (by omega), hw]
  intro n
  induction n with
  | zero =>
    intro cs h
    refine EV.step (fun k => by rw [impl_TwistMatrix.l0]) ?_
    refine EV.neg (by omega) ((EV.now _).eq ?_)
    simp [colsT, resM]
  | succ n ih =>
    intro cs h
    refine EV.step (fun k => by rw [impl_TwistMatrix.l0]) ?_
    rw [e2]
    refine EV.pos (by omega) (EV.by (impl_unit_is w cs.length (by omega) (by omega)) ?_)
    refine EV.bind (impl_TwistClass_is g c _ 1 hc (by rw [unitM_length]; omega)) ?_
    by_cases ok : (twistM g c (unitM w cs.length) 1).2 = true
    · have hl := twistM_ok ok
      rw [unitM_length] at hl
      refine EV.pos ok ?_
      refine EV.zip (g := fun k t i => impl_TwistMatrix.l1 k g c t (w : Int) (cs.length : Int) (twistM g c (unitM w cs.length) 1).1 ((twistM g c (unitM w cs.length) 1).1.length : Int) i) (fun r v => r ++ [v]) (rowsOf w cs) (twistM g c (unitM w cs.length) 1).1 (by simp [rowsOf, hl]) _ (fun i h1 h2 s hs hsi H => ?_) ?_
      · have hm : (rowsOf w cs).length = w := by simp [rowsOf]
        have hri : ((rowsOf w cs)[i]).length = cs.length := by simp [rowsOf]
        refine EV.step (fun k => by rw [impl_TwistMatrix.l1]) ?_
        rw [getElem_rdL _ _ _ hsi, rd_nat _ _ h2, w64 (x := (i : Int) + 1) (by omega) (by omega)]
        refine EV.pos (by omega) (EV.pos (by omega) (EV.pos (by omega) (EV.pos (by omega) (EV.pos (by omega) ?_))))
        simpa using H
      · rw [rowsOf_snoc w cs _ hl]
        refine EV.step (fun k => by rw [impl_TwistMatrix.l1]) ?_
        rw [w64 (x := (cs.length : Int) + 1) (by omega) (by omega)]
        refine EV.neg (by simp [rowsOf]; omega) ?_
        have := ih (cs ++ [(twistM g c (unitM w cs.length) 1).1]) (by simp; omega)
        simp only [List.length_append, List.length_cons, List.length_nil] at this
        refine EV.congr (fun k => rfl) (this.eq ?_)
        simp only [colsT]
        rw [if_pos ok]
        rcases colsT g c w n (cs.length + 1) with _ | cs'
        · rfl
        · simp [resM]
    · refine EV.neg ok ((EV.now _).eq ?_)
      simp only [colsT]
      rw [if_neg ok]; rfl
theorem impl_TwistMatrix_is (g : Int) (c : List Int) (hc : c.length ≤ 1048576) : EV (fun k => impl_TwistMatrix.f k g c) (twmM g c) := by
  unfold twmM
  refine EV.bind (impl_IsClass_is g c (by omega)) ?_
  by_cases h : classB g c = true
  · have a := class_of h
    have hw : (((2 * g).toNat : Nat) : Int) = 2 * g := by omega
    have e2 : wrap64 (2 * g) = (((2 * g).toNat : Nat) : Int) := by rw [w64 (by omega) (by omega), hw]
    refine EV.pos h ?_
    rw [if_pos h, e2]
    have hb : (2 * g).toNat ≤ 6 := by omega
    generalize (2 * g).toNat = w at *
    refine EV.pos (by omega) (EV.pos (by omega) ?_)
    have := impl_TwistMatrix_l0 g c w hw hb hc w [] (by simp)
    rw [rowsOf_nil] at this
    exact this
  · exact EV.neg h ((EV.now _).eq (by rw [if_neg h]))

theorem spec_l11Unit_is (n i : Nat) (hn : n ≤ 1000) (hi : i < n) : spec_l11Unit.f (n : Int) (i : Int) = some (unitM n i) := by
  unfold spec_l11Unit.f
  rw [if_pos (by omega), if_pos (by omega)]
  simp only [Option.bind_some]
  rw [if_pos (by omega), if_pos (by simp; omega)]
  rfl

theorem mixM_zero (n : Nat) : mixM n (List.replicate n (List.replicate n 0)) [] = List.replicate n (List.replicate n 0) := mixM_nil _ _ (by simp)
theorem spec_TwistMatrix_l1 (g : Int) (c : List Int) (w : Nat) (hw : (w : Int) = 2 * g) (hb : w ≤ 6) (hc : c.length ≤ 1048576) : ∀ (n : Nat) (cs : List (List Int)), cs.length + n = w →
    EV (fun k => spec_TwistMatrix.l1 k g c (mixM w (List.replicate w (List.replicate w 0)) cs) (cs.length : Int)) (resM w cs (colsT g c w n cs.length)) := by
  have e2 : wrap64 (2 * g) = (w : Int) := by rw [w64 (by omega) (by omega), hw]
  have hrow : ∀ r ∈ List.replicate w (List.replicate w (0 : Int)), r.length = w := fun r hr => by rw [(List.mem_replicate.1 hr).2]; simp
  intro n
  induction n with
  | zero =>
    intro cs h
    refine EV.step (fun k => by rw [spec_TwistMatrix.l1]) ?_
    rw [e2]
    refine EV.neg (by omega) ((EV.now _).eq ?_)
    rw [mixM_full _ _ _ (by simp) hrow (by omega)]
    simp [colsT, resM]
  | succ n ih =>
    intro cs h
    refine EV.step (fun k => by rw [spec_TwistMatrix.l1]) ?_
    rw [e2]
    refine EV.pos (by omega) (EV.by (spec_l11Unit_is w cs.length (by omega) (by omega)) ?_)
    refine EV.bind (spec_TwistClass_is g c _ 1 hc (by rw [unitM_length]; omega)) ?_
    by_cases ok : (twistM g c (unitM w cs.length) 1).2 = true
    · have hl := twistM_ok ok
      rw [unitM_length] at hl
      refine EV.pos ok ?_
      refine EV.zip (g := fun k t i => spec_TwistMatrix.l2 k g c t (cs.length : Int) (twistM g c (unitM w cs.length) 1).1 i) (fun r v => r.set cs.length v) (mixM w (List.replicate w (List.replicate w 0)) cs) (twistM g c (unitM w cs.length) 1).1 (by simp [mixM, hl]) _ (fun i h1 h2 s hs hsi H => ?_) ?_
      · have hm : (mixM w (List.replicate w (List.replicate w 0)) cs).length = w := by simp [mixM]
        have hri : ((mixM w (List.replicate w (List.replicate w 0)) cs)[i]).length = w := by
          have : i < w := by omega
          simp only [mixM, List.getElem_map, List.getElem_range]
          simp [this]; omega
        refine EV.step (fun k => by rw [spec_TwistMatrix.l2]) ?_
        rw [e2, getElem_rdL _ _ _ hsi, rd_nat _ _ h2, w64 (x := (i : Int) + 1) (by omega) (by omega)]
        refine EV.pos (by omega) (EV.pos (by omega) (EV.pos (by omega) (EV.pos (by omega) (EV.pos (by omega) (EV.pos (by omega) ?_)))))
        simpa using H
      · rw [mixM_snoc w _ cs _ hl (by simp) (fun r hr => by have := hrow r hr; omega)]
        refine EV.step (fun k => by rw [spec_TwistMatrix.l2]) ?_
        rw [e2, w64 (x := (cs.length : Int) + 1) (by omega) (by omega)]
        refine EV.neg (by simp [mixM]) ?_
        have := ih (cs ++ [(twistM g c (unitM w cs.length) 1).1]) (by simp; omega)
        simp only [List.length_append, List.length_cons, List.length_nil] at this
        refine EV.congr (fun k => rfl) (this.eq ?_)
        simp only [colsT]
        rw [if_pos ok]
        rcases colsT g c w n (cs.length + 1) with _ | cs'
        · rfl
        · simp [resM]
    · refine EV.neg ok ((EV.now _).eq ?_)
      simp only [colsT]
      rw [if_neg ok]; rfl
theorem spec_TwistMatrix_is (g : Int) (c : List Int) (hc : c.length ≤ 1048576) : EV (fun k => spec_TwistMatrix.f k g c) (twmM g c) := by
  unfold twmM
  refine EV.bind (spec_IsClass_is g c (by omega)) ?_
  by_cases h : classB g c = true
  · have a := class_of h
    have hw : (((2 * g).toNat : Nat) : Int) = 2 * g := by omega
    have e2 : wrap64 (2 * g) = (((2 * g).toNat : Nat) : Int) := by rw [w64 (by omega) (by omega), hw]
    refine EV.pos h ?_
    rw [if_pos h]
    have hb : (2 * g).toNat ≤ 6 := by omega
    generalize (2 * g).toNat = w at *
    refine EV.count (g := fun k t i => spec_TwistMatrix.l0 k g c t i) w (fun i => List.replicate i (List.replicate w 0)) _ (fun i hi H => ?_) ?_
    · refine EV.step (fun k => by rw [spec_TwistMatrix.l0]) ?_
      rw [e2, w64 (x := (i : Int) + 1) (by omega) (by omega)]
      refine EV.pos (by omega) (EV.pos (by omega) (EV.pos (by omega) (EV.pos (by simp; omega) ?_)))
      simpa [List.replicate_succ'] using H
    · refine EV.step (fun k => by rw [spec_TwistMatrix.l0]) ?_
      rw [e2]
      refine EV.neg (by omega) ?_
      have := spec_TwistMatrix_l1 g c w hw hb hc w [] (by simp)
      rw [mixM_zero] at this
      exact this
  · exact EV.neg h ((EV.now _).eq (by rw [if_neg h]))

theorem impl_ApplyTable_l1 (t : List (List Int)) (x r out : List Int) (i : Nat) (ho : out.length ≤ 1000) (hi' : i ≤ 1000) {R : List Int × Bool} :
    ∀ (sx sr px pr : List Int) (acc : Int), x = px ++ sx → r = pr ++ sr → pr.length = px.length → sr.length = sx.length → sr.all smallB = true → sx.all smallB = true → px.length + sx.length ≤ 1000 → acc.natAbs + 1000000 * sx.length ≤ 1000000000000 →
    EV (fun k => impl_ApplyTable.l0 k t x (out ++ [acc + dot sr sx]) t (t.length : Int) ((i + 1 : Nat) : Int)) R → EV (fun k => impl_ApplyTable.l1 k t x out acc t (t.length : Int) (i : Int) r (r.length : Int) (pr.length : Int)) R := by
  intro sx
  induction sx with
  | nil =>
    intro sr px pr acc h1 h2 h3 h4 _ _ h5 _ H
    have : sr = [] := List.eq_nil_of_length_eq_zero (by simpa using h4)
    subst this
    refine EV.step (fun k => by rw [impl_ApplyTable.l1]) ?_
    rw [w64 (x := (i : Int) + 1) (by omega) (by omega)]
    refine EV.neg (by subst h2; simp) (EV.pos (by omega) ?_)
    simpa [dot] using H
  | cons b sx ih =>
    intro sr px pr acc h1 h2 h3 h4 h6 h7 h5 h8 H
    obtain ⟨a, sr, rfl⟩ : ∃ a t, sr = a :: t := by
      cases sr with
      | nil => simp at h4
      | cons a t => exact ⟨a, t, rfl⟩
    simp only [List.all_cons, Bool.and_eq_true, List.length_cons] at h4 h5 h6 h7 h8
    have tb := term_bd h6.1 h7.1
    have r1 : rd r (pr.length : Int) = a := by subst h2; exact rd_app ..
    have r2 : rd x (pr.length : Int) = b := by subst h1; rw [h3]; exact rd_app ..
    have l1 : (pr.length : Int) < (r.length : Int) := by subst h2; exact lt_app ..
    have l2 : (pr.length : Int) < (x.length : Int) := by subst h1; rw [h3]; exact lt_app ..
    refine EV.step (fun k => by rw [impl_ApplyTable.l1]) ?_
    rw [r1, r2, w64 (x := a * b) (by omega) (by omega), w64 (x := acc + a * b) (by omega) (by omega), up (x := a) (by omega)]
    refine EV.pos l1 (EV.pos (by omega) (EV.pos l1 (EV.pos l2 ?_)))
    refine ih sr (px ++ [b]) (pr ++ [a]) (acc + a * b) (by simp [h1]) (by simp [h2]) (by simp [h3]) (by omega) h6.2 h7.2 (by simp; omega) (by omega) ?_
    have e : acc + a * b + dot sr sx = acc + dot (a :: sr) (b :: sx) := by simp only [dot]; omega
    rw [e]; exact H
theorem impl_ApplyTable_l0 (t : List (List Int)) (x : List Int) (hx : x.length = t.length) (hs : x.all smallB = true) (hr : ∀ r ∈ t, r.length < 4611686018427387904) (hl : t.length ≤ 6) : ∀ (suf pre : List (List Int)), t = pre ++ suf →
    EV (fun k => impl_ApplyTable.l0 k t x (pre.map fun r => dot r x) t (t.length : Int) (pre.length : Int)) (if suf.all (rowB t.length) = true then outM (t.map fun r => dot r x) else ([], false)) := by
  intro suf
  induction suf with
  | nil =>
    intro pre h
    have e : pre = t := by simp [h]
    subst e
    refine EV.step (fun k => by rw [impl_ApplyTable.l0]) ?_
    refine EV.neg (by omega) (EV.bind (impl_areSmall_is _ (by simp; omega)) ?_)
    rw [if_pos (show ([] : List (List Int)).all (rowB pre.length) = true from rfl)]
    unfold outM
    by_cases c : (pre.map fun r => dot r x).all smallB = true
    · exact EV.pos c ((EV.now _).eq (by rw [if_pos c]))
    · exact EV.neg c ((EV.now _).eq (by rw [if_neg c]))
  | cons r suf ih =>
    intro pre h
    have hr' := hr r (by rw [h]; simp)
    have hlt : (pre.length : Int) < (t.length : Int) := by subst h; exact lt_app ..
    have hrd : rd_L2 t (pre.length : Int) = r := by subst h; exact rdL_app ..
    have no : ∀ b, b = true → rowB t.length r = false → EV (fun k => impl_ApplyTable.j2 k t x (pre.map fun r => dot r x) r t (t.length : Int) (pre.length : Int) b) (if (r :: suf).all (rowB t.length) = true then outM (t.map fun r => dot r x) else ([], false)) := by
      intro b hb hf
      subst hb
      refine EV.step (fun k => by rw [impl_ApplyTable.j2]) ?_
      exact EV.pos rfl ((EV.now _).eq (by rw [List.all_cons, hf, if_neg (by simp)]))
    refine EV.step (fun k => by rw [impl_ApplyTable.l0]) ?_
    rw [hrd]
    refine EV.pos hlt (EV.pos (by omega) (EV.pos hlt ?_))
    by_cases h2 : r.length = t.length
    · refine EV.pos (by omega) (EV.bind (impl_areSmall_is r hr') ?_)
      by_cases hs' : r.all smallB = true
      · have hb : rowB t.length r = true := by simp only [rowB, h2, hs', decide_true, Bool.and_self]
        rw [hs']
        refine EV.step (fun k => by rw [impl_ApplyTable.j2]) ?_
        refine EV.neg (by simp) (impl_ApplyTable_l1 t x r (pre.map fun r => dot r x) pre.length (by simp; omega) (by omega) x r [] [] 0 rfl rfl rfl (by omega) hs' hs (by simp; omega) (by simp; omega) ?_)
        have := ih (pre ++ [r]) (by simp [h])
        rw [List.all_cons, hb, Bool.true_and]
        simpa using this
      · have : r.all smallB = false := by simpa using hs'
        rw [this]
        exact no _ rfl (by simp only [rowB, this, Bool.and_false])
    · exact EV.neg (by omega) (no _ rfl (by simp only [rowB, h2, decide_false, Bool.false_and]))
theorem impl_ApplyTable_is (t : List (List Int)) (x : List Int) (hr : ∀ r ∈ t, r.length < 4611686018427387904) (hx : x.length < 4611686018427387904) : EV (fun k => impl_ApplyTable.f k t x) (applyM t x) := by
  have no : EV (fun k => impl_ApplyTable.j0 k t x true) ([], false) := by
    refine EV.step (fun k => by rw [impl_ApplyTable.j0]) ?_
    exact EV.pos rfl (EV.now _)
  unfold applyM tableB
  refine EV.by (impl_within_is _ _ _) ?_
  by_cases h1 : 1 ≤ t.length ∧ t.length ≤ 6
  · refine EV.pos (by simp; omega) ?_
    by_cases h2 : x.length = t.length
    · refine EV.pos (by omega) (EV.bind (impl_areSmall_is x hx) ?_)
      by_cases h3 : x.all smallB = true
      · rw [h3]
        refine EV.step (fun k => by rw [impl_ApplyTable.j0]) ?_
        refine EV.neg (by simp) ((impl_ApplyTable_l0 t x h2 h3 hr h1.2 t [] rfl).eq ?_)
        by_cases h4 : t.all (rowB t.length) = true
        · rw [if_pos h4, if_pos ⟨by simp [h4, h1], h2, rfl⟩]
        · rw [if_neg h4, if_neg (fun h => h4 (by have := h.1; rw [Bool.and_eq_true] at this; exact this.1))]
      · rw [if_neg (fun h => h3 h.2.2), show (x.all smallB) = false by simpa using h3]
        exact no
    · rw [if_neg (fun h => h2 h.2.1)]
      exact EV.neg (by omega) no
  · rw [if_neg (fun h => h1 (by have := h.1; rw [Bool.and_eq_true, decide_eq_true_iff] at this; exact this.2))]
    exact EV.neg (by simp; omega) no

theorem spec_l11Table_l0 (t : List (List Int)) (hn : t.length < 4611686018427387904) (hr : ∀ r ∈ t, r.length < 4611686018427387904) : ∀ (suf pre : List (List Int)), t = pre ++ suf →
    EV (fun k => spec_l11Table.l0 k t (pre.length : Int)) (suf.all (rowB t.length) && decide (1 ≤ t.length ∧ t.length ≤ 6)) := by
  intro suf
  induction suf with
  | nil =>
    intro pre h
    refine EV.step (fun k => by rw [spec_l11Table.l0]) ?_
    refine EV.neg (by subst h; simp) (EV.by (spec_l1In_is _ _ _) ((EV.now _).eq ?_))
    rw [Bool.eq_iff_iff]; simp; omega
  | cons x suf ih =>
    intro pre h
    have hl : pre.length < 4611686018427387904 := by subst h; simp at hn; omega
    have hlt : (pre.length : Int) < (t.length : Int) := by subst h; exact lt_app ..
    have hx : rd_L2 t (pre.length : Int) = x := by subst h; exact rdL_app ..
    have hx' : x.length < 4611686018427387904 := hr x (by subst h; simp)
    refine EV.step (fun k => by rw [spec_l11Table.l0]) ?_
    rw [hx, up (x := x) hl]
    refine EV.pos hlt (EV.pos (by omega) ?_)
    by_cases h2 : x.length = t.length
    · refine EV.pos (by omega) (EV.bind (spec_l11Fits_is x hx') ?_)
      by_cases hs : x.all smallB = true
      · exact EV.pos hs ((ih (pre ++ [x]) (by simp [h])).eq (by rw [List.all_cons, show rowB t.length x = true by simp only [rowB, h2, hs, decide_true, Bool.and_self], Bool.true_and]))
      · exact EV.neg hs ((EV.now _).eq (by rw [List.all_cons, show rowB t.length x = false by simp only [rowB, Bool.not_eq_true] at hs ⊢; rw [hs, Bool.and_false], Bool.false_and, Bool.false_and]))
    · exact EV.neg (by omega) ((EV.now _).eq (by rw [List.all_cons, show rowB t.length x = false by simp only [rowB, h2, decide_false, Bool.false_and], Bool.false_and, Bool.false_and]))
theorem spec_l11Table_is (t : List (List Int)) (hn : t.length < 4611686018427387904) (hr : ∀ r ∈ t, r.length < 4611686018427387904) : EV (fun k => spec_l11Table.f k t) (tableB t) := spec_l11Table_l0 t hn hr t [] rfl

theorem spec_ApplyTable_l1 (t : List (List Int)) (x r out : List Int) (i : Nat) (hi : i < t.length) (ht : rd_L2 t (i : Int) = r) (ho : out.length ≤ 1000) (hi' : i ≤ 1000) {R : List Int × Bool} :
    ∀ (sx sr px pr : List Int) (acc : Int), x = px ++ sx → r = pr ++ sr → pr.length = px.length → sr.length = sx.length → sr.all smallB = true → sx.all smallB = true → px.length + sx.length ≤ 1000 → acc.natAbs + 1000000 * sx.length ≤ 1000000000000 →
    EV (fun k => spec_ApplyTable.l0 k t x (out ++ [acc + dot sr sx]) ((i + 1 : Nat) : Int)) R → EV (fun k => spec_ApplyTable.l1 k t x out (i : Int) acc (px.length : Int)) R := by
  intro sx
  induction sx with
  | nil =>
    intro sr px pr acc h1 h2 h3 h4 _ _ h5 _ H
    have : sr = [] := List.eq_nil_of_length_eq_zero (by simpa using h4)
    subst this
    refine EV.step (fun k => by rw [spec_ApplyTable.l1]) ?_
    rw [w64 (x := (i : Int) + 1) (by omega) (by omega)]
    refine EV.neg (by subst h1; simp) (EV.pos (by omega) ?_)
    simpa [dot] using H
  | cons b sx ih =>
    intro sr px pr acc h1 h2 h3 h4 h6 h7 h5 h8 H
    obtain ⟨a, sr, rfl⟩ : ∃ a t, sr = a :: t := by
      cases sr with
      | nil => simp at h4
      | cons a t => exact ⟨a, t, rfl⟩
    simp only [List.all_cons, Bool.and_eq_true, List.length_cons] at h4 h5 h6 h7 h8
    have tb := term_bd h6.1 h7.1
    have r1 : rd r (px.length : Int) = a := by subst h2; rw [← h3]; exact rd_app ..
    have r2 : rd x (px.length : Int) = b := by subst h1; exact rd_app ..
    refine EV.step (fun k => by rw [spec_ApplyTable.l1]) ?_
    rw [ht, r1, r2, w64 (x := a * b) (by omega) (by omega), w64 (x := acc + a * b) (by omega) (by omega), up (x := b) (by omega)]
    refine EV.pos (by subst h1; exact lt_app ..) (EV.pos (by omega) (EV.pos (by omega) (EV.pos (by omega) (EV.pos (by subst h2; rw [← h3]; exact lt_app ..) ?_))))
    refine ih sr (px ++ [b]) (pr ++ [a]) (acc + a * b) (by simp [h1]) (by simp [h2]) (by simp [h3]) (by omega) h6.2 h7.2 (by simp; omega) (by omega) ?_
    have e : acc + a * b + dot sr sx = acc + dot (a :: sr) (b :: sx) := by simp only [dot]; omega
    rw [e]; exact H
theorem spec_ApplyTable_l0 (t : List (List Int)) (x : List Int) (hx : x.length = t.length) (hs : x.all smallB = true) (ht : ∀ r ∈ t, r.length = t.length ∧ r.all smallB = true) (hl : t.length ≤ 6) : ∀ (suf pre : List (List Int)), t = pre ++ suf →
    EV (fun k => spec_ApplyTable.l0 k t x (pre.map fun r => dot r x) (pre.length : Int)) (outM (t.map fun r => dot r x)) := by
  intro suf
  induction suf with
  | nil =>
    intro pre h
    have e : pre = t := by simp [h]
    subst e
    refine EV.step (fun k => by rw [spec_ApplyTable.l0]) ?_
    refine EV.neg (by omega) (EV.bind (spec_l11Fits_is _ (by simp; omega)) ?_)
    unfold outM
    by_cases c : (pre.map fun r => dot r x).all smallB = true
    · exact EV.pos c ((EV.now _).eq (by rw [if_pos c]))
    · exact EV.neg c ((EV.now _).eq (by rw [if_neg c]))
  | cons r suf ih =>
    intro pre h
    have hr := ht r (by rw [h]; simp)
    have hlt : pre.length < t.length := by subst h; simp
    refine EV.step (fun k => by rw [spec_ApplyTable.l0]) ?_
    refine EV.pos (by omega) (spec_ApplyTable_l1 t x r (pre.map fun r => dot r x) pre.length hlt (by subst h; exact rdL_app ..) (by simp; omega) (by omega) x r [] [] 0 rfl rfl rfl (by omega) hr.2 hs (by simp; omega) (by simp; omega) ?_)
    have := ih (pre ++ [r]) (by simp [h])
    simpa using this
theorem spec_ApplyTable_is (t : List (List Int)) (x : List Int) (hn : t.length < 4611686018427387904) (hr : ∀ r ∈ t, r.length < 4611686018427387904) (hx : x.length < 4611686018427387904) : EV (fun k => spec_ApplyTable.f k t x) (applyM t x) := by
  have no : EV (fun k => spec_ApplyTable.j0 k t x true) ([], false) := by
    refine EV.step (fun k => by rw [spec_ApplyTable.j0]) ?_
    exact EV.pos rfl (EV.now _)
  unfold applyM
  refine EV.bind (spec_l11Table_is t hn hr) ?_
  by_cases h1 : tableB t = true
  · refine EV.pos h1 ?_
    by_cases h2 : x.length = t.length
    · refine EV.pos (by omega) (EV.bind (spec_l11Fits_is x hx) ?_)
      by_cases h3 : x.all smallB = true
      · rw [if_pos ⟨h1, h2, h3⟩, h3]
        refine EV.step (fun k => by rw [spec_ApplyTable.j0]) ?_
        have tb := tableB_of h1
        exact EV.neg (by simp) (spec_ApplyTable_l0 t x h2 h3 tb.1 tb.2.2 t [] rfl)
      · rw [if_neg (fun h => h3 h.2.2), show (x.all smallB) = false by simpa using h3]
        exact no
    · rw [if_neg (fun h => h2 h.2.1)]
      exact EV.neg (by omega) no
  · rw [if_neg (fun h => h1 h.1)]
    exact EV.neg h1 no

theorem impl_TimesTable_l3 (s t : List (List Int)) (n j : Nat) (x : List Int) (hj : j ≤ 1048576) {R : List (List Int) × Bool} : ∀ (so po : List (List Int)) (sx px : List Int), x = px ++ sx → px.length = po.length → so.length = sx.length → x.length ≤ 1048576 → (∀ r ∈ so, r.length ≤ 1048576) →
    EV (fun k => impl_TimesTable.l1 k s t (po ++ List.zipWith (fun r v => r ++ [v]) so sx) (n : Int) ((j + 1 : Nat) : Int)) R → EV (fun k => impl_TimesTable.l3 k s t (po ++ so) (n : Int) (j : Int) x (x.length : Int) (po.length : Int)) R := by
  intro so
  induction so with
  | nil =>
    intro po sx px h1 h2 h3 h5 h6 H
    have : sx = [] := List.eq_nil_of_length_eq_zero (by simpa using h3.symm)
    subst this
    refine EV.step (fun k => by rw [impl_TimesTable.l3]) ?_
    rw [w64 (x := (j : Int) + 1) (by omega) (by omega)]
    refine EV.neg (by subst h1; simp; omega) ?_
    simpa using H
  | cons r so ih =>
    intro po sx px h1 h2 h3 h5 h6 H
    obtain ⟨v, sx, rfl⟩ : ∃ a t, sx = a :: t := by
      cases sx with
      | nil => simp at h3
      | cons a t => exact ⟨a, t, rfl⟩
    simp only [List.length_cons] at h3
    have hr := h6 r (by simp)
    have r2 : rd x (po.length : Int) = v := by subst h1; rw [← h2]; exact rd_app ..
    have l2 : (po.length : Int) < (x.length : Int) := by subst h1; rw [← h2]; exact lt_app ..
    refine EV.step (fun k => by rw [impl_TimesTable.l3]) ?_
    rw [rdL_app, r2, up (x := r) (by omega), set_app _ _ _ _ _ (by simp)]
    refine EV.pos l2 (EV.pos (by omega) (EV.pos l2 (EV.pos (lt_app ..) (EV.pos (by omega) ?_))))
    have := ih (po ++ [r ++ [v]]) sx (px ++ [v]) (by simp [h1]) (by simp [h2]) (by omega) h5 (fun r' hr' => h6 r' (by simp [hr'])) (by simpa using H)
    simpa using this
theorem impl_TimesTable_l2 (s t out : List (List Int)) (n j : Nat) (hl : t.length ≤ 1048576) (hj : ∀ r ∈ t, j < r.length) {R : List (List Int) × Bool}
    (H : EV (fun k => (impl_ApplyTable.f k s (colL t j)).bind fun bt218 => (if bt218.2 = true then (impl_TimesTable.l3 k s t out (n : Int) (j : Int) bt218.1 (bt218.1.length : Int) 0) else (some (([] : List (List Int)), false)))) R) : ∀ (suf pre : List (List Int)), t = pre ++ suf →
    EV (fun k => impl_TimesTable.l2 k s t out (j : Int) (colL pre j) (n : Int) (j : Int) t (t.length : Int) (pre.length : Int)) R := by
  intro suf
  induction suf with
  | nil =>
    intro pre h
    have e : pre = t := by simp [h]
    subst e
    refine EV.step (fun k => by rw [impl_TimesTable.l2]) ?_
    exact EV.neg (by omega) H
  | cons r suf ih =>
    intro pre h
    have hl' : pre.length < 1048576 := by subst h; simp at hl; omega
    have hlt : (pre.length : Int) < (t.length : Int) := by subst h; exact lt_app ..
    have hx : rd_L2 t (pre.length : Int) = r := by subst h; exact rdL_app ..
    have hr := hj r (by subst h; simp)
    refine EV.step (fun k => by rw [impl_TimesTable.l2]) ?_
    rw [hx, rd_col, up (x := r) (by omega)]
    refine EV.pos hlt (EV.pos (by omega) (EV.pos hlt (EV.pos (by omega) (EV.pos (by omega) (EV.pos (by simp [colL]; omega) ?_)))))
    have := ih (pre ++ [r]) (by simp [h])
    simpa [colL] using this
theorem impl_TimesTable_l1 (s t : List (List Int)) (ht : ∀ r ∈ t, r.length = t.length) (hl : t.length ≤ 1048576) (hsr : ∀ r ∈ s, r.length < 4611686018427387904) : ∀ (n : Nat) (cs : List (List Int)), cs.length + n = t.length →
    EV (fun k => impl_TimesTable.l1 k s t (rowsOf t.length cs) (t.length : Int) (cs.length : Int)) (resM t.length cs (colsM s t n cs.length)) := by
  intro n
  induction n with
  | zero =>
    intro cs h
    refine EV.step (fun k => by rw [impl_TimesTable.l1]) ?_
    refine EV.neg (by omega) ((EV.now _).eq ?_)
    simp [colsM, resM]
  | succ n ih =>
    intro cs h
    have hj : ∀ r ∈ t, cs.length < r.length := fun r hr => by have := ht r hr; omega
    refine EV.step (fun k => by rw [impl_TimesTable.l1]) ?_
    refine EV.pos (by omega) (impl_TimesTable_l2 s t _ t.length cs.length hl hj ?_ t [] rfl)
    refine EV.bind (impl_ApplyTable_is s (colL t cs.length) hsr (by simp [colL]; omega)) ?_
    by_cases ok : (applyM s (colL t cs.length)).2 = true
    · have a := applyM_ok ok
      have hc : (colL t cs.length).length = t.length := by simp [colL]
      have hown : (applyM s (colL t cs.length)).1.length = t.length := by omega
      refine EV.pos ok ?_
      have := impl_TimesTable_l3 s t t.length cs.length (applyM s (colL t cs.length)).1 (by omega) (rowsOf t.length cs) [] (applyM s (colL t cs.length)).1 [] rfl rfl (by simp [rowsOf]; omega) (by omega) (fun r hr => ?_) (R := resM t.length cs (colsM s t (n + 1) cs.length)) ?_
      · exact this
      · simp only [rowsOf, List.mem_map] at hr
        obtain ⟨i, hi, rfl⟩ := hr
        simp; omega
      · rw [List.nil_append, rowsOf_snoc _ _ _ hown]
        have := ih (cs ++ [(applyM s (colL t cs.length)).1]) (by simp; omega)
        simp only [List.length_append, List.length_cons, List.length_nil] at this
        refine this.eq ?_
        simp only [colsM]
        rw [if_pos ok]
        rcases colsM s t n (cs.length + 1) with _ | cs'
        · rfl
        · simp [resM]
    · refine EV.neg ok ((EV.now _).eq ?_)
      simp only [colsM]
      rw [if_neg ok]; rfl
theorem impl_TimesTable_l0 (s t : List (List Int)) (hl : t.length ≤ 1048576) (hsr : ∀ r ∈ s, r.length < 4611686018427387904) (htr : ∀ r ∈ t, r.length ≤ 1048576) : ∀ (suf pre : List (List Int)), t = pre ++ suf → (∀ r ∈ pre, r.length = t.length) →
    EV (fun k => impl_TimesTable.l0 k s t (List.replicate t.length []) t (t.length : Int) (pre.length : Int)) (if ∀ r ∈ suf, r.length = t.length then resM t.length [] (colsM s t t.length 0) else ([], false)) := by
  intro suf
  induction suf with
  | nil =>
    intro pre h hp
    have e : pre = t := by simp [h]
    subst e
    refine EV.step (fun k => by rw [impl_TimesTable.l0]) ?_
    refine EV.neg (by omega) ?_
    have := impl_TimesTable_l1 s pre hp hl hsr pre.length [] (by simp)
    rw [rowsOf_nil] at this
    exact this.eq (by rw [if_pos (by simp)]; rfl)
  | cons r suf ih =>
    intro pre h hp
    have hl' : pre.length < 1048576 := by subst h; simp at hl; omega
    have hlt : (pre.length : Int) < (t.length : Int) := by subst h; exact lt_app ..
    have hx : rd_L2 t (pre.length : Int) = r := by subst h; exact rdL_app ..
    refine EV.step (fun k => by rw [impl_TimesTable.l0]) ?_
    rw [hx, up (x := r) (by omega)]
    refine EV.pos hlt (EV.pos (by omega) (EV.pos hlt ?_))
    by_cases h2 : r.length = t.length
    · refine EV.pos (by omega) ((ih (pre ++ [r]) (by simp [h]) (fun r' hr' => ?_)).eq ?_)
      · rcases List.mem_append.1 hr' with h' | h'
        · exact hp r' h'
        · rw [List.mem_singleton.1 h']; exact h2
      · by_cases c : ∀ r ∈ suf, r.length = t.length
        · rw [if_pos c, if_pos (by intro r' hr'; rcases List.mem_cons.1 hr' with rfl | h'; exact h2; exact c r' h')]
        · rw [if_neg c, if_neg (fun h' => c fun r' hr' => h' r' (by simp [hr']))]
    · exact EV.neg (by omega) ((EV.now _).eq (by rw [if_neg (fun h' => h2 (h' r (by simp)))]))
theorem impl_TimesTable_is (s t : List (List Int)) (ht : t.length ≤ 1048576) (hsr : ∀ r ∈ s, r.length ≤ 1048576) (htr : ∀ r ∈ t, r.length ≤ 1048576) : EV (fun k => impl_TimesTable.f k s t) (timesM s t) := by
  refine EV.pos (by omega) (EV.pos (by omega) ?_)
  by_cases h0 : t.length = 0
  · refine EV.pos (by omega) ((EV.now _).eq ?_)
    unfold timesM
    rw [if_neg (fun h => by have := (tableB_of h.2.1).2; omega)]
  · refine EV.neg (by omega) ((impl_TimesTable_l0 s t ht (fun r hr => by have := hsr r hr; omega) htr t [] rfl (by simp)).eq ?_)
    by_cases c : ∀ r ∈ t, r.length = t.length
    · rw [if_pos c, times_eq s t h0 c]
    · rw [if_neg c]
      unfold timesM
      rw [if_neg (fun h => c fun r hr => ((tableB_of h.2.1).1 r hr).1)]

theorem spec_l5Copy_l0 (t : List (List Int)) (hn : t.length ≤ 1048576) (hr : ∀ r ∈ t, r.length ≤ 1048576) : ∀ (suf pre : List (List Int)), t = pre ++ suf →
    EV (fun k => spec_l5Copy.l0 k t pre (pre.length : Int)) t := by
  intro suf
  induction suf with
  | nil =>
    intro pre h
    refine EV.step (fun k => by rw [spec_l5Copy.l0]) ?_
    exact EV.neg (by subst h; simp) ((EV.now _).eq (by simp [h]))
  | cons x suf ih =>
    intro pre h
    have hl : pre.length < 1048576 := by subst h; simp at hn; omega
    have hlt : (pre.length : Int) < (t.length : Int) := by subst h; exact lt_app ..
    have hx : rd_L2 t (pre.length : Int) = x := by subst h; exact rdL_app ..
    have hx' : x.length ≤ 1048576 := hr x (by subst h; simp)
    refine EV.step (fun k => by rw [spec_l5Copy.l0]) ?_
    rw [hx, up (x := x) (by omega)]
    refine EV.pos hlt (EV.by rfl (EV.pos (by omega) (EV.pos (by simp; omega) (EV.pos (by omega) ?_))))
    have := ih (pre ++ [x]) (by simp [h])
    simpa using this
theorem spec_l5Copy_is (t : List (List Int)) (hn : t.length ≤ 1048576) (hr : ∀ r ∈ t, r.length ≤ 1048576) : EV (fun k => spec_l5Copy.f k t) t := spec_l5Copy_l0 t hn hr t [] rfl

theorem spec_TimesTable_l2 (s t : List (List Int)) (j : Nat) (x : List Int) (hj : j ≤ 1000) {R : List (List Int) × Bool} : ∀ (so po : List (List Int)) (sx px : List Int), x = px ++ sx → px.length = po.length → so.length = sx.length → t.length = po.length + so.length → t.length ≤ 1000 → (∀ r ∈ so, j < r.length) →
    EV (fun k => spec_TimesTable.l0 k s t (po ++ List.zipWith (fun r v => r.set j v) so sx) ((j + 1 : Nat) : Int)) R → EV (fun k => spec_TimesTable.l2 k s t (po ++ so) (j : Int) x (po.length : Int)) R := by
  intro so
  induction so with
  | nil =>
    intro po sx px h1 h2 h3 h4 h5 h6 H
    refine EV.step (fun k => by rw [spec_TimesTable.l2]) ?_
    rw [w64 (x := (j : Int) + 1) (by omega) (by omega)]
    refine EV.neg (by simp at h4; omega) ?_
    simpa using H
  | cons r so ih =>
    intro po sx px h1 h2 h3 h4 h5 h6 H
    obtain ⟨v, sx, rfl⟩ : ∃ a t, sx = a :: t := by
      cases sx with
      | nil => simp at h3
      | cons a t => exact ⟨a, t, rfl⟩
    simp only [List.length_cons] at h3 h4
    have hr := h6 r (by simp)
    have r2 : rd x (po.length : Int) = v := by subst h1; rw [← h2]; exact rd_app ..
    refine EV.step (fun k => by rw [spec_TimesTable.l2]) ?_
    rw [rdL_app, r2, up (x := r) (by omega), set_app _ _ _ _ _ (by simp), show ((j : Int)).toNat = j from rfl]
    refine EV.pos (by omega) (EV.pos (by omega) (EV.pos (lt_app ..) (EV.pos (by subst h1; simp; omega) (EV.pos (by omega) (EV.pos (by omega) ?_)))))
    have := ih (po ++ [r.set j v]) sx (px ++ [v]) (by simp [h1]) (by simp [h2]) (by omega) (by simp; omega) h5 (fun r' hr' => h6 r' (by simp [hr'])) (by simpa using H)
    simpa using this
theorem spec_TimesTable_l1 (s t out : List (List Int)) (j : Nat) (hl : t.length ≤ 1000) (hj : ∀ r ∈ t, j < r.length) {R : List (List Int) × Bool}
    (H : EV (fun k => (spec_ApplyTable.f k s (colL t j)).bind fun bt179 => (if bt179.2 = true then (spec_TimesTable.l2 k s t out (j : Int) bt179.1 0) else (some ((([] : List (List Int))), false)))) R) : ∀ (suf pre : List (List Int)), t = pre ++ suf →
    EV (fun k => spec_TimesTable.l1 k s t out (j : Int) (colL pre j) (pre.length : Int)) R := by
  intro suf
  induction suf with
  | nil =>
    intro pre h
    have e : pre = t := by simp [h]
    subst e
    refine EV.step (fun k => by rw [spec_TimesTable.l1]) ?_
    exact EV.neg (by omega) H
  | cons r suf ih =>
    intro pre h
    have hl' : pre.length < 1000 := by subst h; simp at hl; omega
    have hlt : (pre.length : Int) < (t.length : Int) := by subst h; exact lt_app ..
    have hx : rd_L2 t (pre.length : Int) = r := by subst h; exact rdL_app ..
    have hr := hj r (by subst h; simp)
    refine EV.step (fun k => by rw [spec_TimesTable.l1]) ?_
    rw [hx, rd_col, up (x := r) (by omega)]
    refine EV.pos hlt (EV.pos (by omega) (EV.pos (by omega) (EV.pos (by omega) (EV.pos (by simp [colL]; omega) ?_))))
    have := ih (pre ++ [r]) (by simp [h])
    simpa [colL] using this
theorem spec_TimesTable_l0 (s t : List (List Int)) (hs : s.length = t.length) (ht : ∀ r ∈ t, r.length = t.length) (hl : t.length ≤ 6) (hsr : ∀ r ∈ s, r.length < 4611686018427387904) : ∀ (n : Nat) (cs : List (List Int)), cs.length + n = t.length →
    EV (fun k => spec_TimesTable.l0 k s t (mixM t.length t cs) (cs.length : Int)) (resM t.length cs (colsM s t n cs.length)) := by
  intro n
  induction n with
  | zero =>
    intro cs h
    refine EV.step (fun k => by rw [spec_TimesTable.l0]) ?_
    refine EV.neg (by omega) ((EV.now _).eq ?_)
    rw [mixM_full _ _ _ rfl ht (by omega)]
    simp [colsM, resM]
  | succ n ih =>
    intro cs h
    have hj : ∀ r ∈ t, cs.length < r.length := fun r hr => by have := ht r hr; omega
    refine EV.step (fun k => by rw [spec_TimesTable.l0]) ?_
    refine EV.pos (by omega) (spec_TimesTable_l1 s t _ cs.length (by omega) hj ?_ t [] rfl)
    refine EV.bind (spec_ApplyTable_is s (colL t cs.length) (by omega) hsr (by simp [colL]; omega)) ?_
    by_cases ok : (applyM s (colL t cs.length)).2 = true
    · have a := applyM_ok ok
      have hown : (applyM s (colL t cs.length)).1.length = t.length := by omega
      refine EV.pos ok ?_
      have := spec_TimesTable_l2 s t cs.length (applyM s (colL t cs.length)).1 (by omega) (mixM t.length t cs) [] (applyM s (colL t cs.length)).1 [] rfl rfl (by simp [mixM]; omega) (by simp [mixM]) (by omega) (fun r hr => ?_) (R := resM t.length cs (colsM s t (n + 1) cs.length)) ?_
      · exact this
      · simp only [mixM, List.mem_map] at hr
        obtain ⟨i, hi, rfl⟩ := hr
        have hit : i < t.length := List.mem_range.1 hi
        have := ht _ (List.getElem_mem hit)
        simp [hit]; omega
      · rw [List.nil_append, mixM_snoc _ _ _ _ hown rfl hj]
        have := ih (cs ++ [(applyM s (colL t cs.length)).1]) (by simp; omega)
        simp only [List.length_append, List.length_cons, List.length_nil] at this
        refine this.eq ?_
        simp only [colsM]
        rw [if_pos ok]
        rcases colsM s t n (cs.length + 1) with _ | cs'
        · rfl
        · simp [resM]
    · refine EV.neg ok ((EV.now _).eq ?_)
      simp only [colsM]
      rw [if_neg ok]; rfl
theorem spec_TimesTable_is (s t : List (List Int)) (hs : s.length ≤ 1048576) (ht : t.length ≤ 1048576) (hsr : ∀ r ∈ s, r.length ≤ 1048576) (htr : ∀ r ∈ t, r.length ≤ 1048576) : EV (fun k => spec_TimesTable.f k s t) (timesM s t) := by
  have no : EV (fun k => spec_TimesTable.j0 k s t true) ([], false) := by
    refine EV.step (fun k => by rw [spec_TimesTable.j0]) ?_
    exact EV.pos rfl (EV.now _)
  refine EV.bind (spec_l11Table_is s (by omega) (fun r hr => by have := hsr r hr; omega)) ?_
  by_cases h1 : tableB s = true
  · refine EV.pos h1 (EV.bind (spec_l11Table_is t (by omega) (fun r hr => by have := htr r hr; omega)) ?_)
    by_cases h2 : tableB t = true
    · refine EV.pos h2 ?_
      have tb := tableB_of h2
      by_cases h3 : s.length = t.length
      · rw [show ((s.length : Int) != (t.length : Int)) = false by simp [h3], times_eq s t (by omega) (fun r hr => (tb.1 r hr).1)]
        refine EV.step (fun k => by rw [spec_TimesTable.j0]) ?_
        refine EV.neg (by simp) (EV.bind (spec_l5Copy_is t ht htr) ?_)
        have := spec_TimesTable_l0 s t h3 (fun r hr => (tb.1 r hr).1) tb.2.2 (fun r hr => by have := hsr r hr; omega) t.length [] (by simp)
        rw [mixM_nil _ _ rfl] at this
        exact this
      · rw [show ((s.length : Int) != (t.length : Int)) = true by simp; omega]
        unfold timesM
        rw [if_neg (fun h => h3 h.2.2)]; exact no
    · unfold timesM
      rw [if_neg (fun h => h2 h.2.1)]; exact EV.neg h2 no
  · unfold timesM
    rw [if_neg (fun h => h1 h.1)]; exact EV.neg h1 no

theorem timesM_two (s t : List (List Int)) (h : (timesM s t).2 = true) : 1 ≤ (timesM s t).1.length ∧ ∀ r ∈ (timesM s t).1, 1 ≤ r.length := by
  unfold timesM at h ⊢
  by_cases c : tableB s = true ∧ tableB t = true ∧ s.length = t.length
  · rw [if_pos c] at h ⊢
    have b := (tableB_of c.2.1).2
    rcases hc : colsM s t t.length 0 with _ | cs
    · rw [hc] at h; cases h
    · have := colsM_len hc
      refine ⟨by simp [rowsOf]; omega, fun r hr => ?_⟩
      simp only [rowsOf, List.mem_map] at hr
      obtain ⟨i, _, rfl⟩ := hr
      simp; omega
  · rw [if_neg c] at h; cases h

theorem spec_DrawIsSymplectic_is (b : List Int) (hb : b.length ≤ 1048576) {g : Int} {x y : List Int} (h : EV (fun k => spec_l11Two.f k b) (g, x, y)) (dx : drawnC x) (dy : drawnC y) :
    ∃ t, EV (fun k => spec_DrawIsSymplectic.f k b) (g, t) ∧ szT t := by
  have bx := dx.2.1
  have bY := dy.2.1
  have sx : szT (twmM g x).1 := twmM_sz g x
  have sy : szT (twmM g y).1 := twmM_sz g y
  have sz : szT (timesM (twmM g x).1 (twmM g y).1).1 := timesM_sz _ _
  obtain ⟨h0, E0⟩ := spec_l1New_is b hb
  obtain ⟨o, i1, h1, e1, p1⟩ := spec_l1Once_is b 0 h0 3 hb (by omega) (by omega) (by omega)
  have front : ∀ (R : Int × List (List Int)), EV (fun _ : Nat => (if (timesM (twmM g x).1 (twmM g y).1).2 = true then ((spec_l1Once.f b 0 h0 3).bind fun bt464 => (if bt464.1 = true then (if 0 < (((timesM (twmM g x).1 (twmM g y).1).1).length : Int) then (if 0 < ((rd_L2 (timesM (twmM g x).1 (twmM g y).1).1 0).length : Int) then (some (g, ((timesM (twmM g x).1 (twmM g y).1).1.set (0 : Int).toNat ((rd_L2 (timesM (twmM g x).1 (twmM g y).1).1 0).set (0 : Int).toNat (wrap64 ((rd (rd_L2 (timesM (twmM g x).1 (twmM g y).1).1 0) 0) + 1)))))) else (none)) else (none)) else (some (g, (timesM (twmM g x).1 (twmM g y).1).1)))) else (some (g, (timesM (twmM g x).1 (twmM g y).1).1)))) R → EV (fun k => spec_DrawIsSymplectic.f k b) R := fun R H => by
    refine EV.bind h (EV.bind (spec_TwistMatrix_is g x (by omega)) (EV.bind (spec_TwistMatrix_is g y (by omega)) ?_))
    refine EV.bind (spec_TimesTable_is (twmM g x).1 (twmM g y).1 (by have := sx.1; omega) (by have := sy.1; omega) (fun r hr => by have := sx.2 r hr; omega) (fun r hr => by have := sy.2 r hr; omega)) ?_
    exact EV.bind E0 H
  have two := timesM_two (twmM g x).1 (twmM g y).1
  generalize timesM (twmM g x).1 (twmM g y).1 = T at *
  by_cases hT : T.2 = true
  · cases o with
    | true =>
      obtain ⟨hl, hr⟩ := two hT
      have e0 : rd_L2 T.1 0 = T.1.getD 0 [] := by simp [rd_L2]
      refine ⟨T.1.set 0 ((rd_L2 T.1 0).set 0 (wrap64 ((rd (rd_L2 T.1 0) 0) + 1))), front _ (EV.pos hT (EV.by e1 (EV.pos rfl (EV.pos (by omega) (EV.pos ?_ (EV.now _)))))), ⟨by simp; exact sz.1, fun r hr' => ?_⟩⟩
      · have h0 : 0 < T.1.length := by omega
        rw [e0, List.getD_eq_getElem?_getD, List.getElem?_eq_getElem h0, Option.getD_some]
        have := hr _ (List.getElem_mem h0); omega
      · rcases List.mem_or_eq_of_mem_set hr' with h | h
        · exact sz.2 r h
        · subst h
          have h0 : 0 < T.1.length := by omega
          rw [List.length_set, e0, List.getD_eq_getElem?_getD, List.getElem?_eq_getElem h0, Option.getD_some]
          exact sz.2 _ (List.getElem_mem h0)
    | false => exact ⟨T.1, front _ (EV.pos hT (EV.by e1 (EV.neg (by simp) (EV.now _)))), sz⟩
  · exact ⟨T.1, front _ (EV.neg hT (EV.now _)), sz⟩

theorem impl_FormOf_is (g : Int) (xs ys : List Int) (h1 : xs.length ≤ 1048576) (h2 : ys.length ≤ 1048576) : EV (fun k => impl_FormOf.f k g xs ys) (formOfM g xs ys) := by
  unfold formOfM
  refine EV.bind (impl_IsClass_is g xs (by omega)) ?_
  by_cases c1 : classB g xs = true
  · refine EV.pos c1 (EV.bind (impl_IsClass_is g ys (by omega)) ?_)
    by_cases c2 : classB g ys = true
    · obtain ⟨e1, e2, e3⟩ := class_of c1
      obtain ⟨f1, f2, f3⟩ := class_of c2
      exact EV.pos c2 (EV.bind (impl_form_is xs ys (by omega) e3 f3 (by omega)) ((EV.now _).eq (by simp [c1, c2])))
    · exact EV.neg c2 ((EV.now _).eq (by simp [c2]))
  · exact EV.neg c1 ((EV.now _).eq (by simp [c1]))

theorem impl_IsSymplectic_l3 (g : Int) (t : List (List Int)) (ht : tableB t = true) (hg : (t.length : Int) = 2 * g) : EV (fun k => impl_IsSymplectic.l2 k g (rowsOf t.length t) (t.length : Int) 0)
    ((List.range t.length).all fun i => (List.range t.length).all fun j => decide (formM (colL t i) (colL t j) = formM (unitM t.length i) (unitM t.length j))) := by
  have a := tableB_of ht
  have e2 : wrap64 (2 * g) = (t.length : Int) := by rw [w64 (by omega) (by omega), hg]
  have hl : (rowsOf t.length t).length = t.length := by simp [rowsOf]
  have lu : ∀ x : Nat, (unitM t.length x).length = t.length := fun x => unitM_length _ _
  rw [← Bool.and_true (List.all _ _)]
  refine EV.countB (g := fun k i => impl_IsSymplectic.l2 k g (rowsOf t.length t) (t.length : Int) i) t.length _ true (fun i hi r H1 H2 => ?_) ?_
  · refine EV.step (fun k => by rw [impl_IsSymplectic.l2]) ?_
    rw [hl]
    refine EV.pos (by omega) ?_
    refine EV.countC (g := fun k j => impl_IsSymplectic.l3 k g (rowsOf t.length t) (i : Int) (t.length : Int) (i : Int) (t.length : Int) j) t.length (fun j => decide (formM (colL t i) (colL t j) = formM (unitM t.length i) (unitM t.length j))) r false (fun j hj A B => ?_) (fun h => ?_) H2
    · refine EV.step (fun k => by rw [impl_IsSymplectic.l3]) ?_
      rw [e2, hl, rowsOf_get _ _ _ hi, rowsOf_get _ _ _ hj, w64 (x := (j : Int) + 1) (by omega) (by omega)]
      refine EV.pos (by omega) (EV.pos (by omega) (EV.pos (by omega) (EV.pos (by omega) (EV.pos (by omega) ?_))))
      refine EV.bind (impl_form_is _ _ (by rw [colL_length, colL_length]) (colL_small ht i hi) (colL_small ht j hj) (by rw [colL_length]; omega)) ?_
      refine EV.by (impl_unit_is _ _ (by omega) hi) (EV.by (impl_unit_is _ _ (by omega) hj) ?_)
      refine EV.bind (impl_form_is _ _ (by rw [lu, lu]) (unitM_small _ _) (unitM_small _ _) (by rw [lu]; omega)) ?_
      exact EV.cases (fun c => A (by simpa using c)) (fun c => (EV.now _).eq (B (by simpa using c)).symm)
    · refine EV.step (fun k => by rw [impl_IsSymplectic.l3]) ?_
      rw [w64 (x := (i : Int) + 1) (by omega) (by omega)]
      exact EV.neg (by omega) (H1 h)
  · refine EV.step (fun k => by rw [impl_IsSymplectic.l2]) ?_
    exact EV.neg (by omega) (EV.now _)
theorem impl_IsSymplectic_l0 (g : Int) (t : List (List Int)) (hg : (t.length : Int) = 2 * g) (h6 : t.length ≤ 6) (h1 : 1 ≤ t.length) (hr : ∀ r ∈ t, r.length < 4611686018427387904) : ∀ (suf pre : List (List Int)), t = pre ++ suf → (∀ r ∈ pre, r.length = t.length ∧ r.all smallB = true) →
    EV (fun k => impl_IsSymplectic.l0 k g (rowsOf t.length pre) t (t.length : Int) (pre.length : Int))
      (suf.all (rowB t.length) && ((List.range t.length).all fun i => (List.range t.length).all fun j => decide (formM (colL t i) (colL t j) = formM (unitM t.length i) (unitM t.length j)))) := by
  have e2 : wrap64 (2 * g) = (t.length : Int) := by rw [w64 (by omega) (by omega), hg]
  intro suf
  induction suf with
  | nil =>
    intro pre h hp
    have e : pre = t := by simp [h]
    subst e
    refine EV.step (fun k => by rw [impl_IsSymplectic.l0]) ?_
    have ht : tableB pre = true := by
      unfold tableB
      rw [Bool.and_eq_true, List.all_eq_true, decide_eq_true_iff]
      exact ⟨fun r hr => by unfold rowB; rw [Bool.and_eq_true, decide_eq_true_iff]; exact hp r hr, by omega⟩
    rw [show ((rowsOf pre.length pre).length : Int) = (pre.length : Int) by simp [rowsOf]]
    exact EV.neg (by omega) (impl_IsSymplectic_l3 g pre ht hg)
  | cons row suf ih =>
    intro pre h hp
    have hl' : pre.length < 1048576 := by subst h; simp at h6; omega
    have hlt : (pre.length : Int) < (t.length : Int) := by subst h; exact lt_app ..
    have hx : rd_L2 t (pre.length : Int) = row := by subst h; exact rdL_app ..
    have hrow := hr row (by subst h; simp)
    have no : EV (fun k => impl_IsSymplectic.j2 k g (rowsOf t.length pre) row t (t.length : Int) (pre.length : Int) true) false := by
      refine EV.step (fun k => by rw [impl_IsSymplectic.j2]) ?_
      exact EV.pos rfl (EV.now _)
    refine EV.step (fun k => by rw [impl_IsSymplectic.l0]) ?_
    rw [e2, hx]
    refine EV.pos hlt (EV.pos (by omega) (EV.pos hlt ?_))
    rw [List.all_cons]
    by_cases h2 : row.length = t.length
    · refine EV.pos (by omega) (EV.bind (impl_areSmall_is row hrow) ?_)
      by_cases h3 : row.all smallB = true
      · rw [show rowB t.length row = true by simp only [rowB, h2, h3, decide_true, Bool.and_self], Bool.true_and, h3]
        refine EV.step (fun k => by rw [impl_IsSymplectic.j2]) ?_
        refine EV.neg (by simp) ?_
        refine EV.zip (g := fun k s i => impl_IsSymplectic.l1 k g s t (t.length : Int) (pre.length : Int) row (row.length : Int) i) (fun r v => r ++ [v]) (rowsOf t.length pre) row (by simp [rowsOf, h2]) _ (fun i a1 a2 s hs hsi H => ?_) ?_
        · have hri : ((rowsOf t.length pre)[i]).length = pre.length := by simp [rowsOf]
          have hm : (rowsOf t.length pre).length = t.length := by simp [rowsOf]
          refine EV.step (fun k => by rw [impl_IsSymplectic.l1]) ?_
          rw [getElem_rdL _ _ _ hsi, rd_nat _ _ a2, w64 (x := (i : Int) + 1) (by omega) (by omega)]
          refine EV.pos (by omega) (EV.pos (by omega) (EV.pos (by omega) (EV.pos (by omega) (EV.pos (by omega) ?_))))
          simpa using H
        · rw [rowsOf_snoc _ _ _ h2]
          refine EV.step (fun k => by rw [impl_IsSymplectic.l1]) ?_
          rw [up (pre := pre) (x := row) (by omega)]
          refine EV.neg (by simp [rowsOf]; omega) ?_
          refine ih (pre ++ [row]) (by simp [h]) (fun r hr' => ?_)
          rcases List.mem_append.1 hr' with h' | h'
          · exact hp r h'
          · rw [List.mem_singleton.1 h']; exact ⟨h2, h3⟩
      · rw [show rowB t.length row = false by simp only [rowB, Bool.not_eq_true] at h3 ⊢; rw [h3, Bool.and_false], Bool.false_and, Bool.false_and]
        rw [show row.all smallB = false by simpa using h3]
        exact no
    · rw [show rowB t.length row = false by simp only [rowB, h2, decide_false, Bool.false_and], Bool.false_and, Bool.false_and]
      exact EV.neg (by omega) no
theorem impl_IsSymplectic_is (g : Int) (t : List (List Int)) (hn : t.length < 4611686018427387904) (hr : ∀ r ∈ t, r.length < 4611686018427387904) : EV (fun k => impl_IsSymplectic.f k g t) (symB g t) := by
  have no : EV (fun k => impl_IsSymplectic.j0 k g t true) false := by
    refine EV.step (fun k => by rw [impl_IsSymplectic.j0]) ?_
    exact EV.pos rfl (EV.now _)
  unfold symB
  refine EV.by (impl_within_is _ _ _) ?_
  by_cases h1 : 1 ≤ g ∧ g ≤ 3
  · have e2 : wrap64 (2 * g) = 2 * g := w64 (by omega) (by omega)
    refine EV.pos (by simpa using h1) ?_
    rw [show decide (1 ≤ g ∧ g ≤ 3) = true by simpa using h1, Bool.true_and]
    by_cases h2 : (t.length : Int) = 2 * g
    · rw [show decide ((t.length : Int) = 2 * g) = true by simpa using h2, Bool.true_and, e2, show ((t.length : Int) != 2 * g) = false by simp [h2]]
      refine EV.step (fun k => by rw [impl_IsSymplectic.j0]) ?_
      rw [e2, ← h2]
      refine EV.neg (by simp) (EV.pos (by omega) (EV.pos (by omega) ?_))
      have := impl_IsSymplectic_l0 g t h2 (by omega) (by omega) hr t [] rfl (by simp)
      rw [rowsOf_nil] at this
      refine EV.congr (fun k => rfl) (this.eq ?_)
      unfold tableB
      rw [show decide (1 ≤ t.length ∧ t.length ≤ 6) = true by simp; omega, Bool.and_true]
    · rw [show decide ((t.length : Int) = 2 * g) = false by simpa using h2, Bool.false_and, Bool.false_and, e2, show ((t.length : Int) != 2 * g) = true by simpa using h2]
      exact no
  · rw [show decide (1 ≤ g ∧ g ≤ 3) = false by simpa using h1, Bool.false_and, Bool.false_and, Bool.false_and]
    exact EV.neg (by simpa using h1) no

theorem spec_IsSymplectic_l2 (g : Int) (t : List (List Int)) (i j : Nat) (ht : tableB t = true) (hg : (t.length : Int) = 2 * g) (hi : i < t.length) (hj : j < t.length) (r : Bool)
    (H1 : formM (colL t i) (colL t j) = formM (unitM t.length i) (unitM t.length j) → EV (fun k => spec_IsSymplectic.l1 k g t (i : Int) ((j : Int) + 1)) r)
    (H2 : ¬ formM (colL t i) (colL t j) = formM (unitM t.length i) (unitM t.length j) → r = false) : EV (fun k => spec_IsSymplectic.l2 k g t (i : Int) (j : Int) [] [] 0) r := by
  have a := tableB_of ht
  have e2 : wrap64 (2 * g) = (t.length : Int) := by rw [w64 (by omega) (by omega), hg]
  refine EV.count (g := fun k s n => spec_IsSymplectic.l2 k g t (i : Int) (j : Int) s.1 s.2 n) t.length (fun n => (((colL t i).take n, (colL t j).take n) : List Int × List Int)) r (fun n hn H => ?_) ?_
  · have b := a.1 _ (List.getElem_mem hn)
    have ci : n < (colL t i).length := by rw [colL_length]; exact hn
    have cj : n < (colL t j).length := by rw [colL_length]; exact hn
    have gi : (colL t i)[n] = t[n][i]'(by omega) := by
      simp only [colL, List.getElem_map, List.getD_eq_getElem?_getD]
      rw [List.getElem?_eq_getElem (by omega), Option.getD_some]
    have gj : (colL t j)[n] = t[n][j]'(by omega) := by
      simp only [colL, List.getElem_map, List.getD_eq_getElem?_getD]
      rw [List.getElem?_eq_getElem (by omega), Option.getD_some]
    refine EV.step (fun k => by rw [spec_IsSymplectic.l2]) ?_
    rw [e2, rdL_nat _ _ hn, rd_nat _ _ (by omega), rd_nat _ _ (by omega), w64 (x := (n : Int) + 1) (by omega) (by omega)]
    refine EV.pos (by omega) (EV.pos (by omega) (EV.pos (by omega) (EV.pos (by omega) (EV.pos (by omega) (EV.pos (by simp; omega) (EV.pos (by omega) (EV.pos (by omega) (EV.pos (by simp; omega) ?_))))))))
    simp only [List.take_succ_eq_append_getElem ci, List.take_succ_eq_append_getElem cj, gi, gj] at H
    exact H
  · have lu : ∀ x : Nat, (unitM t.length x).length = t.length := fun x => unitM_length _ _
    simp only [show ∀ x, (colL t x).take t.length = colL t x from fun x => List.take_of_length_le (by rw [colL_length]; omega)]
    refine EV.step (fun k => by rw [spec_IsSymplectic.l2]) ?_
    rw [e2, w64 (x := (j : Int) + 1) (by omega) (by omega)]
    refine EV.neg (by omega) (EV.bind (spec_l11Form_is _ _ (by rw [colL_length, colL_length]) (colL_small ht i hi) (colL_small ht j hj) (by rw [colL_length]; omega)) ?_)
    refine EV.by (spec_l11Unit_is _ _ (by omega) hi) (EV.by (spec_l11Unit_is _ _ (by omega) hj) ?_)
    refine EV.bind (spec_l11Form_is _ _ (by rw [lu, lu]) (unitM_small _ _) (unitM_small _ _) (by rw [lu]; omega)) ?_
    exact EV.cases H1 fun c => (EV.now _).eq (H2 c).symm
theorem spec_IsSymplectic_is (g : Int) (t : List (List Int)) (hg : (Lit.int .i64 g).wf = true) (hn : t.length < 4611686018427387904) (hr : ∀ r ∈ t, r.length < 4611686018427387904) : EV (fun k => spec_IsSymplectic.f k g t) (symB g t) := by
  have no : EV (fun k => spec_IsSymplectic.j0 k g t true) false := by
    refine EV.step (fun k => by rw [spec_IsSymplectic.j0]) ?_
    exact EV.pos rfl (EV.now _)
  unfold symB
  refine EV.by (spec_l1In_is _ _ _) ?_
  by_cases h1 : 1 ≤ g ∧ g ≤ 3
  · have e2 : wrap64 (2 * g) = 2 * g := w64 (by omega) (by omega)
    refine EV.pos (by simpa using h1) ?_
    rw [show decide (1 ≤ g ∧ g ≤ 3) = true by simpa using h1, Bool.true_and]
    by_cases h2 : (t.length : Int) = 2 * g
    · refine EV.pos (by rw [e2]; exact h2) (EV.bind (spec_l11Table_is t hn hr) ?_)
      rw [show decide ((t.length : Int) = 2 * g) = true by simpa using h2, Bool.true_and]
      by_cases h3 : tableB t = true
      · rw [h3, Bool.true_and, ← Bool.and_true (List.all _ _)]
        refine EV.step (fun k => by rw [spec_IsSymplectic.j0]) ?_
        refine EV.neg (by simp) ?_
        refine EV.countB (g := fun k i => spec_IsSymplectic.l0 k g t i) t.length _ true (fun i hi r H1 H2 => ?_) ?_
        · refine EV.step (fun k => by rw [spec_IsSymplectic.l0]) ?_
          rw [e2]
          refine EV.pos (by omega) ?_
          refine EV.countC (g := fun k j => spec_IsSymplectic.l1 k g t (i : Int) j) t.length (fun j => decide (formM (colL t i) (colL t j) = formM (unitM t.length i) (unitM t.length j))) r false (fun j hj A B => ?_) (fun h => ?_) H2
          · refine EV.step (fun k => by rw [spec_IsSymplectic.l1]) ?_
            rw [e2]
            exact EV.pos (by omega) (spec_IsSymplectic_l2 g t i j h3 h2 hi hj r (fun c => A (by simpa using c)) (fun c => B (by simpa using c)))
          · refine EV.step (fun k => by rw [spec_IsSymplectic.l1]) ?_
            rw [e2, w64 (x := (i : Int) + 1) (by omega) (by omega)]
            exact EV.neg (by omega) (H1 h)
        · refine EV.step (fun k => by rw [spec_IsSymplectic.l0]) ?_
          rw [e2]
          exact EV.neg (by omega) (EV.now _)
      · rw [show tableB t = false by simpa using h3, Bool.false_and]; exact no
    · rw [show decide ((t.length : Int) = 2 * g) = false by simpa using h2, Bool.false_and, Bool.false_and]
      exact EV.neg (by rw [e2]; exact h2) no
  · rw [show decide (1 ≤ g ∧ g ≤ 3) = false by simpa using h1, Bool.false_and, Bool.false_and, Bool.false_and]
    exact EV.neg (by simpa using h1) no

theorem spec_FormOf_is (g : Int) (xs ys : List Int) (h1 : xs.length ≤ 1048576) (h2 : ys.length ≤ 1048576) : EV (fun k => spec_FormOf.f k g xs ys) (formOfM g xs ys) := by
  unfold formOfM
  refine EV.bind (spec_IsClass_is g xs (by omega)) ?_
  by_cases c1 : classB g xs = true
  · refine EV.pos c1 (EV.bind (spec_IsClass_is g ys (by omega)) ?_)
    by_cases c2 : classB g ys = true
    · obtain ⟨e1, e2, e3⟩ := class_of c1
      obtain ⟨f1, f2, f3⟩ := class_of c2
      exact EV.pos c2 (EV.bind (spec_l11Form_is xs ys (by omega) e3 f3 (by omega)) ((EV.now _).eq (by simp [c1, c2])))
    · exact EV.neg c2 ((EV.now _).eq (by simp [c2]))
  · exact EV.neg c1 ((EV.now _).eq (by simp [c1]))

theorem impl_size_is (a : Int) (h : -9223372036854775808 < a) (h' : a ≤ 9223372036854775807) : impl_size.f a = some (a.natAbs : Int) := by
  unfold impl_size.f mx
  rw [w64 (by omega) (by omega)]
  congr 1
  split <;> omega
theorem impl_size_some (a : Int) : ∃ r, impl_size.f a = some r := ⟨_, rfl⟩

theorem impl_gcd_l0 (n : Nat) : ∀ a b : Int, b.natAbs ≤ n → ∃ r, EV (fun k => impl_gcd.l0 k a b) r ∧ (0 ≤ a → 0 ≤ b → r = ((Nat.gcd a.natAbs b.natAbs : Nat) : Int)) := by
  induction n with
  | zero =>
    intro a b hb
    obtain rfl : b = 0 := by omega
    refine ⟨a, EV.step (fun k => by rw [impl_gcd.l0]) ?_, fun h _ => by simp; omega⟩
    exact EV.pos rfl (EV.now _)
  | succ n ih =>
    intro a b hb
    by_cases h : b = 0
    · subst h
      refine ⟨a, EV.step (fun k => by rw [impl_gcd.l0]) ?_, fun h _ => by simp; omega⟩
      exact EV.pos rfl (EV.now _)
    · have hm := tmod_lt a b h
      obtain ⟨r, hr, hv⟩ := ih b (Int.tmod a b) (by omega)
      refine ⟨r, EV.step (fun k => by rw [impl_gcd.l0]) ?_, fun ha hb' => ?_⟩
      · exact EV.neg h hr
      · rw [hv hb' (Int.tmod_nonneg _ ha), gcd_step]
theorem impl_gcd_is (a b : Int) (h1 : a.natAbs ≤ 9223372036854775807) (h2 : b.natAbs ≤ 9223372036854775807) : EV (fun k => impl_gcd.f k a b) ((Nat.gcd a.natAbs b.natAbs : Nat) : Int) := by
  obtain ⟨r, hr, hv⟩ := impl_gcd_l0 (b.natAbs : Int).natAbs (a.natAbs : Int) (b.natAbs : Int) (Nat.le_refl _)
  refine EV.by (impl_size_is a (by omega) (by omega)) (EV.by (impl_size_is b (by omega) (by omega)) (hr.eq ?_))
  rw [hv (by omega) (by omega)]; simp
theorem impl_gcd_some (a b : Int) : ∃ r, EV (fun k => impl_gcd.f k a b) r := by
  obtain ⟨x, hx⟩ := impl_size_some a
  obtain ⟨y, hy⟩ := impl_size_some b
  obtain ⟨r, hr, _⟩ := impl_gcd_l0 y.natAbs x y (Nat.le_refl _)
  exact ⟨r, EV.by hx (EV.by hy hr)⟩

def gcdL (xs : List Int) (d : Nat) : Nat := xs.foldl (fun d x => Nat.gcd d x.natAbs) d
def primM (g : Int) (xs : List Int) : Bool := classB g xs && decide (gcdL xs 0 = 1)
theorem gcd_small {d : Nat} {x : Int} (hd : d ≤ 1000) (hx : smallB x = true) : Nat.gcd d x.natAbs ≤ 1000 := by
  have := smallB_bd hx
  rcases Nat.eq_zero_or_pos d with h | h
  · subst h; rw [Nat.gcd_zero_left]; omega
  · have := Nat.gcd_le_left x.natAbs h; omega

theorem impl_IsPrimitiveClass_l0 (g : Int) (xs : List Int) (hn : xs.length < 4611686018427387904) : ∀ (suf pre : List Int) (d : Int), xs = pre ++ suf →
    ∃ D : Int, EV (fun k => impl_IsPrimitiveClass.l0 k g xs d xs (xs.length : Int) (pre.length : Int)) (classB g xs && decide (D = 1)) ∧ (∀ e : Nat, d = e → e ≤ 1000 → suf.all smallB = true → D = gcdL suf e) := by
  intro suf
  induction suf with
  | nil =>
    intro pre d h
    refine ⟨d, ?_, fun e he _ _ => by rw [he]; rfl⟩
    refine EV.step (fun k => by rw [impl_IsPrimitiveClass.l0]) ?_
    refine EV.neg (by subst h; simp) (EV.bind (impl_IsClass_is g xs hn) ?_)
    by_cases c : classB g xs = true
    · exact EV.pos c ((EV.now _).eq (by rw [Bool.eq_iff_iff]; simp [c]))
    · exact EV.neg c ((EV.now _).eq (by simp [c]))
  | cons x suf ih =>
    intro pre d h
    have hl : pre.length < 4611686018427387904 := by subst h; simp at hn; omega
    have hlt : (pre.length : Int) < (xs.length : Int) := by subst h; exact lt_app ..
    have hx : rd xs (pre.length : Int) = x := by subst h; exact rd_app ..
    obtain ⟨r, hr⟩ := impl_gcd_some d x
    obtain ⟨D, hD, hv⟩ := ih (pre ++ [x]) r (by simp [h])
    refine ⟨D, ?_, fun e he h1 hs => ?_⟩
    · refine EV.step (fun k => by rw [impl_IsPrimitiveClass.l0]) ?_
      rw [hx, up (x := x) hl]
      exact EV.pos hlt (EV.pos (by omega) (EV.pos hlt (EV.bind hr hD)))
    · simp only [List.all_cons, Bool.and_eq_true] at hs
      have hb := smallB_bd hs.1
      have : r = ((Nat.gcd d.natAbs x.natAbs : Nat) : Int) := EV.uniq hr (impl_gcd_is d x (by omega) (by omega))
      rw [hv (Nat.gcd e x.natAbs) (by rw [this, he]; simp) (gcd_small h1 hs.1) hs.2]
      simp [gcdL]
theorem impl_IsPrimitiveClass_is (g : Int) (xs : List Int) (hn : xs.length < 4611686018427387904) : EV (fun k => impl_IsPrimitiveClass.f k g xs) (primM g xs) := by
  obtain ⟨D, hD, hv⟩ := impl_IsPrimitiveClass_l0 g xs hn xs [] 0 rfl
  refine EV.congr (fun k => rfl) (hD.eq ?_)
  unfold primM
  by_cases c : classB g xs = true
  · rw [hv 0 rfl (by omega) (class_of c).2.2, Bool.eq_iff_iff]; simp [c]; omega
  · simp [c]

theorem spec_l1Max_is (a b : Int) : spec_l1Max.f a b = some (if a > b then a else b) := by
  unfold spec_l1Max.f; split <;> rfl

theorem spec_l3Abs_is (a : Int) (h : -9223372036854775808 < a) (h' : a ≤ 9223372036854775807) : spec_l3Abs.f a = some (a.natAbs : Int) := by
  unfold spec_l3Abs.f
  rw [spec_l1Max_is, w64 (by omega) (by omega)]
  simp only [Option.bind_some]
  congr 1
  split <;> omega

theorem spec_l11Gcd_l0 (n : Nat) : ∀ a b : Int, b.natAbs ≤ n → a.natAbs ≤ 9223372036854775807 → b.natAbs ≤ 9223372036854775807 → EV (fun k => spec_l11Gcd.l0 k a b) ((Nat.gcd a.natAbs b.natAbs : Nat) : Int) := by
  induction n with
  | zero =>
    intro a b hb h1 h2
    obtain rfl : b = 0 := by omega
    refine EV.step (fun k => by rw [spec_l11Gcd.l0]) ?_
    refine EV.pos rfl (EV.by (spec_l3Abs_is a (by omega) (by omega)) ((EV.now _).eq (by simp)))
  | succ n ih =>
    intro a b hb h1 h2
    refine EV.step (fun k => by rw [spec_l11Gcd.l0]) ?_
    by_cases h : b = 0
    · subst h
      exact EV.pos rfl (EV.by (spec_l3Abs_is a (by omega) (by omega)) ((EV.now _).eq (by simp)))
    · have hm := tmod_lt a b h
      refine EV.neg h ((ih b (Int.tmod a b) (by omega) (by omega) (by omega)).eq ?_)
      rw [gcd_step]
theorem spec_l11Gcd_is (a b : Int) (h1 : a.natAbs ≤ 9223372036854775807) (h2 : b.natAbs ≤ 9223372036854775807) : EV (fun k => spec_l11Gcd.f k a b) ((Nat.gcd a.natAbs b.natAbs : Nat) : Int) :=
  spec_l11Gcd_l0 b.natAbs a b (Nat.le_refl _) h1 h2

theorem spec_IsPrimitiveClass_l0 (xs : List Int) (hn : xs.length < 4611686018427387904) : ∀ (suf pre : List Int) (d : Nat), xs = pre ++ suf → suf.all smallB = true → d ≤ 1000 →
    EV (fun k => spec_IsPrimitiveClass.l0 k xs (d : Int) (pre.length : Int)) (decide (gcdL suf d = 1)) := by
  intro suf
  induction suf with
  | nil =>
    intro pre d h _ hd
    refine EV.step (fun k => by rw [spec_IsPrimitiveClass.l0]) ?_
    refine EV.neg (by subst h; simp) ((EV.now _).eq ?_)
    rw [Bool.eq_iff_iff, beq_iff_eq, decide_eq_true_iff]
    show (d : Int) = 1 ↔ d = 1
    omega
  | cons x suf ih =>
    intro pre d h hs hd
    simp only [List.all_cons, Bool.and_eq_true] at hs
    have hl : pre.length < 4611686018427387904 := by subst h; simp at hn; omega
    have hlt : (pre.length : Int) < (xs.length : Int) := by subst h; exact lt_app ..
    have hx : rd xs (pre.length : Int) = x := by subst h; exact rd_app ..
    have hb := smallB_bd hs.1
    refine EV.step (fun k => by rw [spec_IsPrimitiveClass.l0]) ?_
    refine EV.pos hlt (EV.pos (by omega) (EV.bind (spec_l11Gcd_is (d : Int) (rd xs (pre.length : Int)) (by omega) (by rw [hx]; omega)) ?_))
    rw [hx, up (x := x) hl]
    have := ih (pre ++ [x]) (Nat.gcd d x.natAbs) (by simp [h]) hs.2 (gcd_small hd hs.1)
    exact this
theorem spec_IsPrimitiveClass_is (g : Int) (xs : List Int) (hn : xs.length < 4611686018427387904) : EV (fun k => spec_IsPrimitiveClass.f k g xs) (primM g xs) := by
  unfold primM
  refine EV.bind (spec_IsClass_is g xs hn) ?_
  by_cases c : classB g xs = true
  · exact EV.pos c ((spec_IsPrimitiveClass_l0 xs hn xs [] 0 rfl (class_of c).2.2 (by omega)).eq (by simp [c]))
  · exact EV.neg c ((EV.now _).eq (by simp [c]))

theorem impl_Times6 (s t : List (List Int)) (hs : szT s) (ht : szT t) : EV (fun k => impl_TimesTable.f k s t) (timesM s t) :=
  impl_TimesTable_is s t (by have := ht.1; omega) (fun r hr => by have := hs.2 r hr; omega) (fun r hr => by have := ht.2 r hr; omega)
theorem impl_threeTimes_is (s t u : List (List Int)) (hs : szT s) (ht : szT t) (hu : szT u) : EV (fun k => impl_threeTimes.f k s t u) (threeM s t u) := by
  unfold threeM
  refine EV.bind (impl_Times6 s t hs ht) ?_
  by_cases h : (timesM s t).2 = true
  · rw [if_pos h]
    exact EV.pos h (EV.bind (impl_Times6 _ u (timesM_sz _ _) hu) (EV.now _))
  · rw [if_neg h]
    exact EV.neg h (EV.now _)

theorem impl_sameInts_is (xs ys : List Int) (hn : xs.length < 4294967296) : EV (fun k => impl_sameInts.f k xs ys) (decide (xs = ys)) := by
  by_cases h : xs.length = ys.length
  · refine EV.pos (by omega) ?_
    have := EV.countB (g := fun k i => impl_sameInts.l0 k xs ys (xs.length : Int) i) xs.length (fun i => decide (xs.getD i 0 = ys.getD i 0)) true (fun i hi r H1 H2 => ?_) ?_
    · refine EV.eq this ?_
      rw [Bool.eq_iff_iff, Bool.and_true, List.all_eq_true, decide_eq_true_iff]
      constructor
      · intro hh
        apply List.ext_getElem h
        intro i h1 h2
        have := hh i (List.mem_range.2 h1)
        rw [decide_eq_true_iff] at this
        simpa [h1, h2] using this
      · intro e i _; rw [e]; simp
    · have hi' : i < ys.length := by omega
      have e1 : xs.getD i 0 = xs[i] := by simp [hi]
      have e2 : ys.getD i 0 = ys[i] := by simp [hi']
      rw [e1, e2] at H1 H2
      refine EV.step (fun k => by rw [impl_sameInts.l0]) ?_
      rw [rd_nat _ _ hi, rd_nat _ _ hi', w64 (x := (i : Int) + 1) (by omega) (by omega)]
      refine EV.pos (by omega) (EV.pos (by omega) (EV.pos (by omega) (EV.pos (by omega) ?_)))
      exact EV.cases (fun c => H1 (by simpa using c)) (fun c => (EV.now _).eq (H2 (by simpa using c)).symm)
    · refine EV.step (fun k => by rw [impl_sameInts.l0]) ?_
      exact EV.neg (by omega) (EV.now _)
  · exact EV.neg (by omega) ((EV.now _).eq (by simp; intro e; exact h (by rw [e])))

theorem impl_sameRows_is (xs ys : List (List Int)) (hn : xs.length < 4294967296) (hr : ∀ r ∈ xs, r.length < 4294967296) : EV (fun k => impl_sameRows.f k xs ys) (decide (xs = ys)) := by
  by_cases h : xs.length = ys.length
  · refine EV.pos (by omega) ?_
    have := EV.countB (g := fun k i => impl_sameRows.l0 k xs ys (xs.length : Int) i) xs.length (fun i => decide (xs.getD i [] = ys.getD i [])) true (fun i hi r H1 H2 => ?_) ?_
    · refine EV.eq this ?_
      rw [Bool.eq_iff_iff, Bool.and_true, List.all_eq_true, decide_eq_true_iff]
      constructor
      · intro hh
        apply List.ext_getElem h
        intro i h1 h2
        have := hh i (List.mem_range.2 h1)
        rw [decide_eq_true_iff] at this
        simpa [h1, h2] using this
      · intro e i _; rw [e]; simp
    · have hi' : i < ys.length := by omega
      have e1 : xs.getD i [] = xs[i] := by simp [hi]
      have e2 : ys.getD i [] = ys[i] := by simp [hi']
      rw [e1, e2] at H1 H2
      refine EV.step (fun k => by rw [impl_sameRows.l0]) ?_
      rw [rdL_nat _ _ hi, rdL_nat _ _ hi', w64 (x := (i : Int) + 1) (by omega) (by omega)]
      refine EV.pos (by omega) (EV.pos (by omega) (EV.pos (by omega) (EV.pos (by omega) (EV.bind (impl_sameInts_is _ _ (hr _ (List.getElem_mem hi))) ?_))))
      exact EV.cases (fun c => H1 (by simpa using c)) (fun c => (EV.now _).eq (H2 (by simpa using c)).symm)
    · refine EV.step (fun k => by rw [impl_sameRows.l0]) ?_
      exact EV.neg (by omega) (EV.now _)
  · exact EV.neg (by omega) ((EV.now _).eq (by simp; intro e; exact h (by rw [e])))

theorem impl_BraidHolds_is (g : Int) (c d : List Int) (hc : c.length ≤ 1048576) (hd : d.length ≤ 1048576) : EV (fun k => impl_BraidHolds.f k g c d) (braidM g c d) := by
  unfold braidM
  refine EV.bind (impl_TwistMatrix_is g c hc) (EV.bind (impl_TwistMatrix_is g d hd) ?_)
  have sc : szT (twmM g c).1 := twmM_sz g c
  have sd : szT (twmM g d).1 := twmM_sz g d
  generalize twmM g c = C at *
  generalize twmM g d = D at *
  have no : EV (fun k => impl_BraidHolds.j0 k C.1 D.1 true) false := by
    refine EV.step (fun k => by rw [impl_BraidHolds.j0]) ?_
    exact EV.pos rfl (EV.now _)
  by_cases h1 : C.2 = true
  · rw [h1, Bool.true_and]
    refine EV.pos rfl ?_
    by_cases h2 : D.2 = true
    · rw [h2, Bool.true_and]
      refine EV.step (fun k => by rw [impl_BraidHolds.j0]) ?_
      refine EV.neg (by simp) (EV.bind (impl_threeTimes_is _ _ _ sc sd sc) (EV.bind (impl_threeTimes_is _ _ _ sd sc sd) ?_))
      have z := threeM_sz C.1 D.1 C.1
      by_cases h3 : (threeM C.1 D.1 C.1).2 = true
      · rw [h3, Bool.true_and]
        refine EV.pos rfl ?_
        by_cases h4 : (threeM D.1 C.1 D.1).2 = true
        · rw [h4, Bool.true_and]
          exact EV.pos rfl (EV.bind (impl_sameRows_is _ _ (by have := z.1; omega) (fun r hr => by have := z.2 r hr; omega)) (EV.now _))
        · rw [show (threeM D.1 C.1 D.1).2 = false by simpa using h4, Bool.false_and]
          exact EV.neg (by simp) (EV.now _)
      · rw [show (threeM C.1 D.1 C.1).2 = false by simpa using h3, Bool.false_and]
        exact EV.neg (by simp) (EV.now _)
    · rw [show D.2 = false by simpa using h2, Bool.false_and]; exact no
  · rw [show C.2 = false by simpa using h1, Bool.false_and]
    exact EV.neg (by simp) no

theorem spec_Times6 (s t : List (List Int)) (hs : szT s) (ht : szT t) : EV (fun k => spec_TimesTable.f k s t) (timesM s t) :=
  spec_TimesTable_is s t (by have := hs.1; omega) (by have := ht.1; omega) (fun r hr => by have := hs.2 r hr; omega) (fun r hr => by have := ht.2 r hr; omega)
theorem spec_l11Three_is (s t u : List (List Int)) (hs : szT s) (ht : szT t) (hu : szT u) : EV (fun k => spec_l11Three.f k s t u) (threeM s t u) := by
  unfold threeM
  refine EV.bind (spec_Times6 s t hs ht) ?_
  by_cases h : (timesM s t).2 = true
  · rw [if_pos h]
    exact EV.pos h (EV.bind (spec_Times6 _ u (timesM_sz _ _) hu) (EV.now _))
  · rw [if_neg h]
    exact EV.neg h (EV.now _)

theorem spec_l2Same_is (xs ys : List Int) (hn : xs.length < 4294967296) : EV (fun k => spec_l2Same.f k xs ys) (decide (xs = ys)) := by
  by_cases h : xs.length = ys.length
  · refine EV.pos (by omega) ?_
    have := EV.countB (g := fun k i => spec_l2Same.l0 k xs ys i) xs.length (fun i => decide (xs.getD i 0 = ys.getD i 0)) true (fun i hi r H1 H2 => ?_) ?_
    · refine EV.eq this ?_
      rw [Bool.eq_iff_iff, Bool.and_true, List.all_eq_true, decide_eq_true_iff]
      constructor
      · intro hh
        apply List.ext_getElem h
        intro i h1 h2
        have := hh i (List.mem_range.2 h1)
        rw [decide_eq_true_iff] at this
        simpa [h1, h2] using this
      · intro e i _; rw [e]; simp
    · have hi' : i < ys.length := by omega
      have e1 : xs.getD i 0 = xs[i] := by simp [hi]
      have e2 : ys.getD i 0 = ys[i] := by simp [hi']
      rw [e1, e2] at H1 H2
      refine EV.step (fun k => by rw [spec_l2Same.l0]) ?_
      rw [rd_nat _ _ hi, rd_nat _ _ hi', w64 (x := (i : Int) + 1) (by omega) (by omega)]
      refine EV.pos (by omega) (EV.pos (by omega) (EV.pos (by omega) ?_))
      exact EV.cases (fun c => H1 (by simpa using c)) (fun c => (EV.now _).eq (H2 (by simpa using c)).symm)
    · refine EV.step (fun k => by rw [spec_l2Same.l0]) ?_
      exact EV.neg (by omega) (EV.now _)
  · exact EV.neg (by omega) ((EV.now _).eq (by simp; intro e; exact h (by rw [e])))

theorem spec_l11Same_is (xs ys : List (List Int)) (hn : xs.length < 4294967296) (hr : ∀ r ∈ xs, r.length < 4294967296) : EV (fun k => spec_l11Same.f k xs ys) (decide (xs = ys)) := by
  by_cases h : xs.length = ys.length
  · refine EV.pos (by omega) ?_
    have := EV.countB (g := fun k i => spec_l11Same.l0 k xs ys i) xs.length (fun i => decide (xs.getD i [] = ys.getD i [])) true (fun i hi r H1 H2 => ?_) ?_
    · refine EV.eq this ?_
      rw [Bool.eq_iff_iff, Bool.and_true, List.all_eq_true, decide_eq_true_iff]
      constructor
      · intro hh
        apply List.ext_getElem h
        intro i h1 h2
        have := hh i (List.mem_range.2 h1)
        rw [decide_eq_true_iff] at this
        simpa [h1, h2] using this
      · intro e i _; rw [e]; simp
    · have hi' : i < ys.length := by omega
      have e1 : xs.getD i [] = xs[i] := by simp [hi]
      have e2 : ys.getD i [] = ys[i] := by simp [hi']
      rw [e1, e2] at H1 H2
      refine EV.step (fun k => by rw [spec_l11Same.l0]) ?_
      rw [rdL_nat _ _ hi, rdL_nat _ _ hi', w64 (x := (i : Int) + 1) (by omega) (by omega)]
      refine EV.pos (by omega) (EV.pos (by omega) (EV.pos (by omega) (EV.bind (spec_l2Same_is _ _ (hr _ (List.getElem_mem hi))) ?_)))
      exact EV.cases (fun c => H1 (by simpa using c)) (fun c => (EV.now _).eq (H2 (by simpa using c)).symm)
    · refine EV.step (fun k => by rw [spec_l11Same.l0]) ?_
      exact EV.neg (by omega) (EV.now _)
  · exact EV.neg (by omega) ((EV.now _).eq (by simp; intro e; exact h (by rw [e])))

theorem spec_BraidHolds_is (g : Int) (c d : List Int) (hc : c.length ≤ 1048576) (hd : d.length ≤ 1048576) : EV (fun k => spec_BraidHolds.f k g c d) (braidM g c d) := by
  unfold braidM
  refine EV.bind (spec_TwistMatrix_is g c hc) (EV.bind (spec_TwistMatrix_is g d hd) ?_)
  have sc : szT (twmM g c).1 := twmM_sz g c
  have sd : szT (twmM g d).1 := twmM_sz g d
  generalize twmM g c = C at *
  generalize twmM g d = D at *
  have no : EV (fun k => spec_BraidHolds.j0 k C.1 D.1 true) false := by
    refine EV.step (fun k => by rw [spec_BraidHolds.j0]) ?_
    exact EV.pos rfl (EV.now _)
  by_cases h1 : C.2 = true
  · rw [h1, Bool.true_and]
    refine EV.pos rfl ?_
    by_cases h2 : D.2 = true
    · rw [h2, Bool.true_and]
      refine EV.step (fun k => by rw [spec_BraidHolds.j0]) ?_
      refine EV.neg (by simp) (EV.bind (spec_l11Three_is _ _ _ sc sd sc) (EV.bind (spec_l11Three_is _ _ _ sd sc sd) ?_))
      have z := threeM_sz C.1 D.1 C.1
      by_cases h3 : (threeM C.1 D.1 C.1).2 = true
      · rw [h3, Bool.true_and]
        refine EV.pos rfl ?_
        by_cases h4 : (threeM D.1 C.1 D.1).2 = true
        · rw [h4, Bool.true_and]
          exact EV.pos rfl (EV.bind (spec_l11Same_is _ _ (by have := z.1; omega) (fun r hr => by have := z.2 r hr; omega)) (EV.now _))
        · rw [show (threeM D.1 C.1 D.1).2 = false by simpa using h4, Bool.false_and]
          exact EV.neg (by simp) (EV.now _)
      · rw [show (threeM C.1 D.1 C.1).2 = false by simpa using h3, Bool.false_and]
        exact EV.neg (by simp) (EV.now _)
    · rw [show D.2 = false by simpa using h2, Bool.false_and]; exact no
  · rw [show C.2 = false by simpa using h1, Bool.false_and]
    exact EV.neg (by simp) no

theorem impl_Times6c (s t : List (List Int)) (hs : szT s) (ht : szT t) : EV (fun k => impl_TimesTable.f k s t) (timesM s t) :=
  impl_TimesTable_is s t (by have := ht.1; omega) (fun r hr => by have := hs.2 r hr; omega) (fun r hr => by have := ht.2 r hr; omega)
theorem impl_CommuteHolds_is (g : Int) (c d : List Int) (hc : c.length ≤ 1048576) (hd : d.length ≤ 1048576) : EV (fun k => impl_CommuteHolds.f k g c d) (commM g c d) := by
  unfold commM
  refine EV.bind (impl_TwistMatrix_is g c hc) (EV.bind (impl_TwistMatrix_is g d hd) ?_)
  have sc : szT (twmM g c).1 := twmM_sz g c
  have sd : szT (twmM g d).1 := twmM_sz g d
  generalize twmM g c = C at *
  generalize twmM g d = D at *
  have no : EV (fun k => impl_CommuteHolds.j0 k C.1 D.1 true) false := by
    refine EV.step (fun k => by rw [impl_CommuteHolds.j0]) ?_
    exact EV.pos rfl (EV.now _)
  by_cases h1 : C.2 = true
  · rw [h1, Bool.true_and]
    refine EV.pos rfl ?_
    by_cases h2 : D.2 = true
    · rw [h2, Bool.true_and]
      refine EV.step (fun k => by rw [impl_CommuteHolds.j0]) ?_
      refine EV.neg (by simp) (EV.bind (impl_Times6c _ _ sc sd) (EV.bind (impl_Times6c _ _ sd sc) ?_))
      have z := timesM_sz C.1 D.1
      by_cases h3 : (timesM C.1 D.1).2 = true
      · rw [h3, Bool.true_and]
        refine EV.pos rfl ?_
        by_cases h4 : (timesM D.1 C.1).2 = true
        · rw [h4, Bool.true_and]
          exact EV.pos rfl (EV.bind (impl_sameRows_is _ _ (by have := z.1; omega) (fun r hr => by have := z.2 r hr; omega)) (EV.now _))
        · rw [show (timesM D.1 C.1).2 = false by simpa using h4, Bool.false_and]
          exact EV.neg (by simp) (EV.now _)
      · rw [show (timesM C.1 D.1).2 = false by simpa using h3, Bool.false_and]
        exact EV.neg (by simp) (EV.now _)
    · rw [show D.2 = false by simpa using h2, Bool.false_and]; exact no
  · rw [show C.2 = false by simpa using h1, Bool.false_and]
    exact EV.neg (by simp) no

theorem spec_Times6c (s t : List (List Int)) (hs : szT s) (ht : szT t) : EV (fun k => spec_TimesTable.f k s t) (timesM s t) :=
  spec_TimesTable_is s t (by have := hs.1; omega) (by have := ht.1; omega) (fun r hr => by have := hs.2 r hr; omega) (fun r hr => by have := ht.2 r hr; omega)
theorem spec_CommuteHolds_is (g : Int) (c d : List Int) (hc : c.length ≤ 1048576) (hd : d.length ≤ 1048576) : EV (fun k => spec_CommuteHolds.f k g c d) (commM g c d) := by
  unfold commM
  refine EV.bind (spec_TwistMatrix_is g c hc) (EV.bind (spec_TwistMatrix_is g d hd) ?_)
  have sc : szT (twmM g c).1 := twmM_sz g c
  have sd : szT (twmM g d).1 := twmM_sz g d
  generalize twmM g c = C at *
  generalize twmM g d = D at *
  have no : EV (fun k => spec_CommuteHolds.j0 k C.1 D.1 true) false := by
    refine EV.step (fun k => by rw [spec_CommuteHolds.j0]) ?_
    exact EV.pos rfl (EV.now _)
  by_cases h1 : C.2 = true
  · rw [h1, Bool.true_and]
    refine EV.pos rfl ?_
    by_cases h2 : D.2 = true
    · rw [h2, Bool.true_and]
      refine EV.step (fun k => by rw [spec_CommuteHolds.j0]) ?_
      refine EV.neg (by simp) (EV.bind (spec_Times6c _ _ sc sd) (EV.bind (spec_Times6c _ _ sd sc) ?_))
      have z := timesM_sz C.1 D.1
      by_cases h3 : (timesM C.1 D.1).2 = true
      · rw [h3, Bool.true_and]
        refine EV.pos rfl ?_
        by_cases h4 : (timesM D.1 C.1).2 = true
        · rw [h4, Bool.true_and]
          exact EV.pos rfl (EV.bind (spec_l11Same_is _ _ (by have := z.1; omega) (fun r hr => by have := z.2 r hr; omega)) (EV.now _))
        · rw [show (timesM D.1 C.1).2 = false by simpa using h4, Bool.false_and]
          exact EV.neg (by simp) (EV.now _)
      · rw [show (timesM C.1 D.1).2 = false by simpa using h3, Bool.false_and]
        exact EV.neg (by simp) (EV.now _)
    · rw [show D.2 = false by simpa using h2, Bool.false_and]; exact no
  · rw [show C.2 = false by simpa using h1, Bool.false_and]
    exact EV.neg (by simp) no

theorem laws_magnitude_is (a : Int) (h : a.natAbs ≤ 1000000) : laws_magnitude.f a = some (a.natAbs : Int) := by
  unfold laws_magnitude.f
  split
  · rw [w64 (by omega) (by omega)]; congr 1; omega
  · congr 1; omega

theorem drawn_len {x : List Int} (h : drawnC x) : x.length ≤ 1048576 := by have := h.2.1; omega
theorem twistM_len (h : Int) (c z : List Int) (k : Int) (hz : z.length ≤ 6) (hc : c.length ≤ 6) : (twistM h c z k).1.length ≤ 6 := by
  unfold twistM
  split
  · split
    · simp [twistL]; omega
    · simp
  · simp
theorem tw_j7 {g : Int} {x y : List Int} (dx : drawnC x) (dy : drawnC y) (h1 : classB g x = true) (h2 : classB g y = true) (b1 : bdL 2 x) : EV (fun k => laws_FnTwists.j7 k g x y (twmM g x).1 false) true := by
  have w1 := w_of h1
  have w2 := w_of h2
  have a2 := class_of h2
  have sz := twmM_sz g x
  refine EV.step (fun k => by rw [laws_FnTwists.j7]) ?_
  refine EV.neg (by simp) (EV.bind (impl_TwistClass_is g x y 1 (drawn_len dx) (drawn_len dy)) (EV.bind (impl_ApplyTable_is (twmM g x).1 y (fun r hr => by have := sz.2 r hr; omega) (by have := dy.2.1; omega)) ?_))
  have e1 : applyM (twmM g x).1 y = outM (twV x y) := by
    rw [twmM_small h1 b1, apply_tab _ (by omega) _ _ (fun j hj => ⟨by rw [twV_len _ _ (by rw [unitM_length, w1.2]), w1.2], bd_small (bd_tw h1 b1 j hj) (by decide)⟩) w2.2 a2.2.2, act_tw h1 _ w2.2]
  have e2 : twistM g x y 1 = outM (twV x y) := by
    unfold twistM outM
    rw [if_pos ⟨h1, h2, by decide, by decide⟩, Int.one_mul]; rfl
  rw [e1, e2]
  unfold outM
  by_cases S : (twV x y).all smallB = true
  · rw [if_pos S]
    refine EV.pos rfl (EV.pos rfl (EV.bind (laws_sameInts_self _ ?_) (EV.now _)))
    rw [twV_len _ _ (by omega)]; exact drawn_len dx
  · rw [if_neg S]
    exact EV.neg (by simp) (EV.now _)
theorem tw_j6_no (g : Int) (x y : List Int) (m : List (List Int)) (f : Int) : EV (fun k => laws_FnTwists.j6 k g x y m f true) true := by
  refine EV.step (fun k => by rw [laws_FnTwists.j6]) ?_
  exact EV.pos rfl (EV.now _)
theorem tw_j6 {g : Int} {x y : List Int} (dx : drawnC x) (dy : drawnC y) (h1 : classB g x = true) (h2 : classB g y = true) (b1 : bdL 2 x) (b2 : bdL 2 y) : EV (fun k => laws_FnTwists.j6 k g x y (twmM g x).1 (formM x y) false) true := by
  have J := tw_j7 dx dy h1 h2 b1
  refine EV.step (fun k => by rw [laws_FnTwists.j6]) ?_
  refine EV.neg (by simp) ?_
  by_cases f0 : formM x y = 0
  · refine EV.pos f0 (EV.bind ((impl_CommuteHolds_is g x y (drawn_len dx) (drawn_len dy)).eq (comm_small h1 h2 b1 b2 f0)) (EV.pos rfl (EV.neg (by omega) (EV.neg (by omega) J))))
  · refine EV.neg f0 ?_
    by_cases f1 : formM x y = 1
    · exact EV.pos f1 (EV.bind ((impl_BraidHolds_is g x y (drawn_len dx) (drawn_len dy)).eq (braid_small h1 h2 b1 b2 (.inl f1))) J)
    · refine EV.neg f1 ?_
      by_cases f2 : formM x y = -1
      · exact EV.pos f2 (EV.bind ((impl_BraidHolds_is g x y (drawn_len dx) (drawn_len dy)).eq (braid_small h1 h2 b1 b2 (.inr f2))) J)
      · exact EV.neg f2 J
def smallTo (x y : List Int) (i : Nat) : Prop := ∀ j (h : j < x.length) (h' : j < y.length), j < i → x[j].natAbs ≤ 2 ∧ y[j].natAbs ≤ 2
theorem tw_fin {g : Int} {x y : List Int} (dx : drawnC x) (dy : drawnC y) (s : Bool) (i : Nat) (hs : s = true → smallTo x y i) (hi : x.length ≤ i ∨ y.length ≤ i) :
    EV (fun k => laws_FnTwists.j5 k g x y (twmM g x).1 (formOfM g x y) s (i : Int) false) true := by
  have lx := dx.2.1
  have ly := dy.2.1
  refine EV.step (fun k => by rw [laws_FnTwists.j5]) ?_
  refine EV.neg (by simp) (EV.bind (spec_IsClass_is g x (by omega)) ?_)
  by_cases h1 : classB g x = true
  · refine EV.pos h1 (EV.bind (spec_IsClass_is g y (by omega)) ?_)
    by_cases h2 : classB g y = true
    · refine EV.pos h2 ?_
      cases s with
      | false => exact tw_j6_no _ _ _ _ _
      | true =>
        have H := hs rfl
        have a1 := class_of h1
        have a2 := class_of h2
        have e : formOfM g x y = formM x y := by unfold formOfM; rw [if_pos ⟨h1, h2⟩]
        rw [e]
        refine tw_j6 dx dy h1 h2 (fun z hz => ?_) (fun z hz => ?_)
        · obtain ⟨j, hj, rfl⟩ := List.mem_iff_getElem.1 hz
          exact (H j hj (by omega) (by omega)).1
        · obtain ⟨j, hj, rfl⟩ := List.mem_iff_getElem.1 hz
          exact (H j (by omega) hj (by omega)).2
    · exact EV.neg h2 (tw_j6_no _ _ _ _ _)
  · exact EV.neg h1 (tw_j6_no _ _ _ _ _)
theorem tw_l0 {g : Int} {x y : List Int} (dx : drawnC x) (dy : drawnC y) : ∀ (n i : Nat) (s : Bool), i + n = x.length → (s = true → smallTo x y i) →
    EV (fun k => laws_FnTwists.l0 k g x y (twmM g x).1 (formOfM g x y) s (i : Int)) true
  | 0, i, s, hi, hs => by
    refine EV.step (fun k => by rw [laws_FnTwists.l0]) ?_
    exact EV.neg (by omega) (tw_fin dx dy s i hs (by omega))
  | n + 1, i, s, hi, hs => by
    have lx := dx.2.1
    have h1 : i < x.length := by omega
    refine EV.step (fun k => by rw [laws_FnTwists.l0]) ?_
    refine EV.pos (by omega) ?_
    by_cases h2 : i < y.length
    · rw [decide_eq_true (by omega : (i : Int) < (y.length : Int))]
      refine EV.step (fun k => by rw [laws_FnTwists.j5]) ?_
      have e1 : wrap64 ((i : Int) + 1) = ((i + 1 : Nat) : Int) := by rw [w64 (by omega) (by omega)]; omega
      rw [rd_nat _ _ h1, rd_nat _ _ h2, e1]
      have bx := dx.2.2 _ (List.getElem_mem h1)
      have bY := dy.2.2 _ (List.getElem_mem h2)
      have no := tw_l0 (g := g) dx dy n (i + 1) false (by omega) (fun h => by cases h)
      refine EV.pos rfl ?_
      cases s with
      | false => exact EV.neg (by simp) no
      | true =>
        refine EV.pos rfl (EV.pos (by omega) (EV.pos (by omega) (EV.by (laws_magnitude_is _ (by omega)) ?_)))
        by_cases m1 : ((x[i].natAbs : Nat) : Int) < 3
        · refine EV.pos m1 (EV.pos (by omega) (EV.by (laws_magnitude_is _ (by omega)) ?_))
          refine tw_l0 (g := g) dx dy n (i + 1) _ (by omega) (fun h j hj hj' hlt => ?_)
          have m2 := of_decide_eq_true h
          by_cases e : j = i
          · subst e; omega
          · exact hs rfl j hj hj' (by omega)
        · exact EV.neg m1 no
    · rw [decide_eq_false (by omega : ¬ (i : Int) < (y.length : Int))]
      exact tw_fin dx dy s i hs (by omega)
theorem tw_j3 {g : Int} {x y : List Int} (dx : drawnC x) (dy : drawnC y) : EV (fun k => laws_FnTwists.j3 k g x y (twmM g x).1 (formOfM g x y)) true := by
  refine EV.step (fun k => by rw [laws_FnTwists.j3]) ?_
  exact tw_l0 (g := g) dx dy x.length 0 true (by omega) (fun _ j _ _ h => by omega)
theorem tw_j2 {g h : Int} {x y c z : List Int} {q : Int} (dx : drawnC x) (dy : drawnC y) (dc : drawnC c) (dz : drawnC z) (hq : q.natAbs ≤ 100) (b : Bool) (hb : b = true → (twistM h c z q).2 = true ∧ -19 ≤ q) :
    EV (fun k => laws_FnTwists.j2 k g x y h c z q (twistM h c z q).1 (twmM g x).1 (formOfM g x y) b) true := by
  have lc := dc.2.1
  have lz := dz.2.1
  have lt := twistM_len h c z q lz lc
  have J := tw_j3 (g := g) dx dy
  refine EV.step (fun k => by rw [laws_FnTwists.j2]) ?_
  cases b with
  | false => exact EV.neg (by simp) J
  | true =>
    obtain ⟨ok, h19⟩ := hb rfl
    have B := tw_back ok h19
    rw [w64 (x := -q) (by omega) (by omega)]
    have F1 := impl_FormOf_is h c (twistM h c z q).1 (by omega) (by omega)
    have F2 := impl_FormOf_is h c z (by omega) (by omega)
    refine EV.pos rfl (EV.bind (impl_TwistClass_is h c (twistM h c z q).1 (-q) (by omega) (by omega)) ?_)
    by_cases f : (twistM h c (twistM h c z q).1 (-q)).2 = true
    · refine EV.pos f ?_
      rw [B.1 f]
      exact EV.bind (laws_sameInts_self _ (by omega)) (EV.pos rfl (EV.bind F1 (EV.bind F2 (EV.pos B.2 J))))
    · exact EV.neg f (EV.bind F1 (EV.bind F2 (EV.pos B.2 J)))
theorem tw_j1 {g h : Int} {x y c z : List Int} {q : Int} (dx : drawnC x) (dy : drawnC y) (dc : drawnC c) (dz : drawnC z) (hq : q.natAbs ≤ 100) :
    EV (fun k => laws_FnTwists.j1 k g x y h c z q (twistM h c z q).1 (twistM h c z q).2 (twmM g x).1 (formOfM g x y) false) true := by
  refine EV.step (fun k => by rw [laws_FnTwists.j1]) ?_
  refine EV.neg (by simp) ?_
  by_cases ok : (twistM h c z q).2 = true
  · exact EV.pos ok (tw_j2 dx dy dc dz hq _ (fun h => ⟨ok, by have := of_decide_eq_true h; omega⟩))
  · exact EV.neg ok (tw_j2 dx dy dc dz hq false (fun h => by cases h))
theorem form_anti (g : Int) (x y : List Int) : formOfM g x y = - formOfM g y x := by
  unfold formOfM
  by_cases h1 : classB g x = true
  · by_cases h2 : classB g y = true
    · have a := class_of h1
      have b := class_of h2
      rw [if_pos ⟨h1, h2⟩, if_pos ⟨h2, h1⟩, formM_anti x y (by omega)]
    · rw [if_neg (fun h => h2 h.2), if_neg (fun h => h2 h.1)]; rfl
  · rw [if_neg (fun h => h1 h.1), if_neg (fun h => h1 h.2)]; rfl
theorem form_bd (g : Int) (x y : List Int) : (formOfM g x y).natAbs ≤ 6000000 := by
  unfold formOfM
  split
  · rename_i h; exact form_class h.1 h.2
  · decide
theorem tw_j0 {g h : Int} {x y c z : List Int} {q : Int} (dx : drawnC x) (dy : drawnC y) (dc : drawnC c) (dz : drawnC z) (hq : q.natAbs ≤ 100) :
    EV (fun k => laws_FnTwists.j0 k g x y h c z q (twistM h c z q).1 (twistM h c z q).2 (twmM g x).1 (twmM g x).2 (formOfM g x y) false) true := by
  have sz := twmM_sz g x
  have J := tw_j1 (g := g) (h := h) dx dy dc dz hq
  have fb := form_bd g y x
  refine EV.step (fun k => by rw [laws_FnTwists.j0]) ?_
  refine EV.neg (by simp) (EV.bind (impl_FormOf_is g y x (drawn_len dy) (drawn_len dx)) ?_)
  rw [w64 (x := - formOfM g y x) (by omega) (by omega)]
  refine EV.pos (form_anti g x y) ?_
  by_cases ok : (twmM g x).2 = true
  · refine EV.pos ok (EV.bind (impl_IsSymplectic_is g (twmM g x).1 (by omega) (fun r hr => by have := sz.2 r hr; omega)) ?_)
    rw [sym_tw ok]; exact J
  · exact EV.neg ok J
theorem FnTwists_ev (b : List Int) (hb : b.length ≤ 140737488351232) : EV (fun k => laws_FnTwists.f k b) true := by
  by_cases h : (b.length : Int) > 1048576
  · refine EV.by (show laws_big.f b = some true by unfold laws_big.f; rw [decide_eq_true h]) ?_
    exact EV.pos rfl (EV.now _)
  · have hl : b.length ≤ 1048576 := by omega
    obtain ⟨g, x, y, E, g0, g4, dx, dy⟩ := spec_l11Two_is b hl
    obtain ⟨h0, E0⟩ := spec_l1New_is b hl
    obtain ⟨q, i1, h1, e1, m1, p1⟩ := spec_l1PickInt_is b 0 h0 [1, (-1), 2, 0, 20, 21, (-20)] hl (by omega) (by decide) (by decide)
    obtain ⟨t, Et, st⟩ := spec_DrawIsSymplectic_is b hl E dx dy
    have hq : q.natAbs ≤ 100 := by simp only [List.mem_cons, List.not_mem_nil, or_false] at m1; omega
    have lx := drawn_len dx
    have ly := drawn_len dy
    have x6 := dx.2.1
    have y6 := dy.2.1
    have sx : szT (twmM g x).1 := twmM_sz g x
    have sy : szT (twmM g y).1 := twmM_sz g y
    have s1 := sx.1
    have s2 := sy.1
    have rx : ∀ r ∈ (twmM g x).1, r.length ≤ 6 := sx.2
    have ry : ∀ r ∈ (twmM g y).1, r.length ≤ 6 := sy.2
    have lt := twistM_len g x y q y6 x6
    have la := applyM_len (twmM g x).1 y
    have sz := timesM_sz (twmM g x).1 (twmM g y).1
    have gw : (Lit.int .i64 g).wf = true := by simp [Lit.wf, IntKind.min, IntKind.max, IntKind.signed, IntKind.bits]; omega
    refine EV.by (laws_big_no b h) (EV.neg (by simp) ?_)
    refine EV.bind (EV.bind E (EV.now _)) ?_
    refine EV.bind (EV.bind E (EV.bind E0 (EV.by e1 (EV.now _)))) ?_
    refine EV.bind (impl_TwistClass_is g x y q lx ly) (EV.bind (spec_TwistClass_is g x y q lx ly) ?_)
    refine EV.bind (impl_TwistMatrix_is g x lx) (EV.bind (spec_TwistMatrix_is g x lx) ?_)
    refine EV.bind (EV.bind E (EV.bind (spec_TwistMatrix_is g x lx) (EV.now _))) ?_
    refine EV.bind (impl_ApplyTable_is (twmM g x).1 y (fun r hr => by have := rx r hr; omega) (by omega)) (EV.bind (spec_ApplyTable_is (twmM g x).1 y (by omega) (fun r hr => by have := rx r hr; omega) (by omega)) ?_)
    refine EV.bind (EV.bind E (EV.bind (spec_TwistMatrix_is g x lx) (EV.bind (spec_TwistMatrix_is g y ly) (EV.now _)))) ?_
    refine EV.bind (impl_TimesTable_is (twmM g x).1 (twmM g y).1 (by omega) (fun r hr => by have := rx r hr; omega) (fun r hr => by have := ry r hr; omega)) ?_
    refine EV.bind (spec_TimesTable_is (twmM g x).1 (twmM g y).1 (by omega) (by omega) (fun r hr => by have := rx r hr; omega) (fun r hr => by have := ry r hr; omega)) ?_
    refine EV.bind Et (EV.bind (impl_FormOf_is g x y lx ly) ?_)
    refine EV.neg (by simp) (EV.bind (laws_sameInts_self _ (by omega)) (EV.pos rfl ?_))
    refine EV.neg (by simp) (EV.bind (laws_sameLists_self _ (by omega) (fun r hr => by have := rx r hr; omega)) (EV.pos rfl ?_))
    refine EV.neg (by simp) (EV.bind (laws_sameInts_self _ (by omega)) (EV.pos rfl ?_))
    refine EV.neg (by simp) (EV.bind (laws_sameLists_self _ (by omega) (fun r hr => by have := sz.2 r hr; omega)) (EV.pos rfl ?_))
    refine EV.bind (impl_IsSymplectic_is g t (by have := st.1; omega) (fun r hr => by have := st.2 r hr; omega)) (EV.bind (spec_IsSymplectic_is g t gw (by have := st.1; omega) (fun r hr => by have := st.2 r hr; omega)) (EV.neg (by simp) ?_))
    refine EV.bind (spec_FormOf_is g x y lx ly) (EV.pos rfl ?_)
    refine EV.bind (impl_IsClass_is g x (by omega)) (EV.bind (spec_IsClass_is g x (by omega)) (EV.neg (by simp) ?_))
    refine EV.bind (impl_IsPrimitiveClass_is g x (by omega)) (EV.bind (spec_IsPrimitiveClass_is g x (by omega)) (EV.neg (by simp) ?_))
    refine EV.bind (impl_BraidHolds_is g x y lx ly) (EV.bind (spec_BraidHolds_is g x y lx ly) (EV.neg (by simp) ?_))
    refine EV.bind (impl_CommuteHolds_is g x y lx ly) (EV.bind (spec_CommuteHolds_is g x y lx ly) ?_)
    rw [show (commM g x y != commM g x y) = false by simp]
    exact tw_j0 dx dy dx dy hq
theorem FnTwists : laws_FnTwists.Pure := by
  intro b h1 h2 h3
  exact EV.rounds (FnTwists_ev b (by omega))

end Go.Proofs.Ytimjefomgaaegaa.Pure
