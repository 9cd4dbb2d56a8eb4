/- Pure side of FnGraphs: graphs, rotations and genera hang together: the printed law answers true at every code; no condition beyond the printed statement's bounds. -/
import Derived.Test.YtafpbabiahjjaaaGreatDoorPFnGraphsx0
import Derived.Test.YtafpbabiahjjaaaGreatDoorPFnGraphsx1
import Derived.Test.YtafpbabiahjjaaaGreatDoorPFnGraphsx2
import Derived.Test.YtafpbabiahjjaaaGreatDoorPFnGraphsx3
import Derived.Test.YtafpbabiahjjaaaGreatDoorPFnGraphsx4
import Derived.Test.YtafpbabiahjjaaaGreatDoorPFnGraphsx5
import Derived.Test.YtafpbabiahjjaaaGreatDoorPFnGraphsx9
import Derived.Test.YtafpbabiahjjaaaGreatDoorPFnGraphsx10
import Derived.Test.YtafpbabiahjjaaaGreatDoorPFnGraphsx11
import Derived.Test.YtafpbabiahjjaaaGreatDoorPFnGraphsx12
import Derived.Test.YtafpbabiahjjaaaGreatDoorPFnGraphsx13
import Derived.Test.YtafpbabiahjjaaaGreatDoorPFnGraphsx14
import Derived.Test.YtafpbabiahjjaaaGreatDoorPFnGraphsx17
import Derived.Test.YtafpbabiahjjaaaGreatDoorPFnGraphsx18
import Derived.Test.YtafpbabiahjjaaaGreatDoorPFnGraphsx19
import Derived.Test.YtafpbabiahjjaaaGreatDoorPFnGraphsx20
import Derived.Test.YtafpbabiahjjaaaGreatDoorWSized
set_option linter.unusedVariables false
set_option linter.unusedSimpArgs false
set_option linter.unnecessarySimpa false
set_option maxRecDepth 10000
/-- the printed row calls the print's word by this name -/
abbrev Go.Proofs.YtafpbabiahjjaaaGreatDoor.PrintWords.sized_ints := @Go.Proofs.YtafpbabiahjjaaaGreatDoorW.PrintWords.sized_ints
namespace Go.Proofs.YtafpbabiahjjaaaGreatDoor.Pure
open Go.RowKit Go.Proofs.YtafpbabiahjjaaaGreatDoor.PFnGraphs Go.Proofs.YtafpbabiahjjaaaGreatDoorW.PrintWords Go.Proofs.YtafpbabiahjjaaaGreatDoorW.PrintLast Go.Proofs.YtafpbabiahjjaaaGreatDoorW.PrintMore

/-! ### Base: words of our own, of no program -/
section
theorem w64 {x : Int} (h1 : -9223372036854775808 ≤ x) (h2 : x ≤ 9223372036854775807) : wrap64 x = x := by
  unfold wrap64; omega
/-- from some number of rounds on it answers r -/
structure EV {α : Type} (g : Nat → Option α) (r : α) : Prop where mk :: (out : ∃ K, ∀ k, K ≤ k → g k = some r)
theorem EV.now {α : Type} (r : α) : EV (fun _ => some r) r := ⟨0, fun _ _ => rfl⟩
theorem EV.rounds {α : Type} {g : Nat → Option α} {r : α} (h : EV g r) : ∃ k, g k = some r := by
  obtain ⟨K, h⟩ := h
  exact ⟨K, h K (Nat.le_refl _)⟩
theorem EV.bind {α β : Type} {g : Nat → Option α} {f : Nat → α → Option β} {a : α} {r : β} (h : EV g a) (k : EV (fun n => f n a) r) : EV (fun n => (g n).bind (f n)) r := by
  obtain ⟨K, h⟩ := h
  obtain ⟨K', k⟩ := k
  refine ⟨max K K', fun n hn => ?_⟩
  have h1 := h n (by omega)
  have h2 := k n (by omega)
  simp only [h1, Option.bind_some]
  exact h2
theorem EV.step {α : Type} {g f : Nat → Option α} {r : α} (h : ∀ k, g (k + 1) = f k) (k : EV f r) : EV g r := by
  obtain ⟨K, k⟩ := k
  refine ⟨K + 1, fun n hn => ?_⟩
  obtain ⟨m, rfl⟩ : ∃ m, n = m + 1 := ⟨n - 1, by omega⟩
  rw [h]
  exact k m (by omega)
theorem EV.congr {α : Type} {g f : Nat → Option α} {r : α} (h : ∀ k, g k = f k) (k : EV f r) : EV g r := by
  obtain ⟨K, k⟩ := k
  exact ⟨K, fun n hn => (h n).trans (k n hn)⟩
theorem EV.pos {α : Type} {c : Prop} [Decidable c] {a b : Nat → Option α} {r : α} (h : c) (k : EV a r) : EV (fun n => if c then a n else b n) r :=
  EV.congr (fun n => if_pos h) k
theorem EV.neg {α : Type} {c : Prop} [Decidable c] {a b : Nat → Option α} {r : α} (h : ¬ c) (k : EV b r) : EV (fun n => if c then a n else b n) r :=
  EV.congr (fun n => if_neg h) k
theorem EV.cases {α : Type} {c : Prop} [Decidable c] {a b : Nat → Option α} {r : α} (h : c → EV a r) (h' : ¬ c → EV b r) : EV (fun n => if c then a n else b n) r := by
  by_cases hc : c
  · exact EV.pos hc (h hc)
  · exact EV.neg hc (h' hc)
/-- a callee without rounds -/
theorem EV.by {α β : Type} {g : Option α} {f : Nat → α → Option β} {a : α} {r : β} (h : g = some a) (k : EV (fun n => f n a) r) : EV (fun n => g.bind (f n)) r := by
  subst h; exact k
theorem EV.eq {α : Type} {g : Nat → Option α} {r r' : α} (h : EV g r) (e : r = r') : EV g r' := e ▸ h
theorem rd_app (pre : List Int) (x : Int) (suf : List Int) : rd (pre ++ x :: suf) (pre.length : Int) = x := by
  simp [rd]
theorem rd_nat (xs : List Int) (i : Nat) (h : i < xs.length) : rd xs (i : Int) = xs[i] := by
  simp [rd, h]
theorem set_app {α : Type} (pre : List α) (x y : α) (suf : List α) (n : Nat) (hn : n = pre.length) : (pre ++ x :: suf).set n y = pre ++ y :: suf := by
  subst hn; simp
end
/-- one index on -/
theorem up {α : Type} {x : α} {pre : List α} (h : pre.length < 4611686018427387904) : wrap64 ((pre.length : Int) + 1) = ((pre ++ [x]).length : Int) := by
  rw [w64 (by omega) (by omega)]; simp
theorem lt_app {α : Type} (pre : List α) (x : α) (suf : List α) : (pre.length : Int) < ((pre ++ x :: suf).length : Int) := by simp; omega
theorem EV.uniq {α : Type} {g : Nat → Option α} {r r' : α} (h : EV g r) (h' : EV g r') : r = r' := by
  obtain ⟨K, h⟩ := h
  obtain ⟨K', h'⟩ := h'
  have a := h (max K K') (by omega)
  have b := h' (max K K') (by omega)
  rw [a] at b; exact Option.some.inj b
/-- from some number of rounds on -/
def Evt (P : Nat → Prop) : Prop := ∃ K, ∀ k, K ≤ k → P k
theorem Evt.and {P Q : Nat → Prop} (h : Evt P) (h' : Evt Q) : Evt (fun k => P k ∧ Q k) := by
  obtain ⟨K, h⟩ := h
  obtain ⟨K', h'⟩ := h'
  exact ⟨max K K', fun k hk => ⟨h k (by omega), h' k (by omega)⟩⟩
theorem Evt.imp {P Q : Nat → Prop} (h : Evt P) (f : ∀ k, P k → Q k) : Evt Q := by
  obtain ⟨K, h⟩ := h
  exact ⟨K, fun k hk => f k (h k hk)⟩
theorem Evt.rounds {P : Nat → Prop} (h : Evt P) : ∃ k, P k := by
  obtain ⟨K, h⟩ := h
  exact ⟨K, h K (Nat.le_refl _)⟩
theorem EV.mono {α : Type} {g : Nat → Option α} (hg : ∀ k, LeO (g k) (g (k + 1))) {k : Nat} {r : α} (h : g k = some r) : EV g r := ⟨k, fun _ hk => at_rounds hg hk h⟩

/-! ### classes of an equivalence over the numbers below n -/
/-- the least equivalence over a relation -/
inductive Con (g : Nat → Nat → Prop) : Nat → Nat → Prop
  | rel {a b : Nat} : g a b → Con g a b
  | refl (a : Nat) : Con g a a
  | symm {a b : Nat} : Con g a b → Con g b a
  | trans {a b c : Nat} : Con g a b → Con g b c → Con g a c
structure Eqv (E : Nat → Nat → Prop) : Prop where
  refl : ∀ a, E a a
  symm : ∀ {a b}, E a b → E b a
  trans : ∀ {a b c}, E a b → E b c → E a c
theorem Con.eqv (g : Nat → Nat → Prop) : Eqv (Con g) := ⟨.refl, .symm, .trans⟩
theorem Con.least {g E : Nat → Nat → Prop} (hE : Eqv E) (h : ∀ a b, g a b → E a b) {a b : Nat} (hc : Con g a b) : E a b := by
  induction hc with
  | rel h1 => exact h _ _ h1
  | refl a => exact hE.refl a
  | symm _ ih => exact hE.symm ih
  | trans _ _ ih1 ih2 => exact hE.trans ih1 ih2
theorem Con.mono {g g' : Nat → Nat → Prop} (h : ∀ a b, g a b → Con g' a b) {a b : Nat} (hc : Con g a b) : Con g' a b := Con.least (Con.eqv g') h hc
/-- two classes made one -/
def jn (E : Nat → Nat → Prop) (a b : Nat) (x y : Nat) : Prop := E x y ∨ (E x a ∧ E b y) ∨ (E x b ∧ E a y)
theorem jn_eqv {E : Nat → Nat → Prop} (hE : Eqv E) (a b : Nat) : Eqv (jn E a b) where
  refl := fun x => .inl (hE.refl x)
  symm := by
    rintro x y (h | ⟨h1, h2⟩ | ⟨h1, h2⟩)
    · exact .inl (hE.symm h)
    · exact .inr (.inr ⟨hE.symm h2, hE.symm h1⟩)
    · exact .inr (.inl ⟨hE.symm h2, hE.symm h1⟩)
  trans := by
    rintro x y z (h | ⟨h1, h2⟩ | ⟨h1, h2⟩) (k | ⟨k1, k2⟩ | ⟨k1, k2⟩)
    · exact .inl (hE.trans h k)
    · exact .inr (.inl ⟨hE.trans h k1, k2⟩)
    · exact .inr (.inr ⟨hE.trans h k1, k2⟩)
    · exact .inr (.inl ⟨h1, hE.trans h2 k⟩)
    · exact .inr (.inl ⟨h1, k2⟩)
    · exact .inl (hE.trans h1 k2)
    · exact .inr (.inr ⟨h1, hE.trans h2 k⟩)
    · exact .inl (hE.trans h1 k2)
    · exact .inr (.inr ⟨h1, k2⟩)
theorem countP_add_one {P Q : Nat → Bool} {x : Nat} : ∀ {l : List Nat}, l.Nodup → (∀ d ∈ l, P d = true → Q d = true ∨ d = x) → l.countP P ≤ l.countP Q + 1
  | [], _, _ => by simp
  | d :: r, hn, h => by
    obtain ⟨hd, hr⟩ := List.nodup_cons.1 hn
    have hr' : ∀ e ∈ r, P e = true → Q e = true ∨ e = x := fun e he => h e (List.mem_cons_of_mem _ he)
    by_cases hp : P d = true
    · rw [List.countP_cons_of_pos hp]
      rcases h d List.mem_cons_self hp with hq | rfl
      · rw [List.countP_cons_of_pos hq]
        have := countP_add_one hr hr'
        omega
      · have : r.countP P ≤ r.countP Q := List.countP_mono_left fun e he hpe => by
          rcases hr' e he hpe with h1 | rfl
          · exact h1
          · exact absurd he hd
        have : r.countP Q ≤ (d :: r).countP Q := by rw [List.countP_cons]; omega
        omega
    · rw [List.countP_cons_of_neg hp]
      have h1 := countP_add_one hr hr'
      have : r.countP Q ≤ (d :: r).countP Q := by rw [List.countP_cons]; omega
      omega
theorem countP_lt_one {P Q : Nat → Bool} {x : Nat} : ∀ {l : List Nat}, (∀ d ∈ l, Q d = true → P d = true) → x ∈ l → P x = true → Q x = false → l.countP Q + 1 ≤ l.countP P
  | [], _, h, _, _ => by cases h
  | d :: r, h, hx, hp, hq => by
    have hr : ∀ e ∈ r, Q e = true → P e = true := fun e he => h e (List.mem_cons_of_mem _ he)
    rcases List.mem_cons.1 hx with rfl | hx
    · rw [List.countP_cons_of_pos hp, List.countP_cons_of_neg (by simp [hq])]
      have := List.countP_mono_left hr
      omega
    · have h1 := countP_lt_one hr hx hp hq
      rw [List.countP_cons, List.countP_cons]
      by_cases hd : Q d = true
      · rw [if_pos hd, if_pos (h d List.mem_cons_self hd)]; omega
      · rw [if_neg hd]; omega
open Classical in
/-- how many classes there are: the numbers that are the least of their class -/
noncomputable def cls (n : Nat) (E : Nat → Nat → Prop) : Nat := (List.range n).countP fun d => decide (∀ e, e < d → ¬ E e d)
open Classical in
theorem cls_mono {n : Nat} {E E' : Nat → Nat → Prop} (h : ∀ x y, E x y → E' x y) : cls n E' ≤ cls n E := by
  refine List.countP_mono_left fun d _ hd => ?_
  simp only [decide_eq_true_eq] at hd ⊢
  exact fun e he hE => hd e he (h e d hE)
theorem cls_congr {n : Nat} {E E' : Nat → Nat → Prop} (h : ∀ x y, E x y ↔ E' x y) : cls n E = cls n E' :=
  Nat.le_antisymm (cls_mono fun x y q => (h x y).2 q) (cls_mono fun x y q => (h x y).1 q)
theorem least_of {E : Nat → Nat → Prop} (hE : Eqv E) (a : Nat) : ∃ A, A ≤ a ∧ E A a ∧ ∀ e, e < A → ¬ E e a := by
  induction a using Nat.strongRecOn with
  | ind a _ =>
    have : ∀ k, (∃ A, A ≤ a ∧ E A a ∧ ∀ e, e < A → ¬ E e a) ∨ ∀ e, e < k → ¬ E e a := by
      intro k
      induction k with
      | zero => exact .inr fun e he => absurd he (by omega)
      | succ k ih =>
        rcases ih with h | h
        · exact .inl h
        · by_cases hk : E k a
          · by_cases hka : k ≤ a
            · exact .inl ⟨k, hka, hk, h⟩
            · exact absurd (hE.refl a) (h a (by omega))
          · exact .inr fun e he => by
              by_cases e1 : e = k
              · subst e1; exact hk
              · exact h e (by omega)
    rcases this (a + 1) with h | h
    · exact h
    · exact absurd (hE.refl a) (h a (by omega))
open Classical in
theorem cls_jn_le {n : Nat} {E : Nat → Nat → Prop} (hE : Eqv E) (a b : Nat) : cls n E ≤ cls n (jn E a b) + 1 := by
  obtain ⟨A, _, A2, A3⟩ := least_of hE a
  obtain ⟨B, _, B2, B3⟩ := least_of hE b
  refine countP_add_one (x := max A B) List.nodup_range fun d _ hd => ?_
  simp only [decide_eq_true_eq] at hd ⊢
  by_cases h : ∀ e, e < d → ¬ jn E a b e d
  · exact .inl h
  · right
    obtain ⟨e, he⟩ := Classical.not_forall.1 h
    obtain ⟨he, hj⟩ := Classical.not_imp.1 he
    have hj := Classical.not_not.1 hj
    rcases hj with h1 | ⟨h1, h2⟩ | ⟨h1, h2⟩
    · exact absurd h1 (hd e he)
    · have hB : d = B := by
        rcases Nat.lt_trichotomy d B with h3 | h3 | h3
        · exact absurd (hE.symm h2) (B3 d h3)
        · exact h3
        · exact absurd (hE.trans B2 h2) (hd B h3)
      have : A ≤ e := by
        rcases Nat.lt_or_ge e A with h3 | h3
        · exact absurd h1 (A3 e h3)
        · exact h3
      omega
    · have hA : d = A := by
        rcases Nat.lt_trichotomy d A with h3 | h3 | h3
        · exact absurd (hE.symm h2) (A3 d h3)
        · exact h3
        · exact absurd (hE.trans A2 h2) (hd A h3)
      have : B ≤ e := by
        rcases Nat.lt_or_ge e B with h3 | h3
        · exact absurd h1 (B3 e h3)
        · exact h3
      omega
open Classical in
theorem cls_jn_lt {n : Nat} {E : Nat → Nat → Prop} (hE : Eqv E) {a b : Nat} (ha : a < n) (hb : b < n) (hab : ¬ E a b) : cls n (jn E a b) + 1 ≤ cls n E := by
  obtain ⟨A, A1, A2, A3⟩ := least_of hE a
  obtain ⟨B, B1, B2, B3⟩ := least_of hE b
  have hne : A ≠ B := fun e => hab (hE.trans (hE.symm A2) (e ▸ B2))
  refine countP_lt_one (x := max A B) (fun d _ hd => ?_) (List.mem_range.2 (by omega)) ?_ ?_
  · simp only [decide_eq_true_eq] at hd ⊢
    exact fun e he h => hd e he (.inl h)
  · simp only [decide_eq_true_eq]
    intro e he h
    rcases Nat.le_total A B with h1 | h1
    · rw [Nat.max_eq_right h1] at he h
      exact B3 e he (hE.trans h B2)
    · rw [Nat.max_eq_left h1] at he h
      exact A3 e he (hE.trans h A2)
  · simp only [decide_eq_false_iff_not]
    intro h
    rcases Nat.le_total A B with h1 | h1
    · rw [Nat.max_eq_right h1] at h
      exact h A (by omega) (.inr (.inl ⟨A2, hE.symm B2⟩))
    · rw [Nat.max_eq_left h1] at h
      exact h B (by omega) (.inr (.inr ⟨B2, hE.symm A2⟩))
theorem cls_jn {n : Nat} {E : Nat → Nat → Prop} (hE : Eqv E) {a b : Nat} (ha : a < n) (hb : b < n) (hab : ¬ E a b) : cls n (jn E a b) + 1 = cls n E :=
  Nat.le_antisymm (cls_jn_lt hE ha hb hab) (cls_jn_le hE a b)

theorem rdL_app (pre : List (List Int)) (x : List Int) (suf : List (List Int)) : rd_L2 (pre ++ x :: suf) (pre.length : Int) = x := by
  simp [rd_L2]
theorem rdL_nat (xs : List (List Int)) (i : Nat) (h : i < xs.length) : rd_L2 xs (i : Int) = xs[i] := by
  simp [rd_L2, h]

/-- a loop that looks at each member and answers early, or goes on -/
theorem EV.scan {α : Type} {g : Nat → Int → Option Bool} (xs : List α) (p : α → Bool) (fin : Bool)
    (hs : ∀ (i : Nat) (h : i < xs.length) (r : Bool), (p xs[i] = true → EV (fun k => g k ((i : Int) + 1)) r) → (p xs[i] = false → r = false) → EV (fun k => g k (i : Int)) r)
    (hf : EV (fun k => g k (xs.length : Int)) fin) : EV (fun k => g k 0) (xs.all p && fin) := by
  suffices h : ∀ (n i : Nat), i + n = xs.length → EV (fun k => g k (i : Int)) ((xs.drop i).all p && fin) by
    have := h xs.length 0 (by omega)
    simpa using this
  intro n
  induction n with
  | zero =>
    intro i hi
    have e : i = xs.length := by omega
    subst e
    simpa using hf
  | succ n ih =>
    intro i hi
    have hlt : i < xs.length := by omega
    have e : xs.drop i = xs[i] :: xs.drop (i + 1) := List.drop_eq_getElem_cons hlt
    rw [e, List.all_cons]
    refine hs i hlt _ (fun hp => ?_) (fun hp => by simp [hp])
    rw [hp, Bool.true_and]
    exact_mod_cast ih (i + 1) (by omega)
/-- counting up to n, the state told by the count -/
theorem EV.count {σ ρ : Type} {g : Nat → σ → Int → Option ρ} (n : Nat) (f : Nat → σ) (r : ρ)
    (hs : ∀ i, i < n → EV (fun k => g k (f (i + 1)) ((i : Int) + 1)) r → EV (fun k => g k (f i) (i : Int)) r)
    (hf : EV (fun k => g k (f n) (n : Int)) r) : EV (fun k => g k (f 0) 0) r := by
  suffices h : ∀ (m i : Nat), i + m = n → EV (fun k => g k (f i) (i : Int)) r by exact h n 0 (by omega)
  intro m
  induction m with
  | zero => intro i hi; have : i = n := by omega
            subst this; exact hf
  | succ m ih => intro i hi; exact hs i (by omega) (by exact_mod_cast ih (i + 1) (by omega))
theorem wrap_01 : wrap64 ((0 : Int) + 1) = 1 := by rw [w64 (by omega) (by omega)]; rfl
theorem wrap_11 : wrap64 ((1 : Int) + 1) = 2 := by rw [w64 (by omega) (by omega)]; rfl
theorem wrap_1 : wrap64 1 = 1 := w64 (by omega) (by omega)
/-- a table, changed at one place -/
theorem tab_set {α : Type} (n : Nat) (f : Nat → α) (a : Nat) (y : α) : ((List.range n).map f).set a y = (List.range n).map fun v => if v = a then y else f v := by
  apply List.ext_getElem
  · simp
  · intro i h1 h2
    rw [List.getElem_set]
    simp only [List.getElem_map, List.getElem_range]
    by_cases h : a = i
    · rw [if_pos h, if_pos h.symm]
    · rw [if_neg h, if_neg (fun e => h e.symm)]
theorem rd_tab (n : Nat) (f : Nat → Int) (a : Int) (h0 : 0 ≤ a) (h : a < n) : rd ((List.range n).map f) a = f a.toNat := by
  have : a.toNat < n := by omega
  simp [rd, this]

def inB (n : Nat) (x : Int) : Bool := decide (0 ≤ x ∧ x < n)
def permB (p : List Int) : Bool := p.all (inB p.length) && decide p.Nodup
def seenM (n : Nat) (pre : List Int) : List Bool := (List.range n).map fun i : Nat => decide ((i : Int) ∈ pre)
theorem rdOf_tab {α : Type} (d : α) (n : Nat) (f : Nat → α) (a : Int) (h0 : 0 ≤ a) (h : a < n) : rdOf d ((List.range n).map f) a = f a.toNat := by
  have : a.toNat < n := by omega
  simp [rdOf, this]
theorem seenM_snoc (n : Nat) (pre : List Int) (x : Int) (h0 : 0 ≤ x) : (seenM n pre).set x.toNat true = seenM n (pre ++ [x]) := by
  unfold seenM
  rw [tab_set]
  apply List.map_congr_left
  intro i hi
  by_cases h : i = x.toNat
  · rw [if_pos h, decide_eq_true]; rw [List.mem_append, List.mem_singleton]; right; omega
  · rw [if_neg h]
    congr 1
    rw [List.mem_append, List.mem_singleton]
    have : ¬ (i : Int) = x := by omega
    simp [this]
theorem seenM_nil (n : Nat) : seenM n [] = List.replicate n false := by
  apply List.ext_getElem
  · simp [seenM]
  · intro i h1 h2
    simp [seenM]
theorem inB_of {n : Nat} {x : Int} (h : inB n x = true) : 0 ≤ x ∧ x < n := by simpa [inB] using h
theorem permB_of {p : List Int} (h : permB p = true) : (∀ x ∈ p, 0 ≤ x ∧ x < p.length) ∧ p.Nodup := by
  simp only [permB, Bool.and_eq_true, List.all_eq_true, decide_eq_true_iff] at h
  exact ⟨fun x hx => inB_of (h.1 x hx), h.2⟩
/-- how many sheets -/
def d0 (l : List (List Int)) : Nat := (l.getD 0 []).length
def idM (n : Nat) : List Int := (List.range n).map fun i : Nat => (i : Int)
theorem rd_getD (q : List Int) (s : Int) : rd q s = q.getD s.toNat 0 := rfl

def mateN (i : Nat) : Int := if i % 2 = 0 then (i : Int) + 1 else (i : Int) - 1
def isMapB (w : List Int) : Bool := decide (2 ≤ w.length ∧ w.length ≤ 24) && (decide (w.length % 2 = 0) && permB w)
/-! ### a forest of numbers: roots, joins, how many -/
/-- x leads to the root r in h steps -/
inductive Rt (n : Nat) (up : List Int) : Nat → Nat → Nat → Prop
  | root {r : Nat} : r < n → up.getD r 0 = (r : Int) → Rt n up 0 r r
  | step {h x y r : Nat} : x < n → up.getD x 0 = (y : Int) → y ≠ x → Rt n up h y r → Rt n up (h + 1) x r
theorem Rt.top {n : Nat} {up : List Int} {h x r : Nat} (H : Rt n up h x r) : x < n ∧ r < n ∧ up.getD r 0 = (r : Int) := by
  induction H with
  | root h1 h2 => exact ⟨h1, h1, h2⟩
  | step h1 _ _ _ ih => exact ⟨h1, ih.2⟩
theorem Rt.uniq {n : Nat} {up : List Int} {h x r : Nat} (H : Rt n up h x r) : ∀ {h' r' : Nat}, Rt n up h' x r' → r = r' := by
  induction H with
  | root h1 h2 =>
    intro h' r' H'
    cases H' with
    | root _ _ => rfl
    | step _ k2 k3 _ => rw [h2] at k2; exact absurd (by omega) k3
  | step h1 h2 h3 _ ih =>
    intro h' r' H'
    cases H' with
    | root _ k2 => rw [h2] at k2; exact absurd (by omega) h3
    | step _ k2 _ k4 =>
      rw [h2] at k2
      have : ∀ {a b : Nat}, (a : Int) = (b : Int) → a = b := fun h => by omega
      have e := this k2
      subst e
      exact ih k4
structure Forest (n : Nat) (up : List Int) (E : Nat → Nat → Prop) : Prop where
  len : up.length = n
  eqv : Eqv E
  rt : ∀ x, x < n → ∃ h r, Rt n up h x r
  same : ∀ {x y r s h h' : Nat}, Rt n up h x r → Rt n up h' y s → (r = s ↔ E x y)
  count : ((List.range n).countP fun d : Nat => decide (up.getD d 0 = (d : Int))) = cls n E
theorem getD_set (up : List Int) (A : Nat) (v : Int) (x : Nat) (h : A < up.length) : (up.set A v).getD x 0 = if x = A then v else up.getD x 0 := by
  simp only [List.getD_eq_getElem?_getD, List.getElem?_set]
  by_cases e : A = x
  · subst e; simp [h]
  · have : ¬ x = A := fun h => e h.symm
    simp [e, this]
theorem set_self' (up : List Int) (A : Nat) (h : up.getD A 0 = (A : Int)) (hl : A < up.length) : up.set A (A : Int) = up := by
  apply List.ext_getElem?
  intro i
  rw [List.getElem?_set]
  by_cases e : A = i
  · subst e
    rw [List.getD_eq_getElem?_getD, List.getElem?_eq_getElem hl, Option.getD_some] at h
    simp [hl, h]
  · simp [e]
theorem Rt.other {n : Nat} {up : List Int} {A B : Nat} (hA : up.getD A 0 = (A : Int)) (hl : A < up.length) {h x r : Nat} (H : Rt n up h x r) (hr : r ≠ A) : Rt n (up.set A (B : Int)) h x r := by
  induction H with
  | root h1 h2 => exact .root h1 (by rw [getD_set _ _ _ _ hl, if_neg hr]; exact h2)
  | step h1 h2 h3 _ ih =>
    refine .step h1 ?_ h3 (ih hr)
    rw [getD_set _ _ _ _ hl, if_neg (fun e => ?_)]
    · exact h2
    · subst e; rw [hA] at h2; omega
theorem Rt.moved {n : Nat} {up : List Int} {A B : Nat} (hA : up.getD A 0 = (A : Int)) (hl : A < up.length) (hAB : B ≠ A) (hB : B < n) (hBr : up.getD B 0 = (B : Int)) {h x r : Nat} (H : Rt n up h x r) (hr : r = A) : Rt n (up.set A (B : Int)) (h + 1) x B := by
  induction H with
  | root h1 h2 =>
    subst hr
    refine .step h1 (y := B) (by rw [getD_set _ _ _ _ hl, if_pos rfl]) hAB (.root hB ?_)
    rw [getD_set _ _ _ _ hl, if_neg hAB]; exact hBr
  | step h1 h2 h3 _ ih =>
    refine .step h1 ?_ h3 (ih hr)
    rw [getD_set _ _ _ _ hl, if_neg (fun e => ?_)]
    · exact h2
    · subst e; rw [hA] at h2; omega
theorem jn_same {E : Nat → Nat → Prop} (hE : Eqv E) {a b : Nat} (h : E a b) : jn E a b = E := by
  funext x; funext y
  refine propext ⟨?_, .inl⟩
  rintro (h1 | ⟨h1, h2⟩ | ⟨h1, h2⟩)
  · exact h1
  · exact hE.trans h1 (hE.trans h h2)
  · exact hE.trans h1 (hE.trans (hE.symm h) h2)
theorem jn_symm (E : Nat → Nat → Prop) (a b : Nat) : jn E a b = jn E b a := by
  funext x; funext y
  unfold jn
  exact propext ⟨fun h => h.elim .inl fun h => h.elim (fun h => .inr (.inr h)) (fun h => .inr (.inl h)), fun h => h.elim .inl fun h => h.elim (fun h => .inr (.inr h)) (fun h => .inr (.inl h))⟩
theorem Forest.join {n : Nat} {up : List Int} {E : Nat → Nat → Prop} (F : Forest n up E) {a b A B ha hb : Nat} (HA : Rt n up ha a A) (HB : Rt n up hb b B) : Forest n (up.set A (B : Int)) (jn E a b) := by
  have ta := HA.top
  have tb := HB.top
  have hl := F.len
  have hlA : A < up.length := by omega
  by_cases hAB : A = B
  · subst hAB
    rw [jn_same F.eqv ((F.same HA HB).1 rfl), set_self' _ _ ta.2.2 hlA]
    exact F
  · have ne : B ≠ A := fun e => hAB e.symm
    have hE : ¬ E a b := fun h => hAB ((F.same HA HB).2 h)
    have new : ∀ {h x r : Nat}, Rt n up h x r → ∃ h', Rt n (up.set A (B : Int)) h' x (if r = A then B else r) := by
      intro h x r H
      by_cases e : r = A
      · rw [if_pos e]; exact ⟨_, H.moved ta.2.2 hlA ne tb.2.1 tb.2.2 e⟩
      · rw [if_neg e]; exact ⟨_, H.other ta.2.2 hlA e⟩
    refine ⟨by rw [List.length_set]; exact hl, jn_eqv F.eqv a b, fun x hx => ?_, fun {x y r s h h'} H H' => ?_, ?_⟩
    · obtain ⟨h, r, H⟩ := F.rt x hx
      obtain ⟨h', H'⟩ := new H
      exact ⟨_, _, H'⟩
    · obtain ⟨h0, r0, H0⟩ := F.rt x H.top.1
      obtain ⟨k0, s0, K0⟩ := F.rt y H'.top.1
      obtain ⟨_, N0⟩ := new H0
      obtain ⟨_, M0⟩ := new K0
      have e1 := H.uniq N0
      have e2 := H'.uniq M0
      have c0 := F.same H0 K0
      have c1 := F.same H0 HA
      have c2 := F.same HB K0
      have c3 := F.same H0 HB
      have c4 := F.same HA K0
      unfold jn
      rw [← c0, ← c1, ← c2, ← c3, ← c4, e1, e2]
      by_cases q1 : r0 = A <;> by_cases q2 : s0 = A
      · rw [if_pos q1, if_pos q2]; omega
      · rw [if_pos q1, if_neg q2]; omega
      · rw [if_neg q1, if_pos q2]; omega
      · rw [if_neg q1, if_neg q2]; omega
    · have c := cls_jn F.eqv ta.1 tb.1 hE
      have hc := F.count
      have u1 : ((List.range n).countP fun d : Nat => decide (up.getD d 0 = (d : Int))) ≤ ((List.range n).countP fun d : Nat => decide ((up.set A (B : Int)).getD d 0 = (d : Int))) + 1 := by
        refine countP_add_one (x := A) List.nodup_range fun d _ hd => ?_
        simp only [decide_eq_true_eq] at hd ⊢
        by_cases e : d = A
        · exact .inr e
        · left; rw [getD_set _ _ _ _ hlA, if_neg e]; exact hd
      have u2 : ((List.range n).countP fun d : Nat => decide ((up.set A (B : Int)).getD d 0 = (d : Int))) + 1 ≤ ((List.range n).countP fun d : Nat => decide (up.getD d 0 = (d : Int))) := by
        refine countP_lt_one (x := A) (fun d _ hd => ?_) (List.mem_range.2 ta.2.1) ?_ ?_
        · simp only [decide_eq_true_eq] at hd ⊢
          rw [getD_set _ _ _ _ hlA] at hd
          by_cases e : d = A
          · rw [if_pos e] at hd; subst e; exact ta.2.2
          · rw [if_neg e] at hd; exact hd
        · simp only [decide_eq_true_eq]; exact ta.2.2
        · simp only [decide_eq_false_iff_not]
          rw [getD_set _ _ _ _ hlA, if_pos rfl]; omega
      omega
theorem idM_getD (n x : Nat) (h : x < n) : (idM n).getD x 0 = (x : Int) := by
  simp [idM, h]
theorem Forest.id (n : Nat) : Forest n (idM n) (fun x y => x = y) := by
  refine ⟨by simp [idM], ⟨fun _ => rfl, fun h => h.symm, fun h k => h.trans k⟩, fun x hx => ⟨0, x, .root hx (idM_getD n x hx)⟩, fun {x y r s h h'} H H' => ?_, ?_⟩
  · have e1 := H.uniq (.root H.top.1 (idM_getD n x H.top.1))
    have e2 := H'.uniq (.root H'.top.1 (idM_getD n y H'.top.1))
    rw [e1, e2]
  · unfold cls
    rw [List.countP_eq_length.2, List.countP_eq_length.2]
    · intro d hd
      simp only [decide_eq_true_eq]
      intro e he hE; omega
    · intro d hd
      simp only [decide_eq_true_eq]
      exact idM_getD n d (List.mem_range.1 hd)
/-- the pairs (d, m d) and (d, mate d) joined, c of them from d on -/
def foldE (m : List Int) : Nat → Nat → (Nat → Nat → Prop) → Nat → Nat → Prop
  | 0, _, E => E
  | c + 1, d, E => foldE m c (d + 1) (jn (jn E d (m.getD d 0).toNat) d (mateN d).toNat)
def stepR (m : List Int) (x y : Nat) : Prop := x < m.length ∧ y = (m.getD x 0).toNat
def mateR (n : Nat) (x y : Nat) : Prop := x < n ∧ y = (mateN x).toNat
theorem jn_of {E : Nat → Nat → Prop} (hE : Eqv E) (a b : Nat) : jn E a b a b := .inr (.inl ⟨hE.refl a, hE.refl b⟩)
theorem jn_least {E E' : Nat → Nat → Prop} (hE : Eqv E') (h : ∀ x y, E x y → E' x y) {a b : Nat} (hab : E' a b) {x y : Nat} (hj : jn E a b x y) : E' x y := by
  rcases hj with h1 | ⟨h1, h2⟩ | ⟨h1, h2⟩
  · exact h _ _ h1
  · exact hE.trans (h _ _ h1) (hE.trans hab (h _ _ h2))
  · exact hE.trans (h _ _ h1) (hE.trans (hE.symm hab) (h _ _ h2))
theorem foldE_low (m : List Int) : ∀ (c d : Nat) (E : Nat → Nat → Prop), Eqv E → (∀ x y, E x y → foldE m c d E x y) ∧ (∀ x, d ≤ x → x < d + c → foldE m c d E x (m.getD x 0).toNat ∧ foldE m c d E x (mateN x).toNat)
  | 0, d, E, _ => ⟨fun _ _ h => h, fun x h1 h2 => by omega⟩
  | c + 1, d, E, hE => by
    have h1 := jn_eqv hE d (m.getD d 0).toNat
    have h2 := jn_eqv h1 d (mateN d).toNat
    have ih := foldE_low m c (d + 1) _ h2
    refine ⟨fun x y h => ih.1 _ _ (.inl (.inl h)), fun x h3 h4 => ?_⟩
    by_cases e : x = d
    · subst e
      exact ⟨ih.1 _ _ (.inl (jn_of hE _ _)), ih.1 _ _ (jn_of h1 _ _)⟩
    · exact ih.2 x (by omega) (by omega)
theorem foldE_up (m : List Int) {E' : Nat → Nat → Prop} (hE' : Eqv E') : ∀ (c d : Nat) (E : Nat → Nat → Prop), (∀ x y, E x y → E' x y) → (∀ x, d ≤ x → x < d + c → E' x (m.getD x 0).toNat ∧ E' x (mateN x).toNat) → ∀ x y, foldE m c d E x y → E' x y
  | 0, d, E, h, _ => h
  | c + 1, d, E, h, hp => by
    have hd := hp d (Nat.le_refl _) (by omega)
    exact foldE_up m hE' c (d + 1) _ (fun x y hj => jn_least hE' (fun x y hj => jn_least hE' h hd.1 hj) hd.2 hj) (fun x h1 h2 => hp x (by omega) (by omega))
/-- the parts of a map: its darts, steps and mates -/
def partR (m : List Int) : Nat → Nat → Prop := Con fun x y => stepR m x y ∨ mateR m.length x y
theorem foldE_is (m : List Int) (x y : Nat) : foldE m m.length 0 (fun x y => x = y) x y ↔ partR m x y := by
  constructor
  · refine foldE_up m (Con.eqv _) m.length 0 _ (fun x y h => h ▸ .refl x) (fun x _ h => ?_) x y
    exact ⟨.rel (.inl ⟨by omega, rfl⟩), .rel (.inr ⟨by omega, rfl⟩)⟩
  · have l := foldE_low m m.length 0 (fun x y => x = y) ⟨fun _ => rfl, fun h => h.symm, fun h k => h.trans k⟩
    have e : ∀ (c d : Nat) (E : Nat → Nat → Prop), Eqv E → Eqv (foldE m c d E) := by
      intro c
      induction c with
      | zero => intro d E h; exact h
      | succ c ih => intro d E h; exact ih _ _ (jn_eqv (jn_eqv h _ _) _ _)
    refine Con.least (e _ _ _ ⟨fun _ => rfl, fun h => h.symm, fun h k => h.trans k⟩) ?_
    rintro x y (⟨h1, rfl⟩ | ⟨h1, rfl⟩)
    · exact (l.2 x (by omega) (by omega)).1
    · exact (l.2 x (by omega) (by omega)).2
noncomputable def partN (m : List Int) : Nat := cls m.length (partR m)
theorem cls_foldE (m : List Int) : cls m.length (foldE m m.length 0 (fun x y => x = y)) = partN m := cls_congr (foldE_is m)
theorem mate_lt {n d : Nat} (hn : n % 2 = 0) (h : d < n) : 0 ≤ mateN d ∧ mateN d < n ∧ (mateN d).toNat < n := by
  unfold mateN; split <;> omega
theorem perm_get {m : List Int} (h : permB m = true) {d : Nat} (hd : d < m.length) : 0 ≤ m.getD d 0 ∧ m.getD d 0 < m.length ∧ (m.getD d 0).toNat < m.length := by
  have P := (permB_of h).1
  rw [List.getD_eq_getElem?_getD, List.getElem?_eq_getElem hd, Option.getD_some]
  have := P _ (List.getElem_mem hd)
  omega
theorem countP_one (p : Nat → Bool) (d : Nat) : [d].countP p = if p d = true then 1 else 0 := by
  cases h : p d <;> simp [h]

/-! ### the cycles of an order, counted -/
def mf (m : List Int) (x : Nat) : Nat := (m.getD x 0).toNat
def orbR (m : List Int) : Nat → Nat → Prop := Con (stepR m)
noncomputable def cycN (m : List Int) : Nat := cls m.length (orbR m)
theorem mf_lt {m : List Int} (h : permB m = true) {x : Nat} (hx : x < m.length) : mf m x < m.length := (perm_get h hx).2.2
theorem mf_cast {m : List Int} (h : permB m = true) {x : Nat} (hx : x < m.length) : m.getD x 0 = ((mf m x : Nat) : Int) := by
  have := perm_get h hx
  unfold mf; omega
theorem mf_inj {m : List Int} (h : permB m = true) {x y : Nat} (hx : x < m.length) (hy : y < m.length) (e : mf m x = mf m y) : x = y := by
  have ex := mf_cast h hx
  have ey := mf_cast h hy
  rw [← e, ← ex] at ey
  rw [List.getD_eq_getElem?_getD, List.getD_eq_getElem?_getD, List.getElem?_eq_getElem hx, List.getElem?_eq_getElem hy, Option.getD_some, Option.getD_some] at ey
  exact (List.getElem_inj (permB_of h).2).1 ey.symm
theorem orbR_step {m : List Int} {x : Nat} (hx : x < m.length) : orbR m x (mf m x) := .rel ⟨hx, rfl⟩
/-- some number ahead of d leads to x -/
def Ahead (m : List Int) (d x : Nat) : Prop := ∃ e, e < d ∧ orbR m e x
theorem getB_set (s : List Bool) (i x : Nat) (h : i < s.length) : (s.set i true).getD x false = if x = i then true else s.getD x false := by
  simp only [List.getD_eq_getElem?_getD, List.getElem?_set]
  by_cases e : i = x
  · subst e; simp [h]
  · have : ¬ x = i := fun h => e h.symm
    simp [e, this]
theorem rdOf_nat (s : List Bool) (i : Nat) : rdOf false s (i : Int) = s.getD i false := by
  simp [rdOf]
structure Inn (m : List Int) (d : Nat) (seen : List Bool) (L : List Nat) (e : Nat) : Prop where
  len : seen.length = m.length
  seen_ : ∀ x, x < m.length → (seen.getD x false = true ↔ (Ahead m d x ∨ x ∈ L))
  nodup : L.Nodup
  mem : ∀ x ∈ L, x < m.length ∧ ¬ Ahead m d x ∧ orbR m d x
  shape : (L = [] ∧ e = d) ∨ ∃ pre z, L = pre ++ [z] ∧ mf m z = e ∧ d ∈ L ∧ ∀ x ∈ L, x = d ∨ ∃ y ∈ pre, mf m y = x
  next : ∀ x ∈ L, mf m x ∈ L ∨ mf m x = e
  prev : ∀ x, x < m.length → mf m x ∈ L → x ∈ L ∨ mf m x = d
  here : e < m.length ∧ orbR m d e
  room : L.length + seen.count false ≤ m.length
theorem Inn.step {m : List Int} (hm : permB m = true) {d : Nat} (hd : ¬ Ahead m d d) {seen : List Bool} {L : List Nat} {e : Nat} (H : Inn m d seen L e) (he : seen.getD e false = false) : Inn m d (seen.set e true) (L ++ [e]) (mf m e) ∧ (seen.set e true).count false + 1 = seen.count false := by
  have hen : e < seen.length := by rw [H.len]; exact H.here.1
  have hL : e ∉ L := fun h => by
    have := (H.seen_ e H.here.1).2 (.inr h)
    rw [he] at this; cases this
  have hA : ¬ Ahead m d e := fun h => by
    have := (H.seen_ e H.here.1).2 (.inl h)
    rw [he] at this; cases this
  have hc : (seen.set e true).count false + 1 = seen.count false := by
    rw [List.count_set hen]
    have hp : 0 < seen.count false := List.count_pos_iff.2 (by
      rw [List.getD_eq_getElem?_getD, List.getElem?_eq_getElem hen, Option.getD_some] at he
      exact he ▸ List.getElem_mem hen)
    rw [List.getD_eq_getElem?_getD, List.getElem?_eq_getElem hen, Option.getD_some] at he
    rw [he]
    simp; omega
  refine ⟨⟨by rw [List.length_set]; exact H.len, fun x hx => ?_, ?_, fun x hx => ?_, .inr ⟨L, e, rfl, rfl, ?_, fun x hx => ?_⟩, fun x hx => ?_, fun x hx h => ?_, ⟨mf_lt hm H.here.1, .trans H.here.2 (orbR_step H.here.1)⟩, ?_⟩, hc⟩
  · rw [getB_set _ _ _ hen]
    by_cases h : x = e
    · rw [if_pos h]; subst h; simp
    · rw [if_neg h, H.seen_ x hx]; simp [h]
  · rw [List.nodup_append]
    exact ⟨H.nodup, by simp, fun a ha b hb => by
      rw [List.mem_singleton.1 hb]; intro q; exact hL (q ▸ ha)⟩
  · rcases List.mem_append.1 hx with h | h
    · exact H.mem x h
    · rw [List.mem_singleton.1 h]; exact ⟨H.here.1, hA, H.here.2⟩
  · rcases H.shape with ⟨_, h⟩ | ⟨_, _, _, _, h, _⟩
    · rw [h]; simp
    · exact List.mem_append_left _ h
  · rcases List.mem_append.1 hx with h | h
    · rcases H.shape with ⟨h1, _⟩ | ⟨pre, z, h1, _, _, h2⟩
      · rw [h1] at h; cases h
      · rcases h2 x h with h3 | ⟨y, hy, h3⟩
        · exact .inl h3
        · exact .inr ⟨y, by rw [h1]; exact List.mem_append_left _ hy, h3⟩
    · rw [List.mem_singleton.1 h]
      rcases H.shape with ⟨_, h1⟩ | ⟨pre, z, h1, h2, _, _⟩
      · exact .inl h1
      · exact .inr ⟨z, by rw [h1]; simp, h2⟩
  · rcases List.mem_append.1 hx with h | h
    · rcases H.next x h with h1 | h1
      · exact .inl (List.mem_append_left _ h1)
      · left; rw [h1]; simp
    · right; rw [List.mem_singleton.1 h]
  · rcases List.mem_append.1 h with h | h
    · rcases H.prev x hx h with h1 | h1
      · exact .inl (List.mem_append_left _ h1)
      · exact .inr h1
    · have h := List.mem_singleton.1 h
      rcases H.shape with ⟨_, h1⟩ | ⟨pre, z, h1, h2, _, _⟩
      · right; rw [h, h1]
      · left
        have hz : z ∈ L := by rw [h1]; simp
        have := mf_inj hm hx (H.mem z hz).1 (h.trans h2.symm)
        rw [this]; exact List.mem_append_left _ hz
  · have := H.room
    simp only [List.length_append, List.length_singleton]; omega
theorem Inn.stop {m : List Int} (hm : permB m = true) {d : Nat} (hd : ¬ Ahead m d d) {seen : List Bool} {L : List Nat} {e : Nat} (H : Inn m d seen L e) (he : seen.getD e false = true) : ∀ x, x < m.length → (seen.getD x false = true ↔ Ahead m (d + 1) x) := by
  have heL : e ∈ L := by
    rcases (H.seen_ e H.here.1).1 he with ⟨k, hk, h⟩ | h
    · exact absurd ⟨k, hk, .trans h (.symm H.here.2)⟩ hd
    · exact h
  rcases H.shape with ⟨h1, _⟩ | ⟨pre, z, h1, h2, h3, h4⟩
  · rw [h1] at heL; cases heL
  · have hz : z ∈ L := by rw [h1]; simp
    have hed : e = d := by
      rcases h4 e heL with h | ⟨y, hy, h⟩
      · exact h
      · have hyL : y ∈ L := by rw [h1]; exact List.mem_append_left _ hy
        have := mf_inj hm (H.mem y hyL).1 (H.mem z hz).1 (h.trans h2.symm)
        subst this
        have n := H.nodup
        rw [h1, List.nodup_append] at n
        exact absurd rfl (n.2.2 y hy y (by simp))
    have cl : ∀ x y, orbR m x y → (x ∈ L ↔ y ∈ L) := by
      intro x y h
      refine Con.least (E := fun x y => x ∈ L ↔ y ∈ L) ⟨fun _ => Iff.rfl, fun h => h.symm, fun h k => h.trans k⟩ ?_ h
      rintro x _ ⟨hx, rfl⟩
      constructor
      · intro h
        rcases H.next x h with h5 | h5
        · exact h5
        · have : mf m x ∈ L := by rw [h5]; exact heL
          exact this
      · intro h
        rcases H.prev x hx h with h5 | h5
        · exact h5
        · have := mf_inj hm hx (H.mem z hz).1 (h5.trans (hed.symm.trans h2.symm))
          rw [this]; exact hz
    intro x hx
    rw [H.seen_ x hx]
    constructor
    · rintro (⟨k, hk, h⟩ | h)
      · exact ⟨k, by omega, h⟩
      · exact ⟨d, by omega, (H.mem x h).2.2⟩
    · rintro ⟨k, hk, h⟩
      by_cases e : k = d
      · subst e; exact .inr ((cl _ _ h).1 h3)
      · exact .inl ⟨k, by omega, h⟩
open Classical in
/-- every reading of an order cycle by cycle finds that many -/
theorem cyc_all {m : List Int} (hm : permB m = true) (gO : Nat → List (List Int) → List Bool → Int → Option (List (List Int))) (gI : Nat → List (List Int) → List Bool → Int → List Int → Int → Option (List (List Int)))
    (h0 : ∀ cs seen, EV (fun k => gO k cs seen (m.length : Int)) cs)
    (h1 : ∀ (cs : List (List Int)) (seen : List Bool) (d : Nat) r, d < m.length → seen.length = m.length → seen.getD d false = true → EV (fun k => gO k cs seen ((d + 1 : Nat) : Int)) r → EV (fun k => gO k cs seen (d : Int)) r)
    (h2 : ∀ (cs : List (List Int)) (seen : List Bool) (d : Nat) r, d < m.length → seen.length = m.length → seen.getD d false = false → EV (fun k => gI k cs seen (d : Int) [] (d : Int)) r → EV (fun k => gO k cs seen (d : Int)) r)
    (h3 : ∀ (cs : List (List Int)) (seen : List Bool) (d e : Nat) (c : List Int) r, d < m.length → e < m.length → seen.length = m.length → c.length ≤ m.length → seen.getD e false = false → EV (fun k => gI k cs (seen.set e true) (d : Int) (c ++ [(e : Int)]) (m.getD e 0)) r → EV (fun k => gI k cs seen (d : Int) c (e : Int)) r)
    (h4 : ∀ (cs : List (List Int)) (seen : List Bool) (d e : Nat) (c : List Int) r, d < m.length → e < m.length → seen.length = m.length → cs.length ≤ m.length → seen.getD e false = true → EV (fun k => gO k (cs ++ [c]) seen ((d + 1 : Nat) : Int)) r → EV (fun k => gI k cs seen (d : Int) c (e : Int)) r) :
    ∃ cs, cs.length = cycN m ∧ EV (fun k => gO k [] (List.replicate m.length false) 0) cs := by
  have inner : ∀ (N : Nat) (d : Nat) (cs : List (List Int)) (seen : List Bool) (L : List Nat) (e : Nat) (Q : List (List Int) → Prop), seen.count false ≤ N → ¬ Ahead m d d → d < m.length → cs.length ≤ m.length → Inn m d seen L e →
      (∀ (seen' : List Bool) (c : List Int), seen'.length = m.length → (∀ x, x < m.length → (seen'.getD x false = true ↔ Ahead m (d + 1) x)) → ∃ r, Q r ∧ EV (fun k => gO k (cs ++ [c]) seen' ((d + 1 : Nat) : Int)) r) →
      ∃ r, Q r ∧ EV (fun k => gI k cs seen (d : Int) (L.map fun x : Nat => (x : Int)) (e : Int)) r := by
    intro N
    induction N with
    | zero =>
      intro d cs seen L e Q hN hd hdn hcs H K
      by_cases he : seen.getD e false = true
      · obtain ⟨r, hr, k⟩ := K seen (L.map fun x : Nat => (x : Int)) H.len (H.stop hm hd he)
        exact ⟨r, hr, h4 _ _ _ _ _ _ hdn H.here.1 H.len hcs he k⟩
      · have := (H.step hm hd (by simpa using he)).2; omega
    | succ N ih =>
      intro d cs seen L e Q hN hd hdn hcs H K
      by_cases he : seen.getD e false = true
      · obtain ⟨r, hr, k⟩ := K seen (L.map fun x : Nat => (x : Int)) H.len (H.stop hm hd he)
        exact ⟨r, hr, h4 _ _ _ _ _ _ hdn H.here.1 H.len hcs he k⟩
      · have he : seen.getD e false = false := by simpa using he
        obtain ⟨H', hc⟩ := H.step hm hd he
        obtain ⟨r, hr, k⟩ := ih d cs _ _ _ Q (by omega) hd hdn hcs H' K
        refine ⟨r, hr, h3 _ _ _ _ _ _ hdn H.here.1 H.len ?_ he ?_⟩
        · have := H.room; rw [List.length_map]; omega
        · rw [mf_cast hm H.here.1]
          rw [List.map_append] at k
          exact k
  have outer : ∀ (c d : Nat) (cs : List (List Int)) (seen : List Bool), d + c = m.length → seen.length = m.length → cs.length = (List.range d).countP (fun d => decide (∀ e, e < d → ¬ orbR m e d)) → (∀ x, x < m.length → (seen.getD x false = true ↔ Ahead m d x)) →
      ∃ r, r.length = cycN m ∧ EV (fun k => gO k cs seen (d : Int)) r := by
    intro c
    induction c with
    | zero =>
      intro d cs seen hd hl hcs hS
      have : d = m.length := by omega
      subst this
      exact ⟨cs, hcs, h0 cs seen⟩
    | succ c ih =>
      intro d cs seen hd hl hcs hS
      have hdn : d < m.length := by omega
      have hcl : cs.length ≤ m.length := by
        rw [hcs]
        refine Nat.le_trans (List.countP_le_length) ?_
        rw [List.length_range]; omega
      by_cases hs : seen.getD d false = true
      · have hA := (hS d hdn).1 hs
        obtain ⟨r, hr, k⟩ := ih (d + 1) cs seen (by omega) hl (by
          rw [hcs, List.range_succ, List.countP_append, countP_one, if_neg]
          · rfl
          · simp only [decide_eq_true_eq]
            intro h
            obtain ⟨e, he, ho⟩ := hA
            exact h e he ho) (fun x hx => by
          rw [hS x hx]
          constructor
          · rintro ⟨e, he, ho⟩; exact ⟨e, by omega, ho⟩
          · rintro ⟨e, he, ho⟩
            by_cases q : e = d
            · subst q
              obtain ⟨e', he', ho'⟩ := hA
              exact ⟨e', he', .trans ho' ho⟩
            · exact ⟨e, by omega, ho⟩)
        exact ⟨r, hr, h1 _ _ _ _ hdn hl hs k⟩
      · have hA : ¬ Ahead m d d := fun h => hs ((hS d hdn).2 h)
        have hs : seen.getD d false = false := by simpa using hs
        have hroom : ([] : List Nat).length + seen.count false ≤ m.length := by
          have := List.count_le_length (a := false) (l := seen)
          rw [List.length_nil]; omega
        have hI : Inn m d seen [] d := ⟨hl, fun x hx => by rw [hS x hx]; simp, List.nodup_nil, (fun x hx => by cases hx), .inl ⟨rfl, rfl⟩, (fun x hx => by cases hx), (fun x _ hx => by cases hx), ⟨hdn, .refl _⟩, hroom⟩
        obtain ⟨r, hr, k⟩ := inner (seen.count false) d cs seen [] d (fun r => r.length = cycN m) (Nat.le_refl _) hA hdn hcl hI (fun seen' c hl' hS' => ih (d + 1) (cs ++ [c]) seen' (by omega) hl' (by
          rw [List.length_append, hcs, List.range_succ, List.countP_append, countP_one, if_pos]
          · rfl
          · simp only [decide_eq_true_eq]
            intro e he ho
            exact hA ⟨e, he, ho⟩) hS')
        exact ⟨r, hr, h2 _ _ _ _ hdn hl hs k⟩
  exact outer m.length 0 [] (List.replicate m.length false) (by omega) (by simp) (by simp) (fun x hx => by
    constructor
    · intro h
      simp [List.getD_eq_getElem?_getD, List.getElem?_replicate, hx] at h
    · rintro ⟨e, he, _⟩; omega)

/-! ### how the cycles of a map, of its dual and its parts hang together -/
def dualM (m : List Int) : List Int := (List.range m.length).map fun d => m.getD (mateN d).toNat 0
theorem dualM_len (m : List Int) : (dualM m).length = m.length := by simp [dualM]
def mt (x : Nat) : Nat := if x % 2 = 0 then x + 1 else x - 1
theorem mt_is (x : Nat) : (mateN x).toNat = mt x := by unfold mateN mt; split <;> omega
theorem mt_lt {n x : Nat} (h : n % 2 = 0) (hx : x < n) : mt x < n := by unfold mt; split <;> omega
theorem mt_mt (x : Nat) : mt (mt x) = x := by unfold mt; split <;> split <;> omega
theorem dualM_get (m : List Int) {d : Nat} (h : d < m.length) : (dualM m).getD d 0 = m.getD (mt d) 0 := by
  rw [← mt_is]
  rw [List.getD_eq_getElem?_getD (l := dualM m), List.getElem?_eq_getElem (by rw [dualM_len]; exact h), Option.getD_some]
  simp [dualM]
theorem dualM_perm {m : List Int} (hm : permB m = true) (h2 : m.length % 2 = 0) : permB (dualM m) = true := by
  simp only [permB, Bool.and_eq_true, List.all_eq_true, decide_eq_true_iff, dualM_len]
  constructor
  · intro x hx
    simp only [dualM, List.mem_map, List.mem_range] at hx
    obtain ⟨d, hd, rfl⟩ := hx
    rw [mt_is]
    have := perm_get hm (mt_lt h2 hd)
    simp only [inB, decide_eq_true_eq]; omega
  · unfold dualM
    refine List.pairwise_map.2 (List.Pairwise.imp_of_mem (fun {a b} ha hb hab e => hab ?_) List.nodup_range)
    have ha := List.mem_range.1 ha
    have hb := List.mem_range.1 hb
    rw [mt_is, mt_is] at e
    have := mf_inj hm (mt_lt h2 ha) (mt_lt h2 hb) (by unfold mf; rw [e])
    rw [← mt_mt a, this, mt_mt]
/-- a reading x, f x, f (f x) .. -/
def itf (f : Nat → Nat) : Nat → Nat → Nat
  | 0, x => x
  | k + 1, x => f (itf f k x)
theorem itf_comm (f : Nat → Nat) : ∀ k x, itf f k (f x) = f (itf f k x)
  | 0, x => rfl
  | k + 1, x => by simp only [itf]; rw [itf_comm f k x]
theorem itf_lt {n : Nat} {f : Nat → Nat} (hf : ∀ x, x < n → f x < n) {x : Nat} (hx : x < n) : ∀ k, itf f k x < n
  | 0 => hx
  | k + 1 => hf _ (itf_lt hf hx k)
/-- it comes back -/
theorem itf_back {n : Nat} {f : Nat → Nat} (hf : ∀ x, x < n → f x < n) (hi : ∀ x y, x < n → y < n → f x = f y → x = y) {b : Nat} (hb : b < n) : ∃ k, itf f k (f b) = b := by
  have canc : ∀ i k, itf f i b = itf f (i + (k + 1)) b → itf f k (f b) = b := by
    intro i
    induction i with
    | zero =>
      intro k h
      rw [itf_comm]
      rw [show 0 + (k + 1) = k + 1 by omega] at h
      exact h.symm
    | succ i ih =>
      intro k h
      have e : i + 1 + (k + 1) = (i + (k + 1)) + 1 := by omega
      rw [e] at h
      simp only [itf] at h
      exact ih k (hi _ _ (itf_lt hf hb i) (itf_lt hf hb _) h)
  by_cases hN : ((List.range (n + 1)).map fun i => itf f i b).Nodup
  · have := hN.length_le_of_subset (l₂ := List.range n) (fun x hx => by
      obtain ⟨i, _, rfl⟩ := List.mem_map.1 hx
      exact List.mem_range.2 (itf_lt hf hb i))
    simp at this; omega
  · refine Classical.byContradiction fun hno => hN ?_
    refine List.pairwise_map.2 (List.Pairwise.imp_of_mem (fun {x y} _ _ hxy e => ?_) List.nodup_range)
    rcases Nat.lt_or_ge x y with h | h
    · obtain ⟨k, rfl⟩ : ∃ k, y = x + (k + 1) := ⟨y - x - 1, by omega⟩
      exact hno ⟨k, canc x k e⟩
    · obtain ⟨k, rfl⟩ : ∃ k, x = y + (k + 1) := ⟨x - y - 1, by omega⟩
      exact hno ⟨k, canc y k e.symm⟩
def cycR (n : Nat) (f : Nat → Nat) : Nat → Nat → Prop := Con fun x y => x < n ∧ y = f x
structure Swap (n : Nat) (f f' : Nat → Nat) (a b : Nat) : Prop where
  la : a < n
  lb : b < n
  fa : f' a = f b
  fb : f' b = f a
  other : ∀ x, x ≠ a → x ≠ b → f' x = f x
theorem cycR_eqv (n : Nat) (f : Nat → Nat) : Eqv (cycR n f) := Con.eqv _
theorem Swap.symm {n : Nat} {f f' : Nat → Nat} {a b : Nat} (h : Swap n f f' a b) : Swap n f' f a b :=
  ⟨h.la, h.lb, h.fb.symm, h.fa.symm, fun x h1 h2 => (h.other x h1 h2).symm⟩
theorem Swap.sub {n : Nat} {f f' : Nat → Nat} {a b : Nat} (h : Swap n f f' a b) {x y : Nat} (k : cycR n f' x y) : jn (cycR n f) a b x y := by
  refine Con.least (jn_eqv (Con.eqv _) a b) ?_ k
  rintro x _ ⟨hx, rfl⟩
  by_cases e : x = a
  · subst e; rw [h.fa]; exact .inr (.inl ⟨.refl _, .rel ⟨h.lb, rfl⟩⟩)
  · by_cases e' : x = b
    · subst e'; rw [h.fb]; exact .inr (.inr ⟨.refl _, .rel ⟨h.la, rfl⟩⟩)
    · rw [h.other x e e']; exact .inl (.rel ⟨hx, rfl⟩)
theorem Swap.le {n : Nat} {f f' : Nat → Nat} {a b : Nat} (h : Swap n f f' a b) : cls n (cycR n f') ≤ cls n (cycR n f) + 1 := by
  have h1 := cls_jn_le (n := n) (Con.eqv (fun x y => x < n ∧ y = f' x)) a b
  have h2 : cls n (jn (cycR n f') a b) ≤ cls n (cycR n f) := cls_mono fun x y k => h.symm.sub k
  have h1' : cls n (cycR n f') ≤ cls n (jn (cycR n f') a b) + 1 := h1
  omega
theorem Swap.lt {n : Nat} {f f' : Nat → Nat} {a b : Nat} (h : Swap n f f' a b) (hf : ∀ x, x < n → f x < n) (hi : ∀ x y, x < n → y < n → f x = f y → x = y) (hab : ¬ cycR n f a b) : cls n (cycR n f') + 1 ≤ cls n (cycR n f) := by
  obtain ⟨k, hk⟩ := itf_back hf hi h.lb
  have go : ∀ j, cycR n f' (f b) b ∨ (cycR n f' (f b) (itf f j (f b)) ∧ cycR n f b (itf f j (f b))) := by
    intro j
    induction j with
    | zero => exact .inr ⟨.refl _, .rel ⟨h.lb, rfl⟩⟩
    | succ j ih =>
      rcases ih with ih | ⟨ih, ih'⟩
      · exact .inl ih
      · by_cases e : itf f j (f b) = b
        · rw [e] at ih; exact .inl ih
        · have ne : itf f j (f b) ≠ a := fun q => hab (by rw [q] at ih'; exact .symm ih')
          have lt := itf_lt hf (hf b h.lb) j
          right
          simp only [itf]
          refine ⟨.trans ih ?_, .trans ih' (.rel ⟨lt, rfl⟩)⟩
          rw [← h.other _ ne e]
          exact .rel ⟨lt, rfl⟩
  have hb : cycR n f' (f b) b := by
    rcases go k with h1 | ⟨h1, _⟩
    · exact h1
    · rw [hk] at h1; exact h1
  have hj : cycR n f' a b := .trans (.rel ⟨h.la, h.fa.symm⟩) hb
  have h1 : cls n (jn (cycR n f) a b) + 1 ≤ cls n (cycR n f) := cls_jn_lt (Con.eqv _) h.la h.lb hab
  have h2 : cls n (cycR n f') ≤ cls n (jn (cycR n f) a b) := cls_mono fun x y k => by
    refine jn_least (cycR_eqv n f') (fun x y k => ?_) hj k
    have e := jn_same (Con.eqv (fun x y => x < n ∧ y = f' x)) hj
    have := h.symm.sub k
    unfold cycR at this ⊢
    rw [e] at this
    exact this
  omega
/-- the order behind t mates -/
def ft (m : List Int) (t x : Nat) : Nat := mf m (if x < 2 * t then mt x else x)
def Pt (m : List Int) (t : Nat) : Nat → Nat → Prop := Con fun x y => stepR m x y ∨ (x < 2 * t ∧ y = mt x)
theorem Pt_eqv (m : List Int) (t : Nat) : Eqv (Pt m t) := Con.eqv _
theorem mt_two {x t : Nat} (h : x < 2 * t) : mt x < 2 * t := by unfold mt; split <;> omega
theorem euler_le {m : List Int} (hm : permB m = true) (h2 : m.length % 2 = 0) : ∀ t, 2 * t ≤ m.length → cls m.length (cycR m.length (ft m t)) + cycN m ≤ 2 * cls m.length (Pt m t) + t
  | 0, _ => by
    have e1 : cls m.length (cycR m.length (ft m 0)) = cycN m := by
      refine cls_congr fun x y => ⟨Con.mono fun a b h => .rel h, Con.mono fun a b h => .rel h⟩
    have e2 : cls m.length (Pt m 0) = cycN m := by
      refine cls_congr fun x y => ⟨Con.mono fun a b h => ?_, Con.mono fun a b h => .rel (.inl h)⟩
      rcases h with h | h
      · exact .rel h
      · omega
    omega
  | t + 1, ht => by
    have ih := euler_le hm h2 t (by omega)
    have ma : mt (2 * t) = 2 * t + 1 := by unfold mt; split <;> omega
    have mb : mt (2 * t + 1) = 2 * t := by unfold mt; split <;> omega
    have S : Swap m.length (ft m t) (ft m (t + 1)) (2 * t) (2 * t + 1) := by
      refine ⟨by omega, by omega, ?_, ?_, fun x h1 h2 => ?_⟩
      · unfold ft; rw [if_pos (by omega), if_neg (by omega), ma]
      · unfold ft; rw [if_pos (by omega), if_neg (by omega), mb]
      · unfold ft
        by_cases h : x < 2 * t
        · rw [if_pos (by omega), if_pos h]
        · rw [if_neg (by omega), if_neg h]
    have up : ∀ x y, Pt m (t + 1) x y → jn (Pt m t) (2 * t) (2 * t + 1) x y := by
      intro x y h
      refine Con.least (jn_eqv (Con.eqv _) _ _) ?_ h
      rintro x y (h | ⟨h, rfl⟩)
      · exact .inl (.rel (.inl h))
      · by_cases c : x < 2 * t
        · exact .inl (.rel (.inr ⟨c, rfl⟩))
        · by_cases e : x = 2 * t
          · subst e; rw [ma]; exact .inr (.inl ⟨.refl _, .refl _⟩)
          · have e : x = 2 * t + 1 := by omega
            subst e; rw [mb]; exact .inr (.inr ⟨.refl _, .refl _⟩)
    have p1 : cls m.length (Pt m t) ≤ cls m.length (Pt m (t + 1)) + 1 := by
      have q1 : cls m.length (Pt m t) ≤ cls m.length (jn (Pt m t) (2 * t) (2 * t + 1)) + 1 := cls_jn_le (Con.eqv _) _ _
      have q2 : cls m.length (jn (Pt m t) (2 * t) (2 * t + 1)) ≤ cls m.length (Pt m (t + 1)) := cls_mono up
      omega
    by_cases hab : cycR m.length (ft m t) (2 * t) (2 * t + 1)
    · have hP : Pt m t (2 * t) (2 * t + 1) := by
        refine Con.mono (fun x y h => ?_) hab
        obtain ⟨hx, rfl⟩ := h
        unfold ft
        by_cases c : x < 2 * t
        · rw [if_pos c]
          exact .trans (.rel (.inr ⟨c, rfl⟩)) (.rel (.inl ⟨mt_lt h2 hx, rfl⟩))
        · rw [if_neg c]; exact .rel (.inl ⟨hx, rfl⟩)
      have p2 : cls m.length (Pt m t) ≤ cls m.length (Pt m (t + 1)) := cls_mono fun x y h => by
        have := up x y h
        rw [jn_same (Pt_eqv m t) hP] at this
        exact this
      have := S.le
      omega
    · have := S.lt (fun x hx => by
        unfold ft; split
        · exact mf_lt hm (mt_lt h2 hx)
        · exact mf_lt hm hx) (fun x y hx hy e => by
        unfold ft at e
        have := mf_inj hm (by split; exact mt_lt h2 hx; exact hx) (by split; exact mt_lt h2 hy; exact hy) e
        by_cases c1 : x < 2 * t <;> by_cases c2 : y < 2 * t
        · rw [if_pos c1, if_pos c2] at this
          rw [← mt_mt x, this, mt_mt]
        · rw [if_pos c1, if_neg c2] at this
          have := mt_two c1; omega
        · rw [if_neg c1, if_pos c2] at this
          have := mt_two c2; omega
        · rw [if_neg c1, if_neg c2] at this; exact this) hab
      omega
theorem euler {m : List Int} (hm : permB m = true) (h2 : m.length % 2 = 0) : cycN (dualM m) + cycN m ≤ 2 * partN m + m.length / 2 := by
  have h := euler_le hm h2 (m.length / 2) (by omega)
  have e : 2 * (m.length / 2) = m.length := by omega
  have e1 : cls m.length (cycR m.length (ft m (m.length / 2))) = cycN (dualM m) := by
    unfold cycN
    rw [dualM_len]
    have k : ∀ x, x < m.length → ft m (m.length / 2) x = mf (dualM m) x := fun x hx => by
      unfold ft mf; rw [if_pos (by omega), dualM_get m hx]
    refine cls_congr fun x y => ⟨Con.mono fun a b h => ?_, Con.mono fun a b h => ?_⟩
    · exact .rel ⟨by rw [dualM_len]; exact h.1, by rw [h.2, k a h.1]; rfl⟩
    · have h1 := h.1
      rw [dualM_len] at h1
      exact .rel ⟨h1, by rw [h.2, k a h1]; rfl⟩
  have e2 : cls m.length (Pt m (m.length / 2)) = partN m := by
    refine cls_congr fun x y => ⟨Con.mono fun a b h => ?_, Con.mono fun a b h => ?_⟩
    · rcases h with h | ⟨h, k⟩
      · exact .rel (.inl h)
      · exact .rel (.inr ⟨by omega, by rw [k, mt_is]⟩)
    · rcases h with h | ⟨h, k⟩
      · exact .rel (.inl h)
      · exact .rel (.inr ⟨by omega, by rw [k, mt_is]⟩)
  omega
theorem cls_le (n : Nat) (E : Nat → Nat → Prop) : cls n E ≤ n := by
  unfold cls
  refine Nat.le_trans List.countP_le_length ?_
  rw [List.length_range]; exact Nat.le_refl _
noncomputable def genN (m : List Int) : Int := (partN m : Int) - Int.tdiv ((cycN m : Int) - ((m.length / 2 : Nat) : Int) + (cycN (dualM m) : Int)) 2
theorem tdiv_two (z : Int) : 2 * Int.tdiv z 2 ≤ z + 1 ∧ z - 1 ≤ 2 * Int.tdiv z 2 := by
  rcases Int.le_total 0 z with h | h
  · rw [Int.tdiv_eq_ediv_of_nonneg h]; omega
  · obtain ⟨w, rfl⟩ : ∃ w, z = -w := ⟨-z, by omega⟩
    rw [Int.neg_tdiv, Int.tdiv_eq_ediv_of_nonneg (by omega)]; omega
theorem genN_bd {m : List Int} (hm : permB m = true) (hn : m.length ≤ 24) (h2 : m.length % 2 = 0) : 0 ≤ genN m ∧ genN m ≤ 100 ∧ cycN m ≤ 24 ∧ cycN (dualM m) ≤ 24 ∧ partN m ≤ 24 := by
  have h := euler hm h2
  have h3 : partN m ≤ m.length := cls_le _ _
  have h4 : cycN m ≤ m.length := cls_le _ _
  have h5 : cycN (dualM m) ≤ (dualM m).length := cls_le _ _
  rw [dualM_len] at h5
  unfold genN
  have := tdiv_two ((cycN m : Int) - ((m.length / 2 : Nat) : Int) + (cycN (dualM m) : Int))
  omega

def edgeB (e : List Int) : Bool :=
  match e with
  | [a, b] => decide (0 ≤ a ∧ a ≤ 6) && (decide (0 ≤ b ∧ b ≤ 6) && !decide (a = b))
  | _ => false
def graphB (g : List (List Int)) : Bool := g.all edgeB && decide (1 ≤ g.length ∧ g.length ≤ 10)
theorem edge_len {e : List Int} (h : edgeB e = true) : e.length = 2 := by
  unfold edgeB at h
  split at h
  · rfl
  · cases h
theorem two_of {e : List Int} (h : e.length = 2) : ∃ a b, e = [a, b] := by
  match e, h with
  | [a, b], _ => exact ⟨a, b, rfl⟩

/-- the darts at v of the edges from number i on -/
def dartsF (v : Int) : Nat → List (List Int) → List Int
  | _, [] => []
  | i, e :: g => (if e.getD 0 0 = v then [2 * (i : Int)] else []) ++ ((if e.getD 1 0 = v then [2 * (i : Int) + 1] else []) ++ dartsF v (i + 1) g)
def degN (v : Int) : List (List Int) → Nat
  | [] => 0
  | e :: g => (if e.getD 0 0 = v then 1 else 0) + (if e.getD 1 0 = v then 1 else 0) + degN v g
theorem dartsF_len (v : Int) : ∀ (g : List (List Int)) (i : Nat), (dartsF v i g).length = degN v g
  | [], _ => rfl
  | e :: g, i => by
    simp only [dartsF, degN, List.length_append, dartsF_len v g]
    split <;> split <;> simp <;> omega
theorem degN_le (v : Int) : ∀ (g : List (List Int)), degN v g ≤ 2 * g.length
  | [] => by simp [degN]
  | e :: g => by
    have := degN_le v g
    simp only [degN, List.length_cons]
    split <;> split <;> omega
theorem degN_snoc (v : Int) (e : List Int) : ∀ (g : List (List Int)), degN v (g ++ [e]) = degN v g + ((if e.getD 0 0 = v then 1 else 0) + (if e.getD 1 0 = v then 1 else 0))
  | [] => by simp [degN]
  | x :: g => by simp only [List.cons_append, degN, degN_snoc v e g]; omega
theorem dartsF_snoc (v : Int) (e : List Int) : ∀ (g : List (List Int)) (i : Nat), dartsF v i (g ++ [e]) = dartsF v i g ++ ((if e.getD 0 0 = v then [2 * ((i + g.length : Nat) : Int)] else []) ++ (if e.getD 1 0 = v then [2 * ((i + g.length : Nat) : Int) + 1] else []))
  | [], i => by simp [dartsF]
  | x :: g, i => by
    have h : i + 1 + g.length = i + (g.length + 1) := by omega
    simp only [List.cons_append, dartsF, dartsF_snoc v e g, List.length_cons, h, List.append_assoc]
theorem graphB_of {g : List (List Int)} (h : graphB g = true) : (∀ e ∈ g, edgeB e = true) ∧ 1 ≤ g.length ∧ g.length ≤ 10 := by
  simpa [graphB] using h
theorem edgeB_of {e : List Int} (h : edgeB e = true) : ∃ a b, e = [a, b] ∧ 0 ≤ a ∧ a ≤ 6 ∧ 0 ≤ b ∧ b ≤ 6 ∧ a ≠ b := by
  obtain ⟨a, b, rfl⟩ := two_of (edge_len h)
  simp [edgeB] at h
  exact ⟨a, b, rfl, h.1.1, h.1.2, h.2.1.1, h.2.1.2, h.2.2⟩
theorem rdL_tab (n : Nat) (f : Nat → List Int) (a : Int) (h0 : 0 ≤ a) (h : a < n) : rd_L2 ((List.range n).map f) a = f a.toNat := by
  have : a.toNat < n := by omega
  simp [rd_L2, this]
def degM (g : List (List Int)) : List Int := if graphB g = true then (List.range 7).map fun v : Nat => (degN (v : Int) g : Int) else []

/-- the ring of darts ds laid into x -/
def ringM (x ds : List Int) : List Int := (List.range ds.length).foldl (fun x j => x.set (ds.getD j 0).toNat (ds.getD ((j + 1) % ds.length) 0)) x
def ringK (x ds : List Int) (i : Nat) : List Int := (List.range i).foldl (fun x j => x.set (ds.getD j 0).toNat (ds.getD ((j + 1) % ds.length) 0)) x
theorem ringK_succ (x ds : List Int) (i : Nat) : ringK x ds (i + 1) = (ringK x ds i).set (ds.getD i 0).toNat (ds.getD ((i + 1) % ds.length) 0) := by
  unfold ringK; rw [List.range_succ, List.foldl_append]; rfl
theorem ringK_len (x ds : List Int) : ∀ i, (ringK x ds i).length = x.length
  | 0 => rfl
  | i + 1 => by rw [ringK_succ, List.length_set, ringK_len x ds i]
theorem dartsF_mem (v : Int) : ∀ (g : List (List Int)) (i : Nat), ∀ d ∈ dartsF v i g, 0 ≤ d ∧ d < 2 * ((i : Int) + g.length)
  | [], i, d, h => by simp [dartsF] at h
  | e :: g, i, d, h => by
    simp only [dartsF, List.mem_append] at h
    simp only [List.length_cons]
    rcases h with h | h | h
    · split at h
      · rw [List.mem_singleton] at h; omega
      · cases h
    · split at h
      · rw [List.mem_singleton] at h; omega
      · cases h
    · have := dartsF_mem v g (i + 1) d h; omega
def firstK (g : List (List Int)) (n : Nat) : List Int := (List.range n).foldl (fun x (v : Nat) => ringM x (dartsF (v : Int) 0 g)) (List.replicate (2 * g.length) 0)
def firstM (g : List (List Int)) : List Int := if graphB g = true then firstK g 7 else []
theorem firstK_succ (g : List (List Int)) (n : Nat) : firstK g (n + 1) = ringM (firstK g n) (dartsF (n : Int) 0 g) := by
  unfold firstK; rw [List.range_succ, List.foldl_append]; rfl
theorem firstK_len (g : List (List Int)) : ∀ n, (firstK g n).length = 2 * g.length
  | 0 => by simp [firstK]
  | n + 1 => by rw [firstK_succ]; exact (ringK_len _ _ _).trans (firstK_len g n)

/-! ### the orders of a list behind its first member, twice -/
def insO (x : Int) (o : List Int) (lo : Nat) : Nat → List (List Int)
  | 0 => []
  | c + 1 => (o.take (lo + c) ++ [x] ++ o.drop (lo + c)) :: insO x o lo c
theorem mem_insO (x : Int) (o : List Int) (lo : Nat) : ∀ c u, u ∈ insO x o lo c ↔ ∃ i, i < c ∧ u = o.take (lo + i) ++ [x] ++ o.drop (lo + i)
  | 0, u => by simp [insO]
  | c + 1, u => by
    simp only [insO, List.mem_cons, mem_insO x o lo c u]
    constructor
    · rintro (h | ⟨i, h, k⟩)
      · exact ⟨c, by omega, h⟩
      · exact ⟨i, by omega, k⟩
    · rintro ⟨i, h, k⟩
      by_cases e : i = c
      · subst e; exact .inl k
      · exact .inr ⟨i, by omega, k⟩
theorem insO_len (x : Int) (o : List Int) (lo : Nat) : ∀ c, (insO x o lo c).length = c
  | 0 => rfl
  | c + 1 => by simp [insO, insO_len x o lo c]
theorem insO_nodup {x : Int} {o : List Int} (hx : x ∉ o) (lo : Nat) : ∀ c, lo + c ≤ o.length + 1 → (insO x o lo c).Nodup
  | 0, _ => by simp [insO]
  | c + 1, h => by
    refine List.nodup_cons.2 ⟨fun hm => ?_, insO_nodup hx lo c (by omega)⟩
    obtain ⟨i, hi, e⟩ := (mem_insO x o lo c _).1 hm
    have e2 := congrArg (List.take (lo + i + 1)) e
    have l1 : (o.take (lo + c)).length = lo + c := by rw [List.length_take]; omega
    have l2 : (o.take (lo + i)).length = lo + i := by rw [List.length_take]; omega
    rw [List.append_assoc, List.take_append_of_le_length (by omega)] at e2
    have : x ∈ List.take (lo + i + 1) (o.take (lo + i) ++ [x] ++ o.drop (lo + i)) := by
      rw [List.take_append_of_le_length (by rw [List.length_append, l2]; simp)]
      rw [List.take_of_length_le (by rw [List.length_append, l2]; simp)]
      simp
    rw [← e2] at this
    exact hx (List.mem_of_mem_take (List.mem_of_mem_take this))
theorem insO_erase {x : Int} {o : List Int} (hx : x ∉ o) (lo c : Nat) {u : List Int} (h : u ∈ insO x o lo c) : u.erase x = o := by
  obtain ⟨i, _, rfl⟩ := (mem_insO x o lo c _).1 h
  rw [List.append_assoc, List.erase_append_right _ (fun h => hx (List.mem_of_mem_take h))]
  simp
def insA (x : Int) (out : List (List Int)) : List (List Int) := out.flatMap fun o => insO x o 1 o.length
/-- the members of out: a, then an order of q -/
def Holds (a : Int) (q : List Int) (out : List (List Int)) : Prop := out.Nodup ∧ ∀ o, o ∈ out ↔ ∃ p, o = a :: p ∧ p.Perm q
theorem Holds.ins {a : Int} {q : List Int} {out : List (List Int)} (h : Holds a q out) {x : Int} (hx : x ∉ q) (ha : x ≠ a) : Holds a (x :: q) (insA x out) := by
  have hn : ∀ o ∈ out, x ∉ o := by
    intro o ho hm
    obtain ⟨p, rfl, hp⟩ := (h.2 o).1 ho
    rcases List.mem_cons.1 hm with e | e
    · exact ha e
    · exact hx (hp.mem_iff.1 e)
  refine ⟨?_, fun o => ?_⟩
  · refine List.pairwise_flatMap.2 ⟨fun o ho => insO_nodup (hn o ho) 1 o.length (by omega), ?_⟩
    refine List.Pairwise.imp_of_mem (fun {o1 o2} h1 h2 hne u hu v hv e => hne ?_) h.1
    rw [← insO_erase (hn o1 h1) 1 _ hu, ← insO_erase (hn o2 h2) 1 _ hv, e]
  · unfold insA
    rw [List.mem_flatMap]
    constructor
    · rintro ⟨o1, h1, hu⟩
      obtain ⟨p, rfl, hp⟩ := (h.2 o1).1 h1
      obtain ⟨i, hi, rfl⟩ := (mem_insO _ _ _ _ _).1 hu
      refine ⟨p.take i ++ [x] ++ p.drop i, by rw [Nat.add_comm]; simp, ?_⟩
      rw [List.append_assoc, List.singleton_append]
      refine List.Perm.trans List.perm_middle ?_
      rw [List.take_append_drop]
      exact hp.cons x
    · rintro ⟨p, rfl, hp⟩
      have hm : x ∈ p := hp.mem_iff.2 List.mem_cons_self
      obtain ⟨s, t, rfl⟩ := List.append_of_mem hm
      have hst : (s ++ t).Perm q := (List.perm_middle.symm.trans hp).cons_inv
      refine ⟨a :: (s ++ t), (h.2 _).2 ⟨_, rfl, hst⟩, (mem_insO _ _ _ _ _).2 ⟨s.length, by simp; omega, ?_⟩⟩
      rw [Nat.add_comm]
      simp
/-- the orders of l, the first member kept ahead -/
def ord7 : List Int → List (List Int)
  | [] => [[]]
  | a :: r => r.foldl (fun out x => insA x out) [[a]]
theorem ord7_fold {a : Int} : ∀ (r q : List Int) (out : List (List Int)), (a :: (q ++ r)).Nodup → Holds a q out → ∃ q', q'.Perm (q ++ r) ∧ Holds a q' (r.foldl (fun out x => insA x out) out)
  | [], q, out, _, h => ⟨q, by simp, h⟩
  | x :: r, q, out, hn, h => by
    have n := hn
    rw [List.nodup_cons, List.nodup_append] at n
    have hx : x ∉ q := fun hm => n.2.2.2 x hm x List.mem_cons_self rfl
    have ha : x ≠ a := fun e => n.1 (by rw [← e]; simp)
    obtain ⟨q', hq, hh⟩ := ord7_fold r (x :: q) (insA x out) (by
      have : (a :: (q ++ x :: r)).Perm (a :: (x :: q ++ r)) := (List.perm_middle).cons a
      exact this.nodup_iff.1 hn) (h.ins hx ha)
    exact ⟨q', hq.trans List.perm_middle.symm, hh⟩
theorem ord7_is {a : Int} {r : List Int} (hn : (a :: r).Nodup) : Holds a r (ord7 (a :: r)) := by
  obtain ⟨q', hq, h1, h2⟩ := ord7_fold r [] [[a]] hn ⟨by simp, fun o => by simp⟩
  exact ⟨h1, fun o => (h2 o).trans ⟨fun ⟨p, e, k⟩ => ⟨p, e, k.trans hq⟩, fun ⟨p, e, k⟩ => ⟨p, e, k.trans hq.symm⟩⟩⟩
/-- the orders of xs from place k on, m places left -/
def swG (xs : List Int) (k i : Nat) : List Int := (xs.set k (xs.getD i 0)).set i (xs.getD k 0)
def ordB (A : List Int → List (List Int)) (k : Nat) (xs : List Int) : Nat → Nat → List (List Int)
  | 0, _ => []
  | c + 1, i => A (swG xs k i) ++ ordB A k xs c (i + 1)
def ordA : Nat → Nat → List Int → List (List Int)
  | 0, _, xs => [xs]
  | m + 1, k, xs => ordB (ordA m (k + 1)) k xs (m + 1) k
theorem swG_perm (xs : List Int) {k i : Nat} (hk : k < xs.length) (hi : i < xs.length) : (swG xs k i).Perm xs := by
  have gk : xs.getD k 0 = xs[k] := by simp [hk]
  have gi : xs.getD i 0 = xs[i] := by simp [hi]
  rw [List.perm_iff_count]
  intro a
  unfold swG
  rw [List.count_set (by rw [List.length_set]; exact hi), List.count_set hk, gk, gi]
  have e : (xs.set k xs[i])[i]'(by rw [List.length_set]; exact hi) = xs[i] := by
    rw [List.getElem_set]; split <;> rfl
  rw [e]
  by_cases h : (xs[k] == a) = true
  · have : 0 < xs.count a := List.count_pos_iff.2 (by rw [← eq_of_beq h]; exact List.getElem_mem hk)
    rw [if_pos h]; omega
  · rw [if_neg h]; omega
theorem swG_len (xs : List Int) (k i : Nat) : (swG xs k i).length = xs.length := by simp [swG]
theorem swG_take (xs : List Int) {k i : Nat} (hi : i < xs.length) (hki : k ≤ i) : (swG xs k i).take (k + 1) = xs.take k ++ [xs.getD i 0] := by
  apply List.ext_getElem?
  intro j
  unfold swG
  rw [List.getElem?_take]
  by_cases h : j < k
  · rw [if_pos (by omega), List.getElem?_set_ne (by omega), List.getElem?_set_ne (by omega), List.getElem?_append_left (by rw [List.length_take]; omega), List.getElem?_take, if_pos h]
  · by_cases e : j = k
    · subst e
      rw [if_pos (by omega), List.getElem?_append_right (by rw [List.length_take]; omega)]
      have : j - (xs.take j).length = 0 := by rw [List.length_take]; omega
      rw [this, List.getElem?_cons_zero]
      by_cases e2 : i = j
      · subst e2; rw [List.getElem?_set_self (by rw [List.length_set]; exact hi)]
      · rw [List.getElem?_set_ne e2, List.getElem?_set_self (by omega)]
    · rw [if_neg (by omega), List.getElem?_eq_none (by rw [List.length_append, List.length_take, List.length_singleton]; omega)]
theorem mem_ordB (A : List Int → List (List Int)) (k : Nat) (xs : List Int) (p : List Int) : ∀ c i, p ∈ ordB A k xs c i ↔ ∃ j, i ≤ j ∧ j < i + c ∧ p ∈ A (swG xs k j)
  | 0, i => by
    constructor
    · intro h; cases h
    · rintro ⟨j, h1, h2, _⟩; omega
  | c + 1, i => by
    simp only [ordB, List.mem_append, mem_ordB A k xs p c (i + 1)]
    constructor
    · rintro (h | ⟨j, h1, h2, h3⟩)
      · exact ⟨i, by omega, by omega, h⟩
      · exact ⟨j, by omega, by omega, h3⟩
    · rintro ⟨j, h1, h2, h3⟩
      by_cases e : j = i
      · subst e; exact .inl h3
      · exact .inr ⟨j, by omega, by omega, h3⟩
theorem ordA_is : ∀ (m k : Nat) (xs : List Int), k + m = xs.length → xs.Nodup → (ordA m k xs).Nodup ∧ ∀ p, p ∈ ordA m k xs ↔ (p.Perm xs ∧ p.take k = xs.take k)
  | 0, k, xs, hk, hn => by
    refine ⟨by simp [ordA], fun p => ?_⟩
    simp only [ordA, List.mem_singleton]
    constructor
    · rintro rfl; exact ⟨.refl _, rfl⟩
    · rintro ⟨h1, h2⟩
      have := h1.length_eq
      rw [List.take_of_length_le (by omega), List.take_of_length_le (by omega)] at h2
      exact h2
  | m + 1, k, xs, hk, hn => by
    have sub : ∀ j, k ≤ j → j < xs.length → (ordA m (k + 1) (swG xs k j)).Nodup ∧ ∀ p, p ∈ ordA m (k + 1) (swG xs k j) ↔ (p.Perm xs ∧ p.take (k + 1) = xs.take k ++ [xs.getD j 0]) := by
      intro j h1 h2
      have hp := swG_perm xs (k := k) (i := j) (by omega) h2
      have ih := ordA_is m (k + 1) (swG xs k j) (by rw [swG_len]; omega) (hp.nodup_iff.2 hn)
      refine ⟨ih.1, fun p => (ih.2 p).trans ?_⟩
      rw [swG_take xs h2 h1]
      exact ⟨fun h => ⟨h.1.trans hp, h.2⟩, fun h => ⟨h.1.trans hp.symm, h.2⟩⟩
    refine ⟨?_, fun p => ?_⟩
    · have go : ∀ c i, k ≤ i → i + c ≤ xs.length → (ordB (ordA m (k + 1)) k xs c i).Nodup := by
        intro c
        induction c with
        | zero => intro i _ _; simp [ordB]
        | succ c ih =>
          intro i h1 h2
          simp only [ordB]
          rw [List.nodup_append]
          refine ⟨(sub i h1 (by omega)).1, ih (i + 1) (by omega) (by omega), fun a ha b hb e => ?_⟩
          subst e
          obtain ⟨j, h3, h4, h5⟩ := (mem_ordB _ _ _ _ _ _).1 hb
          have e1 := (((sub i h1 (by omega)).2 a).1 ha).2
          have e2 := (((sub j (by omega) (by omega)).2 a).1 h5).2
          rw [e1] at e2
          have e3 := List.append_cancel_left e2
          have hi : i < xs.length := by omega
          have hj : j < xs.length := by omega
          rw [show xs.getD i 0 = xs[i] by simp [hi], show xs.getD j 0 = xs[j] by simp [hj]] at e3
          have := (List.getElem_inj hn).1 (List.cons.inj e3).1
          omega
      exact go (m + 1) k (Nat.le_refl _) (by omega)
    · simp only [ordA]
      rw [mem_ordB]
      constructor
      · rintro ⟨j, h1, h2, h3⟩
        obtain ⟨h4, h5⟩ := ((sub j h1 (by omega)).2 p).1 h3
        refine ⟨h4, ?_⟩
        have := congrArg (List.take k) h5
        rw [List.take_take, Nat.min_eq_left (by omega), List.take_append_of_le_length (by rw [List.length_take]; omega), List.take_take, Nat.min_self] at this
        exact this
      · rintro ⟨h1, h2⟩
        have hl := h1.length_eq
        have hkp : k < p.length := by omega
        have hd : (p.drop k).Perm (xs.drop k) := by
          have := h1
          rw [← List.take_append_drop k p, ← List.take_append_drop k xs, h2] at this
          exact (List.perm_append_left_iff _).1 this
        have hm : p[k] ∈ xs.drop k := hd.mem_iff.1 (by rw [List.drop_eq_getElem_cons hkp]; exact List.mem_cons_self)
        obtain ⟨i, hi, e⟩ := List.mem_iff_getElem.1 hm
        rw [List.length_drop] at hi
        rw [List.getElem_drop] at e
        refine ⟨k + i, by omega, by omega, ((sub (k + i) (by omega) (by omega)).2 p).2 ⟨h1, ?_⟩⟩
        rw [List.take_succ_eq_append_getElem hkp, h2, ← e]
        have : k + i < xs.length := by omega
        simp [this]
def ordI : List Int → List (List Int)
  | [] => [[]]
  | a :: r => (ordA r.length 0 r).map (a :: ·)
theorem ord7_ordI {l : List Int} (hn : l.Nodup) : (ord7 l).Perm (ordI l) ∧ ∀ o ∈ ordI l, o.Perm l := by
  cases l with
  | nil => exact ⟨.refl _, fun o ho => by rw [List.mem_singleton.1 ho]⟩
  | cons a r =>
    have h7 := ord7_is hn
    have hI := ordA_is r.length 0 r (by omega) (List.nodup_cons.1 hn).2
    have mI : ∀ o, o ∈ ordI (a :: r) ↔ ∃ p, o = a :: p ∧ p.Perm r := by
      intro o
      simp only [ordI, List.mem_map, hI.2]
      constructor
      · rintro ⟨p, h, rfl⟩; exact ⟨p, rfl, h.1⟩
      · rintro ⟨p, rfl, h⟩; exact ⟨p, ⟨h, by simp⟩, rfl⟩
    refine ⟨(List.perm_ext_iff_of_nodup h7.1 ?_).2 fun o => (h7.2 o).trans (mI o).symm, fun o ho => ?_⟩
    · refine List.pairwise_map.2 (List.Pairwise.imp (fun hab e => hab ?_) hI.1)
      exact (List.cons.inj e).2
    · obtain ⟨p, rfl, h⟩ := (mI o).1 ho
      exact h.cons a

/-! ### rings laid at the vertices: every dart gets its follower -/
def ds (g : List (List Int)) (u : Nat) : List Int := dartsF (u : Int) 0 g
theorem dartsF_iff (v : Int) : ∀ (g : List (List Int)) (i : Nat) (d : Int), d ∈ dartsF v i g ↔ ∃ j, j < g.length ∧ ((d = 2 * ((i + j : Nat) : Int) ∧ (g.getD j []).getD 0 0 = v) ∨ (d = 2 * ((i + j : Nat) : Int) + 1 ∧ (g.getD j []).getD 1 0 = v))
  | [], i, d => by
    constructor
    · intro h; cases h
    · rintro ⟨j, hj, _⟩; cases hj
  | e :: g, i, d => by
    simp only [dartsF, List.mem_append, dartsF_iff v g (i + 1) d]
    constructor
    · rintro (h | h | ⟨j, hj, h⟩)
      · split at h
        · rename_i q; exact ⟨0, by simp, .inl ⟨by simpa using h, q⟩⟩
        · cases h
      · split at h
        · rename_i q; exact ⟨0, by simp, .inr ⟨by simpa using h, q⟩⟩
        · cases h
      · refine ⟨j + 1, by simp; omega, ?_⟩
        rw [List.getD_cons_succ]
        rcases h with ⟨h, q⟩ | ⟨h, q⟩
        · exact .inl ⟨by omega, q⟩
        · exact .inr ⟨by omega, q⟩
    · rintro ⟨j, hj, h⟩
      cases j with
      | zero =>
        rw [List.getD_cons_zero] at h
        rcases h with ⟨h, q⟩ | ⟨h, q⟩
        · left; rw [if_pos q]; simpa using h
        · right; left; rw [if_pos q]; simpa using h
      | succ j =>
        rw [List.getD_cons_succ] at h
        right; right
        refine ⟨j, by simpa using hj, ?_⟩
        rcases h with ⟨h, q⟩ | ⟨h, q⟩
        · exact .inl ⟨by omega, q⟩
        · exact .inr ⟨by omega, q⟩
theorem dartsF_nodup (v : Int) : ∀ (g : List (List Int)) (i : Nat), (dartsF v i g).Nodup
  | [], i => by simp [dartsF]
  | e :: g, i => by
    have ih := dartsF_nodup v g (i + 1)
    have low : ∀ d ∈ dartsF v (i + 1) g, 2 * (i : Int) + 2 ≤ d := fun d hd => by
      obtain ⟨j, _, h | h⟩ := (dartsF_iff v g (i + 1) d).1 hd
      · omega
      · omega
    simp only [dartsF]
    rw [List.nodup_append, List.nodup_append]
    refine ⟨by split <;> simp, ⟨by split <;> simp, ih, fun a ha b hb e => ?_⟩, fun a ha b hb e => ?_⟩
    · have := low b hb
      split at ha
      · have := List.mem_singleton.1 ha; omega
      · cases ha
    · have ha' : a = 2 * (i : Int) := by
        split at ha
        · exact List.mem_singleton.1 ha
        · cases ha
      rcases List.mem_append.1 hb with h | h
      · split at h
        · have := List.mem_singleton.1 h; omega
        · cases h
      · have := low b h; omega
theorem ds_nodup (g : List (List Int)) (u : Nat) : (ds g u).Nodup := dartsF_nodup _ g 0
theorem ds_in (g : List (List Int)) (u : Nat) : ∀ d ∈ ds g u, 0 ≤ d ∧ d < 2 * (g.length : Int) := fun d hd => by
  have := dartsF_mem (u : Int) g 0 d hd; omega
theorem ds_apart (g : List (List Int)) {u v : Nat} {d : Int} (hu : d ∈ ds g u) (hv : d ∈ ds g v) : u = v := by
  obtain ⟨j, _, h⟩ := (dartsF_iff _ _ _ _).1 hu
  obtain ⟨k, _, h'⟩ := (dartsF_iff _ _ _ _).1 hv
  rcases h with ⟨h, q⟩ | ⟨h, q⟩ <;> rcases h' with ⟨h', q'⟩ | ⟨h', q'⟩
  · have : j = k := by omega
    subst this; omega
  · omega
  · omega
  · have : j = k := by omega
    subst this; omega
theorem ds_all {g : List (List Int)} (hg : graphB g = true) (t : Nat) (ht : t < 2 * g.length) : ∃ u, u < 7 ∧ (t : Int) ∈ ds g u := by
  have G := graphB_of hg
  have hj : t / 2 < g.length := by omega
  obtain ⟨a, b, e, a0, a6, b0, b6, _⟩ := edgeB_of (G.1 g[t / 2] (List.getElem_mem hj))
  have e' : g.getD (t / 2) [] = [a, b] := by rw [← e]; simp [hj]
  by_cases h : t % 2 = 0
  · exact ⟨a.toNat, by omega, (dartsF_iff _ _ _ _).2 ⟨t / 2, hj, .inl ⟨by omega, by rw [e']; simp; omega⟩⟩⟩
  · exact ⟨b.toNat, by omega, (dartsF_iff _ _ _ _).2 ⟨t / 2, hj, .inr ⟨by omega, by rw [e']; simp; omega⟩⟩⟩
theorem getD_setB (up : List Int) (A : Nat) (v : Int) (x : Nat) : (up.set A v).getD x 0 = if x = A ∧ A < up.length then v else up.getD x 0 := by
  simp only [List.getD_eq_getElem?_getD, List.getElem?_set]
  by_cases e : A = x
  · subst e
    by_cases h : A < up.length
    · simp [h]
    · simp [h]
  · have : ¬ x = A := fun h => e h.symm
    simp [e, this]
theorem ringK_agree {x x' : List Int} (hl : x.length = x'.length) (os : List Int) (t : Nat) : ∀ i, ((∃ j, j < i ∧ (os.getD j 0).toNat = t ∧ t < x.length) ∨ x.getD t 0 = x'.getD t 0) → (ringK x os i).getD t 0 = (ringK x' os i).getD t 0
  | 0, h => by
    rcases h with ⟨j, hj, _⟩ | h
    · omega
    · exact h
  | i + 1, h => by
    rw [ringK_succ, ringK_succ, getD_setB, getD_setB, ringK_len, ringK_len, ← hl]
    by_cases c : t = (os.getD i 0).toNat ∧ (os.getD i 0).toNat < x.length
    · rw [if_pos c, if_pos c]
    · rw [if_neg c, if_neg c]
      refine ringK_agree hl os t i ?_
      rcases h with ⟨j, hj, h1, h2⟩ | h
      · by_cases e : j = i
        · subst e; exact absurd ⟨h1.symm, by omega⟩ c
        · exact .inl ⟨j, by omega, h1, h2⟩
      · exact .inr h
theorem ringK_other {x : List Int} (os : List Int) (t : Nat) : ∀ i, (∀ j, j < i → (os.getD j 0).toNat ≠ t) → (ringK x os i).getD t 0 = x.getD t 0
  | 0, _ => rfl
  | i + 1, h => by
    rw [ringK_succ, getD_setB, if_neg (fun c => h i (by omega) c.1.symm)]
    exact ringK_other os t i fun j hj => h j (by omega)
theorem ringK_at {x os : List Int} (hn : os.Nodup) (ho : ∀ d ∈ os, 0 ≤ d ∧ d < x.length) : ∀ i, i ≤ os.length → ∀ j, j < i → (ringK x os i).getD (os.getD j 0).toNat 0 = os.getD ((j + 1) % os.length) 0
  | 0, _, j, h => by omega
  | i + 1, hi, j, hj => by
    have gi : os.getD i 0 = os[i] := by simp [show i < os.length by omega]
    have gj : os.getD j 0 = os[j] := by simp [show j < os.length by omega]
    have bi := ho _ (List.getElem_mem (show i < os.length by omega))
    have bj := ho _ (List.getElem_mem (show j < os.length by omega))
    rw [ringK_succ, getD_setB, ringK_len]
    by_cases e : j = i
    · subst e
      rw [if_pos ⟨rfl, by rw [gj]; omega⟩]
    · rw [if_neg]
      · exact ringK_at hn ho i (by omega) j (by omega)
      · rintro ⟨c, _⟩
        rw [gi, gj] at c
        exact e ((List.getElem_inj hn).1 (show os[j] = os[i] by omega))
/-- the rings ahead of v lie alike -/
def AG (g : List (List Int)) (v : Nat) (m m' : List Int) : Prop := m.length = 2 * g.length ∧ m'.length = 2 * g.length ∧ ∀ u, u < v → ∀ d ∈ ds g u, m.getD d.toNat 0 = m'.getD d.toNat 0
theorem AG.symm {g : List (List Int)} {v : Nat} {m m' : List Int} (h : AG g v m m') : AG g v m' m := ⟨h.2.1, h.1, fun u hu d hd => (h.2.2 u hu d hd).symm⟩
theorem AG.trans {g : List (List Int)} {v : Nat} {a b c : List Int} (h : AG g v a b) (k : AG g v b c) : AG g v a c := ⟨h.1, k.2.1, fun u hu d hd => (h.2.2 u hu d hd).trans (k.2.2 u hu d hd)⟩
theorem AG.down {g : List (List Int)} {v : Nat} {a b : List Int} (h : AG g (v + 1) a b) : AG g v a b := ⟨h.1, h.2.1, fun u hu d hd => h.2.2 u (by omega) d hd⟩
theorem AG.rfl {g : List (List Int)} {v : Nat} {a : List Int} (h : a.length = 2 * g.length) : AG g v a a := ⟨h, h, fun _ _ _ _ => Eq.refl _⟩
theorem ringM_len (x os : List Int) : (ringM x os).length = x.length := ringK_len x os os.length
theorem perm_at {g : List (List Int)} {v : Nat} {os : List Int} (ho : os.Perm (ds g v)) {d : Int} (hd : d ∈ ds g v) : ∃ j, j < os.length ∧ os.getD j 0 = d := by
  obtain ⟨j, hj, e⟩ := List.mem_iff_getElem.1 (ho.mem_iff.2 hd)
  exact ⟨j, hj, by rw [← e]; simp [hj]⟩
theorem perm_get' {g : List (List Int)} {v : Nat} {os : List Int} (ho : os.Perm (ds g v)) {j : Nat} (hj : j < os.length) : os.getD j 0 ∈ ds g v := by
  refine ho.mem_iff.1 ?_
  rw [show os.getD j 0 = os[j] by simp [hj]]
  exact List.getElem_mem hj
theorem ringM_stay {g : List (List Int)} {v : Nat} {os : List Int} (ho : os.Perm (ds g v)) (x : List Int) {u : Nat} (hu : u ≠ v) {d : Int} (hd : d ∈ ds g u) : (ringM x os).getD d.toNat 0 = x.getD d.toNat 0 := by
  refine ringK_other os d.toNat os.length fun j hj e => hu ?_
  have h1 := perm_get' ho hj
  have b1 := ds_in g v _ h1
  have b2 := ds_in g u _ hd
  have : os.getD j 0 = d := by omega
  rw [this] at h1
  exact ds_apart g hd h1
theorem AG.ring {g : List (List Int)} {v : Nat} {m m' os : List Int} (h : AG g v m m') (ho : os.Perm (ds g v)) : AG g (v + 1) (ringM m os) (ringM m' os) := by
  refine ⟨by rw [ringM_len]; exact h.1, by rw [ringM_len]; exact h.2.1, fun u hu d hd => ?_⟩
  refine ringK_agree (h.1.trans h.2.1.symm) os d.toNat os.length ?_
  by_cases e : u = v
  · subst e
    obtain ⟨j, hj, e⟩ := perm_at ho hd
    have := ds_in g u d hd
    exact .inl ⟨j, hj, by rw [e], by rw [h.1]; omega⟩
  · exact .inr (h.2.2 u (by omega) d hd)
theorem AG.stay {g : List (List Int)} {v : Nat} {m os : List Int} (hl : m.length = 2 * g.length) (ho : os.Perm (ds g v)) : AG g v (ringM m os) m :=
  ⟨by rw [ringM_len]; exact hl, hl, fun u hu d hd => ringM_stay ho m (by omega) hd⟩
theorem AG.all {g : List (List Int)} (hg : graphB g = true) {m m' : List Int} (h : AG g 7 m m') : m = m' := by
  apply List.ext_getElem (h.1.trans h.2.1.symm)
  intro t h1 h2
  obtain ⟨u, hu, hd⟩ := ds_all hg t (by rw [← h.1]; exact h1)
  have := h.2.2 u hu _ hd
  rw [Int.toNat_natCast] at this
  simpa [h1, h2] using this
/-- the rings ahead of v are orders of their darts -/
def PV (g : List (List Int)) (v : Nat) (m : List Int) : Prop := m.length = 2 * g.length ∧ ∀ u, u < v → (∀ d ∈ ds g u, m.getD d.toNat 0 ∈ ds g u) ∧ ∀ d ∈ ds g u, ∀ d' ∈ ds g u, m.getD d.toNat 0 = m.getD d'.toNat 0 → d = d'
theorem PV.ring {g : List (List Int)} {v : Nat} {m os : List Int} (h : PV g v m) (ho : os.Perm (ds g v)) : PV g (v + 1) (ringM m os) := by
  have hn : os.Nodup := ho.nodup_iff.2 (ds_nodup g v)
  have hin : ∀ d ∈ os, 0 ≤ d ∧ d < m.length := fun d hd => by
    have := ds_in g v d (ho.mem_iff.1 hd)
    have := h.1; omega
  have at_ : ∀ j, j < os.length → (ringM m os).getD (os.getD j 0).toNat 0 = os.getD ((j + 1) % os.length) 0 := fun j hj => ringK_at hn hin os.length (Nat.le_refl _) j hj
  refine ⟨by rw [ringM_len]; exact h.1, fun u hu => ?_⟩
  by_cases e : u = v
  · subst e
    constructor
    · intro d hd
      obtain ⟨j, hj, rfl⟩ := perm_at ho hd
      rw [at_ j hj]
      exact perm_get' ho (Nat.mod_lt _ (by omega))
    · intro d hd d' hd' q
      obtain ⟨j, hj, rfl⟩ := perm_at ho hd
      obtain ⟨k, hk, rfl⟩ := perm_at ho hd'
      rw [at_ j hj, at_ k hk] at q
      have m1 := Nat.mod_lt (j + 1) (show 0 < os.length by omega)
      have m2 := Nat.mod_lt (k + 1) (show 0 < os.length by omega)
      rw [show os.getD ((j + 1) % os.length) 0 = os[(j + 1) % os.length] by simp [m1], show os.getD ((k + 1) % os.length) 0 = os[(k + 1) % os.length] by simp [m2]] at q
      have e := (List.getElem_inj hn).1 q
      have : j = k := by
        by_cases c1 : j + 1 < os.length
        · rw [Nat.mod_eq_of_lt c1] at e
          by_cases c2 : k + 1 < os.length
          · rw [Nat.mod_eq_of_lt c2] at e; omega
          · rw [show k + 1 = os.length by omega, Nat.mod_self] at e; omega
        · rw [show j + 1 = os.length by omega, Nat.mod_self] at e
          by_cases c2 : k + 1 < os.length
          · rw [Nat.mod_eq_of_lt c2] at e; omega
          · omega
      rw [this]
  · have hu' := h.2 u (by omega)
    constructor
    · intro d hd; rw [ringM_stay ho m e hd]; exact hu'.1 d hd
    · intro d hd d' hd' q
      rw [ringM_stay ho m e hd, ringM_stay ho m e hd'] at q
      exact hu'.2 d hd d' hd' q
theorem PV.perm {g : List (List Int)} (hg : graphB g = true) {m : List Int} (h : PV g 7 m) : permB m = true := by
  simp only [permB, Bool.and_eq_true, List.all_eq_true, decide_eq_true_iff]
  constructor
  · intro x hx
    obtain ⟨t, ht, rfl⟩ := List.mem_iff_getElem.1 hx
    obtain ⟨u, hu, hd⟩ := ds_all hg t (by rw [← h.1]; exact ht)
    have := (h.2 u hu).1 _ hd
    rw [Int.toNat_natCast, show m.getD t 0 = m[t] by simp [ht]] at this
    have := ds_in g u _ this
    simp only [inB, decide_eq_true_eq, h.1]; omega
  · refine List.pairwise_iff_getElem.2 fun i j hi hj hij q => ?_
    obtain ⟨u, hu, hd⟩ := ds_all hg i (by rw [← h.1]; exact hi)
    obtain ⟨v, hv, hd'⟩ := ds_all hg j (by rw [← h.1]; exact hj)
    have k1 := (h.2 u hu).1 _ hd
    have k2 := (h.2 v hv).1 _ hd'
    have e1 : m.getD i 0 = m[i] := by simp [hi]
    have e2 : m.getD j 0 = m[j] := by simp [hj]
    rw [Int.toNat_natCast, e1] at k1
    rw [Int.toNat_natCast, e2, ← q] at k2
    have := ds_apart g k1 k2
    subst this
    have := (h.2 u hu).2 _ hd _ hd' (by rw [Int.toNat_natCast, Int.toNat_natCast, e1, e2]; exact q)
    omega

/-! ### the number of classes stays under a renaming -/
open Classical in
theorem cls_le_map {n : Nat} {E E' : Nat → Nat → Prop} (hE' : Eqv E') (φ : Nat → Nat) (hφ : ∀ x, x < n → φ x < n) (hr : ∀ x y, x < n → y < n → E' (φ x) (φ y) → E x y) : cls n E ≤ cls n E' := by
  unfold cls
  rw [List.countP_eq_length_filter, List.countP_eq_length_filter]
  have key : ∀ x, ∃ A, A ≤ φ x ∧ E' A (φ x) ∧ ∀ e, e < A → ¬ E' e (φ x) := fun x => least_of hE' (φ x)
  have h1 := fun x => (Classical.choose_spec (key x)).1
  have h2 := fun x => (Classical.choose_spec (key x)).2.1
  have h3 := fun x => (Classical.choose_spec (key x)).2.2
  generalize hf : (fun x => Classical.choose (key x)) = f at *
  have e1 : ∀ x, Classical.choose (key x) = f x := fun x => by rw [← hf]
  simp only [e1] at h1 h2 h3
  clear hf e1 key
  have hN : (((List.range n).filter fun d => decide (∀ e, e < d → ¬ E e d)).map f).Nodup := by
    unfold List.Nodup
    rw [List.pairwise_map]
    refine List.Pairwise.imp_of_mem ?_ (List.Pairwise.filter _ List.nodup_range)
    intro x y hx hy hne he
    simp only [List.mem_filter, List.mem_range, decide_eq_true_eq] at hx hy
    have hxy : E' (φ x) (φ y) := hE'.trans (hE'.symm (h2 x)) (by rw [he]; exact h2 y)
    have a := hr x y hx.1 hy.1 hxy
    have b := hr y x hy.1 hx.1 (hE'.symm hxy)
    rcases Nat.lt_or_gt_of_ne hne with h | h
    · exact hy.2 x h a
    · exact hx.2 y h b
  have := hN.length_le_of_subset (l₂ := (List.range n).filter fun d => decide (∀ e, e < d → ¬ E' e d)) (fun z hz => by
    obtain ⟨x, hx, rfl⟩ := List.mem_map.1 hz
    simp only [List.mem_filter, List.mem_range, decide_eq_true_eq] at hx ⊢
    refine ⟨Nat.lt_of_le_of_lt (h1 x) (hφ x hx.1), fun e he hE => h3 x e he (hE'.trans hE (h2 x))⟩)
  rwa [List.length_map] at this
theorem Con.image {g g' : Nat → Nat → Prop} {φ : Nat → Nat} (h : ∀ a b, g a b → Con g' (φ a) (φ b)) {a b : Nat} (hc : Con g a b) : Con g' (φ a) (φ b) := by
  induction hc with
  | rel h1 => exact h _ _ h1
  | refl a => exact .refl _
  | symm _ ih => exact .symm ih
  | trans _ _ ih1 ih2 => exact .trans ih1 ih2
/-- φ and ψ, one the other's way back, below n -/
structure Bij (n : Nat) (φ ψ : Nat → Nat) : Prop where
  fwd : ∀ x, x < n → φ x < n
  bwd : ∀ x, x < n → ψ x < n
  left : ∀ x, x < n → ψ (φ x) = x
  right : ∀ x, x < n → φ (ψ x) = x
theorem Bij.symm {n : Nat} {φ ψ : Nat → Nat} (h : Bij n φ ψ) : Bij n ψ φ := ⟨h.bwd, h.fwd, h.right, h.left⟩
theorem cls_same {n : Nat} {g g' : Nat → Nat → Prop} {φ ψ : Nat → Nat} (B : Bij n φ ψ) (h : ∀ a b, g a b → Con g' (φ a) (φ b)) (h' : ∀ a b, g' a b → Con g (ψ a) (ψ b)) : cls n (Con g) = cls n (Con g') := by
  refine Nat.le_antisymm (cls_le_map (Con.eqv g') φ B.fwd fun x y hx hy k => ?_) (cls_le_map (Con.eqv g) ψ B.bwd fun x y hx hy k => ?_)
  · have := Con.image h' k
    rwa [B.left x hx, B.left y hy] at this
  · have := Con.image h k
    rwa [B.right x hx, B.right y hy] at this
/-- two orders, one the other renamed -/
structure Ren (n : Nat) (φ ψ : Nat → Nat) (f f' : Nat → Nat) : Prop where
  bij : Bij n φ ψ
  low : ∀ x, x < n → f x < n
  at_ : ∀ x, x < n → f' (φ x) = φ (f x)
theorem Ren.back {n : Nat} {φ ψ f f' : Nat → Nat} (h : Ren n φ ψ f f') {x : Nat} (hx : x < n) : ψ (f' x) = f (ψ x) := by
  have k := h.at_ _ (h.bij.bwd x hx)
  rw [h.bij.right x hx] at k
  rw [k, h.bij.left _ (h.low _ (h.bij.bwd x hx))]
theorem Ren.cls {n : Nat} {φ ψ f f' : Nat → Nat} (h : Ren n φ ψ f f') : cls n (Con fun x y => x < n ∧ y = f x) = cls n (Con fun x y => x < n ∧ y = f' x) := by
  refine cls_same h.bij (fun a b hab => .rel ⟨h.bij.fwd a hab.1, by rw [h.at_ a hab.1, hab.2]⟩) (fun a b hab => .rel ⟨h.bij.bwd a hab.1, by rw [hab.2, h.back hab.1]⟩)
theorem Ren.cls2 {n : Nat} {φ ψ f f' g g' : Nat → Nat} (h : Ren n φ ψ f f') (k : Ren n φ ψ g g') : Pure.cls n (Con fun x y => (x < n ∧ y = f x) ∨ (x < n ∧ y = g x)) = Pure.cls n (Con fun x y => (x < n ∧ y = f' x) ∨ (x < n ∧ y = g' x)) := by
  refine cls_same h.bij (fun a b hab => ?_) (fun a b hab => ?_)
  · rcases hab with hab | hab
    · exact .rel (.inl ⟨h.bij.fwd a hab.1, by rw [h.at_ a hab.1, hab.2]⟩)
    · exact .rel (.inr ⟨h.bij.fwd a hab.1, by rw [k.at_ a hab.1, hab.2]⟩)
  · rcases hab with hab | hab
    · exact .rel (.inl ⟨h.bij.bwd a hab.1, by rw [hab.2, h.back hab.1]⟩)
    · exact .rel (.inr ⟨h.bij.bwd a hab.1, by rw [hab.2, k.back hab.1]⟩)
theorem mateR_fn (n : Nat) : mateR n = fun x y => x < n ∧ y = mt x := by
  funext x y; unfold mateR; rw [mt_is]
theorem cycN_fn (m : List Int) : cycN m = cls m.length (Con fun x y => x < m.length ∧ y = mf m x) := rfl
theorem partN_fn (m : List Int) : partN m = cls m.length (Con fun x y => (x < m.length ∧ y = mf m x) ∨ (x < m.length ∧ y = mt x)) := by
  unfold partN partR; rw [mateR_fn]; rfl
theorem genN_ren {m m' : List Int} {φ ψ : Nat → Nat} (hl : m'.length = m.length) (h2 : m.length % 2 = 0) (hm : permB m = true) (B : Bij m.length φ ψ) (h : ∀ x, x < m.length → mf m' (φ x) = φ (mf m x)) (ht : ∀ x, x < m.length → mt (φ x) = φ (mt x)) : genN m' = genN m := by
  have r1 : Ren m.length φ ψ (mf m) (mf m') := ⟨B, fun x hx => mf_lt hm hx, h⟩
  have r2 : Ren m.length φ ψ mt mt := ⟨B, fun x hx => mt_lt h2 hx, ht⟩
  have r3 : Ren m.length φ ψ (mf (dualM m)) (mf (dualM m')) := ⟨B, fun x hx => by
    have := mf_lt (dualM_perm hm h2) (x := x) (by rw [dualM_len]; exact hx)
    rwa [dualM_len] at this, fun x hx => by
    have e1 : mf (dualM m') (φ x) = mf m' (mt (φ x)) := by unfold mf; rw [dualM_get m' (by rw [hl]; exact B.fwd x hx)]
    have e2 : mf (dualM m) x = mf m (mt x) := by unfold mf; rw [dualM_get m hx]
    rw [e1, e2, ht x hx, h (mt x) (mt_lt h2 hx)]⟩
  have c1 := r1.cls
  have c3 := r3.cls
  have c2 := r1.cls2 r2
  unfold genN
  rw [cycN_fn m', cycN_fn m, partN_fn m', partN_fn m, cycN_fn (dualM m'), cycN_fn (dualM m), dualM_len, dualM_len, hl, ← c1, ← c2, ← c3]
/-! ### planar graphs: a rotation of genus nothing, and what renaming does to it -/
def endF (g : List (List Int)) (x : Nat) : Int := (g.getD (x / 2) []).getD (x % 2) 0
/-- m turns the darts of each vertex in one round -/
structure Rot (g : List (List Int)) (m : List Int) : Prop where
  len : m.length = 2 * g.length
  perm : permB m = true
  keep : ∀ x, x < 2 * g.length → endF g (mf m x) = endF g x
  one : ∀ x y, x < 2 * g.length → y < 2 * g.length → endF g x = endF g y → orbR m x y
def Planar (g : List (List Int)) : Prop := ∃ m, Rot g m ∧ genN m ≤ 0
/-- g renamed is g' -/
structure Iso (n : Nat) (g g' : List (List Int)) (φ ψ : Nat → Nat) : Prop where
  len : g.length = n
  len' : g'.length = n
  bij : Bij (2 * n) φ ψ
  mate : ∀ x, x < 2 * n → mt (φ x) = φ (mt x)
  ends : ∀ x, x < 2 * n → endF g' (φ x) = endF g x
theorem permB_map {n : Nat} {f : Nat → Nat} (h : ∀ x, x < n → f x < n) (hi : ∀ x y, x < n → y < n → f x = f y → x = y) : permB ((List.range n).map fun x => ((f x : Nat) : Int)) = true := by
  simp only [permB, Bool.and_eq_true, List.all_eq_true, decide_eq_true_iff, List.length_map, List.length_range]
  constructor
  · intro x hx
    simp only [List.mem_map, List.mem_range] at hx
    obtain ⟨d, hd, rfl⟩ := hx
    have := h d hd
    simp only [inB, decide_eq_true_eq]; omega
  · refine List.pairwise_map.2 (List.Pairwise.imp_of_mem (fun {a b} ha hb hab e => hab ?_) List.nodup_range)
    exact hi a b (List.mem_range.1 ha) (List.mem_range.1 hb) (by omega)
theorem mf_map {n : Nat} {f : Nat → Nat} {x : Nat} (hx : x < n) : mf ((List.range n).map fun x => ((f x : Nat) : Int)) x = f x := by
  unfold mf
  rw [List.getD_eq_getElem?_getD, List.getElem?_map, List.getElem?_range hx]
  simp
theorem Planar.iso {n : Nat} {g g' : List (List Int)} {φ ψ : Nat → Nat} (h : Iso n g g' φ ψ) (hp : Planar g) : Planar g' := by
  obtain ⟨m, R, hg⟩ := hp
  have hl : m.length = 2 * n := by rw [R.len, h.len]
  have B := h.bij
  have hf : ∀ x, x < 2 * n → mf m x < 2 * n := fun x hx => by have := mf_lt R.perm (x := x) (by omega); omega
  refine ⟨(List.range (2 * n)).map fun y => ((φ (mf m (ψ y)) : Nat) : Int), ⟨by rw [List.length_map, List.length_range, h.len'], ?_, fun y hy => ?_, fun x y hx hy e => ?_⟩, ?_⟩
  · refine permB_map (f := fun y => φ (mf m (ψ y))) (fun y hy => B.fwd _ (hf _ (B.bwd y hy))) (fun x y hx hy e => ?_)
    have e1 := congrArg ψ e
    rw [B.left _ (hf _ (B.bwd x hx)), B.left _ (hf _ (B.bwd y hy))] at e1
    have e2 := mf_inj R.perm (by have := B.bwd x hx; omega) (by have := B.bwd y hy; omega) e1
    rw [← B.right x hx, e2, B.right y hy]
  · rw [h.len'] at hy
    rw [mf_map (f := fun y => φ (mf m (ψ y))) hy, h.ends _ (hf _ (B.bwd y hy)), R.keep _ (by rw [h.len]; exact B.bwd y hy), ← h.ends _ (B.bwd y hy), B.right y hy]
  · rw [h.len'] at hx hy
    have k := R.one (ψ x) (ψ y) (by rw [h.len]; exact B.bwd x hx) (by rw [h.len]; exact B.bwd y hy) (by rw [← h.ends _ (B.bwd x hx), ← h.ends _ (B.bwd y hy), B.right x hx, B.right y hy]; exact e)
    have k2 := Con.image (φ := φ) (g' := stepR ((List.range (2 * n)).map fun y => ((φ (mf m (ψ y)) : Nat) : Int))) (fun a b hab => by
      have ha : a < 2 * n := by have := hab.1; omega
      refine .rel ⟨by rw [List.length_map, List.length_range]; exact B.fwd a ha, ?_⟩
      show φ b = mf ((List.range (2 * n)).map fun y => ((φ (mf m (ψ y)) : Nat) : Int)) (φ a)
      rw [mf_map (f := fun y => φ (mf m (ψ y))) (B.fwd a ha), B.left a ha]
      exact congrArg φ hab.2) k
    rw [B.right x hx, B.right y hy] at k2
    exact k2
  · have e := genN_ren (m := m) (m' := (List.range (2 * n)).map fun y => ((φ (mf m (ψ y)) : Nat) : Int)) (φ := φ) (ψ := ψ) (by rw [List.length_map, List.length_range, hl]) (by omega) R.perm (by rw [hl]; exact B) (fun x hx => by
      rw [hl] at hx
      rw [mf_map (f := fun y => φ (mf m (ψ y))) (B.fwd x hx), B.left x hx]) (fun x hx => h.mate x (by omega))
    omega
/-! ### the same edges in another order, turned or not -/
def Like (g g' : List (List Int)) : Prop := ∃ n φ ψ, Iso n g g' φ ψ
theorem Planar.like {g g' : List (List Int)} (h : Like g g') (hp : Planar g) : Planar g' := by
  obtain ⟨n, φ, ψ, i⟩ := h
  exact hp.iso i
theorem Like.trans {a b c : List (List Int)} (h : Like a b) (k : Like b c) : Like a c := by
  obtain ⟨n, φ, ψ, i⟩ := h
  obtain ⟨n', φ', ψ', j⟩ := k
  obtain rfl : n = n' := by rw [← i.len', j.len]
  refine ⟨n, fun x => φ' (φ x), fun x => ψ (ψ' x), i.len, j.len', ⟨fun x hx => j.bij.fwd _ (i.bij.fwd x hx), fun x hx => i.bij.bwd _ (j.bij.bwd x hx), fun x hx => ?_, fun x hx => ?_⟩, fun x hx => ?_, fun x hx => ?_⟩
  · show ψ (ψ' (φ' (φ x))) = x
    rw [j.bij.left _ (i.bij.fwd x hx), i.bij.left x hx]
  · show φ' (φ (ψ (ψ' x))) = x
    rw [i.bij.right _ (j.bij.bwd x hx), j.bij.right x hx]
  · show mt (φ' (φ x)) = φ' (φ (mt x))
    rw [j.mate _ (i.bij.fwd x hx), i.mate x hx]
  · show endF c (φ' (φ x)) = endF a x
    rw [j.ends _ (i.bij.fwd x hx), i.ends x hx]
theorem Like.refl (g : List (List Int)) : Like g g := ⟨g.length, fun x => x, fun x => x, rfl, rfl, ⟨fun _ h => h, fun _ h => h, fun _ _ => rfl, fun _ _ => rfl⟩, fun _ _ => rfl, fun _ _ => rfl⟩
def shF (φ : Nat → Nat) (x : Nat) : Nat := if x < 2 then x else φ (x - 2) + 2
theorem endF_cons (e : List Int) (g : List (List Int)) (x : Nat) : endF (e :: g) x = if x < 2 then e.getD x 0 else endF g (x - 2) := by
  unfold endF
  by_cases h : x < 2
  · rw [if_pos h, show x / 2 = 0 by omega, show x % 2 = x by omega]; rfl
  · rw [if_neg h, show x / 2 = (x - 2) / 2 + 1 by omega, show x % 2 = (x - 2) % 2 by omega]; rfl
theorem mt_sh {x : Nat} (h : 2 ≤ x) : mt x = mt (x - 2) + 2 ∧ 2 ≤ mt x := by unfold mt; split <;> split <;> omega
theorem Like.cons {g g' : List (List Int)} (e : List Int) (h : Like g g') : Like (e :: g) (e :: g') := by
  obtain ⟨n, φ, ψ, i⟩ := h
  refine ⟨n + 1, shF φ, shF ψ, by simp [i.len], by simp [i.len'], ⟨fun x hx => ?_, fun x hx => ?_, fun x hx => ?_, fun x hx => ?_⟩, fun x hx => ?_, fun x hx => ?_⟩
  · unfold shF; split
    · omega
    · have := i.bij.fwd (x - 2) (by omega); omega
  · unfold shF; split
    · omega
    · have := i.bij.bwd (x - 2) (by omega); omega
  · unfold shF
    by_cases h : x < 2
    · simp [h]
    · rw [if_neg h, if_neg (by omega), show φ (x - 2) + 2 - 2 = φ (x - 2) by omega, i.bij.left _ (by omega)]; omega
  · unfold shF
    by_cases h : x < 2
    · simp [h]
    · rw [if_neg h, if_neg (by omega), show ψ (x - 2) + 2 - 2 = ψ (x - 2) by omega, i.bij.right _ (by omega)]; omega
  · unfold shF
    by_cases h : x < 2
    · rw [if_pos h, if_pos (by unfold mt; split <;> omega)]
    · have a := mt_sh (x := x) (by omega)
      rw [if_neg h, if_neg (by omega), a.1, show mt (x - 2) + 2 - 2 = mt (x - 2) by omega, ← i.mate _ (by omega), (mt_sh (x := φ (x - 2) + 2) (by omega)).1, show φ (x - 2) + 2 - 2 = φ (x - 2) by omega]
  · rw [endF_cons, endF_cons]
    unfold shF
    by_cases h : x < 2
    · simp [h]
    · rw [if_neg h, if_neg (by omega), if_neg h, show φ (x - 2) + 2 - 2 = φ (x - 2) by omega, i.ends _ (by omega)]
def swF (x : Nat) : Nat := if x < 2 then x + 2 else if x < 4 then x - 2 else x
theorem Like.swap (e f : List Int) (g : List (List Int)) : Like (e :: f :: g) (f :: e :: g) := by
  refine ⟨g.length + 2, swF, swF, by simp, by simp, ⟨fun x hx => ?_, fun x hx => ?_, fun x hx => ?_, fun x hx => ?_⟩, fun x hx => ?_, fun x hx => ?_⟩
  · unfold swF; (repeat' split) <;> omega
  · unfold swF; (repeat' split) <;> omega
  · unfold swF; repeat' split
    all_goals omega
  · unfold swF; repeat' split
    all_goals omega
  · unfold swF mt; repeat' split
    all_goals omega
  · rw [endF_cons, endF_cons, endF_cons, endF_cons]
    unfold swF
    by_cases h : x < 2
    · rw [if_pos h, if_neg (by omega), show x + 2 - 2 = x by omega, if_pos h, if_pos h]
    · by_cases k : x < 4
      · rw [if_neg h, if_pos k, if_pos (by omega), if_neg h, if_pos (by omega)]
      · rw [if_neg h, if_neg k, if_neg h, if_neg (by omega), if_neg h, if_neg (by omega)]
theorem Like.perm {g g' : List (List Int)} (h : g.Perm g') : Like g g' := by
  induction h with
  | nil => exact Like.refl _
  | cons e _ ih => exact ih.cons e
  | swap e f g => exact Like.swap f e g
  | trans _ _ h k => exact h.trans k
def flF (x : Nat) : Nat := if x < 2 then 1 - x else x
theorem Like.flip (a b : Int) (g : List (List Int)) : Like ([a, b] :: g) ([b, a] :: g) := by
  refine ⟨g.length + 1, flF, flF, by simp, by simp, ⟨fun x hx => ?_, fun x hx => ?_, fun x hx => ?_, fun x hx => ?_⟩, fun x hx => ?_, fun x hx => ?_⟩
  · unfold flF; split <;> omega
  · unfold flF; split <;> omega
  · unfold flF; repeat' split
    all_goals omega
  · unfold flF; repeat' split
    all_goals omega
  · unfold flF mt; repeat' split
    all_goals omega
  · rw [endF_cons, endF_cons]
    unfold flF
    by_cases h : x < 2
    · rw [if_pos h, if_pos (by omega), if_pos h]
      rcases Nat.lt_or_ge x 1 with k | k
      · obtain rfl : x = 0 := by omega
        rfl
      · obtain rfl : x = 1 := by omega
        rfl
    · rw [if_neg h, if_neg h, if_neg h]
/-- an edge, its lesser end first -/
def upE (e : List Int) : List Int := if e.getD 0 0 ≤ e.getD 1 0 then e else [e.getD 1 0, e.getD 0 0]
theorem Like.up : ∀ (g : List (List Int)), (∀ e ∈ g, e.length = 2) → Like g (g.map upE)
  | [], _ => Like.refl _
  | e :: g, h => by
    have ih := (Like.up g (fun f hf => h f (List.mem_cons_of_mem _ hf))).cons e
    refine ih.trans ?_
    have he := h e List.mem_cons_self
    obtain ⟨a, b, rfl⟩ : ∃ a b, e = [a, b] := by
      match e, he with
      | [a, b], _ => exact ⟨a, b, rfl⟩
    rw [List.map_cons]
    unfold upE
    by_cases k : a ≤ b
    · rw [if_pos (by simpa using k)]; exact Like.refl _
    · rw [if_neg (by simpa using k)]; exact Like.flip a b _
theorem Like.symm {g g' : List (List Int)} (h : Like g g') : Like g' g := by
  obtain ⟨n, φ, ψ, i⟩ := h
  refine ⟨n, ψ, φ, i.len', i.len, i.bij.symm, fun x hx => ?_, fun x hx => ?_⟩
  · have h1 : mt (ψ x) < 2 * n := mt_lt (by omega) (i.bij.bwd x hx)
    have h2 : mt x < 2 * n := mt_lt (by omega) hx
    have e := i.mate (ψ x) (i.bij.bwd x hx)
    rw [i.bij.right x hx] at e
    rw [e, i.bij.left _ h1]
  · rw [← i.ends (ψ x) (i.bij.bwd x hx), i.bij.right x hx]
/-! ### planarity, checked by reckoning -/
open Classical in
theorem cls_ge {n : Nat} {E : Nat → Nat → Prop} (hE : Eqv E) (lab : Nat → Nat) (xs : List Nat) (hx : ∀ x ∈ xs, x < n) (hn : (xs.map lab).Nodup) (hl : ∀ x y, E x y → lab x = lab y) : xs.length ≤ cls n E := by
  unfold cls
  rw [List.countP_eq_length_filter]
  have key : ∀ x, ∃ A, A ≤ x ∧ E A x ∧ ∀ e, e < A → ¬ E e x := fun x => least_of hE x
  have h1 := fun x => (Classical.choose_spec (key x)).1
  have h2 := fun x => (Classical.choose_spec (key x)).2.1
  have h3 := fun x => (Classical.choose_spec (key x)).2.2
  generalize hf : (fun x => Classical.choose (key x)) = f at *
  have e1 : ∀ x, Classical.choose (key x) = f x := fun x => by rw [← hf]
  simp only [e1] at h1 h2 h3
  clear hf e1 key
  have hN : (xs.map f).Nodup := by
    unfold List.Nodup at hn ⊢
    rw [List.pairwise_map] at hn ⊢
    refine List.Pairwise.imp (fun {a b} hne he => hne ?_) hn
    exact hl _ _ (hE.trans (hE.symm (h2 a)) (by rw [he]; exact h2 b))
  have := hN.length_le_of_subset (l₂ := (List.range n).filter fun d => decide (∀ e, e < d → ¬ E e d)) (fun z hz => by
    obtain ⟨x, hx', rfl⟩ := List.mem_map.1 hz
    simp only [List.mem_filter, List.mem_range, decide_eq_true_eq]
    exact ⟨Nat.lt_of_le_of_lt (h1 x) (hx x hx'), fun e he hE' => h3 x e he (hE.trans hE' (h2 x))⟩)
  rwa [List.length_map] at this
open Classical in
theorem cls_le_lab {n : Nat} {E : Nat → Nat → Prop} (lab : Nat → Nat) (ls : List Nat) (hl : ∀ x, x < n → lab x ∈ ls) (h : ∀ x y, x < n → y < n → lab x = lab y → E x y) : cls n E ≤ ls.length := by
  unfold cls
  rw [List.countP_eq_length_filter]
  have hN : (((List.range n).filter fun d => decide (∀ e, e < d → ¬ E e d)).map lab).Nodup := by
    unfold List.Nodup
    rw [List.pairwise_map]
    refine List.Pairwise.imp_of_mem ?_ (List.Pairwise.filter _ List.nodup_range)
    intro x y hx hy hne he
    simp only [List.mem_filter, List.mem_range, decide_eq_true_eq] at hx hy
    rcases Nat.lt_or_gt_of_ne hne with k | k
    · exact hy.2 x k (h x y hx.1 hy.1 he)
    · exact hx.2 y k (h y x hy.1 hx.1 he.symm)
  have := hN.length_le_of_subset (l₂ := ls) (fun z hz => by
    obtain ⟨x, hx, rfl⟩ := List.mem_map.1 hz
    exact hl x (List.mem_range.1 (List.mem_filter.1 hx).1))
  rwa [List.length_map] at this
def memB (x : Nat) : List Nat → Bool
  | [] => false
  | y :: l => Nat.beq x y || memB x l
theorem memB_iff {x : Nat} : ∀ {l : List Nat}, memB x l = true ↔ x ∈ l
  | [] => by simp [memB]
  | y :: l => by simp [memB, memB_iff (l := l), Nat.beq_eq]
def ndB : List Nat → Bool
  | [] => true
  | x :: l => !memB x l && ndB l
theorem ndB_iff : ∀ {l : List Nat}, ndB l = true → l.Nodup
  | [], _ => List.nodup_nil
  | x :: l, h => by
    simp only [ndB, Bool.and_eq_true, Bool.not_eq_true'] at h
    exact List.nodup_cons.2 ⟨(fun hm => by rw [memB_iff.2 hm] at h; cases h.1), ndB_iff h.2⟩
def nth : List Nat → Nat → Nat
  | [], _ => 0
  | x :: _, 0 => x
  | _ :: l, i + 1 => nth l i
theorem nth_is : ∀ (l : List Nat) (i : Nat), nth l i = l.getD i 0
  | [], _ => rfl
  | _ :: _, 0 => rfl
  | _ :: l, i + 1 => nth_is l i
def endN : List (Nat × Nat) → Nat → Nat
  | [], _ => 0
  | e :: _, 0 => e.1
  | e :: _, 1 => e.2
  | _ :: es, x + 2 => endN es x
def toE (es : List (Nat × Nat)) : List (List Int) := es.map fun e => [(e.1 : Int), (e.2 : Int)]
theorem endN_is : ∀ (es : List (Nat × Nat)) (x : Nat), x < 2 * es.length → endF (toE es) x = (endN es x : Int)
  | [], x, h => by simp at h
  | e :: es, 0, _ => by unfold toE; rw [List.map_cons, endF_cons]; rfl
  | e :: es, 1, _ => by unfold toE; rw [List.map_cons, endF_cons]; rfl
  | e :: es, x + 2, h => by
    unfold toE; rw [List.map_cons, endF_cons, if_neg (by omega)]
    exact endN_is es x (by simp at h; omega)
def allN (p : Nat → Bool) : Nat → Bool
  | 0 => true
  | n + 1 => p n && allN p n
theorem allN_iff {p : Nat → Bool} : ∀ {n : Nat}, allN p n = true → ∀ x, x < n → p x = true
  | 0, _, x, hx => by omega
  | n + 1, h, x, hx => by
    simp only [allN, Bool.and_eq_true] at h
    by_cases e : x = n
    · rw [e]; exact h.1
    · exact allN_iff h.2 x (by omega)
def itL (m : List Nat) : Nat → Nat → List Nat
  | 0, _ => []
  | k + 1, d => d :: itL m k (nth m d)
def mtN : Nat → Nat
  | 0 => 1
  | 1 => 0
  | x + 2 => mtN x + 2
theorem mtN_is : ∀ x, mtN x = mt x
  | 0 => rfl
  | 1 => rfl
  | x + 2 => by rw [mtN, mtN_is x]; unfold mt; split <;> split <;> omega
/-- labels of the vertices, made one where an edge joins them -/
def joinL : List (Nat × Nat) → List Nat → List Nat
  | [], cl => cl
  | e :: es, cl => joinL es (cl.map fun z => if Nat.beq z (nth cl e.2) then nth cl e.1 else z)
/-- the graph's darts turn by m, its faces are labelled by fl (each from one of xf), xv leads to the vertices' darts (xw: those there are), its parts have labels in ls -/
def planB (es : List (Nat × Nat)) (m fl xv xw xf ls : List Nat) : Bool :=
  (Nat.beq m.length (2 * es.length) && (m.all (fun x => Nat.blt x (2 * es.length)) && ndB m)) &&
  (allN (fun x => Nat.beq (endN es (nth m x)) (endN es x)) (2 * es.length) &&
  (allN (fun x => memB x (itL m (2 * es.length) (nth xv (endN es x)))) (2 * es.length) &&
  (allN (fun x => Nat.beq (nth fl (nth m (mtN x))) (nth fl x)) (2 * es.length) &&
  ((xf.all (fun x => Nat.blt x (2 * es.length)) && ndB (xf.map (nth fl))) &&
  ((xw.all (fun x => Nat.blt x (2 * es.length)) && ndB (xw.map (endN es))) &&
  (allN (fun x => memB (nth (joinL es [0, 1, 2, 3, 4, 5, 6]) (endN es x)) ls) (2 * es.length) &&
  (es.all (fun e => Nat.blt e.1 7 && Nat.blt e.2 7) && Nat.ble (2 * ls.length + es.length) (xw.length + xf.length))))))))
def I (m : List Nat) : List Int := m.map Int.ofNat
theorem I_len (m : List Nat) : (I m).length = m.length := by simp [I]
theorem I_mf (m : List Nat) (x : Nat) : mf (I m) x = nth m x := by
  unfold mf I
  rw [nth_is, List.getD_eq_getElem?_getD, List.getElem?_map, List.getD_eq_getElem?_getD]
  cases m[x]? <;> simp
theorem joinL_is {G : Nat → Nat → Prop} (hG : Eqv G) : ∀ (es : List (Nat × Nat)) (cl : List Nat), (∀ e ∈ es, G e.1 e.2) → cl.length = 7 → (∀ e ∈ es, e.1 < 7 ∧ e.2 < 7) → (∀ u v, u < 7 → v < 7 → nth cl u = nth cl v → G u v) → ∀ u v, u < 7 → v < 7 → nth (joinL es cl) u = nth (joinL es cl) v → G u v
  | [], _, _, _, _, h => h
  | e :: es, cl, he, hl, hb, h => by
    rw [joinL]
    refine joinL_is hG es _ (fun f hf => he f (List.mem_cons_of_mem _ hf)) (by rw [List.length_map, hl]) (fun f hf => hb f (List.mem_cons_of_mem _ hf)) ?_
    have b := hb e List.mem_cons_self
    have ge := he e List.mem_cons_self
    have gm : ∀ u, u < 7 → nth (cl.map fun z => if Nat.beq z (nth cl e.2) then nth cl e.1 else z) u = if nth cl u = nth cl e.2 then nth cl e.1 else nth cl u := by
      intro u hu
      rw [nth_is, nth_is cl u, List.getD_eq_getElem?_getD, List.getElem?_map, List.getD_eq_getElem?_getD, List.getElem?_eq_getElem (by omega)]
      simp [Nat.beq_eq]
    intro u v hu hv k
    rw [gm u hu, gm v hv] at k
    split at k <;> split at k
    · rename_i k1 k2; exact h u v hu hv (k1.trans k2.symm)
    · rename_i k1 k2; exact hG.trans (h u e.2 hu b.2 k1) (hG.trans (hG.symm ge) (h e.1 v b.1 hv k))
    · rename_i k1 k2; exact hG.trans (h u e.1 hu b.1 k) (hG.trans ge (hG.symm (h v e.2 hv b.2 k2)))
    · exact h u v hu hv k
theorem itL_orb {m : List Nat} {n : Nat} (hl : m.length = n) (hb : ∀ x, x < n → nth m x < n) : ∀ (k d x : Nat), d < n → x ∈ itL m k d → orbR (I m) d x
  | 0, _, _, _, h => by cases h
  | k + 1, d, x, hd, h => by
    rcases List.mem_cons.1 h with e | h
    · rw [e]; exact .refl _
    · refine .trans (.rel ⟨by rw [I_len]; omega, rfl⟩) ?_
      have := itL_orb hl hb k (nth m d) x (hb d hd) h
      rwa [← I_mf] at this
theorem planB_is {es : List (Nat × Nat)} {m fl xv xw xf ls : List Nat} (hv : ∀ x ∈ xv, x < 2 * es.length) (hv7 : xv.length = 7) (h : planB es m fl xv xw xf ls = true) : Planar (toE es) := by
  simp only [planB, Bool.and_eq_true, List.all_eq_true, Nat.blt_eq] at h
  obtain ⟨⟨h1, h2, h3⟩, h4, h5, h6, ⟨h7, h8⟩, ⟨h9, h10⟩, h11, h12, h13⟩ := h
  replace h1 := Nat.eq_of_beq_eq_true h1
  have gl : (toE es).length = es.length := by simp [toE]
  have hb : ∀ x, x < 2 * es.length → nth m x < 2 * es.length := fun x hx => by
    refine h2 _ ?_
    rw [nth_is, List.getD_eq_getElem?_getD, List.getElem?_eq_getElem (by omega)]
    exact List.getElem_mem _
  have hperm : permB (I m) = true := by
    simp only [permB, Bool.and_eq_true, List.all_eq_true, decide_eq_true_iff, I_len]
    constructor
    · intro x hx
      obtain ⟨d, hd, rfl⟩ := List.mem_map.1 hx
      have := h2 d hd
      have e : Int.ofNat d = (d : Int) := rfl
      simp only [inB, decide_eq_true_eq, e]; omega
    · have := ndB_iff h3
      unfold List.Nodup at this
      exact List.pairwise_map.2 (this.imp fun {a b} hab e => hab (Int.ofNat.inj e))
  have hend7 : ∀ x, x < 2 * es.length → endN es x < 7 := by
    clear h1 h2 h3 h4 h5 h6 h7 h8 h9 h10 h11 h13 hb hperm hv gl
    induction es with
    | nil => intro x hx; simp at hx
    | cons e es ih =>
      have b := h12 e List.mem_cons_self
      intro x hx
      match x with
      | 0 => exact b.1
      | 1 => exact b.2
      | x + 2 => exact ih (fun f hf => h12 f (List.mem_cons_of_mem _ hf)) x (by simp at hx; omega)
  have hxv : ∀ u, u < 7 → nth xv u < 2 * es.length := fun u hu => by
    refine hv _ ?_
    rw [nth_is, List.getD_eq_getElem?_getD, List.getElem?_eq_getElem (by omega)]
    exact List.getElem_mem _
  have one : ∀ x y, x < 2 * es.length → y < 2 * es.length → endN es x = endN es y → orbR (I m) x y := fun x y hx hy e => by
    have a := itL_orb h1 hb _ _ x (hxv _ (hend7 x hx)) (memB_iff.1 (allN_iff h5 x hx))
    have b := itL_orb h1 hb _ _ y (hxv _ (hend7 y hy)) (memB_iff.1 (allN_iff h5 y hy))
    rw [e] at a
    exact .trans (.symm a) b
  have keep : ∀ x, x < 2 * es.length → endN es (nth m x) = endN es x := fun x hx => Nat.eq_of_beq_eq_true (allN_iff h4 x hx)
  have R : Rot (toE es) (I m) := ⟨by rw [I_len, gl, h1], hperm, fun x hx => by
    rw [gl] at hx
    rw [I_mf, endN_is es _ (hb x hx), endN_is es x hx, keep x hx], fun x y hx hy e => by
    rw [gl] at hx hy
    rw [endN_is es x hx, endN_is es y hy] at e
    exact one x y hx hy (by omega)⟩
  refine ⟨I m, R, ?_⟩
  have c1 : xw.length ≤ cycN (I m) := by
    refine cls_ge (Con.eqv _) (endN es) xw (fun x hx => by rw [I_len, h1]; exact h9 x hx) (ndB_iff h10) (fun x y k => Con.least (E := fun x y => endN es x = endN es y) ⟨fun _ => rfl, fun h => h.symm, fun h k => h.trans k⟩ (fun a b hab => ?_) k)
    have ha : a < 2 * es.length := by have := hab.1; rw [I_len] at this; omega
    have : b = nth m a := by rw [← I_mf]; exact hab.2
    rw [this, keep a ha]
  have hml : (I m).length % 2 = 0 := by rw [I_len, h1]; omega
  have c2 : xf.length ≤ cycN (dualM (I m)) := by
    refine cls_ge (Con.eqv _) (nth fl) xf (fun x hx => by rw [dualM_len, I_len, h1]; exact h7 x hx) (ndB_iff h8) (fun x y k => Con.least (E := fun x y => nth fl x = nth fl y) ⟨fun _ => rfl, fun h => h.symm, fun h k => h.trans k⟩ (fun a b hab => ?_) k)
    have ha : a < 2 * es.length := by have := hab.1; rw [dualM_len, I_len] at this; omega
    have : b = nth m (mt a) := by
      rw [← I_mf]
      have q := hab.2
      rw [dualM_get _ (by rw [I_len]; omega)] at q
      exact q
    rw [this, ← mtN_is]
    exact (Nat.eq_of_beq_eq_true (allN_iff h6 a ha)).symm
  have c3 : partN (I m) ≤ ls.length := by
    refine cls_le_lab (fun x => nth (joinL es [0, 1, 2, 3, 4, 5, 6]) (endN es x)) ls (fun x hx => memB_iff.1 (allN_iff h11 x (by rw [I_len] at hx; omega))) (fun x y hx hy e => ?_)
    rw [I_len, h1] at hx hy
    have G := joinL_is (G := fun u v => u = v ∨ ((∃ x, x < 2 * es.length ∧ endN es x = u) ∧ (∃ y, y < 2 * es.length ∧ endN es y = v) ∧ ∀ x y, x < 2 * es.length → y < 2 * es.length → endN es x = u → endN es y = v → partR (I m) x y)) ⟨fun _ => .inl rfl, fun {a b} h => ?_, fun {a b c} h k => ?_⟩ es [0, 1, 2, 3, 4, 5, 6] ?_ rfl h12 ?_ _ _ (hend7 x hx) (hend7 y hy) e
    · have up : ∀ a b, orbR (I m) a b → partR (I m) a b := fun a b h => Con.mono (fun x y k => .rel (.inl k)) h
      rcases G with G | ⟨_, _, G⟩
      · exact up _ _ (one x y hx hy G)
      · exact G x y hx hy rfl rfl
    · rcases h with h | ⟨h1, h2, h3⟩
      · exact .inl h.symm
      · exact .inr ⟨h2, h1, fun x y hx hy ex ey => .symm (h3 y x hy hx ey ex)⟩
    · rcases h with rfl | ⟨p1, p2, p3⟩
      · exact k
      · rcases k with rfl | ⟨q1, q2, q3⟩
        · exact .inr ⟨p1, p2, p3⟩
        · obtain ⟨z, hz, ez⟩ := p2
          exact .inr ⟨p1, q2, fun x y hx hy ex ey => .trans (p3 x z hx hz ex ez) (q3 z y hz hy ez ey)⟩
    · intro e' he'
      obtain ⟨i, hi, rfl⟩ := List.getElem_of_mem he'
      have ends : ∀ (es : List (Nat × Nat)) (i : Nat) (hi : i < es.length), endN es (2 * i) = es[i].1 ∧ endN es (2 * i + 1) = es[i].2 := by
        intro es
        induction es with
        | nil => intro i hi; simp at hi
        | cons e es ih =>
          intro i hi
          match i with
          | 0 => exact ⟨rfl, rfl⟩
          | i + 1 => exact ih i (by simp at hi; omega)
      have E := ends es i hi
      have up : ∀ a b, orbR (I m) a b → partR (I m) a b := fun a b h => Con.mono (fun x y k => .rel (.inl k)) h
      refine .inr ⟨⟨2 * i, by omega, E.1⟩, ⟨2 * i + 1, by omega, E.2⟩, fun x y hx hy ex ey => ?_⟩
      refine .trans (up _ _ (one x (2 * i) hx (by omega) (by rw [ex, E.1]))) (.trans (.rel (.inr ⟨by rw [I_len]; omega, ?_⟩)) (up _ _ (one (2 * i + 1) y (by omega) hy (by rw [ey, E.2]))))
      rw [mt_is]; unfold mt; split <;> omega
    · intro u v hu hv k
      left
      have id7 : ∀ u, u < 7 → nth [0, 1, 2, 3, 4, 5, 6] u = u := by decide
      rwa [id7 u hu, id7 v hv] at k
  have h13' := Nat.le_of_ble_eq_true h13
  unfold genN
  have e2 : (I m).length / 2 = es.length := by rw [I_len]; omega
  rw [e2]
  have t := tdiv_two ((cycN (I m) : Int) - ((es.length : Nat) : Int) + (cycN (dualM (I m)) : Int))
  omega

/-! ### a line drawn beside a line -/
open Classical in
theorem cls_le_map2 {n n' : Nat} {E E' : Nat → Nat → Prop} (hE' : Eqv E') (φ : Nat → Nat) (hφ : ∀ x, x < n → φ x < n') (hr : ∀ x y, x < n → y < n → E' (φ x) (φ y) → E x y) : cls n E ≤ cls n' E' := by
  have h := cls_ge (n := n') hE' (fun x => Classical.choose (least_of hE' x)) (((List.range n).filter fun d => decide (∀ e, e < d → ¬ E e d)).map φ) (fun x hx => by
    obtain ⟨y, hy, rfl⟩ := List.mem_map.1 hx
    exact hφ y (List.mem_range.1 (List.mem_filter.1 hy).1)) (by
    unfold List.Nodup
    rw [List.map_map, List.pairwise_map]
    refine List.Pairwise.imp_of_mem ?_ (List.Pairwise.filter _ List.nodup_range)
    intro x y hx hy hne he
    simp only [List.mem_filter, List.mem_range, decide_eq_true_eq] at hx hy
    have hxy : E' (φ x) (φ y) := by
      have a := (Classical.choose_spec (least_of hE' (φ x))).2.1
      have b := (Classical.choose_spec (least_of hE' (φ y))).2.1
      simp only [Function.comp] at he
      rw [he] at a
      exact hE'.trans (hE'.symm a) b
    have a := hr x y hx.1 hy.1 hxy
    have b := hr y x hy.1 hx.1 (hE'.symm hxy)
    rcases Nat.lt_or_gt_of_ne hne with k | k
    · exact hy.2 x k a
    · exact hx.2 y k b) (fun x y k => by
    have a := Classical.choose_spec (least_of hE' x)
    have b := Classical.choose_spec (least_of hE' y)
    refine Nat.le_antisymm (Nat.le_of_not_lt fun h => a.2.2 _ h (hE'.trans b.2.1 (hE'.symm k))) (Nat.le_of_not_lt fun h => b.2.2 _ h (hE'.trans a.2.1 k)))
  rw [List.length_map] at h
  unfold cls at h ⊢
  rw [List.countP_eq_length_filter]
  exact h
/-- m, with two darts 0 and 1 put in: 0 ahead of the old 0, 1 behind the old 1 -/
def parF (f : Nat → Nat) (y : Nat) : Nat := if y = 0 then 2 else if y = 1 then f 1 + 2 else if y = 3 then 1 else if f (y - 2) = 0 then 0 else f (y - 2) + 2
structure Par (n : Nat) (f : Nat → Nat) : Prop where
  two : 2 ≤ n
  even : n % 2 = 0
  low : ∀ x, x < n → f x < n
  inj : ∀ x y, x < n → y < n → f x = f y → x = y
  apart : f 1 ≠ 0
theorem Par.lt {n : Nat} {f : Nat → Nat} (h : Par n f) {y : Nat} (hy : y < n + 2) : parF f y < n + 2 := by
  have a := h.low 1 (by have := h.two; omega)
  have t := h.two
  unfold parF
  split
  · omega
  · split
    · omega
    · split
      · omega
      · split
        · omega
        · have := h.low (y - 2) (by omega); omega
theorem Par.inj' {n : Nat} {f : Nat → Nat} (h : Par n f) {x y : Nat} (hx : x < n + 2) (hy : y < n + 2) (e : parF f x = parF f y) : x = y := by
  have t := h.two
  have ap := h.apart
  have key : ∀ y, y < n + 2 → (y = 0 ∧ parF f y = 2) ∨ (y = 1 ∧ parF f y = f 1 + 2) ∨ (y = 3 ∧ parF f y = 1) ∨ (2 ≤ y ∧ y ≠ 3 ∧ f (y - 2) = 0 ∧ parF f y = 0) ∨ (2 ≤ y ∧ y ≠ 3 ∧ f (y - 2) ≠ 0 ∧ parF f y = f (y - 2) + 2) := by
    intro y hy
    unfold parF
    by_cases h0 : y = 0
    · left; simp [h0]
    · by_cases h1 : y = 1
      · right; left; simp [h1]
      · by_cases h3 : y = 3
        · right; right; left; simp [h3]
        · by_cases hf : f (y - 2) = 0
          · right; right; right; left; refine ⟨by omega, h3, hf, ?_⟩; simp [h0, h1, h3, hf]
          · right; right; right; right; refine ⟨by omega, h3, hf, ?_⟩; simp [h0, h1, h3, hf]
  have i := fun a b ha hb => h.inj a b ha hb
  rcases key x hx with ⟨a1, a2⟩ | ⟨a1, a2⟩ | ⟨a1, a2⟩ | ⟨a1, a2, a3, a4⟩ | ⟨a1, a2, a3, a4⟩ <;> rcases key y hy with ⟨b1, b2⟩ | ⟨b1, b2⟩ | ⟨b1, b2⟩ | ⟨b1, b2, b3, b4⟩ | ⟨b1, b2, b3, b4⟩ <;> first
    | omega
    | (have := i (x - 2) (y - 2) (by omega) (by omega) (by omega); omega)
    | (have := i 1 (y - 2) (by omega) (by omega) (by omega); omega)
    | (have := i (x - 2) 1 (by omega) (by omega) (by omega); omega)
/-- old steps are ways of the new -/
theorem Par.shift {n : Nat} {f : Nat → Nat} (h : Par n f) {R : Nat → Nat → Prop} (hR : Eqv R) (hs : ∀ y, y < n + 2 → R y (parF f y)) {x : Nat} (hx : x < n) : R (x + 2) (f x + 2) := by
  have t := h.two
  by_cases h1 : x = 1
  · have a := hs 3 (by omega)
    have b := hs 1 (by omega)
    rw [show parF f 3 = 1 by simp [parF]] at a
    rw [show parF f 1 = f 1 + 2 by simp [parF]] at b
    rw [h1]; exact hR.trans a b
  · have a := hs (x + 2) (by omega)
    by_cases h0 : f x = 0
    · rw [show parF f (x + 2) = 0 by unfold parF; rw [if_neg (by omega), if_neg (by omega), if_neg (by omega), show x + 2 - 2 = x by omega, if_pos h0]] at a
      have b := hs 0 (by omega)
      rw [show parF f 0 = 2 by simp [parF]] at b
      rw [h0]; exact hR.trans a b
    · rw [show parF f (x + 2) = f x + 2 by unfold parF; rw [if_neg (by omega), if_neg (by omega), if_neg (by omega), show x + 2 - 2 = x by omega, if_neg h0]] at a
      exact a
def downF (y : Nat) : Nat := if y < 2 then y else y - 2
theorem downF_two (x : Nat) : downF (x + 2) = x := by unfold downF; rw [if_neg (by omega)]; omega
/-- new steps are ways of the old -/
theorem Par.down {n : Nat} {f : Nat → Nat} (h : Par n f) {R : Nat → Nat → Prop} (hR : Eqv R) (hs : ∀ x, x < n → R x (f x)) {y : Nat} (hy : y < n + 2) : R (downF y) (downF (parF f y)) := by
  have t := h.two
  unfold parF
  by_cases h0 : y = 0
  · rw [if_pos h0, h0]; exact hR.refl 0
  · by_cases h1 : y = 1
    · rw [if_neg h0, if_pos h1, h1]
      have := hs 1 (by omega)
      rw [downF_two]; exact this
    · by_cases h3 : y = 3
      · rw [if_neg h0, if_neg h1, if_pos h3, h3]; exact hR.refl 1
      · rw [if_neg h0, if_neg h1, if_neg h3]
        have := hs (y - 2) (by omega)
        have e : downF y = y - 2 := by unfold downF; rw [if_neg (by omega)]
        rw [e]
        by_cases hf : f (y - 2) = 0
        · rw [if_pos hf]; rw [hf] at this; exact this
        · rw [if_neg hf, downF_two]; exact this
theorem Con.steps {n : Nat} {f : Nat → Nat} {x : Nat} (hx : x < n) : Con (fun x y => x < n ∧ y = f x) x (f x) := .rel ⟨hx, rfl⟩
theorem Par.verts {n : Nat} {f : Nat → Nat} (h : Par n f) : cls n (Con fun x y => x < n ∧ y = f x) ≤ cls (n + 2) (Con fun x y => x < n + 2 ∧ y = parF f x) := by
  refine cls_le_map2 (Con.eqv _) (fun x => x + 2) (fun x hx => by omega) (fun x y hx hy k => ?_)
  have := Con.image (φ := downF) (g' := fun x y => x < n ∧ y = f x) (fun a b hab => by
    rw [hab.2]; exact h.down (Con.eqv _) (fun x hx => Con.steps hx) hab.1) k
  rw [downF_two, downF_two] at this; exact this
theorem Par.parts {n : Nat} {f : Nat → Nat} (h : Par n f) : cls (n + 2) (Con fun x y => (x < n + 2 ∧ y = parF f x) ∨ (x < n + 2 ∧ y = mt x)) ≤ cls n (Con fun x y => (x < n ∧ y = f x) ∨ (x < n ∧ y = mt x)) := by
  have t := h.two
  have near : ∀ y, y < n + 2 → Con (fun x y => (x < n + 2 ∧ y = parF f x) ∨ (x < n + 2 ∧ y = mt x)) y (downF y + 2) := by
    intro y hy
    unfold downF
    by_cases h0 : y = 0
    · rw [if_pos (by omega), h0]; exact .rel (.inl ⟨by omega, by simp [parF]⟩)
    · by_cases h1 : y = 1
      · rw [if_pos (by omega), h1]; exact .symm (.rel (.inl ⟨by omega, by simp [parF]⟩))
      · rw [if_neg (by omega), show y - 2 + 2 = y by omega]; exact .refl _
  refine cls_le_map2 (Con.eqv _) downF (fun y hy => by unfold downF; split <;> omega) (fun x y hx hy k => ?_)
  have := Con.image (φ := fun x => x + 2) (g' := fun x y => (x < n + 2 ∧ y = parF f x) ∨ (x < n + 2 ∧ y = mt x)) (fun a b hab => by
    rcases hab with hab | hab
    · rw [hab.2]; exact h.shift (Con.eqv _) (fun y hy => .rel (.inl ⟨hy, rfl⟩)) hab.1
    · rw [hab.2]; exact .rel (.inr ⟨by have := hab.1; omega, by
        have := mt_sh (x := a + 2) (by omega)
        simp only [Nat.add_sub_cancel] at this
        rw [this.1]⟩)) k
  exact .trans (near x hx) (.trans this (.symm (near y hy)))
def upF (x : Nat) : Nat := if x = 0 then 0 else x + 2
def dnF (y : Nat) : Nat := if y = 0 then 0 else y - 2
open Classical in
theorem Par.faces {n : Nat} {f : Nat → Nat} (h : Par n f) : cls n (Con fun x y => x < n ∧ y = f (mt x)) + 1 ≤ cls (n + 2) (Con fun x y => x < n + 2 ∧ y = parF f (mt x)) := by
  have t := h.two
  have ev := h.even
  have key : ∀ x, ∃ A, A ≤ x ∧ Con (fun x y => x < n ∧ y = f (mt x)) A x ∧ ∀ e, e < A → ¬ Con (fun x y => x < n ∧ y = f (mt x)) e x := fun x => least_of (Con.eqv _) x
  have h1 := fun x => (Classical.choose_spec (key x)).1
  have h2 := fun x => (Classical.choose_spec (key x)).2.1
  have h3 := fun x => (Classical.choose_spec (key x)).2.2
  generalize hf : (fun x => Classical.choose (key x)) = L at *
  have e1 : ∀ x, Classical.choose (key x) = L x := fun x => by rw [← hf]
  simp only [e1] at h1 h2 h3
  clear hf e1 key
  have same : ∀ x y, Con (fun x y => x < n ∧ y = f (mt x)) x y → L x = L y := fun x y k =>
    Nat.le_antisymm (Nat.le_of_not_lt fun q => h3 x _ q (.trans (h2 y) (.symm k))) (Nat.le_of_not_lt fun q => h3 y _ q (.trans (h2 x) k))
  have step : ∀ x, x < n → L (f (mt x)) = L x := fun x hx => (same x _ (.rel ⟨hx, rfl⟩)).symm
  have H := cls_ge (n := n + 2) (E := Con fun x y => x < n + 2 ∧ y = parF f (mt x)) (Con.eqv _) (fun y => if y = 1 ∨ y = 2 then n else L (dnF y)) (1 :: ((List.range n).filter fun d => decide (∀ e, e < d → ¬ Con (fun x y => x < n ∧ y = f (mt x)) e d)).map upF) (fun x hx => by
    rcases List.mem_cons.1 hx with e | hx
    · omega
    · obtain ⟨y, hy, rfl⟩ := List.mem_map.1 hx
      have := List.mem_range.1 (List.mem_filter.1 hy).1
      unfold upF; split <;> omega) (by
    rw [List.map_cons, if_pos (.inl rfl), List.map_map]
    have up : ∀ x, ¬ (upF x = 1 ∨ upF x = 2) ∧ dnF (upF x) = x := fun x => by unfold upF dnF; (repeat' split) <;> omega
    have ev2 : ((List.range n).filter fun d => decide (∀ e, e < d → ¬ Con (fun x y => x < n ∧ y = f (mt x)) e d)).map ((fun y => if y = 1 ∨ y = 2 then n else L (dnF y)) ∘ upF) = ((List.range n).filter fun d => decide (∀ e, e < d → ¬ Con (fun x y => x < n ∧ y = f (mt x)) e d)).map L := by
      refine List.map_congr_left fun x _ => ?_
      show (if upF x = 1 ∨ upF x = 2 then n else L (dnF (upF x))) = L x
      rw [if_neg (up x).1, (up x).2]
    rw [ev2]
    refine List.nodup_cons.2 ⟨fun hm => ?_, ?_⟩
    · obtain ⟨x, hx, e⟩ := List.mem_map.1 hm
      have := List.mem_range.1 (List.mem_filter.1 hx).1
      have := h1 x
      omega
    · unfold List.Nodup
      rw [List.pairwise_map]
      refine List.Pairwise.imp_of_mem ?_ (List.Pairwise.filter _ List.nodup_range)
      intro x y hx hy hne he
      simp only [List.mem_filter, List.mem_range, decide_eq_true_eq] at hx hy
      have a : L x = x := Nat.le_antisymm (h1 x) (Nat.le_of_not_lt fun q => hx.2 _ q (h2 x))
      have b : L y = y := Nat.le_antisymm (h1 y) (Nat.le_of_not_lt fun q => hy.2 _ q (h2 y))
      omega) (fun x y k => Con.least (E := fun a b => (if a = 1 ∨ a = 2 then n else L (dnF a)) = (if b = 1 ∨ b = 2 then n else L (dnF b))) ⟨fun _ => rfl, fun h => h.symm, fun h k => h.trans k⟩ (fun a b hab => ?_) k)
  · rw [List.length_cons, List.length_map] at H
    unfold cls at H ⊢
    rw [List.countP_eq_length_filter]
    exact H
  · obtain ⟨ha, rfl⟩ := hab
    have ap := h.apart
    by_cases a0 : a = 0
    · subst a0
      have e : parF f (mt 0) = f 1 + 2 := by simp [parF, mt]
      rw [e, if_neg (by omega), if_neg (by omega), show dnF (f 1 + 2) = f 1 by unfold dnF; rw [if_neg (by omega)]; omega]
      exact (step 0 (by omega)).symm
    · by_cases a1 : a = 1
      · subst a1
        have e : parF f (mt 1) = 2 := by simp [parF, mt]
        rw [e]; simp
      · by_cases a2 : a = 2
        · subst a2
          have e : parF f (mt 2) = 1 := by simp [parF, mt]
          rw [e]; simp
        · have hm := mt_sh (x := a) (by omega)
          have hmn : mt (a - 2) < n := mt_lt ev (by omega)
          have m3 : mt a ≠ 3 := by unfold mt; split <;> omega
          have st := step (a - 2) (by omega)
          rw [if_neg (by omega), show dnF a = a - 2 by unfold dnF; rw [if_neg a0]]
          have e : parF f (mt a) = if f (mt (a - 2)) = 0 then 0 else f (mt (a - 2)) + 2 := by
            unfold parF
            rw [if_neg (by omega), if_neg (by omega), if_neg m3, show mt a - 2 = mt (a - 2) by omega]
          rw [e]
          by_cases hf : f (mt (a - 2)) = 0
          · rw [if_pos hf, if_neg (by omega), show dnF 0 = 0 by rfl]
            rw [hf] at st; exact st.symm
          · rw [if_neg hf, if_neg (by omega), show dnF (f (mt (a - 2)) + 2) = f (mt (a - 2)) by unfold dnF; rw [if_neg (by omega)]; omega]
            exact st.symm
end Go.Proofs.YtafpbabiahjjaaaGreatDoor.Pure
