/- Pure side of FnExactGraphText: the printed functions of the program and of the reference answer alike at every input that the statement takes; no condition beyond the printed statement's bounds. -/
import Derived.Test.YtkjflikcifcnkaaDoorPFnExactGraphTextx5
import Derived.Test.YtkjflikcifcnkaaDoorWSized
set_option linter.unusedVariables false
set_option linter.unusedSimpArgs false
set_option linter.unnecessarySimpa false
set_option maxRecDepth 10000
/-- the printed row calls the print's word by this name -/
abbrev Go.Proofs.YtkjflikcifcnkaaDoor.PrintWords.sized_ints := @Go.Proofs.YtkjflikcifcnkaaDoorW.PrintWords.sized_ints
namespace Go.Proofs.YtkjflikcifcnkaaDoor.Pure
open Go.RowKit Go.Proofs.YtkjflikcifcnkaaDoor.PFnExactGraphText Go.Proofs.YtkjflikcifcnkaaDoorW.PrintWords Go.Proofs.YtkjflikcifcnkaaDoorW.PrintLast Go.Proofs.YtkjflikcifcnkaaDoorW.PrintMore

/-! ### Base: words of our own, of no program -/
section
theorem w64 {x : Int} (h1 : -9223372036854775808 ≤ x) (h2 : x ≤ 9223372036854775807) : wrap64 x = x := by
  unfold wrap64; omega
theorem wf64 {x : Int} (h : (Lit.int .i64 x).wf = true) : -9223372036854775808 ≤ x ∧ x ≤ 9223372036854775807 := by
  simp only [Lit.wf, IntKind.min, IntKind.max, IntKind.signed, IntKind.bits, Bool.and_eq_true, decide_eq_true_eq, if_true] at h
  omega
/-- from some number of rounds on it answers r -/
structure EV {α : Type} (g : Nat → Option α) (r : α) : Prop where mk :: (out : ∃ K, ∀ k, K ≤ k → g k = some r)
theorem EV.now {α : Type} (r : α) : EV (fun _ => some r) r := ⟨0, fun _ _ => rfl⟩
theorem EV.rounds {α : Type} {g : Nat → Option α} {r : α} (h : EV g r) : ∃ k, g k = some r := by
  obtain ⟨K, h⟩ := h
  exact ⟨K, h K (Nat.le_refl _)⟩
theorem EV.bind {α β : Type} {g : Nat → Option α} {f : Nat → α → Option β} {a : α} {r : β} (h : EV g a) (k : EV (fun n => f n a) r) : EV (fun n => (g n).bind (f n)) r := by
  obtain ⟨K, h⟩ := h
  obtain ⟨K', k⟩ := k
  refine ⟨max K K', fun n hn => ?_⟩
  have h1 := h n (by omega)
  have h2 := k n (by omega)
  simp only [h1, Option.bind_some]
  exact h2
theorem EV.step {α : Type} {g f : Nat → Option α} {r : α} (h : ∀ k, g (k + 1) = f k) (k : EV f r) : EV g r := by
  obtain ⟨K, k⟩ := k
  refine ⟨K + 1, fun n hn => ?_⟩
  obtain ⟨m, rfl⟩ : ∃ m, n = m + 1 := ⟨n - 1, by omega⟩
  rw [h]
  exact k m (by omega)
theorem EV.congr {α : Type} {g f : Nat → Option α} {r : α} (h : ∀ k, g k = f k) (k : EV f r) : EV g r := by
  obtain ⟨K, k⟩ := k
  exact ⟨K, fun n hn => (h n).trans (k n hn)⟩
theorem EV.pos {α : Type} {c : Prop} [Decidable c] {a b : Nat → Option α} {r : α} (h : c) (k : EV a r) : EV (fun n => if c then a n else b n) r :=
  EV.congr (fun n => if_pos h) k
theorem EV.neg {α : Type} {c : Prop} [Decidable c] {a b : Nat → Option α} {r : α} (h : ¬ c) (k : EV b r) : EV (fun n => if c then a n else b n) r :=
  EV.congr (fun n => if_neg h) k
theorem EV.cases {α : Type} {c : Prop} [Decidable c] {a b : Nat → Option α} {r : α} (h : c → EV a r) (h' : ¬ c → EV b r) : EV (fun n => if c then a n else b n) r := by
  by_cases hc : c
  · exact EV.pos hc (h hc)
  · exact EV.neg hc (h' hc)
/-- a callee without rounds -/
theorem EV.by {α β : Type} {g : Option α} {f : Nat → α → Option β} {a : α} {r : β} (h : g = some a) (k : EV (fun n => f n a) r) : EV (fun n => g.bind (f n)) r := by
  subst h; exact k
theorem EV.is {α : Type} {g : Option α} {r : α} (h : g = some r) : EV (fun _ => g) r := ⟨0, fun _ _ => h⟩
theorem EV.eq {α : Type} {g : Nat → Option α} {r r' : α} (h : EV g r) (e : r = r') : EV g r' := e ▸ h
theorem rd_app (pre : List Int) (x : Int) (suf : List Int) : rd (pre ++ x :: suf) (pre.length : Int) = x := by
  simp [rd]
theorem rd_nat (xs : List Int) (i : Nat) (h : i < xs.length) : rd xs (i : Int) = xs[i] := by
  simp [rd, h]
theorem set_app {α : Type} (pre : List α) (x y : α) (suf : List α) (n : Nat) (hn : n = pre.length) : (pre ++ x :: suf).set n y = pre ++ y :: suf := by
  subst hn; simp
end
def smallB (x : Int) : Bool := decide (-1000 ≤ x ∧ x ≤ 1000)
/-- one index on -/
theorem up {α : Type} {x : α} {pre : List α} (h : pre.length < 4611686018427387904) : wrap64 ((pre.length : Int) + 1) = ((pre ++ [x]).length : Int) := by
  rw [w64 (by omega) (by omega)]; simp
theorem lt_app {α : Type} (pre : List α) (x : α) (suf : List α) : (pre.length : Int) < ((pre ++ x :: suf).length : Int) := by simp; omega
def classB (g : Int) (xs : List Int) : Bool := decide (1 ≤ g ∧ g ≤ 3) && (decide ((xs.length : Int) = 2 * g) && xs.all smallB)
theorem EV.uniq {α : Type} {g : Nat → Option α} {r r' : α} (h : EV g r) (h' : EV g r') : r = r' := by
  obtain ⟨K, h⟩ := h
  obtain ⟨K', h'⟩ := h'
  have a := h (max K K') (by omega)
  have b := h' (max K K') (by omega)
  rw [a] at b; exact Option.some.inj b
/-- from some number of rounds on -/
def Evt (P : Nat → Prop) : Prop := ∃ K, ∀ k, K ≤ k → P k
theorem Evt.and {P Q : Nat → Prop} (h : Evt P) (h' : Evt Q) : Evt (fun k => P k ∧ Q k) := by
  obtain ⟨K, h⟩ := h
  obtain ⟨K', h'⟩ := h'
  exact ⟨max K K', fun k hk => ⟨h k (by omega), h' k (by omega)⟩⟩
theorem Evt.const {p : Prop} (h : p) : Evt (fun _ => p) := ⟨0, fun _ _ => h⟩
theorem EV.evt {α : Type} {g : Nat → Option α} {r : α} (h : EV g r) : Evt (fun k => g k = some r) := h.out
theorem Evt.imp {P Q : Nat → Prop} (h : Evt P) (f : ∀ k, P k → Q k) : Evt Q := by
  obtain ⟨K, h⟩ := h
  exact ⟨K, fun k hk => f k (h k hk)⟩
theorem Evt.rounds {P : Nat → Prop} (h : Evt P) : ∃ k, P k := by
  obtain ⟨K, h⟩ := h
  exact ⟨K, h K (Nat.le_refl _)⟩
theorem EV.mono {α : Type} {g : Nat → Option α} (hg : ∀ k, LeO (g k) (g (k + 1))) {k : Nat} {r : α} (h : g k = some r) : EV g r := ⟨k, fun _ hk => at_rounds hg hk h⟩

theorem laws_szIntS_is (xs : List Int) (left : Int) (h0 : 0 ≤ left) (h1 : left ≤ 1048576) (h2 : xs.length ≤ 9223372036854775807) : laws_szIntS.f xs left = some (if (xs.length : Int) ≤ left then left - xs.length else -1) := by
  unfold laws_szIntS.f
  rw [w64 (by omega) (by omega)]
  by_cases h : (xs.length : Int) ≤ left
  · rw [if_neg (by omega), if_pos h]
  · rw [if_pos (by omega), if_neg h]

def marks : Nat → Int → List Int
  | 0, _ => []
  | n + 1, k => k :: marks n (k + 1)
theorem marks_length (n : Nat) : ∀ k, (marks n k).length = n := by
  induction n with
  | zero => intro k; rfl
  | succ n ih => intro k; simp [marks, ih]

theorem rdL_app (pre : List (List Int)) (x : List Int) (suf : List (List Int)) : rd_L1 (pre ++ x :: suf) (pre.length : Int) = x := by
  simp [rd_L1]
theorem rdL_nat (xs : List (List Int)) (i : Nat) (h : i < xs.length) : rd_L1 xs (i : Int) = xs[i] := by
  simp [rd_L1, h]

def total : List (List Int) → Nat
  | [] => 0
  | r :: rs => r.length + total rs
def marksL : List (List Int) → Int → List (List Int)
  | [], _ => []
  | r :: rs, k => marks r.length k :: marksL rs (k + r.length)
theorem total_mem {r : List Int} : ∀ {xs : List (List Int)}, r ∈ xs → r.length ≤ total xs
  | [], h => by cases h
  | x :: xs, h => by
    rcases List.mem_cons.1 h with rfl | h
    · simp [total]
    · have := total_mem h; simp only [total]; omega
theorem marksL_length : ∀ (xs : List (List Int)) (k : Int), (marksL xs k).length = xs.length
  | [], _ => rfl
  | x :: xs, k => by simp [marksL, marksL_length xs]
/-- what szIntSS answers -/
def szM (xs : List (List Int)) (left : Int) : Int := if (xs.length : Int) + total xs ≤ left then left - xs.length - total xs else -1

theorem laws_szIntSS_l0 (xs : List (List Int)) (hn : xs.length < 4611686018427387904) (hr : ∀ r ∈ xs, r.length ≤ 9223372036854775807) : ∀ (suf pre : List (List Int)) (left : Int), xs = pre ++ suf → 0 ≤ left → left ≤ 1048576 →
    EV (fun k => laws_szIntSS.l0 k xs left (pre.length : Int)) (if (total suf : Int) ≤ left then left - total suf else -1) := by
  intro suf
  induction suf with
  | nil =>
    intro pre left h h0 h1
    refine EV.step (fun k => by rw [laws_szIntSS.l0]) ?_
    exact EV.neg (by subst h; simp) ((EV.now _).eq (by rw [if_pos (by simp [total]; omega)]; simp [total]))
  | cons x suf ih =>
    intro pre left h h0 h1
    have hl : pre.length < 4611686018427387904 := by subst h; simp at hn; omega
    have hlt : (pre.length : Int) < (xs.length : Int) := by subst h; exact lt_app ..
    have hx : rd_L1 xs (pre.length : Int) = x := by subst h; exact rdL_app ..
    have hx' : x.length ≤ 9223372036854775807 := hr x (by subst h; simp)
    refine EV.step (fun k => by rw [laws_szIntSS.l0]) ?_
    rw [hx, up (x := x) hl]
    refine EV.pos hlt (EV.pos (by omega) (EV.by (laws_szIntS_is x left h0 h1 hx') ?_))
    by_cases hs : (x.length : Int) ≤ left
    · rw [if_pos hs]
      refine EV.neg (by omega) ((ih (pre ++ [x]) (left - x.length) (by simp [h]) (by omega) (by omega)).eq ?_)
      have e : total (x :: suf) = x.length + total suf := rfl
      by_cases ht : (total suf : Int) ≤ left - x.length
      · rw [if_pos ht, if_pos (by rw [e]; omega), e]; omega
      · rw [if_neg ht, if_neg (by rw [e]; omega)]
    · rw [if_neg hs]
      exact EV.pos (by omega) ((EV.now _).eq (by rw [if_neg (by simp only [total]; omega)]))
theorem laws_szIntSS_is (xs : List (List Int)) (left : Int) (h0 : 0 ≤ left) (h1 : left ≤ 1048576) (hn : xs.length ≤ 9223372036854775807) (hr : ∀ r ∈ xs, r.length ≤ 9223372036854775807) : EV (fun k => laws_szIntSS.f k xs left) (szM xs left) := by
  unfold szM
  have e : wrap64 (left - (xs.length : Int)) = left - xs.length := w64 (by omega) (by omega)
  refine EV.congr (fun k => by rw [laws_szIntSS.f, e]) ?_
  by_cases h : (xs.length : Int) ≤ left
  · refine EV.neg (by omega) ((laws_szIntSS_l0 xs (by omega) hr xs [] (left - xs.length) rfl (by omega) (by omega)).eq ?_)
    by_cases ht : (total xs : Int) ≤ left - xs.length
    · rw [if_pos ht, if_pos (by omega)]
    · rw [if_neg ht, if_neg (by omega)]
  · exact EV.pos (by omega) ((EV.now _).eq (by rw [if_neg (by omega)]))

/-- the decimal numeral -/
def fmtM (n : Int) : ByteArray := ⟨(Lib.itoa n).toArray⟩
def bs (l : List UInt8) : ByteArray := ⟨l.toArray⟩
theorem bs_app (a b : List UInt8) : bs a ++ bs b = bs (a ++ b) := by
  apply ByteArray.ext
  simp [bs]
theorem bs_size (a : List UInt8) : (bs a).size = a.length := by simp [bs, ByteArray.size]
theorem digs_len (d : Nat) : ∀ u, 0 < u → u < 10 ^ d → (Lib.decDigits u).length ≤ d := by
  induction d with
  | zero => intro u h0 h; simp at h; omega
  | succ d ih =>
    intro u h0 h
    rw [Lib.decDigits]
    by_cases c : u < 10
    · rw [dif_pos c]; simp
    · rw [dif_neg c]
      have := ih (u / 10) (by omega) (by rw [Nat.pow_succ] at h; omega)
      simp; omega
theorem fmtM_size (n : Int) (h1 : -9223372036854775808 ≤ n) (h2 : n ≤ 9223372036854775807) : (fmtM n).size ≤ 21 := by
  have a : ∀ u : Nat, u < 10 ^ 20 → (Lib.decDigits u).length ≤ 20 := by
    intro u hu
    by_cases h : u = 0
    · subst h; rw [Lib.decDigits]; simp
    · exact digs_len 20 u (by omega) hu
  show (bs (Lib.itoa n)).size ≤ 21
  rw [bs_size]; unfold Lib.itoa
  split
  · have := a n.natAbs (by omega); simp; omega
  · have := a n.toNat (by omega); omega
theorem wrap_neg (a : Int) (h : -100 ≤ a ∧ a ≤ 100) : wrap64 (-a) = -a := w64 (by omega) (by omega)

theorem spec_FormatInt_l0 (b : Bool) : ∀ (d : Nat) (n : Int) (out : List UInt8), n.natAbs < 10 ^ d → -9223372036854775808 ≤ n → n ≤ 9223372036854775807 → out.length + d ≤ 50 →
    EV (fun k => spec_FormatInt.l0 k n b (bs out)) (bs ((if b = true then [45] else []) ++ ((if n = 0 then [] else Lib.decDigits n.natAbs) ++ out))) := by
  intro d
  induction d with
  | zero =>
    intro n out h _ _ hs
    have h0 : n = 0 := by simp at h; omega
    refine EV.step (fun k => by rw [spec_FormatInt.l0]) (EV.pos h0 ?_)
    refine EV.cases (fun hb => ?_) (fun hb => (EV.now _).eq (by simp [hb, h0]))
    exact EV.pos (by rw [bs_size]; omega) ((EV.now _).eq (by show bs [45] ++ bs out = _; rw [bs_app]; simp [hb, h0]))
  | succ d ih =>
    intro n out h h1 h2 hs
    refine EV.step (fun k => by rw [spec_FormatInt.l0]) ?_
    by_cases h0 : n = 0
    · refine EV.pos h0 ?_
      refine EV.cases (fun hb => ?_) (fun hb => (EV.now _).eq (by simp [hb, h0]))
      exact EV.pos (by rw [bs_size]; omega) ((EV.now _).eq (by show bs [45] ++ bs out = _; rw [bs_app]; simp [hb, h0]))
    · have q1 : (Int.tdiv n 10).natAbs = n.natAbs / 10 := by rw [Int.natAbs_tdiv]; rfl
      have q2 : (Int.tmod n 10).natAbs = n.natAbs % 10 := by rw [Int.natAbs_tmod]; rfl
      have hm : n.natAbs % 10 < 10 := Nat.mod_lt _ (by omega)
      have e : wrap64 (Int.tdiv n 10) = Int.tdiv n 10 := w64 (by omega) (by omega)
      have key : ∀ c : Int, c = 48 + ((n.natAbs % 10 : Nat) : Int) →
          EV (fun k => (some ([c % 256] : List Int)).bind fun y => if (strOfNums y).size + (bs out).size ≤ 9223372036854775807 then spec_FormatInt.l0 k (wrap64 (Int.tdiv n 10)) b (strOfNums y ++ bs out) else none)
            (bs ((if b = true then [45] else []) ++ ((if n = 0 then [] else Lib.decDigits n.natAbs) ++ out))) := by
        intro c hc
        have e1 : strOfNums [c % 256] = bs [UInt8.ofNat (48 + n.natAbs % 10)] := by
          have : (c % 256).toNat = 48 + n.natAbs % 10 := by omega
          simp only [strOfNums, bs, List.map_cons, List.map_nil, this]
        refine EV.by rfl ?_
        rw [e1, bs_app, e]
        refine EV.pos (by rw [bs_size, bs_size]; simp; omega) ((ih (Int.tdiv n 10) _ (by rw [q1]; rw [Nat.pow_succ] at h; omega) (by omega) (by omega) (by simp; omega)).eq ?_)
        congr 2
        rw [if_neg h0, q1]
        conv => rhs; rw [Lib.decDigits]
        by_cases c10 : n.natAbs < 10
        · rw [dif_pos c10, if_pos (by omega), Nat.mod_eq_of_lt c10]; simp
        · rw [dif_neg c10, if_neg (by omega)]; simp
      refine EV.neg h0 (EV.cases (fun hn => ?_) (fun hn => ?_))
      · exact key _ (by rw [wrap_neg _ (by omega), w64 (by omega) (by omega)]; omega)
      · exact key _ (by rw [w64 (by omega) (by omega)]; omega)
theorem spec_FormatInt_is (n : Int) (h1 : -9223372036854775808 ≤ n) (h2 : n ≤ 9223372036854775807) : EV (fun k => spec_FormatInt.f k n) (fmtM n) := by
  unfold spec_FormatInt.f
  refine EV.cases (fun h => (EV.now _).eq ?_) (fun h => (spec_FormatInt_l0 (decide (n < 0)) 20 n [] (by omega) h1 h2 (by simp)).eq ?_)
  · subst h
    show bs [48] = bs (Lib.itoa 0)
    unfold Lib.itoa
    rw [if_neg (by omega), Lib.decDigits]; rfl
  · show _ = bs (Lib.itoa n)
    unfold Lib.itoa
    by_cases hn : n < 0
    · simp [hn, h]
    · have : n.toNat = n.natAbs := by omega
      simp [hn, h, this]

theorem spec_l1In_is (a b c : Int) : spec_l1In.f a b c = some (decide (b ≤ a ∧ a ≤ c)) := by
  unfold spec_l1In.f
  by_cases h : a ≥ b
  · rw [if_pos h]; simp [show b ≤ a from h]
  · rw [if_neg h]; simp; omega

def edgeB (e : List Int) : Bool :=
  match e with
  | [a, b] => decide (0 ≤ a ∧ a ≤ 6) && (decide (0 ≤ b ∧ b ≤ 6) && !decide (a = b))
  | _ => false
def graphB (g : List (List Int)) : Bool := g.all edgeB && decide (1 ≤ g.length ∧ g.length ≤ 10)
theorem edge_len {e : List Int} (h : edgeB e = true) : e.length = 2 := by
  unfold edgeB at h
  split at h
  · rfl
  · cases h
theorem two_of {e : List Int} (h : e.length = 2) : ∃ a b, e = [a, b] := by
  match e, h with
  | [a, b], _ => exact ⟨a, b, rfl⟩

theorem spec_IsGraph_l0 (g : List (List Int)) (hn : g.length < 4611686018427387904) : ∀ (suf pre : List (List Int)), g = pre ++ suf →
    EV (fun k => spec_IsGraph.l0 k g (pre.length : Int)) (suf.all edgeB && decide (1 ≤ g.length ∧ g.length ≤ 10)) := by
  intro suf
  induction suf with
  | nil =>
    intro pre h
    refine EV.step (fun k => by rw [spec_IsGraph.l0]) ?_
    refine EV.neg (by subst h; simp) (EV.by (spec_l1In_is _ _ _) ((EV.now _).eq ?_))
    rw [Bool.eq_iff_iff]; simp; omega
  | cons x suf ih =>
    intro pre h
    have hl : pre.length < 4611686018427387904 := by subst h; simp at hn; omega
    have hlt : (pre.length : Int) < (g.length : Int) := by subst h; exact lt_app ..
    have hx : rd_L1 g (pre.length : Int) = x := by subst h; exact rdL_app ..
    refine EV.step (fun k => by rw [spec_IsGraph.l0]) ?_
    rw [hx, up (x := x) hl]
    refine EV.pos hlt (EV.pos (by omega) (?_))
    by_cases h2 : x.length = 2
    · obtain ⟨a, b, rfl⟩ := two_of h2
      have e0 : rd [a, b] 0 = a := rfl
      have e1 : rd [a, b] 1 = b := rfl
      refine EV.pos rfl (EV.pos (by simp) (EV.by (spec_l1In_is _ _ _) ?_))
      rw [e0]
      by_cases ha : 0 ≤ a ∧ a ≤ 6
      · refine EV.pos (by simpa using ha) (EV.pos (by simp) (EV.by (spec_l1In_is _ _ _) ?_))
        rw [e1]
        by_cases hb : 0 ≤ b ∧ b ≤ 6
        · refine EV.pos (by simpa using hb) ?_
          by_cases hab : a = b
          · exact EV.pos hab ((EV.now _).eq (by simp [edgeB, hab]))
          · exact EV.neg hab ((ih (pre ++ [[a, b]]) (by simp [h])).eq (by simp [edgeB, ha, hb, hab]))
        · exact EV.neg (by simpa using hb) ((EV.now _).eq (by simp [edgeB, hb]))
      · exact EV.neg (by simpa using ha) ((EV.now _).eq (by simp [edgeB, ha]))
    · refine EV.neg (by omega) ((EV.now _).eq ?_)
      have : edgeB x = false := by
        rcases Bool.eq_false_or_eq_true (edgeB x) with h' | h'
        · exact absurd (edge_len h') h2
        · exact h'
      simp [this]
theorem spec_IsGraph_is (g : List (List Int)) (hn : g.length < 4611686018427387904) : EV (fun k => spec_IsGraph.f k g) (graphB g) := spec_IsGraph_l0 g hn g [] rfl

def byF (l : List Int) : List UInt8 := l.map fun n => UInt8.ofNat n.toNat
theorem strOf_byF (l : List Int) : strOfNums l = bs (byF l) := rfl
theorem byF_bytes (s : ByteArray) : byF (bytesOf s) = s.data.toList := by
  unfold byF bytesOf
  rw [List.map_map]
  have : ((fun n : Int => UInt8.ofNat n.toNat) ∘ fun b : UInt8 => (b.toNat : Int)) = id := by
    funext b; simp
  first
    | (rw [this]; simp)
    | simp
theorem bytesOf_len (s : ByteArray) : (bytesOf s).length = s.size := bytesOf_length s
/-- what is joined from a list on: ahead of all but the first the separator -/
def jt (sep : ByteArray) : Bool → List ByteArray → List Int
  | _, [] => []
  | first, x :: r => (if first = true then [] else bytesOf sep) ++ (bytesOf x ++ jt sep false r)
def joinM (xs : List ByteArray) (sep : ByteArray) : ByteArray := bs (Lib.join (xs.map (·.data.toList)) sep.data.toList)
theorem jt_tail (sep : ByteArray) : ∀ r : List ByteArray, byF (jt sep false r) = Lib.joinTail sep.data.toList (r.map (·.data.toList))
  | [] => rfl
  | x :: r => by
    have e : byF (jt sep false (x :: r)) = byF (bytesOf sep) ++ (byF (bytesOf x) ++ byF (jt sep false r)) := by simp [jt, byF]
    rw [e, byF_bytes, byF_bytes, jt_tail sep r]
    simp [Lib.joinTail]
theorem jt_join (xs : List ByteArray) (sep : ByteArray) : strOfNums (jt sep true xs) = joinM xs sep := by
  rw [strOf_byF]
  unfold joinM
  congr 1
  cases xs with
  | nil => rfl
  | cons x r =>
    have e : byF (jt sep true (x :: r)) = byF (bytesOf x) ++ byF (jt sep false r) := by simp [jt, byF]
    rw [e, byF_bytes, jt_tail, List.map_cons, Lib.join_cons]
theorem jt_len (sep : ByteArray) (b : Nat) (hs : sep.size ≤ b) : ∀ (f : Bool) (xs : List ByteArray), (∀ x ∈ xs, x.size ≤ b) → (jt sep f xs).length ≤ 2 * b * xs.length
  | _, [], _ => by simp [jt]
  | f, x :: r, h => by
    have i := jt_len sep b hs false r (fun y hy => h y (by simp [hy]))
    have hx := h x (by simp)
    simp only [jt, List.length_append, List.length_cons, bytesOf_len]
    have : (if f = true then [] else bytesOf sep).length ≤ b := by
      split
      · simp
      · rw [bytesOf_len]; exact hs
    rw [Nat.mul_add]; omega
theorem join_len (xs : List ByteArray) (sep : ByteArray) (b : Nat) (hs : sep.size ≤ b) (h : ∀ x ∈ xs, x.size ≤ b) : (Lib.join (xs.map (·.data.toList)) sep.data.toList).length ≤ 2 * b * xs.length := by
  have e := congrArg (fun s : ByteArray => s.data.toList.length) (jt_join xs sep)
  have l := jt_len sep b hs true xs h
  simp only [strOfNums, joinM, bs, List.length_map] at e
  omega
theorem rdOf_drop {xs : List ByteArray} {i : Nat} {x : ByteArray} {r : List ByteArray} (h : xs.drop i = x :: r) : i < xs.length ∧ rdOf ByteArray.empty xs (i : Int) = x ∧ xs.drop (i + 1) = r := by
  have hl : i < xs.length := by
    rcases Nat.lt_or_ge i xs.length with g | g
    · exact g
    · rw [List.drop_eq_nil_of_le g] at h; cases h
  rw [List.drop_eq_getElem_cons hl] at h
  injection h with h1 h2
  exact ⟨hl, by simp [rdOf, hl, h1], h2⟩

theorem spec_Join_l0 (xs : List ByteArray) (sep : ByteArray) (hn : xs.length ≤ 1000) (hs : sep.size ≤ 1000) (hx : ∀ x ∈ xs, x.size ≤ 1000) : ∀ (l : List ByteArray) (i : Nat) (out : List Int), xs.drop i = l → i + l.length = xs.length → out.length ≤ 2000 * i →
    EV (fun k => spec_Join.l0 k xs sep out (i : Int)) (strOfNums (out ++ jt sep (decide (i = 0)) l)) := by
  intro l
  induction l with
  | nil =>
    intro i out hd hl ho
    refine EV.step (fun k => by rw [spec_Join.l0]) (EV.neg (by simp at hl; omega) ((EV.now _).eq (by simp [jt])))
  | cons x r ih =>
    intro i out hd hl ho
    obtain ⟨hi, hr, hd2⟩ := rdOf_drop hd
    have sx : x.size ≤ 1000 := hx x (by have : x ∈ xs.drop i := by rw [hd]; simp
                                        exact List.mem_of_mem_drop this)
    have e2 : wrap64 ((i : Int) + 1) = ((i + 1 : Nat) : Int) := by rw [w64 (by omega) (by omega)]; omega
    refine EV.step (fun k => by rw [spec_Join.l0]) (EV.pos (by omega) ?_)
    rw [hr, e2]
    refine EV.cases (fun h => ?_) (fun h => ?_)
    · refine EV.pos (by omega) (EV.by rfl (EV.pos (by omega) (EV.pos (by rw [List.length_append, bytesOf_len]; omega) ?_)))
      have := ih (i + 1) ((out ++ bytesOf sep) ++ bytesOf x) hd2 (by simp at hl; omega) (by simp only [List.length_append, bytesOf_len]; omega)
      refine this.eq ?_
      have d1 : decide (i + 1 = 0) = false := by simp
      have d2 : decide (i = 0) = false := by simp; omega
      rw [d1, d2]
      simp [jt]
    · refine EV.pos (by omega) (EV.pos (by omega) ?_)
      have := ih (i + 1) (out ++ bytesOf x) hd2 (by simp at hl; omega) (by simp only [List.length_append, bytesOf_len]; omega)
      refine this.eq ?_
      have d1 : decide (i + 1 = 0) = false := by simp
      have d2 : decide (i = 0) = true := by simp; omega
      rw [d1, d2]
      simp [jt]
theorem spec_Join_is (xs : List ByteArray) (sep : ByteArray) (hn : xs.length ≤ 1000) (hs : sep.size ≤ 1000) (hx : ∀ x ∈ xs, x.size ≤ 1000) : EV (fun k => spec_Join.f k xs sep) (joinM xs sep) := by
  have := spec_Join_l0 xs sep hn hs hx xs 0 [] rfl (by omega) (by simp)
  exact this.eq (by rw [← jt_join]; rfl)

def edgeT (e : List Int) : ByteArray := fmtM (rd e 0) ++ fmtM (rd e 1)
def graphTextM (g : List (List Int)) : ByteArray := if graphB g = true then joinM (g.map edgeT) (⟨#[32]⟩ : ByteArray) else ⟨#[]⟩
theorem edge_bd {e : List Int} (h : edgeB e = true) : e.length = 2 ∧ 0 ≤ rd e 0 ∧ rd e 0 ≤ 6 ∧ 0 ≤ rd e 1 ∧ rd e 1 ≤ 6 := by
  obtain ⟨a, b, rfl⟩ := two_of (edge_len h)
  simp only [edgeB, Bool.and_eq_true, decide_eq_true_eq] at h
  exact ⟨rfl, h.1.1, h.1.2, h.2.1.1, h.2.1.2⟩
theorem edgeT_size {e : List Int} (h : edgeB e = true) : (edgeT e).size ≤ 50 := by
  obtain ⟨_, b1, b2, b3, b4⟩ := edge_bd h
  have a1 := fmtM_size (rd e 0) (by omega) (by omega)
  have a2 := fmtM_size (rd e 1) (by omega) (by omega)
  unfold edgeT
  rw [ByteArray.size_append]; omega
theorem rdL_drop {xs : List (List Int)} {i : Nat} {x : List Int} {r : List (List Int)} (h : xs.drop i = x :: r) : i < xs.length ∧ rd_L1 xs (i : Int) = x ∧ xs.drop (i + 1) = r := by
  have hl : i < xs.length := by
    rcases Nat.lt_or_ge i xs.length with g | g
    · exact g
    · rw [List.drop_eq_nil_of_le g] at h; cases h
  rw [List.drop_eq_getElem_cons hl] at h
  injection h with h1 h2
  exact ⟨hl, by simp [rd_L1, hl, h1], h2⟩
theorem graph_parts {g : List (List Int)} (h : graphB g = true) : (∀ e ∈ g, edgeB e = true) ∧ g.length ≤ 10 := by
  simp only [graphB, Bool.and_eq_true, List.all_eq_true, decide_eq_true_eq] at h
  exact ⟨h.1, h.2.2⟩
theorem map_sizes {g : List (List Int)} (h : ∀ e ∈ g, edgeB e = true) : ∀ x ∈ g.map edgeT, x.size ≤ 1000 := by
  intro x hx
  obtain ⟨e, he, rfl⟩ := List.mem_map.1 hx
  have := edgeT_size (h e he); omega

theorem spec_GraphText_l0 (g : List (List Int)) (hg : ∀ e ∈ g, edgeB e = true) (hn : g.length ≤ 10) : ∀ (l : List (List Int)) (i : Nat) (acc : List ByteArray), g.drop i = l → i + l.length = g.length → acc = (g.take i).map edgeT →
    EV (fun k => spec_GraphText.l0 k g acc (i : Int)) (joinM (g.map edgeT) (⟨#[32]⟩ : ByteArray)) := by
  intro l
  induction l with
  | nil =>
    intro i acc hd hl ha
    refine EV.step (fun k => by rw [spec_GraphText.l0]) (EV.neg (by simp at hl; omega) ?_)
    have : acc = g.map edgeT := by rw [ha, List.take_of_length_le (by simp at hl; omega)]
    rw [this]
    exact EV.bind (spec_Join_is _ _ (by simp; omega) (by decide) (map_sizes hg)) (EV.now _)
  | cons x r ih =>
    intro i acc hd hl ha
    obtain ⟨hi, hr, hd2⟩ := rdL_drop hd
    have hx : edgeB x = true := hg x (by have : x ∈ g.drop i := by rw [hd]; simp
                                         exact List.mem_of_mem_drop this)
    obtain ⟨b0, b1, b2, b3, b4⟩ := edge_bd hx
    have e2 : wrap64 ((i : Int) + 1) = ((i + 1 : Nat) : Int) := by rw [w64 (by omega) (by omega)]; omega
    have a1 := fmtM_size (rd x 0) (by omega) (by omega)
    have a2 := fmtM_size (rd x 1) (by omega) (by omega)
    have la : acc.length ≤ 10 := by rw [ha]; simp; omega
    refine EV.step (fun k => by rw [spec_GraphText.l0]) (EV.pos (by omega) ?_)
    rw [hr, e2]
    refine EV.pos (by omega) (EV.pos (by omega) (EV.bind (spec_FormatInt_is _ (by omega) (by omega)) (EV.pos (by omega) (EV.bind (spec_FormatInt_is _ (by omega) (by omega)) (EV.pos (by omega) (EV.pos (by omega) ?_))))))
    refine ih (i + 1) _ hd2 (by simp at hl; omega) ?_
    rw [ha, ← List.take_append_getElem hi, List.map_append]
    have : g[i] = x := by rw [List.drop_eq_getElem_cons hi] at hd; injection hd
    rw [this]; rfl
theorem spec_GraphText_is (g : List (List Int)) (hn : g.length < 4611686018427387904) : EV (fun k => spec_GraphText.f k g) (graphTextM g) := by
  unfold spec_GraphText.f graphTextM
  refine EV.bind (spec_IsGraph_is g hn) (EV.cases (fun h => ?_) (fun h => (EV.now _).eq (by rw [if_neg h])))
  rw [if_pos h]
  have p := graph_parts h
  exact spec_GraphText_l0 g p.1 p.2 g 0 [] rfl (by omega) (by simp)

theorem laws_toIntS_l0 (xs : List Int) (hn : xs.length < 4611686018427387904) : ∀ suf pre, xs = pre ++ suf → EV (fun k => laws_toIntS.l0 k xs (pre ++ List.replicate suf.length 0) (pre.length : Int)) xs := by
  intro suf
  induction suf with
  | nil =>
    intro pre h
    refine EV.step (fun k => by rw [laws_toIntS.l0]) ?_
    refine (EV.neg ?_ ((EV.now _).eq ?_))
    · subst h; simp
    · subst h; simp
  | cons x suf ih =>
    intro pre h
    have hl : pre.length < 4611686018427387904 := by subst h; simp at hn; omega
    have hlt : (pre.length : Int) < (xs.length : Int) := by subst h; exact lt_app ..
    have hx : rd xs (pre.length : Int) = x := by subst h; exact rd_app ..
    refine EV.step (fun k => by rw [laws_toIntS.l0]) ?_
    refine (EV.pos hlt (EV.pos (by omega) (EV.pos (by simp; omega) ?_)))
    rw [hx, up (x := x) hl, List.length_cons, List.replicate_succ, set_app _ _ _ _ _ (by simp)]
    have := ih (pre ++ [x]) (by simp [h])
    simpa using this
theorem laws_toIntS_is (xs : List Int) (hn : xs.length ≤ 1048576) : EV (fun k => laws_toIntS.f k xs) xs := by
  refine EV.pos (by omega) (EV.pos (by omega) ?_)
  exact laws_toIntS_l0 xs (by omega) xs [] rfl

theorem laws_toIntSS_l0 (xs : List (List Int)) (hn : xs.length < 4611686018427387904) (hr : ∀ r ∈ xs, r.length ≤ 1048576) : ∀ (suf pre : List (List Int)), xs = pre ++ suf →
    EV (fun k => laws_toIntSS.l0 k xs (pre ++ List.replicate suf.length []) (pre.length : Int)) xs := by
  intro suf
  induction suf with
  | nil =>
    intro pre h
    refine EV.step (fun k => by rw [laws_toIntSS.l0]) ?_
    exact EV.neg (by subst h; simp) ((EV.now _).eq (by subst h; simp))
  | cons x suf ih =>
    intro pre h
    have hl : pre.length < 4611686018427387904 := by subst h; simp at hn; omega
    have hlt : (pre.length : Int) < (xs.length : Int) := by subst h; exact lt_app ..
    have hx : rd_L1 xs (pre.length : Int) = x := by subst h; exact rdL_app ..
    have hx' : x.length ≤ 1048576 := hr x (by subst h; simp)
    refine EV.step (fun k => by rw [laws_toIntSS.l0]) ?_
    rw [hx, up (x := x) hl]
    refine EV.pos hlt (EV.pos (by omega) (EV.bind (laws_toIntS_is x hx') (EV.pos (by simp; omega) ?_)))
    rw [List.length_cons, List.replicate_succ, set_app _ _ _ _ _ (by simp)]
    have := ih (pre ++ [x]) (by simp [h])
    simpa using this
theorem laws_toIntSS_is (xs : List (List Int)) (hn : xs.length ≤ 1048576) (hr : ∀ r ∈ xs, r.length ≤ 1048576) : EV (fun k => laws_toIntSS.f k xs) xs := by
  refine EV.pos (by omega) (EV.pos (by omega) ?_)
  exact laws_toIntSS_l0 xs (by omega) hr xs [] rfl

theorem impl_FormatInt_is (n : Int) (h1 : -9223372036854775808 ≤ n) (h2 : n ≤ 9223372036854775807) : impl_FormatInt.f n = some (fmtM n) := if_pos ⟨h1, h2⟩

theorem impl_within_is (a b c : Int) : impl_within.f a b c = some (decide (b ≤ a ∧ a ≤ c)) := by
  unfold impl_within.f
  by_cases h : a ≥ b
  · rw [if_pos h]; simp [show b ≤ a from h]
  · rw [if_neg h]; simp; omega

theorem impl_IsGraph_l0 (g : List (List Int)) (hn : g.length < 4611686018427387904) : ∀ (suf pre : List (List Int)), g = pre ++ suf →
    EV (fun k => impl_IsGraph.l0 k g g (g.length : Int) (pre.length : Int)) (suf.all edgeB && decide (1 ≤ g.length ∧ g.length ≤ 10)) := by
  intro suf
  induction suf with
  | nil =>
    intro pre h
    refine EV.step (fun k => by rw [impl_IsGraph.l0]) ?_
    refine EV.neg (by subst h; simp) (EV.by (impl_within_is _ _ _) ((EV.now _).eq ?_))
    rw [Bool.eq_iff_iff]; simp; omega
  | cons x suf ih =>
    intro pre h
    have hl : pre.length < 4611686018427387904 := by subst h; simp at hn; omega
    have hlt : (pre.length : Int) < (g.length : Int) := by subst h; exact lt_app ..
    have hx : rd_L1 g (pre.length : Int) = x := by subst h; exact rdL_app ..
    refine EV.step (fun k => by rw [impl_IsGraph.l0]) ?_
    rw [hx, up (x := x) hl]
    refine EV.pos hlt (EV.pos (by omega) (EV.pos hlt (?_)))
    by_cases h2 : x.length = 2
    · obtain ⟨a, b, rfl⟩ := two_of h2
      have e0 : rd [a, b] 0 = a := rfl
      have e1 : rd [a, b] 1 = b := rfl
      refine EV.pos rfl (EV.pos (by simp) (EV.by (impl_within_is _ _ _) ?_))
      rw [e0]
      by_cases ha : 0 ≤ a ∧ a ≤ 6
      · refine EV.pos (by simpa using ha) (EV.pos (by simp) (EV.by (impl_within_is _ _ _) ?_))
        rw [e1]
        by_cases hb : 0 ≤ b ∧ b ≤ 6
        · refine EV.pos (by simpa using hb) ?_
          by_cases hab : a = b
          · exact EV.pos hab ((EV.now _).eq (by simp [edgeB, hab]))
          · exact EV.neg hab ((ih (pre ++ [[a, b]]) (by simp [h])).eq (by simp [edgeB, ha, hb, hab]))
        · exact EV.neg (by simpa using hb) ((EV.now _).eq (by simp [edgeB, hb]))
      · exact EV.neg (by simpa using ha) ((EV.now _).eq (by simp [edgeB, ha]))
    · refine EV.neg (by omega) ((EV.now _).eq ?_)
      have : edgeB x = false := by
        rcases Bool.eq_false_or_eq_true (edgeB x) with h' | h'
        · exact absurd (edge_len h') h2
        · exact h'
      simp [this]
theorem impl_IsGraph_is (g : List (List Int)) (hn : g.length < 4611686018427387904) : EV (fun k => impl_IsGraph.f k g) (graphB g) := impl_IsGraph_l0 g hn g [] rfl

theorem impl_Join_is (xs : List ByteArray) (sep : ByteArray) (hn : xs.length ≤ 1000) (hs : sep.size ≤ 1000) (hx : ∀ x ∈ xs, x.size ≤ 1000) : impl_Join.f xs sep = some (joinM xs sep) := by
  have := join_len xs sep 1000 hs hx
  exact if_pos ⟨by omega, by omega⟩

theorem impl_GraphText_l0 (g : List (List Int)) (hg : ∀ e ∈ g, edgeB e = true) (hn : g.length ≤ 10) : ∀ (l : List (List Int)) (i : Nat) (acc : List ByteArray), g.drop i = l → i + l.length = g.length → acc = (g.take i).map edgeT →
    EV (fun k => impl_GraphText.l0 k acc g (g.length : Int) (i : Int)) (joinM (g.map edgeT) (⟨#[32]⟩ : ByteArray)) := by
  intro l
  induction l with
  | nil =>
    intro i acc hd hl ha
    refine EV.step (fun k => by rw [impl_GraphText.l0]) (EV.neg (by simp at hl; omega) ?_)
    have : acc = g.map edgeT := by rw [ha, List.take_of_length_le (by simp at hl; omega)]
    rw [this]
    exact EV.by (impl_Join_is _ _ (by simp; omega) (by decide) (map_sizes hg)) (EV.now _)
  | cons x r ih =>
    intro i acc hd hl ha
    obtain ⟨hi, hr, hd2⟩ := rdL_drop hd
    have hx : edgeB x = true := hg x (by have : x ∈ g.drop i := by rw [hd]; simp
                                         exact List.mem_of_mem_drop this)
    obtain ⟨b0, b1, b2, b3, b4⟩ := edge_bd hx
    have e2 : wrap64 ((i : Int) + 1) = ((i + 1 : Nat) : Int) := by rw [w64 (by omega) (by omega)]; omega
    have a1 := fmtM_size (rd x 0) (by omega) (by omega)
    have a2 := fmtM_size (rd x 1) (by omega) (by omega)
    have la : acc.length ≤ 10 := by rw [ha]; simp; omega
    refine EV.step (fun k => by rw [impl_GraphText.l0]) (EV.pos (by omega) ?_)
    rw [hr, e2]
    refine EV.pos (by omega) (EV.pos (by omega) (EV.pos (by omega) (EV.by (impl_FormatInt_is _ (by omega) (by omega)) (EV.pos (by omega) (EV.by (impl_FormatInt_is _ (by omega) (by omega)) (EV.pos (by omega) (EV.pos (by omega) ?_)))))))
    refine ih (i + 1) _ hd2 (by simp at hl; omega) ?_
    rw [ha, ← List.take_append_getElem hi, List.map_append]
    have : g[i] = x := by rw [List.drop_eq_getElem_cons hi] at hd; injection hd
    rw [this]; rfl
theorem impl_GraphText_is (g : List (List Int)) (hn : g.length < 4611686018427387904) : EV (fun k => impl_GraphText.f k g) (graphTextM g) := by
  unfold impl_GraphText.f graphTextM
  refine EV.bind (impl_IsGraph_is g hn) (EV.cases (fun h => ?_) (fun h => (EV.now _).eq (by rw [if_neg h])))
  rw [if_pos h]
  have p := graph_parts h
  exact impl_GraphText_l0 g p.1 p.2 g 0 [] rfl (by omega) (by simp)

theorem laws_eqIntS_l0 (xs ys : List Int) (hn : xs.length < 4611686018427387904) : ∀ (suf suf' pre : List Int), pre.length + suf.length = xs.length → pre.length + suf'.length = ys.length → suf.length = suf'.length → xs.drop pre.length = suf → ys.drop pre.length = suf' →
    EV (fun k => laws_eqIntS.l0 k xs ys (pre.length : Int)) (decide (suf = suf')) := by
  intro suf
  induction suf with
  | nil =>
    intro suf' pre h1 h2 h3 h4 h5
    have : suf' = [] := List.eq_nil_of_length_eq_zero (by simpa using h3.symm)
    subst this
    refine EV.step (fun k => by rw [laws_eqIntS.l0]) ?_
    refine (EV.neg ?_ ((EV.now _).eq (by simp)))
    simp at h1; omega
  | cons x suf ih =>
    intro suf' pre h1 h2 h3 h4 h5
    obtain ⟨y, suf', rfl⟩ : ∃ y t, suf' = y :: t := by
      cases suf' with
      | nil => simp at h3
      | cons y t => exact ⟨y, t, rfl⟩
    simp only [List.length_cons] at h1 h2 h3
    have hl : pre.length < 4611686018427387904 := by omega
    have hx : rd xs (pre.length : Int) = x := by
      rw [rd_nat _ _ (by omega)]
      have := List.getElem_drop (xs := xs) (i := pre.length) (j := 0) (h := by simp; omega)
      simp only [h4] at this; simpa using this.symm
    have hy : rd ys (pre.length : Int) = y := by
      rw [rd_nat _ _ (by omega)]
      have := List.getElem_drop (xs := ys) (i := pre.length) (j := 0) (h := by simp; omega)
      simp only [h5] at this; simpa using this.symm
    refine EV.step (fun k => by rw [laws_eqIntS.l0]) ?_
    refine (EV.pos (by omega) (EV.pos (by omega) (EV.pos (by omega) ?_)))
    rw [hx, hy, up (x := x) hl]
    by_cases hs : x = y
    · refine EV.pos hs ((ih suf' _ (by simp; omega) (by simp; omega) (by omega) ?_ ?_).eq (by simp [hs]))
      · rw [List.length_append, ← List.drop_drop, h4]; rfl
      · rw [List.length_append, ← List.drop_drop, h5]; rfl
    · exact (EV.neg hs (EV.now _)).eq (by simp [hs])
theorem laws_eqIntS_is (xs ys : List Int) (hn : xs.length < 4611686018427387904) : EV (fun k => laws_eqIntS.f k xs ys) (decide (xs = ys)) := by
  by_cases h : xs.length = ys.length
  · exact EV.pos (by omega) (laws_eqIntS_l0 xs ys hn xs ys [] (by simp) (by simp) h rfl rfl)
  · exact (EV.neg (by omega) (EV.now _)).eq (by simp; intro e; exact h (by rw [e]))
theorem laws_eqIntS_self (xs : List Int) (hn : xs.length < 4611686018427387904) : EV (fun k => laws_eqIntS.f k xs xs) true := (laws_eqIntS_is xs xs hn).eq (by simp)

theorem laws_eqIntSS_l0 (xs : List (List Int)) (hn : xs.length < 4611686018427387904) (hr : ∀ r ∈ xs, r.length < 4611686018427387904) : ∀ (suf pre : List (List Int)), xs = pre ++ suf →
    EV (fun k => laws_eqIntSS.l0 k xs xs (pre.length : Int)) true := by
  intro suf
  induction suf with
  | nil =>
    intro pre h
    refine EV.step (fun k => by rw [laws_eqIntSS.l0]) ?_
    exact EV.neg (by subst h; simp) (EV.now _)
  | cons x suf ih =>
    intro pre h
    have hl : pre.length < 4611686018427387904 := by subst h; simp at hn; omega
    have hlt : (pre.length : Int) < (xs.length : Int) := by subst h; exact lt_app ..
    have hx : rd_L1 xs (pre.length : Int) = x := by subst h; exact rdL_app ..
    have hx' : x.length < 4611686018427387904 := hr x (by subst h; simp)
    refine EV.step (fun k => by rw [laws_eqIntSS.l0]) ?_
    rw [hx, up (x := x) hl]
    refine EV.pos hlt (EV.pos (by omega) (EV.pos (by omega) (EV.bind (laws_eqIntS_self x hx') (EV.pos rfl ?_))))
    exact ih (pre ++ [x]) (by simp [h])
theorem laws_eqIntSS_self (xs : List (List Int)) (hn : xs.length < 4611686018427387904) (hr : ∀ r ∈ xs, r.length < 4611686018427387904) : EV (fun k => laws_eqIntSS.f k xs xs) true :=
  EV.pos rfl (laws_eqIntSS_l0 xs hn hr xs [] rfl)

theorem graphText_size (g : List (List Int)) : (graphTextM g).size ≤ 4194304 := by
  unfold graphTextM
  split
  · rename_i h
    have p := graph_parts h
    have := join_len (g.map edgeT) (⟨#[32]⟩ : ByteArray) 1000 (by decide) (map_sizes p.1)
    have l : (g.map edgeT).length = g.length := by simp
    unfold joinM
    rw [bs_size]; omega
  · decide
theorem both (g : List (List Int)) (w : ∀ r ∈ g, r.length ≤ maxLen ∧ ∀ x ∈ r, (Lit.int .i64 x).wf = true) (n : g.length + total g ≤ 1048576) :
    ∃ R : ByteArray, EV (fun k => spec_GraphText.f k g) R ∧ EV (fun k => impl_GraphText.f k g) R ∧ R.size ≤ 4194304 :=
  ⟨graphTextM g, spec_GraphText_is g (by omega), impl_GraphText_is g (by omega), graphText_size g⟩

theorem FnExactGraphText (l0 : List (List Int)) (x0 : l0.length ≤ maxLen) (w0 : ∀ r ∈ l0, r.length ≤ maxLen ∧ ∀ x ∈ r, (Lit.int .i64 x).wf = true) : ∃ k, laws_FnExactGraphText.f k l0 = some true := by
  refine EV.rounds ?_
  have r0x : ∀ r ∈ l0, r.length ≤ 9223372036854775807 := fun r hr => by have := (w0 r hr).1; unfold maxLen at this; omega
  refine EV.bind (laws_szIntSS_is l0 (1048576) (by omega) (by omega) (by unfold maxLen at x0; omega) r0x) ?_
  unfold szM
  by_cases g0 : ((l0.length : Int) + total l0 ≤ 1048576)
  rotate_left
  · rw [if_neg g0]; exact EV.pos (by omega) (EV.now _)
  rw [if_pos g0]
  refine EV.neg (by omega) ?_
  have n0 : l0.length + total l0 ≤ 1048576 := by omega
  have r0 : ∀ r ∈ l0, r.length ≤ 1048576 := fun r hr => by have := total_mem hr; omega
  have q0 : ∀ r ∈ l0, r.length < 4611686018427387904 := fun r hr => by have := total_mem hr; omega
  obtain ⟨R, S, I, hR⟩ := both l0 w0 n0
  repeat (first
    | exact EV.now _
    | (refine EV.bind (laws_toIntS_is _ (by omega)) ?_)
    | (refine EV.bind (laws_toIntSS_is _ (by omega) (by assumption)) ?_)
    | (refine EV.bind S ?_)
    | (refine EV.bind I ?_)
    | (refine EV.bind (laws_eqIntS_self _ (by omega)) ?_)
    | (refine EV.bind (laws_eqIntSS_self _ (by omega) (by assumption)) ?_)
    | (refine EV.pos rfl ?_)
    | (refine EV.neg (by first | omega | (simp; done)) ?_)
    | (refine EV.pos (by first | omega | (simp; done)) ?_)
    | dsimp only)

end Go.Proofs.YtkjflikcifcnkaaDoor.Pure
