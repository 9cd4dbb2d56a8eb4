import Derived.Test.YtepogblkmiidnaaWSpanB
import Derived.Test.YtepogblkmiidnaaPFnCoversx0
import Derived.Test.YtepogblkmiidnaaPFnCoversx3
import Derived.Test.YtepogblkmiidnaaPFnCoversx8
import Derived.Test.YtepogblkmiidnaaPFnCoversx10
import Derived.Test.YtepogblkmiidnaaPFnCoversx11
import Derived.Test.YtepogblkmiidnaaPFnCoversx12
import Derived.Test.YtepogblkmiidnaaPFnCoversx13
import Derived.Test.YtepogblkmiidnaaPFnCoversx17
namespace Go.Proofs.Ytepogblkmiidnaa.PFnCovers
open Go.RowKit Go.Proofs.YtepogblkmiidnaaW.PrintWords Go.Proofs.YtepogblkmiidnaaW.PrintLast Go.Proofs.YtepogblkmiidnaaW.PrintMore
attribute [local go_sem] max2_int min2_int max_two min_two max_three min_three max_four min_four   -- for this text's walks alone
set_option linter.unusedVariables false
set_option linter.unusedSimpArgs false

/-! ### spec_l9Count: function 56 -/
mutual
/-- how many actions continue a list -/
def spec_l9Count.f : Nat → Int → List (List Int) → List (List Int) → Bool → Option Int
  | 0, _, _, _, _ => none
  | k + 1, g, all, list, whole => (spec_l1Max.f 1 g).bind fun m => (if (list.length : Int) = wrap64 (2 * m) then ((spec_IsAction.f k g list).bind fun t => (if t = true then (if whole = true then ((spec_l9Parts.f k list).bind fun ps => spec_l1Bit.f ((ps.length : Int) == 1)) else spec_l1Bit.f true) else spec_l1Bit.f false)) else spec_l9Count.l0 k g all list whole 0 0)
def spec_l9Count.l0 : Nat → Int → List (List Int) → List (List Int) → Bool → Int → Int → Option Int
  | 0, _, _, _, _, _, _ => none
  | k + 1, g, all, list, whole, s, i => if i < (all.length : Int) then (if 0 ≤ i then (if list.length < 1000000 then ((spec_l9Count.f k g all (list ++ [rd_L2 all i]) whole).bind fun t => spec_l9Count.l0 k g all list whole (wrap64 (s + t)) (wrap64 (i + 1))) else none) else none) else some s
end
theorem spec_l6Perm.mono_l : ∀ k, (∀ y0 y1 y2, LeO (spec_l6Perm.l0 k y0 y1 y2) (spec_l6Perm.l0 (k + 1) y0 y1 y2))
  | 0 => fun _ _ _ r h => by simp [spec_l6Perm.l0] at h
  | k + 1 => by
    have ih0 := spec_l6Perm.mono_l k
    · intro y0 y1 y2
      unfold spec_l6Perm.l0
      exact mM1 ih0
theorem spec_l6Perm.mono : ∀ a0 k, LeO (spec_l6Perm.f k a0) (spec_l6Perm.f (k + 1) a0) := by
  intro a0 k
  have ih0 := spec_l6Perm.mono_l k
  unfold spec_l6Perm.f
  exact mM1 ih0
theorem spec_l9Perms.mono_l : ∀ k, (∀ y0 y1, LeO (spec_l9Perms.l0 k y0 y1) (spec_l9Perms.l0 (k + 1) y0 y1))
  | 0 => fun _ _ r h => by simp [spec_l9Perms.l0] at h
  | k + 1 => by
    have ih0 := spec_l9Perms.mono_l k
    · intro y0 y1
      unfold spec_l9Perms.l0
      exact mM2 ih0 spec_l6Perm.mono
theorem spec_l9Perms.mono : ∀ a0 k, LeO (spec_l9Perms.f k a0) (spec_l9Perms.f (k + 1) a0) := by
  intro a0 k
  have ih0 := spec_l9Perms.mono_l k
  unfold spec_l9Perms.f
  exact mM2 ih0 spec_l6Perm.mono
theorem spec_IsWord.mono_l : ∀ k, (∀ y0 y1, LeO (spec_IsWord.l0 k y0 y1) (spec_IsWord.l0 (k + 1) y0 y1))
  | 0 => fun _ _ r h => by simp [spec_IsWord.l0] at h
  | k + 1 => by
    have ih0 := spec_IsWord.mono_l k
    · intro y0 y1
      unfold spec_IsWord.l0
      exact mM1 ih0
theorem spec_IsWord.mono : ∀ a0 k, LeO (spec_IsWord.f k a0) (spec_IsWord.f (k + 1) a0) := by
  intro a0 k
  have ih0 := spec_IsWord.mono_l k
  unfold spec_IsWord.f
  exact mM1 ih0
theorem spec_l6Inverse.mono_l : ∀ k, (∀ y0 y1 y2, LeO (spec_l6Inverse.l0 k y0 y1 y2) (spec_l6Inverse.l0 (k + 1) y0 y1 y2))
  | 0 => fun _ _ _ r h => by simp [spec_l6Inverse.l0] at h
  | k + 1 => by
    have ih0 := spec_l6Inverse.mono_l k
    · intro y0 y1 y2
      unfold spec_l6Inverse.l0
      exact mM1 ih0
theorem spec_l6Inverse.mono : ∀ a0 k, LeO (spec_l6Inverse.f k a0) (spec_l6Inverse.f (k + 1) a0) := by
  intro a0 k
  have ih0 := spec_l6Inverse.mono_l k
  unfold spec_l6Inverse.f
  exact mM1 ih0
theorem spec_l9Act.mono_l : ∀ k, (∀ y0 y1 y2 y3, LeO (spec_l9Act.l0 k y0 y1 y2 y3) (spec_l9Act.l0 (k + 1) y0 y1 y2 y3))
  | 0 => fun _ _ _ _ r h => by simp [spec_l9Act.l0] at h
  | k + 1 => by
    have ih0 := spec_l9Act.mono_l k
    · intro y0 y1 y2 y3
      unfold spec_l9Act.l0
      exact mM2 ih0 spec_l6Inverse.mono
theorem spec_l9Act.mono : ∀ a0 a1 a2 k, LeO (spec_l9Act.f k a0 a1 a2) (spec_l9Act.f (k + 1) a0 a1 a2) := by
  intro a0 a1 a2 k
  have ih0 := spec_l9Act.mono_l k
  unfold spec_l9Act.f
  exact mM2 ih0 spec_l6Inverse.mono
theorem spec_ActWord.mono_l : ∀ k, (∀ y0 y1 y2, LeO (spec_ActWord.j0 k y0 y1 y2) (spec_ActWord.j0 (k + 1) y0 y1 y2)) ∧ (∀ y0 y1 y2, LeO (spec_ActWord.l0 k y0 y1 y2) (spec_ActWord.l0 (k + 1) y0 y1 y2)) ∧ (∀ y0 y1 y2 y3, LeO (spec_ActWord.l1 k y0 y1 y2 y3) (spec_ActWord.l1 (k + 1) y0 y1 y2 y3))
  | 0 => ⟨fun _ _ _ r h => by simp [spec_ActWord.j0] at h, fun _ _ _ r h => by simp [spec_ActWord.l0] at h, fun _ _ _ _ r h => by simp [spec_ActWord.l1] at h⟩
  | k + 1 => by
    obtain ⟨ih0, ih1, ih2⟩ := spec_ActWord.mono_l k
    refine ⟨?_, ?_, ?_⟩
    · intro y0 y1 y2
      unfold spec_ActWord.j0
      exact mM6 ih0 ih1 ih2 spec_IsWord.mono spec_l9Act.mono spec_l9Perms.mono
    · intro y0 y1 y2
      unfold spec_ActWord.l0
      exact mM6 ih0 ih1 ih2 spec_IsWord.mono spec_l9Act.mono spec_l9Perms.mono
    · intro y0 y1 y2 y3
      unfold spec_ActWord.l1
      exact mM6 ih0 ih1 ih2 spec_IsWord.mono spec_l9Act.mono spec_l9Perms.mono
theorem spec_ActWord.mono : ∀ a0 a1 k, LeO (spec_ActWord.f k a0 a1) (spec_ActWord.f (k + 1) a0 a1) := by
  intro a0 a1 k
  obtain ⟨ih0, ih1, ih2⟩ := spec_ActWord.mono_l k
  unfold spec_ActWord.f
  exact mM6 ih0 ih1 ih2 spec_IsWord.mono spec_l9Act.mono spec_l9Perms.mono
theorem spec_l9Whole.mono_l : ∀ k, (∀ y0 y1, LeO (spec_l9Whole.l0 k y0 y1) (spec_l9Whole.l0 (k + 1) y0 y1))
  | 0 => fun _ _ r h => by simp [spec_l9Whole.l0] at h
  | k + 1 => by
    have ih0 := spec_l9Whole.mono_l k
    · intro y0 y1
      unfold spec_l9Whole.l0
      exact mM1 ih0
theorem spec_l9Whole.mono : ∀ a0 k, LeO (spec_l9Whole.f k a0) (spec_l9Whole.f (k + 1) a0) := by
  intro a0 k
  have ih0 := spec_l9Whole.mono_l k
  unfold spec_l9Whole.f
  exact mM1 ih0
theorem spec_IsAction.mono_l : ∀ k, (∀ y0 y1 y2, LeO (spec_IsAction.j0 k y0 y1 y2) (spec_IsAction.j0 (k + 1) y0 y1 y2))
  | 0 => fun _ _ _ r h => by simp [spec_IsAction.j0] at h
  | k + 1 => by
    have ih0 := spec_IsAction.mono_l k
    · intro y0 y1 y2
      unfold spec_IsAction.j0
      exact mM4 ih0 spec_ActWord.mono spec_l9Perms.mono spec_l9Whole.mono
theorem spec_IsAction.mono : ∀ a0 a1 k, LeO (spec_IsAction.f k a0 a1) (spec_IsAction.f (k + 1) a0 a1) := by
  intro a0 a1 k
  have ih0 := spec_IsAction.mono_l k
  unfold spec_IsAction.f
  exact mM4 ih0 spec_ActWord.mono spec_l9Perms.mono spec_l9Whole.mono
theorem spec_l3Find.mono_l : ∀ k, (∀ y0 y1, LeO (spec_l3Find.l0 k y0 y1) (spec_l3Find.l0 (k + 1) y0 y1))
  | 0 => fun _ _ r h => by simp [spec_l3Find.l0] at h
  | k + 1 => by
    have ih0 := spec_l3Find.mono_l k
    · intro y0 y1
      unfold spec_l3Find.l0
      exact mM1 ih0
theorem spec_l3Find.mono : ∀ a0 a1 k, LeO (spec_l3Find.f k a0 a1) (spec_l3Find.f (k + 1) a0 a1) := by
  intro a0 a1 k
  have ih0 := spec_l3Find.mono_l k
  unfold spec_l3Find.f
  exact mM1 ih0
theorem spec_l9Parts.mono_l : ∀ k, (∀ y0 y1 y2, LeO (spec_l9Parts.l0 k y0 y1 y2) (spec_l9Parts.l0 (k + 1) y0 y1 y2)) ∧ (∀ y0 y1 y2, LeO (spec_l9Parts.l1 k y0 y1 y2) (spec_l9Parts.l1 (k + 1) y0 y1 y2)) ∧ (∀ y0 y1 y2 y3, LeO (spec_l9Parts.l2 k y0 y1 y2 y3) (spec_l9Parts.l2 (k + 1) y0 y1 y2 y3)) ∧ (∀ y0 y1 y2, LeO (spec_l9Parts.l3 k y0 y1 y2) (spec_l9Parts.l3 (k + 1) y0 y1 y2)) ∧ (∀ y0 y1 y2 y3 y4, LeO (spec_l9Parts.l4 k y0 y1 y2 y3 y4) (spec_l9Parts.l4 (k + 1) y0 y1 y2 y3 y4))
  | 0 => ⟨fun _ _ _ r h => by simp [spec_l9Parts.l0] at h, fun _ _ _ r h => by simp [spec_l9Parts.l1] at h, fun _ _ _ _ r h => by simp [spec_l9Parts.l2] at h, fun _ _ _ r h => by simp [spec_l9Parts.l3] at h, fun _ _ _ _ _ r h => by simp [spec_l9Parts.l4] at h⟩
  | k + 1 => by
    obtain ⟨ih0, ih1, ih2, ih3, ih4⟩ := spec_l9Parts.mono_l k
    refine ⟨?_, ?_, ?_, ?_, ?_⟩
    · intro y0 y1 y2
      unfold spec_l9Parts.l0
      exact mM6 ih0 ih1 ih2 ih3 ih4 spec_l3Find.mono
    · intro y0 y1 y2
      unfold spec_l9Parts.l1
      exact mM6 ih0 ih1 ih2 ih3 ih4 spec_l3Find.mono
    · intro y0 y1 y2 y3
      unfold spec_l9Parts.l2
      exact mM6 ih0 ih1 ih2 ih3 ih4 spec_l3Find.mono
    · intro y0 y1 y2
      unfold spec_l9Parts.l3
      exact mM6 ih0 ih1 ih2 ih3 ih4 spec_l3Find.mono
    · intro y0 y1 y2 y3 y4
      unfold spec_l9Parts.l4
      exact mM6 ih0 ih1 ih2 ih3 ih4 spec_l3Find.mono
theorem spec_l9Parts.mono : ∀ a0 k, LeO (spec_l9Parts.f k a0) (spec_l9Parts.f (k + 1) a0) := by
  intro a0 k
  obtain ⟨ih0, ih1, ih2, ih3, ih4⟩ := spec_l9Parts.mono_l k
  unfold spec_l9Parts.f
  exact mM6 ih0 ih1 ih2 ih3 ih4 spec_l3Find.mono
theorem spec_l9Count.mono_l : ∀ k, (∀ g all list whole, LeO (spec_l9Count.f k g all list whole) (spec_l9Count.f (k + 1) g all list whole)) ∧ (∀ g all list whole s i, LeO (spec_l9Count.l0 k g all list whole s i) (spec_l9Count.l0 (k + 1) g all list whole s i))
  | 0 => ⟨fun _ _ _ _ r h => by simp [spec_l9Count.f] at h, fun _ _ _ _ _ _ r h => by simp [spec_l9Count.l0] at h⟩
  | k + 1 => by
    have ih := spec_l9Count.mono_l k
    refine ⟨fun g all list whole => ?_, fun g all list whole s i => ?_⟩
    · rw [spec_l9Count.f, spec_l9Count.f]
      exact LeO.bind (LeO.refl _) fun _ => LeO.ite (LeO.bind (spec_IsAction.mono _ _ _) fun _ => LeO.ite (LeO.ite (LeO.bind (spec_l9Parts.mono _ _) fun _ => LeO.refl _) (LeO.refl _)) (LeO.refl _)) (ih.2 _ _ _ _ _ _)
    · rw [spec_l9Count.l0, spec_l9Count.l0]
      exact LeO.ite (LeO.ite (LeO.ite (LeO.bind (ih.1 _ _ _ _) fun _ => ih.2 _ _ _ _ _ _) (LeO.refl _)) (LeO.refl _)) (LeO.refl _)
theorem spec_l9Count.mono : ∀ a0 l1 l2 a3 k, LeO (spec_l9Count.f k a0 l1 l2 a3) (spec_l9Count.f (k + 1) a0 l1 l2 a3) := fun a0 l1 l2 a3 k => (spec_l9Count.mono_l k).1 a0 l1 l2 a3
section
variable {ops : Array Oper} {o : Oper} {a : Act} {W : World} {Q : Exit → Act → World → Prop} {Kc : Act → World → Prop}
/-- a row without members, as it was laid -/
theorem spec_l9Count.lit0 {w : World} {b : Nat} (hb : W.heap[b]? = some (.cells #[] 30 (0, 0))) (hlb : w.heap.size ≤ b) : Kd.R (Kd.fixed (Kd.slice 3 (Kd.int .i64)) w) 30 W w.heap.size (fun _ => True) (.slice (some ⟨b, 0, none⟩) 0 0) ([] : List (List Int)) :=
  ⟨fun _ _ => trivial, [], ⟨by simp, .inr ⟨b, 0, #[], rfl, hlb, hb, by simp, by simp, by simp, by simp⟩⟩, Reps.none _ _⟩
/-- a row of one row that came in, as it was laid -/
theorem spec_l9Count.lit1 {w : World} {b : Nat} {x : List Int} {A5 : Option Addr} {c5 : Nat} (hb : W.heap[b]? = some (.cells #[.slice A5 x.length c5] 30 (0, 0))) (hl : x.length ≤ c5) (hx : Kd.C (Kd.int .i64) w A5 x.length x) (hlb : w.heap.size ≤ b) : Kd.R (Kd.fixed (Kd.slice 3 (Kd.int .i64)) w) 30 W w.heap.size (fun _ => True) (.slice (some ⟨b, 0, none⟩) 1 1) [x] :=
  ⟨fun _ _ => trivial, [.slice A5 x.length c5], ⟨rfl, .inr ⟨b, 1, #[.slice A5 x.length c5], rfl, hlb, hb, by simp, by simp [maxLen], rfl, rfl⟩⟩, by
    refine ⟨rfl, fun j p hj => ?_⟩
    rcases j with _ | j
    · obtain rfl : x = p := by simpa using hj
      exact ⟨A5, c5, rfl, hl, hx⟩
    · simp at hj⟩
theorem spec_l9Count.gate (y z : Operand) {p : Prop} (_ : o.op = .call { callee := .builtin .append, args := #[y, z], argTypes := #[24, 24] }) (h : if Region.wanted o (yielded ops a.tmps) = true then Oper.wp Try.prog o a W Kc Q else p) : if Region.wanted o (yielded ops a.tmps) = true then Oper.wp Try.prog o a W Kc Q else p := h
/-- a row that came in is appended to one of the call's own -/
theorem spec_l9Count.app {w : World} (hgd : o.guard = none) (s x : Operand) (ho : o.op = .call { callee := .builtin .append, args := #[s, x], argTypes := #[24, 24] }) (v : Value) (A : Option Addr) (m c : Nat) (xs ys : List (List Int))
    (hs : a.eval s = v) (hx : a.eval x = .slice A m c) (HO : Kd.R (Kd.fixed (Kd.slice 3 (Kd.int .i64)) w) 30 W w.heap.size (fun _ => True) v xs) (HR : ReadsRow ((Kd.slice 3 (Kd.int .i64)).K w) 1 W A m ys) (HB : Below w.heap.size w W) (hl : xs.length + m < 2000000)
    (h : ∀ v1 w1, Kd.R (Kd.fixed (Kd.slice 3 (Kd.int .i64)) w) 30 w1 w.heap.size (fun _ => True) v1 (xs ++ ys) → Below w.heap.size w w1 → W.grownBy w1 v.ownBlock → Kc (a.put o.dst v1) w1) :
    if Region.wanted o (yielded ops a.tmps) = true then Oper.wp Try.prog o a W Kc Q else Kc (a.put o.dst undef) W := by
  refine Kd.R_append_rows_step (Kd.fixed (Kd.slice 3 (Kd.int .i64)) w) (Rr := (Kd.slice 3 (Kd.int .i64)).K w) (w0 := w) w.heap.size (by simp [Region.wanted, hgd]) s x 24 30 (.slice none 0 0) 24 ho Try.underlying24 info30 rfl (show (0 : Nat) < 1 by omega) (by omega) v xs ys A m c (fun _ => True) (fun _ => False) hs hx HO HR (fun _ _ hp => hp) (fun _ hk => hk.elim) (fun _ _ => trivial) HB (by have := HB.size; omega) (by omega) (fun v1 w1 h1 h2 h3 _ => h v1 w1 h1 h2 h3)
theorem spec_l9Count.keep {w : World} {p : Addr} {v : Value} (h : w.cell? p = some v) (hb : Below w.heap.size w W) : W.cell? p = some v ∧ Below w.heap.size w W := ⟨(hb.cell (World.block_lt_of_cell? w _ h)).trans h, hb⟩
theorem spec_l9Count.hp0 (W : World) (o : Obj) : (W.alloc o).drew.heap[W.heap.size]? = some o := heap_alloc_new W o
theorem spec_l9Count.hp1 (W : World) (o o' : Obj) : ((W.alloc o).alloc o').drew.heap[W.heap.size]? = some o := ((below_alloc (Below.refl _ _) o').block _ (by show _ < (W.heap.push _).size; simp)).trans (heap_alloc_new W o)
theorem spec_l9Count.hp2 (W : World) (o o' : Obj) : ((W.alloc o).alloc o').drew.heap[W.heap.size + 1]? = some o' := by
  have := heap_alloc_new (W.alloc o) o'
  have e : (W.alloc o).heap.size = W.heap.size + 1 := by show (W.heap.push _).size = _; simp
  rw [e] at this
  exact this
theorem spec_l9Count.read {w : World} {base : Nat} {A : Option Addr} {n c : Nat} {xs : List (List Int)} (h : Kd.R (Kd.fixed (Kd.slice 3 (Kd.int .i64)) w) 30 W base (fun _ => True) (.slice A n c) xs) (hb : Below w.heap.size w W) : Kd.C (Kd.slice 3 (Kd.int .i64)) W A xs.length xs :=
  Kd.C_read (d := Kd.slice 3 (Kd.int .i64)) (dm := Kd.fixed (Kd.slice 3 (Kd.int .i64)) w) (w := W) rfl (fun x cs hk => (Kd.slice 3 (Kd.int .i64)).K_below (w := w) (w1 := W) hb hk) (Kd.R_reads' h).2.2
end
set_option maxHeartbeats 8000000 in
set_option maxRecDepth 100000 in
theorem spec_l9Count.rec_ : ∀ (k : Nat) (a0 : Int) (A1 : Option Addr) (c1 : Nat) (l1 : List (List Int)) (a3 : Bool) (A2 : Option Addr) (c2 : Nat) (l2 : List (List Int)) (r : Int) (w : World), Kd.C (Kd.slice 3 (Kd.int .i64)) w A1 l1.length l1 → l1.length ≤ c1 → Kd.C (Kd.slice 3 (Kd.int .i64)) w A2 l2.length l2 → l2.length ≤ c2 → spec_l9Count.f k a0 l1 l2 a3 = some r →
    Calls Try.prog 56 #[.int .i64 a0, .slice A1 l1.length c1, .slice A2 l2.length c2, .bool a3] w fun e w' => e = .returned (.int .i64 r) ∧ Below w.heap.size w w' := by
  intro k
  induction k with
  | zero => intro a0 A1 c1 l1 a3 A2 c2 l2 r w _ _ _ _ h; exact absurd h (by simp [spec_l9Count.f])
  | succ k ih =>
    intro a0 A1 c1 l1 a3 A2 c2 l2 r w hr1 hc1 hr2 hc2 h
    rw [spec_l9Count.f] at h
    obtain ⟨m, hm, h⟩ := Option.bind_eq_some_iff.mp h
    have IH := Aside0.mk ih
    have HR1 := Aside0.mk hr1
    have HC1 := Aside0.mk hc1
    have HR2 := Aside0.mk hr2
    have HC2 := Aside0.mk hc2
    have HM := Aside0.mk hm
    have HH := Aside0.mk h
    clear ih hr1 hc1 hr2 hc2 hm h
    by_cases e1 : (l2.length : Int) = wrap64 (2 * m)
    · have h := HH.out
      rw [if_pos e1] at h
      obtain ⟨t, ht, h⟩ := Option.bind_eq_some_iff.mp h
      have HT := Aside0.mk ht
      have H := Aside0.mk h
      have b1 : ((l2.length : Int) == wrap64 (2 * m)) = true := beq_iff_eq.2 e1
      clear ht h HH e1 IH
      go_enter Try.func56, Try.ntmps56
      go_wp2_with fail
      (go_at_call 61; (with_reducible refine (spec_l1Max.calls 1 a0 m _ HM.out).mono ?_))
      rintro e w1 ⟨rfl, hd⟩
      obtain ⟨n1, rfl⟩ := hd.out
      have hb1 := Aside0.mk (pw_below_drewN (Below.refl w.heap.size w) n1)
      generalize w.drewN n1 = w1 at hb1 ⊢
      go_wp2_with fail
      (go_at_call 24; (with_reducible refine (spec_IsAction.calls k a0 _ _ l2 t _ (Kd.C_below HR2.out hb1.out) HC2.out HT.out).mono ?_))
      rintro e w2 ⟨rfl, hb⟩
      have hb2 := Aside0.mk (below_step hb1.out hb)
      clear hb hd hb1
      cases t with
      | false =>
        have h := H.out
        rw [if_neg (by decide)] at h
        have HF := Aside0.mk h
        clear h H
        go_wp2_with fail
        (go_at_call 40; (with_reducible refine (spec_l1Bit.calls false r _ HF.out).mono ?_))
        rintro e w3 ⟨rfl, hd⟩
        obtain ⟨n3, rfl⟩ := hd.out
        have hb3 := Aside0.mk (pw_below_drewN hb2.out n3)
        clear hd hb2
        go_wp2
        go_ret
        exact ⟨rfl, hb3.out⟩
      | true =>
        have h := H.out
        rw [if_pos rfl] at h
        cases a3 with
        | false =>
          rw [if_neg (by decide)] at h
          have HF := Aside0.mk h
          clear h H
          go_wp2_with fail
          (go_at_call 40; (with_reducible refine (spec_l1Bit.calls true r _ HF.out).mono ?_))
          rintro e w3 ⟨rfl, hd⟩
          obtain ⟨n3, rfl⟩ := hd.out
          have hb3 := Aside0.mk (pw_below_drewN hb2.out n3)
          clear hd hb2
          go_wp2
          go_ret
          exact ⟨rfl, hb3.out⟩
        | true =>
          rw [if_pos rfl] at h
          obtain ⟨ps, hp, h⟩ := Option.bind_eq_some_iff.mp h
          have HP := Aside0.mk hp
          have HF := Aside0.mk h
          clear h H hp
          go_wp2_with fail
          (go_at_call 37; (with_reducible refine (spec_l9Parts.calls k _ _ l2 ps _ (Kd.C_below HR2.out hb2.out) HC2.out HP.out).mono ?_))
          rintro e w3 ⟨v3, rfl, ho, hb⟩
          obtain ⟨A3, c3, rfl⟩ := Kd.S_slice ho
          have hb3 := Aside0.mk (below_step hb2.out hb)
          clear ho hb hb2
          go_wp2_with fail
          (go_at_call 40; (with_reducible refine (spec_l1Bit.calls ((ps.length : Int) == 1) r _ HF.out).mono ?_))
          rintro e w4 ⟨rfl, hd⟩
          obtain ⟨n4, rfl⟩ := hd.out
          have hb4 := Aside0.mk (pw_below_drewN hb3.out n4)
          clear hd hb3
          go_wp2
          go_ret
          exact ⟨rfl, hb4.out⟩
    · have h := HH.out
      rw [if_neg e1] at h
      have H := Aside0.mk h
      have b1 : ((l2.length : Int) == wrap64 (2 * m)) = false := beq_eq_false_iff_ne.2 e1
      clear h HH e1
      go_enter Try.func56, Try.ntmps56
      go_wp2_with fail
      (go_at_call 61; (with_reducible refine (spec_l1Max.calls 1 a0 m _ HM.out).mono ?_))
      rintro e w1 ⟨rfl, hd⟩
      obtain ⟨n1, rfl⟩ := hd.out
      have hb1 := Aside0.mk (pw_below_drewN (Below.refl w.heap.size w) n1)
      generalize w.drewN n1 = w1 at hb1 ⊢
      clear hd
      go_wp2
      go_loopg [9, 10] k (fun kq v9 v10 w' => ∃ s i : Int, v9 = .int .i64 s ∧ v10 = .int .i64 i ∧ Aside0 (spec_l9Count.l0 kq a0 l1 l2 a3 s i = some r) ∧ Aside0 (kq ≤ k) ∧ Aside0 (Below w.heap.size w w'))
      case atStart => exact ⟨0, 0, rfl, rfl, H, ⟨Nat.le_refl _⟩, hb1⟩
      case round =>
        clear H hb1 b1
        obtain ⟨s, i, rfl, rfl, HA, HK, HB⟩ := hrel
        cases gk with
        | zero => exact absurd HA.out (by simp [spec_l9Count.l0])
        | succ k1 =>
          have h := HA.out
          rw [spec_l9Count.l0] at h
          clear HA
          by_cases c1 : i < (l1.length : Int)
          · rw [if_pos c1] at h
            have c1b0 : decide (i < (l1.length : Int)) = true := decide_eq_true c1
            by_cases c2 : 0 ≤ i
            · rw [if_pos c2] at h
              by_cases c3 : l2.length < 1000000
              · rw [if_pos c3] at h
                obtain ⟨t, ht, h⟩ := Option.bind_eq_some_iff.mp h
                have HT := Aside0.mk (at_rounds (fun q => spec_l9Count.mono a0 l1 (l2 ++ [rd_L2 l1 i]) a3 q) (show k1 ≤ k by have := HK.out; omega) ht)
                have H := Aside0.mk h
                have LM := Aside0.mk c3
                clear ht h
                obtain ⟨ad, A5, c5, e5, hx5, hl5, hi5⟩ := at_L2 HR1.out i c2 c1
                subst e5
                have hx := (HB.out.cell (World.block_lt_of_cell? w _ hx5)).trans hx5
                have HR5 := Aside0.mk hi5
                have HC5 := Aside0.mk hl5
                have HX := Aside0.mk hx5
                clear hx5 hi5 hl5 c3
                have p5 := eq_true c2
                have q5 := eq_true c1
                clear c1 c2
                go_wp2_with fail
                have sz1 : w.heap.size ≤ wr.heap.size := HB.out.size
                have sz2 : w.heap.size ≤ wr.heap.size + 1 := by omega
                have HR2' : ∀ W', Below w.heap.size w W' → ReadsRow ((Kd.slice 3 (Kd.int .i64)).K w) 1 W' A2 l2.length l2 := fun W' hb => ReadsRow.imp_ HR2.out hb (fun _ _ hp => hp)
                have LM' : ([] : List (List Int)).length + l2.length < 2000000 := by have := LM.out; simp; omega
                have LM2 : l2.length + 1 < 2000000 := by have := LM.out; omega
                go_region_held3 (fun W' => W'.cell? (ad.add i.toNat) = some (.slice A5 (rd_L2 l1 i).length c5) ∧ Below w.heap.size w W')
                  ((refine spec_l9Count.keep HX.out ?_; repeat (first | assumption | exact HB.out | apply below_drew | apply below_alloc)))
                  (first
                    | ((with_reducible refine spec_l9Count.gate (.tmp 40) (.tmp 41) rfl ?_); refine spec_l9Count.app (w := w) (by rfl) (.tmp 40) (.tmp 41) (by rfl) _ A2 l2.length c2 [] l2 (by rfl) (by rfl) (spec_l9Count.lit0 (spec_l9Count.hp0 _ _) sz1) (HR2' _ (below_drew (below_alloc HB.out _))) (below_drew (below_alloc HB.out _)) LM' ?_; intro v1 w1 hR1 hB1 hG1)
                    | ((with_reducible refine spec_l9Count.gate (.tmp 40) (.tmp 41) rfl ?_); refine spec_l9Count.app (w := w) (by rfl) (.tmp 40) (.tmp 41) (by rfl) _ A2 l2.length c2 [] l2 (by rfl) (by rfl) (spec_l9Count.lit0 (spec_l9Count.hp2 _ _ _) sz2) (HR2' _ (below_drew (below_alloc (below_alloc HB.out _) _))) (below_drew (below_alloc (below_alloc HB.out _) _)) LM' ?_; intro v1 w1 hR1 hB1 hG1; have hq := (hG1.block wr.heap.size (by show _ < ((wr.heap.push _).push _).size; simp only [Array.size_push]; omega) (by simp [Value.ownBlock])).trans (spec_l9Count.hp1 _ _ _); have hz := sz1)
                    | ((with_reducible refine spec_l9Count.gate (.tmp 40) (.tmp 41) rfl ?_); refine spec_l9Count.app (w := w) (by rfl) (.tmp 40) (.tmp 41) (by rfl) _ A2 l2.length c2 [] l2 (by rfl) (by rfl) (spec_l9Count.lit0 (spec_l9Count.hp1 _ _ _) sz1) (HR2' _ (below_drew (below_alloc (below_alloc HB.out _) _))) (below_drew (below_alloc (below_alloc HB.out _) _)) LM' ?_; intro v1 w1 hR1 hB1 hG1; have hq := (hG1.block (wr.heap.size + 1) (by show _ < ((wr.heap.push _).push _).size; simp only [Array.size_push]; omega) (by simp [Value.ownBlock])).trans (spec_l9Count.hp2 _ _ _); have hz := sz2)
                    | ((with_reducible refine spec_l9Count.gate (.tmp 42) (.tmp 47) rfl ?_); refine spec_l9Count.app (w := w) (by rfl) (.tmp 42) (.tmp 47) (by rfl) v1 _ 1 1 l2 [rd_L2 l1 i] (by rfl) (by rfl) (Kd.R_alloc hR1 _) (Kd.R_reads' (spec_l9Count.lit1 (heap_alloc_new _ _) HC5.out HR5.out hB1.size)).2.2 (below_alloc hB1 _) LM2 ?_; intro v2 w2 hR2 hB2 hG2; obtain ⟨A3, c3, rfl⟩ := Kd.R_slice hR2)
                    | ((with_reducible refine spec_l9Count.gate (.tmp 42) (.tmp 47) rfl ?_); refine spec_l9Count.app (w := w) (by rfl) (.tmp 42) (.tmp 47) (by rfl) v1 _ 1 1 l2 [rd_L2 l1 i] (by rfl) (by rfl) (hR1) (Kd.R_reads' (spec_l9Count.lit1 (hq) HC5.out HR5.out hz)).2.2 (hB1) LM2 ?_; intro v2 w2 hR2 hB2 hG2; obtain ⟨A3, c3, rfl⟩ := Kd.R_slice hR2)
                    | (have hcall := IH.out a0 _ c1 l1 a3 _ c3 (l2 ++ [rd_L2 l1 i]) t _ (Kd.C_below HR1.out hB2) HC1.out (spec_l9Count.read hR2 hB2) (Kd.R_reads' hR2).2.1 HT.out; rw [show (l2 ++ [rd_L2 l1 i]).length = l2.length + 1 by simp] at hcall; (go_at_call 56; (with_reducible refine hcall.mono ?_)); clear hcall; rintro e w3 ⟨rfl, hb3⟩; have hB3 := below_step hB2 hb3))
                all_goals as_aux_lemma =>
                  go_wp2
                  go_roundg k1
                  case measure => have := HK.out; omega
                  case rel => exact ⟨_, _, rfl, rfl, ⟨by rw [show IntKind.i64.wrap (s + t) = wrap64 (s + t) from by rw [IntKind.wrap_i64]; unfold wrap64; omega]; exact H.out⟩, ⟨by have := HK.out; omega⟩, ⟨hB3⟩⟩
              · rw [if_neg c3] at h
                exact absurd h (by simp)
            · rw [if_neg c2] at h
              exact absurd h (by simp)
          · rw [if_neg c1] at h
            have c1b0 : decide (i < (l1.length : Int)) = false := decide_eq_false c1
            obtain rfl := Option.some.inj h
            clear h c1
            go_wp2
            go_ret
            exact ⟨rfl, HB.out⟩
set_option maxHeartbeats 8000000 in
set_option maxRecDepth 100000 in
theorem spec_l9Count.calls (k : Nat) (a0 : Int) (A1 : Option Addr) (c1 : Nat) (l1 : List (List Int)) (A2 : Option Addr) (c2 : Nat) (l2 : List (List Int)) (a3 : Bool) (r : Int) (w : World) (hr1 : Kd.C (Kd.slice 3 (Kd.int .i64)) w A1 l1.length l1) (hc1 : l1.length ≤ c1) (hr2 : Kd.C (Kd.slice 3 (Kd.int .i64)) w A2 l2.length l2) (hc2 : l2.length ≤ c2) (h : spec_l9Count.f k a0 l1 l2 a3 = some r) :
    Calls Try.prog 56 #[.int .i64 a0, .slice A1 l1.length c1, .slice A2 l2.length c2, .bool a3] w fun e w' => e = .returned (.int .i64 r) ∧ Below w.heap.size w w' := by
  exact spec_l9Count.rec_ k a0 A1 c1 l1 a3 A2 c2 l2 r w hr1 hc1 hr2 hc2 h

/-! ### spec_l9All: function 57 -/
mutual
def spec_l9All.l0 : Nat → Int → List (List Int) → Int → Option ((List (List Int)))
  | 0, _, _, _ => none
  | k + 1, x0, x3, x4 => if x4 < x0 then (spec_l9All.l1 k x0 x3 x4 (([] : List (List Int))) 0) else (some x3)
def spec_l9All.l1 : Nat → Int → List (List Int) → Int → List (List Int) → Int → Option ((List (List Int)))
  | 0, _, _, _, _, _ => none
  | k + 1, x0, x3, x4, x5, x6 => if x6 < (x3.length : Int) then (spec_l9All.l2 k x0 x3 x4 x5 x6 0) else (spec_l9All.l0 k x0 x5 (wrap64 (x4 + 1)))
def spec_l9All.l2 : Nat → Int → List (List Int) → Int → List (List Int) → Int → Int → Option ((List (List Int)))
  | 0, _, _, _, _, _, _ => none
  | k + 1, x0, x3, x4, x5, x6, x7 => if 0 ≤ x6 then (if x6 < (x3.length : Int) then (if x7 ≤ ((rd_L2 x3 x6).length : Int) then ((some (([] : List Int) : List Int)).bind fun y601 => (if 0 ≤ x7 then ((some ((rd_L2 x3 x6).drop (x7 : Int).toNat : List Int)).bind fun y605 => (if y601.length + y605.length < 17592186044416 then ((some (y601 ++ y605 : List Int)).bind fun y610 => ((some (([] : List Int) : List Int)).bind fun y613 => ((some ((rd_L2 x3 x6).take (x7 : Int).toNat : List Int)).bind fun y617 => (if y613.length + y617.length < 17592186044416 then ((some (y613 ++ y617 : List Int)).bind fun y622 => (if y622.length < 17592186044416 then ((some (y622 ++ [x4] : List Int)).bind fun y625 => (if y625.length + y610.length < 17592186044416 then (if x5.length < 5864062014805 then (spec_l9All.l2 k x0 x3 x4 (x5 ++ [(y625 ++ y610)]) x6 (wrap64 (x7 + 1))) else (none)) else (none))) else (none))) else (none))))) else (none))) else (none))) else (spec_l9All.l1 k x0 x3 x4 x5 (wrap64 (x6 + 1)))) else (none)) else (none)
end
def spec_l9All.f (k : Nat) (a0 : Int) : Option ((List (List Int))) := spec_l9All.l0 k a0 (([(([] : List Int))] : List (List Int))) 0
theorem spec_l9All.mono_l : ∀ k, (∀ y0 y1 y2, LeO (spec_l9All.l0 k y0 y1 y2) (spec_l9All.l0 (k + 1) y0 y1 y2)) ∧ (∀ y0 y1 y2 y3 y4, LeO (spec_l9All.l1 k y0 y1 y2 y3 y4) (spec_l9All.l1 (k + 1) y0 y1 y2 y3 y4)) ∧ (∀ y0 y1 y2 y3 y4 y5, LeO (spec_l9All.l2 k y0 y1 y2 y3 y4 y5) (spec_l9All.l2 (k + 1) y0 y1 y2 y3 y4 y5))
  | 0 => ⟨fun _ _ _ r h => by simp [spec_l9All.l0] at h, fun _ _ _ _ _ r h => by simp [spec_l9All.l1] at h, fun _ _ _ _ _ _ r h => by simp [spec_l9All.l2] at h⟩
  | k + 1 => by
    obtain ⟨ih0, ih1, ih2⟩ := spec_l9All.mono_l k
    refine ⟨?_, ?_, ?_⟩
    · intro y0 y1 y2
      unfold spec_l9All.l0
      exact mM3 ih0 ih1 ih2
    · intro y0 y1 y2 y3 y4
      unfold spec_l9All.l1
      exact mM3 ih0 ih1 ih2
    · intro y0 y1 y2 y3 y4 y5
      unfold spec_l9All.l2
      exact mM3 ih0 ih1 ih2
theorem spec_l9All.mono : ∀ a0 k, LeO (spec_l9All.f k a0) (spec_l9All.f (k + 1) a0) := by
  intro a0 k
  obtain ⟨ih0, ih1, ih2⟩ := spec_l9All.mono_l k
  unfold spec_l9All.f
  exact mM3 ih0 ih1 ih2
set_option maxHeartbeats 8000000 in
set_option maxRecDepth 100000 in
theorem spec_l9All.calls (k : Nat) (a0 : Int) (r : List (List Int)) (w : World) (h : spec_l9All.f k a0 = some r) :
    Calls Try.prog 57 #[.int .i64 a0] w fun e w' => ∃ v0_ : Value, e = .returned (v0_) ∧ Kd.N (Kd.slice 3 (Kd.int .i64)) 30 w' w.heap.size (fun k_ => (w.heap.size ≤ k_)) v0_ r ∧ Below w.heap.size w w' := by
  have HB := Aside0.mk (Below.refl w.heap.size w)
  have H : (spec_l9All.l0 k a0 (([(([] : List Int))] : List (List Int))) 0) = some r := h
  clear h
  generalize hy591 : (([] : List Int) : List Int) = y591 at H
  have Ny591 := Aside0.mk hy591.symm; clear hy591
  generalize hy594 : (([y591] : List (List Int)) : List (List Int)) = y594 at H
  have Ny594 := Aside0.mk hy594.symm; clear hy594
  have H' := Aside0.mk H
  clear H
  go_enter Try.func57, Try.ntmps57
  go_wp2_with (first | ((with_reducible refine gate_dst (N := 9) rfl ?_); refine Kd.R_lit (Kd.int .i64) _ 3 ?hg (N := 9) ?hd (xs := ([] : List Int)) (inner := []) (ok := fun _ => True) (okp := fun _ => True) ?hr ?hp (fun _ hk => hk) trivial (Below.refl _ _) (Nat.le_refl _) (by simp) ?_; (case hd => rfl); (case hg => rfl); (case hr => exact gS); (case hp => exact (Reps.none _ _)); intro v592 w2 ho3 hb hg_ hnew_; clear hg_ hnew_; (first | rw [← Ny591.out] at ho3 | (simp only [Int.reduceToNat] at ho3; rw [← Ny591.out] at ho3)); have HO593 := Aside0.mk (Kd.R_lower (Kd.R_newM (M := fun k_ => (w.heap.size ≤ k_)) ho3 (below_size tb) (fun k_ h_ => h_)) (below_size tb)); replace HB := Aside0.mk (below_step tb hb); clear hb ho3; obtain ⟨Ao4, co4, eo4⟩ := Kd.R_slice HO593.out; subst eo4) | ((with_reducible refine gate_dst (N := 10) rfl ?_); refine Kd.N_lit (Kd.slice 3 (Kd.int .i64)) _ 30 ?hg (N' := 10) ?hd (xs := ([y591] : List (List Int))) (inner := [.slice Ao4 y591.length co4]) (ok := (fun k_ => (w.heap.size ≤ k_))) (okp := (fun k_ => (w.heap.size ≤ k_))) ?hr ?hp (fun _ hk => hk) ((show ∀ k_, w2.heap.size ≤ k_ → (fun k_ => (w.heap.size ≤ k_)) k_ from fun k_ hk => (Nat.le_trans (below_size tb) hk)) _ (Nat.le_refl _)) (Below.refl _ _) (Nat.le_refl _) (by simp) ?_; (case hd => rfl); (case hg => rfl); (case hr => exact gS); (case hp => exact (Reps.one (show Kd.FK (Kd.slice 3 (Kd.int .i64)) _ _ y591 [.slice Ao4 y591.length co4] from (Kd.FK_slice_mk (Kd.R_reads' (Kd.R_mono (ok' := (fun k_ => (w.heap.size ≤ k_))) (HO593.out) (fun k_ hk => hk.1))).2.1 (Kd.R_F (Kd.R_mono (ok' := (fun k_ => (w.heap.size ≤ k_))) (HO593.out) (fun k_ hk => hk.1))))) (Reps.none _ _))); intro v595 w5 ho6 hb hg_ hnew_; clear hg_ hnew_; (first | rw [← Ny594.out] at ho6 | (simp only [Int.reduceToNat] at ho6; rw [← Ny594.out] at ho6)); have HO596 := Aside0.mk (Kd.N_lower ho6 (below_size tb)); replace HB := Aside0.mk (below_step tb hb); clear HO593; clear hb ho6))
  go_loopg [3, 4] k (fun kq v3 v4 w' => ∃ (x3_1 : List (List Int)) (x4_1 : Int), v4 = .int .i64 x4_1 ∧ Aside0 (spec_l9All.l0 kq a0 x3_1 x4_1 = some r) ∧ Aside0 (kq ≤ k) ∧ Aside0 (Kd.N (Kd.slice 3 (Kd.int .i64)) 30 w' w.heap.size (fun k_ => (w.heap.size ≤ k_)) v3 x3_1) ∧ Aside0 (Below w.heap.size w w'))
  case atStart => exact ⟨(y594), (0), rS, H', ⟨Nat.le_refl _⟩, ⟨N_l HO596.out⟩, ⟨tb⟩⟩
  case round =>
    clear H'
    try clear p2
    try clear c5
    obtain ⟨x3_1, x4_1, rfl, HA, HK1, HO_3, HB⟩ := hrel
    cases gk with
    | zero => exact absurd HA.out (by simp [spec_l9All.l0])
    | succ k1 =>
      have H := HA.out
      clear HA
      simp only [spec_l9All.l0] at H
      obtain ⟨c7b0, H⟩ | ⟨c7b0, H⟩ := gi H
      · obtain ⟨y597, hy597⟩ : ∃ y_ : List (List Int), y_ = (([] : List (List Int))) := ⟨_, rfl⟩
        replace H : (spec_l9All.l1 k1 a0 x3_1 x4_1 y597 0) = some r := by first | (rw [hy597]; with_reducible exact H) | (have H2_ := (Option.bind_some _ _).symm.trans H; rw [hy597]; with_reducible exact H2_) | (have H2_ := (Option.bind_some _ _).symm.trans H; with_reducible exact H2_) | with_reducible exact H | (rw [hy597]; exact H) | exact H
        have Ny597 := Aside0.mk hy597
        clear hy597
        have H' := Aside0.mk H
        clear H
        go_wp2_with (first | ((with_reducible refine gate_dst (N := 16) rfl ?_); refine Kd.N_lit (Kd.slice 3 (Kd.int .i64)) _ 30 ?hg (N' := 16) ?hd (xs := ([] : List (List Int))) (inner := []) (ok := (fun k_ => (w.heap.size ≤ k_) ∧ some k_ ≠ (u3 : Value).ownBlock)) (okp := (fun k_ => (w.heap.size ≤ k_) ∧ some k_ ≠ (u3 : Value).ownBlock)) ?hr ?hp (fun _ hk => hk) ((show ∀ k_, wr.heap.size ≤ k_ → (fun k_ => (w.heap.size ≤ k_) ∧ some k_ ≠ (u3 : Value).ownBlock) k_ from fun k_ hk => ⟨(Nat.le_trans (below_size tb) hk), Kd.fresh' (Kd.N_lt (N_l HO_3.out)) k_ hk⟩) _ (Nat.le_refl _)) (Below.refl _ _) (Nat.le_refl _) (by simp) ?_; (case hd => rfl); (case hg => rfl); (case hr => exact gS); (case hp => exact (Reps.none _ _)); intro v598 w8 ho9 hb hg_ hnew_; clear hg_ hnew_; (first | rw [← Ny597.out] at ho9 | (simp only [Int.reduceToNat] at ho9; rw [← Ny597.out] at ho9)); replace HO_3 := Aside0.mk (Kd.N_elder' (N_l HO_3.out) (Kd.N_base ho9) hb); have HO599 := Aside0.mk (Kd.N_lower ho9 (below_size tb)); replace HB := Aside0.mk (below_step tb hb); clear hb ho9))
        go_loopg [5, 6] k1 (fun kq v5 v6 w' => ∃ (x5_2 : List (List Int)) (x6_2 : Int), v6 = .int .i64 x6_2 ∧ Aside0 (spec_l9All.l1 kq a0 x3_1 x4_1 x5_2 x6_2 = some r) ∧ Aside0 (kq ≤ k1) ∧ Aside0 (Kd.N (Kd.slice 3 (Kd.int .i64)) 30 w' w.heap.size (fun k_ => (w.heap.size ≤ k_) ∧ some k_ ≠ (v5 : Value).ownBlock) u3 x3_1) ∧ Aside0 (Kd.N (Kd.slice 3 (Kd.int .i64)) 30 w' w.heap.size (fun k_ => (w.heap.size ≤ k_) ∧ some k_ ≠ (u3 : Value).ownBlock) v5 x5_2) ∧ Aside0 (Below w.heap.size w w'))
        case atStart => exact ⟨(y597), (0), rS, H', ⟨Nat.le_refl _⟩, ⟨N_l HO_3.out⟩, ⟨N_l HO599.out⟩, ⟨tb⟩⟩
        case round =>
          clear H'
          try clear p2
          try clear c5
          try clear c7
          try clear c7b0
          try clear p2
          obtain ⟨x5_2, x6_2, rfl, HA, HK2, HO_3, HO_5, HB⟩ := hrel
          cases gk with
          | zero => exact absurd HA.out (by simp [spec_l9All.l1])
          | succ k2 =>
            have H := HA.out
            clear HA
            simp only [spec_l9All.l1] at H
            obtain ⟨c10b0, H⟩ | ⟨c10b0, H⟩ := gi H
            · have H' := Aside0.mk H
              clear H
              obtain ⟨Ao11, co11, eo11⟩ := Kd.N_slice HO_3.out
              subst eo11
              go_wp2
              go_loopg [5, 7] k2 (fun kq v5 v7 w' => ∃ (x5_3 : List (List Int)) (x7_3 : Int), v7 = .int .i64 x7_3 ∧ Aside0 (spec_l9All.l2 kq a0 x3_1 x4_1 x5_3 x6_2 x7_3 = some r) ∧ Aside0 (kq ≤ k2) ∧ Aside0 (Kd.N (Kd.slice 3 (Kd.int .i64)) 30 w' w.heap.size (fun k_ => (w.heap.size ≤ k_) ∧ some k_ ≠ (v5 : Value).ownBlock) (.slice Ao11 x3_1.length co11) x3_1) ∧ Aside0 (Kd.N (Kd.slice 3 (Kd.int .i64)) 30 w' w.heap.size (fun k_ => (w.heap.size ≤ k_) ∧ some k_ ≠ ((.slice Ao11 x3_1.length co11) : Value).ownBlock) v5 x5_3) ∧ Aside0 (Below w.heap.size w w'))
              case atStart => exact ⟨(x5_2), (0), rS, H', ⟨Nat.le_refl _⟩, ⟨N_l HO_3.out⟩, ⟨N_l HO_5.out⟩, ⟨tb⟩⟩
              case round =>
                clear H'
                try clear c1
                try clear p2
                try clear c5
                try clear c7
                try clear c7b0
                try clear c10
                try clear c10b0
                try clear p2
                obtain ⟨x5_3, x7_3, rfl, HA, HK3, HO_3, HO_5, HB⟩ := hrel
                cases gk with
                | zero => exact absurd HA.out (by simp [spec_l9All.l2])
                | succ k3 =>
                  have H := HA.out
                  clear HA
                  simp only [spec_l9All.l2] at H
                  obtain ⟨c12b0, H⟩ := gdt H
                  obtain ⟨c13b0, H⟩ := gdt H
                  obtain ⟨c14b0, H⟩ | ⟨c14b0, H⟩ := gi H
                  · obtain ⟨y601, hy601⟩ : ∃ y_ : List Int, y_ = (([] : List Int)) := ⟨_, rfl⟩
                    replace H : (if 0 ≤ x7_3 then ((some ((rd_L2 x3_1 x6_2).drop (x7_3 : Int).toNat : List Int)).bind fun y605 => (if y601.length + y605.length < 17592186044416 then ((some (y601 ++ y605 : List Int)).bind fun y610 => ((some (([] : List Int) : List Int)).bind fun y613 => ((some ((rd_L2 x3_1 x6_2).take (x7_3 : Int).toNat : List Int)).bind fun y617 => (if y613.length + y617.length < 17592186044416 then ((some (y613 ++ y617 : List Int)).bind fun y622 => (if y622.length < 17592186044416 then ((some (y622 ++ [x4_1] : List Int)).bind fun y625 => (if y625.length + y610.length < 17592186044416 then (if x5_3.length < 5864062014805 then (spec_l9All.l2 k3 a0 x3_1 x4_1 (x5_3 ++ [(y625 ++ y610)]) x6_2 (wrap64 (x7_3 + 1))) else (none)) else (none))) else (none))) else (none))))) else (none))) else (none)) = some r := by first | (rw [hy601]; with_reducible exact H) | (have H2_ := (Option.bind_some _ _).symm.trans H; rw [hy601]; with_reducible exact H2_) | (have H2_ := (Option.bind_some _ _).symm.trans H; with_reducible exact H2_) | with_reducible exact H | (rw [hy601]; exact H) | exact H
                    have Ny601 := Aside0.mk hy601
                    clear hy601
                    obtain ⟨c15, H⟩ := gd H
                    have c15b0 := eq_true c15
                    have c15b1 : decide (0 ≤ x7_3) = true := decide_eq_true c15
                    clear c15
                    have c16b0 := eq_true (dT : x7_3 ≤ ((rd_L2 x3_1 x6_2).length : Int))
                    generalize hy605 : ((rd_L2 x3_1 x6_2).drop (x7_3 : Int).toNat : List Int) = y605 at H
                    have Ny605 := Aside0.mk hy605.symm; clear hy605
                    obtain ⟨LMc17, H⟩ := gda H
                    generalize hy610 : (y601 ++ y605 : List Int) = y610 at H
                    have Ny610 := Aside0.mk hy610.symm; clear hy610
                    obtain ⟨y613, hy613⟩ : ∃ y_ : List Int, y_ = (([] : List Int)) := ⟨_, rfl⟩
                    replace H : ((some ((rd_L2 x3_1 x6_2).take (x7_3 : Int).toNat : List Int)).bind fun y617 => (if y613.length + y617.length < 17592186044416 then ((some (y613 ++ y617 : List Int)).bind fun y622 => (if y622.length < 17592186044416 then ((some (y622 ++ [x4_1] : List Int)).bind fun y625 => (if y625.length + y610.length < 17592186044416 then (if x5_3.length < 5864062014805 then (spec_l9All.l2 k3 a0 x3_1 x4_1 (x5_3 ++ [(y625 ++ y610)]) x6_2 (wrap64 (x7_3 + 1))) else (none)) else (none))) else (none))) else (none))) = some r := by first | (rw [hy613]; with_reducible exact H) | (have H2_ := (Option.bind_some _ _).symm.trans H; rw [hy613]; with_reducible exact H2_) | (have H2_ := (Option.bind_some _ _).symm.trans H; with_reducible exact H2_) | with_reducible exact H | (rw [hy613]; exact H) | exact H
                    have Ny613 := Aside0.mk hy613
                    clear hy613
                    have c18b0 := eq_true (dT : 0 ≤ x7_3)
                    have c19b0 := eq_true (dT : x7_3 ≤ ((rd_L2 x3_1 x6_2).length : Int))
                    generalize hy617 : ((rd_L2 x3_1 x6_2).take (x7_3 : Int).toNat : List Int) = y617 at H
                    have Ny617 := Aside0.mk hy617.symm; clear hy617
                    obtain ⟨LMc20, H⟩ := gda H
                    generalize hy622 : (y613 ++ y617 : List Int) = y622 at H
                    have Ny622 := Aside0.mk hy622.symm; clear hy622
                    obtain ⟨LMc21, H⟩ := gda H
                    generalize hy625 : (y622 ++ [x4_1] : List Int) = y625 at H
                    have Ny625 := Aside0.mk hy625.symm; clear hy625
                    obtain ⟨LMc22, H⟩ := gda H
                    generalize hy628 : (y625 ++ y610 : List Int) = y628 at H
                    have Ny628 := Aside0.mk hy628.symm; clear hy628
                    obtain ⟨LMc23, H⟩ := gda H
                    generalize hy631 : (x5_3 ++ [y628] : List (List Int)) = y631 at H
                    have Ny631 := Aside0.mk hy631.symm; clear hy631
                    have H' := Aside0.mk H
                    clear H
                    have p600 : 0 ≤ (x6_2 : Int) := dT
                    have q600 : x6_2 < (x3_1.length : Int) := dT
                    obtain ⟨ad600, A600_0, c600_0, e600, hx600_0, hl600_0, hi600_0⟩ := at_L2 (Kd.N_reads' HO_3.out).2.2 x6_2 p600 q600
                    cases e600
                    obtain ⟨ce600, hce600, hMe600, hcc600⟩ := Kd.N_get HO_3.out [] x6_2 p600 (by first | exact q600 | exact dT | (have e_ := (Kd.N_reads' HO_3.out).1; omega))
                    obtain ⟨ua600_0, uc600_0, rfl, ul600_0, ge600_0⟩ := Kd.FK_slice_open hMe600
                    have hv600_0 := hcc600 0 _ rfl
                    rw [Nat.add_zero, show ((Kd.slice 3 (Kd.int .i64))).sz = 1 from rfl, Nat.mul_one] at hv600_0
                    replace hv600_0 := Option.some.inj (hv600_0.symm.trans hx600_0)
                    injection hv600_0 with hva_ hvn_ hvc_
                    rw [hva_] at ge600_0
                    rw [hvc_] at ul600_0
                    have HL600_0 := Aside0.mk (show Kd.V (Kd.int .i64) 3 _ w.heap.size _ _ (rd_L2 x3_1 x6_2) from Kd.V_mk ul600_0 ge600_0)
                    clear hva_ hvn_ hvc_ ge600_0 ul600_0
                    clear hcc600 hce600
                    have HR600_0 := Aside0.mk hi600_0
                    have HC600_0 := Aside0.mk hl600_0
                    clear hi600_0 hl600_0
                    replace p600 := eq_true p600
                    replace q600 := eq_true q600
                    go_wp2_with (first | ((with_reducible refine gate_dst (N := 32) rfl ?_); refine Kd.R_lit (Kd.int .i64) _ 3 ?hg (N := 32) ?hd (xs := ([] : List Int)) (inner := []) (ok := fun _ => True) (okp := fun _ => True) ?hr ?hp (fun _ hk => hk) trivial (Below.refl _ _) (Nat.le_refl _) (by simp) ?_; (case hd => rfl); (case hg => rfl); (case hr => exact gS); (case hp => exact (Reps.none _ _)); intro v602 w24 ho25 hb hg_ hnew_; clear hg_ hnew_; (first | rw [← Ny601.out] at ho25 | (simp only [Int.reduceToNat] at ho25; rw [← Ny601.out] at ho25)); replace HO_3 := Aside0.mk (Kd.N_elder' (N_l HO_3.out) (Kd.R_base ho25) hb); replace HO_5 := Aside0.mk (Kd.N_elder' (N_l HO_5.out) (Kd.R_base ho25) hb); replace HL600_0 := Aside0.mk (Kd.V_elder' (by (with_reducible repeat (first | apply Kd.V_alloc | apply Kd.V_drewN | apply Kd.V_drew)); exact HL600_0.out) (Kd.R_base ho25) hb); have HO603 := Aside0.mk (Kd.R_lower (Kd.R_newM (M := fun k_ => (w.heap.size ≤ k_)) ho25 (below_size tb) (fun k_ h_ => h_)) (below_size tb)); replace HR600_0 := Aside0.mk (Kd.C_below (by repeat (first | (with_reducible exact HR600_0.out) | (with_reducible refine Kd.C_alloc ?_ _) | (with_reducible refine Kd.C_drewN ?_ _) | (with_reducible refine Kd.C_drew ?_) | exact HR600_0.out)) hb); replace HB := Aside0.mk (below_step tb hb); clear hb ho25; have p604 : 0 ≤ (x6_2 : Int) := dT; have q604 : x6_2 < (x3_1.length : Int) := dT; obtain ⟨ad604, A604_0, c604_0, e604, hx604_0, hl604_0, hi604_0⟩ := at_L2 (Kd.N_reads' HO_3.out).2.2 x6_2 p604 q604; obtain rfl : ad600 = ad604 := (by injection e604); obtain ⟨ce604, hce604, hMe604, hcc604⟩ := Kd.N_get HO_3.out [] x6_2 p604 (by first | exact q604 | exact dT | (have e_ := (Kd.N_reads' HO_3.out).1; omega)); obtain ⟨ua604_0, uc604_0, rfl, ul604_0, ge604_0⟩ := Kd.FK_slice_open hMe604; have hv604_0 := hcc604 0 _ rfl; rw [Nat.add_zero, show ((Kd.slice 3 (Kd.int .i64))).sz = 1 from rfl, Nat.mul_one] at hv604_0; replace hv604_0 := Option.some.inj (hv604_0.symm.trans hx604_0); injection hv604_0 with hva_ hvn_ hvc_; rw [hva_] at ge604_0; rw [hvc_] at ul604_0; have HL604_0 := Aside0.mk (show Kd.V (Kd.int .i64) 3 _ w.heap.size _ _ (rd_L2 x3_1 x6_2) from Kd.V_mk ul604_0 ge604_0); clear hva_ hvn_ hvc_ ge604_0 ul604_0; clear hcc604 hce604; have HR604_0 := Aside0.mk hi604_0; have HC604_0 := Aside0.mk hl604_0; clear hi604_0 hl604_0; replace p604 := eq_true p604; replace q604 := eq_true q604; have q26 : (x7_3 : Int) ≤ (((rd_L2 x3_1 x6_2).length : Int) : Int) := dT; obtain ⟨i026, hi026, _, hsz26, _⟩ := info_parts info3; have hroom26 : (rd_L2 x3_1 x6_2).length ≤ c604_0 := HC604_0.out; have hC26 : Kd.F (Kd.int .i64) _ _ A604_0 (rd_L2 x3_1 x6_2).length (rd_L2 x3_1 x6_2) := (Kd.V_at (base := w.heap.size) HL604_0.out).2.2; have q026 : (0 : Int) ≤ (x7_3 : Int) := dT; have hcut26 := cut_from (P := Try.prog) 30 3 .i64 Try.underlying30 hi026 1 hsz26 A604_0 (rd_L2 x3_1 x6_2).length c604_0 x7_3 q026 q26; have hr26 := Kd.F_cut (m := (x7_3 : Int).toNat) (c := c604_0) hC26 (by omega) hroom26; obtain ⟨A26, hA26⟩ : ∃ A1, A1 = (if c604_0 = (x7_3 : Int).toNat then A604_0 else (A604_0 : Option Addr).map (·.add ((x7_3 : Int).toNat * 1))) := ⟨_, rfl⟩; obtain ⟨c26, hc26⟩ : ∃ c1, c1 = c604_0 - (x7_3 : Int).toNat := ⟨_, rfl⟩; have hy26 : y605.length = (rd_L2 x3_1 x6_2).length - (x7_3 : Int).toNat := (by rw [Ny605.out, List.length_drop] <;> omega); rw [show (rd_L2 x3_1 x6_2).drop (x7_3 : Int).toNat = y605 from Ny605.out.symm] at hr26; replace hr26 : Kd.F (Kd.int .i64) _ _ A26 y605.length y605 := (by rw [hA26]; exact hr26); rw [← hy26, ← hA26, ← hc26] at hcut26; have HO609 := Aside0.mk (show Kd.V (Kd.int .i64) 3 _ w.heap.size _ (.slice A26 y605.length c26) y605 from Kd.V_mk (by rw [hy26, hc26]; exact Nat.sub_le_sub_right hroom26 _) hr26); have HC609 := Aside0.mk (show y605.length ≤ c26 from by rw [hy26, hc26]; exact Nat.sub_le_sub_right hroom26 _); clear hr26 hC26 hroom26 hi026 hsz26 hc26; have KY26 := Aside0.mk hy26; have KA26 := Aside0.mk hA26; clear hy26 hA26; replace q26 := eq_true q26) | ((with_reducible refine gate_builtin (b := .append) (xs := #[.tmp 32, .tmp 38]) rfl ?_); at_builtin; refine Kd.R_append_rows (Kd.int .i64) (w0 := w) w.heap.size rfl (.tmp 32) (.tmp 38) 30 3 (.int .i64 0) 8 rfl Try.underlying30 info3 rfl (by decide) (by omega) v602 y601 y605 _ _ _ (fun k_ => (w.heap.size ≤ k_)) (fun _ => False) rfl rfl ?aO ?aR (fun _ _ h => h) (fun _ h => h.elim) ?aF ?aB ?aS ?aL ?_; (case aR => exact C_l ((Kd.V_reads' HO609.out).2.2)); (case aB => exact tb); (case aF => exact (fun k_ hk => (Nat.le_trans (below_size tb) hk))); (case aO => exact (R_l (Kd.R_mono HO603.out (fun _ hk => hk.1)))); (case aS => exact (below_size tb)); (case aL => have := LMc17.out; omega); intro v611 w27 ho hb hg hat; rw [← Ny610.out] at ho; replace HO_3 := Aside0.mk (Kd.N_afterv (ok := (fun k_ => (w.heap.size ≤ k_) ∧ some k_ ≠ (u5 : Value).ownBlock)) (N_l HO_3.out) hg hat); replace HO_5 := Aside0.mk (Kd.N_afterv (ok := (fun k_ => (w.heap.size ≤ k_) ∧ some k_ ≠ (.slice (some ad600) x3_1.length co11 : Value).ownBlock)) (N_l HO_5.out) hg hat); replace HL600_0 := Aside0.mk (Kd.V_afterv (ok := (fun k_ => (w.heap.size ≤ k_) ∧ some k_ ≠ (.slice (some ad600) x3_1.length co11 : Value).ownBlock ∧ some k_ ≠ (u5 : Value).ownBlock)) (by (with_reducible repeat (first | apply Kd.V_alloc | apply Kd.V_drewN | apply Kd.V_drew)); exact Kd.V_mono HL600_0.out (fun _ hk => ⟨⟨hk.1.1.1, ⟨hk.1.2, hk.1.1.2⟩⟩, hk.2⟩)) hg hat); replace HL604_0 := Aside0.mk (Kd.V_afterv (ok := (fun k_ => (w.heap.size ≤ k_) ∧ some k_ ≠ (.slice (some ad600) x3_1.length co11 : Value).ownBlock ∧ some k_ ≠ (u5 : Value).ownBlock)) (by (with_reducible repeat (first | apply Kd.V_alloc | apply Kd.V_drewN | apply Kd.V_drew)); exact Kd.V_mono HL604_0.out (fun _ hk => ⟨⟨hk.1.1.1, ⟨hk.2, hk.1.1.2⟩⟩, hk.1.2⟩)) hg hat); replace HO609 := Aside0.mk (Kd.V_afterv (ok := (fun k_ => (w.heap.size ≤ k_) ∧ some k_ ≠ (.slice (some ad600) x3_1.length co11 : Value).ownBlock ∧ some k_ ≠ (u5 : Value).ownBlock)) (by (with_reducible repeat (first | apply Kd.V_alloc | apply Kd.V_drewN | apply Kd.V_drew)); exact Kd.V_mono HO609.out (fun _ hk => ⟨⟨hk.1.1.1, ⟨hk.2, hk.1.1.2⟩⟩, hk.1.2⟩)) hg hat); replace HB := Aside0.mk (hb); have HO612 := Aside0.mk (ho); clear HO603; clear ho hb hg hat) | ((with_reducible refine gate_dst (N := 41) rfl ?_); refine Kd.R_lit (Kd.int .i64) _ 3 ?hg (N := 41) ?hd (xs := ([] : List Int)) (inner := []) (ok := fun _ => True) (okp := fun _ => True) ?hr ?hp (fun _ hk => hk) trivial (Below.refl _ _) (Nat.le_refl _) (by simp) ?_; (case hd => rfl); (case hg => rfl); (case hr => exact gS); (case hp => exact (Reps.none _ _)); intro v614 w28 ho29 hb hg_ hnew_; clear hg_ hnew_; (first | rw [← Ny613.out] at ho29 | (simp only [Int.reduceToNat] at ho29; rw [← Ny613.out] at ho29)); replace HO_3 := Aside0.mk (Kd.N_elder' (N_l HO_3.out) (Kd.R_base ho29) hb); replace HO_5 := Aside0.mk (Kd.N_elder' (N_l HO_5.out) (Kd.R_base ho29) hb); replace HL600_0 := Aside0.mk (Kd.V_elder' (by (with_reducible repeat (first | apply Kd.V_alloc | apply Kd.V_drewN | apply Kd.V_drew)); exact HL600_0.out) (Kd.R_base ho29) hb); replace HL604_0 := Aside0.mk (Kd.V_elder' (by (with_reducible repeat (first | apply Kd.V_alloc | apply Kd.V_drewN | apply Kd.V_drew)); exact HL604_0.out) (Kd.R_base ho29) hb); replace HO609 := Aside0.mk (Kd.V_elder' (by (with_reducible repeat (first | apply Kd.V_alloc | apply Kd.V_drewN | apply Kd.V_drew)); exact HO609.out) (Kd.R_base ho29) hb); have HO615 := Aside0.mk (Kd.R_lower (Kd.R_new' (Kd.R_newM (M := fun k_ => (w.heap.size ≤ k_)) ho29 (below_size tb) (fun k_ h_ => h_)) (Kd.R_lt (R_l HO612.out))) (below_size tb)); replace HO612 := Aside0.mk (Kd.R_elder' (R_l HO612.out) (Kd.R_base ho29) hb); replace HB := Aside0.mk (below_step tb hb); clear hb ho29; have p616 : 0 ≤ (x6_2 : Int) := dT; have q616 : x6_2 < (x3_1.length : Int) := dT; obtain ⟨ad616, A616_0, c616_0, e616, hx616_0, hl616_0, hi616_0⟩ := at_L2 (Kd.N_reads' HO_3.out).2.2 x6_2 p616 q616; obtain rfl : ad600 = ad616 := (by injection e616); obtain ⟨ce616, hce616, hMe616, hcc616⟩ := Kd.N_get HO_3.out [] x6_2 p616 (by first | exact q616 | exact dT | (have e_ := (Kd.N_reads' HO_3.out).1; omega)); obtain ⟨ua616_0, uc616_0, rfl, ul616_0, ge616_0⟩ := Kd.FK_slice_open hMe616; have hv616_0 := hcc616 0 _ rfl; rw [Nat.add_zero, show ((Kd.slice 3 (Kd.int .i64))).sz = 1 from rfl, Nat.mul_one] at hv616_0; replace hv616_0 := Option.some.inj (hv616_0.symm.trans hx616_0); injection hv616_0 with hva_ hvn_ hvc_; rw [hva_] at ge616_0; rw [hvc_] at ul616_0; have HL616_0 := Aside0.mk (show Kd.V (Kd.int .i64) 3 _ w.heap.size _ _ (rd_L2 x3_1 x6_2) from Kd.V_mk ul616_0 ge616_0); clear hva_ hvn_ hvc_ ge616_0 ul616_0; clear hcc616 hce616; have HR616_0 := Aside0.mk hi616_0; have HC616_0 := Aside0.mk hl616_0; clear hi616_0 hl616_0; replace p616 := eq_true p616; replace q616 := eq_true q616; have q30 : (x7_3 : Int) ≤ (((rd_L2 x3_1 x6_2).length : Int) : Int) := dT; obtain ⟨i030, hi030, _, hsz30, _⟩ := info_parts info3; have hroom30 : (rd_L2 x3_1 x6_2).length ≤ c616_0 := HC616_0.out; have hC30 : Kd.F (Kd.int .i64) _ _ A616_0 (rd_L2 x3_1 x6_2).length (rd_L2 x3_1 x6_2) := (Kd.V_at (base := w.heap.size) HL616_0.out).2.2; have hcut30 := cut_to (P := Try.prog) 30 3 .i64 Try.underlying30 hi030 A616_0 (rd_L2 x3_1 x6_2).length c616_0 x7_3 dT q30 hroom30; have hr30 := Kd.F_take (m := (x7_3 : Int).toNat) hC30 (by omega); have hy30 : y617.length = (x7_3 : Int).toNat := (by rw [Ny617.out, List.length_take]; omega); rw [← Ny617.out] at hr30; rw [← hy30] at hcut30; have HO621 := Aside0.mk (show Kd.V (Kd.int .i64) 3 _ w.heap.size _ (.slice A616_0 y617.length c616_0) y617 from Kd.V_mk (by omega) hr30); have HC621 := Aside0.mk (show y617.length ≤ c616_0 from by omega); clear hr30 hC30 hroom30 hi030 hsz30; have KY30 := Aside0.mk hy30; clear hy30; replace q30 := eq_true q30) | ((with_reducible refine gate_builtin (b := .append) (xs := #[.tmp 41, .tmp 47]) rfl ?_); at_builtin; refine Kd.R_append_rows (Kd.int .i64) (w0 := w) w.heap.size rfl (.tmp 41) (.tmp 47) 30 3 (.int .i64 0) 8 rfl Try.underlying30 info3 rfl (by decide) (by omega) v614 y613 y617 _ _ _ (fun k_ => (w.heap.size ≤ k_) ∧ some k_ ≠ (v611 : Value).ownBlock) (fun _ => False) rfl rfl ?aO ?aR (fun _ _ h => h) (fun _ h => h.elim) ?aF ?aB ?aS ?aL ?_; (case aR => exact C_l ((Kd.V_reads' HO621.out).2.2)); (case aB => exact tb); (case aF => exact (fun k_ hk => ⟨(Nat.le_trans (below_size tb) hk), Kd.fresh' (Kd.R_lt (R_l HO612.out)) k_ hk⟩)); (case aO => exact (R_l (Kd.R_mono HO615.out (fun _ hk => ⟨hk.1.1, hk.2⟩)))); (case aS => exact (below_size tb)); (case aL => have := LMc20.out; omega); intro v623 w31 ho hb hg hat; rw [← Ny622.out] at ho; replace HO_3 := Aside0.mk (Kd.N_afterv (ok := (fun k_ => (w.heap.size ≤ k_) ∧ some k_ ≠ (u5 : Value).ownBlock ∧ some k_ ≠ (v611 : Value).ownBlock)) (N_l (Kd.N_mono HO_3.out (fun _ hk => ⟨⟨hk.1.1.1, ⟨hk.1.1.2, hk.1.2⟩⟩, hk.2⟩))) hg hat); replace HO_5 := Aside0.mk (Kd.N_afterv (ok := (fun k_ => (w.heap.size ≤ k_) ∧ some k_ ≠ (.slice (some ad600) x3_1.length co11 : Value).ownBlock ∧ some k_ ≠ (v611 : Value).ownBlock)) (N_l (Kd.N_mono HO_5.out (fun _ hk => ⟨⟨hk.1.1.1, ⟨hk.1.1.2, hk.1.2⟩⟩, hk.2⟩))) hg hat); replace HL600_0 := Aside0.mk (Kd.V_afterv (ok := (fun k_ => (w.heap.size ≤ k_) ∧ some k_ ≠ (.slice (some ad600) x3_1.length co11 : Value).ownBlock ∧ some k_ ≠ (u5 : Value).ownBlock ∧ some k_ ≠ (v611 : Value).ownBlock)) (by (with_reducible repeat (first | apply Kd.V_alloc | apply Kd.V_drewN | apply Kd.V_drew)); exact Kd.V_mono HL600_0.out (fun _ hk => ⟨⟨hk.1.1.1, ⟨hk.1.1.2.1, ⟨hk.1.1.2.2, hk.1.2⟩⟩⟩, hk.2⟩)) hg hat); replace HL604_0 := Aside0.mk (Kd.V_afterv (ok := (fun k_ => (w.heap.size ≤ k_) ∧ some k_ ≠ (.slice (some ad600) x3_1.length co11 : Value).ownBlock ∧ some k_ ≠ (u5 : Value).ownBlock ∧ some k_ ≠ (v611 : Value).ownBlock)) (by (with_reducible repeat (first | apply Kd.V_alloc | apply Kd.V_drewN | apply Kd.V_drew)); exact Kd.V_mono HL604_0.out (fun _ hk => ⟨⟨hk.1.1.1, ⟨hk.1.1.2.1, ⟨hk.1.1.2.2, hk.1.2⟩⟩⟩, hk.2⟩)) hg hat); replace HO609 := Aside0.mk (Kd.V_afterv (ok := (fun k_ => (w.heap.size ≤ k_) ∧ some k_ ≠ (.slice (some ad600) x3_1.length co11 : Value).ownBlock ∧ some k_ ≠ (u5 : Value).ownBlock ∧ some k_ ≠ (v611 : Value).ownBlock)) (by (with_reducible repeat (first | apply Kd.V_alloc | apply Kd.V_drewN | apply Kd.V_drew)); exact Kd.V_mono HO609.out (fun _ hk => ⟨⟨hk.1.1.1, ⟨hk.1.1.2.1, ⟨hk.1.1.2.2, hk.1.2⟩⟩⟩, hk.2⟩)) hg hat); replace HO612 := Aside0.mk (Kd.R_after (ok := (fun k_ => (w.heap.size ≤ k_))) (R_l HO612.out) hg hat); replace HL616_0 := Aside0.mk (Kd.V_afterv (ok := (fun k_ => (w.heap.size ≤ k_) ∧ some k_ ≠ (.slice (some ad600) x3_1.length co11 : Value).ownBlock ∧ some k_ ≠ (u5 : Value).ownBlock ∧ some k_ ≠ (v611 : Value).ownBlock)) (by (with_reducible repeat (first | apply Kd.V_alloc | apply Kd.V_drewN | apply Kd.V_drew)); exact Kd.V_mono HL616_0.out (fun _ hk => ⟨⟨hk.1.1.1.1, ⟨hk.2, ⟨hk.1.1.1.2, hk.1.1.2⟩⟩⟩, hk.1.2⟩)) hg hat); replace HO621 := Aside0.mk (Kd.V_afterv (ok := (fun k_ => (w.heap.size ≤ k_) ∧ some k_ ≠ (.slice (some ad600) x3_1.length co11 : Value).ownBlock ∧ some k_ ≠ (u5 : Value).ownBlock ∧ some k_ ≠ (v611 : Value).ownBlock)) (by (with_reducible repeat (first | apply Kd.V_alloc | apply Kd.V_drewN | apply Kd.V_drew)); exact Kd.V_mono HO621.out (fun _ hk => ⟨⟨hk.1.1.1.1, ⟨hk.2, ⟨hk.1.1.1.2, hk.1.1.2⟩⟩⟩, hk.1.2⟩)) hg hat); replace HB := Aside0.mk (hb); have HO624 := Aside0.mk (ho); clear HO615; clear ho hb hg hat) | ((with_reducible refine gate_builtin (b := .append) (xs := #[.tmp 48, .tmp 50]) rfl ?_); at_builtin; refine Kd.R_append (Kd.int .i64) (w0 := w) w.heap.size rfl (.tmp 48) (.tmp 50) 30 3 (.int .i64 0) 8 rfl Try.underlying30 info3 rfl (by decide) (by omega) v623 y622 x4_1 [.int .i64 x4_1] (fun k_ => (w.heap.size ≤ k_) ∧ some k_ ≠ (v611 : Value).ownBlock) (fun _ => False) rfl rfl ?aP (fun _ hk => hk.elim) ?aF ?aO ?aB ?aS ?aL ?_; (case aP => exact rfl); (case aB => exact tb); (case aF => exact (fun k_ hk => ⟨(Nat.le_trans (below_size tb) hk), Kd.fresh' (Kd.R_lt (R_l HO612.out)) k_ hk⟩)); (case aO => exact (R_l HO624.out)); (case aS => exact (below_size tb)); (case aL => have := LMc21.out; omega); intro v626 w32 ho hb hg hat; rw [← Ny625.out] at ho; replace HO_3 := Aside0.mk (Kd.N_afterv (ok := (fun k_ => (w.heap.size ≤ k_) ∧ some k_ ≠ (u5 : Value).ownBlock ∧ some k_ ≠ (v611 : Value).ownBlock)) (N_l HO_3.out) hg hat); replace HO_5 := Aside0.mk (Kd.N_afterv (ok := (fun k_ => (w.heap.size ≤ k_) ∧ some k_ ≠ (.slice (some ad600) x3_1.length co11 : Value).ownBlock ∧ some k_ ≠ (v611 : Value).ownBlock)) (N_l HO_5.out) hg hat); replace HL600_0 := Aside0.mk (Kd.V_afterv (ok := (fun k_ => (w.heap.size ≤ k_) ∧ some k_ ≠ (.slice (some ad600) x3_1.length co11 : Value).ownBlock ∧ some k_ ≠ (u5 : Value).ownBlock ∧ some k_ ≠ (v611 : Value).ownBlock)) (by (with_reducible repeat (first | apply Kd.V_alloc | apply Kd.V_drewN | apply Kd.V_drew)); exact HL600_0.out) hg hat); replace HL604_0 := Aside0.mk (Kd.V_afterv (ok := (fun k_ => (w.heap.size ≤ k_) ∧ some k_ ≠ (.slice (some ad600) x3_1.length co11 : Value).ownBlock ∧ some k_ ≠ (u5 : Value).ownBlock ∧ some k_ ≠ (v611 : Value).ownBlock)) (by (with_reducible repeat (first | apply Kd.V_alloc | apply Kd.V_drewN | apply Kd.V_drew)); exact HL604_0.out) hg hat); replace HO609 := Aside0.mk (Kd.V_afterv (ok := (fun k_ => (w.heap.size ≤ k_) ∧ some k_ ≠ (.slice (some ad600) x3_1.length co11 : Value).ownBlock ∧ some k_ ≠ (u5 : Value).ownBlock ∧ some k_ ≠ (v611 : Value).ownBlock)) (by (with_reducible repeat (first | apply Kd.V_alloc | apply Kd.V_drewN | apply Kd.V_drew)); exact HO609.out) hg hat); replace HO612 := Aside0.mk (Kd.R_after (ok := (fun k_ => (w.heap.size ≤ k_))) (R_l HO612.out) hg hat); replace HL616_0 := Aside0.mk (Kd.V_afterv (ok := (fun k_ => (w.heap.size ≤ k_) ∧ some k_ ≠ (.slice (some ad600) x3_1.length co11 : Value).ownBlock ∧ some k_ ≠ (u5 : Value).ownBlock ∧ some k_ ≠ (v611 : Value).ownBlock)) (by (with_reducible repeat (first | apply Kd.V_alloc | apply Kd.V_drewN | apply Kd.V_drew)); exact HL616_0.out) hg hat); replace HO621 := Aside0.mk (Kd.V_afterv (ok := (fun k_ => (w.heap.size ≤ k_) ∧ some k_ ≠ (.slice (some ad600) x3_1.length co11 : Value).ownBlock ∧ some k_ ≠ (u5 : Value).ownBlock ∧ some k_ ≠ (v611 : Value).ownBlock)) (by (with_reducible repeat (first | apply Kd.V_alloc | apply Kd.V_drewN | apply Kd.V_drew)); exact HO621.out) hg hat); replace HB := Aside0.mk (hb); have HO627 := Aside0.mk (ho); clear HO624; clear ho hb hg hat; obtain ⟨Ao34, co34, eo34⟩ := Kd.R_slice HO612.out; subst eo34) | ((with_reducible refine gate_builtin (b := .append) (xs := #[.tmp 51, .tmp 52]) rfl ?_); at_builtin; refine Kd.R_append_rows (Kd.int .i64) (w0 := w) w.heap.size rfl (.tmp 51) (.tmp 52) 30 3 (.int .i64 0) 8 rfl Try.underlying30 info3 rfl (by decide) (by omega) v626 y625 y610 _ _ _ (fun k_ => (w.heap.size ≤ k_) ∧ some k_ ≠ (.slice Ao34 y610.length co34 : Value).ownBlock) (fun _ => False) rfl rfl ?aO ?aR (fun _ _ h => h) (fun _ h => h.elim) ?aF ?aB ?aS ?aL ?_; (case aR => exact C_l ((Kd.R_reads' HO612.out).2.2)); (case aB => exact tb); (case aF => exact (fun k_ hk => ⟨(Nat.le_trans (below_size tb) hk), Kd.fresh' (Kd.R_lt (R_l HO612.out)) k_ hk⟩)); (case aO => exact (R_l HO627.out)); (case aS => exact (below_size tb)); (case aL => have := LMc22.out; omega); intro v629 w33 ho hb hg hat; rw [← Ny628.out] at ho; replace HO_3 := Aside0.mk (Kd.N_afterv (ok := (fun k_ => (w.heap.size ≤ k_) ∧ some k_ ≠ (u5 : Value).ownBlock ∧ some k_ ≠ (.slice Ao34 y610.length co34 : Value).ownBlock)) (N_l HO_3.out) hg hat); replace HO_5 := Aside0.mk (Kd.N_afterv (ok := (fun k_ => (w.heap.size ≤ k_) ∧ some k_ ≠ (.slice (some ad600) x3_1.length co11 : Value).ownBlock ∧ some k_ ≠ (.slice Ao34 y610.length co34 : Value).ownBlock)) (N_l HO_5.out) hg hat); replace HL600_0 := Aside0.mk (Kd.V_afterv (ok := (fun k_ => (w.heap.size ≤ k_) ∧ some k_ ≠ (.slice (some ad600) x3_1.length co11 : Value).ownBlock ∧ some k_ ≠ (u5 : Value).ownBlock ∧ some k_ ≠ (.slice Ao34 y610.length co34 : Value).ownBlock)) (by (with_reducible repeat (first | apply Kd.V_alloc | apply Kd.V_drewN | apply Kd.V_drew)); exact HL600_0.out) hg hat); replace HL604_0 := Aside0.mk (Kd.V_afterv (ok := (fun k_ => (w.heap.size ≤ k_) ∧ some k_ ≠ (.slice (some ad600) x3_1.length co11 : Value).ownBlock ∧ some k_ ≠ (u5 : Value).ownBlock ∧ some k_ ≠ (.slice Ao34 y610.length co34 : Value).ownBlock)) (by (with_reducible repeat (first | apply Kd.V_alloc | apply Kd.V_drewN | apply Kd.V_drew)); exact HL604_0.out) hg hat); replace HO609 := Aside0.mk (Kd.V_afterv (ok := (fun k_ => (w.heap.size ≤ k_) ∧ some k_ ≠ (.slice (some ad600) x3_1.length co11 : Value).ownBlock ∧ some k_ ≠ (u5 : Value).ownBlock ∧ some k_ ≠ (.slice Ao34 y610.length co34 : Value).ownBlock)) (by (with_reducible repeat (first | apply Kd.V_alloc | apply Kd.V_drewN | apply Kd.V_drew)); exact HO609.out) hg hat); replace HO612 := Aside0.mk (Kd.R_after (ok := (fun k_ => (w.heap.size ≤ k_))) (R_l HO612.out) hg hat); replace HL616_0 := Aside0.mk (Kd.V_afterv (ok := (fun k_ => (w.heap.size ≤ k_) ∧ some k_ ≠ (.slice (some ad600) x3_1.length co11 : Value).ownBlock ∧ some k_ ≠ (u5 : Value).ownBlock ∧ some k_ ≠ (.slice Ao34 y610.length co34 : Value).ownBlock)) (by (with_reducible repeat (first | apply Kd.V_alloc | apply Kd.V_drewN | apply Kd.V_drew)); exact HL616_0.out) hg hat); replace HO621 := Aside0.mk (Kd.V_afterv (ok := (fun k_ => (w.heap.size ≤ k_) ∧ some k_ ≠ (.slice (some ad600) x3_1.length co11 : Value).ownBlock ∧ some k_ ≠ (u5 : Value).ownBlock ∧ some k_ ≠ (.slice Ao34 y610.length co34 : Value).ownBlock)) (by (with_reducible repeat (first | apply Kd.V_alloc | apply Kd.V_drewN | apply Kd.V_drew)); exact HO621.out) hg hat); replace HB := Aside0.mk (hb); have HO630 := Aside0.mk (ho); clear HO627; clear ho hb hg hat; obtain ⟨Ao36, co36, eo36⟩ := Kd.R_slice HO630.out; subst eo36) | ((with_reducible refine gate_builtin (b := .append) (xs := #[.tmp 40, .tmp 54]) rfl ?_); at_builtin; refine Kd.N_append (Kd.slice 3 (Kd.int .i64)) (w0 := w) w.heap.size rfl (.tmp 40) (.tmp 54) 24 30 (.slice none 0 0) 24 rfl Try.underlying24 info30 rfl (by decide) (by omega) u5 x5_3 y628 [.slice Ao36 y628.length co36] (fun k_ => (w.heap.size ≤ k_) ∧ some k_ ≠ (.slice (some ad600) x3_1.length co11 : Value).ownBlock ∧ some k_ ≠ (.slice Ao34 y610.length co34 : Value).ownBlock) (fun k_ => ((fun k_ => (w.heap.size ≤ k_) ∧ some k_ ≠ (.slice (some ad600) x3_1.length co11 : Value).ownBlock ∧ some k_ ≠ (.slice Ao34 y610.length co34 : Value).ownBlock)) k_ ∧ some k_ ≠ (u5 : Value).ownBlock) rfl rfl ?aP (fun _ hk => hk) ?aF ?aO ?aB ?aS ?aL ?_; (case aP => exact (Kd.FK_slice_mk (Kd.R_reads' (Kd.R_mono (ok' := (fun k_ => ((fun k_ => (w.heap.size ≤ k_) ∧ some k_ ≠ (.slice (some ad600) x3_1.length co11 : Value).ownBlock ∧ some k_ ≠ (.slice Ao34 y610.length co34 : Value).ownBlock)) k_ ∧ some k_ ≠ (u5 : Value).ownBlock)) (Kd.R_apart' (Kd.R_apart' (HO630.out) (Kd.N_typed HO_3.out) (by decide)) (Kd.N_typed HO_5.out) (by decide)) (fun k_ hk => ⟨⟨hk.1.1.1, ⟨hk.1.2, hk.1.1.2⟩⟩, hk.2⟩))).2.1 (Kd.R_F (Kd.R_mono (ok' := (fun k_ => ((fun k_ => (w.heap.size ≤ k_) ∧ some k_ ≠ (.slice (some ad600) x3_1.length co11 : Value).ownBlock ∧ some k_ ≠ (.slice Ao34 y610.length co34 : Value).ownBlock)) k_ ∧ some k_ ≠ (u5 : Value).ownBlock)) (Kd.R_apart' (Kd.R_apart' (HO630.out) (Kd.N_typed HO_3.out) (by decide)) (Kd.N_typed HO_5.out) (by decide)) (fun k_ hk => ⟨⟨hk.1.1.1, ⟨hk.1.2, hk.1.1.2⟩⟩, hk.2⟩))))); (case aB => exact tb); (case aF => exact (fun k_ hk => ⟨(Nat.le_trans (below_size tb) hk), Kd.fresh' (Kd.N_lt (N_l HO_3.out)) k_ hk, Kd.fresh' (Kd.R_lt (R_l HO612.out)) k_ hk⟩)); (case aO => exact (N_l (Kd.N_mono HO_5.out (fun _ hk => ⟨hk.1.1, ⟨hk.1.2.1, hk.1.2.2⟩⟩)))); (case aS => exact (below_size tb)); (case aL => have := LMc23.out; omega); intro v632 w35 ho hb hg hat; rw [← Ny631.out] at ho; replace HO_3 := Aside0.mk (Kd.N_afterv (ok := (fun k_ => (w.heap.size ≤ k_) ∧ some k_ ≠ (.slice Ao34 y610.length co34 : Value).ownBlock ∧ some k_ ≠ (.slice Ao36 y628.length co36 : Value).ownBlock)) (N_l (Kd.N_mono HO_3.out (fun _ hk => ⟨⟨hk.1.1, ⟨hk.1.2.2, hk.2⟩⟩, hk.1.2.1⟩))) hg hat); replace HL600_0 := Aside0.mk (Kd.V_afterv (ok := (fun k_ => (w.heap.size ≤ k_) ∧ some k_ ≠ (.slice (some ad600) x3_1.length co11 : Value).ownBlock ∧ some k_ ≠ (.slice Ao34 y610.length co34 : Value).ownBlock ∧ some k_ ≠ (.slice Ao36 y628.length co36 : Value).ownBlock)) (by (with_reducible repeat (first | apply Kd.V_alloc | apply Kd.V_drewN | apply Kd.V_drew)); exact Kd.V_mono HL600_0.out (fun _ hk => ⟨⟨hk.1.1, ⟨hk.1.2.1, ⟨hk.1.2.2.2, hk.2⟩⟩⟩, hk.1.2.2.1⟩)) hg hat); replace HL604_0 := Aside0.mk (Kd.V_afterv (ok := (fun k_ => (w.heap.size ≤ k_) ∧ some k_ ≠ (.slice (some ad600) x3_1.length co11 : Value).ownBlock ∧ some k_ ≠ (.slice Ao34 y610.length co34 : Value).ownBlock ∧ some k_ ≠ (.slice Ao36 y628.length co36 : Value).ownBlock)) (by (with_reducible repeat (first | apply Kd.V_alloc | apply Kd.V_drewN | apply Kd.V_drew)); exact Kd.V_mono HL604_0.out (fun _ hk => ⟨⟨hk.1.1, ⟨hk.1.2.1, ⟨hk.1.2.2.2, hk.2⟩⟩⟩, hk.1.2.2.1⟩)) hg hat); replace HO609 := Aside0.mk (Kd.V_afterv (ok := (fun k_ => (w.heap.size ≤ k_) ∧ some k_ ≠ (.slice (some ad600) x3_1.length co11 : Value).ownBlock ∧ some k_ ≠ (.slice Ao34 y610.length co34 : Value).ownBlock ∧ some k_ ≠ (.slice Ao36 y628.length co36 : Value).ownBlock)) (by (with_reducible repeat (first | apply Kd.V_alloc | apply Kd.V_drewN | apply Kd.V_drew)); exact Kd.V_mono HO609.out (fun _ hk => ⟨⟨hk.1.1, ⟨hk.1.2.1, ⟨hk.1.2.2.2, hk.2⟩⟩⟩, hk.1.2.2.1⟩)) hg hat); replace HO612 := Aside0.mk (Kd.R_over' (R_l HO612.out) (Kd.N_typed (N_l HO_5.out)) (by decide) hg); replace HL616_0 := Aside0.mk (Kd.V_afterv (ok := (fun k_ => (w.heap.size ≤ k_) ∧ some k_ ≠ (.slice (some ad600) x3_1.length co11 : Value).ownBlock ∧ some k_ ≠ (.slice Ao34 y610.length co34 : Value).ownBlock ∧ some k_ ≠ (.slice Ao36 y628.length co36 : Value).ownBlock)) (by (with_reducible repeat (first | apply Kd.V_alloc | apply Kd.V_drewN | apply Kd.V_drew)); exact Kd.V_mono HL616_0.out (fun _ hk => ⟨⟨hk.1.1, ⟨hk.1.2.1, ⟨hk.1.2.2.2, hk.2⟩⟩⟩, hk.1.2.2.1⟩)) hg hat); replace HO621 := Aside0.mk (Kd.V_afterv (ok := (fun k_ => (w.heap.size ≤ k_) ∧ some k_ ≠ (.slice (some ad600) x3_1.length co11 : Value).ownBlock ∧ some k_ ≠ (.slice Ao34 y610.length co34 : Value).ownBlock ∧ some k_ ≠ (.slice Ao36 y628.length co36 : Value).ownBlock)) (by (with_reducible repeat (first | apply Kd.V_alloc | apply Kd.V_drewN | apply Kd.V_drew)); exact Kd.V_mono HO621.out (fun _ hk => ⟨⟨hk.1.1, ⟨hk.1.2.1, ⟨hk.1.2.2.2, hk.2⟩⟩⟩, hk.1.2.2.1⟩)) hg hat); replace HB := Aside0.mk (hb); have HO633 := Aside0.mk (ho); clear HO_5 HO630; clear ho hb hg hat))
                    go_roundg k3
                    case measure => exact oK
                    case rel => exact ⟨(y631), (wrap64 (x7_3 + 1)), rS, H', ⟨oK⟩, ⟨N_l (Kd.N_mono HO_3.out (fun _ hk => ⟨hk.1.1, hk.2⟩))⟩, ⟨N_l (Kd.N_mono HO633.out (fun _ hk => ⟨hk.1, hk.2.1⟩))⟩, ⟨tb⟩⟩
                  · have H' := Aside0.mk H
                    clear H
                    have p600 : 0 ≤ (x6_2 : Int) := dT
                    have q600 : x6_2 < (x3_1.length : Int) := dT
                    obtain ⟨ad600, A600_0, c600_0, e600, hx600_0, hl600_0, hi600_0⟩ := at_L2 (Kd.N_reads' HO_3.out).2.2 x6_2 p600 q600
                    cases e600
                    obtain ⟨ce600, hce600, hMe600, hcc600⟩ := Kd.N_get HO_3.out [] x6_2 p600 (by first | exact q600 | exact dT | (have e_ := (Kd.N_reads' HO_3.out).1; omega))
                    obtain ⟨ua600_0, uc600_0, rfl, ul600_0, ge600_0⟩ := Kd.FK_slice_open hMe600
                    have hv600_0 := hcc600 0 _ rfl
                    rw [Nat.add_zero, show ((Kd.slice 3 (Kd.int .i64))).sz = 1 from rfl, Nat.mul_one] at hv600_0
                    replace hv600_0 := Option.some.inj (hv600_0.symm.trans hx600_0)
                    injection hv600_0 with hva_ hvn_ hvc_
                    rw [hva_] at ge600_0
                    rw [hvc_] at ul600_0
                    have HL600_0 := Aside0.mk (show Kd.V (Kd.int .i64) 3 _ w.heap.size _ _ (rd_L2 x3_1 x6_2) from Kd.V_mk ul600_0 ge600_0)
                    clear hva_ hvn_ hvc_ ge600_0 ul600_0
                    clear hcc600 hce600
                    have HR600_0 := Aside0.mk hi600_0
                    have HC600_0 := Aside0.mk hl600_0
                    clear hi600_0 hl600_0
                    replace p600 := eq_true p600
                    replace q600 := eq_true q600
                    go_wp2
                    go_roundg k3
                    case measure => exact oK
                    case rel => exact ⟨(x5_3), (wrap64 (x6_2 + 1)), rS, H', ⟨oK⟩, ⟨N_l HO_3.out⟩, ⟨N_l HO_5.out⟩, ⟨tb⟩⟩
            · have H' := Aside0.mk H
              clear H
              obtain ⟨Ao37, co37, eo37⟩ := Kd.N_slice HO_3.out
              subst eo37
              go_wp2
              go_roundg k2
              case measure => exact oK
              case rel => exact ⟨(x5_2), (wrap64 (x4_1 + 1)), rS, H', ⟨oK⟩, ⟨N_l (Kd.N_mono HO_5.out (fun _ hk => hk.1))⟩, ⟨tb⟩⟩
      · obtain rfl := Option.some.inj H
        go_wp2
        go_ret
        exact ⟨_, rE, N_l HO_3.out, tb⟩

/-! ### spec_CountActions: function 18 -/
def spec_CountActions.j0 : Nat → Int → Int → Bool → Option (Int)
  | 0, _, _, _ => none
  | k + 1, x0, x1, x12 => if x12 = true then (some (-1)) else ((spec_l9All.f k x1).bind fun t636 => ((spec_l9Count.f k x0 t636 (([] : List (List Int))) false).bind fun t642 => (some t642)))
def spec_CountActions.f (k : Nat) (a0 : Int) (a1 : Int) : Option (Int) := (spec_l1In.f a0 0 2).bind fun t634 => (if t634 = true then ((spec_l1In.f a1 1 3).bind fun t635 => (spec_CountActions.j0 k a0 a1 (!t635))) else (spec_CountActions.j0 k a0 a1 true))
set_option maxHeartbeats 8000000 in
set_option maxRecDepth 100000 in
theorem spec_CountActions.calls (k : Nat) (a0 : Int) (a1 : Int) (r : Int) (w : World) (h : spec_CountActions.f k a0 a1 = some r) :
    Calls Try.prog 18 #[.int .i64 a0, .int .i64 a1] w fun e w' => e = .returned (.int .i64 r) ∧ Below w.heap.size w w' := by
  have HB := Aside0.mk (Below.refl w.heap.size w)
  have H : ((spec_l1In.f a0 0 2).bind fun t634 => (if t634 = true then ((spec_l1In.f a1 1 3).bind fun t635 => (spec_CountActions.j0 k a0 a1 (!t635))) else (spec_CountActions.j0 k a0 a1 true))) = some r := h
  clear h
  have HC3 := Aside0.mk H
  clear H
  go_enter Try.func18, Try.ntmps18
  go_upto_region 1 with (fail)
  go_cut [12] (fun v12 wc => ∃ (kq : Nat) (x12_2 : Bool), v12 = .bool x12_2 ∧ Aside0 (spec_CountActions.j0 kq a0 a1 x12_2 = some r) ∧ Aside0 (kq ≤ k) ∧ Aside0 (Below w.heap.size w wc))
  case first =>
    have H := HC3.out
    clear HC3
    obtain ⟨t634, A4, H⟩ := bs H
    by_cases c5 : t634 = true
    · subst c5
      rw [if_pos rfl] at H
      obtain ⟨t635, A6, H⟩ := bs H
      have H' := Aside0.mk H
      clear H
      go_wp2_with (first | (refine gL 55 (some 6) Try.func55 #[.int .i64 a0, .int .i64 0, .int .i64 2] ?_; (with_reducible refine (spec_l1In.calls a0 0 2 true _ A4.out).mono ?_); rintro e w' ⟨rfl, ⟨nd, rfl⟩⟩; refine ⟨_, rfl, ?_⟩) | (go_at_call 55; (with_reducible refine (spec_l1In.calls a1 1 3 t635 _ A6.out).mono ?_); rintro e w' ⟨rfl, ⟨nd, rfl⟩⟩))
      go_meet
      case rel => exact ⟨_, (!t635), rS, H', ⟨by first | omega | exact Nat.le_refl _⟩, ⟨tb⟩⟩
    · replace c5 := Bool.eq_false_iff.mpr c5
      subst c5
      rw [if_neg (show ¬ (false = true) by decide)] at H
      have H' := Aside0.mk H
      clear H
      go_wp2_with (first | (refine gL 55 (some 6) Try.func55 #[.int .i64 a0, .int .i64 0, .int .i64 2] ?_; (with_reducible refine (spec_l1In.calls a0 0 2 false _ A4.out).mono ?_); rintro e w' ⟨rfl, ⟨nd, rfl⟩⟩; refine ⟨_, rfl, ?_⟩))
      go_meet
      case rel => exact ⟨_, (true), rS, H', ⟨by first | omega | exact Nat.le_refl _⟩, ⟨tb⟩⟩
  case rest =>
    clear HC3
    try clear c1
    try clear p2
    try clear c5
    obtain ⟨kq, x12_2, rfl, HA, HJ2, HB⟩ := hcut
    cases kq with
    | zero => exact absurd HA.out (by simp [spec_CountActions.j0])
    | succ kj2 =>
      have H := HA.out
      clear HA
      simp only [spec_CountActions.j0] at H
      by_cases c7 : x12_2 = true
      · subst c7
        rw [if_pos rfl] at H
        obtain rfl := Option.some.inj H
        go_wp2
        go_ret
        exact ⟨rE, tb⟩
      · replace c7 := Bool.eq_false_iff.mpr c7
        subst c7
        rw [if_neg (show ¬ (false = true) by decide)] at H
        obtain ⟨t636, A8, H⟩ := bs H
        generalize hy639 : (([] : List (List Int)) : List (List Int)) = y639 at H
        have Ny639 := Aside0.mk hy639.symm; clear hy639
        obtain ⟨t642, A9, H⟩ := bs H
        obtain rfl := Option.some.inj H
        go_wp2_with (first | (refine gL 57 (some 15) Try.func57 #[.int .i64 a1] ?_; (with_reducible refine (spec_l9All.calls kj2 a1 t636 _ A8.out).mono ?_); rintro e w10 ⟨v637, rfl, ho0, hb⟩; refine ⟨_, rfl, ?_⟩; have HO638 := Aside0.mk (Kd.N_lower (Kd.N_mono (ok' := fun k_ => True) ho0 (fun k_ hk_ => trivial)) (below_size tb)); replace HB := Aside0.mk (below_step tb hb)) | ((with_reducible refine gate_dst (N := 16) rfl ?_); refine Kd.N_lit (Kd.slice 3 (Kd.int .i64)) _ 30 ?hg (N' := 16) ?hd (xs := ([] : List (List Int))) (inner := []) (ok := (fun k_ => some k_ ≠ (v637 : Value).ownBlock)) (okp := (fun k_ => some k_ ≠ (v637 : Value).ownBlock)) ?hr ?hp (fun _ hk => hk) ((show ∀ k_, w10.heap.size ≤ k_ → (fun k_ => some k_ ≠ (v637 : Value).ownBlock) k_ from fun k_ hk => Kd.fresh' (Kd.N_lt (N_l HO638.out)) k_ hk) _ (Nat.le_refl _)) (Below.refl _ _) (Nat.le_refl _) (by simp) ?_; (case hd => rfl); (case hg => rfl); (case hr => exact gS); (case hp => exact (Reps.none _ _)); intro v640 w11 ho12 hb hg_ hnew_; clear hg_ hnew_; (first | rw [← Ny639.out] at ho12 | (simp only [Int.reduceToNat] at ho12; rw [← Ny639.out] at ho12)); replace HO638 := Aside0.mk (Kd.N_elder' (N_l HO638.out) (Kd.N_base ho12) hb); have HO641 := Aside0.mk (Kd.N_lower ho12 (below_size tb)); replace HB := Aside0.mk (below_step tb hb); clear hb ho12; obtain ⟨Ao13, co13, eo13⟩ := Kd.N_slice HO638.out; subst eo13; obtain ⟨Ao14, co14, eo14⟩ := Kd.N_slice HO641.out; subst eo14) | (refine gL 56 (some 17) Try.func56 #[.int .i64 a0, .slice Ao13 t636.length co13, .slice Ao14 y639.length co14, .bool false] ?_; (with_reducible refine (spec_l9Count.calls kj2 a0 _ _ t636 _ _ y639 false t642 _ ?side1 ?side2 ?side3 ?side4 A9.out).mono ?_); (case side1 => exact C_l ((Kd.N_reads' HO638.out).2.2)); (case side2 => exact (Kd.N_reads' HO638.out).2.1); (case side3 => exact C_l ((Kd.N_reads' HO641.out).2.2)); (case side4 => exact (Kd.N_reads' HO641.out).2.1); rintro e w15 ⟨rfl, hb⟩; refine ⟨_, rfl, ?_⟩; replace HO638 := Aside0.mk (nB HO638.out hb); replace HO641 := Aside0.mk (nB HO641.out hb); replace HB := Aside0.mk (below_step tb hb)))
        go_ret
        exact ⟨rE, tb⟩

/-! ### impl_CountCovers: function 19 -/
def impl_CountCovers.f (k : Nat) (a0 : Int) (a1 : Int) : Option (Int) := (impl_within.f a0 0 2).bind fun t643 => (if t643 = true then ((impl_within.f a1 1 3).bind fun t644 => (if t644 = true then ((impl_countActions.f k a0 a1).bind fun bt645 => ((some (([1, 1, 1, 2] : List Int) : List Int)).bind fun y647 => (if 0 ≤ a1 then (if a1 < (y647.length : Int) then (if (rd y647 a1) = 0 then (none) else (some (wrap64 (Int.tdiv bt645.2 (rd y647 a1))))) else (none)) else (none)))) else (some (-1)))) else (some (-1)))
set_option maxHeartbeats 8000000 in
set_option maxRecDepth 100000 in
theorem impl_CountCovers.calls (k : Nat) (a0 : Int) (a1 : Int) (r : Int) (w : World) (h : impl_CountCovers.f k a0 a1 = some r) :
    Calls Try.prog 19 #[.int .i64 a0, .int .i64 a1] w fun e w' => e = .returned (.int .i64 r) ∧ Below w.heap.size w w' := by
  have HB := Aside0.mk (Below.refl w.heap.size w)
  have H : ((impl_within.f a0 0 2).bind fun t643 => (if t643 = true then ((impl_within.f a1 1 3).bind fun t644 => (if t644 = true then ((impl_countActions.f k a0 a1).bind fun bt645 => ((some (([1, 1, 1, 2] : List Int) : List Int)).bind fun y647 => (if 0 ≤ a1 then (if a1 < (y647.length : Int) then (if (rd y647 a1) = 0 then (none) else (some (wrap64 (Int.tdiv bt645.2 (rd y647 a1))))) else (none)) else (none)))) else (some (-1)))) else (some (-1)))) = some r := h
  clear h
  obtain ⟨t643, A3, H⟩ := bs H
  by_cases c4 : t643 = true
  · subst c4
    rw [if_pos rfl] at H
    obtain ⟨t644, A5, H⟩ := bs H
    by_cases c6 : t644 = true
    · subst c6
      rw [if_pos rfl] at H
      obtain ⟨⟨t645, t646⟩, A7, H⟩ := bs H
      try dsimp only at H
      generalize hy647 : (([1, 1, 1, 2] : List Int) : List Int) = y647 at H
      have Ny647 := Aside0.mk hy647.symm; clear hy647
      obtain ⟨c8b0, H⟩ := gdt H
      obtain ⟨c9b0, H⟩ := gdt H
      by_cases c10 : (rd y647 a1) = 0
      · rw [if_pos c10] at H
        exact absurd H (by simp)
      · rw [if_neg c10] at H
        have c10b0 : ((rd y647 a1) == 0) = false := beq_eq_false_iff_ne.mpr c10
        have c10b1 : ((rd y647 a1) != 0) = true := bne_iff_ne.mpr c10
        obtain rfl := Option.some.inj H
        go_enter Try.func19, Try.ntmps19
        go_wp2_with (first | (refine gL 48 (some 8) Try.func48 #[.int .i64 a0, .int .i64 0, .int .i64 2] ?_; (with_reducible refine (impl_within.calls a0 0 2 true _ A3.out).mono ?_); rintro e w' ⟨rfl, ⟨nd, rfl⟩⟩; refine ⟨_, rfl, ?_⟩) | (go_at_call 48; (with_reducible refine (impl_within.calls a1 1 3 true _ A5.out).mono ?_); rintro e w' ⟨rfl, ⟨nd, rfl⟩⟩) | (refine gL 49 (some 18) Try.func49 #[.int .i64 a0, .int .i64 a1] ?_; (with_reducible refine (impl_countActions.calls k a0 a1 t645 t646 _ A7.out).mono ?_); rintro e w11 ⟨rfl, hb⟩; refine ⟨_, rfl, ?_⟩; replace HB := Aside0.mk (below_step tb hb)) | ((with_reducible refine gate_dst (N := 22) rfl ?_); refine Kd.R_lit (Kd.int .i64) _ 3 ?hg (N := 22) ?hd (xs := ([1, 1, 1, 2] : List Int)) (inner := [.int .i64 1, .int .i64 1, .int .i64 1, .int .i64 2]) (ok := fun _ => True) (okp := fun _ => True) ?hr ?hp (fun _ hk => hk) trivial (Below.refl _ _) (Nat.le_refl _) (by simp) ?_; (case hd => rfl); (case hg => rfl); (case hr => exact gS); (case hp => exact (Reps.one (show Kd.M (Kd.int .i64) _ _ _ 1 [.int .i64 1] from rfl) (Reps.one (show Kd.M (Kd.int .i64) _ _ _ 1 [.int .i64 1] from rfl) (Reps.one (show Kd.M (Kd.int .i64) _ _ _ 1 [.int .i64 1] from rfl) (Reps.one (show Kd.M (Kd.int .i64) _ _ _ 2 [.int .i64 2] from rfl) (Reps.none _ _)))))); intro v648 w12 ho13 hb hg_ hnew_; clear hg_ hnew_; (first | rw [← Ny647.out] at ho13 | (simp only [Int.reduceToNat] at ho13; rw [← Ny647.out] at ho13)); have HO649 := Aside0.mk (Kd.R_lower ho13 (below_size tb)); replace HB := Aside0.mk (below_step tb hb); clear hb ho13; obtain ⟨Ao14, co14, eo14⟩ := Kd.R_slice HO649.out; subst eo14; have p650 : 0 ≤ (a1 : Int) := dT; have q650 : a1 < (y647.length : Int) := dT; obtain ⟨ad650, e650, hx650_0⟩ := Kd.at_int (Kd.R_reads' HO649.out).2.2 a1 p650 q650; cases e650; replace p650 := eq_true p650; replace q650 := eq_true q650))
        go_ret
        exact ⟨rE, tb⟩
    · replace c6 := Bool.eq_false_iff.mpr c6
      subst c6
      rw [if_neg (show ¬ (false = true) by decide)] at H
      obtain rfl := Option.some.inj H
      go_enter Try.func19, Try.ntmps19
      go_wp2_with (first | (refine gL 48 (some 8) Try.func48 #[.int .i64 a0, .int .i64 0, .int .i64 2] ?_; (with_reducible refine (impl_within.calls a0 0 2 true _ A3.out).mono ?_); rintro e w' ⟨rfl, ⟨nd, rfl⟩⟩; refine ⟨_, rfl, ?_⟩) | (go_at_call 48; (with_reducible refine (impl_within.calls a1 1 3 false _ A5.out).mono ?_); rintro e w' ⟨rfl, ⟨nd, rfl⟩⟩))
      go_ret
      exact ⟨rE, tb⟩
  · replace c4 := Bool.eq_false_iff.mpr c4
    subst c4
    rw [if_neg (show ¬ (false = true) by decide)] at H
    obtain rfl := Option.some.inj H
    go_enter Try.func19, Try.ntmps19
    go_wp2_with (first | (refine gL 48 (some 8) Try.func48 #[.int .i64 a0, .int .i64 0, .int .i64 2] ?_; (with_reducible refine (impl_within.calls a0 0 2 false _ A3.out).mono ?_); rintro e w' ⟨rfl, ⟨nd, rfl⟩⟩; refine ⟨_, rfl, ?_⟩))
    go_ret
    exact ⟨rE, tb⟩

/-! ### spec_l7Factorial: function 58 -/
def spec_l7Factorial.l0 : Nat → Int → Int → Int → Option (Int)
  | 0, _, _, _ => none
  | k + 1, x0, x3, x4 => if x4 ≤ x0 then (spec_l7Factorial.l0 k x0 (wrap64 (x3 * x4)) (wrap64 (x4 + 1))) else (some x3)
def spec_l7Factorial.f (k : Nat) (a0 : Int) : Option (Int) := spec_l7Factorial.l0 k a0 1 2
set_option maxHeartbeats 8000000 in
set_option maxRecDepth 100000 in
theorem spec_l7Factorial.calls (k : Nat) (a0 : Int) (r : Int) (w : World) (h : spec_l7Factorial.f k a0 = some r) :
    Calls Try.prog 58 #[.int .i64 a0] w fun e w' => e = .returned (.int .i64 r) ∧ Drawn0 w w' := by
  have H : (spec_l7Factorial.l0 k a0 1 2) = some r := h
  clear h
  have H' := Aside0.mk H
  clear H
  go_enter Try.func58, Try.ntmps58
  go_wp2
  go_loopg [3, 4] k (fun kq v3 v4 w' => ∃ (x3_1 : Int) (x4_1 : Int), v3 = .int .i64 x3_1 ∧ v4 = .int .i64 x4_1 ∧ Aside0 (spec_l7Factorial.l0 kq a0 x3_1 x4_1 = some r) ∧ Aside0 (kq ≤ k) ∧ Drawn0 w w')
  case atStart => exact ⟨(1), (2), rS, rS, H', ⟨Nat.le_refl _⟩, tD⟩
  case round =>
    clear H'
    obtain ⟨x3_1, x4_1, rfl, rfl, HA, HK1, ⟨m1, rfl⟩⟩ := hrel
    cases gk with
    | zero => exact absurd HA.out (by simp [spec_l7Factorial.l0])
    | succ k1 =>
      have H := HA.out
      clear HA
      simp only [spec_l7Factorial.l0] at H
      obtain ⟨c2b0, H⟩ | ⟨c2b0, H⟩ := gi H
      · have H' := Aside0.mk H
        clear H
        go_wp2
        go_roundg k1
        case measure => exact oK
        case rel => exact ⟨(wrap64 (x3_1 * x4_1)), (wrap64 (x4_1 + 1)), rS, rS, H', ⟨oK⟩, tD⟩
      · obtain rfl := Option.some.inj H
        go_wp2
        go_ret
        exact ⟨rS, tD⟩

end Go.Proofs.Ytepogblkmiidnaa.PFnCovers
