import Derived.Test.YtafpbabiahjjaaaGreatDoorVFnGraphs
import Derived.Test.YtafpbabiahjjaaaGreatDoorPureAFnGraphs
set_option linter.unusedVariables false
set_option linter.unusedSimpArgs false
set_option linter.unnecessarySimpa false
set_option maxRecDepth 10000
namespace Go.Proofs.YtafpbabiahjjaaaGreatDoor.Pure
open Go.RowKit Go.Proofs.YtafpbabiahjjaaaGreatDoor.PFnGraphs Go.Proofs.YtafpbabiahjjaaaGreatDoorW.PrintWords Go.Proofs.YtafpbabiahjjaaaGreatDoorW.PrintLast Go.Proofs.YtafpbabiahjjaaaGreatDoorW.PrintMore
open Classical in
theorem Planar.double {a b : Int} {g : List (List Int)} (hab : a ≠ b) (hp : Planar ([a, b] :: g)) : Planar ([a, b] :: [a, b] :: g) := by
  obtain ⟨m, R, hg⟩ := hp
  have hl : m.length = 2 * g.length + 2 := by rw [R.len]; simp; omega
  have P : Par m.length (mf m) := ⟨by omega, by omega, fun x hx => mf_lt R.perm hx, fun x y hx hy e => mf_inj R.perm hx hy e, fun e => by
    have k := R.keep 1 (by simp; omega)
    rw [e] at k
    exact hab k⟩
  have len' : ([a, b] :: [a, b] :: g).length = g.length + 2 := by simp
  let m' := (List.range (m.length + 2)).map fun y => ((parF (mf m) y : Nat) : Int)
  have hl' : m'.length = m.length + 2 := by simp [m']
  have hm' : ∀ y, y < m.length + 2 → mf m' y = parF (mf m) y := fun y hy => mf_map (f := parF (mf m)) hy
  have perm' : permB m' = true := permB_map (fun y hy => P.lt hy) (fun x y hx hy e => P.inj' hx hy e)
  have endD : ∀ y, endF ([a, b] :: [a, b] :: g) y = endF ([a, b] :: g) (downF y) := fun y => by
    rw [endF_cons]
    unfold downF
    by_cases h : y < 2
    · rw [if_pos h, if_pos h, endF_cons, if_pos h]
    · rw [if_neg h, if_neg h]
  have stepS : stepR m = fun x y => x < m.length ∧ y = mf m x := rfl
  refine ⟨m', ⟨by rw [hl', hl, len']; omega, perm', fun x hx => ?_, fun x y hx hy e => ?_⟩, ?_⟩
  · rw [len'] at hx
    rw [hm' x (by omega), endD, endD]
    exact (P.down (R := fun x y => endF ([a, b] :: g) y = endF ([a, b] :: g) x) ⟨fun _ => rfl, fun h => h.symm, fun h k => k.trans h⟩ (fun x hx => R.keep x (by rw [← R.len]; exact hx)) (y := x) (by omega))
  · rw [len'] at hx hy
    rw [endD, endD] at e
    have dl : ∀ y, y < 2 * (g.length + 2) → downF y < 2 * ([a, b] :: g).length := fun y hy => by unfold downF; simp; split <;> omega
    have k := R.one (downF x) (downF y) (dl x hx) (dl y hy) e
    have st : ∀ y, y < m.length + 2 → orbR m' y (parF (mf m) y) := fun y hy => .rel ⟨by omega, (hm' y hy).symm⟩
    have k2 : orbR m' (downF x + 2) (downF y + 2) := Con.image (φ := fun x => x + 2) (g' := stepR m') (fun p q hpq => by
      rw [show q = mf m p from hpq.2]
      exact P.shift (Con.eqv _) st hpq.1) k
    have near : ∀ y, y < m.length + 2 → orbR m' y (downF y + 2) := by
      intro y hy
      unfold downF
      by_cases h0 : y = 0
      · rw [if_pos (by omega), h0]
        have := st 0 (by omega)
        rwa [show parF (mf m) 0 = 2 by simp [parF]] at this
      · by_cases h1 : y = 1
        · rw [if_pos (by omega), h1]
          have := st 3 (by omega)
          rw [show parF (mf m) 3 = 1 by simp [parF]] at this
          exact .symm this
        · rw [if_neg (by omega), show y - 2 + 2 = y by omega]; exact .refl _
    exact .trans (near x (by omega)) (.trans k2 (.symm (near y (by omega))))
  · have v := P.verts
    have f := P.faces
    have p := P.parts
    have even' : m'.length % 2 = 0 := by omega
    have congr : ∀ {n : Nat} {g g' : Nat → Nat → Prop}, (∀ x y, g x y ↔ g' x y) → cls n (Con g) = cls n (Con g') := fun h => by
      have : _ = _ := funext fun x => funext fun y => propext (h x y)
      rw [this]
    have cv : cycN m' = cls (m.length + 2) (Con fun x y => x < m.length + 2 ∧ y = parF (mf m) x) := by
      rw [cycN_fn, hl']
      exact congr fun x y => ⟨fun h => ⟨h.1, by rw [h.2, hm' x h.1]⟩, fun h => ⟨h.1, by rw [h.2, hm' x h.1]⟩⟩
    have cp : partN m' = cls (m.length + 2) (Con fun x y => (x < m.length + 2 ∧ y = parF (mf m) x) ∨ (x < m.length + 2 ∧ y = mt x)) := by
      rw [partN_fn, hl']
      exact congr fun x y => ⟨fun h => h.imp (fun h => ⟨h.1, by rw [h.2, hm' x h.1]⟩) id, fun h => h.imp (fun h => ⟨h.1, by rw [h.2, hm' x h.1]⟩) id⟩
    have cf : cycN (dualM m') = cls (m.length + 2) (Con fun x y => x < m.length + 2 ∧ y = parF (mf m) (mt x)) := by
      rw [cycN_fn, dualM_len, hl']
      have q : ∀ x, x < m.length + 2 → mf (dualM m') x = parF (mf m) (mt x) := fun x hx => by
        have : mf (dualM m') x = mf m' (mt x) := by unfold mf; rw [dualM_get m' (by omega)]
        rw [this, hm' _ (mt_lt (by omega) hx)]
      exact congr fun x y => ⟨fun h => ⟨h.1, by rw [h.2, q x h.1]⟩, fun h => ⟨h.1, by rw [h.2, q x h.1]⟩⟩
    have cf0 : cycN (dualM m) = cls m.length (Con fun x y => x < m.length ∧ y = mf m (mt x)) := by
      rw [cycN_fn, dualM_len]
      have q : ∀ x, x < m.length → mf (dualM m) x = mf m (mt x) := fun x hx => by unfold mf; rw [dualM_get m hx]
      exact congr fun x y => ⟨fun h => ⟨h.1, by rw [h.2, q x h.1]⟩, fun h => ⟨h.1, by rw [h.2, q x h.1]⟩⟩
    unfold genN at hg ⊢
    rw [cv, cp, cf, hl']
    rw [cf0, cycN_fn, partN_fn] at hg
    have one : 1 ≤ cls m.length (Con fun x y => (x < m.length ∧ y = mf m x) ∨ (x < m.length ∧ y = mt x)) := cls_ge (Con.eqv _) (fun _ => 0) [0] (fun x hx => by rw [List.mem_singleton.1 hx]; omega) (by simp) (fun _ _ _ => rfl)
    have t1 := tdiv_two ((cls m.length (Con fun x y => x < m.length ∧ y = mf m x) : Int) - ((m.length / 2 : Nat) : Int) + (cls m.length (Con fun x y => x < m.length ∧ y = mf m (mt x)) : Int))
    rw [Int.tdiv_eq_ediv_of_nonneg (by omega)] at hg
    rw [Int.tdiv_eq_ediv_of_nonneg (by omega)]
    omega
/-! ### where the darts lie: the plane drawing of five points less one line, lines drawn beside each other -/
def toD (u v : Nat) : Nat → List (Nat × Nat) → List Nat
  | _, [] => []
  | k, e :: es => cond (Nat.beq e.1 u && Nat.beq e.2 v) (2 * k :: toD u v (k + 1) es) (cond (Nat.beq e.1 v && Nat.beq e.2 u) ((2 * k + 1) :: toD u v (k + 1) es) (toD u v (k + 1) es))
def apL : List Nat → List Nat → List Nat
  | [], b => b
  | x :: a, b => x :: apL a b
def rvL : List Nat → List Nat → List Nat
  | [], b => b
  | x :: a, b => rvL a (x :: b)
def ordN (es : List (Nat × Nat)) (u : Nat) : List Nat → List Nat
  | [] => []
  | v :: nb => apL (cond (Nat.blt u v) (toD u v 0 es) (rvL (toD u v 0 es) [])) (ordN es u nb)
def cycL (d : Nat) (tl : List (Nat × Nat)) : List Nat → List (Nat × Nat)
  | [] => tl
  | x :: l => match l with
    | [] => (x, d) :: tl
    | y :: _ => (x, y) :: cycL d tl l
def cyc1 (tl : List (Nat × Nat)) (l : List Nat) : List (Nat × Nat) := match l with
  | [] => tl
  | d :: _ => cycL d tl l
def look (x : Nat) : List (Nat × Nat) → Nat
  | [] => 0
  | p :: l => cond (Nat.beq p.1 x) p.2 (look x l)
def hasK (x : Nat) : List (Nat × Nat) → Bool
  | [] => false
  | p :: l => Nat.beq p.1 x || hasK x l
def upL (f : Nat → Nat) : Nat → Nat → List Nat
  | 0, _ => []
  | k + 1, i => f i :: upL f k (i + 1)
/-- the face of dart d0, from x on -/
def faceL (m : List Nat) (d0 : Nat) : Nat → Nat → List (Nat × Nat) → List (Nat × Nat)
  | 0, _, acc => acc
  | k + 1, x, acc => (fun y => cond (Nat.beq y d0) ((x, d0) :: acc) (faceL m d0 k y ((x, d0) :: acc))) (nth m (mtN x))
def facesL (m : List Nat) (n : Nat) : Nat → Nat → List (Nat × Nat) → List (Nat × Nat)
  | 0, _, acc => acc
  | k + 1, d, acc => cond (hasK d acc) (facesL m n k (d + 1) acc) (facesL m n k (d + 1) (faceL m d n d acc))
def starts : List (Nat × Nat) → List Nat
  | [] => []
  | p :: l => cond (Nat.beq p.1 p.2) (p.1 :: starts l) (starts l)
def hasE (a b : Nat) : List (Nat × Nat) → Bool
  | [] => false
  | e :: es => (Nat.beq e.1 a && Nat.beq e.2 b) || hasE a b es
/-- the first pair that no edge joins, and the other three points -/
def missE (es : List (Nat × Nat)) : List (List Nat) → List Nat
  | [] => [0, 1, 2, 3, 4]
  | p :: ps => cond (hasE (nth p 0) (nth p 1) es) (missE es ps) p
def tens : List (List Nat) := [[0, 1, 2, 3, 4], [0, 2, 1, 3, 4], [0, 3, 1, 2, 4], [0, 4, 1, 2, 3], [1, 2, 0, 3, 4], [1, 3, 0, 2, 4], [1, 4, 0, 2, 3], [2, 3, 0, 1, 4], [2, 4, 0, 1, 3], [3, 4, 0, 1, 2]]
def tabR (es : List (Nat × Nat)) (a b c d e : Nat) : List (Nat × Nat) :=
  cyc1 (cyc1 (cyc1 (cyc1 (cyc1 (cyc1 [] (ordN es 6 [1])) (ordN es a (cond (Nat.beq a 1) [c, d, e, 6] [c, d, e]))) (ordN es b (cond (Nat.beq b 1) [e, d, c, 6] [e, d, c]))) (ordN es c (cond (Nat.beq c 1) [d, a, e, b, 6] [d, a, e, b]))) (ordN es d (cond (Nat.beq d 1) [e, a, c, b, 6] [e, a, c, b]))) (ordN es e (cond (Nat.beq e 1) [c, a, d, b, 6] [c, a, d, b]))
def firstD (es : List (Nat × Nat)) (u : Nat) : Nat → Nat → Nat
  | 0, _ => 0
  | k + 1, x => cond (Nat.beq (endN es x) u) x (firstD es u k (x + 1))
def hasD (u : Nat) : List (Nat × Nat) → Bool
  | [] => false
  | e :: es => Nat.beq e.1 u || Nat.beq e.2 u || hasD u es
def vertL (es : List (Nat × Nat)) : Nat → Nat → List Nat
  | 0, _ => []
  | k + 1, u => cond (hasD u es) (firstD es u (2 * es.length) 0 :: vertL es k (u + 1)) (vertL es k (u + 1))
def labsL (es : List (Nat × Nat)) (cl : List Nat) : Nat → Nat → List Nat
  | 0, _ => []
  | k + 1, u => cond (hasD u es) (cond (memB (nth cl u) (labsL es cl k (u + 1))) (labsL es cl k (u + 1)) (nth cl u :: labsL es cl k (u + 1))) (labsL es cl k (u + 1))
def planC2 (es : List (Nat × Nat)) (m : List Nat) (fc : List (Nat × Nat)) : Bool :=
  planB es m (upL (fun x => look x fc) (2 * es.length) 0) (upL (fun u => firstD es u (2 * es.length) 0) 7 0) (vertL es 7 0) (starts fc) (labsL es (joinL es [0, 1, 2, 3, 4, 5, 6]) 7 0)
def planC1 (es : List (Nat × Nat)) (m : List Nat) : Bool := planC2 es m (facesL m (2 * es.length) (2 * es.length) 0 [])
def planC0 (es : List (Nat × Nat)) (t : List (Nat × Nat)) : Bool := planC1 es (upL (fun x => look x t) (2 * es.length) 0)
def planC (es : List (Nat × Nat)) : Bool := match missE es tens with
  | [a, b, c, d, e] => planC0 es (tabR es a b c d e)
  | _ => false
/-! ### drawn graphs are planar -/
theorem planar_mem {a b : Int} {g : List (List Int)} (hab : a ≠ b) (he : [a, b] ∈ g) (hp : Planar g) : Planar ([a, b] :: g) := by
  have p := List.perm_cons_erase he
  exact Planar.like (Like.perm (p.symm.cons _)) (Planar.double hab (Planar.like (Like.perm p) hp))
def dd : List (List Int) → List (List Int)
  | [] => []
  | e :: g => if e ∈ dd g then dd g else e :: dd g
theorem mem_dd {x : List Int} : ∀ {g : List (List Int)}, x ∈ dd g ↔ x ∈ g
  | [] => by simp [dd]
  | e :: g => by
    have ih := mem_dd (x := x) (g := g)
    unfold dd
    split
    · rename_i h
      rw [ih, List.mem_cons]
      exact ⟨.inr, fun k => k.elim (fun k => by rw [k]; exact mem_dd.1 h) id⟩
    · rw [List.mem_cons, List.mem_cons, ih]
theorem dd_nodup : ∀ (g : List (List Int)), (dd g).Nodup
  | [] => List.nodup_nil
  | e :: g => by
    unfold dd
    split
    · exact dd_nodup g
    · rename_i h; exact List.nodup_cons.2 ⟨h, dd_nodup g⟩
theorem dd_len : ∀ (g : List (List Int)), (dd g).length ≤ g.length
  | [] => Nat.le_refl _
  | e :: g => by
    have := dd_len g
    unfold dd
    split
    · rw [List.length_cons]; omega
    · rw [List.length_cons, List.length_cons]; omega
theorem planar_dd : ∀ (g pre : List (List Int)), (∀ e ∈ g, ∃ a b : Int, e = [a, b] ∧ a ≠ b) → Planar (pre ++ dd g) → Planar (pre ++ g)
  | [], _, _, h => h
  | e :: g, pre, he, h => by
    unfold dd at h
    obtain ⟨a, b, rfl, hab⟩ := he e List.mem_cons_self
    have he' := fun f hf => he f (List.mem_cons_of_mem _ hf)
    split at h
    · rename_i hm
      have k := planar_dd g pre he' h
      exact Planar.like (Like.perm List.perm_middle.symm) (planar_mem hab (List.mem_append_right _ (mem_dd.1 hm)) k)
    · have k := planar_dd g (pre ++ [[a, b]]) he' (by rw [List.append_assoc]; exact h)
      rwa [List.append_assoc] at k
/-- each choice of at most r of the edges, put ahead of acc, answers -/
def subE (chk : List (Nat × Nat) → Bool) : List (Nat × Nat) → Nat → List (Nat × Nat) → Bool
  | [], _, acc => chk acc
  | p :: ps, 0, acc => subE chk ps 0 acc
  | p :: ps, r + 1, acc => subE chk ps (r + 1) acc && subE chk ps r (p :: acc)
theorem subE_is {chk : List (Nat × Nat) → Bool} (q : Nat × Nat → Bool) : ∀ (ps : List (Nat × Nat)) (r : Nat) (acc : List (Nat × Nat)), subE chk ps r acc = true → (ps.filter q).length ≤ r → chk ((ps.filter q).reverse ++ acc) = true
  | [], _, acc, h, _ => h
  | p :: ps, 0, acc, h, hl => by
    by_cases k : q p = true
    · rw [List.filter_cons_of_pos k] at hl; simp at hl
    · rw [List.filter_cons_of_neg k] at hl ⊢
      exact subE_is q ps 0 acc h hl
  | p :: ps, r + 1, acc, h, hl => by
    simp only [subE, Bool.and_eq_true] at h
    by_cases k : q p = true
    · rw [List.filter_cons_of_pos k] at hl ⊢
      rw [List.reverse_cons, List.append_assoc]
      exact subE_is q ps r (p :: acc) h.2 (by rw [List.length_cons] at hl; omega)
    · rw [List.filter_cons_of_neg k] at hl ⊢
      exact subE_is q ps (r + 1) acc h.1 hl
theorem upL_mem {f : Nat → Nat} {y : Nat} : ∀ {k i : Nat}, y ∈ upL f k i → ∃ j, y = f j
  | 0, _, h => by cases h
  | k + 1, i, h => by
    rcases List.mem_cons.1 h with e | h
    · exact ⟨i, e⟩
    · exact upL_mem h
theorem upL_len (f : Nat → Nat) : ∀ (k i : Nat), (upL f k i).length = k
  | 0, _ => rfl
  | k + 1, i => by simp [upL, upL_len f k]
theorem firstD_lt (es : List (Nat × Nat)) (u n : Nat) (hn : 0 < n) : ∀ (k x : Nat), x + k ≤ n → firstD es u k x < n
  | 0, _, _ => hn
  | k + 1, x, h => by
    unfold firstD
    cases Nat.beq (endN es x) u
    · exact firstD_lt es u n hn k (x + 1) (by omega)
    · show x < n; omega
theorem planC_is {es : List (Nat × Nat)} (hn : 0 < es.length) (h : planC es = true) : Planar (toE es) := by
  unfold planC at h
  split at h
  · refine planB_is (fun x hx => ?_) (upL_len _ _ _) h
    obtain ⟨u, rfl⟩ := upL_mem hx
    exact firstD_lt es u _ (by omega) _ _ (by omega)
  · cases h
def bothC (es : List (Nat × Nat)) : Bool := planC es && planC ((1, 6) :: es)
def pairs10 : List (Nat × Nat) := [(0, 1), (0, 2), (0, 3), (0, 4), (1, 2), (1, 3), (1, 4), (2, 3), (2, 4), (3, 4)]
set_option maxRecDepth 100000 in
theorem pl_a : subE bothC (pairs10.drop 2) 6 [] = true := by decide +kernel
set_option maxRecDepth 100000 in
theorem pl_b : subE bothC (pairs10.drop 2) 5 [(0, 2)] = true := by decide +kernel
set_option maxRecDepth 100000 in
theorem pl_c : subE bothC (pairs10.drop 2) 5 [(0, 1)] = true := by decide +kernel
set_option maxRecDepth 100000 in
theorem pl_d : subE bothC (pairs10.drop 2) 4 [(0, 2), (0, 1)] = true := by decide +kernel
theorem pl_all : subE bothC pairs10 6 [] = true := by
  show (subE bothC (pairs10.drop 2) 6 [] && subE bothC (pairs10.drop 2) 5 [(0, 2)] && (subE bothC (pairs10.drop 2) 5 [(0, 1)] && subE bothC (pairs10.drop 2) 4 [(0, 2), (0, 1)])) = true
  rw [pl_a, pl_b, pl_c, pl_d]; rfl
def smallE (e : List Int) : Prop := ∃ a b : Int, e = [a, b] ∧ a ≠ b ∧ 0 ≤ a ∧ a < 5 ∧ 0 ≤ b ∧ b < 5
theorem upE_small {e : List Int} (h : smallE e) : ∃ p ∈ pairs10, upE e = [(p.1 : Int), (p.2 : Int)] := by
  obtain ⟨a, b, rfl, hab, ha, ha5, hb, hb5⟩ := h
  have key5 : ∀ a b : Fin 5, a.1 < b.1 → (a.1, b.1) ∈ pairs10 := by decide
  have key : ∀ a : Nat, a < 5 → ∀ b : Nat, b < 5 → a < b → (a, b) ∈ pairs10 := fun a ha b hb h => key5 ⟨a, ha⟩ ⟨b, hb⟩ h
  by_cases k : a ≤ b
  · refine ⟨(a.toNat, b.toNat), key _ (by omega) _ (by omega) (by omega), ?_⟩
    unfold upE
    rw [if_pos (by simpa using k), Int.toNat_of_nonneg ha, Int.toNat_of_nonneg hb]
  · refine ⟨(b.toNat, a.toNat), key _ (by omega) _ (by omega) (by omega), ?_⟩
    unfold upE
    rw [if_neg (by simpa using k)]
    show [b, a] = [((b.toNat : Nat) : Int), ((a.toNat : Nat) : Int)]
    rw [Int.toNat_of_nonneg ha, Int.toNat_of_nonneg hb]
theorem toE_inj {p p' : Nat × Nat} (h : [(p.1 : Int), (p.2 : Int)] = [(p'.1 : Int), (p'.2 : Int)]) : p = p' := by
  simp only [List.cons.injEq, Int.ofNat_inj, and_true] at h
  exact Prod.ext h.1 h.2
theorem planar_drawn {g : List (List Int)} (hs : ∀ e ∈ g, smallE e) (h0 : 0 < g.length) (h6 : g.length ≤ 6) : Planar g ∧ Planar (g ++ [[1, 6]]) := by
  have h2 : ∀ e ∈ g, e.length = 2 := fun e he => by obtain ⟨a, b, rfl, _⟩ := hs e he; rfl
  let g1 := g.map upE
  have hg1 : ∀ e ∈ g1, ∃ p ∈ pairs10, e = [(p.1 : Int), (p.2 : Int)] := fun e he => by
    obtain ⟨f, hf, rfl⟩ := List.mem_map.1 he
    exact upE_small (hs f hf)
  have hd1 : ∀ e ∈ g1, ∃ a b : Int, e = [a, b] ∧ a ≠ b := fun e he => by
    obtain ⟨p, hp, rfl⟩ := hg1 e he
    refine ⟨_, _, rfl, ?_⟩
    have key : ∀ p ∈ pairs10, p.1 ≠ p.2 := by decide
    have := key p hp
    omega
  have nd : pairs10.Nodup := by decide
  -- the edges that are there, each once
  let s := pairs10.filter fun p => decide ([(p.1 : Int), (p.2 : Int)] ∈ g1)
  have hperm : (toE s).Perm (dd g1) := by
    refine (List.perm_ext_iff_of_nodup ?_ (dd_nodup g1)).2 (fun e => ?_)
    · unfold toE List.Nodup
      rw [List.pairwise_map]
      exact (nd.filter _).imp fun {a b} hab e => hab (toE_inj e)
    · rw [mem_dd]
      unfold toE
      rw [List.mem_map]
      constructor
      · rintro ⟨p, hp, rfl⟩
        exact of_decide_eq_true (List.mem_filter.1 hp).2
      · intro he
        obtain ⟨p, hp, rfl⟩ := hg1 e he
        exact ⟨p, List.mem_filter.2 ⟨hp, decide_eq_true he⟩, rfl⟩
  have hsl : s.length ≤ 6 := by
    have a := hperm.length_eq
    have b := dd_len g1
    simp only [toE, List.length_map] at a
    have c : g1.length = g.length := by simp [g1]
    omega
  have hs0 : 0 < s.length := by
    have a := hperm.length_eq
    simp only [toE, List.length_map] at a
    cases hd : dd g1 with
    | nil =>
      obtain ⟨e, he⟩ := List.exists_mem_of_length_pos (l := g1) (by simpa [g1] using h0)
      have := mem_dd.2 he
      rw [hd] at this; cases this
    | cons x l => rw [hd] at a; simp at a; omega
  have hc := subE_is _ pairs10 6 [] pl_all hsl
  rw [List.append_nil] at hc
  simp only [bothC, Bool.and_eq_true] at hc
  have q1 := planC_is (es := s.reverse) (by rw [List.length_reverse]; exact hs0) hc.1
  have q2 := planC_is (es := (1, 6) :: s.reverse) (by simp) hc.2
  have r1 : (toE s.reverse).Perm (dd g1) := by
    unfold toE at hperm ⊢
    exact ((List.reverse_perm s).map _).trans hperm
  have like1 : Like g1 g := (Like.up g h2).symm
  constructor
  · have := planar_dd g1 [] hd1 (by rw [List.nil_append]; exact Planar.like (Like.perm r1) q1)
    exact Planar.like like1 this
  · have k := planar_dd g1 [[1, 6]] hd1 (Planar.like (Like.perm (r1.cons [1, 6])) q2)
    have k2 := Planar.like (like1.cons [1, 6]) k
    exact Planar.like (Like.perm (List.perm_append_comm (l₁ := [[1, 6]]) (l₂ := g))) k2

/-- lo * (lo + 1) * .. , c factors -/
def rise : Nat → Nat → Int
  | _, 0 => 1
  | lo, c + 1 => (lo : Int) * rise (lo + 1) c
def prodM : List Int → Int
  | [] => 1
  | d :: ds => rise 2 (d - 2).toNat * prodM ds
def rotM (g : List (List Int)) : Int := if graphB g = true then wrap64 (prodM (degM g)) else -1
theorem wrap64_mul (a b : Int) : wrap64 (wrap64 a * b) = wrap64 (a * b) := by
  have h : ∃ q : Int, wrap64 a = a + 18446744073709551616 * q := by
    unfold wrap64
    exact ⟨-((a + 9223372036854775808) / 18446744073709551616), by omega⟩
  obtain ⟨q, h⟩ := h
  rw [h, Int.add_mul, Int.mul_assoc]
  generalize q * b = m
  unfold wrap64; omega
theorem wrap64_mul' (a b : Int) : wrap64 (b * wrap64 a) = wrap64 (b * a) := by
  rw [Int.mul_comm, wrap64_mul, Int.mul_comm]
theorem degM_bd (g : List (List Int)) : ∀ d ∈ degM g, 0 ≤ d ∧ d ≤ 1000 := by
  unfold degM
  split
  · rename_i hg
    have G := graphB_of hg
    intro d hd
    obtain ⟨v, _, rfl⟩ := List.mem_map.1 hd
    have := degN_le (v : Int) g
    omega
  · simp

/-! ### at most 2000 rotations: small degrees -/
theorem rise_bd : ∀ d : Nat, d ≤ 10 → 1 ≤ rise 2 (d - 2) ∧ rise 2 (d - 2) ≤ 4 ^ d ∧ (8 ≤ d → 2001 ≤ rise 2 (d - 2)) := by decide
theorem degN_edges (v : Int) : ∀ (g : List (List Int)), (∀ e ∈ g, edgeB e = true) → degN v g ≤ g.length
  | [], _ => by simp [degN]
  | e :: g, h => by
    have ih := degN_edges v g fun e he => h e (List.mem_cons_of_mem _ he)
    obtain ⟨a, b, rfl, _, _, _, _, hab⟩ := edgeB_of (h e List.mem_cons_self)
    simp only [degN, List.length_cons, List.getD_cons_zero, List.getD_cons_succ]
    by_cases c : a = v
    · rw [if_pos c, if_neg (fun q => hab (c.trans q.symm))]; omega
    · rw [if_neg c]; split <;> omega
theorem degN_sum : ∀ (g : List (List Int)), (∀ e ∈ g, edgeB e = true) → (((List.range 7).map fun v : Nat => degN (v : Int) g).sum) = 2 * g.length
  | [], _ => by simp only [degN]; rfl
  | e :: g, h => by
    have ih := degN_sum g fun e he => h e (List.mem_cons_of_mem _ he)
    obtain ⟨a, b, rfl, a0, a6, b0, b6, hab⟩ := edgeB_of (h e List.mem_cons_self)
    have r : List.range 7 = [0, 1, 2, 3, 4, 5, 6] := by decide
    rw [r] at ih ⊢
    simp only [List.map_cons, List.map_nil, List.sum_cons, List.sum_nil, degN, List.length_cons, List.getD_cons_zero, List.getD_cons_succ] at ih ⊢
    have one : ∀ c : Int, 0 ≤ c → c ≤ 6 → (if c = ((0 : Nat) : Int) then 1 else 0) + (if c = ((1 : Nat) : Int) then 1 else 0) + (if c = ((2 : Nat) : Int) then 1 else 0) + (if c = ((3 : Nat) : Int) then 1 else 0) + (if c = ((4 : Nat) : Int) then 1 else 0) + (if c = ((5 : Nat) : Int) then 1 else 0) + (if c = ((6 : Nat) : Int) then 1 else 0) = 1 := by
      intro c h1 h2
      have : c = 0 ∨ c = 1 ∨ c = 2 ∨ c = 3 ∨ c = 4 ∨ c = 5 ∨ c = 6 := by omega
      rcases this with h | h | h | h | h | h | h <;> subst h <;> rfl
    have h1 := one a a0 a6
    have h2 := one b b0 b6
    omega
theorem prod_bd : ∀ (l : List Nat), (∀ d ∈ l, d ≤ 10) → 1 ≤ prodM (l.map fun d : Nat => (d : Int)) ∧ prodM (l.map fun d : Nat => (d : Int)) ≤ 4 ^ l.sum ∧ ∀ d ∈ l, rise 2 (d - 2) ≤ prodM (l.map fun d : Nat => (d : Int))
  | [], _ => ⟨by simp [prodM], by simp [prodM], fun d hd => by cases hd⟩
  | d :: l, h => by
    obtain ⟨i1, i2, i3⟩ := prod_bd l fun d hd => h d (List.mem_cons_of_mem _ hd)
    obtain ⟨b1, b2, _⟩ := rise_bd d (h d List.mem_cons_self)
    have e : ((d : Int) - 2).toNat = d - 2 := by omega
    simp only [List.map_cons, prodM, List.sum_cons, e]
    refine ⟨?_, ?_, fun x hx => ?_⟩
    · have := Int.mul_le_mul b1 i1 (by omega) (by omega)
      omega
    · rw [Int.pow_add]
      exact Int.mul_le_mul b2 i2 (by omega) (Int.le_trans (by omega) b2)
    · rcases List.mem_cons.1 hx with rfl | hx
      · have := Int.mul_le_mul_of_nonneg_left i1 (show 0 ≤ rise 2 (x - 2) by omega)
        omega
      · have := Int.mul_le_mul_of_nonneg_right b1 (show 0 ≤ prodM (l.map fun d : Nat => (d : Int)) by omega)
        have := i3 x hx
        omega
theorem rot_bd {g : List (List Int)} (hg : graphB g = true) : 1 ≤ rotM g ∧ (rotM g ≤ 2000 → ∀ u, u < 7 → (ds g u).length ≤ 7) := by
  have G := graphB_of hg
  have hd : ∀ d ∈ (List.range 7).map fun v : Nat => degN (v : Int) g, d ≤ 10 := by
    intro d hd
    obtain ⟨v, _, rfl⟩ := List.mem_map.1 hd
    have := degN_edges (v : Int) g G.1; omega
  obtain ⟨b1, b2, b3⟩ := prod_bd _ hd
  rw [degN_sum g G.1] at b2
  have e : prodM (degM g) = prodM (((List.range 7).map fun v : Nat => degN (v : Int) g).map fun d : Nat => (d : Int)) := by
    unfold degM; rw [if_pos hg, List.map_map]; rfl
  have p : (4 : Int) ^ (2 * g.length) ≤ 1099511627776 := by
    have : ∀ n : Nat, n ≤ 10 → (4 : Int) ^ (2 * n) ≤ 1099511627776 := by decide
    exact this _ G.2.2
  have er : rotM g = prodM (((List.range 7).map fun v : Nat => degN (v : Int) g).map fun d : Nat => (d : Int)) := by
    unfold rotM; rw [if_pos hg, e, w64 (by omega) (by omega)]
  rw [er]
  refine ⟨b1, fun h u hu => ?_⟩
  have hm : degN (u : Int) g ∈ (List.range 7).map fun v : Nat => degN (v : Int) g := List.mem_map.2 ⟨u, List.mem_range.2 hu, rfl⟩
  have h1 := b3 _ hm
  have h2 := (rise_bd _ (hd _ hm)).2.2
  unfold ds
  rw [dartsF_len]
  by_cases c : 8 ≤ degN (u : Int) g
  · have := h2 c; omega
  · omega

/-! ### the row of a graph: its rotations counted by genus -/
def bumpT (row : List Int) (n : Int) : List Int := (row ++ List.replicate (n.toNat + 1 - row.length) 0).set n.toNat (wrap64 (rd (row ++ List.replicate (n.toNat + 1 - row.length) 0) n + 1))
theorem app_zero (row : List Int) (k i : Nat) : (row ++ List.replicate k 0).getD i 0 = row.getD i 0 := by
  simp only [List.getD_eq_getElem?_getD]
  by_cases h : i < row.length
  · rw [List.getElem?_append_left h]
  · rw [List.getElem?_append_right (by omega), List.getElem?_replicate, List.getElem?_eq_none (l := row) (by omega)]
    split <;> rfl
theorem bumpT_len (row : List Int) (n : Int) : (bumpT row n).length = max row.length (n.toNat + 1) := by
  unfold bumpT
  rw [List.length_set, List.length_append, List.length_replicate]; omega
theorem bumpT_get (row : List Int) (n : Int) (i : Nat) : (bumpT row n).getD i 0 = if i = n.toNat then wrap64 (row.getD i 0 + 1) else row.getD i 0 := by
  unfold bumpT
  rw [getD_setB, rd_getD, app_zero, app_zero]
  by_cases h : i = n.toNat
  · subst h
    rw [if_pos ⟨rfl, by rw [List.length_append, List.length_replicate]; omega⟩, if_pos rfl]
  · rw [if_neg (fun c => h c.1), if_neg h]
theorem ext_getD {a b : List Int} (hl : a.length = b.length) (h : ∀ i, a.getD i 0 = b.getD i 0) : a = b := by
  apply List.ext_getElem hl
  intro i h1 h2
  have := h i
  simpa [h1, h2] using this
theorem bumpT_comm (row : List Int) (x y : Int) : bumpT (bumpT row x) y = bumpT (bumpT row y) x := by
  refine ext_getD (by rw [bumpT_len, bumpT_len, bumpT_len, bumpT_len]; omega) fun i => ?_
  rw [bumpT_get, bumpT_get, bumpT_get, bumpT_get]
  by_cases h1 : i = x.toNat <;> by_cases h2 : i = y.toNat
  · simp only [if_pos h1, if_pos h2]
  · simp only [if_pos h1, if_neg h2]
  · simp only [if_neg h1, if_pos h2]
  · simp only [if_neg h1, if_neg h2]
/-- the genera of the rotations that continue m, in order -/
noncomputable def GL (O : Nat → List (List Int)) : Nat → Nat → List Int → List Int
  | 0, _, m => [genN m]
  | c + 1, v, m => (O v).flatMap fun os => GL O c (v + 1) (ringM m os)
theorem flatMap_perm {α β : Type} {f f' : α → List β} : ∀ (l : List α), (∀ x ∈ l, (f x).Perm (f' x)) → (l.flatMap f).Perm (l.flatMap f')
  | [], _ => .refl _
  | x :: l, h => by
    rw [List.flatMap_cons, List.flatMap_cons]
    exact (h x List.mem_cons_self).append (flatMap_perm l fun y hy => h y (List.mem_cons_of_mem _ hy))
theorem GL_perm {O O' : Nat → List (List Int)} (h : ∀ v, (O v).Perm (O' v)) : ∀ c v m, (GL O c v m).Perm (GL O' c v m)
  | 0, _, _ => .refl _
  | c + 1, v, m => ((h v).flatMap_right _).trans (flatMap_perm _ fun os _ => GL_perm h c (v + 1) (ringM m os))
theorem flatMap_same {α β : Type} {f f' : α → List β} : ∀ (l : List α), (∀ x ∈ l, f x = f' x) → l.flatMap f = l.flatMap f'
  | [], _ => rfl
  | x :: l, h => by
    rw [List.flatMap_cons, List.flatMap_cons, h x List.mem_cons_self, flatMap_same l fun y hy => h y (List.mem_cons_of_mem _ hy)]
theorem GL_same {g : List (List Int)} (hg : graphB g = true) {O : Nat → List (List Int)} (hO : ∀ v, ∀ os ∈ O v, os.Perm (ds g v)) : ∀ c v m m', v + c = 7 → AG g v m m' → GL O c v m = GL O c v m'
  | 0, v, m, m', hv, h => by
    have : v = 7 := by omega
    subst this
    rw [h.all hg]
  | c + 1, v, m, m', hv, h => by
    simp only [GL]
    exact flatMap_same _ fun os ho => GL_same hg hO c (v + 1) _ _ (by omega) (h.ring (hO v os ho))
/-- at the leaf -/
theorem leaf_map {g : List (List Int)} (hg : graphB g = true) {m : List Int} (h : PV g 7 m) : isMapB m = true := by
  have G := graphB_of hg
  have hl := h.1
  simp only [isMapB, Bool.and_eq_true, decide_eq_true_eq]
  exact ⟨by omega, by omega, h.perm hg⟩
theorem leaf_bd {g : List (List Int)} (hg : graphB g = true) {m : List Int} (h : PV g 7 m) : permB m = true ∧ m.length ≤ 24 ∧ m.length % 2 = 0 ∧ 0 ≤ genN m ∧ genN m ≤ 100 := by
  have G := graphB_of hg
  have hl := h.1
  have b := genN_bd (h.perm hg) (by omega) (by omega)
  exact ⟨h.perm hg, by omega, by omega, b.1, b.2.1⟩
theorem bump_now {row : List Int} {n : Int} (h0 : 0 ≤ n) (h1 : n ≤ 100) (hr : row.length ≤ 101) : spec_GenusRow.bump row n = some (bumpT row n) ∧ (bumpT row n).length ≤ 101 := by
  refine ⟨?_, by rw [bumpT_len]; omega⟩
  unfold spec_GenusRow.bump
  rw [if_pos ⟨h0, by omega, by omega⟩]; rfl
noncomputable def rowG (O : List Int → List (List Int)) (g : List (List Int)) : List Int := (GL (fun v => O (ds g v)) 7 0 (List.replicate (2 * g.length) 0)).foldl bumpT []
noncomputable def rowM' (g : List (List Int)) : List Int := if graphB g = true ∧ rotM g ≤ 2000 then rowG ord7 g else []
theorem rowG_same (g : List (List Int)) : rowG ordI g = rowG ord7 g := by
  refine (List.Perm.foldl_eq' (GL_perm (fun v => (ord7_ordI (ds_nodup g v)).1) 7 0 _) (fun x _ y _ z => bumpT_comm z x y) []).symm
theorem ord7_mem {g : List (List Int)} (v : Nat) : ∀ os ∈ ord7 (ds g v), os.Perm (ds g v) := fun os ho =>
  (ord7_ordI (ds_nodup g v)).2 os ((ord7_ordI (ds_nodup g v)).1.mem_iff.1 ho)
theorem PV_zero (g : List (List Int)) : PV g 0 (List.replicate (2 * g.length) 0) := ⟨by simp, fun u hu => by omega⟩

/-! ### each rotation is a leaf -/
theorem ds_iff (g : List (List Int)) (u : Nat) (d : Int) : d ∈ ds g u ↔ ∃ x : Nat, x < 2 * g.length ∧ d = (x : Int) ∧ endF g x = (u : Int) := by
  unfold ds
  rw [dartsF_iff]
  constructor
  · rintro ⟨j, hj, h | h⟩
    · refine ⟨2 * j, by omega, by omega, ?_⟩
      unfold endF
      rw [show 2 * j / 2 = j by omega, show 2 * j % 2 = 0 by omega]; exact h.2
    · refine ⟨2 * j + 1, by omega, by omega, ?_⟩
      unfold endF
      rw [show (2 * j + 1) / 2 = j by omega, show (2 * j + 1) % 2 = 1 by omega]; exact h.2
  · rintro ⟨x, hx, rfl, h⟩
    refine ⟨x / 2, by omega, ?_⟩
    unfold endF at h
    rcases Nat.mod_two_eq_zero_or_one x with k | k
    · left; rw [k] at h; exact ⟨by omega, h⟩
    · right; rw [k] at h; exact ⟨by omega, h⟩
theorem least_nat {P : Nat → Prop} (h : ∃ n, P n) : ∃ n, P n ∧ ∀ k, k < n → ¬ P k := by
  obtain ⟨n, hn⟩ := h
  induction n using Nat.strongRecOn with
  | _ n ih =>
    by_cases k : ∃ m, m < n ∧ P m
    · obtain ⟨m, hm, pm⟩ := k
      exact ih m hm pm
    · exact ⟨n, hn, fun q hq pq => k ⟨q, hq, pq⟩⟩
theorem itf_canc {n : Nat} {f : Nat → Nat} (hf : ∀ x, x < n → f x < n) (hi : ∀ x y, x < n → y < n → f x = f y → x = y) {b : Nat} (hb : b < n) : ∀ i k, itf f i b = itf f (i + k) b → itf f k b = b
  | 0, k, h => by rw [Nat.zero_add] at h; exact h.symm
  | i + 1, k, h => by
    rw [show i + 1 + k = (i + k) + 1 by omega] at h
    simp only [itf] at h
    exact itf_canc hf hi hb i k (hi _ _ (itf_lt hf hb i) (itf_lt hf hb _) h)
/-- the round from d: its members in order -/
theorem round_of {m : List Int} (hm : permB m = true) {d : Nat} (hd : d < m.length) : ∃ p, 0 < p ∧ itf (mf m) p d = d ∧ (∀ i j, i < j → j < p → itf (mf m) i d ≠ itf (mf m) j d) ∧ ∀ y, y < m.length → orbR m d y → ∃ i, i < p ∧ y = itf (mf m) i d := by
  have hf : ∀ x, x < m.length → mf m x < m.length := fun x hx => mf_lt hm hx
  have hi : ∀ x y, x < m.length → y < m.length → mf m x = mf m y → x = y := fun x y hx hy e => mf_inj hm hx hy e
  obtain ⟨k, hk⟩ := itf_back hf hi hd
  obtain ⟨p, ⟨hp0, hp⟩, hmin⟩ := least_nat (P := fun p => 0 < p ∧ itf (mf m) p d = d) ⟨k + 1, by omega, by rw [itf_comm] at hk; exact hk⟩
  refine ⟨p, hp0, hp, fun i j hij hj e => ?_, fun y hy h => ?_⟩
  · have := itf_canc hf hi hd i (j - i) (by rw [show i + (j - i) = j by omega]; exact e)
    exact hmin (j - i) (by omega) ⟨by omega, this⟩
  · have key := Con.least (g := stepR m) (E := fun a b => (∃ i, i < p ∧ a = itf (mf m) i d) ↔ (∃ i, i < p ∧ b = itf (mf m) i d)) ⟨fun _ => Iff.rfl, fun h => h.symm, fun h k => h.trans k⟩ (fun a b hab => by
      have ha := hab.1
      have hb : b = mf m a := hab.2
      subst hb
      constructor
      · rintro ⟨i, hi', rfl⟩
        by_cases e : i + 1 < p
        · exact ⟨i + 1, e, rfl⟩
        · refine ⟨0, hp0, ?_⟩
          have : p = i + 1 := by omega
          rw [this] at hp
          exact hp
      · rintro ⟨i, hi', e⟩
        match i, e with
        | 0, e =>
          refine ⟨p - 1, by omega, hi a _ ha (itf_lt hf hd _) ?_⟩
          have : itf (mf m) (p - 1 + 1) d = d := by rw [show p - 1 + 1 = p by omega]; exact hp
          exact e.trans this.symm
        | i + 1, e => exact ⟨i, by omega, hi a _ ha (itf_lt hf hd _) e⟩) h
    exact key.1 ⟨0, hp0, rfl⟩
theorem Rot.order {g : List (List Int)} (hg : graphB g = true) {m : List Int} (R : Rot g m) (v : Nat) : ∃ os ∈ ord7 (ds g v), os.Perm (ds g v) ∧ ∀ j, j < os.length → m.getD (os.getD j 0).toNat 0 = os.getD ((j + 1) % os.length) 0 := by
  cases hds : ds g v with
  | nil => exact ⟨[], by simp [ord7], .refl _, fun j hj => by simp at hj⟩
  | cons a r =>
    have nd := ds_nodup g v
    rw [hds] at nd
    obtain ⟨d, hd, rfl, ed⟩ := (ds_iff g v a).1 (by rw [hds]; exact List.mem_cons_self)
    have hl := R.len
    have hd' : d < m.length := by omega
    obtain ⟨p, hp0, hp, hne, hall⟩ := round_of R.perm hd'
    have hf : ∀ x, x < m.length → mf m x < m.length := fun x hx => mf_lt R.perm hx
    have inV : ∀ i, endF g (itf (mf m) i d) = (v : Int) ∧ itf (mf m) i d < m.length ∧ orbR m d (itf (mf m) i d) := by
      intro i
      induction i with
      | zero => exact ⟨ed, hd', .refl _⟩
      | succ i ih =>
        refine ⟨?_, hf _ ih.2.1, .trans ih.2.2 (orbR_step ih.2.1)⟩
        show endF g (mf m (itf (mf m) i d)) = _
        rw [R.keep _ (by omega)]; exact ih.1
    let os : List Int := (List.range p).map fun i => ((itf (mf m) i d : Nat) : Int)
    have hos : os.Nodup := by
      refine List.pairwise_map.2 (List.Pairwise.imp_of_mem (fun {x y} hx hy hxy e => ?_) List.nodup_range)
      have hx := List.mem_range.1 hx
      have hy := List.mem_range.1 hy
      rcases Nat.lt_or_gt_of_ne hxy with k | k
      · exact hne x y k hy (by omega)
      · exact hne y x k hx (by omega)
    have hmem : ∀ z, z ∈ os ↔ z ∈ ((d : Int) :: r) := fun z => by
      rw [← hds, ds_iff]
      constructor
      · intro h
        obtain ⟨i, hi, rfl⟩ := List.mem_map.1 h
        exact ⟨_, by have := (inV i).2.1; omega, rfl, (inV i).1⟩
      · rintro ⟨y, hy, rfl, ey⟩
        obtain ⟨i, hi, e⟩ := hall y (by omega) (R.one d y hd hy (by rw [ed, ey]))
        exact List.mem_map.2 ⟨i, List.mem_range.2 hi, by rw [e]⟩
    have hperm : os.Perm ((d : Int) :: r) := (List.perm_ext_iff_of_nodup hos nd).2 hmem
    have gt : ∀ j, j < p → os.getD j 0 = ((itf (mf m) j d : Nat) : Int) := fun j hj => by
      show ((List.range p).map fun i => ((itf (mf m) i d : Nat) : Int)).getD j 0 = _
      rw [List.getD_eq_getElem?_getD, List.getElem?_map, List.getElem?_range hj]; simp
    have hlen : os.length = p := by simp [os]
    refine ⟨os, ?_, hperm, fun j hj => ?_⟩
    · obtain ⟨q, rfl⟩ : ∃ q, p = q + 1 := ⟨p - 1, by omega⟩
      have e : os = (d : Int) :: ((List.range q).map fun i => ((itf (mf m) (i + 1) d : Nat) : Int)) := by
        show (List.range (q + 1)).map _ = _
        rw [List.range_succ_eq_map, List.map_cons, List.map_map]
        rfl
      rw [e] at hperm ⊢
      exact ((ord7_is nd).2 _).2 ⟨_, rfl, (List.perm_cons _).1 hperm⟩
    · rw [hlen] at hj ⊢
      rw [gt j hj, Int.toNat_natCast, mf_cast R.perm (inV j).2.1]
      by_cases k : j + 1 < p
      · rw [Nat.mod_eq_of_lt k, gt _ k]; rfl
      · have : p = j + 1 := by omega
        rw [show (j + 1) % p = 0 by rw [this]; exact Nat.mod_self _, gt 0 hp0]
        rw [this] at hp
        exact congrArg Int.ofNat hp
theorem ringM_ag {g : List (List Int)} {v : Nat} {x m os : List Int} (hx : x.length = 2 * g.length) (hm : m.length = 2 * g.length) (h : AG g v x m) (ho : os.Perm (ds g v)) (hc : ∀ j, j < os.length → m.getD (os.getD j 0).toNat 0 = os.getD ((j + 1) % os.length) 0) : AG g (v + 1) (ringM x os) m := by
  refine ⟨by rw [ringM_len]; exact hx, hm, fun u hu d hd => ?_⟩
  by_cases e : u = v
  · subst e
    obtain ⟨j, hj, rfl⟩ := perm_at ho hd
    have nd : os.Nodup := ho.nodup_iff.2 (ds_nodup g u)
    have := ringK_at (x := x) nd (fun d hd => by have := ds_in g u d (ho.mem_iff.1 hd); omega) os.length (Nat.le_refl _) j hj
    exact this.trans (hc j hj).symm
  · rw [ringM_stay ho x e hd]
    exact h.2.2 u (by omega) d hd
theorem GL_has {g : List (List Int)} (hg : graphB g = true) {m : List Int} (hm : m.length = 2 * g.length) (ho : ∀ v, ∃ os ∈ ord7 (ds g v), os.Perm (ds g v) ∧ ∀ j, j < os.length → m.getD (os.getD j 0).toNat 0 = os.getD ((j + 1) % os.length) 0) : ∀ c v x, v + c = 7 → x.length = 2 * g.length → AG g v x m → genN m ∈ GL (fun v => ord7 (ds g v)) c v x
  | 0, v, x, hv, hx, h => by
    have : v = 7 := by omega
    subst this
    rw [h.all hg]
    simp [GL]
  | c + 1, v, x, hv, hx, h => by
    obtain ⟨os, hos, hp, hc⟩ := ho v
    simp only [GL]
    exact List.mem_flatMap.2 ⟨os, hos, GL_has hg hm ho c (v + 1) (ringM x os) (by omega) (by rw [ringM_len]; exact hx) (ringM_ag hx hm h hp hc)⟩
/-- the genera of a graph's rotations -/
noncomputable def gens (g : List (List Int)) : List Int := GL (fun v => ord7 (ds g v)) 7 0 (List.replicate (2 * g.length) 0)
theorem Rot.gen {g : List (List Int)} (hg : graphB g = true) {m : List Int} (R : Rot g m) : genN m ∈ gens g :=
  GL_has hg R.len (fun v => R.order hg v) 7 0 _ rfl (by simp) ⟨by simp, R.len, fun u hu => by omega⟩
/-! ### the first rotation -/
theorem first_len {g : List (List Int)} : (firstK g 7).length = 2 * g.length := firstK_len g 7
theorem first_at {g : List (List Int)} : ∀ n u, u < n → ∀ j, j < (ds g u).length → (firstK g n).getD ((ds g u).getD j 0).toNat 0 = (ds g u).getD ((j + 1) % (ds g u).length) 0
  | 0, _, h, _, _ => by omega
  | n + 1, u, hu, j, hj => by
    rw [firstK_succ]
    by_cases e : u = n
    · subst e
      exact ringK_at (x := firstK g u) (ds_nodup g u) (fun d hd => by have := ds_in g u d hd; rw [firstK_len]; omega) _ (Nat.le_refl _) j hj
    · have hm : (ds g u).getD j 0 ∈ ds g u := by rw [show (ds g u).getD j 0 = (ds g u)[j] by simp [hj]]; exact List.getElem_mem hj
      have := ringM_stay (g := g) (v := n) (os := ds g n) (.refl _) (firstK g n) e hm
      exact this.trans (first_at n u (by omega) j hj)
theorem first_gen {g : List (List Int)} (hg : graphB g = true) : genN (firstK g 7) ∈ gens g := by
  refine GL_has hg (firstK_len g 7) (fun v => ⟨ds g v, ?_, .refl _, ?_⟩) 7 0 _ rfl (by simp) ⟨by simp, firstK_len g 7, fun u hu => by omega⟩
  · cases hds : ds g v with
    | nil => simp [ord7]
    | cons a r =>
      have nd := ds_nodup g v
      rw [hds] at nd
      exact ((ord7_is nd).2 _).2 ⟨r, rfl, .refl _⟩
  · intro j hj
    by_cases hv : v < 7
    · exact first_at 7 v hv j hj
    · exfalso
      have hm : (ds g v).getD j 0 ∈ ds g v := by rw [show (ds g v).getD j 0 = (ds g v)[j] by simp [hj]]; exact List.getElem_mem hj
      obtain ⟨x, hx, e, _⟩ := (ds_iff g v _).1 hm
      obtain ⟨u, hu, hu2⟩ := ds_all hg x hx
      rw [e] at hm
      have := ds_apart g hm hu2
      omega

/-- the first place that holds more than nothing -/
def leastF : Nat → List Int → Int
  | _, [] => -1
  | i, x :: r => if x > 0 then (i : Int) else leastF (i + 1) r

/-! ### how many leaves -/
theorem insA_len (x : Int) (k : Nat) : ∀ (out : List (List Int)), (∀ o ∈ out, o.length = k) → (insA x out).length = out.length * k ∧ ∀ o ∈ insA x out, o.length = k + 1
  | [], _ => by simp [insA]
  | o :: out, h => by
    have ih := insA_len x k out (fun p hp => h p (List.mem_cons_of_mem _ hp))
    have ho := h o List.mem_cons_self
    have e : insA x (o :: out) = insO x o 1 o.length ++ insA x out := rfl
    rw [e]
    refine ⟨by rw [List.length_append, insO_len, ih.1, ho, List.length_cons, Nat.add_mul]; omega, fun p hp => ?_⟩
    rcases List.mem_append.1 hp with hp | hp
    · obtain ⟨i, hi, rfl⟩ := (mem_insO x o 1 _ p).1 hp
      simp only [List.length_append, List.length_take, List.length_drop, List.length_cons, List.length_nil]; omega
    · exact ih.2 p hp
theorem insFc_len : ∀ (r : List Int) (out : List (List Int)) (k : Nat), (∀ o ∈ out, o.length = k) → ((r.foldl (fun out x => insA x out) out).length : Int) = out.length * rise k r.length
  | [], out, k, _ => by simp [rise]
  | x :: r, out, k, h => by
    have a := insA_len x k out h
    rw [List.foldl_cons, insFc_len r _ (k + 1) a.2, a.1, List.length_cons, rise, Int.natCast_mul, Int.mul_assoc]
theorem ord7_len : ∀ (l : List Int), ((ord7 l).length : Int) = rise 2 (l.length - 2)
  | [] => rfl
  | [a] => rfl
  | a :: b :: r => by
    have := insFc_len (b :: r) [[a]] 1 (by simp)
    unfold ord7
    rw [this]
    simp [rise]
def prG (O : Nat → List (List Int)) : Nat → Nat → Int
  | 0, _ => 1
  | c + 1, v => ((O v).length : Int) * prG O c (v + 1)
theorem flat_len {α β : Type} {f : α → List β} {n : Int} : ∀ (l : List α), (∀ x ∈ l, ((f x).length : Int) = n) → ((l.flatMap f).length : Int) = l.length * n
  | [], _ => by simp
  | x :: l, h => by
    rw [List.flatMap_cons, List.length_append, Int.natCast_add, h x List.mem_cons_self, flat_len l fun y hy => h y (List.mem_cons_of_mem _ hy), List.length_cons]
    rw [Int.natCast_add, Int.add_mul]; omega
theorem GL_len (O : Nat → List (List Int)) : ∀ c v m, ((GL O c v m).length : Int) = prG O c v
  | 0, _, _ => rfl
  | c + 1, v, m => by
    simp only [GL, prG]
    exact flat_len _ fun os _ => GL_len O c (v + 1) _
theorem gens_len {g : List (List Int)} (hg : graphB g = true) : ((gens g).length : Int) = rotM g := by
  have G := graphB_of hg
  have e : prodM (degM g) = prG (fun v => ord7 (ds g v)) 7 0 := by
    have d : degM g = [(degN ((0 : Nat) : Int) g : Int), (degN ((1 : Nat) : Int) g : Int), (degN ((2 : Nat) : Int) g : Int), (degN ((3 : Nat) : Int) g : Int), (degN ((4 : Nat) : Int) g : Int), (degN ((5 : Nat) : Int) g : Int), (degN ((6 : Nat) : Int) g : Int)] := by
      unfold degM; rw [if_pos hg]; rfl
    have q : ∀ v : Nat, ((ord7 (ds g v)).length : Int) = rise 2 ((degN (v : Int) g : Int) - 2).toNat := fun v => by
      rw [ord7_len]
      have : (ds g v).length = degN (v : Int) g := dartsF_len (v : Int) g 0
      rw [this, show ((degN (v : Int) g : Int) - 2).toNat = degN (v : Int) g - 2 by omega]
    rw [d]
    simp only [prodM, prG, q]
  have b := prod_bd ((List.range 7).map fun v : Nat => degN (v : Int) g) (fun d hd => by
    obtain ⟨v, _, rfl⟩ := List.mem_map.1 hd
    have := degN_edges (v : Int) g G.1; omega)
  rw [degN_sum g G.1, List.map_map] at b
  have dm : degM g = (List.range 7).map ((fun d : Nat => (d : Int)) ∘ fun v : Nat => degN (v : Int) g) := by unfold degM; rw [if_pos hg]; rfl
  rw [← dm] at b
  have p : (4 : Int) ^ (2 * g.length) ≤ 4 ^ 20 := by
    have : (4 : Nat) ^ (2 * g.length) ≤ 4 ^ 20 := Nat.pow_le_pow_right (by omega) (by omega)
    exact_mod_cast this
  have p2 : (4 : Int) ^ 20 = 1099511627776 := by decide
  unfold rotM gens
  rw [if_pos hg, GL_len, ← e]
  unfold wrap64
  omega
theorem fold_bump : ∀ (l row : List Int) (B : Int), (∀ n ∈ l, 0 ≤ n ∧ n ≤ 100) → row.length ≤ 101 → (∀ i, 0 ≤ row.getD i 0 ∧ row.getD i 0 ≤ B) → B + l.length ≤ 1000000 → (∀ i : Nat, (l.foldl bumpT row).getD i 0 = row.getD i 0 + (l.countP fun n => decide (n = (i : Int)) : Nat)) ∧ (l.foldl bumpT row).length ≤ 101
  | [], row, B, _, hl, _, _ => ⟨fun i => by simp, hl⟩
  | n :: l, row, B, hn, hl, hr, hB => by
    have b := hn n List.mem_cons_self
    rw [List.length_cons] at hB
    have g : ∀ i : Nat, (bumpT row n).getD i 0 = row.getD i 0 + (if n = (i : Int) then 1 else 0) := fun i => by
      rw [bumpT_get]
      have := hr i
      by_cases e : i = n.toNat
      · rw [if_pos e, if_pos (by omega), w64 (by omega) (by omega)]
      · rw [if_neg e, if_neg (by omega)]; omega
    have ih := fold_bump l (bumpT row n) (B + 1) (fun m hm => hn m (List.mem_cons_of_mem _ hm)) (by rw [bumpT_len]; omega) (fun i => by
      rw [g]; have := hr i; split <;> omega) (by omega)
    refine ⟨fun i => ?_, ih.2⟩
    rw [List.foldl_cons, ih.1 i, g i, List.countP_cons]
    by_cases e : n = (i : Int)
    · simp [e]; omega
    · simp [e]
theorem row_count {g : List (List Int)} (hg : graphB g = true) (hr : rotM g ≤ 2000) (hb : ∀ n ∈ gens g, 0 ≤ n ∧ n ≤ 100) : (∀ i : Nat, (rowM' g).getD i 0 = ((gens g).countP fun n => decide (n = (i : Int)) : Nat)) ∧ (rowM' g).length ≤ 101 := by
  have hl := gens_len hg
  have := fold_bump (gens g) [] 0 hb (by simp) (fun i => by simp) (by omega)
  unfold rowM'
  rw [if_pos ⟨hg, hr⟩]
  exact ⟨fun i => by rw [show rowG ord7 g = (gens g).foldl bumpT [] from rfl, this.1 i]; simp, this.2⟩
theorem gens_bd {g : List (List Int)} (hg : graphB g = true) : ∀ c v m, v + c = 7 → PV g v m → ∀ n ∈ GL (fun v => ord7 (ds g v)) c v m, 0 ≤ n ∧ n ≤ 100
  | 0, v, m, hv, h, n, hn => by
    have : v = 7 := by omega
    subst this
    have b := leaf_bd hg h
    simp only [GL, List.mem_singleton] at hn
    subst hn; exact ⟨b.2.2.2.1, b.2.2.2.2⟩
  | c + 1, v, m, hv, h, n, hn => by
    simp only [GL] at hn
    obtain ⟨os, ho, hn⟩ := List.mem_flatMap.1 hn
    exact gens_bd hg c (v + 1) _ (by omega) (h.ring (ord7_mem v os ho)) n hn
theorem gens_bd0 {g : List (List Int)} (hg : graphB g = true) : ∀ n ∈ gens g, 0 ≤ n ∧ n ≤ 100 := gens_bd hg 7 0 _ rfl (PV_zero g)
/-- the sum of what is counted is the number of all -/
theorem sum_count : ∀ (L : List Int) (row : List Int), (∀ n ∈ L, 0 ≤ n ∧ n < (row.length : Int)) → (∀ i : Nat, row.getD i 0 = (L.countP fun n => decide (n = (i : Int)) : Nat)) → row.sum = (L.length : Int) := by
  intro L
  induction L with
  | nil =>
    intro row _ h
    have : ∀ (row : List Int), (∀ i : Nat, row.getD i 0 = 0) → row.sum = 0 := by
      intro row
      induction row with
      | nil => intro _; rfl
      | cons x r ih =>
        intro h
        have a := h 0
        simp at a
        rw [List.sum_cons, a, ih (fun i => by have := h (i + 1); simpa using this)]; rfl
    rw [this row (fun i => by rw [h i]; simp)]; rfl
  | cons n L ih =>
    intro row hb h
    have b := hb n List.mem_cons_self
    have hlt : n.toNat < row.length := by omega
    have ih' := ih (row.set n.toNat (row.getD n.toNat 0 - 1)) (fun m hm => by rw [List.length_set]; exact hb m (List.mem_cons_of_mem _ hm)) (fun i => by
      rw [List.getD_eq_getElem?_getD, List.getElem?_set]
      have hi := h i
      rw [List.countP_cons] at hi
      by_cases e : n.toNat = i
      · subst e
        have en : ((n.toNat : Nat) : Int) = n := by omega
        rw [if_pos rfl, if_pos hlt, Option.getD_some, hi, en]
        simp only [decide_true, if_true]; omega
      · rw [if_neg e, ← List.getD_eq_getElem?_getD, hi]
        have : ¬ n = (i : Int) := by omega
        simp [this])
    have ss : ∀ (row : List Int) (k : Nat) (y : Int), k < row.length → (row.set k y).sum = row.sum - row.getD k 0 + y := by
      intro row
      induction row with
      | nil => intro k y hk; simp at hk
      | cons x r ih =>
        intro k y hk
        match k with
        | 0 => simp; omega
        | k + 1 =>
          have := ih k y (by simpa using hk)
          simp only [List.set_cons_succ, List.sum_cons, List.getD_cons_succ]
          rw [this]; omega
    rw [ss row _ _ hlt] at ih'
    rw [List.length_cons]; omega
theorem leastF_le : ∀ (row : List Int) (s i : Nat), 0 < row.getD i 0 → leastF s row ≤ (s + i : Nat) ∧ (s : Int) ≤ leastF s row
  | [], s, i, h => by simp at h
  | x :: r, s, i, h => by
    unfold leastF
    by_cases hx : x > 0
    · rw [if_pos hx]; omega
    · rw [if_neg hx]
      match i, h with
      | 0, h => simp at h; omega
      | i + 1, h =>
        have := leastF_le r (s + 1) i (by simpa using h)
        omega
theorem mem_count {L : List Int} {n : Int} (h : n ∈ L) : 0 < L.countP fun m => decide (m = n) := List.countP_pos_iff.2 ⟨n, h, by simp⟩
theorem row_pos {g : List (List Int)} (hg : graphB g = true) (hr : rotM g ≤ 2000) {n : Int} (h : n ∈ gens g) : leastF 0 (rowM' g) ≤ n ∧ 0 ≤ leastF 0 (rowM' g) := by
  have c := row_count hg hr (gens_bd0 hg)
  have b := gens_bd0 hg n h
  have k := c.1 n.toNat
  have m := mem_count h
  have e : ((n.toNat : Nat) : Int) = n := by omega
  rw [e] at k
  have := leastF_le (rowM' g) 0 n.toNat (by omega)
  omega
theorem row_sum {g : List (List Int)} (hg : graphB g = true) (hr : rotM g ≤ 2000) : (rowM' g).sum = rotM g := by
  have c := row_count hg hr (gens_bd0 hg)
  rw [← gens_len hg]
  refine sum_count (gens g) (rowM' g) (fun n hn => ?_) c.1
  have b := gens_bd0 hg n hn
  refine ⟨b.1, Int.not_le.1 fun k => ?_⟩
  have q := c.1 n.toNat
  have m := mem_count hn
  have e : ((n.toNat : Nat) : Int) = n := by omega
  rw [e, List.getD_eq_getElem?_getD, List.getElem?_eq_none (by omega)] at q
  simp at q
  omega
theorem least_planar {g : List (List Int)} (hg : graphB g = true) (hr : rotM g ≤ 2000) (hp : Planar g) : leastF 0 (rowM' g) = 0 := by
  obtain ⟨m, R, h⟩ := hp
  have a := R.gen hg
  have b := gens_bd0 hg _ a
  have := row_pos hg hr a
  omega

/-! ### the rounds of the first rotation are the vertices -/
theorem first_PV {g : List (List Int)} : ∀ n, PV g n (firstK g n)
  | 0 => PV_zero g
  | n + 1 => by rw [firstK_succ]; exact (first_PV n).ring (.refl _)
theorem first_perm {g : List (List Int)} (hg : graphB g = true) : permB (firstK g 7) = true := (first_PV 7).perm hg
theorem first_one {g : List (List Int)} (hg : graphB g = true) {u : Nat} (hu : u < 7) : ∀ j, j < (ds g u).length → orbR (firstK g 7) ((ds g u).getD 0 0).toNat ((ds g u).getD j 0).toNat
  | 0, _ => .refl _
  | j + 1, hj => by
    have ih := first_one hg hu j (by omega)
    have hm : (ds g u).getD j 0 ∈ ds g u := by rw [show (ds g u).getD j 0 = (ds g u)[j] by simp [show j < (ds g u).length by omega]]; exact List.getElem_mem _
    have hd := ds_in g u _ hm
    have e := first_at (g := g) 7 u hu j (by omega)
    rw [Nat.mod_eq_of_lt hj] at e
    refine .trans ih (.rel ⟨by rw [firstK_len]; omega, ?_⟩)
    rw [e]
theorem first_cyc {g : List (List Int)} (hg : graphB g = true) : cycN (firstK g 7) = ((List.range 7).filter fun u => decide (0 < (ds g u).length)).length := by
  have hl := firstK_len g 7
  have G := graphB_of hg
  have lab : ∀ x, x < 2 * g.length → ∃ u, u < 7 ∧ (x : Int) ∈ ds g u ∧ (endF g x).toNat = u ∧ 0 < (ds g u).length := fun x hx => by
    obtain ⟨u, hu, h⟩ := ds_all hg x hx
    obtain ⟨y, hy, e, q⟩ := (ds_iff g u _).1 h
    have : x = y := by omega
    subst this
    exact ⟨u, hu, h, by rw [q]; simp, List.length_pos_of_mem h⟩
  refine Nat.le_antisymm ?_ ?_
  · refine cls_le_lab (fun x => (endF g x).toNat) _ (fun x hx => ?_) (fun x y hx hy e => ?_)
    · obtain ⟨u, hu, _, e, hp⟩ := lab x (by omega)
      exact List.mem_filter.2 ⟨List.mem_range.2 (by omega), decide_eq_true (by rw [e]; exact hp)⟩
    · obtain ⟨u, hu, h1, e1, _⟩ := lab x (by omega)
      obtain ⟨v, hv, h2, e2, _⟩ := lab y (by omega)
      have : u = v := by omega
      subst this
      obtain ⟨i, hi, ei⟩ := List.getElem_of_mem h1
      obtain ⟨j, hj, ej⟩ := List.getElem_of_mem h2
      have a := first_one hg hu i hi
      have b := first_one hg hu j hj
      rw [show (ds g u).getD i 0 = (x : Int) by simp [hi, ei], Int.toNat_natCast] at a
      rw [show (ds g u).getD j 0 = (y : Int) by simp [hj, ej], Int.toNat_natCast] at b
      exact .trans (.symm a) b
  · have inD : ∀ u, 0 < (ds g u).length → (ds g u).getD 0 0 ∈ ds g u := fun u h => by rw [show (ds g u).getD 0 0 = (ds g u)[0] by simp [h]]; exact List.getElem_mem _
    have H := cls_ge (n := (firstK g 7).length) (E := orbR (firstK g 7)) (Con.eqv _) (fun x => (endF g x).toNat) (((List.range 7).filter fun u => decide (0 < (ds g u).length)).map fun u => ((ds g u).getD 0 0).toNat) (fun x hx => by
      obtain ⟨u, hu, rfl⟩ := List.mem_map.1 hx
      have h := of_decide_eq_true (List.mem_filter.1 hu).2
      have := ds_in g u _ (inD u h)
      omega) (by
      rw [List.map_map]
      unfold List.Nodup
      rw [List.pairwise_map]
      refine List.Pairwise.imp_of_mem (fun {u v} hu hv huv e => huv ?_) (List.Pairwise.filter _ List.nodup_range)
      have h1 := of_decide_eq_true (List.mem_filter.1 hu).2
      have h2 := of_decide_eq_true (List.mem_filter.1 hv).2
      obtain ⟨x, hx, ex, qx⟩ := (ds_iff g u _).1 (inD u h1)
      obtain ⟨y, hy, ey, qy⟩ := (ds_iff g v _).1 (inD v h2)
      simp only [Function.comp, ex, ey, Int.toNat_natCast, qx, qy] at e
      exact e) (fun x y k => Con.least (E := fun x y => (endF g x).toNat = (endF g y).toNat) ⟨fun _ => rfl, fun h => h.symm, fun h k => h.trans k⟩ (fun a b hab => by
      have ha : a < 2 * g.length := by have := hab.1; omega
      obtain ⟨u, hu, h1, e1, _⟩ := lab a ha
      have h2 := ((first_PV 7).2 u hu).1 _ h1
      rw [Int.toNat_natCast] at h2
      obtain ⟨y, hy, ey, qy⟩ := (ds_iff g u _).1 h2
      have hb : b = y := by rw [hab.2, ey]; simp
      rw [e1, hb, qy]; simp) k)
    rwa [List.length_map] at H
theorem points_is {g : List (List Int)} (hg : graphB g = true) : (degM g).countP (fun d => decide (d > 0)) = ((List.range 7).filter fun u => decide (0 < (ds g u).length)).length := by
  unfold degM
  rw [if_pos hg, List.countP_map, List.countP_eq_length_filter]
  congr 1
  refine List.filter_congr fun u _ => ?_
  have : (ds g u).length = degN (u : Int) g := dartsF_len (u : Int) g 0
  rw [this]
  show decide ((degN (u : Int) g : Int) > 0) = _
  congr 1
  exact propext (by omega)
theorem total_deg {g : List (List Int)} (hg : graphB g = true) : (degM g).sum = 2 * (g.length : Int) := by
  have h := degN_sum g (graphB_of hg).1
  have c : ∀ l : List Nat, (l.map fun n : Nat => (n : Int)).sum = ((l.sum : Nat) : Int) := by
    intro l
    induction l with
    | nil => rfl
    | cons a l ih => simp only [List.map_cons, List.sum_cons]; rw [ih]; omega
  unfold degM
  rw [if_pos hg]
  have := c ((List.range 7).map fun v : Nat => degN (v : Int) g)
  rw [List.map_map, h] at this
  have e : ((fun n : Nat => (n : Int)) ∘ fun v : Nat => degN (v : Int) g) = fun v : Nat => (degN (v : Int) g : Int) := rfl
  rw [e] at this
  omega

/-- the pieces of s between the bytes c, from i on, the running piece begun at st; n bytes are left -/
def spM (s : ByteArray) (c : Int) : Nat → Nat → Nat → List ByteArray
  | 0, st, i => [s.extract st i]
  | n + 1, st, i => if bt s (i : Int) = c then s.extract st i :: spM s c n (i + 1) (i + 1) else spM s c n st (i + 1)
def splitM (s : ByteArray) (c : Int) : List ByteArray := spM s c s.size 0 0

def rightM (g : List (List Int)) : List (List Int) := if graphB g = true then g else []
theorem edge_all {g : List (List Int)} (h : graphB g = true) : g.length ≤ 10 ∧ ∀ r ∈ g, r.length ≤ 2 := by
  simp [graphB] at h
  exact ⟨by omega, fun r hr => by have := edge_len (h.1 r hr); omega⟩
theorem spM_len (s : ByteArray) (c : Int) : ∀ (n st i : Nat), (spM s c n st i).length ≤ n + 1
  | 0, _, _ => by simp [spM]
  | n + 1, st, i => by
    simp only [spM]
    split
    · have := spM_len s c n (i + 1) (i + 1); simp; omega
    · have := spM_len s c n st (i + 1); omega
/-- pieces of two bytes each: their number tells the length -/
theorem spM_two (s : ByteArray) (c : Int) : ∀ (n st i : Nat), st ≤ i → i + n = s.size → (∀ p ∈ spM s c n st i, p.size = 2) → 3 * (spM s c n st i).length = n + (i - st) + 1
  | 0, st, i, h1, h2, h => by
    have := h (s.extract st i) (by simp [spM])
    simp only [ByteArray.size_extract] at this
    simp only [spM, List.length_cons, List.length_nil]; omega
  | n + 1, st, i, h1, h2, h => by
    simp only [spM] at h ⊢
    split
    · rename_i hc
      rw [if_pos hc] at h
      have a := h (s.extract st i) (by simp)
      simp only [ByteArray.size_extract] at a
      have b := spM_two s c n (i + 1) (i + 1) (by omega) (by omega) (fun p hp => h p (by simp [hp]))
      simp only [List.length_cons]; omega
    · rename_i hc
      rw [if_neg hc] at h
      have b := spM_two s c n st (i + 1) (by omega) (by omega) h
      omega
def pairOf (p : ByteArray) : List Int := [bt p 0 - 48, bt p 1 - 48]
def parseL (ps : List ByteArray) : List (List Int) × Bool :=
  if ps.all (fun p => decide (p.size = 2)) = true then (if graphB (ps.map pairOf) = true then (ps.map pairOf, true) else ([], false)) else ([], false)
theorem bt_bd (p : ByteArray) (i : Int) : 0 ≤ bt p i ∧ bt p i ≤ 255 := by
  unfold bt
  split
  · rename_i h
    have := (p[i.toNat]'h).toNat_lt
    omega
  · omega
theorem parse_long (s : ByteArray) (c : Int) (h : s.size > 30) : parseL (splitM s c) = ([], false) := by
  unfold parseL
  by_cases h1 : (splitM s c).all (fun p => decide (p.size = 2)) = true
  · rw [if_pos h1]
    have a : ∀ p ∈ splitM s c, p.size = 2 := by simpa [List.all_eq_true] using h1
    have b := spM_two s c s.size 0 0 (by omega) (by omega) a
    rw [if_neg]
    intro g
    have := (edge_all g).1
    rw [List.length_map] at this
    unfold splitM at this
    omega
  · rw [if_neg h1]
theorem rdOf_app {α : Type} (d : α) (pre : List α) (x : α) (suf : List α) : rdOf d (pre ++ x :: suf) (pre.length : Int) = x := by
  simp [rdOf]

/-- the decimal numeral -/
def fmtM (n : Int) : ByteArray := ⟨(Lib.itoa n).toArray⟩
def bs (l : List UInt8) : ByteArray := ⟨l.toArray⟩
theorem bs_app (a b : List UInt8) : bs a ++ bs b = bs (a ++ b) := by
  apply ByteArray.ext
  simp [bs]
theorem bs_size (a : List UInt8) : (bs a).size = a.length := by simp [bs, ByteArray.size]
theorem digs_len (d : Nat) : ∀ u, 0 < u → u < 10 ^ d → (Lib.decDigits u).length ≤ d := by
  induction d with
  | zero => intro u h0 h; simp at h; omega
  | succ d ih =>
    intro u h0 h
    rw [Lib.decDigits]
    by_cases c : u < 10
    · rw [dif_pos c]; simp
    · rw [dif_neg c]
      have := ih (u / 10) (by omega) (by rw [Nat.pow_succ] at h; omega)
      simp; omega
theorem fmtM_size (n : Int) (h1 : -9223372036854775808 ≤ n) (h2 : n ≤ 9223372036854775807) : (fmtM n).size ≤ 21 := by
  have a : ∀ u : Nat, u < 10 ^ 20 → (Lib.decDigits u).length ≤ 20 := by
    intro u hu
    by_cases h : u = 0
    · subst h; rw [Lib.decDigits]; simp
    · exact digs_len 20 u (by omega) hu
  show (bs (Lib.itoa n)).size ≤ 21
  rw [bs_size]; unfold Lib.itoa
  split
  · have := a n.natAbs (by omega); simp; omega
  · have := a n.toNat (by omega); omega
theorem wrap_neg (a : Int) (h : -100 ≤ a ∧ a ≤ 100) : wrap64 (-a) = -a := w64 (by omega) (by omega)

def byF (l : List Int) : List UInt8 := l.map fun n => UInt8.ofNat n.toNat
theorem strOf_byF (l : List Int) : strOfNums l = bs (byF l) := rfl
theorem byF_bytes (s : ByteArray) : byF (bytesOf s) = s.data.toList := by
  unfold byF bytesOf
  rw [List.map_map]
  have : ((fun n : Int => UInt8.ofNat n.toNat) ∘ fun b : UInt8 => (b.toNat : Int)) = id := by
    funext b; simp
  first
    | (rw [this]; simp)
    | simp
theorem bytesOf_len (s : ByteArray) : (bytesOf s).length = s.size := bytesOf_length s
/-- what is joined from a list on: ahead of all but the first the separator -/
def jt (sep : ByteArray) : Bool → List ByteArray → List Int
  | _, [] => []
  | first, x :: r => (if first = true then [] else bytesOf sep) ++ (bytesOf x ++ jt sep false r)
def joinM (xs : List ByteArray) (sep : ByteArray) : ByteArray := bs (Lib.join (xs.map (·.data.toList)) sep.data.toList)
theorem jt_tail (sep : ByteArray) : ∀ r : List ByteArray, byF (jt sep false r) = Lib.joinTail sep.data.toList (r.map (·.data.toList))
  | [] => rfl
  | x :: r => by
    have e : byF (jt sep false (x :: r)) = byF (bytesOf sep) ++ (byF (bytesOf x) ++ byF (jt sep false r)) := by simp [jt, byF]
    rw [e, byF_bytes, byF_bytes, jt_tail sep r]
    simp [Lib.joinTail]
theorem jt_join (xs : List ByteArray) (sep : ByteArray) : strOfNums (jt sep true xs) = joinM xs sep := by
  rw [strOf_byF]
  unfold joinM
  congr 1
  cases xs with
  | nil => rfl
  | cons x r =>
    have e : byF (jt sep true (x :: r)) = byF (bytesOf x) ++ byF (jt sep false r) := by simp [jt, byF]
    rw [e, byF_bytes, jt_tail, List.map_cons, Lib.join_cons]
theorem jt_len (sep : ByteArray) (b : Nat) (hs : sep.size ≤ b) : ∀ (f : Bool) (xs : List ByteArray), (∀ x ∈ xs, x.size ≤ b) → (jt sep f xs).length ≤ 2 * b * xs.length
  | _, [], _ => by simp [jt]
  | f, x :: r, h => by
    have i := jt_len sep b hs false r (fun y hy => h y (by simp [hy]))
    have hx := h x (by simp)
    simp only [jt, List.length_append, List.length_cons, bytesOf_len]
    have : (if f = true then [] else bytesOf sep).length ≤ b := by
      split
      · simp
      · rw [bytesOf_len]; exact hs
    rw [Nat.mul_add]; omega
theorem join_len (xs : List ByteArray) (sep : ByteArray) (b : Nat) (hs : sep.size ≤ b) (h : ∀ x ∈ xs, x.size ≤ b) : (Lib.join (xs.map (·.data.toList)) sep.data.toList).length ≤ 2 * b * xs.length := by
  have e := congrArg (fun s : ByteArray => s.data.toList.length) (jt_join xs sep)
  have l := jt_len sep b hs true xs h
  simp only [strOfNums, joinM, bs, List.length_map] at e
  omega
theorem rdOf_drop {xs : List ByteArray} {i : Nat} {x : ByteArray} {r : List ByteArray} (h : xs.drop i = x :: r) : i < xs.length ∧ rdOf ByteArray.empty xs (i : Int) = x ∧ xs.drop (i + 1) = r := by
  have hl : i < xs.length := by
    rcases Nat.lt_or_ge i xs.length with g | g
    · exact g
    · rw [List.drop_eq_nil_of_le g] at h; cases h
  rw [List.drop_eq_getElem_cons hl] at h
  injection h with h1 h2
  exact ⟨hl, by simp [rdOf, hl, h1], h2⟩

def edgeT (e : List Int) : ByteArray := fmtM (rd e 0) ++ fmtM (rd e 1)
def graphTextM (g : List (List Int)) : ByteArray := if graphB g = true then joinM (g.map edgeT) (⟨#[32]⟩ : ByteArray) else ⟨#[]⟩
theorem edge_bd {e : List Int} (h : edgeB e = true) : e.length = 2 ∧ 0 ≤ rd e 0 ∧ rd e 0 ≤ 6 ∧ 0 ≤ rd e 1 ∧ rd e 1 ≤ 6 := by
  obtain ⟨a, b, rfl⟩ := two_of (edge_len h)
  simp only [edgeB, Bool.and_eq_true, decide_eq_true_eq] at h
  exact ⟨rfl, h.1.1, h.1.2, h.2.1.1, h.2.1.2⟩
theorem edgeT_size {e : List Int} (h : edgeB e = true) : (edgeT e).size ≤ 50 := by
  obtain ⟨_, b1, b2, b3, b4⟩ := edge_bd h
  have a1 := fmtM_size (rd e 0) (by omega) (by omega)
  have a2 := fmtM_size (rd e 1) (by omega) (by omega)
  unfold edgeT
  rw [ByteArray.size_append]; omega
theorem rdL_drop {xs : List (List Int)} {i : Nat} {x : List Int} {r : List (List Int)} (h : xs.drop i = x :: r) : i < xs.length ∧ rd_L2 xs (i : Int) = x ∧ xs.drop (i + 1) = r := by
  have hl : i < xs.length := by
    rcases Nat.lt_or_ge i xs.length with g | g
    · exact g
    · rw [List.drop_eq_nil_of_le g] at h; cases h
  rw [List.drop_eq_getElem_cons hl] at h
  injection h with h1 h2
  exact ⟨hl, by simp [rd_L2, hl, h1], h2⟩
theorem graph_parts {g : List (List Int)} (h : graphB g = true) : (∀ e ∈ g, edgeB e = true) ∧ g.length ≤ 10 := by
  simp only [graphB, Bool.and_eq_true, List.all_eq_true, decide_eq_true_eq] at h
  exact ⟨h.1, h.2.2⟩
theorem map_sizes {g : List (List Int)} (h : ∀ e ∈ g, edgeB e = true) : ∀ x ∈ g.map edgeT, x.size ≤ 1000 := by
  intro x hx
  obtain ⟨e, he, rfl⟩ := List.mem_map.1 hx
  have := edgeT_size (h e he); omega

/-! ### a graph's text is read back -/
theorem bt_bs (l : List UInt8) (i : Nat) : bt (bs l) (i : Int) = ((l.getD i 0).toNat : Int) := by
  unfold bt
  have hs : (bs l).size = l.length := bs_size l
  by_cases h : i < l.length
  · rw [dif_pos (by rw [hs]; simpa using h)]
    have : (bs l)[(i : Int).toNat]'(by rw [hs]; simpa using h) = l[i] := by
      simp [bs, ByteArray.getElem_eq_getElem_data]
    rw [this]
    simp [h]
  · rw [dif_neg (by rw [hs]; simpa using h)]
    simp [List.getElem?_eq_none (show l.length ≤ i by omega)]
theorem ext_bs (l : List UInt8) (i j : Nat) : (bs l).extract i j = bs ((l.take j).drop i) := by
  apply ByteArray.ext
  simp [bs, ByteArray.data_extract, List.drop_take]
/-- the bytes of a graph's text -/
def txt : List (List UInt8) → List UInt8
  | [] => []
  | [e] => e
  | e :: f :: r => e ++ 32 :: txt (f :: r)
theorem sp_txt : ∀ (es : List (List UInt8)) (pre : List UInt8), es ≠ [] → (∀ e ∈ es, e.length = 2 ∧ ∀ b ∈ e, b ≠ 32) → spM (bs (pre ++ txt es)) 32 (txt es).length pre.length pre.length = es.map bs
  | [], _, h, _ => absurd rfl h
  | e :: r, pre, _, h => by
    have he := h e List.mem_cons_self
    obtain ⟨a, b, rfl⟩ : ∃ a b, e = [a, b] := by
      match e, he.1 with
      | [a, b], _ => exact ⟨a, b, rfl⟩
    have ha : a ≠ 32 := he.2 a (by simp)
    have hb : b ≠ 32 := he.2 b (by simp)
    have n32 : ∀ c : UInt8, c ≠ 32 → ¬ ((c.toNat : Int) = 32) := fun c hc e => hc (by
      apply UInt8.toNat_inj.1
      have : c.toNat = 32 := by omega
      rw [this]; rfl)
    cases r with
    | nil =>
      show spM _ 32 2 _ _ = _
      have e1 : txt [[a, b]] = [a, b] := rfl
      rw [e1]
      simp only [spM]
      rw [bt_bs, show (pre ++ [a, b]).getD pre.length 0 = a by simp, if_neg (n32 a ha)]
      have q := bt_bs (pre ++ [a, b]) (pre.length + 1)
      rw [q, show (pre ++ [a, b]).getD (pre.length + 1) 0 = b by simp, if_neg (n32 b hb), ext_bs]
      have : List.drop pre.length (List.take (pre.length + 1 + 1) (pre ++ [a, b])) = [a, b] := by
        rw [List.take_of_length_le (by simp)]; simp
      rw [this]; rfl
    | cons f r =>
      have e1 : txt ([a, b] :: f :: r) = [a, b] ++ 32 :: txt (f :: r) := rfl
      have ih := sp_txt (f :: r) (pre ++ [a, b, 32]) (by simp) (fun x hx => h x (List.mem_cons_of_mem _ hx))
      have e2 : pre ++ txt ([a, b] :: f :: r) = (pre ++ [a, b, 32]) ++ txt (f :: r) := by rw [e1]; simp
      have el : (txt ([a, b] :: f :: r)).length = (txt (f :: r)).length + 1 + 1 + 1 := by rw [e1]; simp
      rw [el]
      simp only [spM]
      generalize htl : txt (f :: r) = tl at *
      rw [e2]
      have g0 : ((pre ++ [a, b, 32]) ++ tl).getD pre.length 0 = a := by simp [List.append_assoc]
      have g1 : ((pre ++ [a, b, 32]) ++ tl).getD (pre.length + 1) 0 = b := by simp [List.append_assoc]
      have g2 : ((pre ++ [a, b, 32]) ++ tl).getD (pre.length + 1 + 1) 0 = 32 := by
        rw [List.append_assoc, List.getD_eq_getElem?_getD, List.getElem?_append_right (by omega), show pre.length + 1 + 1 - pre.length = 2 by omega]; rfl
      rw [bt_bs, g0, if_neg (n32 a ha), bt_bs _ (pre.length + 1), g1, if_neg (n32 b hb), bt_bs _ (pre.length + 1 + 1), g2, if_pos (by decide), ext_bs]
      have e3 : List.drop pre.length (List.take (pre.length + 1 + 1) ((pre ++ [a, b, 32]) ++ tl)) = [a, b] := by
        rw [List.append_assoc, List.take_append, List.take_of_length_le (by omega), List.drop_left' rfl]
        have : pre.length + 1 + 1 - pre.length = 2 := by omega
        rw [this]; rfl
      rw [e3]
      have e4 : (pre ++ [a, b, 32]).length = pre.length + 1 + 1 + 1 := by simp
      rw [e4] at ih
      rw [ih, List.map_cons, List.map_cons, List.map_cons]
theorem dig_one (n : Nat) (h : n < 10) : Lib.decDigits n = [UInt8.ofNat (48 + n)] := by
  rw [Lib.decDigits, dif_pos h]
theorem edge_txt {e : List Int} (h : edgeB e = true) : ∃ a b : Nat, a ≤ 6 ∧ b ≤ 6 ∧ e = [(a : Int), (b : Int)] ∧ edgeT e = bs [UInt8.ofNat (48 + a), UInt8.ofNat (48 + b)] := by
  obtain ⟨a, b, rfl, ha, ha6, hb, hb6, _⟩ := edgeB_of h
  refine ⟨a.toNat, b.toNat, by omega, by omega, by rw [Int.toNat_of_nonneg ha, Int.toNat_of_nonneg hb], ?_⟩
  have f : ∀ n : Int, 0 ≤ n → n ≤ 6 → fmtM n = bs [UInt8.ofNat (48 + n.toNat)] := fun n h0 h6 => by
    unfold fmtM Lib.itoa
    rw [if_neg (by omega), dig_one _ (by omega)]; rfl
  show fmtM a ++ fmtM b = _
  rw [f a ha ha6, f b hb hb6, bs_app]; rfl
theorem read_back {g : List (List Int)} (hg : graphB g = true) : parseL (splitM (graphTextM g) 32) = (g, true) := by
  have G := graphB_of hg
  -- the bytes of each edge
  let by_ : List Int → List UInt8 := fun e => [UInt8.ofNat (48 + (e.getD 0 0).toNat), UInt8.ofNat (48 + (e.getD 1 0).toNat)]
  have hby : ∀ e ∈ g, edgeT e = bs (by_ e) ∧ (∀ b ∈ by_ e, b ≠ 32) ∧ pairOf (bs (by_ e)) = e := fun e he => by
    obtain ⟨a, b, ha, hb, rfl, h⟩ := edge_txt (G.1 e he)
    have t : ∀ n : Nat, n ≤ 6 → (UInt8.ofNat (48 + n)).toNat = 48 + n := by decide
    have q : by_ [(a : Int), (b : Int)] = [UInt8.ofNat (48 + a), UInt8.ofNat (48 + b)] := by simp [by_]
    rw [q]
    refine ⟨h, fun c hc => ?_, ?_⟩
    · have ne : ∀ n : Nat, n ≤ 6 → UInt8.ofNat (48 + n) ≠ 32 := by decide
      simp only [List.mem_cons, List.not_mem_nil, or_false] at hc
      rcases hc with rfl | rfl
      · exact ne a ha
      · exact ne b hb
    · unfold pairOf
      have b0 := bt_bs [UInt8.ofNat (48 + a), UInt8.ofNat (48 + b)] 0
      have b1 := bt_bs [UInt8.ofNat (48 + a), UInt8.ofNat (48 + b)] 1
      have c0 : bt (bs [UInt8.ofNat (48 + a), UInt8.ofNat (48 + b)]) 0 = ((48 + a : Nat) : Int) := by
        have := t a ha
        have b0' : bt (bs [UInt8.ofNat (48 + a), UInt8.ofNat (48 + b)]) 0 = (((UInt8.ofNat (48 + a)).toNat : Nat) : Int) := b0
        omega
      have c1 : bt (bs [UInt8.ofNat (48 + a), UInt8.ofNat (48 + b)]) 1 = ((48 + b : Nat) : Int) := by
        have := t b hb
        have b1' : bt (bs [UInt8.ofNat (48 + a), UInt8.ofNat (48 + b)]) 1 = (((UInt8.ofNat (48 + b)).toNat : Nat) : Int) := b1
        omega
      rw [c0, c1]
      congr 1
      · omega
      · congr 1; omega
  have hjoin : ∀ es : List (List UInt8), Lib.join es [32] = txt es := by
    intro es
    induction es with
    | nil => rfl
    | cons e r ih =>
      cases r with
      | nil => rw [Lib.join_cons]; simp [Lib.joinTail, txt]
      | cons f r =>
        rw [Lib.join_cons] at ih ⊢
        rw [txt, ← ih]
        simp [Lib.joinTail]
  have htext : graphTextM g = bs (txt (g.map by_)) := by
    unfold graphTextM joinM
    rw [if_pos hg, List.map_map]
    have : g.map ((fun x : ByteArray => x.data.toList) ∘ edgeT) = g.map by_ := List.map_congr_left fun e he => by
      show (edgeT e).data.toList = _
      rw [(hby e he).1]; simp [bs]
    rw [this]
    exact congrArg bs (hjoin _)
  have hne : g.map by_ ≠ [] := fun h => by
    have := congrArg List.length h
    simp at this
    have := G.2.1
    simp_all
  have hsp : splitM (graphTextM g) 32 = (g.map by_).map bs := by
    have := sp_txt (g.map by_) [] hne (fun e he => by
      obtain ⟨f, hf, rfl⟩ := List.mem_map.1 he
      exact ⟨rfl, (hby f hf).2.1⟩)
    unfold splitM
    rw [htext, bs_size]
    exact this
  have hmap : ((g.map by_).map bs).map pairOf = g := by
    rw [List.map_map, List.map_map]
    have : g.map ((pairOf ∘ bs) ∘ by_) = g.map id := List.map_congr_left fun e he => (hby e he).2.2
    rw [this, List.map_id]
  rw [hsp]
  unfold parseL
  rw [if_pos (by
    rw [List.all_eq_true]
    intro p hp
    obtain ⟨q, hq, rfl⟩ := List.mem_map.1 hp
    obtain ⟨e, _, rfl⟩ := List.mem_map.1 hq
    rw [bs_size]; rfl), hmap, if_pos hg]

theorem laws_big_no (l : List Int) (h : ¬ (l.length : Int) > 1048576) : laws_big.f l = some false := by
  unfold laws_big.f; rw [decide_eq_false h]

theorem spec_l1In_is (a b c : Int) : spec_l1In.f a b c = some (decide (b ≤ a ∧ a ≤ c)) := by
  unfold spec_l1In.f
  by_cases h : a ≥ b
  · rw [if_pos h]; simp [show b ≤ a from h]
  · rw [if_neg h]; simp; omega

theorem spec_IsGraph_l0 (g : List (List Int)) (hn : g.length < 4611686018427387904) : ∀ (suf pre : List (List Int)), g = pre ++ suf →
    EV (fun k => spec_IsGraph.l0 k g (pre.length : Int)) (suf.all edgeB && decide (1 ≤ g.length ∧ g.length ≤ 10)) := by
  intro suf
  induction suf with
  | nil =>
    intro pre h
    refine EV.step (fun k => by rw [spec_IsGraph.l0]) ?_
    refine EV.neg (by subst h; simp) (EV.by (spec_l1In_is _ _ _) ((EV.now _).eq ?_))
    rw [Bool.eq_iff_iff]; simp; omega
  | cons x suf ih =>
    intro pre h
    have hl : pre.length < 4611686018427387904 := by subst h; simp at hn; omega
    have hlt : (pre.length : Int) < (g.length : Int) := by subst h; exact lt_app ..
    have hx : rd_L2 g (pre.length : Int) = x := by subst h; exact rdL_app ..
    refine EV.step (fun k => by rw [spec_IsGraph.l0]) ?_
    rw [hx, up (x := x) hl]
    refine EV.pos hlt (EV.pos (by omega) (?_))
    by_cases h2 : x.length = 2
    · obtain ⟨a, b, rfl⟩ := two_of h2
      have e0 : rd [a, b] 0 = a := rfl
      have e1 : rd [a, b] 1 = b := rfl
      refine EV.pos rfl (EV.pos (by simp) (EV.by (spec_l1In_is _ _ _) ?_))
      rw [e0]
      by_cases ha : 0 ≤ a ∧ a ≤ 6
      · refine EV.pos (by simpa using ha) (EV.pos (by simp) (EV.by (spec_l1In_is _ _ _) ?_))
        rw [e1]
        by_cases hb : 0 ≤ b ∧ b ≤ 6
        · refine EV.pos (by simpa using hb) ?_
          by_cases hab : a = b
          · exact EV.pos hab ((EV.now _).eq (by simp [edgeB, hab]))
          · exact EV.neg hab ((ih (pre ++ [[a, b]]) (by simp [h])).eq (by simp [edgeB, ha, hb, hab]))
        · exact EV.neg (by simpa using hb) ((EV.now _).eq (by simp [edgeB, hb]))
      · exact EV.neg (by simpa using ha) ((EV.now _).eq (by simp [edgeB, ha]))
    · refine EV.neg (by omega) ((EV.now _).eq ?_)
      have : edgeB x = false := by
        rcases Bool.eq_false_or_eq_true (edgeB x) with h' | h'
        · exact absurd (edge_len h') h2
        · exact h'
      simp [this]
theorem spec_IsGraph_is (g : List (List Int)) (hn : g.length < 4611686018427387904) : EV (fun k => spec_IsGraph.f k g) (graphB g) := spec_IsGraph_l0 g hn g [] rfl

theorem spec_l7Right_is (g : List (List Int)) (hn : g.length < 4611686018427387904) : EV (fun k => spec_l7Right.f k g) (if graphB g = true then g else []) := by
  refine EV.bind (spec_IsGraph_is g hn) ?_
  by_cases h : graphB g = true
  · exact EV.pos h ((EV.now _).eq (by rw [if_pos h]))
  · exact EV.neg h ((EV.now _).eq (by rw [if_neg h]))

/-- the edges from a to b, b below m, from b on: c many -/
def fanM (a : Int) : Nat → Nat → List (List Int)
  | _, 0 => []
  | b, c + 1 => [a, (b : Int)] :: fanM a (b + 1) c
/-- c outer rounds from a on -/
def cmpM (m : Nat) : Nat → Nat → List (List Int)
  | _, 0 => []
  | a, c + 1 => fanM (a : Int) (a + 1) (m - (a + 1)) ++ cmpM m (a + 1) c
theorem fanM_len (a : Int) : ∀ (c b : Nat), (fanM a b c).length = c
  | 0, _ => rfl
  | c + 1, b => by simp [fanM, fanM_len a c]
def capM (n : Int) : Nat := (min n 9).toNat

theorem spec_CompleteGraph_l1 (n : Int) (a : Int) (ha : 0 ≤ a ∧ a < 9) : ∀ (c b : Nat) (acc R : List (List Int)), c = capM n - b → b ≤ 10 → acc.length + c ≤ 1000000 →
    EV (fun k => spec_CompleteGraph.l0 k n (acc ++ fanM a b c) (a + 1)) R → EV (fun k => spec_CompleteGraph.l1 k n acc a (b : Int)) R := by
  have e : wrap64 (a + 1) = a + 1 := w64 (by omega) (by omega)
  intro c
  induction c with
  | zero =>
    intro b acc R h hb hc H
    unfold capM at h
    refine EV.step (fun k => by rw [spec_CompleteGraph.l1]) ?_
    rw [e]
    have H : EV (fun k => spec_CompleteGraph.l0 k n acc (a + 1)) R := by simpa [fanM] using H
    by_cases h1 : (b : Int) < n
    · exact EV.pos h1 (EV.neg (by omega) H)
    · exact EV.neg h1 H
  | succ c ih =>
    intro b acc R h hb hc H
    have hm : b < capM n := by omega
    unfold capM at hm
    refine EV.step (fun k => by rw [spec_CompleteGraph.l1]) ?_
    rw [w64 (x := (b : Int) + 1) (by omega) (by omega)]
    have := ih (b + 1) (acc ++ [[a, (b : Int)]]) R (by omega) (by omega) (by simp; omega) (by simpa [fanM] using H)
    exact EV.pos (by omega) (EV.pos (by omega) (EV.pos (by omega) (by exact_mod_cast this)))
theorem spec_CompleteGraph_l0 (n : Int) : ∀ (c a : Nat) (acc : List (List Int)), c = capM n - a → a ≤ 10 → acc.length ≤ 10 * a →
    EV (fun k => spec_CompleteGraph.l0 k n acc (a : Int)) (rightM (acc ++ cmpM (capM n) a c)) := by
  intro c
  induction c with
  | zero =>
    intro a acc h ha hl
    have fin : EV (fun k => spec_CompleteGraph.j1 k n acc (a : Int) false) (rightM (acc ++ cmpM (capM n) a 0)) := by
      refine EV.step (fun k => by rw [spec_CompleteGraph.j1]) ?_
      refine EV.neg (by simp) (EV.bind (spec_l7Right_is acc (by omega)) ((EV.now _).eq (by simp [cmpM, rightM])))
    unfold capM at h
    refine EV.step (fun k => by rw [spec_CompleteGraph.l0]) ?_
    by_cases h1 : (a : Int) < n
    · rw [show decide ((a : Int) < 9) = false by simp; omega]
      exact EV.pos h1 fin
    · exact EV.neg h1 fin
  | succ c ih =>
    intro a acc h ha hl
    have hm : a < capM n := by omega
    have hm' := hm
    unfold capM at hm'
    refine EV.step (fun k => by rw [spec_CompleteGraph.l0]) ?_
    rw [show decide ((a : Int) < 9) = true by simp; omega]
    refine EV.pos (by omega) ?_
    refine EV.step (fun k => by rw [spec_CompleteGraph.j1]) ?_
    rw [w64 (x := (a : Int) + 1) (by omega) (by omega)]
    refine EV.pos rfl ?_
    have hc9 : capM n ≤ 9 := by unfold capM; omega
    have := ih (a + 1) (acc ++ fanM (a : Int) (a + 1) (capM n - (a + 1))) (by omega) (by omega) (by simp [fanM_len]; omega)
    have := spec_CompleteGraph_l1 n (a : Int) (by omega) (capM n - (a + 1)) (a + 1) acc _ rfl (by omega) (by omega) (by exact_mod_cast this)
    refine EV.congr (fun k => by simp) (this.eq ?_)
    simp [cmpM]
theorem spec_CompleteGraph_is (n : Int) : EV (fun k => spec_CompleteGraph.f k n) (rightM (cmpM (capM n) 0 (capM n))) := by
  have := spec_CompleteGraph_l0 n (capM n) 0 [] (by omega) (by omega) (by simp)
  exact this

/-- c outer rounds from i on: the edges from i to each of a .. a + m - 1 -/
def bipM (a m : Nat) : Nat → Nat → List (List Int)
  | _, 0 => []
  | i, c + 1 => fanM (i : Int) a m ++ bipM a m (i + 1) c
def bipR (a b : Int) : List (List Int) := if 1 ≤ a ∧ a ≤ 7 then rightM (bipM a.toNat (capM b) 0 a.toNat) else []
theorem bip_far : ∀ a, a < 10 → ∀ m, m < 10 → (a = 0 ∨ 8 ≤ a ∨ m = 0 ∨ m = 9) → graphB (bipM a m 0 a) = false := by decide +kernel

theorem spec_BipartiteGraph_l1 (a : Nat) (b : Int) (i : Nat) (ha : a ≤ 9) (hi : i < 9) : ∀ (c j : Nat) (acc R : List (List Int)), c = capM b - j → j ≤ 9 → acc.length + c ≤ 1000000 →
    EV (fun k => spec_BipartiteGraph.l0 k (a : Int) b (acc ++ fanM (i : Int) (a + j) c) ((i : Int) + 1)) R → EV (fun k => spec_BipartiteGraph.l1 k (a : Int) b acc (i : Int) (j : Int)) R := by
  intro c
  induction c with
  | zero =>
    intro j acc R h hj hc H
    have H : EV (fun k => spec_BipartiteGraph.l0 k (a : Int) b acc ((i : Int) + 1)) R := by simpa [fanM] using H
    unfold capM at h
    refine EV.step (fun k => by rw [spec_BipartiteGraph.l1]) ?_
    rw [w64 (x := (i : Int) + 1) (by omega) (by omega)]
    by_cases h1 : (j : Int) < b
    · exact EV.pos h1 (EV.neg (by omega) H)
    · exact EV.neg h1 H
  | succ c ih =>
    intro j acc R h hj hc H
    have hm : j < capM b := by omega
    unfold capM at hm
    refine EV.step (fun k => by rw [spec_BipartiteGraph.l1]) ?_
    rw [w64 (x := (j : Int) + 1) (by omega) (by omega), w64 (x := (a : Int) + (j : Int)) (by omega) (by omega)]
    have := ih (j + 1) (acc ++ [[(i : Int), ((a + j : Nat) : Int)]]) R (by omega) (by omega) (by simp; omega) (by simpa [fanM, Nat.add_assoc] using H)
    exact EV.pos (by omega) (EV.pos (by omega) (EV.pos (by omega) (by simpa using this)))
theorem spec_BipartiteGraph_l0 (a : Nat) (b : Int) (h1 : 1 ≤ a) (h7 : a ≤ 7) : ∀ (c i : Nat) (acc : List (List Int)), c = a - i → i ≤ a → acc.length ≤ 10 * i →
    EV (fun k => spec_BipartiteGraph.l0 k (a : Int) b acc (i : Int)) (rightM (acc ++ bipM a (capM b) i c)) := by
  intro c
  induction c with
  | zero =>
    intro i acc h hi hl
    refine EV.step (fun k => by rw [spec_BipartiteGraph.l0]) ?_
    refine EV.neg (by omega) ?_
    refine EV.step (fun k => by rw [spec_BipartiteGraph.j1]) ?_
    exact EV.neg (by simp) (EV.bind (spec_l7Right_is acc (by omega)) ((EV.now _).eq (by simp [bipM, rightM])))
  | succ c ih =>
    intro i acc h hi hl
    refine EV.step (fun k => by rw [spec_BipartiteGraph.l0]) ?_
    refine EV.pos (by omega) (EV.pos (by omega) (EV.by (spec_l1In_is _ _ _) ?_))
    rw [show decide (1 ≤ (a : Int) ∧ (a : Int) ≤ 7) = true by simp; omega]
    refine EV.step (fun k => by rw [spec_BipartiteGraph.j1]) ?_
    refine EV.pos rfl ?_
    have hc9 : capM b ≤ 9 := by unfold capM; omega
    have := ih (i + 1) (acc ++ fanM (i : Int) a (capM b)) (by omega) (by omega) (by simp [fanM_len]; omega)
    have := spec_BipartiteGraph_l1 a b i (by omega) (by omega) (capM b) 0 acc _ (by omega) (by omega) (by omega) (by exact_mod_cast this)
    refine EV.congr (fun k => by simp) (this.eq ?_)
    simp [bipM]
theorem spec_BipartiteGraph_is (a b : Int) : EV (fun k => spec_BipartiteGraph.f k a b) (bipR a b) := by
  unfold bipR
  by_cases h : 1 ≤ a ∧ a ≤ 7
  · rw [if_pos h]
    obtain ⟨n, rfl⟩ : ∃ n : Nat, a = n := ⟨a.toNat, by omega⟩
    have := spec_BipartiteGraph_l0 n b (by omega) (by omega) n 0 [] (by omega) (by omega) (by simp)
    exact this
  · rw [if_neg h]
    show EV (fun k => spec_BipartiteGraph.l0 k a b [] 0) []
    have no : EV (fun k => spec_BipartiteGraph.j1 k a b [] 0 false) [] := by
      refine EV.step (fun k => by rw [spec_BipartiteGraph.j1]) ?_
      exact EV.neg (by simp) (EV.bind (spec_l7Right_is [] (by simp)) ((EV.now _).eq (by simp)))
    refine EV.step (fun k => by rw [spec_BipartiteGraph.l0]) ?_
    by_cases h1 : 0 < a
    · refine EV.pos h1 (EV.pos (by omega) (EV.by (spec_l1In_is _ _ _) ?_))
      rw [show decide (1 ≤ a ∧ a ≤ 7) = false by simpa using h]
      exact no
    · exact EV.neg h1 no

theorem and255 (x : Int) : 0 ≤ Go.bits .and .i64 x 255 ∧ Go.bits .and .i64 x 255 ≤ 255 := by
  have h : (BitVec.ofInt 64 x &&& BitVec.ofInt 64 255).toNat ≤ 255 := by
    rw [BitVec.toNat_and]; exact Nat.le_trans Nat.and_le_right (by decide)
  have e : Go.bits .and .i64 x 255 = IntKind.i64.wrap (((BitVec.ofInt 64 x &&& BitVec.ofInt 64 255).toNat : Nat) : Int) := rfl
  rw [e, IntKind.wrap_i64]
  omega

theorem spec_l1Byte_is (b : List Int) (i h : Int) (hb : b.length ≤ 1048576) (hi : 0 ≤ i) : ∃ x i' h', spec_l1Byte.f b i h = some (x, i', h') ∧ 0 ≤ x ∧ x ≤ 255 ∧ 0 ≤ i' := by
  unfold spec_l1Byte.f
  by_cases hc : i < (b.length : Int)
  · rw [if_pos hc, if_pos hi, w64 (x := i + 1) (by omega) (by omega)]
    exact ⟨_, _, _, rfl, (and255 _).1, (and255 _).2, by omega⟩
  · rw [if_neg hc]
    exact ⟨_, _, _, rfl, (and255 _).1, (and255 _).2, hi⟩

theorem spec_l1Below_is (b : List Int) (i h n : Int) (hb : b.length ≤ 1048576) (hi : 0 ≤ i) (h1 : 0 < n) (h2 : n ≤ 256) : ∃ x i' h', spec_l1Below.f b i h n = some (x, i', h') ∧ 0 ≤ x ∧ x < n ∧ 0 ≤ i' := by
  obtain ⟨x, i', h', e, a, c, d⟩ := spec_l1Byte_is b i h hb hi
  unfold spec_l1Below.f
  rw [if_neg (by omega), if_pos h2, e]
  simp only [Option.bind_some]
  rw [if_neg (by omega)]
  refine ⟨_, _, _, rfl, ?_, ?_, d⟩
  · exact Int.tmod_nonneg _ a
  · exact Int.tmod_lt_of_pos _ h1

theorem small_e {x a d : Int} (hx : 2 ≤ x ∧ x ≤ 5) (ha : 0 ≤ a ∧ a < x) (hd : 0 ≤ d ∧ d < x - 1) : smallE [a, Int.tmod (wrap64 ((wrap64 (a + 1)) + d)) x] := by
  rw [w64 (x := a + 1) (by omega) (by omega), w64 (x := a + 1 + d) (by omega) (by omega), Int.tmod_eq_emod_of_nonneg (by omega)]
  refine ⟨a, _, rfl, ?_, by omega, by omega, ?_, ?_⟩
  all_goals (have : x = 2 ∨ x = 3 ∨ x = 4 ∨ x = 5 := by omega)
  all_goals (rcases this with rfl | rfl | rfl | rfl <;> omega)
/-- a drawn graph -/
def drawnG (g : List (List Int)) : Prop := (∀ e ∈ g, smallE e) ∧ 0 < g.length ∧ g.length ≤ 6
theorem spec_l7Draw_l0 (b : List Int) (hb : b.length ≤ 1048576) {x : Int} (hx : 2 ≤ x ∧ x ≤ 5) : ∀ (n : Nat) (g : List (List Int)) (c h : Int), 0 ≤ c → (∀ e ∈ g, smallE e) → g.length + n ≤ 6 →
    ∃ R c' h', EV (fun k => spec_l7Draw.l0 k g x (n : Int) b c h) (R, c', h') ∧ (∀ e ∈ R, smallE e) ∧ R.length = g.length + n ∧ 0 ≤ c'
  | 0, g, c, h, hc, hg, hl => ⟨g, c, h, EV.step (fun k => by rw [spec_l7Draw.l0]) (EV.neg (by omega) (EV.now _)), hg, rfl, hc⟩
  | n + 1, g, c, h, hc, hg, hl => by
    obtain ⟨a, c1, h1, e1, a0, a1, k1⟩ := spec_l1Below_is b c h x hb hc (by omega) (by omega)
    obtain ⟨d, c2, h2, e2, d0, d1, k2⟩ := spec_l1Below_is b c1 h1 (x - 1) hb k1 (by omega) (by omega)
    have hs := small_e hx ⟨a0, a1⟩ ⟨d0, d1⟩
    obtain ⟨R, c3, h3, E, q, l, k3⟩ := spec_l7Draw_l0 b hb hx n (g ++ [[a, Int.tmod (wrap64 ((wrap64 (a + 1)) + d)) x]]) c2 h2 k2 (fun e he => by
      rcases List.mem_append.1 he with h | h
      · exact hg e h
      · rw [List.mem_singleton.1 h]; exact hs) (by simp; omega)
    refine ⟨R, c3, h3, EV.step (fun k => by rw [spec_l7Draw.l0]) ?_, q, by rw [l]; simp; omega, k3⟩
    rw [w64 (x := x - 1) (by omega) (by omega), w64 (x := ((n + 1 : Nat) : Int) - 1) (by omega) (by omega), show ((n + 1 : Nat) : Int) - 1 = (n : Int) by omega]
    exact EV.pos (by omega) (EV.by e1 (EV.by e2 (EV.neg (by omega) (EV.pos (by omega) E))))
theorem spec_l7Draw_is (b : List Int) (c h : Int) (hb : b.length ≤ 1048576) (hc : 0 ≤ c) : ∃ R c' h', EV (fun k => spec_l7Draw.f k b c h) (R, c', h') ∧ drawnG R ∧ 0 ≤ c' := by
  obtain ⟨x, c1, h1, e1, x0, x1, k1⟩ := spec_l1Below_is b c h 4 hb hc (by omega) (by omega)
  obtain ⟨n, c2, h2, e2, n0, n1, k2⟩ := spec_l1Below_is b c1 h1 6 hb k1 (by omega) (by omega)
  obtain ⟨m, rfl⟩ : ∃ m : Nat, n = m := ⟨n.toNat, by omega⟩
  obtain ⟨R, c3, h3, E, q, l, k3⟩ := spec_l7Draw_l0 b hb (x := 2 + x) (by omega) (1 + m) [] c2 h2 k2 (fun _ h => absurd h (by simp)) (by simp; omega)
  refine ⟨R, c3, h3, EV.by e1 (EV.by e2 ?_), ⟨q, by rw [l]; simp only [List.length_nil]; omega, by rw [l]; simp only [List.length_nil]; omega⟩, k3⟩
  rw [w64 (x := 2 + x) (by omega) (by omega), w64 (x := 1 + (m : Int)) (by omega) (by omega)]
  rw [show ((1 + m : Nat) : Int) = 1 + (m : Int) by omega] at E
  exact E
theorem small_edge {e : List Int} (h : smallE e) : edgeB e = true := by
  obtain ⟨a, b, rfl, hab, h1, h2, h3, h4⟩ := h
  simp only [edgeB, Bool.and_eq_true, decide_eq_true_eq, Bool.not_eq_true', decide_eq_false_iff_not]
  omega
theorem drawnG_graph {g : List (List Int)} (h : drawnG g) : graphB g = true := by
  simp only [graphB, Bool.and_eq_true, List.all_eq_true, decide_eq_true_eq]
  exact ⟨fun e he => small_edge (h.1 e he), by have := h.2; omega⟩

theorem spec_l1PickInt_is (b : List Int) (i h : Int) (l : List Int) (hb : b.length ≤ 1048576) (hi : 0 ≤ i) (h1 : 0 < l.length) (h2 : l.length ≤ 256) : ∃ x i' h', spec_l1PickInt.f b i h l = some (x, i', h') ∧ x ∈ l ∧ 0 ≤ i' := by
  obtain ⟨x, i', h', e, a, c, d⟩ := spec_l1Below_is b i h l.length hb hi (by omega) (by omega)
  unfold spec_l1PickInt.f
  rw [e]
  simp only [Option.bind_some]
  rw [if_pos a, if_pos c]
  refine ⟨_, _, _, rfl, ?_, d⟩
  have hx : x.toNat < l.length := by omega
  have : rd l x = l[x.toNat] := by simp [rd, hx]
  rw [this]; exact List.getElem_mem _

/-- what the law asks of a graph that is drawn -/
def bentG (g : List (List Int)) : Prop := g.length ≤ 10 ∧ (∀ e ∈ g, e.length ≤ 2) ∧ (graphB g = true → 8 < g.length ∨ Planar g)
theorem small_len {e : List Int} (h : smallE e) : e.length ≤ 2 := by
  obtain ⟨a, b, rfl, _⟩ := h; simp
theorem bent_drawn {g : List (List Int)} (h : drawnG g) : bentG g :=
  ⟨by have := h.2; omega, fun e he => small_len (h.1 e he), fun _ => .inr (planar_drawn h.1 h.2.1 h.2.2).1⟩
theorem bent_more {g : List (List Int)} (h : drawnG g) {y : Int} (hy : y ∈ ([1, 7, (-1), 6] : List Int)) : bentG (g ++ [[1, y]]) := by
  refine ⟨by have := h.2; simp; omega, fun e he => ?_, fun hg => ?_⟩
  · rcases List.mem_append.1 he with h1 | h1
    · exact small_len (h.1 e h1)
    · rw [List.mem_singleton.1 h1]; simp
  · have he : edgeB [1, y] = true := by
      simp only [graphB, Bool.and_eq_true, List.all_eq_true] at hg
      exact hg.1 _ (by simp)
    simp only [List.mem_cons, List.not_mem_nil, or_false] at hy
    rcases hy with rfl | rfl | rfl | rfl
    · exact absurd he (by decide)
    · exact absurd he (by decide)
    · exact absurd he (by decide)
    · exact .inr (planar_drawn h.1 h.2.1 h.2.2).2
theorem bent_four : bentG (rightM (cmpM (capM 4) 0 (capM 4))) := by
  have e : rightM (cmpM (capM 4) 0 (capM 4)) = [[0, 1], [0, 2], [0, 3], [1, 2], [1, 3], [2, 3]] := by decide +kernel
  rw [e]
  refine bent_drawn ⟨fun e he => ?_, by decide, by decide⟩
  simp only [List.mem_cons, List.not_mem_nil, or_false] at he
  rcases he with rfl | rfl | rfl | rfl | rfl | rfl <;> exact ⟨_, _, rfl, by decide, by decide, by decide, by decide, by decide⟩
theorem bent_three : bentG (bipR 3 3) := by
  have e : bipR 3 3 = [[0, 3], [0, 4], [0, 5], [1, 3], [1, 4], [1, 5], [2, 3], [2, 4], [2, 5]] := by decide +kernel
  rw [e]
  exact ⟨by decide, by decide, fun _ => .inl (by decide)⟩
theorem spec_l7Bent_is (b : List Int) (c h : Int) (hb : b.length ≤ 1048576) (hc : 0 ≤ c) : ∃ R c' h', EV (fun k => spec_l7Bent.f k b c h) (R, c', h') ∧ bentG R ∧ 0 ≤ c' := by
  obtain ⟨R, c1, h1, E, r, k1⟩ := spec_l7Draw_is b c h hb hc
  obtain ⟨x, c2, h2, e2, x0, x1, k2⟩ := spec_l1Below_is b c1 h1 18 hb k1 (by omega) (by omega)
  obtain ⟨y, c3, h3, e3, hy, k3⟩ := spec_l1PickInt_is b c2 h2 [1, 7, (-1), 6] hb k2 (by decide) (by decide)
  by_cases h0 : x = 0
  · exact ⟨R ++ [[1, y]], c3, h3, EV.bind E (EV.by e2 (EV.pos h0 (EV.by e3 (EV.pos (by have := r.2; show R.length < 5864062014805; omega) (EV.now _))))), bent_more r hy, k3⟩
  · by_cases h1' : x = 1
    · exact ⟨_, c2, h2, EV.bind E (EV.by e2 (EV.neg h0 (EV.pos h1' (EV.bind (spec_CompleteGraph_is 4) (EV.now _))))), bent_four, k2⟩
    · by_cases h2' : x = 2
      · exact ⟨_, c2, h2, EV.bind E (EV.by e2 (EV.neg h0 (EV.neg h1' (EV.pos h2' (EV.bind (spec_BipartiteGraph_is 3 3) (EV.now _)))))), bent_three, k2⟩
      · exact ⟨R, c2, h2, EV.bind E (EV.by e2 (EV.neg h0 (EV.neg h1' (EV.neg h2' (EV.now _))))), bent_drawn r, k2⟩

theorem spec_l1New_l0 (b : List Int) (hb : b.length ≤ 1048576) : ∀ (n i : Nat) (x : Int), i + n = b.length → ∃ h, EV (fun k => spec_l1New.l0 k b x (i : Int)) (b, 0, h)
  | 0, i, x, hi => ⟨x, EV.step (fun k => by rw [spec_l1New.l0]) (EV.neg (by omega) (EV.now _))⟩
  | n + 1, i, x, hi => by
    by_cases h4 : (i : Int) < 4000
    · obtain ⟨h, H⟩ := spec_l1New_l0 b hb n (i + 1) (Go.bits .and .i64 (wrap64 ((wrap64 ((wrap64 (x * 131)) + (wrap64 (rd b (i : Int))))) + 7)) 1073741823) (by omega)
      refine ⟨h, EV.step (fun k => by rw [spec_l1New.l0]) (EV.pos (by omega) (EV.pos h4 (EV.pos (by omega) ?_)))⟩
      rw [w64 (x := (i : Int) + 1) (by omega) (by omega)]
      rw [show ((i + 1 : Nat) : Int) = (i : Int) + 1 by omega] at H
      exact H
    · exact ⟨x, EV.step (fun k => by rw [spec_l1New.l0]) (EV.pos (by omega) (EV.neg h4 (EV.now _)))⟩
theorem spec_l1New_is (b : List Int) (hb : b.length ≤ 1048576) : ∃ h, EV (fun k => spec_l1New.f k b) (b, 0, h) :=
  spec_l1New_l0 b hb b.length 0 _ (by omega)

theorem spec_DrawGenusRow_is (b : List Int) (hb : b.length ≤ 1048576) : ∃ g, EV (fun k => spec_DrawGenusRow.f k b) g ∧ bentG g := by
  obtain ⟨h, E⟩ := spec_l1New_is b hb
  obtain ⟨R, c2, h2, E2, r, _⟩ := spec_l7Bent_is b 0 h hb (by omega)
  exact ⟨R, EV.bind E (EV.bind E2 (EV.now _)), r⟩

theorem impl_within_is (a b c : Int) : impl_within.f a b c = some (decide (b ≤ a ∧ a ≤ c)) := by
  unfold impl_within.f
  by_cases h : a ≥ b
  · rw [if_pos h]; simp [show b ≤ a from h]
  · rw [if_neg h]; simp; omega

theorem impl_IsGraph_l0 (g : List (List Int)) (hn : g.length < 4611686018427387904) : ∀ (suf pre : List (List Int)), g = pre ++ suf →
    EV (fun k => impl_IsGraph.l0 k g g (g.length : Int) (pre.length : Int)) (suf.all edgeB && decide (1 ≤ g.length ∧ g.length ≤ 10)) := by
  intro suf
  induction suf with
  | nil =>
    intro pre h
    refine EV.step (fun k => by rw [impl_IsGraph.l0]) ?_
    refine EV.neg (by subst h; simp) (EV.by (impl_within_is _ _ _) ((EV.now _).eq ?_))
    rw [Bool.eq_iff_iff]; simp; omega
  | cons x suf ih =>
    intro pre h
    have hl : pre.length < 4611686018427387904 := by subst h; simp at hn; omega
    have hlt : (pre.length : Int) < (g.length : Int) := by subst h; exact lt_app ..
    have hx : rd_L2 g (pre.length : Int) = x := by subst h; exact rdL_app ..
    refine EV.step (fun k => by rw [impl_IsGraph.l0]) ?_
    rw [hx, up (x := x) hl]
    refine EV.pos hlt (EV.pos (by omega) (EV.pos hlt (?_)))
    by_cases h2 : x.length = 2
    · obtain ⟨a, b, rfl⟩ := two_of h2
      have e0 : rd [a, b] 0 = a := rfl
      have e1 : rd [a, b] 1 = b := rfl
      refine EV.pos rfl (EV.pos (by simp) (EV.by (impl_within_is _ _ _) ?_))
      rw [e0]
      by_cases ha : 0 ≤ a ∧ a ≤ 6
      · refine EV.pos (by simpa using ha) (EV.pos (by simp) (EV.by (impl_within_is _ _ _) ?_))
        rw [e1]
        by_cases hb : 0 ≤ b ∧ b ≤ 6
        · refine EV.pos (by simpa using hb) ?_
          by_cases hab : a = b
          · exact EV.pos hab ((EV.now _).eq (by simp [edgeB, hab]))
          · exact EV.neg hab ((ih (pre ++ [[a, b]]) (by simp [h])).eq (by simp [edgeB, ha, hb, hab]))
        · exact EV.neg (by simpa using hb) ((EV.now _).eq (by simp [edgeB, hb]))
      · exact EV.neg (by simpa using ha) ((EV.now _).eq (by simp [edgeB, ha]))
    · refine EV.neg (by omega) ((EV.now _).eq ?_)
      have : edgeB x = false := by
        rcases Bool.eq_false_or_eq_true (edgeB x) with h' | h'
        · exact absurd (edge_len h') h2
        · exact h'
      simp [this]
theorem impl_IsGraph_is (g : List (List Int)) (hn : g.length < 4611686018427387904) : EV (fun k => impl_IsGraph.f k g) (graphB g) := impl_IsGraph_l0 g hn g [] rfl

theorem impl_DegreesOf_l0 (g : List (List Int)) (hg : graphB g = true) : ∀ (suf pre : List (List Int)), g = pre ++ suf →
    EV (fun k => impl_DegreesOf.l0 k ((List.range 7).map fun v : Nat => (degN (v : Int) pre : Int)) g (g.length : Int) (pre.length : Int)) ((List.range 7).map fun v : Nat => (degN (v : Int) g : Int)) := by
  have G := graphB_of hg
  intro suf
  induction suf with
  | nil =>
    intro pre h
    have e : pre = g := by simp [h]
    subst e
    refine EV.step (fun k => by rw [impl_DegreesOf.l0]) ?_
    exact EV.neg (by omega) (EV.now _)
  | cons e suf ih =>
    intro pre h
    obtain ⟨a, b, rfl, a0, a6, b0, b6, hab⟩ := edgeB_of (G.1 e (by subst h; simp))
    have hpl : pre.length < 10 := by subst h; simp at G; omega
    have hlt : (pre.length : Int) < (g.length : Int) := by subst h; exact lt_app ..
    have hx : rd_L2 g (pre.length : Int) = [a, b] := by subst h; exact rdL_app ..
    have hd : ∀ v : Int, degN v pre ≤ 20 := fun v => by have := degN_le v pre; omega
    have ha := hd ((a.toNat : Nat) : Int)
    have hb := hd ((b.toNat : Nat) : Int)
    refine EV.step (fun k => by rw [impl_DegreesOf.l0]) ?_
    rw [hx, show rd [a, b] 0 = a from rfl, show rd [a, b] 1 = b from rfl, up (x := [a, b]) (by omega)]
    refine EV.pos hlt (EV.pos (by omega) (EV.pos hlt (EV.pos (by simp) (EV.pos a0 (EV.pos (by simp; omega) (EV.by rfl (EV.pos (by simp) (EV.pos b0 (EV.pos (by simp; omega) ?_)))))))))
    rw [rd_tab 7 _ a a0 (by omega), tab_set, rd_tab 7 _ b b0 (by omega), tab_set, w64 (x := (degN ((a.toNat : Nat) : Int) pre : Int) + 1) (by omega) (by omega), w64 (by split <;> omega) (by split <;> omega)]
    have := ih (pre ++ [[a, b]]) (by simp [h])
    refine EV.congr (fun k => ?_) this
    congr 1
    apply List.map_congr_left
    intro v hv
    rw [degN_snoc]
    simp only [List.getD_cons_zero, List.getD_cons_succ]
    by_cases h1 : v = b.toNat
    · have h2 : ¬ b.toNat = a.toNat := by omega
      have h3 : ¬ a = (v : Int) := by omega
      have h4 : b = (v : Int) := by omega
      rw [if_pos h1, if_neg h2, if_neg h3, if_pos h4, ← h1]; omega
    · have h4 : ¬ b = (v : Int) := by omega
      rw [if_neg h1, if_neg h4]
      by_cases h2 : v = a.toNat
      · rw [if_pos h2, if_pos (by omega), ← h2]; omega
      · rw [if_neg h2, if_neg (by omega)]; omega
theorem impl_DegreesOf_is (g : List (List Int)) (hn : g.length < 4611686018427387904) : EV (fun k => impl_DegreesOf.f k g) (degM g) := by
  unfold degM
  refine EV.bind (impl_IsGraph_is g hn) ?_
  by_cases hg : graphB g = true
  · rw [if_pos hg]
    refine EV.pos hg (EV.pos (by omega) ?_)
    exact impl_DegreesOf_l0 g hg g [] rfl
  · rw [if_neg hg]
    exact EV.neg hg (EV.now _)

theorem impl_CountRotations_l1 (ds : List Int) (d : Int) (m i : Int) (hd : d ≤ 1000) : ∀ (c lo : Nat) (P r : Int), c = (d - lo).toNat → lo ≤ 100000 →
    EV (fun k => impl_CountRotations.l0 k (wrap64 (P * rise lo c)) ds m (wrap64 (i + 1))) r → EV (fun k => impl_CountRotations.l1 k (wrap64 P) d (lo : Int) ds m i) r := by
  intro c
  induction c with
  | zero =>
    intro lo P r h hl H
    refine EV.step (fun k => by rw [impl_CountRotations.l1]) ?_
    exact EV.neg (by omega) (by simpa [rise] using H)
  | succ c ih =>
    intro lo P r h hl H
    refine EV.step (fun k => by rw [impl_CountRotations.l1]) ?_
    rw [wrap64_mul, w64 (x := (lo : Int) + 1) (by omega) (by omega)]
    have := ih (lo + 1) (P * lo) r (by omega) (by omega) (by simpa only [rise, Int.mul_assoc] using H)
    exact EV.pos (by omega) (EV.congr (fun k => by simp) this)
theorem impl_CountRotations_l0 (ds : List Int) (hd : ∀ d ∈ ds, 0 ≤ d ∧ d ≤ 1000) (hl : ds.length < 4611686018427387904) : ∀ (suf pre : List Int) (P : Int), ds = pre ++ suf →
    EV (fun k => impl_CountRotations.l0 k (wrap64 P) ds (ds.length : Int) (pre.length : Int)) (wrap64 (P * prodM suf)) := by
  intro suf
  induction suf with
  | nil =>
    intro pre P h
    refine EV.step (fun k => by rw [impl_CountRotations.l0]) ?_
    exact EV.neg (by subst h; simp) ((EV.now _).eq (by simp [prodM]))
  | cons d suf ih =>
    intro pre P h
    have hpl : pre.length < 4611686018427387904 := by subst h; simp at hl; omega
    have hlt : (pre.length : Int) < (ds.length : Int) := by subst h; exact lt_app ..
    have hx : rd ds (pre.length : Int) = d := by subst h; exact rd_app ..
    have hb := hd d (by subst h; simp)
    refine EV.step (fun k => by rw [impl_CountRotations.l0]) ?_
    rw [hx]
    refine EV.pos hlt (EV.pos (by omega) (EV.pos hlt ?_))
    refine impl_CountRotations_l1 ds d (ds.length : Int) (pre.length : Int) hb.2 (d - 2).toNat 2 P _ rfl (by omega) ?_
    rw [up (x := d) hpl]
    refine (ih (pre ++ [d]) (P * rise 2 (d - 2).toNat) (by simp [h])).eq ?_
    simp only [prodM]; rw [Int.mul_assoc]
theorem impl_CountRotations_is (g : List (List Int)) (hn : g.length < 4611686018427387904) : EV (fun k => impl_CountRotations.f k g) (rotM g) := by
  unfold rotM
  refine EV.bind (impl_IsGraph_is g hn) ?_
  by_cases hg : graphB g = true
  · rw [if_pos hg]
    refine EV.pos hg (EV.bind (impl_DegreesOf_is g hn) ?_)
    have := impl_CountRotations_l0 (degM g) (degM_bd g) (by unfold degM; rw [if_pos hg]; simp) (degM g) [] 1 rfl
    rw [wrap_1] at this
    exact EV.congr (fun k => rfl) (this.eq (by rw [Int.one_mul]))
  · rw [if_neg hg]
    exact EV.neg hg (EV.now _)

theorem impl_dartsAt_l0 (g : List (List Int)) (hg : graphB g = true) : ∀ (suf pre : List (List Int)), g = pre ++ suf →
    EV (fun k => impl_dartsAt.l0 k ((List.range 7).map fun v : Nat => dartsF (v : Int) 0 pre) g (g.length : Int) (pre.length : Int)) ((List.range 7).map fun v : Nat => dartsF (v : Int) 0 g) := by
  have G := graphB_of hg
  intro suf
  induction suf with
  | nil =>
    intro pre h
    have e : pre = g := by simp [h]
    subst e
    refine EV.step (fun k => by rw [impl_dartsAt.l0]) ?_
    exact EV.neg (by omega) (EV.now _)
  | cons e suf ih =>
    intro pre h
    obtain ⟨a, b, rfl, a0, a6, b0, b6, hab⟩ := edgeB_of (G.1 e (by subst h; simp))
    have hpl : pre.length < 10 := by subst h; simp at G; omega
    have hlt : (pre.length : Int) < (g.length : Int) := by subst h; exact lt_app ..
    have hx : rd_L2 g (pre.length : Int) = [a, b] := by subst h; exact rdL_app ..
    have hd : ∀ v : Int, (dartsF v 0 pre).length ≤ 20 := fun v => by rw [dartsF_len]; have := degN_le v pre; omega
    refine EV.step (fun k => by rw [impl_dartsAt.l0]) ?_
    rw [hx, show rd [a, b] 0 = a from rfl, show rd [a, b] 1 = b from rfl, up (x := [a, b]) (by omega), w64 (x := 2 * (pre.length : Int)) (by omega) (by omega), w64 (x := 2 * (pre.length : Int) + 1) (by omega) (by omega)]
    rw [rdL_tab 7 _ a a0 (by omega), tab_set]
    refine EV.pos hlt (EV.pos (by omega) (EV.pos hlt (EV.pos (by simp) (EV.pos a0 (EV.pos (by simp; omega) (EV.pos (by have := hd ((a.toNat : Nat) : Int); omega) (EV.by rfl (EV.pos (by simp) (EV.pos b0 (EV.pos (by simp; omega) ?_))))))))))
    rw [rdL_tab 7 _ b b0 (by omega), tab_set]
    refine EV.pos (by have := hd ((b.toNat : Nat) : Int); rw [if_neg (by omega)]; omega) ?_
    have := ih (pre ++ [[a, b]]) (by simp [h])
    refine EV.congr (fun k => ?_) this
    congr 1
    apply List.map_congr_left
    intro v hv
    rw [dartsF_snoc]
    simp only [List.getD_cons_zero, List.getD_cons_succ, Nat.zero_add]
    by_cases h1 : v = b.toNat
    · have h2 : ¬ b.toNat = a.toNat := by omega
      have h3 : ¬ a = (v : Int) := by omega
      have h4 : b = (v : Int) := by omega
      rw [if_pos h1, if_neg h2, if_neg h3, if_pos h4, ← h1, List.nil_append]
    · have h4 : ¬ b = (v : Int) := by omega
      rw [if_neg h1, if_neg h4, List.append_nil]
      by_cases h2 : v = a.toNat
      · rw [if_pos h2, if_pos (by omega), ← h2]
      · rw [if_neg h2, if_neg (by omega), List.append_nil]
theorem impl_dartsAt_is (g : List (List Int)) (hg : graphB g = true) : EV (fun k => impl_dartsAt.f k g) ((List.range 7).map fun v : Nat => dartsF (v : Int) 0 g) := by
  refine EV.pos (by omega) ?_
  exact impl_dartsAt_l0 g hg g [] rfl

theorem impl_isPermutation_l0 (p : List Int) (hn : p.length < 4611686018427387904) : ∀ (suf pre : List Int), p = pre ++ suf → pre.Nodup →
    EV (fun k => impl_isPermutation.l0 k p (seenM p.length pre) p (p.length : Int) (pre.length : Int)) (suf.all (inB p.length) && decide (pre ++ suf).Nodup) := by
  intro suf
  induction suf with
  | nil =>
    intro pre h hp
    refine EV.step (fun k => by rw [impl_isPermutation.l0]) ?_
    exact EV.neg (by subst h; simp) ((EV.now _).eq (by simp [hp]))
  | cons x suf ih =>
    intro pre h hp
    have hpl : pre.length < 4611686018427387904 := by subst h; simp at hn; omega
    have hlt : (pre.length : Int) < (p.length : Int) := by subst h; exact lt_app ..
    have hx : rd p (pre.length : Int) = x := by subst h; exact rd_app ..
    refine EV.step (fun k => by rw [impl_isPermutation.l0]) ?_
    rw [hx, up (x := x) hpl, w64 (x := (p.length : Int) - 1) (by omega) (by omega)]
    refine EV.pos hlt (EV.pos (by omega) (EV.pos hlt (EV.by (impl_within_is _ _ _) ?_)))
    by_cases hb : inB p.length x = true
    · have b := inB_of hb
      refine EV.pos (by simp; omega) (EV.pos b.1 (EV.pos (by simp [seenM]; omega) ?_))
      rw [show rdOf false (seenM p.length pre) x = decide (x ∈ pre) by unfold seenM; rw [rdOf_tab _ _ _ _ b.1 b.2, show ((x.toNat : Nat) : Int) = x by omega]]
      by_cases hm : x ∈ pre
      · refine EV.pos (by simpa using hm) ((EV.now _).eq ?_)
        rw [decide_eq_false, Bool.and_false]
        intro c
        exact (List.nodup_append.1 c).2.2 x hm x (by simp) rfl
      · refine EV.neg (by simpa using hm) ?_
        rw [seenM_snoc _ _ _ b.1]
        refine (ih (pre ++ [x]) (by simp [h]) ?_).eq (by simp [hb])
        rw [List.nodup_append]
        refine ⟨hp, by simp, fun a ha c hc => ?_⟩
        rw [List.mem_singleton] at hc
        intro e; exact hm (by rw [← hc, ← e]; exact ha)
    · refine EV.neg (by simp only [inB, decide_eq_true_iff] at hb; simp; omega) ((EV.now _).eq ?_)
      rw [List.all_cons, show inB p.length x = false by simpa using hb]; simp
theorem impl_isPermutation_is (p : List Int) (hn : p.length < 4294967296) : EV (fun k => impl_isPermutation.f k p) (permB p) := by
  refine EV.pos (by omega) (EV.pos (by omega) ?_)
  have := impl_isPermutation_l0 p (by omega) p [] rfl List.nodup_nil
  rw [seenM_nil] at this
  exact this

theorem impl_IsMap_is (w : List Int) (hn : w.length ≤ 1048576) : EV (fun k => impl_IsMap.f k w) (isMapB w) := by
  unfold isMapB
  refine EV.by (impl_within_is _ _ _) ?_
  by_cases h1 : 2 ≤ w.length ∧ w.length ≤ 24
  · rw [decide_eq_true h1, Bool.true_and]
    refine EV.pos (by simp; omega) ?_
    by_cases h2 : w.length % 2 = 0
    · rw [decide_eq_true h2, Bool.true_and]
      exact EV.pos (by omega) (EV.bind (impl_isPermutation_is w (by omega)) (EV.now _))
    · rw [decide_eq_false h2, Bool.false_and]
      exact EV.neg (by omega) (EV.now _)
  · rw [decide_eq_false h1, Bool.false_and]
    exact EV.neg (by simp; omega) (EV.now _)

theorem impl_MapParts_top {n : Nat} {up : List Int} (hl : up.length = n) {h x r : Nat} (H : Rt n up h x r) : EV (fun k => impl_MapParts.top k up (x : Int)) (r : Int) := by
  induction H with
  | root h1 h2 =>
    refine EV.step (fun k => by rw [impl_MapParts.top]) ?_
    rw [rd_getD, Int.toNat_natCast]
    exact EV.pos (by omega) (EV.pos (by omega) (EV.pos h2 (EV.now _)))
  | step h1 h2 h3 _ ih =>
    refine EV.step (fun k => by rw [impl_MapParts.top]) ?_
    rw [rd_getD, Int.toNat_natCast, h2]
    exact EV.pos (by omega) (EV.pos (by omega) (EV.neg (by omega) ih))
theorem impl_MapParts_join {n : Nat} {up : List Int} {E : Nat → Nat → Prop} (F : Forest n up E) {a b : Nat} (ha : a < n) (hb : b < n) :
    ∃ up', Forest n up' (jn E a b) ∧ EV (fun k => impl_MapParts.join k up (a : Int) (b : Int)) up' := by
  obtain ⟨_, A, HA⟩ := F.rt a ha
  obtain ⟨_, B, HB⟩ := F.rt b hb
  have hl := F.len
  have tA := HA.top
  have tB := HB.top
  by_cases h : (A : Int) > (B : Int)
  · refine ⟨_, F.join HA HB, ?_⟩
    refine EV.bind (impl_MapParts_top hl HA) (EV.bind (impl_MapParts_top hl HB) ?_)
    exact EV.pos h (EV.pos (by omega) (EV.pos (by omega) ((EV.now _).eq (by rw [Int.toNat_natCast]))))
  · refine ⟨_, (jn_symm E a b) ▸ F.join HB HA, ?_⟩
    refine EV.bind (impl_MapParts_top hl HA) (EV.bind (impl_MapParts_top hl HB) ?_)
    exact EV.neg h (EV.pos (by omega) (EV.pos (by omega) ((EV.now _).eq (by rw [Int.toNat_natCast]))))
theorem impl_MapParts_cnt {n : Nat} {up : List Int} {E : Nat → Nat → Prop} (F : Forest n up E) (hn : n ≤ 24) : EV (fun k => impl_MapParts.cnt k up 0 0) ((cls n E : Nat) : Int) := by
  have hl := F.len
  rw [← F.count]
  have go : ∀ (c d : Nat), d + c = n → EV (fun k => impl_MapParts.cnt k up (d : Int) (((List.range d).countP fun d : Nat => decide (up.getD d 0 = (d : Int)) : Nat) : Int)) (((List.range n).countP fun d : Nat => decide (up.getD d 0 = (d : Int)) : Nat) : Int) := by
    intro c
    induction c with
    | zero =>
      intro d hd
      have : d = n := by omega
      subst this
      refine EV.step (fun k => by rw [impl_MapParts.cnt]) ?_
      exact EV.neg (by omega) (EV.now _)
    | succ c ih =>
      intro d hd
      have hc : ((List.range d).countP fun d : Nat => decide (up.getD d 0 = (d : Int))) ≤ d := by
        have := List.countP_le_length (p := fun d : Nat => decide (up.getD d 0 = (d : Int))) (l := List.range d)
        simpa using this
      refine EV.step (fun k => by rw [impl_MapParts.cnt]) ?_
      rw [rd_getD, Int.toNat_natCast]
      refine EV.pos (by omega) (EV.pos (by omega) ?_)
      have := ih (d + 1) (by omega)
      rw [w64 (x := (d : Int) + 1) (by omega) (by omega)]
      rw [List.range_succ, List.countP_append] at this
      generalize hq : ((List.range d).countP fun d : Nat => decide (up.getD d 0 = (d : Int))) = q at this hc
      by_cases e : up.getD d 0 = (d : Int)
      · rw [w64 (by omega) (by omega)]
        rw [show ([d].countP fun d : Nat => decide (up.getD d 0 = (d : Int))) = 1 from (countP_one _ d).trans (if_pos (decide_eq_true e))] at this
        exact EV.pos e.symm this
      · rw [show ([d].countP fun d : Nat => decide (up.getD d 0 = (d : Int))) = 0 from (countP_one _ d).trans (if_neg (by rw [decide_eq_false e]; exact Bool.false_ne_true))] at this
        exact EV.neg (fun h => e h.symm) this
  exact go n 0 (by omega)
theorem xor_mate : ∀ d : Nat, d < 24 → Go.bits .xor .i64 (d : Int) 1 = mateN d := by decide
theorem impl_MapParts_l1 {m : List Int} (hm : permB m = true) (hn : m.length ≤ 24) (h2 : m.length % 2 = 0) : ∀ (c d : Nat) (up : List Int) (E : Nat → Nat → Prop), d + c = m.length → Forest m.length up E →
    EV (fun k => impl_MapParts.l1 k m up (d : Int)) ((cls m.length (foldE m c d E) : Nat) : Int)
  | 0, d, up, E, hd, F => by
    refine EV.step (fun k => by rw [impl_MapParts.l1]) ?_
    exact EV.neg (by omega) (impl_MapParts_cnt F hn)
  | c + 1, d, up, E, hd, F => by
    have hg := perm_get hm (d := d) (by omega)
    have ht := mate_lt h2 (d := d) (by omega)
    obtain ⟨u1, F1, j1⟩ := impl_MapParts_join F (a := d) (by omega) hg.2.2
    obtain ⟨u2, F2, j2⟩ := impl_MapParts_join F1 (a := d) (by omega) ht.2.2
    have e1 : m.getD d 0 = (((m.getD d 0).toNat : Nat) : Int) := by omega
    have e2 : mateN d = (((mateN d).toNat : Nat) : Int) := by omega
    rw [← e1] at j1
    rw [← e2] at j2
    refine EV.step (fun k => by rw [impl_MapParts.l1]) ?_
    rw [rd_getD, Int.toNat_natCast, xor_mate d (by omega), w64 (x := (d : Int) + 1) (by omega) (by omega)]
    exact EV.pos (by omega) (EV.pos (by omega) (EV.bind j1 (EV.bind j2 (impl_MapParts_l1 hm hn h2 c (d + 1) _ _ (by omega) F2))))
theorem impl_MapParts_is {m : List Int} (hb : isMapB m = true) : EV (fun k => impl_MapParts.f k m) ((partN m : Nat) : Int) := by
  have hb' := hb
  simp only [isMapB, Bool.and_eq_true, decide_eq_true_eq] at hb'
  obtain ⟨hn, h2, hm⟩ := hb'
  refine EV.bind (impl_IsMap_is m (by omega)) (EV.pos hb (EV.bind (a := idM m.length) ?_ ?_))
  · have H : EV (fun k => impl_MapParts.new k (idM 0) (m.length : Int) 0) (idM m.length) := by
      refine EV.count (g := fun k up i => impl_MapParts.new k up (m.length : Int) i) m.length (fun i => idM i) _ (fun i hi H => ?_) ?_
      · refine EV.step (fun k => by rw [impl_MapParts.new]) ?_
        rw [w64 (x := (i : Int) + 1) (by omega) (by omega)]
        refine EV.pos (by omega) (EV.pos (by simp [idM]; omega) ?_)
        have e : idM (i + 1) = idM i ++ [(i : Int)] := by simp [idM, List.range_succ]
        rw [e] at H; exact H
      · refine EV.step (fun k => by rw [impl_MapParts.new]) ?_
        exact EV.neg (by omega) (EV.now _)
    exact H
  · have := impl_MapParts_l1 hm hn.2 h2 m.length 0 (idM m.length) _ (by omega) (Forest.id _)
    rw [cls_foldE] at this
    exact this

theorem impl_cycles_is {m : List Int} (hm : permB m = true) (hn : m.length ≤ 24) : ∃ cs, cs.length = cycN m ∧ EV (fun k => impl_cycles.f k m) cs := by
  obtain ⟨cs, hc, h⟩ := cyc_all hm (fun k cs seen d => impl_cycles.l0 k m cs seen (m.length : Int) d) (fun k cs seen d c e => impl_cycles.l1 k m cs seen c e (m.length : Int) d)
    (fun cs seen => by
      refine EV.step (fun k => by rw [impl_cycles.l0]) ?_
      exact EV.neg (by omega) (EV.now _))
    (fun cs seen d r hd hl hs K => by
      refine EV.step (fun k => by rw [impl_cycles.l0]) ?_
      rw [rdOf_nat, w64 (x := (d : Int) + 1) (by omega) (by omega)]
      exact EV.pos (by omega) (EV.pos (by omega) (EV.pos (by omega) (EV.pos hs K))))
    (fun cs seen d r hd hl hs K => by
      refine EV.step (fun k => by rw [impl_cycles.l0]) ?_
      rw [rdOf_nat]
      exact EV.pos (by omega) (EV.pos (by omega) (EV.pos (by omega) (EV.neg (by rw [hs]; exact Bool.false_ne_true) K))))
    (fun cs seen d e c r hd he hl hc hs K => by
      refine EV.step (fun k => by rw [impl_cycles.l1]) ?_
      rw [rdOf_nat, rd_getD, Int.toNat_natCast]
      exact EV.pos (by omega) (EV.pos (by omega) (EV.neg (by rw [hs]; exact Bool.false_ne_true) (EV.pos (by omega) (EV.pos (by omega) K)))))
    (fun cs seen d e c r hd he hl hc hs K => by
      refine EV.step (fun k => by rw [impl_cycles.l1]) ?_
      rw [rdOf_nat, w64 (x := (d : Int) + 1) (by omega) (by omega)]
      exact EV.pos (by omega) (EV.pos (by omega) (EV.pos hs (EV.pos (by omega) K))))
  exact ⟨cs, hc, EV.pos (by omega) (EV.pos (by omega) (by rw [Int.toNat_natCast]; exact h))⟩

theorem impl_dual_is {m : List Int} (hn : m.length ≤ 24) (h2 : m.length % 2 = 0) : EV (fun k => impl_dual.f k m) (dualM m) := by
  refine EV.pos (by omega) (EV.pos (by omega) ?_)
  rw [Int.toNat_natCast]
  have H : EV (fun k => impl_dual.l0 k m (((List.range 0).map fun d => m.getD (mateN d).toNat 0) ++ List.replicate (m.length - 0) 0) (m.length : Int) 0) (dualM m) := by
    refine EV.count (g := fun k x i => impl_dual.l0 k m x (m.length : Int) i) m.length (fun i => ((List.range i).map fun d => m.getD (mateN d).toNat 0) ++ List.replicate (m.length - i) 0) _ (fun i hi H => ?_) ?_
    · have ht := mate_lt h2 hi
      refine EV.step (fun k => by rw [impl_dual.l0]) ?_
      rw [w64 (x := (i : Int) + 1) (by omega) (by omega), xor_mate i (by omega), rd_getD, Int.toNat_natCast]
      refine EV.pos (by omega) (EV.pos (by omega) (EV.pos (by omega) (EV.pos (by omega) (EV.pos (by simp; omega) ?_))))
      rw [List.range_succ, List.map_append] at H
      have e : m.length - i = (m.length - (i + 1)) + 1 := by omega
      rw [e, List.replicate_succ, set_app _ _ _ _ _ (by simp)]
      rw [List.append_assoc] at H
      exact H
    · refine EV.step (fun k => by rw [impl_dual.l0]) ?_
      refine EV.neg (by omega) ((EV.now _).eq ?_)
      rw [Nat.sub_self]; simp [dualM]
  exact H

theorem spec_l1Bit_is (b : Bool) : spec_l1Bit.f b = some (if b = true then 1 else 0) := by
  cases b <;> rfl
theorem spec_l6Mate_is (i : Nat) (h : i ≤ 1000) : spec_l6Mate.f (i : Int) = some (mateN i) := by
  unfold spec_l6Mate.f mateN
  rw [Int.tmod_eq_emod_of_nonneg (by omega), w64 (x := (i : Int) + 1) (by omega) (by omega), w64 (x := 2 * ((i : Int) % 2)) (by omega) (by omega), w64 (by omega) (by omega)]
  congr 1
  split <;> omega

theorem spec_l3Find_rt {n : Nat} {up : List Int} (hl : up.length = n) {h x r : Nat} (H : Rt n up h x r) : EV (fun k => spec_l3Find.f k up (x : Int)) (r : Int) := by
  change EV (fun k => spec_l3Find.l0 k up (x : Int)) (r : Int)
  induction H with
  | root h1 h2 =>
    refine EV.step (fun k => by rw [spec_l3Find.l0]) ?_
    rw [rd_getD, Int.toNat_natCast]
    exact EV.pos (by omega) (EV.pos (by omega) (EV.pos h2 (EV.now _)))
  | step h1 h2 h3 _ ih =>
    refine EV.step (fun k => by rw [spec_l3Find.l0]) ?_
    rw [rd_getD, Int.toNat_natCast, h2]
    exact EV.pos (by omega) (EV.pos (by omega) (EV.neg (by omega) ih))
theorem spec_l6Parts_l2 {n : Nat} {up : List Int} {E : Nat → Nat → Prop} (F : Forest n up E) (m : List Int) (hm : m.length = n) (hn : n ≤ 24) : EV (fun k => spec_l6Parts.l2 k m up 0 0) ((cls n E : Nat) : Int) := by
  have hl := F.len
  rw [← F.count]
  have go : ∀ (c d : Nat), d + c = n → EV (fun k => spec_l6Parts.l2 k m up (((List.range d).countP fun d : Nat => decide (up.getD d 0 = (d : Int)) : Nat) : Int) (d : Int)) (((List.range n).countP fun d : Nat => decide (up.getD d 0 = (d : Int)) : Nat) : Int) := by
    intro c
    induction c with
    | zero =>
      intro d hd
      have : d = n := by omega
      subst this
      refine EV.step (fun k => by rw [spec_l6Parts.l2]) ?_
      exact EV.neg (by omega) (EV.now _)
    | succ c ih =>
      intro d hd
      have hc : ((List.range d).countP fun d : Nat => decide (up.getD d 0 = (d : Int))) ≤ d := by
        have := List.countP_le_length (p := fun d : Nat => decide (up.getD d 0 = (d : Int))) (l := List.range d)
        simpa using this
      refine EV.step (fun k => by rw [spec_l6Parts.l2]) ?_
      rw [rd_getD, Int.toNat_natCast]
      refine EV.pos (by omega) (EV.pos (by omega) (EV.pos (by omega) (EV.by (spec_l1Bit_is _) ?_)))
      have := ih (d + 1) (by omega)
      rw [w64 (x := (d : Int) + 1) (by omega) (by omega)]
      rw [List.range_succ, List.countP_append] at this
      generalize hq : ((List.range d).countP fun d : Nat => decide (up.getD d 0 = (d : Int))) = q at this hc
      by_cases e : up.getD d 0 = (d : Int)
      · rw [show (up.getD d 0 == (d : Int)) = true from beq_iff_eq.2 e, if_pos rfl, w64 (by omega) (by omega)]
        rw [show ([d].countP fun d : Nat => decide (up.getD d 0 = (d : Int))) = 1 from (countP_one _ d).trans (if_pos (decide_eq_true e))] at this
        exact this
      · rw [show (up.getD d 0 == (d : Int)) = false from beq_eq_false_iff_ne.2 e, if_neg (by simp), w64 (by omega) (by omega)]
        rw [show ([d].countP fun d : Nat => decide (up.getD d 0 = (d : Int))) = 0 from (countP_one _ d).trans (if_neg (by rw [decide_eq_false e]; exact Bool.false_ne_true))] at this
        exact EV.congr (fun k => by simp) this
  exact go n 0 (by omega)
theorem spec_l6Parts_l1 {m : List Int} (hm : permB m = true) (hn : m.length ≤ 24) (h2 : m.length % 2 = 0) : ∀ (c d : Nat) (up : List Int) (E : Nat → Nat → Prop), d + c = m.length → Forest m.length up E →
    EV (fun k => spec_l6Parts.l1 k m up (d : Int)) ((cls m.length (foldE m c d E) : Nat) : Int)
  | 0, d, up, E, hd, F => by
    refine EV.step (fun k => by rw [spec_l6Parts.l1]) ?_
    exact EV.neg (by omega) (spec_l6Parts_l2 F m rfl hn)
  | c + 1, d, up, E, hd, F => by
    have hg := perm_get hm (d := d) (by omega)
    have ht := mate_lt h2 (d := d) (by omega)
    obtain ⟨_, A, HA⟩ := F.rt d (by omega)
    obtain ⟨_, B, HB⟩ := F.rt _ hg.2.2
    have F1 := F.join HA HB
    obtain ⟨_, C, HC⟩ := F1.rt d (by omega)
    obtain ⟨_, D, HD⟩ := F1.rt _ ht.2.2
    have F2 := F1.join HC HD
    have e1 : m.getD d 0 = (((m.getD d 0).toNat : Nat) : Int) := by omega
    have e2 : mateN d = (((mateN d).toNat : Nat) : Int) := by omega
    have hl := F.len
    have hl1 := F1.len
    have tA := HA.top
    have tC := HC.top
    have fB := spec_l3Find_rt hl HB
    have fD := spec_l3Find_rt hl1 HD
    rw [← e1] at fB
    rw [← e2] at fD
    refine EV.step (fun k => by rw [spec_l6Parts.l1]) ?_
    rw [rd_getD, Int.toNat_natCast]
    refine EV.pos (by omega) (EV.bind (spec_l3Find_rt hl HA) (EV.pos (by omega) (EV.bind fB (EV.pos (by omega) (EV.pos (by omega) (EV.by rfl ?_))))))
    rw [Int.toNat_natCast]
    refine EV.bind (spec_l3Find_rt hl1 HC) (EV.by (spec_l6Mate_is d (by omega)) (EV.bind fD (EV.pos (by omega) (EV.pos (by omega) ?_))))
    rw [Int.toNat_natCast, w64 (x := (d : Int) + 1) (by omega) (by omega)]
    exact spec_l6Parts_l1 hm hn h2 c (d + 1) _ _ (by omega) F2
theorem spec_l6Parts_is {m : List Int} (hm : permB m = true) (hn : m.length ≤ 24) (h2 : m.length % 2 = 0) : EV (fun k => spec_l6Parts.f k m) ((partN m : Nat) : Int) := by
  have H : EV (fun k => spec_l6Parts.l0 k m (idM 0) 0) ((partN m : Nat) : Int) := by
    refine EV.count (g := fun k up i => spec_l6Parts.l0 k m up i) m.length (fun i => idM i) _ (fun i hi H => ?_) ?_
    · refine EV.step (fun k => by rw [spec_l6Parts.l0]) ?_
      rw [w64 (x := (i : Int) + 1) (by omega) (by omega)]
      refine EV.pos (by omega) (EV.pos (by simp [idM]; omega) ?_)
      have e : idM (i + 1) = idM i ++ [(i : Int)] := by simp [idM, List.range_succ]
      rw [e] at H; exact H
    · refine EV.step (fun k => by rw [spec_l6Parts.l0]) ?_
      refine EV.neg (by omega) ?_
      have := spec_l6Parts_l1 hm hn h2 m.length 0 (idM m.length) _ (by omega) (Forest.id _)
      rw [cls_foldE] at this
      exact this
  exact H

theorem spec_l6Cycles_is {m : List Int} (hm : permB m = true) (hn : m.length ≤ 24) : ∃ cs, cs.length = cycN m ∧ EV (fun k => spec_l6Cycles.f k m) cs := by
  obtain ⟨cs, hc, h⟩ := cyc_all hm (fun k cs seen d => spec_l6Cycles.l0 k m cs seen d) (fun k cs seen d c e => spec_l6Cycles.l1 k m cs seen d c e)
    (fun cs seen => by
      refine EV.step (fun k => by rw [spec_l6Cycles.l0]) ?_
      exact EV.neg (by omega) (EV.now _))
    (fun cs seen d r hd hl hs K => by
      refine EV.step (fun k => by rw [spec_l6Cycles.l0]) ?_
      rw [rdOf_nat, w64 (x := (d : Int) + 1) (by omega) (by omega)]
      exact EV.pos (by omega) (EV.pos (by omega) (EV.pos (by omega) (EV.pos hs K))))
    (fun cs seen d r hd hl hs K => by
      refine EV.step (fun k => by rw [spec_l6Cycles.l0]) ?_
      rw [rdOf_nat]
      exact EV.pos (by omega) (EV.pos (by omega) (EV.pos (by omega) (EV.neg (by rw [hs]; exact Bool.false_ne_true) K))))
    (fun cs seen d e c r hd he hl hc hs K => by
      refine EV.step (fun k => by rw [spec_l6Cycles.l1]) ?_
      rw [rdOf_nat, rd_getD, Int.toNat_natCast]
      exact EV.pos (by omega) (EV.pos (by omega) (EV.neg (by rw [hs]; exact Bool.false_ne_true) (EV.pos (by omega) (EV.pos (by omega) K)))))
    (fun cs seen d e c r hd he hl hc hs K => by
      refine EV.step (fun k => by rw [spec_l6Cycles.l1]) ?_
      rw [rdOf_nat, w64 (x := (d : Int) + 1) (by omega) (by omega)]
      exact EV.pos (by omega) (EV.pos (by omega) (EV.pos hs (EV.pos (by omega) K))))
  exact ⟨cs, hc, EV.pos (by omega) (EV.pos (by omega) (by rw [Int.toNat_natCast]; exact h))⟩

theorem spec_l6Dual_is {m : List Int} (hn : m.length ≤ 24) (h2 : m.length % 2 = 0) : EV (fun k => spec_l6Dual.f k m) (dualM m) := by
  have H : EV (fun k => spec_l6Dual.l0 k m ((List.range 0).map fun d => m.getD (mateN d).toNat 0) 0) (dualM m) := by
    refine EV.count (g := fun k x i => spec_l6Dual.l0 k m x i) m.length (fun i => (List.range i).map fun d => m.getD (mateN d).toNat 0) _ (fun i hi H => ?_) ?_
    · have ht := mate_lt h2 hi
      refine EV.step (fun k => by rw [spec_l6Dual.l0]) ?_
      rw [w64 (x := (i : Int) + 1) (by omega) (by omega)]
      refine EV.pos (by omega) (EV.by (spec_l6Mate_is i (by omega)) (EV.pos (by omega) (EV.pos (by omega) (EV.pos (by simp; omega) ?_))))
      rw [List.range_succ, List.map_append] at H
      exact H
    · refine EV.step (fun k => by rw [spec_l6Dual.l0]) ?_
      exact EV.neg (by omega) (EV.now _)
  exact H

theorem genus_sum {m : List Int} (hm : permB m = true) (hn : m.length ≤ 24) (h2 : m.length % 2 = 0) (a b : List (List Int)) (ha : a.length = cycN m) (hb : b.length = cycN (dualM m)) :
    wrap64 (((partN m : Nat) : Int) - (wrap64 (Int.tdiv (wrap64 ((wrap64 ((a.length : Int) - (wrap64 ((m.length : Int) / 2)))) + (b.length : Int))) 2))) = genN m := by
  have B := genN_bd hm hn h2
  rw [ha, hb]
  have e : ((m.length : Int) / 2) = ((m.length / 2 : Nat) : Int) := by omega
  rw [e, w64 (x := ((m.length / 2 : Nat) : Int)) (by omega) (by omega), w64 (x := (cycN m : Int) - ((m.length / 2 : Nat) : Int)) (by omega) (by omega), w64 (x := (cycN m : Int) - ((m.length / 2 : Nat) : Int) + (cycN (dualM m) : Int)) (by omega) (by omega)]
  have t := tdiv_two ((cycN m : Int) - ((m.length / 2 : Nat) : Int) + (cycN (dualM m) : Int))
  rw [w64 (x := Int.tdiv _ 2) (by omega) (by omega)]
  have g : (partN m : Int) - Int.tdiv ((cycN m : Int) - ((m.length / 2 : Nat) : Int) + (cycN (dualM m) : Int)) 2 = genN m := rfl
  rw [g, w64 (by omega) (by omega)]
theorem spec_l6Genus_is {m : List Int} (hm : permB m = true) (hn : m.length ≤ 24) (h2 : m.length % 2 = 0) : EV (fun k => spec_l6Genus.f k m) (genN m) := by
  obtain ⟨a, ha, h⟩ := spec_l6Cycles_is hm hn
  obtain ⟨b, hb, k⟩ := spec_l6Cycles_is (dualM_perm hm h2) (by rw [dualM_len]; exact hn)
  exact EV.bind (spec_l6Parts_is hm hn h2) (EV.bind h (EV.bind (spec_l6Dual_is hn h2) (EV.bind k ((EV.now _).eq (genus_sum hm hn h2 a b ha hb)))))

theorem impl_GenusOf_is {m : List Int} (hb : isMapB m = true) : EV (fun k => impl_GenusOf.f k m) (genN m) := by
  have hb' := hb
  simp only [isMapB, Bool.and_eq_true, decide_eq_true_eq] at hb'
  obtain ⟨hn, h2, hm⟩ := hb'
  obtain ⟨a, ha, h⟩ := impl_cycles_is hm hn.2
  obtain ⟨b, hc, k⟩ := impl_cycles_is (dualM_perm hm h2) (by rw [dualM_len]; exact hn.2)
  exact EV.bind (impl_IsMap_is m (by omega)) (EV.pos hb (EV.bind (impl_MapParts_is hb) (EV.bind h (EV.bind (impl_dual_is hn.2 h2) (EV.bind k ((EV.now _).eq (genus_sum hm hn.2 h2 a b ha hc)))))))

theorem spec_l1Min_is (a b : Int) : spec_l1Min.f a b = some (if a < b then a else b) := by
  unfold spec_l1Min.f; split <;> rfl

theorem rg_is {n : Nat} (d0 : Int) : ∀ (r : List Int) (pre : List Int) (d : Int) (m : List Int), m.length = n → 0 ≤ d → d < n → (∀ x ∈ r, 0 ≤ x ∧ x < n) → (pre ++ d :: r).getD 0 0 = d0 →
    impl_GenusRow.rg r d d0 (ringK m (pre ++ d :: r) pre.length) = some (ringM m (pre ++ d :: r))
  | [], pre, d, m, hm, h0, h1, hr, he => by
    have hl := ringK_len m (pre ++ [d]) pre.length
    rw [impl_GenusRow.rg, if_pos ⟨h0, by omega⟩]
    have e : ringM m (pre ++ [d]) = ringK m (pre ++ [d]) (pre.length + 1) := by
      change ringK m (pre ++ [d]) (pre ++ [d]).length = _
      rw [List.length_append, List.length_singleton]
    rw [e, ringK_succ]
    congr 2
    · congr 1; simp
    · rw [List.length_append, List.length_singleton, Nat.mod_self]; exact he.symm
  | x :: r, pre, d, m, hm, h0, h1, hr, he => by
    have hl := ringK_len m (pre ++ d :: x :: r) pre.length
    have hx := hr x List.mem_cons_self
    rw [impl_GenusRow.rg, if_pos ⟨h0, by omega⟩]
    have ih := rg_is d0 r (pre ++ [d]) x m hm hx.1 hx.2 (fun y hy => hr y (List.mem_cons_of_mem _ hy)) (by rw [List.append_assoc]; exact he)
    rw [List.append_assoc, List.length_append, List.length_singleton] at ih
    simp only [List.singleton_append] at ih
    rw [ringK_succ] at ih
    have e1 : (pre ++ d :: x :: r).getD pre.length 0 = d := by simp
    have e2 : (pre ++ d :: x :: r).getD ((pre.length + 1) % (pre ++ d :: x :: r).length) 0 = x := by
      rw [Nat.mod_eq_of_lt (by simp)]; simp
    rw [e1, e2] at ih
    exact ih
theorem oR_rel {n : Nat} {g : List (List Int)} {v : Nat} {m : List Int} {q : List Int} (f : Nat → List Int → List Int × List Int → Option (List Int × List Int)) (G : List Int → List Int)
    (hf : ∀ x m1 row1, x.Perm q → AG g v m1 m → PV g v m1 → row1.length ≤ 101 → ∃ m', AG g v m' m ∧ PV g v m' ∧ EV (fun k => f k x (m1, row1)) (m', (G x).foldl bumpT row1) ∧ ((G x).foldl bumpT row1).length ≤ 101) (hq : q.length = n) :
    ∀ (a k : Nat) (xs : List Int) (m1 row1 : List Int), k + a = n → xs.Perm q → AG g v m1 m → PV g v m1 → row1.length ≤ 101 →
      ∃ m', AG g v m' m ∧ PV g v m' ∧ EV (fun K => impl_GenusRow.oR (f K) a k xs (m1, row1)) (m', ((ordA a k xs).flatMap G).foldl bumpT row1) ∧ (((ordA a k xs).flatMap G).foldl bumpT row1).length ≤ 101 := by
  intro a
  induction a with
  | zero =>
    intro k xs m1 row1 _ hx ha hp hr
    obtain ⟨m', h1, h2, h3, h4⟩ := hf xs m1 row1 hx ha hp hr
    exact ⟨m', h1, h2, by simpa [impl_GenusRow.oR, ordA] using h3, by simpa [ordA] using h4⟩
  | succ a ih =>
    intro k xs m1 row1 hk hx ha hp hr
    have hl := hx.length_eq
    have go : ∀ c i m1 row1, i + c ≤ n → AG g v m1 m → PV g v m1 → row1.length ≤ 101 →
        ∃ m', AG g v m' m ∧ PV g v m' ∧ EV (fun K => impl_GenusRow.oL (impl_GenusRow.oR (f K) a (k + 1)) k xs c i (m1, row1)) (m', ((ordB (ordA a (k + 1)) k xs c i).flatMap G).foldl bumpT row1) ∧ (((ordB (ordA a (k + 1)) k xs c i).flatMap G).foldl bumpT row1).length ≤ 101 := by
      intro c
      induction c with
      | zero => intro i m1 row1 _ ha hp hr; exact ⟨m1, ha, hp, EV.now _, hr⟩
      | succ c ihc =>
        intro i m1 row1 hi ha hp hr
        obtain ⟨m2, h1, h2, h3, h4⟩ := ih (k + 1) (swG xs k i) m1 row1 (by omega) ((swG_perm xs (by omega) (by omega)).trans hx) ha hp hr
        obtain ⟨m3, k1, k2, k3, k4⟩ := ihc (i + 1) m2 _ (by omega) h1 h2 h4
        refine ⟨m3, k1, k2, ?_, by simpa [ordB, List.foldl_append] using k4⟩
        refine EV.bind h3 ?_
        simpa [ordB, List.foldl_append] using k3
    exact go (a + 1) k m1 row1 (by omega) ha hp hr
theorem PV.like {g : List (List Int)} {v : Nat} {a b : List Int} (h : PV g v b) (ha : AG g v a b) : PV g v a := ⟨ha.1, fun u hu => by
  have p := h.2 u hu
  constructor
  · intro d hd; rw [ha.2.2 u hu d hd]; exact p.1 d hd
  · intro d hd d' hd' q
    rw [ha.2.2 u hu d hd, ha.2.2 u hu d' hd'] at q
    exact p.2 d hd d' hd' q⟩
theorem ordI_mem {g : List (List Int)} (v : Nat) : ∀ os ∈ ordI (ds g v), os.Perm (ds g v) := fun os ho => (ord7_ordI (ds_nodup g v)).2 os ho
theorem flatMap_map' {α β γ : Type} (f : α → β) (h : β → List γ) : ∀ l : List α, (l.map f).flatMap h = l.flatMap fun x => h (f x)
  | [] => rfl
  | x :: l => by rw [List.map_cons, List.flatMap_cons, List.flatMap_cons, flatMap_map' f h l]
theorem impl_GenusRow_gF {g : List (List Int)} (hg : graphB g = true) (hd : ∀ u, u < 7 → (ds g u).length ≤ 7) : ∀ (c v : Nat) (m row : List Int), v + c = 7 → PV g v m → row.length ≤ 101 →
    ∃ m', AG g v m' m ∧ EV (fun k => impl_GenusRow.gF k ((List.range 7).map fun v : Nat => dartsF (v : Int) 0 g) c (v : Int) (m, row)) (m', (GL (fun v => ordI (ds g v)) c v m).foldl bumpT row) ∧ ((GL (fun v => ordI (ds g v)) c v m).foldl bumpT row).length ≤ 101
  | 0, v, m, row, hv, hP, hr => by
    have : v = 7 := by omega
    subst this
    obtain ⟨b1, b2, b3, b4, b5⟩ := leaf_bd hg hP
    obtain ⟨u1, u2⟩ := bump_now b4 b5 hr
    refine ⟨m, AG.rfl hP.1, ?_, by simpa [GL] using u2⟩
    refine EV.congr (fun k => by rw [impl_GenusRow.gF]) (EV.bind (impl_GenusOf_is (leaf_map hg hP)) (EV.by u1 (EV.now (m, bumpT row (genN m)))))
  | c + 1, v, m, row, hv, hP, hr => by
    have hv7 : v < 7 := by omega
    have hdv := hd v hv7
    have hx : rd_L2 ((List.range 7).map fun v : Nat => dartsF (v : Int) 0 g) (v : Int) = ds g v := by
      rw [rdL_tab 7 _ _ (by omega) (by omega), Int.toNat_natCast]; rfl
    have hlen : (v : Int) < (((List.range 7).map fun v : Nat => dartsF (v : Int) 0 g).length : Int) := by simp; omega
    have ev1 : ((v : Int) + 1) = ((v + 1 : Nat) : Int) := by omega
    rcases hds : ds g v with _ | ⟨a, r⟩
    · have hPn : PV g (v + 1) m := by
        have := hP.ring (os := []) (by rw [hds])
        exact this
      obtain ⟨m', h1, h2, h3⟩ := impl_GenusRow_gF hg hd c (v + 1) m row (by omega) hPn hr
      have eG : GL (fun v => ordI (ds g v)) (c + 1) v m = GL (fun v => ordI (ds g v)) c (v + 1) m := by
        simp only [GL, hds, ordI, List.flatMap_cons, List.flatMap_nil, List.append_nil]; rfl
      rw [eG]
      refine ⟨m', h1.down, ?_, h3⟩
      refine EV.congr (fun k => by rw [impl_GenusRow.gF, hx, hds]) (EV.pos hlen (EV.pos (c := ([] : List Int).length = 0) rfl ?_))
      rw [ev1]; exact h2
    · have hlr : r.length + 1 ≤ 7 := by rw [hds] at hdv; simpa using hdv
      have hin := ds_in g v
      rw [hds] at hin
      have ha0 := hin a List.mem_cons_self
      obtain ⟨m', h1, h2, h3, h4⟩ := oR_rel (g := g) (v := v) (m := m) (q := r) (n := r.length)
        (fun k others st => (impl_GenusRow.rg others a a st.1).bind fun m' => impl_GenusRow.gF k ((List.range 7).map fun v : Nat => dartsF (v : Int) 0 g) c ((v : Int) + 1) (m', st.2)) (fun x => GL (fun v => ordI (ds g v)) c (v + 1) (ringM m (a :: x)))
        (fun x m1 row1 hxq ha hp hr1 => by
          have ho : (a :: x).Perm (ds g v) := by rw [hds]; exact hxq.cons a
          obtain ⟨m2, e1, e2, e3⟩ := impl_GenusRow_gF hg hd c (v + 1) (ringM m1 (a :: x)) row1 (by omega) (hp.ring ho) hr1
          have eG : GL (fun v => ordI (ds g v)) c (v + 1) (ringM m1 (a :: x)) = GL (fun v => ordI (ds g v)) c (v + 1) (ringM m (a :: x)) := GL_same hg (fun v => ordI_mem v) c (v + 1) _ _ (by omega) (ha.ring ho)
          rw [eG] at e2 e3
          have ha2 : AG g v m2 m1 := e1.down.trans (AG.stay hp.1 ho)
          refine ⟨m2, ha2.trans ha, hp.like ha2, ?_, e3⟩
          have hl1 := hp.1
          have := rg_is (n := m1.length) a x [] a m1 rfl ha0.1 (by omega) (fun y hy => by
            have := hin y (List.mem_cons_of_mem _ (hxq.mem_iff.1 hy)); omega) rfl
          refine EV.by this ?_
          rw [ev1]; exact e2) rfl r.length 0 r m row (by omega) (.refl _) (AG.rfl hP.1) hP hr
      have eG : GL (fun v => ordI (ds g v)) (c + 1) v m = (ordA r.length 0 r).flatMap fun x => GL (fun v => ordI (ds g v)) c (v + 1) (ringM m (a :: x)) := by
        simp only [GL, hds, ordI]
        rw [flatMap_map']
      rw [eG]
      refine ⟨m', h1, ?_, h4⟩
      refine EV.congr (fun k => by rw [impl_GenusRow.gF, hx, hds]) (EV.pos hlen (EV.neg (by simp) (EV.pos (by simp; omega) ?_)))
      exact h3
theorem impl_GenusRow_is (g : List (List Int)) (hn : g.length ≤ 1048576) : EV (fun k => impl_GenusRow.f k g) (rowM' g) := by
  refine EV.bind (impl_IsGraph_is g (by omega)) ?_
  unfold rowM'
  by_cases hg : graphB g = true
  · obtain ⟨r1, r2⟩ := rot_bd hg
    have G := graphB_of hg
    refine EV.pos hg (EV.bind (impl_CountRotations_is g (by omega)) ?_)
    by_cases h : rotM g ≤ 2000
    · rw [if_pos ⟨hg, h⟩]
      obtain ⟨m', _, e, _⟩ := impl_GenusRow_gF hg (r2 h) 7 0 (List.replicate (2 * g.length) 0) [] rfl (PV_zero g) (by simp)
      refine EV.neg (by omega) (EV.bind (impl_dartsAt_is g hg) (EV.pos (by omega) (EV.bind e ((EV.now _).eq ?_))))
      exact rowG_same g
    · rw [if_neg (fun c => h c.2)]
      exact EV.pos (by omega) (EV.now _)
  · rw [if_neg (fun c => hg c.1)]
    exact EV.neg hg (EV.now _)

theorem spec_FormatInt_l0 (b : Bool) : ∀ (d : Nat) (n : Int) (out : List UInt8), n.natAbs < 10 ^ d → -9223372036854775808 ≤ n → n ≤ 9223372036854775807 → out.length + d ≤ 50 →
    EV (fun k => spec_FormatInt.l0 k n b (bs out)) (bs ((if b = true then [45] else []) ++ ((if n = 0 then [] else Lib.decDigits n.natAbs) ++ out))) := by
  intro d
  induction d with
  | zero =>
    intro n out h _ _ hs
    have h0 : n = 0 := by simp at h; omega
    refine EV.step (fun k => by rw [spec_FormatInt.l0]) (EV.pos h0 ?_)
    refine EV.cases (fun hb => ?_) (fun hb => (EV.now _).eq (by simp [hb, h0]))
    exact EV.pos (by rw [bs_size]; omega) ((EV.now _).eq (by show bs [45] ++ bs out = _; rw [bs_app]; simp [hb, h0]))
  | succ d ih =>
    intro n out h h1 h2 hs
    refine EV.step (fun k => by rw [spec_FormatInt.l0]) ?_
    by_cases h0 : n = 0
    · refine EV.pos h0 ?_
      refine EV.cases (fun hb => ?_) (fun hb => (EV.now _).eq (by simp [hb, h0]))
      exact EV.pos (by rw [bs_size]; omega) ((EV.now _).eq (by show bs [45] ++ bs out = _; rw [bs_app]; simp [hb, h0]))
    · have q1 : (Int.tdiv n 10).natAbs = n.natAbs / 10 := by rw [Int.natAbs_tdiv]; rfl
      have q2 : (Int.tmod n 10).natAbs = n.natAbs % 10 := by rw [Int.natAbs_tmod]; rfl
      have hm : n.natAbs % 10 < 10 := Nat.mod_lt _ (by omega)
      have e : wrap64 (Int.tdiv n 10) = Int.tdiv n 10 := w64 (by omega) (by omega)
      have key : ∀ c : Int, c = 48 + ((n.natAbs % 10 : Nat) : Int) →
          EV (fun k => (some ([c % 256] : List Int)).bind fun y => if (strOfNums y).size + (bs out).size ≤ 9223372036854775807 then spec_FormatInt.l0 k (wrap64 (Int.tdiv n 10)) b (strOfNums y ++ bs out) else none)
            (bs ((if b = true then [45] else []) ++ ((if n = 0 then [] else Lib.decDigits n.natAbs) ++ out))) := by
        intro c hc
        have e1 : strOfNums [c % 256] = bs [UInt8.ofNat (48 + n.natAbs % 10)] := by
          have : (c % 256).toNat = 48 + n.natAbs % 10 := by omega
          simp only [strOfNums, bs, List.map_cons, List.map_nil, this]
        refine EV.by rfl ?_
        rw [e1, bs_app, e]
        refine EV.pos (by rw [bs_size, bs_size]; simp; omega) ((ih (Int.tdiv n 10) _ (by rw [q1]; rw [Nat.pow_succ] at h; omega) (by omega) (by omega) (by simp; omega)).eq ?_)
        congr 2
        rw [if_neg h0, q1]
        conv => rhs; rw [Lib.decDigits]
        by_cases c10 : n.natAbs < 10
        · rw [dif_pos c10, if_pos (by omega), Nat.mod_eq_of_lt c10]; simp
        · rw [dif_neg c10, if_neg (by omega)]; simp
      refine EV.neg h0 (EV.cases (fun hn => ?_) (fun hn => ?_))
      · exact key _ (by rw [wrap_neg _ (by omega), w64 (by omega) (by omega)]; omega)
      · exact key _ (by rw [w64 (by omega) (by omega)]; omega)
theorem spec_FormatInt_is (n : Int) (h1 : -9223372036854775808 ≤ n) (h2 : n ≤ 9223372036854775807) : EV (fun k => spec_FormatInt.f k n) (fmtM n) := by
  unfold spec_FormatInt.f
  refine EV.cases (fun h => (EV.now _).eq ?_) (fun h => (spec_FormatInt_l0 (decide (n < 0)) 20 n [] (by omega) h1 h2 (by simp)).eq ?_)
  · subst h
    show bs [48] = bs (Lib.itoa 0)
    unfold Lib.itoa
    rw [if_neg (by omega), Lib.decDigits]; rfl
  · show _ = bs (Lib.itoa n)
    unfold Lib.itoa
    by_cases hn : n < 0
    · simp [hn, h]
    · have : n.toNat = n.natAbs := by omega
      simp [hn, h, this]

theorem spec_Join_l0 (xs : List ByteArray) (sep : ByteArray) (hn : xs.length ≤ 1000) (hs : sep.size ≤ 1000) (hx : ∀ x ∈ xs, x.size ≤ 1000) : ∀ (l : List ByteArray) (i : Nat) (out : List Int), xs.drop i = l → i + l.length = xs.length → out.length ≤ 2000 * i →
    EV (fun k => spec_Join.l0 k xs sep out (i : Int)) (strOfNums (out ++ jt sep (decide (i = 0)) l)) := by
  intro l
  induction l with
  | nil =>
    intro i out hd hl ho
    refine EV.step (fun k => by rw [spec_Join.l0]) (EV.neg (by simp at hl; omega) ((EV.now _).eq (by simp [jt])))
  | cons x r ih =>
    intro i out hd hl ho
    obtain ⟨hi, hr, hd2⟩ := rdOf_drop hd
    have sx : x.size ≤ 1000 := hx x (by have : x ∈ xs.drop i := by rw [hd]; simp
                                        exact List.mem_of_mem_drop this)
    have e2 : wrap64 ((i : Int) + 1) = ((i + 1 : Nat) : Int) := by rw [w64 (by omega) (by omega)]; omega
    refine EV.step (fun k => by rw [spec_Join.l0]) (EV.pos (by omega) ?_)
    rw [hr, e2]
    refine EV.cases (fun h => ?_) (fun h => ?_)
    · refine EV.pos (by omega) (EV.by rfl (EV.pos (by omega) (EV.pos (by rw [List.length_append, bytesOf_len]; omega) ?_)))
      have := ih (i + 1) ((out ++ bytesOf sep) ++ bytesOf x) hd2 (by simp at hl; omega) (by simp only [List.length_append, bytesOf_len]; omega)
      refine this.eq ?_
      have d1 : decide (i + 1 = 0) = false := by simp
      have d2 : decide (i = 0) = false := by simp; omega
      rw [d1, d2]
      simp [jt]
    · refine EV.pos (by omega) (EV.pos (by omega) ?_)
      have := ih (i + 1) (out ++ bytesOf x) hd2 (by simp at hl; omega) (by simp only [List.length_append, bytesOf_len]; omega)
      refine this.eq ?_
      have d1 : decide (i + 1 = 0) = false := by simp
      have d2 : decide (i = 0) = true := by simp; omega
      rw [d1, d2]
      simp [jt]
theorem spec_Join_is (xs : List ByteArray) (sep : ByteArray) (hn : xs.length ≤ 1000) (hs : sep.size ≤ 1000) (hx : ∀ x ∈ xs, x.size ≤ 1000) : EV (fun k => spec_Join.f k xs sep) (joinM xs sep) := by
  have := spec_Join_l0 xs sep hn hs hx xs 0 [] rfl (by omega) (by simp)
  exact this.eq (by rw [← jt_join]; rfl)

theorem spec_GraphText_l0 (g : List (List Int)) (hg : ∀ e ∈ g, edgeB e = true) (hn : g.length ≤ 10) : ∀ (l : List (List Int)) (i : Nat) (acc : List ByteArray), g.drop i = l → i + l.length = g.length → acc = (g.take i).map edgeT →
    EV (fun k => spec_GraphText.l0 k g acc (i : Int)) (joinM (g.map edgeT) (⟨#[32]⟩ : ByteArray)) := by
  intro l
  induction l with
  | nil =>
    intro i acc hd hl ha
    refine EV.step (fun k => by rw [spec_GraphText.l0]) (EV.neg (by simp at hl; omega) ?_)
    have : acc = g.map edgeT := by rw [ha, List.take_of_length_le (by simp at hl; omega)]
    rw [this]
    exact EV.bind (spec_Join_is _ _ (by simp; omega) (by decide) (map_sizes hg)) (EV.now _)
  | cons x r ih =>
    intro i acc hd hl ha
    obtain ⟨hi, hr, hd2⟩ := rdL_drop hd
    have hx : edgeB x = true := hg x (by have : x ∈ g.drop i := by rw [hd]; simp
                                         exact List.mem_of_mem_drop this)
    obtain ⟨b0, b1, b2, b3, b4⟩ := edge_bd hx
    have e2 : wrap64 ((i : Int) + 1) = ((i + 1 : Nat) : Int) := by rw [w64 (by omega) (by omega)]; omega
    have a1 := fmtM_size (rd x 0) (by omega) (by omega)
    have a2 := fmtM_size (rd x 1) (by omega) (by omega)
    have la : acc.length ≤ 10 := by rw [ha]; simp; omega
    refine EV.step (fun k => by rw [spec_GraphText.l0]) (EV.pos (by omega) ?_)
    rw [hr, e2]
    refine EV.pos (by omega) (EV.pos (by omega) (EV.bind (spec_FormatInt_is _ (by omega) (by omega)) (EV.pos (by omega) (EV.bind (spec_FormatInt_is _ (by omega) (by omega)) (EV.pos (by omega) (EV.pos (by omega) ?_))))))
    refine ih (i + 1) _ hd2 (by simp at hl; omega) ?_
    rw [ha, ← List.take_append_getElem hi, List.map_append]
    have : g[i] = x := by rw [List.drop_eq_getElem_cons hi] at hd; injection hd
    rw [this]; rfl
theorem spec_GraphText_is (g : List (List Int)) (hn : g.length < 4611686018427387904) : EV (fun k => spec_GraphText.f k g) (graphTextM g) := by
  unfold spec_GraphText.f graphTextM
  refine EV.bind (spec_IsGraph_is g hn) (EV.cases (fun h => ?_) (fun h => (EV.now _).eq (by rw [if_neg h])))
  rw [if_pos h]
  have p := graph_parts h
  exact spec_GraphText_l0 g p.1 p.2 g 0 [] rfl (by omega) (by simp)

theorem spec_l1Pick_is (b : List Int) (i h : Int) (l : List ByteArray) (hb : b.length ≤ 1048576) (hi : 0 ≤ i) (h1 : 0 < l.length) (h2 : l.length ≤ 256) : ∃ x i' h', spec_l1Pick.f b i h l = some (x, i', h') ∧ x ∈ l ∧ 0 ≤ i' := by
  obtain ⟨x, i', h', e, a, c, d⟩ := spec_l1Below_is b i h l.length hb hi (by omega) (by omega)
  unfold spec_l1Pick.f
  rw [e]
  simp only [Option.bind_some]
  rw [if_pos a, if_pos c]
  refine ⟨_, _, _, rfl, ?_, d⟩
  have hx : x.toNat < l.length := by omega
  have : rdOf ByteArray.empty l x = l[x.toNat] := by simp [rdOf, hx]
  rw [this]; exact List.getElem_mem _

theorem ext_size (s : ByteArray) (i j : Nat) : (s.extract i j).size ≤ s.size := by
  rw [ByteArray.size_extract]; omega
theorem spec_l1Turned_is (b : List Int) (i h : Int) (s : ByteArray) (l : List ByteArray) (hb : b.length ≤ 1048576) (hi : 0 ≤ i) (hs : s.size ≤ 255) (h1 : 0 < l.length) (h2 : l.length ≤ 256) (hl : ∀ x ∈ l, x.size ≤ 1) :
    ∃ x i' h', spec_l1Turned.f b i h s l = some (x, i', h') ∧ x.size ≤ 1000 ∧ 0 ≤ i' := by
  obtain ⟨a, c1, x1, e1, a0, a1, k1⟩ := spec_l1Below_is b i h ((s.size : Int) + 1) hb hi (by omega) (by omega)
  obtain ⟨d, c2, x2, e2, d0, d1, k2⟩ := spec_l1Below_is b c1 x1 6 hb k1 (by omega) (by omega)
  obtain ⟨y, c3, x3, e3, hy, k3⟩ := spec_l1Pick_is b c2 x2 l hb k2 h1 h2
  have b1 := ext_size s 0 a.toNat
  have b2 := ext_size s a.toNat s.size
  have b3 := hl y hy
  have n1 : ((s.extract 0 a.toNat) ++ y).size = (s.extract 0 a.toNat).size + y.size := ByteArray.size_append
  have n2 : (((s.extract 0 a.toNat) ++ y) ++ (s.extract a.toNat s.size)).size = ((s.extract 0 a.toNat) ++ y).size + (s.extract a.toNat s.size).size := ByteArray.size_append
  unfold spec_l1Turned.f
  rw [w64 (x := (s.size : Int) + 1) (by omega) (by omega), e1]
  simp only [Option.bind_some]
  rw [e2]
  simp only [Option.bind_some]
  by_cases h0 : d = 0
  · rw [if_pos h0, if_pos a0, if_pos (by omega), e3]
    simp only [Option.bind_some]
    rw [if_pos (by omega), if_pos (by omega)]
    exact ⟨_, _, _, rfl, by omega, k3⟩
  · rw [if_neg h0]
    by_cases h1' : d = 1
    · rw [if_pos h1', if_pos a0, if_pos (by omega)]
      exact ⟨_, _, _, rfl, by omega, k2⟩
    · rw [if_neg h1']
      exact ⟨_, _, _, rfl, by omega, k2⟩

theorem text_small {g : List (List Int)} (h : drawnG g) : (graphTextM g).size ≤ 255 := by
  unfold graphTextM
  rw [if_pos (drawnG_graph h)]
  have := join_len (g.map edgeT) (⟨#[32]⟩ : ByteArray) 2 (by decide) (fun x hx => by
    obtain ⟨e, he, rfl⟩ := List.mem_map.1 hx
    obtain ⟨a, c, _, _, _, q⟩ := edge_txt (small_edge (h.1 e he))
    rw [q]; simp [bs, ByteArray.size])
  rw [List.length_map] at this
  have h2 := h.2.2
  show (joinM (g.map edgeT) (⟨#[32]⟩ : ByteArray)).size ≤ 255
  have e : (joinM (g.map edgeT) (⟨#[32]⟩ : ByteArray)).size = (Lib.join ((g.map edgeT).map (·.data.toList)) (⟨#[32]⟩ : ByteArray).data.toList).length := by
    unfold joinM bs; simp [ByteArray.size]
  rw [e]; omega
theorem spec_DrawParseGraph_is (b : List Int) (hb : b.length ≤ 1048576) : ∃ t : ByteArray, EV (fun k => spec_DrawParseGraph.f k b) t ∧ t.size ≤ 1000 := by
  obtain ⟨h, E⟩ := spec_l1New_is b hb
  obtain ⟨R, c2, h2, E2, r, k2⟩ := spec_l7Draw_is b 0 h hb (by omega)
  obtain ⟨t, c3, h3, e3, l, k3⟩ := spec_l1Turned_is b c2 h2 (graphTextM R) [(⟨#[32]⟩ : ByteArray), (⟨#[48]⟩ : ByteArray), (⟨#[49]⟩ : ByteArray), (⟨#[55]⟩ : ByteArray), (⟨#[120]⟩ : ByteArray)] hb k2 (text_small r) (by decide) (by decide) (by decide)
  exact ⟨t, EV.bind E (EV.bind E2 (EV.bind (spec_GraphText_is R (by have := r.2; omega)) (EV.by e3 (EV.now _)))), l⟩

theorem impl_SplitByte_l0 (s : ByteArray) (c : Int) (hs : s.size ≤ 1048576) : ∀ (n st i : Nat) (acc : List ByteArray), i + n = s.size → st ≤ i → acc.length ≤ i →
    EV (fun k => impl_SplitByte.l0 k s c acc (st : Int) (s.size : Int) (i : Int)) (acc ++ spM s c n st i) := by
  intro n
  induction n with
  | zero =>
    intro st i acc h hst ha
    have e : i = s.size := by omega
    refine EV.step (fun k => by rw [impl_SplitByte.l0]) ?_
    refine EV.neg (by omega) (EV.pos (by omega) (EV.pos (by omega) (EV.pos (by omega) ((EV.now _).eq (by simp [spM, e])))))
  | succ n ih =>
    intro st i acc h hst ha
    refine EV.step (fun k => by rw [impl_SplitByte.l0]) ?_
    rw [w64 (x := (i : Int) + 1) (by omega) (by omega)]
    refine EV.pos (by omega) (EV.pos (by omega) (EV.pos (by omega) ?_))
    refine EV.cases (fun hc => ?_) (fun hc => ?_)
    · refine EV.pos (by omega) (EV.pos (by omega) (EV.pos (by omega) (EV.pos (by omega) ?_)))
      have := ih (i + 1) (i + 1) (acc ++ [s.extract st i]) (by omega) (by omega) (by simp; omega)
      refine EV.congr (fun k => by simp) (this.eq ?_)
      simp [spM, hc]
    · have := ih st (i + 1) acc (by omega) (by omega) (by omega)
      refine EV.congr (fun k => by simp) (this.eq ?_)
      simp [spM, hc]
theorem impl_SplitByte_is (s : ByteArray) (c : Int) (hs : s.size ≤ 1048576) : EV (fun k => impl_SplitByte.f k s c) (splitM s c) := by
  have := impl_SplitByte_l0 s c hs s.size 0 0 [] (by omega) (by omega) (by simp)
  exact this

theorem impl_ParseGraph_l0 (ps : List ByteArray) (hl : ps.length ≤ 1048577) : ∀ (suf pre : List ByteArray), ps = pre ++ suf → pre.all (fun p => decide (p.size = 2)) = true →
    EV (fun k => impl_ParseGraph.l0 k (pre.map pairOf) ps (ps.length : Int) (pre.length : Int)) (parseL ps) := by
  intro suf
  induction suf with
  | nil =>
    intro pre h hp
    have e : pre = ps := by simp [h]
    subst e
    refine EV.step (fun k => by rw [impl_ParseGraph.l0]) ?_
    refine EV.neg (by omega) (EV.bind (impl_IsGraph_is _ (by simp; omega)) ?_)
    unfold parseL
    rw [if_pos hp]
    by_cases hg : graphB (pre.map pairOf) = true
    · exact EV.pos hg ((EV.now _).eq (by rw [if_pos hg]))
    · exact EV.neg hg ((EV.now _).eq (by rw [if_neg hg]))
  | cons p suf ih =>
    intro pre h hp
    have hpl : pre.length < 1048577 := by subst h; simp at hl; omega
    have hlt : (pre.length : Int) < (ps.length : Int) := by subst h; exact lt_app ..
    have hx : rdOf ByteArray.empty ps (pre.length : Int) = p := by subst h; exact rdOf_app ..
    refine EV.step (fun k => by rw [impl_ParseGraph.l0]) ?_
    have b0 := bt_bd p 0
    have b1 := bt_bd p 1
    rw [hx, up (x := p) (by omega), w64 (x := bt p 0) (by omega) (by omega), w64 (x := bt p 1) (by omega) (by omega), w64 (x := bt p 0 - 48) (by omega) (by omega), w64 (x := bt p 1 - 48) (by omega) (by omega)]
    refine EV.pos hlt (EV.pos (by omega) (EV.pos hlt ?_))
    by_cases h2 : p.size = 2
    · refine EV.pos (by omega) (EV.pos (by omega) (EV.pos (by omega) (EV.pos (by simp; omega) ?_)))
      have := ih (pre ++ [p]) (by simp [h]) (by rw [List.all_append, hp]; simp [h2])
      refine EV.congr (fun k => by simp [pairOf]) this
    · refine EV.neg (by omega) ((EV.now _).eq ?_)
      unfold parseL
      rw [if_neg]
      rw [h, List.all_append]
      simp [h2]
theorem impl_ParseGraph_is (s : ByteArray) (hs : s.size ≤ 1048576) : EV (fun k => impl_ParseGraph.f k s) (parseL (splitM s 32)) := by
  have hl : (splitM s 32).length ≤ 1048577 := by have := spM_len s 32 s.size 0 0; unfold splitM; omega
  refine EV.cases (fun h => (EV.now _).eq (parse_long s 32 (by omega)).symm) (fun h => ?_)
  exact EV.bind (impl_SplitByte_is s 32 hs) (impl_ParseGraph_l0 _ hl _ [] rfl (by simp))

theorem spec_SplitByte_l0 (s : ByteArray) (c : Int) (hs : s.size ≤ 1048576) : ∀ (n st i : Nat) (acc : List ByteArray), i + n = s.size → st ≤ i → acc.length ≤ i →
    EV (fun k => spec_SplitByte.l0 k s c acc (st : Int) (i : Int)) (acc ++ spM s c n st i) := by
  intro n
  induction n with
  | zero =>
    intro st i acc h hst ha
    refine EV.step (fun k => by rw [spec_SplitByte.l0]) ?_
    rw [w64 (x := (i : Int) + 1) (by omega) (by omega)]
    refine EV.pos (by omega) (EV.pos (by omega) (EV.pos (by omega) (EV.pos (by omega) (EV.pos (by omega) ?_))))
    refine EV.step (fun k => by rw [spec_SplitByte.l0]) ?_
    exact EV.neg (by omega) ((EV.now _).eq (by simp [spM]))
  | succ n ih =>
    intro st i acc h hst ha
    refine EV.step (fun k => by rw [spec_SplitByte.l0]) ?_
    rw [w64 (x := (i : Int) + 1) (by omega) (by omega)]
    refine EV.pos (by omega) (EV.neg (by omega) (EV.pos (by omega) (EV.pos (by omega) ?_)))
    refine EV.cases (fun hc => ?_) (fun hc => ?_)
    · refine EV.pos (by omega) (EV.pos (by omega) (EV.pos (by omega) ?_))
      have := ih (i + 1) (i + 1) (acc ++ [s.extract st i]) (by omega) (by omega) (by simp; omega)
      refine EV.congr (fun k => by simp) (this.eq ?_)
      simp [spM, hc]
    · have := ih st (i + 1) acc (by omega) (by omega) (by omega)
      refine EV.congr (fun k => by simp) (this.eq ?_)
      simp [spM, hc]
theorem spec_SplitByte_is (s : ByteArray) (c : Int) (hs : s.size ≤ 1048576) : EV (fun k => spec_SplitByte.f k s c) (splitM s c) := by
  have := spec_SplitByte_l0 s c hs s.size 0 0 [] (by omega) (by omega) (by simp)
  exact this

theorem spec_ParseGraph_l0 (ps : List ByteArray) (hl : ps.length ≤ 1048577) : ∀ (suf pre : List ByteArray), ps = pre ++ suf → pre.all (fun p => decide (p.size = 2)) = true →
    EV (fun k => spec_ParseGraph.l0 k (pre.map pairOf) ps (pre.length : Int)) (parseL ps) := by
  intro suf
  induction suf with
  | nil =>
    intro pre h hp
    have e : pre = ps := by simp [h]
    subst e
    refine EV.step (fun k => by rw [spec_ParseGraph.l0]) ?_
    refine EV.neg (by omega) (EV.bind (spec_IsGraph_is _ (by simp; omega)) ?_)
    unfold parseL
    rw [if_pos hp]
    by_cases hg : graphB (pre.map pairOf) = true
    · exact EV.pos hg ((EV.now _).eq (by rw [if_pos hg]))
    · exact EV.neg hg ((EV.now _).eq (by rw [if_neg hg]))
  | cons p suf ih =>
    intro pre h hp
    have hpl : pre.length < 1048577 := by subst h; simp at hl; omega
    have hlt : (pre.length : Int) < (ps.length : Int) := by subst h; exact lt_app ..
    have hx : rdOf ByteArray.empty ps (pre.length : Int) = p := by subst h; exact rdOf_app ..
    refine EV.step (fun k => by rw [spec_ParseGraph.l0]) ?_
    have b0 := bt_bd p 0
    have b1 := bt_bd p 1
    rw [hx, up (x := p) (by omega), w64 (x := bt p 0) (by omega) (by omega), w64 (x := bt p 1) (by omega) (by omega), w64 (x := bt p 0 - 48) (by omega) (by omega), w64 (x := bt p 1 - 48) (by omega) (by omega)]
    refine EV.pos hlt (EV.pos (by omega) ?_)
    by_cases h2 : p.size = 2
    · refine EV.pos (by omega) (EV.pos (by omega) (EV.pos (by omega) (EV.pos (by simp; omega) ?_)))
      have := ih (pre ++ [p]) (by simp [h]) (by rw [List.all_append, hp]; simp [h2])
      refine EV.congr (fun k => by simp [pairOf]) this
    · refine EV.neg (by omega) ((EV.now _).eq ?_)
      unfold parseL
      rw [if_neg]
      rw [h, List.all_append]
      simp [h2]
theorem spec_ParseGraph_is (s : ByteArray) (hs : s.size ≤ 1048576) : EV (fun k => spec_ParseGraph.f k s) (parseL (splitM s 32)) := by
  have hl : (splitM s 32).length ≤ 1048577 := by have := spM_len s 32 s.size 0 0; unfold splitM; omega
  exact EV.bind (spec_SplitByte_is s 32 hs) (spec_ParseGraph_l0 _ hl _ [] rfl (by simp))

theorem spec_DrawCompleteGraph_is (b : List Int) (hb : b.length ≤ 1048576) : ∃ n : Int, EV (fun k => spec_DrawCompleteGraph.f k b) n ∧ -1 ≤ n ∧ n ≤ 6 := by
  obtain ⟨h, E⟩ := spec_l1New_is b hb
  obtain ⟨x, c1, h1, e1, x0, x1, k1⟩ := spec_l1Below_is b 0 h 8 hb (by omega) (by omega) (by omega)
  exact ⟨x - 1, EV.bind E (EV.by e1 ((EV.now _).eq (w64 (by omega) (by omega)))), by omega, by omega⟩

theorem spec_DrawBipartiteGraph_is (b : List Int) (hb : b.length ≤ 1048576) : ∃ n m : Int, EV (fun k => spec_DrawBipartiteGraph.f k b) (n, m) ∧ (-1 ≤ n ∧ n ≤ 5) ∧ 0 ≤ m ∧ m ≤ 5 := by
  obtain ⟨h, E⟩ := spec_l1New_is b hb
  obtain ⟨x, c1, h1, e1, x0, x1, k1⟩ := spec_l1Below_is b 0 h 7 hb (by omega) (by omega) (by omega)
  obtain ⟨y, c2, h2, e2, y0, y1, k2⟩ := spec_l1Below_is b c1 h1 6 hb k1 (by omega) (by omega)
  exact ⟨x - 1, y, EV.bind E (EV.by e1 (EV.by e2 ((EV.now _).eq (by rw [w64 (x := x - 1) (by omega) (by omega)])))), by omega, by omega⟩

theorem spec_DrawRingGraph_is (b : List Int) (hb : b.length ≤ 1048576) : ∃ n : Int, EV (fun k => spec_DrawRingGraph.f k b) n ∧ 0 ≤ n ∧ n ≤ 8 := by
  obtain ⟨h, E⟩ := spec_l1New_is b hb
  obtain ⟨x, c1, h1, e1, x0, x1, k1⟩ := spec_l1Below_is b 0 h 9 hb (by omega) (by omega) (by omega)
  exact ⟨x, EV.bind E (EV.by e1 (EV.now _)), x0, by omega⟩

theorem impl_FirstRotation_is (g : List (List Int)) (hn : g.length < 4294967296) : EV (fun k => impl_FirstRotation.f k g) (firstM g) := by
  unfold firstM
  refine EV.bind (impl_IsGraph_is g (by omega)) ?_
  by_cases hg : graphB g = true
  · rw [if_pos hg]
    have G := graphB_of hg
    rw [w64 (x := 2 * (g.length : Int)) (by omega) (by omega)]
    refine EV.pos hg (EV.pos (by omega) (EV.pos (by omega) (EV.bind (impl_dartsAt_is g hg) ?_)))
    rw [show (2 * (g.length : Int)).toNat = 2 * g.length by omega, show (((List.range 7).map fun v : Nat => dartsF (v : Int) 0 g).length : Int) = 7 by simp]
    refine EV.count (g := fun k s i => impl_FirstRotation.l0 k s ((List.range 7).map fun v : Nat => dartsF (v : Int) 0 g) 7 i) 7 (firstK g) _ (fun i hi H => ?_) ?_
    · rw [firstK_succ] at H
      have hl := firstK_len g i
      have hd := degN_le (i : Int) g
      have hm := dartsF_mem (i : Int) g 0
      have hdl := dartsF_len (i : Int) g 0
      refine EV.step (fun k => by rw [impl_FirstRotation.l0]) ?_
      rw [rdL_tab 7 _ (i : Int) (by omega) (by omega), Int.toNat_natCast]
      refine EV.pos (by omega) (EV.pos (by omega) (EV.pos (by simp; omega) ?_))
      generalize dartsF (i : Int) 0 g = ds at *
      refine EV.count (g := fun k s j => impl_FirstRotation.l1 k s ds ((List.range 7).map fun v : Nat => dartsF (v : Int) 0 g) 7 (i : Int) ds (ds.length : Int) j) ds.length (ringK (firstK g i) ds) _ (fun j hj H' => ?_) ?_
      · have hx := hm _ (List.getElem_mem hj)
        have hmod := Nat.mod_lt (j + 1) (show 0 < ds.length by omega)
        have em : Int.tmod ((j : Int) + 1) (ds.length : Int) = (((j + 1) % ds.length : Nat) : Int) := by
          rw [show (j : Int) + 1 = ((j + 1 : Nat) : Int) by omega, Int.tmod_eq_emod_of_nonneg (by omega)]; omega
        rw [ringK_succ] at H'
        have hl' := ringK_len (firstK g i) ds j
        refine EV.step (fun k => by rw [impl_FirstRotation.l1]) ?_
        rw [w64 (x := (j : Int) + 1) (by omega) (by omega), em, rd_nat _ _ hj, rd_nat _ _ hmod]
        refine EV.pos (by omega) (EV.pos (by omega) (EV.pos (by omega) (EV.neg (by omega) (EV.pos (by omega) (EV.pos (by omega) (EV.pos (by omega) (EV.pos (by omega) ?_)))))))
        have e1 : ds.getD j 0 = ds[j] := by simp [hj]
        have e2 : ds.getD ((j + 1) % ds.length) 0 = ds[(j + 1) % ds.length] := by simp [hmod]
        rw [e1, e2] at H'
        exact H'
      · refine EV.step (fun k => by rw [impl_FirstRotation.l1]) ?_
        rw [w64 (x := (i : Int) + 1) (by omega) (by omega)]
        exact EV.neg (by omega) H
    · refine EV.step (fun k => by rw [impl_FirstRotation.l0]) ?_
      exact EV.neg (by omega) (EV.now _)
  · rw [if_neg hg]
    exact EV.neg hg (EV.now _)

theorem laws_sameInts_self (a : List Int) (ha : a.length ≤ 1048576) : EV (fun k => laws_sameInts.f k a a) true := by
  refine EV.pos rfl ?_
  have := EV.scan (g := fun k i => laws_sameInts.l0 k a a i) a (fun _ => true) true (fun i hi r H1 _ => ?_) ?_
  · rw [show (a.all fun _ => true) = true from List.all_eq_true.2 (fun _ _ => rfl), Bool.true_and] at this
    exact this
  · refine EV.step (fun k => by rw [laws_sameInts.l0]) ?_
    rw [w64 (x := (i : Int) + 1) (by omega) (by omega)]
    exact EV.pos (by omega) (EV.pos (by omega) (EV.pos (by omega) (EV.pos rfl (H1 rfl))))
  · refine EV.step (fun k => by rw [laws_sameInts.l0]) ?_
    exact EV.neg (by omega) (EV.now _)

theorem spec_l7Darts_l0 (g : List (List Int)) (v : Int) (hg : graphB g = true) : ∀ (suf pre : List (List Int)) (acc : List Int), g = pre ++ suf → acc.length ≤ 2 * pre.length →
    EV (fun k => spec_l7Darts.l0 k g v acc (pre.length : Int)) (acc ++ dartsF v pre.length suf) := by
  have G := graphB_of hg
  intro suf
  induction suf with
  | nil =>
    intro pre acc h ha
    refine EV.step (fun k => by rw [spec_l7Darts.l0]) ?_
    exact EV.neg (by subst h; simp) ((EV.now _).eq (by simp [dartsF]))
  | cons e suf ih =>
    intro pre acc h ha
    obtain ⟨a, b, rfl, _⟩ := edgeB_of (G.1 e (by subst h; simp))
    have hpl : pre.length < 10 := by subst h; simp at G; omega
    have hl : pre.length < 4611686018427387904 := by omega
    have hlt : (pre.length : Int) < (g.length : Int) := by subst h; exact lt_app ..
    have hx : rd_L2 g (pre.length : Int) = [a, b] := by subst h; exact rdL_app ..
    have last : ∀ acc'' : List Int, acc''.length ≤ 2 * pre.length + 2 → EV (fun k => spec_l7Darts.l1 k g v acc'' (pre.length : Int) 2) (acc'' ++ dartsF v (pre.length + 1) suf) := by
      intro acc'' ha
      refine EV.step (fun k => by rw [spec_l7Darts.l1]) ?_
      rw [up (x := [a, b]) hl]
      refine EV.neg (by omega) ?_
      have := ih (pre ++ [[a, b]]) acc'' (by simp [h]) (by simp; omega)
      simpa using this
    have two : ∀ acc' : List Int, acc'.length ≤ 2 * pre.length + 1 → EV (fun k => spec_l7Darts.l1 k g v acc' (pre.length : Int) 1) (acc' ++ ((if b = v then [2 * (pre.length : Int) + 1] else []) ++ dartsF v (pre.length + 1) suf)) := by
      intro acc' ha'
      refine EV.step (fun k => by rw [spec_l7Darts.l1]) ?_
      rw [hx, wrap_11, w64 (x := 2 * (pre.length : Int)) (by omega) (by omega), w64 (x := 2 * (pre.length : Int) + 1) (by omega) (by omega), show rd [a, b] 1 = b from rfl]
      refine EV.pos (by omega) (EV.pos (by omega) (EV.pos hlt (EV.pos (by omega) (EV.pos (by simp) ?_))))
      exact EV.cases (fun c => EV.pos (by omega) ((last (acc' ++ [2 * (pre.length : Int) + 1]) (by simp; omega)).eq (by simp [c]))) (fun c => (last acc' (by omega)).eq (by simp [c]))
    refine EV.step (fun k => by rw [spec_l7Darts.l0]) (EV.pos hlt ?_)
    refine EV.step (fun k => by rw [spec_l7Darts.l1]) ?_
    rw [hx, wrap_01, w64 (x := 2 * (pre.length : Int)) (by omega) (by omega), w64 (x := 2 * (pre.length : Int) + 0) (by omega) (by omega), show rd [a, b] 0 = a from rfl]
    refine EV.pos (by omega) (EV.pos (by omega) (EV.pos hlt (EV.pos (by omega) (EV.pos (by simp) ?_))))
    exact EV.cases (fun c => EV.pos (by omega) ((two (acc ++ [2 * (pre.length : Int) + 0]) (by simp; omega)).eq (by simp [c, dartsF]))) (fun c => (two acc (by omega)).eq (by simp [c, dartsF]))
theorem spec_l7Darts_is (g : List (List Int)) (v : Int) (hg : graphB g = true) : EV (fun k => spec_l7Darts.f k g v) (dartsF v 0 g) := by
  have := spec_l7Darts_l0 g v hg g [] [] rfl (by simp)
  exact this

theorem spec_DegreesOf_is (g : List (List Int)) (hn : g.length < 4611686018427387904) : EV (fun k => spec_DegreesOf.f k g) (degM g) := by
  unfold degM
  by_cases hg : graphB g = true
  · rw [if_pos hg]
    refine EV.count (g := fun k s i => spec_DegreesOf.l0 k g s i) 7 (fun i => (List.range i).map fun v : Nat => (degN (v : Int) g : Int)) _ (fun i hi H => ?_) ?_
    · refine EV.step (fun k => by rw [spec_DegreesOf.l0]) ?_
      rw [w64 (x := (i : Int) + 1) (by omega) (by omega)]
      refine EV.pos (by omega) (EV.bind (spec_IsGraph_is g hn) (EV.pos hg (EV.bind (spec_l7Darts_is g (i : Int) hg) (EV.pos (by simp; omega) ?_))))
      rw [dartsF_len]
      simpa [List.range_succ] using H
    · refine EV.step (fun k => by rw [spec_DegreesOf.l0]) ?_
      exact EV.neg (by omega) (EV.now _)
  · rw [if_neg hg]
    show EV (fun k => spec_DegreesOf.l0 k g [] 0) []
    refine EV.step (fun k => by rw [spec_DegreesOf.l0]) ?_
    exact EV.pos (by omega) (EV.bind (spec_IsGraph_is g hn) (EV.neg hg (EV.now _)))

theorem spec_l7Factorial_l0 (n : Int) (hn : n ≤ 100000) : ∀ (c lo : Nat) (acc : Int), c = (n + 1 - lo).toNat → lo ≤ 100001 → EV (fun k => spec_l7Factorial.l0 k n (wrap64 acc) (lo : Int)) (wrap64 (acc * rise lo c)) := by
  intro c
  induction c with
  | zero =>
    intro lo acc h hl
    refine EV.step (fun k => by rw [spec_l7Factorial.l0]) ?_
    exact EV.neg (by omega) ((EV.now _).eq (by simp [rise]))
  | succ c ih =>
    intro lo acc h hl
    refine EV.step (fun k => by rw [spec_l7Factorial.l0]) ?_
    rw [wrap64_mul, w64 (x := (lo : Int) + 1) (by omega) (by omega)]
    have := ih (lo + 1) (acc * lo) (by omega) (by omega)
    refine EV.pos (by omega) (EV.congr (fun k => by simp) (this.eq ?_))
    simp only [rise]; rw [Int.mul_assoc]
theorem spec_l7Factorial_is (n : Int) (hn : n ≤ 100000) : EV (fun k => spec_l7Factorial.f k n) (wrap64 (rise 2 (n - 1).toNat)) := by
  have := spec_l7Factorial_l0 n hn (n + 1 - 2).toNat 2 1 (by omega) (by omega)
  rw [wrap_1] at this
  exact EV.congr (fun k => rfl) (this.eq (by rw [Int.one_mul, show n + 1 - 2 = n - 1 by omega]))

theorem spec_CountRotations_l0 (ds : List Int) (hd : ∀ d ∈ ds, 0 ≤ d ∧ d ≤ 1000) (hl : ds.length < 4611686018427387904) : ∀ (suf pre : List Int) (P : Int), ds = pre ++ suf →
    EV (fun k => spec_CountRotations.l0 k (wrap64 P) ds (pre.length : Int)) (wrap64 (P * prodM suf)) := by
  intro suf
  induction suf with
  | nil =>
    intro pre P h
    refine EV.step (fun k => by rw [spec_CountRotations.l0]) ?_
    exact EV.neg (by subst h; simp) ((EV.now _).eq (by simp [prodM]))
  | cons d suf ih =>
    intro pre P h
    have hpl : pre.length < 4611686018427387904 := by subst h; simp at hl; omega
    have hlt : (pre.length : Int) < (ds.length : Int) := by subst h; exact lt_app ..
    have hx : rd ds (pre.length : Int) = d := by subst h; exact rd_app ..
    have hb := hd d (by subst h; simp)
    refine EV.step (fun k => by rw [spec_CountRotations.l0]) ?_
    rw [hx, up (x := d) hpl, w64 (x := d - 1) (by omega) (by omega)]
    refine EV.pos hlt (EV.pos (by omega) (EV.bind (spec_l7Factorial_is (d - 1) (by omega)) ?_))
    rw [wrap64_mul, wrap64_mul', show d - 1 - 1 = d - 2 by omega]
    refine (ih (pre ++ [d]) (P * rise 2 (d - 2).toNat) (by simp [h])).eq ?_
    simp only [prodM]; rw [Int.mul_assoc]
theorem spec_CountRotations_is (g : List (List Int)) (hn : g.length < 4611686018427387904) : EV (fun k => spec_CountRotations.f k g) (rotM g) := by
  unfold rotM
  refine EV.bind (spec_IsGraph_is g hn) ?_
  by_cases hg : graphB g = true
  · rw [if_pos hg]
    refine EV.pos hg (EV.bind (spec_DegreesOf_is g hn) ?_)
    have := spec_CountRotations_l0 (degM g) (degM_bd g) (by unfold degM; rw [if_pos hg]; simp) (degM g) [] 1 rfl
    rw [wrap_1] at this
    exact EV.congr (fun k => rfl) (this.eq (by rw [Int.one_mul]))
  · rw [if_neg hg]
    exact EV.neg hg (EV.now _)

theorem spec_l7Ring_is (x ds : List Int) (hd : ∀ d ∈ ds, 0 ≤ d ∧ d < x.length) (hn : ds.length < 1000000) : EV (fun k => spec_l7Ring.f k x ds) (ringM x ds) := by
  refine EV.count (g := fun k s i => spec_l7Ring.l0 k s ds i) ds.length (ringK x ds) _ (fun i hi H => ?_) ?_
  · have hx := hd _ (List.getElem_mem hi)
    have hm := Nat.mod_lt (i + 1) (show 0 < ds.length by omega)
    have em : Int.tmod ((i : Int) + 1) (ds.length : Int) = (((i + 1) % ds.length : Nat) : Int) := by
      rw [show (i : Int) + 1 = ((i + 1 : Nat) : Int) by omega, Int.tmod_eq_emod_of_nonneg (by omega)]; omega
    rw [ringK_succ] at H
    have hl := ringK_len x ds i
    refine EV.step (fun k => by rw [spec_l7Ring.l0]) ?_
    rw [w64 (x := (i : Int) + 1) (by omega) (by omega), em, rd_nat _ _ hi, rd_nat _ _ hm]
    refine EV.pos (by omega) (EV.pos (by omega) (EV.neg (by omega) (EV.pos (by omega) (EV.pos (by omega) (EV.pos (by omega) (EV.pos (by omega) ?_))))))
    have e1 : ds.getD i 0 = ds[i] := by simp [hi]
    have e2 : ds.getD ((i + 1) % ds.length) 0 = ds[(i + 1) % ds.length] := by simp [hm]
    rw [e1, e2] at H
    exact H
  · refine EV.step (fun k => by rw [spec_l7Ring.l0]) ?_
    exact EV.neg (by omega) (EV.now _)

/-! ### sets of sheets that lead to each other -/
theorem insO_mem_len {x : Int} {o : List Int} {lo c : Nat} {u : List Int} (h : u ∈ insO x o lo c) : u.length = o.length + 1 := by
  obtain ⟨i, _, rfl⟩ := (mem_insO _ _ _ _ _).1 h
  simp; omega
theorem insF_len (x : Int) (lo : Nat) : ∀ (out : List (List Int)) , (∀ o ∈ out, o.length + 1 - lo ≤ 7) → (out.flatMap fun o => insO x o lo (o.length + 1 - lo)).length ≤ 7 * out.length
  | [], _ => by simp
  | o :: r, h => by
    have h1 := insF_len x lo r (fun o ho => h o (List.mem_cons_of_mem _ ho))
    have h2 := h o List.mem_cons_self
    rw [List.flatMap_cons, List.length_append, insO_len, List.length_cons]; omega
theorem spec_l7Orders_l2 (l : List Int) (out : List (List Int)) (j i : Nat) (hj : j ≤ 100) (hi : i < out.length) (hi2 : i < 1000000) (lo : Nat) (hlo : (lo : Int) = if (1 : Int) < (j : Int) then (1 : Int) else (j : Int)) (ho : out[i].length ≤ 100) (r : List (List Int)) : ∀ (c : Nat) (next : List (List Int)), lo + c ≤ out[i].length + 1 → next.length + c ≤ 900000 →
    EV (fun k => spec_l7Orders.l1 k l out (j : Int) (next ++ insO (l.getD j 0) out[i] lo c) ((i : Int) + 1)) r → EV (fun k => spec_l7Orders.l2 k l out (j : Int) next (i : Int) ((lo : Int) + c - 1)) r
  | 0, next, h1, h2, K => by
    refine EV.step (fun k => by rw [spec_l7Orders.l2]) (EV.by (spec_l1Min_is 1 (j : Int)) ?_)
    rw [← hlo, w64 (x := (i : Int) + 1) (by omega) (by omega)]
    refine EV.neg (by omega) ?_
    simpa [insO] using K
  | c + 1, next, h1, h2, K => by
    have e : (lo : Int) + ((c + 1 : Nat) : Int) - 1 = ((lo + c : Nat) : Int) := by omega
    refine EV.step (fun k => by rw [spec_l7Orders.l2]) (EV.by (spec_l1Min_is 1 (j : Int)) ?_)
    rw [← hlo, e, rdL_nat _ _ hi, rd_getD, Int.toNat_natCast, Int.toNat_natCast]
    refine EV.pos (by omega) (EV.pos (by omega) (EV.pos (by omega) ?_))
    have e2 : wrap64 (((lo + c : Nat) : Int) - 1) = (lo : Int) + (c : Int) - 1 := by rw [w64 (by omega) (by omega)]; omega
    rw [e2]
    refine spec_l7Orders_l2 l out j i hj hi hi2 lo hlo ho r c _ (by omega) (by rw [List.length_append, List.length_singleton]; omega) ?_
    rw [List.append_assoc]
    exact K
theorem spec_l7Orders_l1 (l : List Int) (out : List (List Int)) (j : Nat) (hj : j ≤ 100) (lo : Nat) (hlo : (lo : Int) = if (1 : Int) < (j : Int) then (1 : Int) else (j : Int)) (ho : ∀ o ∈ out, o.length ≤ 100 ∧ lo ≤ o.length + 1) (hb : out.length < 1000000) (r : List (List Int)) : ∀ (suf pre next : List (List Int)), out = pre ++ suf → (next ++ suf.flatMap fun o => insO (l.getD j 0) o lo (o.length + 1 - lo)).length ≤ 900000 →
    EV (fun k => spec_l7Orders.l0 k l (next ++ suf.flatMap fun o => insO (l.getD j 0) o lo (o.length + 1 - lo)) ((j : Int) + 1)) r → EV (fun k => spec_l7Orders.l1 k l out (j : Int) next (pre.length : Int)) r
  | [], pre, next, h, hn, K => by
    refine EV.step (fun k => by rw [spec_l7Orders.l1]) ?_
    rw [w64 (x := (j : Int) + 1) (by omega) (by omega)]
    refine EV.neg (by subst h; simp) ?_
    simpa using K
  | o :: suf, pre, next, h, hn, K => by
    have hi : pre.length < out.length := by subst h; simp
    have e : out[pre.length] = o := by subst h; simp
    have oo := ho o (by subst h; simp)
    refine EV.step (fun k => by rw [spec_l7Orders.l1]) ?_
    rw [rdL_nat _ _ hi]
    refine EV.pos (by omega) (EV.pos (by omega) ?_)
    rw [List.flatMap_cons, ← List.append_assoc] at hn K
    have hn1 : next.length + (o.length + 1 - lo) ≤ 900000 := by
      rw [List.length_append, List.length_append, insO_len] at hn; omega
    have := spec_l7Orders_l2 l out j pre.length hj hi (by omega) lo hlo (by rw [e]; exact oo.1) r (o.length + 1 - lo) next (by rw [e]; omega) hn1 (by
      rw [e]
      have := spec_l7Orders_l1 l out j hj lo hlo ho hb r suf (pre ++ [o]) (next ++ insO (l.getD j 0) o lo (o.length + 1 - lo)) (by rw [h]; simp) hn K
      rw [List.length_append, List.length_singleton] at this
      exact_mod_cast this)
    have e3 : (lo : Int) + ((o.length + 1 - lo : Nat) : Int) - 1 = (out[pre.length].length : Int) := by rw [e]; omega
    rw [e3] at this
    exact this
theorem insA_I {x : Int} {out : List (List Int)} {n : Nat} (h : ∀ o ∈ out, o.length = n) : ∀ o ∈ insA x out, o.length = n + 1 := by
  intro u hu
  obtain ⟨o, ho, hu⟩ := List.mem_flatMap.1 hu
  rw [insO_mem_len hu, h o ho]
theorem spec_l7Orders_l0 (l : List Int) (hl : l.length ≤ 7) : ∀ (suf pre : List Int) (out : List (List Int)), l = pre ++ suf → 1 ≤ pre.length → (∀ o ∈ out, o.length = pre.length) → out.length ≤ 7 ^ pre.length →
    EV (fun k => spec_l7Orders.l0 k l out (pre.length : Int)) (suf.foldl (fun out x => insA x out) out) ∧ (suf.foldl (fun out x => insA x out) out).length ≤ 823543
  | [], pre, out, h, hp, ho, hb => by
    have hpl : pre.length ≤ 7 := by subst h; simpa using hl
    refine ⟨?_, Nat.le_trans hb (Nat.le_trans (Nat.pow_le_pow_right (by omega) hpl) (by decide))⟩
    refine EV.step (fun k => by rw [spec_l7Orders.l0]) ?_
    exact EV.neg (by subst h; simp) (EV.now _)
  | x :: suf, pre, out, h, hp, ho, hb => by
    have hpl : pre.length + 1 ≤ 7 := by subst h; simp at hl; omega
    have hx : l.getD pre.length 0 = x := by subst h; simp
    have hA : insA x out = out.flatMap fun o => insO x o 1 (o.length + 1 - 1) := by unfold insA; simp
    have hAl : (insA x out).length ≤ 7 ^ (pre.length + 1) := by
      rw [hA]
      have := insF_len x 1 out (fun o h => by rw [ho o h]; omega)
      rw [Nat.pow_succ]; omega
    have h7 : (7 : Nat) ^ (pre.length + 1) ≤ 823543 := Nat.le_trans (Nat.pow_le_pow_right (by omega) hpl) (by decide)
    have ih := spec_l7Orders_l0 l hl suf (pre ++ [x]) (insA x out) (by rw [h]; simp) (by simp) (by rw [List.length_append, List.length_singleton]; exact insA_I ho) (by rw [List.length_append, List.length_singleton]; exact hAl)
    refine ⟨?_, ih.2⟩
    rw [List.length_append, List.length_singleton] at ih
    have hlt : (pre.length : Int) < (l.length : Int) := by subst h; simp; omega
    have h7' : (7 : Nat) ^ pre.length ≤ 823543 := Nat.le_trans (Nat.pow_le_pow_right (by omega) (by omega)) (show (7 : Nat) ^ 7 ≤ 823543 by decide)
    refine EV.step (fun k => by rw [spec_l7Orders.l0]) (EV.pos hlt (EV.pos (by omega) ?_))
    have := spec_l7Orders_l1 l out pre.length (by omega) 1 (by split <;> omega) (fun o h => by rw [ho o h]; omega) (by omega) _ out [] [] rfl (by
      rw [hx, List.nil_append, ← hA]; omega) (by
      rw [hx, List.nil_append, ← hA]
      exact_mod_cast ih.1)
    exact this
theorem spec_l7Orders_is (l : List Int) (hl : l.length ≤ 7) : EV (fun k => spec_l7Orders.f k l) (ord7 l) ∧ (ord7 l).length ≤ 823543 := by
  cases l with
  | nil =>
    refine ⟨?_, by decide⟩
    refine EV.step (f := fun _ => some [[]]) (fun k => ?_) (EV.now _)
    unfold spec_l7Orders.f
    rw [spec_l7Orders.l0, if_neg (by simp)]
  | cons a r =>
    have ih := spec_l7Orders_l0 (a :: r) hl r [a] [[a]] rfl (by simp) (by simp) (by simp)
    refine ⟨?_, ih.2⟩
    have h0 : ([[]] : List (List Int)) = [] ++ [[]] := rfl
    refine EV.step (g := fun k => spec_l7Orders.f k (a :: r)) (fun k => by unfold spec_l7Orders.f; rw [spec_l7Orders.l0]) (EV.pos (by simp) (EV.pos (by omega) ?_))
    have := spec_l7Orders_l1 (a :: r) [[]] 0 (by omega) 0 (by rw [if_neg (by omega)]) (fun o h => by rw [List.mem_singleton.1 h]; simp) (by simp) _ [[]] [] [] rfl (by simp [insO]) (by
      have := ih.1
      simpa [insO] using this)
    exact this

theorem spec_GenusRow_cF {g : List (List Int)} (hg : graphB g = true) (hd : ∀ u, u < 7 → (ds g u).length ≤ 7) : ∀ (c v : Nat) (m row : List Int), v + c = 7 → PV g v m → row.length ≤ 101 →
    ∃ m', AG g v m' m ∧ EV (fun k => spec_GenusRow.cF k g c (v : Int) m row) (m', (GL (fun v => ord7 (ds g v)) c v m).foldl bumpT row) ∧ ((GL (fun v => ord7 (ds g v)) c v m).foldl bumpT row).length ≤ 101
  | 0, v, m, row, hv, hP, hr => by
    have : v = 7 := by omega
    subst this
    obtain ⟨b1, b2, b3, b4, b5⟩ := leaf_bd hg hP
    obtain ⟨u1, u2⟩ := bump_now b4 b5 hr
    refine ⟨m, AG.rfl hP.1, ?_, by simpa [GL] using u2⟩
    refine EV.congr (fun k => by rw [spec_GenusRow.cF]) (EV.bind (spec_l6Genus_is b1 b2 b3) (EV.by u1 (EV.now (m, bumpT row (genN m)))))
  | c + 1, v, m, row, hv, hP, hr => by
    have hv7 : v < 7 := by omega
    have hdv := hd v hv7
    have O7 := spec_l7Orders_is (ds g v) hdv
    have loop : ∀ (suf pre : List (List Int)) (m1 row1 : List Int), ord7 (ds g v) = pre ++ suf → AG g v m1 m → PV g v m1 → row1.length ≤ 101 →
        ∃ m', AG g v m' m ∧ EV (fun k => spec_GenusRow.cL (spec_l7Ring.f k) (fun m row => spec_GenusRow.cF k g c ((v : Int) + 1) m row) (ord7 (ds g v)) suf.length pre.length m1 row1) (m', (suf.flatMap fun os => GL (fun v => ord7 (ds g v)) c (v + 1) (ringM m os)).foldl bumpT row1) ∧ ((suf.flatMap fun os => GL (fun v => ord7 (ds g v)) c (v + 1) (ringM m os)).foldl bumpT row1).length ≤ 101 := by
      intro suf
      induction suf with
      | nil => intro pre m1 row1 _ ha _ hr1; exact ⟨m1, ha, EV.now _, hr1⟩
      | cons os suf ih =>
        intro pre m1 row1 h ha hp1 hr1
        have ho : os.Perm (ds g v) := ord7_mem v os (by rw [h]; simp)
        have hol : os.length ≤ 7 := by rw [ho.length_eq]; exact hdv
        have hin : ∀ d ∈ os, 0 ≤ d ∧ d < m1.length := fun d hd => by
          have := ds_in g v d (ho.mem_iff.1 hd)
          have := hp1.1; omega
        obtain ⟨m2, ha2, e2, r2⟩ := spec_GenusRow_cF hg hd c (v + 1) (ringM m1 os) row1 (by omega) (hp1.ring ho) hr1
        have eG : GL (fun v => ord7 (ds g v)) c (v + 1) (ringM m1 os) = GL (fun v => ord7 (ds g v)) c (v + 1) (ringM m os) := GL_same hg (fun v => ord7_mem v) c (v + 1) _ _ (by omega) (ha.ring ho)
        rw [eG] at e2 r2
        have ha2' : AG g v m2 m1 := ha2.down.trans (AG.stay hp1.1 ho)
        have hp2 : PV g v m2 := ⟨ha2'.1, fun u hu => by
          have p := hp1.2 u hu
          constructor
          · intro d hd; rw [ha2'.2.2 u hu d hd]; exact p.1 d hd
          · intro d hd d' hd' q
            rw [ha2'.2.2 u hu d hd, ha2'.2.2 u hu d' hd'] at q
            exact p.2 d hd d' hd' q⟩
        obtain ⟨m3, ha3, e3, r3⟩ := ih (pre ++ [os]) m2 _ (by rw [h]; simp) (ha2'.trans ha) hp2 r2
        rw [List.length_append, List.length_singleton] at e3
        have hx : rd_L2 (ord7 (ds g v)) ((pre.length : Nat) : Int) = os := by rw [h]; exact rdL_app ..
        refine ⟨m3, ha3, ?_, ?_⟩
        · rw [List.length_cons]
          refine EV.congr (fun k => by rw [spec_GenusRow.cL, hx]) (EV.bind (spec_l7Ring_is m1 os hin (by omega)) (EV.bind (by exact_mod_cast e2) ?_))
          rw [List.flatMap_cons, List.foldl_append]
          exact e3
        · rw [List.flatMap_cons, List.foldl_append]; exact r3
    obtain ⟨m', ha, e, r⟩ := loop (ord7 (ds g v)) [] m row rfl (AG.rfl hP.1) hP hr
    refine ⟨m', ha, ?_, r⟩
    refine EV.congr (fun k => by rw [spec_GenusRow.cF]) (EV.bind (spec_l7Darts_is g (v : Int) hg) (EV.bind O7.1 (EV.pos (show (ord7 (ds g v)).length < 1000000 by have := O7.2; omega) e)))
theorem spec_GenusRow_is (g : List (List Int)) (hn : g.length ≤ 1048576) : EV (fun k => spec_GenusRow.f k g) (rowM' g) := by
  refine EV.bind (spec_CountRotations_is g (by omega)) (EV.by (spec_l1In_is _ _ _) ?_)
  unfold rowM'
  by_cases hg : graphB g = true
  · obtain ⟨r1, r2⟩ := rot_bd hg
    have G := graphB_of hg
    by_cases h : rotM g ≤ 2000
    · rw [if_pos ⟨hg, h⟩]
      obtain ⟨m', _, e, _⟩ := spec_GenusRow_cF hg (r2 h) 7 0 (List.replicate (2 * g.length) 0) [] rfl (PV_zero g) (by simp)
      exact EV.pos (decide_eq_true ⟨r1, h⟩) (EV.pos (by omega) (EV.bind e (EV.now _)))
    · rw [if_neg (fun c => h c.2)]
      exact EV.neg (by rw [decide_eq_true_eq]; omega) (EV.now _)
  · rw [if_neg (fun c => hg c.1)]
    have : rotM g = -1 := by unfold rotM; rw [if_neg hg]
    exact EV.neg (by rw [decide_eq_true_eq]; omega) (EV.now _)

theorem laws_sameLists_self (a : List (List Int)) (ha : a.length ≤ 1048576) (hr : ∀ r ∈ a, r.length ≤ 1048576) : EV (fun k => laws_sameLists.f k a a) true := by
  refine EV.pos rfl ?_
  have := EV.scan (g := fun k i => laws_sameLists.l0 k a a i) a (fun _ => true) true (fun i hi r H1 _ => ?_) ?_
  · rw [show (a.all fun _ => true) = true from List.all_eq_true.2 (fun _ _ => rfl), Bool.true_and] at this
    exact this
  · refine EV.step (fun k => by rw [laws_sameLists.l0]) ?_
    rw [w64 (x := (i : Int) + 1) (by omega) (by omega), rdL_nat _ _ hi]
    exact EV.pos (by omega) (EV.pos (by omega) (EV.pos (by omega) (EV.bind (laws_sameInts_self _ (hr _ (List.getElem_mem hi))) (EV.pos rfl (H1 rfl)))))
  · refine EV.step (fun k => by rw [laws_sameLists.l0]) ?_
    exact EV.neg (by omega) (EV.now _)

theorem impl_graphOf_is (g : List (List Int)) (hn : g.length < 4611686018427387904) : EV (fun k => impl_graphOf.f k g) (if graphB g = true then g else []) := by
  refine EV.bind (impl_IsGraph_is g hn) ?_
  by_cases h : graphB g = true
  · exact EV.pos h ((EV.now _).eq (by rw [if_pos h]))
  · exact EV.neg h ((EV.now _).eq (by rw [if_neg h]))

theorem impl_CompleteGraph_l1 (n : Int) (a : Int) (ha : 0 ≤ a ∧ a < 9) : ∀ (c b : Nat) (acc R : List (List Int)), c = capM n - b → b ≤ 10 → acc.length + c ≤ 1000000 →
    EV (fun k => impl_CompleteGraph.l0 k n (acc ++ fanM a b c) (a + 1)) R → EV (fun k => impl_CompleteGraph.l1 k n acc a (b : Int)) R := by
  have e : wrap64 (a + 1) = a + 1 := w64 (by omega) (by omega)
  intro c
  induction c with
  | zero =>
    intro b acc R h hb hc H
    unfold capM at h
    refine EV.step (fun k => by rw [impl_CompleteGraph.l1]) ?_
    rw [e]
    have H : EV (fun k => impl_CompleteGraph.l0 k n acc (a + 1)) R := by simpa [fanM] using H
    by_cases h1 : (b : Int) < n
    · exact EV.pos h1 (EV.neg (by omega) H)
    · exact EV.neg h1 H
  | succ c ih =>
    intro b acc R h hb hc H
    have hm : b < capM n := by omega
    unfold capM at hm
    refine EV.step (fun k => by rw [impl_CompleteGraph.l1]) ?_
    rw [w64 (x := (b : Int) + 1) (by omega) (by omega)]
    have := ih (b + 1) (acc ++ [[a, (b : Int)]]) R (by omega) (by omega) (by simp; omega) (by simpa [fanM] using H)
    exact EV.pos (by omega) (EV.pos (by omega) (EV.pos (by omega) (by exact_mod_cast this)))
theorem impl_CompleteGraph_l0 (n : Int) : ∀ (c a : Nat) (acc : List (List Int)), c = capM n - a → a ≤ 10 → acc.length ≤ 10 * a →
    EV (fun k => impl_CompleteGraph.l0 k n acc (a : Int)) (rightM (acc ++ cmpM (capM n) a c)) := by
  intro c
  induction c with
  | zero =>
    intro a acc h ha hl
    have fin : EV (fun k => impl_CompleteGraph.j1 k n acc (a : Int) false) (rightM (acc ++ cmpM (capM n) a 0)) := by
      refine EV.step (fun k => by rw [impl_CompleteGraph.j1]) ?_
      refine EV.neg (by simp) (EV.bind (impl_graphOf_is acc (by omega)) ((EV.now _).eq (by simp [cmpM, rightM])))
    unfold capM at h
    refine EV.step (fun k => by rw [impl_CompleteGraph.l0]) ?_
    by_cases h1 : (a : Int) < n
    · rw [show decide ((a : Int) < 9) = false by simp; omega]
      exact EV.pos h1 fin
    · exact EV.neg h1 fin
  | succ c ih =>
    intro a acc h ha hl
    have hm : a < capM n := by omega
    have hm' := hm
    unfold capM at hm'
    refine EV.step (fun k => by rw [impl_CompleteGraph.l0]) ?_
    rw [show decide ((a : Int) < 9) = true by simp; omega]
    refine EV.pos (by omega) ?_
    refine EV.step (fun k => by rw [impl_CompleteGraph.j1]) ?_
    rw [w64 (x := (a : Int) + 1) (by omega) (by omega)]
    refine EV.pos rfl ?_
    have hc9 : capM n ≤ 9 := by unfold capM; omega
    have := ih (a + 1) (acc ++ fanM (a : Int) (a + 1) (capM n - (a + 1))) (by omega) (by omega) (by simp [fanM_len]; omega)
    have := impl_CompleteGraph_l1 n (a : Int) (by omega) (capM n - (a + 1)) (a + 1) acc _ rfl (by omega) (by omega) (by exact_mod_cast this)
    refine EV.congr (fun k => by simp) (this.eq ?_)
    simp [cmpM]
theorem impl_CompleteGraph_is (n : Int) : EV (fun k => impl_CompleteGraph.f k n) (rightM (cmpM (capM n) 0 (capM n))) := by
  have := impl_CompleteGraph_l0 n (capM n) 0 [] (by omega) (by omega) (by simp)
  exact this

theorem impl_BipartiteGraph_l1 (a b : Nat) (i : Nat) (ha : a ≤ 9) (hb : b ≤ 9) (hi : i < 9) : ∀ (c j : Nat) (acc R : List (List Int)), c = b - j → j ≤ 9 → acc.length + c ≤ 1000000 →
    EV (fun k => impl_BipartiteGraph.l0 k (a : Int) (b : Int) (acc ++ fanM (i : Int) (a + j) c) (a : Int) ((i : Int) + 1)) R → EV (fun k => impl_BipartiteGraph.l1 k (a : Int) (b : Int) acc (i : Int) (a : Int) (i : Int) (b : Int) (j : Int)) R := by
  intro c
  induction c with
  | zero =>
    intro j acc R h hj hc H
    have H : EV (fun k => impl_BipartiteGraph.l0 k (a : Int) (b : Int) acc (a : Int) ((i : Int) + 1)) R := by simpa [fanM] using H
    refine EV.step (fun k => by rw [impl_BipartiteGraph.l1]) ?_
    rw [w64 (x := (i : Int) + 1) (by omega) (by omega)]
    exact EV.neg (by omega) H
  | succ c ih =>
    intro j acc R h hj hc H
    refine EV.step (fun k => by rw [impl_BipartiteGraph.l1]) ?_
    rw [w64 (x := (j : Int) + 1) (by omega) (by omega), w64 (x := (a : Int) + (j : Int)) (by omega) (by omega)]
    have := ih (j + 1) (acc ++ [[(i : Int), ((a + j : Nat) : Int)]]) R (by omega) (by omega) (by simp; omega) (by simpa [fanM, Nat.add_assoc] using H)
    exact EV.pos (by omega) (EV.pos (by omega) (by simpa using this))
theorem impl_BipartiteGraph_l0 (a b : Nat) (ha : a ≤ 9) (hb : b ≤ 9) : ∀ (c i : Nat) (acc : List (List Int)), c = a - i → i ≤ a → acc.length ≤ 10 * i →
    EV (fun k => impl_BipartiteGraph.l0 k (a : Int) (b : Int) acc (a : Int) (i : Int)) (rightM (acc ++ bipM a b i c)) := by
  intro c
  induction c with
  | zero =>
    intro i acc h hi hl
    refine EV.step (fun k => by rw [impl_BipartiteGraph.l0]) ?_
    exact EV.neg (by omega) (EV.bind (impl_graphOf_is acc (by omega)) ((EV.now _).eq (by simp [bipM, rightM])))
  | succ c ih =>
    intro i acc h hi hl
    refine EV.step (fun k => by rw [impl_BipartiteGraph.l0]) ?_
    refine EV.pos (by omega) ?_
    have := ih (i + 1) (acc ++ fanM (i : Int) a b) (by omega) (by omega) (by simp [fanM_len]; omega)
    have := impl_BipartiteGraph_l1 a b i (by omega) hb (by omega) b 0 acc _ (by omega) (by omega) (by omega) (by exact_mod_cast this)
    refine EV.congr (fun k => by simp) (this.eq ?_)
    simp [bipM]
theorem impl_BipartiteGraph_is (a b : Int) : EV (fun k => impl_BipartiteGraph.f k a b) (bipR a b) := by
  have no : EV (fun k => impl_BipartiteGraph.j0 k a b true) [] := by
    refine EV.step (fun k => by rw [impl_BipartiteGraph.j0]) ?_
    exact EV.pos rfl (EV.now _)
  refine EV.by (impl_within_is _ _ _) ?_
  by_cases h1 : 0 ≤ a ∧ a ≤ 9
  · refine EV.pos (by simpa using h1) (EV.by (impl_within_is _ _ _) ?_)
    obtain ⟨n, rfl⟩ : ∃ n : Nat, a = n := ⟨a.toNat, by omega⟩
    by_cases h2 : 0 ≤ b ∧ b ≤ 9
    · obtain ⟨m, rfl⟩ : ∃ m : Nat, b = m := ⟨b.toNat, by omega⟩
      rw [show (!decide (0 ≤ (m : Int) ∧ (m : Int) ≤ 9)) = false by simpa using h2]
      refine EV.step (fun k => by rw [impl_BipartiteGraph.j0]) ?_
      refine EV.neg (by simp) ?_
      have := impl_BipartiteGraph_l0 n m (by omega) (by omega) n 0 [] (by omega) (by omega) (by simp)
      refine EV.congr (fun k => rfl) (this.eq ?_)
      have hcap : capM (m : Int) = m := by unfold capM; omega
      unfold bipR
      rw [hcap, List.nil_append]
      by_cases h3 : 1 ≤ (n : Int) ∧ (n : Int) ≤ 7
      · rw [if_pos h3]; rfl
      · rw [if_neg h3, rightM, bip_far n (by omega) m (by omega) (by omega)]; rfl
    · rw [show (!decide (0 ≤ b ∧ b ≤ 9)) = true by simp; omega]
      refine no.eq ?_
      unfold bipR
      by_cases h3 : 1 ≤ (n : Int) ∧ (n : Int) ≤ 7
      · rw [if_pos h3, rightM, Int.toNat_natCast, bip_far n (by omega) (capM b) (by unfold capM; omega) (by unfold capM; omega)]; rfl
      · rw [if_neg h3]
  · refine EV.neg (by simpa using h1) (no.eq ?_)
    unfold bipR
    rw [if_neg (by omega)]

theorem spec_FirstRotation_is (g : List (List Int)) (hn : g.length < 4294967296) : EV (fun k => spec_FirstRotation.f k g) (firstM g) := by
  unfold firstM
  refine EV.bind (spec_IsGraph_is g (by omega)) ?_
  by_cases hg : graphB g = true
  · rw [if_pos hg]
    have G := graphB_of hg
    rw [w64 (x := 2 * (g.length : Int)) (by omega) (by omega)]
    refine EV.pos hg (EV.pos (by omega) (EV.pos (by omega) ?_))
    rw [show (2 * (g.length : Int)).toNat = 2 * g.length by omega]
    refine EV.count (g := fun k s i => spec_FirstRotation.l0 k g s i) 7 (firstK g) _ (fun i hi H => ?_) ?_
    · rw [firstK_succ] at H
      have hl := firstK_len g i
      have hd := degN_le (i : Int) g
      refine EV.step (fun k => by rw [spec_FirstRotation.l0]) ?_
      rw [w64 (x := (i : Int) + 1) (by omega) (by omega)]
      refine EV.pos (by omega) (EV.bind (spec_l7Darts_is g (i : Int) hg) (EV.bind (spec_l7Ring_is _ _ (fun d h => ?_) (by rw [dartsF_len]; omega)) H))
      have := dartsF_mem (i : Int) g 0 d h
      omega
    · refine EV.step (fun k => by rw [spec_FirstRotation.l0]) ?_
      exact EV.neg (by omega) (EV.now _)
  · rw [if_neg hg]
    exact EV.neg hg (EV.now _)

theorem spec_LeastGenus_l0 (row : List Int) (hn : row.length ≤ 101) : ∀ (suf pre : List Int), row = pre ++ suf → EV (fun k => spec_LeastGenus.l0 k row (pre.length : Int)) (leastF pre.length suf)
  | [], pre, h => by
    refine EV.step (fun k => by rw [spec_LeastGenus.l0]) ?_
    exact EV.neg (by subst h; simp) (EV.now _)
  | x :: suf, pre, h => by
    have hl : (pre.length : Int) < (row.length : Int) := by subst h; exact lt_app ..
    have hx : rd row (pre.length : Int) = x := by subst h; exact rd_app ..
    have ih := spec_LeastGenus_l0 row hn suf (pre ++ [x]) (by rw [h]; simp)
    rw [List.length_append, List.length_singleton] at ih
    refine EV.step (fun k => by rw [spec_LeastGenus.l0]) (EV.pos hl (EV.pos (by omega) ?_))
    rw [hx, w64 (x := (pre.length : Int) + 1) (by omega) (by omega)]
    simp only [leastF]
    by_cases c : x > 0
    · rw [if_pos c]; exact EV.pos c (EV.now _)
    · rw [if_neg c]; exact EV.neg c (by exact_mod_cast ih)
theorem rowM'_len (g : List (List Int)) : (rowM' g).length ≤ 101 := by
  unfold rowM'
  split
  · rename_i h
    obtain ⟨r1, r2⟩ := rot_bd h.1
    obtain ⟨m', _, _, r⟩ := spec_GenusRow_cF h.1 (r2 h.2) 7 0 (List.replicate (2 * g.length) 0) [] rfl (PV_zero g) (by simp)
    exact r
  · simp
theorem spec_LeastGenus_is (g : List (List Int)) (hn : g.length ≤ 1048576) : EV (fun k => spec_LeastGenus.f k g) (leastF 0 (rowM' g)) :=
  EV.bind (spec_GenusRow_is g hn) (spec_LeastGenus_l0 (rowM' g) (rowM'_len g) (rowM' g) [] rfl)

theorem impl_LeastGenus_l0 (row : List Int) (hn : row.length ≤ 101) : ∀ (suf pre : List Int), row = pre ++ suf → EV (fun k => impl_LeastGenus.l0 k row (row.length : Int) (pre.length : Int)) (leastF pre.length suf)
  | [], pre, h => by
    refine EV.step (fun k => by rw [impl_LeastGenus.l0]) ?_
    exact EV.neg (by subst h; simp) (EV.now _)
  | x :: suf, pre, h => by
    have hl : (pre.length : Int) < (row.length : Int) := by subst h; exact lt_app ..
    have hx : rd row (pre.length : Int) = x := by subst h; exact rd_app ..
    have ih := impl_LeastGenus_l0 row hn suf (pre ++ [x]) (by rw [h]; simp)
    rw [List.length_append, List.length_singleton] at ih
    refine EV.step (fun k => by rw [impl_LeastGenus.l0]) (EV.pos hl (EV.pos (by omega) (EV.pos hl ?_)))
    rw [hx, w64 (x := (pre.length : Int) + 1) (by omega) (by omega)]
    simp only [leastF]
    by_cases c : x > 0
    · rw [if_pos c]; exact EV.pos c (EV.now _)
    · rw [if_neg c]; exact EV.neg c (by exact_mod_cast ih)
theorem impl_LeastGenus_is (g : List (List Int)) (hn : g.length ≤ 1048576) : EV (fun k => impl_LeastGenus.f k g) (leastF 0 (rowM' g)) :=
  EV.bind (impl_GenusRow_is g hn) (impl_LeastGenus_l0 (rowM' g) (rowM'_len g) (rowM' g) [] rfl)

theorem impl_FormatInt_is (n : Int) (h1 : -9223372036854775808 ≤ n) (h2 : n ≤ 9223372036854775807) : impl_FormatInt.f n = some (fmtM n) := if_pos ⟨h1, h2⟩

theorem impl_Join_is (xs : List ByteArray) (sep : ByteArray) (hn : xs.length ≤ 1000) (hs : sep.size ≤ 1000) (hx : ∀ x ∈ xs, x.size ≤ 1000) : impl_Join.f xs sep = some (joinM xs sep) := by
  have := join_len xs sep 1000 hs hx
  exact if_pos ⟨by omega, by omega⟩

theorem impl_GraphText_l0 (g : List (List Int)) (hg : ∀ e ∈ g, edgeB e = true) (hn : g.length ≤ 10) : ∀ (l : List (List Int)) (i : Nat) (acc : List ByteArray), g.drop i = l → i + l.length = g.length → acc = (g.take i).map edgeT →
    EV (fun k => impl_GraphText.l0 k acc g (g.length : Int) (i : Int)) (joinM (g.map edgeT) (⟨#[32]⟩ : ByteArray)) := by
  intro l
  induction l with
  | nil =>
    intro i acc hd hl ha
    refine EV.step (fun k => by rw [impl_GraphText.l0]) (EV.neg (by simp at hl; omega) ?_)
    have : acc = g.map edgeT := by rw [ha, List.take_of_length_le (by simp at hl; omega)]
    rw [this]
    exact EV.by (impl_Join_is _ _ (by simp; omega) (by decide) (map_sizes hg)) (EV.now _)
  | cons x r ih =>
    intro i acc hd hl ha
    obtain ⟨hi, hr, hd2⟩ := rdL_drop hd
    have hx : edgeB x = true := hg x (by have : x ∈ g.drop i := by rw [hd]; simp
                                         exact List.mem_of_mem_drop this)
    obtain ⟨b0, b1, b2, b3, b4⟩ := edge_bd hx
    have e2 : wrap64 ((i : Int) + 1) = ((i + 1 : Nat) : Int) := by rw [w64 (by omega) (by omega)]; omega
    have a1 := fmtM_size (rd x 0) (by omega) (by omega)
    have a2 := fmtM_size (rd x 1) (by omega) (by omega)
    have la : acc.length ≤ 10 := by rw [ha]; simp; omega
    refine EV.step (fun k => by rw [impl_GraphText.l0]) (EV.pos (by omega) ?_)
    rw [hr, e2]
    refine EV.pos (by omega) (EV.pos (by omega) (EV.pos (by omega) (EV.by (impl_FormatInt_is _ (by omega) (by omega)) (EV.pos (by omega) (EV.by (impl_FormatInt_is _ (by omega) (by omega)) (EV.pos (by omega) (EV.pos (by omega) ?_)))))))
    refine ih (i + 1) _ hd2 (by simp at hl; omega) ?_
    rw [ha, ← List.take_append_getElem hi, List.map_append]
    have : g[i] = x := by rw [List.drop_eq_getElem_cons hi] at hd; injection hd
    rw [this]; rfl
theorem impl_GraphText_is (g : List (List Int)) (hn : g.length < 4611686018427387904) : EV (fun k => impl_GraphText.f k g) (graphTextM g) := by
  unfold impl_GraphText.f graphTextM
  refine EV.bind (impl_IsGraph_is g hn) (EV.cases (fun h => ?_) (fun h => (EV.now _).eq (by rw [if_neg h])))
  rw [if_pos h]
  have p := graph_parts h
  exact impl_GraphText_l0 g p.1 p.2 g 0 [] rfl (by omega) (by simp)

theorem laws_total_is (xs : List Int) (hl : xs.length ≤ 1000) (hx : ∀ x ∈ xs, 0 ≤ x ∧ x ≤ 1000) : EV (fun k => laws_total.f k xs) xs.sum := by
  have go : ∀ (n i : Nat) (s : Int), i + n = xs.length → 0 ≤ s → s ≤ 1000 * i → EV (fun k => laws_total.l0 k xs s (i : Int)) (s + (xs.drop i).sum) := by
    intro n
    induction n with
    | zero =>
      intro i s hi _ _
      rw [List.drop_of_length_le (by omega)]
      refine EV.step (fun k => by rw [laws_total.l0]) ?_
      exact EV.neg (by omega) ((EV.now _).eq (by simp))
    | succ n ih =>
      intro i s hi h0 h1
      have hlt : i < xs.length := by omega
      have e := rd_nat xs i hlt
      have b := hx _ (List.getElem_mem hlt)
      have H := ih (i + 1) (s + xs[i]) (by omega) (by omega) (by omega)
      refine EV.step (fun k => by rw [laws_total.l0]) ?_
      rw [e, w64 (x := s + xs[i]) (by omega) (by omega), w64 (x := (i : Int) + 1) (by omega) (by omega)]
      refine EV.pos (by omega) (EV.pos (by omega) ?_)
      rw [show ((i + 1 : Nat) : Int) = (i : Int) + 1 by omega] at H
      refine H.eq ?_
      rw [List.drop_eq_getElem_cons hlt, List.sum_cons]; omega
  exact (go xs.length 0 0 (by omega) (by omega) (by omega)).eq (by simp)
theorem laws_total_big (xs : List Int) (hl : xs.length ≤ 1000) (hx : ∀ x ∈ xs, 0 ≤ x ∧ x ≤ 1000000) : EV (fun k => laws_total.f k xs) xs.sum := by
  have go : ∀ (n i : Nat) (s : Int), i + n = xs.length → 0 ≤ s → s ≤ 1000000 * i → EV (fun k => laws_total.l0 k xs s (i : Int)) (s + (xs.drop i).sum) := by
    intro n
    induction n with
    | zero =>
      intro i s hi _ _
      rw [List.drop_of_length_le (by omega)]
      refine EV.step (fun k => by rw [laws_total.l0]) ?_
      exact EV.neg (by omega) ((EV.now _).eq (by simp))
    | succ n ih =>
      intro i s hi h0 h1
      have hlt : i < xs.length := by omega
      have e := rd_nat xs i hlt
      have b := hx _ (List.getElem_mem hlt)
      have H := ih (i + 1) (s + xs[i]) (by omega) (by omega) (by omega)
      refine EV.step (fun k => by rw [laws_total.l0]) ?_
      rw [e, w64 (x := s + xs[i]) (by omega) (by omega), w64 (x := (i : Int) + 1) (by omega) (by omega)]
      refine EV.pos (by omega) (EV.pos (by omega) ?_)
      rw [show ((i + 1 : Nat) : Int) = (i : Int) + 1 by omega] at H
      refine H.eq ?_
      rw [List.drop_eq_getElem_cons hlt, List.sum_cons]; omega
  exact (go xs.length 0 0 (by omega) (by omega) (by omega)).eq (by simp)

theorem spec_l6Perm_l0 (p : List Int) (hn : p.length < 4611686018427387904) : ∀ (suf pre : List Int), p = pre ++ suf → pre.Nodup →
    EV (fun k => spec_l6Perm.l0 k p (seenM p.length pre) (pre.length : Int)) (suf.all (inB p.length) && decide (pre ++ suf).Nodup) := by
  intro suf
  induction suf with
  | nil =>
    intro pre h hp
    refine EV.step (fun k => by rw [spec_l6Perm.l0]) ?_
    exact EV.neg (by subst h; simp) ((EV.now _).eq (by simp [hp]))
  | cons x suf ih =>
    intro pre h hp
    have hpl : pre.length < 4611686018427387904 := by subst h; simp at hn; omega
    have hlt : (pre.length : Int) < (p.length : Int) := by subst h; exact lt_app ..
    have hx : rd p (pre.length : Int) = x := by subst h; exact rd_app ..
    refine EV.step (fun k => by rw [spec_l6Perm.l0]) ?_
    rw [hx, up (x := x) hpl, w64 (x := (p.length : Int) - 1) (by omega) (by omega)]
    refine EV.pos hlt (EV.pos (by omega) (EV.by (spec_l1In_is _ _ _) ?_))
    by_cases hb : inB p.length x = true
    · have b := inB_of hb
      refine EV.pos (by simp; omega) (EV.pos b.1 (EV.pos (by simp [seenM]; omega) ?_))
      rw [show rdOf false (seenM p.length pre) x = decide (x ∈ pre) by unfold seenM; rw [rdOf_tab _ _ _ _ b.1 b.2, show ((x.toNat : Nat) : Int) = x by omega]]
      by_cases hm : x ∈ pre
      · refine EV.pos (by simpa using hm) ((EV.now _).eq ?_)
        rw [decide_eq_false, Bool.and_false]
        intro c
        exact (List.nodup_append.1 c).2.2 x hm x (by simp) rfl
      · refine EV.neg (by simpa using hm) ?_
        rw [seenM_snoc _ _ _ b.1]
        refine (ih (pre ++ [x]) (by simp [h]) ?_).eq (by simp [hb])
        rw [List.nodup_append]
        refine ⟨hp, by simp, fun a ha c hc => ?_⟩
        rw [List.mem_singleton] at hc
        intro e; exact hm (by rw [← hc, ← e]; exact ha)
    · refine EV.neg (by simp only [inB, decide_eq_true_iff] at hb; simp; omega) ((EV.now _).eq ?_)
      rw [List.all_cons, show inB p.length x = false by simpa using hb]; simp
theorem spec_l6Perm_is (p : List Int) (hn : p.length < 4294967296) : EV (fun k => spec_l6Perm.f k p) (permB p) := by
  refine EV.pos (by omega) (EV.pos (by omega) ?_)
  have := spec_l6Perm_l0 p (by omega) p [] rfl List.nodup_nil
  rw [seenM_nil] at this
  exact this

theorem spec_IsMap_is (w : List Int) (hn : w.length ≤ 1048576) : EV (fun k => spec_IsMap.f k w) (isMapB w) := by
  unfold isMapB
  refine EV.by (spec_l1In_is _ _ _) ?_
  by_cases h1 : 2 ≤ w.length ∧ w.length ≤ 24
  · rw [decide_eq_true h1, Bool.true_and]
    refine EV.pos (by simp; omega) ?_
    by_cases h2 : w.length % 2 = 0
    · rw [decide_eq_true h2, Bool.true_and]
      exact EV.pos (by omega) (EV.bind (spec_l6Perm_is w (by omega)) (EV.now _))
    · rw [decide_eq_false h2, Bool.false_and]
      exact EV.neg (by omega) (EV.now _)
  · rw [decide_eq_false h1, Bool.false_and]
    exact EV.neg (by simp; omega) (EV.now _)

theorem spec_CyclesOf_is {m : List Int} (hb : isMapB m = true) : ∃ cs : List (List Int), cs.length = cycN m ∧ EV (fun k => spec_CyclesOf.f k m) cs := by
  have hb' := hb
  simp only [isMapB, Bool.and_eq_true, decide_eq_true_eq] at hb'
  obtain ⟨hn, h2, hm⟩ := hb'
  obtain ⟨cs, hc, h⟩ := spec_l6Cycles_is hm hn.2
  exact ⟨cs, hc, EV.bind (spec_IsMap_is m (by omega)) (EV.pos hb (EV.bind h (EV.now _)))⟩

theorem spec_GenusOf_is {m : List Int} (hb : isMapB m = true) : EV (fun k => spec_GenusOf.f k m) (genN m) := by
  have hb' := hb
  simp only [isMapB, Bool.and_eq_true, decide_eq_true_eq] at hb'
  obtain ⟨hn, h2, hm⟩ := hb'
  exact EV.bind (spec_IsMap_is m (by omega)) (EV.pos hb (EV.bind (spec_l6Genus_is hm hn.2 h2) (EV.now _)))

/-- a row of at most ten rows of at most two -/
def tenB (x : List (List Int)) : Prop := x.length ≤ 10 ∧ ∀ r ∈ x, r.length ≤ 2
theorem ten_graph {g : List (List Int)} (h : graphB g = true) : tenB g := edge_all h
theorem ten_right (g : List (List Int)) : tenB (rightM g) := by
  unfold rightM
  split
  · rename_i h; exact ten_graph h
  · exact ⟨by simp, fun _ h => absurd h (by simp)⟩
theorem ten_bip (a b : Int) : tenB (bipR a b) := by
  unfold bipR
  split
  · exact ten_right _
  · exact ⟨by simp, fun _ h => absurd h (by simp)⟩
theorem ten_parse (ps : List ByteArray) : tenB (parseL ps).1 := by
  unfold parseL
  split
  · split
    · rename_i h; exact ten_graph h
    · exact ⟨by simp, fun _ h => absurd h (by simp)⟩
  · exact ⟨by simp, fun _ h => absurd h (by simp)⟩
theorem ten_same {x : List (List Int)} (h : tenB x) : EV (fun k => laws_sameLists.f k x x) true :=
  laws_sameLists_self x (by have := h.1; omega) (fun r hr => by have := h.2 r hr; omega)
theorem degM_len' (g : List (List Int)) : (degM g).length ≤ 7 := by
  unfold degM; split <;> simp
theorem ring_small (n : Int) (h : n = 3 ∨ n = 4 ∨ n = 5 ∨ n = 6 ∨ n = 7 ∨ n = 8) : spec_RingGraph.f 60 n = impl_RingGraph.f 60 n ∧ ((impl_RingGraph.f 60 n).map fun g => decide (g.length ≤ 10) && g.all fun e => decide (e.length ≤ 2)) = some true := by
  rcases h with rfl | rfl | rfl | rfl | rfl | rfl <;> decide +kernel
theorem ring_both (n : Int) (hn : 0 ≤ n ∧ n ≤ 8) : ∃ R : List (List Int), EV (fun k => spec_RingGraph.f k n) R ∧ EV (fun k => impl_RingGraph.f k n) R ∧ tenB R := by
  by_cases h : 3 ≤ n ∧ n ≤ 9
  · obtain ⟨e, hs⟩ := ring_small n (by omega)
    obtain ⟨R, hR⟩ : ∃ R, impl_RingGraph.f 60 n = some R := by
      rcases hx : impl_RingGraph.f 60 n with _ | R
      · rw [hx] at hs; cases hs
      · exact ⟨R, rfl⟩
    rw [hR] at hs e
    simp at hs
    exact ⟨R, EV.mono (spec_RingGraph.mono n) e, EV.mono (impl_RingGraph.mono n) hR, hs.1, fun r hr => hs.2 r hr⟩
  · refine ⟨[], ?_, ?_, by simp, fun _ h => absurd h (by simp)⟩
    · show EV (fun k => spec_RingGraph.l0 k n [] 0) []
      refine EV.step (fun k => by rw [spec_RingGraph.l0]) ?_
      have R := spec_l7Right_is [] (by simp)
      by_cases h0 : (0 : Int) < n
      · refine EV.pos h0 (EV.by (spec_l1In_is _ _ _) (EV.neg (by simp; omega) (EV.bind R (EV.now _))))
      · exact EV.neg h0 (EV.bind R (EV.now _))
    · exact EV.by (impl_within_is _ _ _) (EV.neg (by simpa using h) (EV.now _))
theorem text_mid (g : List (List Int)) : (graphTextM g).size ≤ 1048576 := by
  unfold graphTextM
  split
  · rename_i h
    have p := graph_parts h
    have := join_len (g.map edgeT) (⟨#[32]⟩ : ByteArray) 1000 (by decide) (map_sizes p.1)
    rw [List.length_map] at this
    have e : (joinM (g.map edgeT) (⟨#[32]⟩ : ByteArray)).size = (Lib.join ((g.map edgeT).map (·.data.toList)) (⟨#[32]⟩ : ByteArray).data.toList).length := by
      unfold joinM bs; simp [ByteArray.size]
    rw [e]; have := p.2; omega
  · decide
theorem back_no {g : List (List Int)} (h : graphB g ≠ true) : parseL (splitM (graphTextM g) 32) = ([], false) := by
  unfold graphTextM
  rw [if_neg h]
  decide +kernel
theorem first_map {g : List (List Int)} (hg : graphB g = true) : isMapB (firstK g 7) = true := by
  have hl := first_len (g := g)
  have e := graph_parts hg
  have h1 : 1 ≤ g.length := by
    simp only [graphB, Bool.and_eq_true, decide_eq_true_eq] at hg; exact hg.2.1
  simp only [isMapB, Bool.and_eq_true, decide_eq_true_eq]
  exact ⟨by omega, by omega, first_perm hg⟩
theorem row_small {g : List (List Int)} (hg : graphB g = true) (hr : rotM g ≤ 2000) : ∀ x ∈ rowM' g, 0 ≤ x ∧ x ≤ 1000000 := by
  intro x hx
  have c := row_count hg hr (gens_bd0 hg)
  have l := gens_len hg
  obtain ⟨i, hi, rfl⟩ := List.getElem_of_mem hx
  have q := c.1 i
  rw [List.getD_eq_getElem?_getD, List.getElem?_eq_getElem hi, Option.getD_some] at q
  have k : (gens g).countP (fun n => decide (n = (i : Int))) ≤ (gens g).length := List.countP_le_length
  omega
/-- how many points bear an edge -/
theorem fg_pts {g row : List (List Int)} {first ds_ : List Int} {rw_ : List Int} (hd : ds_.length ≤ 7) (H : ∀ n : Int, n = (ds_.countP fun d => decide (d > 0) : Nat) → EV (fun k => laws_FnGraphs.l0 k g rw_ first ds_ n (ds_.length : Int)) true) :
    ∀ (n i : Nat) (c : Nat), i + n = ds_.length → c = (ds_.take i).countP (fun d => decide (d > 0)) → EV (fun k => laws_FnGraphs.l0 k g rw_ first ds_ (c : Int) (i : Int)) true := by
  intro n
  induction n with
  | zero =>
    intro i c hi hc
    rw [List.take_of_length_le (by omega)] at hc
    rw [show i = ds_.length by omega]
    exact H _ (by omega)
  | succ n ih =>
    intro i c hi hc
    have hlt : i < ds_.length := by omega
    have cb : c ≤ (ds_.take i).length := by rw [hc]; exact List.countP_le_length
    rw [List.length_take] at cb
    have tk : (ds_.take (i + 1)).countP (fun d => decide (d > 0)) = c + (if ds_[i] > 0 then 1 else 0) := by
      rw [List.take_succ_eq_append_getElem hlt, List.countP_append, ← hc]
      simp [List.countP_cons]
    refine EV.step (fun k => by rw [laws_FnGraphs.l0]) ?_
    rw [rd_nat ds_ i hlt, w64 (x := (i : Int) + 1) (by omega) (by omega), w64 (x := (c : Int) + 1) (by omega) (by omega)]
    refine EV.pos (by omega) (EV.pos (by omega) ?_)
    by_cases hp : ds_[i] > 0
    · rw [if_pos hp] at tk
      refine EV.pos hp ?_
      have := ih (i + 1) (c + 1) (by omega) tk.symm
      exact_mod_cast this
    · rw [if_neg hp] at tk
      refine EV.neg hp ?_
      have := ih (i + 1) c (by omega) (by omega)
      exact_mod_cast this
theorem fg_ev (b : List Int) (hb : b.length ≤ 140737488351232) : EV (fun k => laws_FnGraphs.f k b) true := by
  by_cases h : (b.length : Int) > 1048576
  · refine EV.by (show laws_big.f b = some true by unfold laws_big.f; rw [decide_eq_true h]) ?_
    exact EV.pos rfl (EV.now _)
  · have hb' : b.length ≤ 1048576 := by omega
    obtain ⟨g, Eg, gl, g2, gp⟩ := spec_DrawGenusRow_is b hb'
    obtain ⟨t, Et, tl⟩ := spec_DrawParseGraph_is b hb'
    obtain ⟨n, En, n0, n6⟩ := spec_DrawCompleteGraph_is b hb'
    obtain ⟨x, y, Ex, hx, hy⟩ := spec_DrawBipartiteGraph_is b hb'
    obtain ⟨q, Eq, q0, q8⟩ := spec_DrawRingGraph_is b hb'
    obtain ⟨Q, Q1, Q2, Q3⟩ := ring_both q ⟨q0, q8⟩
    have rl := rowM'_len g
    have dl := degM_len' g
    have fl : (firstM g).length ≤ 20 := by
      unfold firstM; split
      · rw [first_len]; omega
      · simp
    -- the last way: the genus of the first rotation
    have j3 : graphB g = true → EV (fun k => laws_FnGraphs.j3 k g (firstM g) false) true := by
      intro hg
      refine EV.step (fun k => by rw [laws_FnGraphs.j3]) ?_
      refine EV.neg (by simp) (EV.bind (impl_LeastGenus_is g (by omega)) ?_)
      by_cases hneg : leastF 0 (rowM' g) < 0
      · exact EV.pos hneg (EV.now _)
      · have hr : rotM g ≤ 2000 := by
          rcases Int.lt_or_le 2000 (rotM g) with k | k
          · exfalso
            apply hneg
            unfold rowM'
            rw [if_neg (by omega)]; decide
          · exact k
        have ef : firstM g = firstK g 7 := by unfold firstM; rw [if_pos hg]
        rw [ef]
        have p := row_pos hg hr (first_gen hg)
        refine EV.neg hneg (EV.bind (spec_GenusOf_is (first_map hg)) (EV.pos p.1 ?_))
        refine EV.cases (fun _ => EV.now _) (fun h8 => ?_)
        rcases gp hg with k | k
        · exact absurd (show (g.length : Int) > 8 by omega) h8
        · rw [least_planar hg hr k]; exact EV.now _
    have j1 : EV (fun k => laws_FnGraphs.j1 k g (rowM' g) (firstM g) (graphB g) false) true := by
      refine EV.step (fun k => by rw [laws_FnGraphs.j1]) ?_
      refine EV.neg (by simp) ?_
      by_cases hg : graphB g = true
      · refine EV.pos hg (EV.bind (impl_DegreesOf_is g (by omega)) ?_)
        refine fg_pts (row := g) dl (fun m hm => ?_) (degM g).length 0 0 (by omega) (by simp)
        refine EV.step (fun k => by rw [laws_FnGraphs.l0]) ?_
        refine EV.neg (by omega) (EV.bind (laws_total_is (degM g) (by omega) (degM_bd g)) ?_)
        rw [w64 (x := 2 * (g.length : Int)) (by omega) (by omega)]
        refine EV.pos (total_deg hg) ?_
        have ef : firstM g = firstK g 7 := by unfold firstM; rw [if_pos hg]
        obtain ⟨cs, hc, Ec⟩ := spec_CyclesOf_is (first_map hg)
        rw [← ef] at Ec
        refine EV.bind Ec (EV.pos (by rw [hc, first_cyc hg, hm, points_is hg]) ?_)
        by_cases h4 : ((rowM' g).length : Int) > 0
        · have hr : rotM g ≤ 2000 := by
            rcases Int.lt_or_le 2000 (rotM g) with k | k
            · exfalso
              have e : rowM' g = [] := by unfold rowM'; rw [if_neg (by omega)]
              rw [e] at h4; simp at h4
            · exact k
          refine EV.pos h4 (EV.bind (laws_total_big (rowM' g) (by omega) (row_small hg hr)) (EV.bind (impl_CountRotations_is g (by omega)) ?_))
          rw [row_sum hg hr, show (rotM g != rotM g) = false by simp]
          exact j3 hg
        · exact EV.neg h4 (j3 hg)
      · have ef : firstM g = [] := by unfold firstM; rw [if_neg hg]
        rw [ef]
        refine EV.neg hg (EV.pos (by simp) (EV.bind (impl_CountRotations_is g (by omega)) ?_))
        have er : rotM g = -1 := by unfold rotM; rw [if_neg hg]
        rw [er]; exact EV.now _
    have j0 : EV (fun k => laws_FnGraphs.j0 k g (rowM' g) (firstM g) false) true := by
      refine EV.step (fun k => by rw [laws_FnGraphs.j0]) ?_
      refine EV.neg (by simp) (EV.bind (impl_GraphText_is g (by omega)) (EV.bind (impl_ParseGraph_is _ (text_mid g)) (EV.bind (spec_GraphText_is g (by omega)) (EV.pos rfl (EV.bind (spec_IsGraph_is g (by omega)) ?_)))))
      by_cases hg : graphB g = true
      · rw [read_back hg]
        rw [hg] at j1 ⊢
        exact EV.neg (by simp) (EV.pos rfl (EV.bind (ten_same (ten_graph hg)) j1))
      · rw [back_no hg]
        have hf : graphB g = false := by simpa using hg
        rw [hf] at j1 ⊢
        exact EV.neg (by simp) (EV.neg (by simp) j1)
    refine EV.by (laws_big_no b h) (EV.neg (by simp) ?_)
    refine EV.bind Eg (EV.bind (impl_GenusRow_is g (by omega)) (EV.bind Et (EV.bind (impl_ParseGraph_is t (by omega)) (EV.bind (spec_ParseGraph_is t (by omega)) (EV.bind En (EV.bind Ex (EV.bind Eq ?_)))))))
    refine EV.bind (impl_FirstRotation_is g (by omega)) (EV.bind (spec_GenusRow_is g (by omega)) (EV.bind (laws_sameInts_self _ (by omega)) (EV.pos rfl ?_)))
    refine EV.neg (by simp) (EV.bind (ten_same (ten_parse _)) (EV.pos rfl ?_))
    refine EV.bind (impl_CompleteGraph_is n) (EV.bind (spec_CompleteGraph_is n) (EV.bind (ten_same (ten_right _)) (EV.pos rfl ?_)))
    refine EV.bind (impl_BipartiteGraph_is x y) (EV.bind (spec_BipartiteGraph_is x y) (EV.bind (ten_same (ten_bip _ _)) (EV.pos rfl ?_)))
    refine EV.bind Q2 (EV.bind Q1 (EV.bind (ten_same Q3) (EV.pos rfl ?_)))
    refine EV.bind (spec_FirstRotation_is g (by omega)) (EV.bind (laws_sameInts_self _ (by omega)) (EV.pos rfl ?_))
    refine EV.bind (impl_IsGraph_is g (by omega)) (EV.bind (spec_IsGraph_is g (by omega)) (EV.neg (by simp) ?_))
    refine EV.bind (impl_DegreesOf_is g (by omega)) (EV.bind (spec_DegreesOf_is g (by omega)) (EV.bind (laws_sameInts_self _ (by omega)) (EV.pos rfl ?_)))
    refine EV.bind (impl_CountRotations_is g (by omega)) (EV.bind (spec_CountRotations_is g (by omega)) (EV.pos rfl ?_))
    refine EV.bind (impl_LeastGenus_is g (by omega)) (EV.bind (spec_LeastGenus_is g (by omega)) ?_)
    rw [show (leastF 0 (rowM' g) != leastF 0 (rowM' g)) = false by simp]
    exact j0
theorem FnGraphs : laws_FnGraphs.Pure := by
  intro b h1 h2 h3
  exact EV.rounds (fg_ev b (by omega))

end Go.Proofs.YtafpbabiahjjaaaGreatDoor.Pure
