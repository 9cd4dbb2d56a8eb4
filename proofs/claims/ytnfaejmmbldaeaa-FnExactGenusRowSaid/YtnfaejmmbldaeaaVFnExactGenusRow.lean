/- The walk of FnExactGenusRow on the way on which each comparison holds: out of the printed contracts of all that it calls and a contract of markIntSS; no condition but the pure facts 'Facts'. -/
import Derived.Test.YtnfaejmmbldaeaaPFnExactGenusRowx0
import Derived.Test.YtnfaejmmbldaeaaPFnExactGenusRowx1
import Derived.Test.YtnfaejmmbldaeaaPFnExactGenusRowx2
import Derived.Test.YtnfaejmmbldaeaaPFnExactGenusRowx3
import Derived.Test.YtnfaejmmbldaeaaPFnExactGenusRowx4
import Derived.Test.YtnfaejmmbldaeaaPFnExactGenusRowx5
import Derived.Test.YtnfaejmmbldaeaaPFnExactGenusRowx6
import Derived.Test.YtnfaejmmbldaeaaPFnExactGenusRowx7
import Derived.Test.YtnfaejmmbldaeaaPFnExactGenusRowx8
import Derived.Test.YtnfaejmmbldaeaaPFnExactGenusRowx9
import Derived.Test.YtnfaejmmbldaeaaPFnExactGenusRowx10
import Derived.Test.YtnfaejmmbldaeaaPFnExactGenusRowx11
import Derived.Test.YtnfaejmmbldaeaaPFnExactGenusRowx12
import Derived.Test.YtnfaejmmbldaeaaWMore
namespace Go.Proofs.Ytnfaejmmbldaeaa.VFnExactGenusRow
open Go.RowKit Go.Proofs.Ytnfaejmmbldaeaa.PFnExactGenusRow Go.Proofs.YtnfaejmmbldaeaaW.PrintWords Go.Proofs.YtnfaejmmbldaeaaW.PrintLast Go.Proofs.YtnfaejmmbldaeaaW.PrintMore
set_option linter.unusedVariables false
set_option linter.unusedSimpArgs false
/-- a row of whole numbers of the call's own, in the blocks from lo on and below hi -/
structure OS (b : Nat) (w : World) (lo hi : Nat) (v : Value) (xs : List Int) : Prop where mk ::
  raw : Kd.R (Kd.int .i64) 3 w b (fun k_ => lo ≤ k_ ∧ k_ < hi) v xs
  le : hi ≤ w.heap.size
section
variable {b lo hi n c : Nat} {w w1 : World} {v : Value} {A : Option Addr} {xs ys : List Int} {S : Nat → Prop}
theorem OS.of (h : Kd.R (Kd.int .i64) 3 w1 w.heap.size (fun _ => True) v xs) (hb : b ≤ w.heap.size) : OS b w1 w.heap.size w1.heap.size v xs :=
  ⟨Kd.R_lower (Kd.R_mono (Kd.R_bound h) (fun _ hk => ⟨hk.2.1, hk.2.2.1⟩)) hb, Nat.le_refl _⟩
theorem OS.keep (h : OS b w lo hi v xs) (hk : Kept w w1 S) (hd : ∀ k, lo ≤ k → k < hi → ¬ S k) : OS b w1 lo hi v xs :=
  ⟨Kd.R_kept h.raw hk (fun k hk => hd k hk.1 hk.2), Nat.le_trans h.le hk.1⟩
theorem OS.below (h : OS b w lo hi v xs) (hb : Below w.heap.size w w1) : OS b w1 lo hi v xs := h.keep (Kept.of_below hb (fun _ => False)) (fun _ _ _ hf => hf)
theorem OS.reads (h : OS b w lo hi (.slice A n c) xs) : n = xs.length ∧ n ≤ c ∧ Kd.C (Kd.int .i64) w A xs.length xs := Kd.R_reads' h.raw
theorem OS.cap (h : OS b w lo hi (.slice A n c) xs) : xs.length ≤ c := by have := h.reads; omega
theorem OS.back (h : OS b w lo hi v xs) (h1 : Kd.R (Kd.int .i64) 3 w1 b (fun k_ => ((lo ≤ k_ ∧ k_ < hi) ∨ w.heap.size ≤ k_)) v ys) (hs : w.heap.size ≤ w1.heap.size) : OS b w1 lo hi v ys :=
  ⟨Kd.R_reok rfl h1 (fun k hk => h.raw.1 k hk), Nat.le_trans h.le hs⟩
end

/-- a row of rows of the call's own, no two of which share a block, all in the blocks from lo on and below hi -/
structure OSS (b : Nat) (w : World) (lo hi : Nat) (v : Value) (xs : List (List Int)) : Prop where mk ::
  raw : Kd.S (Kd.slice 3 (Kd.int .i64)) 24 w b (fun k_ => lo ≤ k_ ∧ k_ < hi) v xs
  le : hi ≤ w.heap.size
section
variable {b lo hi n c : Nat} {w w1 : World} {v : Value} {A : Option Addr} {xs ys : List (List Int)} {S : Nat → Prop}
theorem OSS.of (h : Kd.S (Kd.slice 3 (Kd.int .i64)) 24 w1 w.heap.size (fun _ => True) v xs) (hb : b ≤ w.heap.size) : OSS b w1 w.heap.size w1.heap.size v xs :=
  ⟨Kd.S_lower (Kd.S_mono (Kd.S_bound h) (fun _ hk => ⟨hk.2.1, hk.2.2.1⟩)) hb, Nat.le_refl _⟩
theorem OSS.keep (h : OSS b w lo hi v xs) (hk : Kept w w1 S) (hd : ∀ k, lo ≤ k → k < hi → ¬ S k) : OSS b w1 lo hi v xs :=
  ⟨Kd.S_kept h.raw hk (fun k hk => hd k hk.1 hk.2), Nat.le_trans h.le hk.1⟩
theorem OSS.below (h : OSS b w lo hi v xs) (hb : Below w.heap.size w w1) : OSS b w1 lo hi v xs := h.keep (Kept.of_below hb (fun _ => False)) (fun _ _ _ hf => hf)
theorem OSS.reads (h : OSS b w lo hi (.slice A n c) xs) : n = xs.length ∧ n ≤ c ∧ Kd.C (Kd.slice 3 (Kd.int .i64)) w A xs.length xs := Kd.S_reads' h.raw
theorem OSS.cap (h : OSS b w lo hi (.slice A n c) xs) : xs.length ≤ c := by have := h.reads; omega
theorem OSS.back (h : OSS b w lo hi v xs) (h1 : Kd.S (Kd.slice 3 (Kd.int .i64)) 24 w1 b (fun k_ => lo ≤ k_ ∧ k_ < hi) v ys) (hs : w.heap.size ≤ w1.heap.size) : OSS b w1 lo hi v ys :=
  ⟨h1, Nat.le_trans h.le hs⟩
end
/-! laws.markIntSS -/
def laws_markIntSS.l0 : Nat → List (List Int) → Int → Int → Option (Int × List (List Int))
  | 0, _, _, _ => none
  | k + 1, x0, x1, x5 => if x5 < (x0.length : Int) then (if 0 ≤ x5 then ((laws_markIntS.f k (rd_L1 x0 x5) x1).bind fun bt => laws_markIntSS.l0 k (x0.set x5.toNat bt.2) bt.1 (wrap64 (x5 + 1))) else none) else some (x1, x0)
def laws_markIntSS.f (k : Nat) (l0 : List (List Int)) (a1 : Int) : Option (Int × List (List Int)) := laws_markIntSS.l0 k l0 a1 0
set_option maxHeartbeats 4000000 in
set_option maxRecDepth 100000 in
theorem laws_markIntSS.calls (k : Nat) (P0_ : Nat → Prop) (u9000_ : Value) (l0 : List (List Int)) (a1 : Int) (r1 : Int) (r2 : List (List Int)) (w0 w : World) (hB : Below w0.heap.size w0 w) (ho0 : Kd.S (Kd.slice 3 (Kd.int .i64)) 24 w w0.heap.size P0_ u9000_ l0) (h : laws_markIntSS.f k l0 a1 = some (r1, r2)) :
    Calls Try.prog 11 #[u9000_, .int .i64 a1] w fun e w' => e = .returned (.int .i64 r1) ∧ Kd.S (Kd.slice 3 (Kd.int .i64)) 24 w' w0.heap.size P0_ u9000_ r2 ∧ Below w0.heap.size w0 w' ∧ Kept w w' (fun k_ => P0_ k_) := by
  have HO0 := Aside0.mk ho0
  have HK := Aside0.mk (Kept.refl w (fun k_ => P0_ k_))
  have HB := Aside0.mk hB
  clear hB ho0
  have H' := Aside0.mk (show laws_markIntSS.l0 k l0 a1 0 = some (r1, r2) from h)
  clear h
  go_enter Try.func11, Try.ntmps11
  go_wp2
  go_loopg [1, 5] k (fun kq v1 v5 w' => ∃ (x0_1 : List (List Int)) (x1_1 : Int) (x5_1 : Int), v1 = .int .i64 x1_1 ∧ v5 = .int .i64 x5_1 ∧ Aside0 (laws_markIntSS.l0 kq x0_1 x1_1 x5_1 = some (r1, r2)) ∧ Aside0 (kq ≤ k) ∧ Aside0 (Kd.S (Kd.slice 3 (Kd.int .i64)) 24 w' w0.heap.size P0_ u9000_ x0_1) ∧ Aside0 (Kept w w' (fun k_ => P0_ k_)) ∧ Aside0 (Below w0.heap.size w0 w'))
  case atStart => exact ⟨l0, a1, 0, (by first | rfl | (simp; done) | (simp [*]; done)), (by first | rfl | (simp; done) | (simp [*]; done)), H', ⟨Nat.le_refl _⟩, HO0, HK, HB⟩
  case round =>
    clear H' HO0 HK HB
    obtain ⟨x0_1, x1_1, x5_1, rfl, rfl, HA, HK1, HO, HK, HB⟩ := hrel
    cases gk with
    | zero => exact absurd HA.out (by simp [laws_markIntSS.l0])
    | succ k1 =>
      have H := HA.out
      clear HA
      simp only [laws_markIntSS.l0] at H
      by_cases c3 : x5_1 < (x0_1.length : Int)
      · rw [if_pos c3] at H
        by_cases c4 : 0 ≤ x5_1
        · rw [if_pos c4] at H
          obtain ⟨⟨t1, t2⟩, A5, H⟩ := Option.bind_eq_some_iff.mp H
          have A5 := Aside0.mk (show laws_markIntS.f k1 (rd_L1 x0_1 x5_1) x1_1 = some (t1, t2) from A5)
          have H' : Aside0 (laws_markIntSS.l0 k1 (x0_1.set x5_1.toNat t2) t1 (wrap64 (x5_1 + 1)) = some (r1, r2)) := ⟨H⟩
          clear H
          obtain ⟨g, cap, e0, gb, gl, _⟩ := Kd.S_form HO.out (by omega)
          subst e0
          obtain ⟨oki, c, hcl, hM, hcc, hoki, hH⟩ := Kd.S_lend HO.out ([] : List Int) x5_1 c4 c3
          obtain ⟨v', rfl, hR⟩ := hM
          replace hR := (show Kd.R (Kd.int .i64) 3 _ _ _ _ (rd_L1 x0_1 x5_1) from hR)
          obtain ⟨A', c', e1⟩ := Kd.R_slice hR
          subst e1
          have hx : wr.cell? ⟨g, x5_1.toNat, none⟩ = some (.slice A' (rd_L1 x0_1 x5_1).length c') := by
            have := hcc 0 _ rfl
            rwa [show x5_1.toNat * (Kd.slice 3 (Kd.int .i64)).sz + 0 = x5_1.toNat from by show x5_1.toNat * 1 + 0 = x5_1.toNat; omega] at this
          clear hcc hcl gb gl
          have c3b0 : decide (x5_1 < (x0_1.length : Int)) = true := decide_eq_true c3
          have c4b0 : decide (0 ≤ x5_1) = true := decide_eq_true c4
          have HR := Aside0.mk hR
          have HH := Aside0.mk hH
          have HI := Aside0.mk hoki
          clear hR hH hoki HO
          replace c3 := eq_true c3
          replace c4 := eq_true c4
          go_wp2_with fail
          (go_at_call 12; (with_reducible refine (laws_markIntS.calls k1 oki _ _ _ t1 t2 w0 _ HB.out HR.out A5.out).mono ?_))
          rintro e w' ⟨rfl, ho, hb, hk⟩
          have hR2 := Aside0.mk (Kd.R_reok rfl ho (fun k_ e_ => HR.out.1 k_ e_))
          have HO := Aside0.mk (Kd.H_back (Kd.H_kept HH.out hk (fun k_ _ hn_ hs_ => hn_ hs_)) (x' := t2) ⟨_, rfl, hR2.out⟩ (fun _ hk_ => hk_))
          replace HK := Aside0.mk (Kept.then_ HK.out hk (fun k_ hs_ => .inl (HI.out k_ hs_).1))
          replace HB := Aside0.mk hb
          clear ho hb hk HR HH HI hR2 hx
          go_wp2
          go_roundg k1
          case measure => have := HK1.out; omega
          case rel => exact ⟨x0_1.set x5_1.toNat t2, t1, wrap64 (x5_1 + 1), (by first | rfl | (simp; done) | (simp [*]; done)), (by first | rfl | (simp; done) | (simp [*]; done)), H', ⟨by have := HK1.out; omega⟩, by simpa using HO, HK, HB⟩
        · rw [if_neg c4] at H
          exact absurd H (by simp)
      · rw [if_neg c3] at H
        have c3b0 : decide (x5_1 < (x0_1.length : Int)) = false := decide_eq_false c3
        clear c3
        simp only [Option.some.injEq, Prod.mk.injEq] at H
        obtain ⟨rfl, rfl⟩ := H
        obtain ⟨Ao9, co9, eo9⟩ := Kd.S_slice HO.out
        subst eo9
        go_wp2
        go_ret
        exact ⟨rfl, HO.out, HB.out, HK.out⟩

/-- what the pure side owes: the facts of the way that goes to its end -/
def Main (k : Nat) (l0 : List (List Int)) : Prop := ∃ (f0 : Int) (R : List Int) (m0 : Int) (y0 : List (List Int)) (m2 : Int) (y2 : List Int),
  laws_szIntSS.f k l0 1048576 = some f0 ∧
  0 ≤ f0 ∧
  laws_toIntSS.f k l0 = some l0 ∧
  spec_GenusRow.f k l0 = some R ∧
  impl_GenusRow.f k l0 = some R ∧
  laws_eqIntS.f k R R = some true ∧
  laws_eqIntSS.f k l0 l0 = some true ∧
  laws_markIntSS.f k l0 1 = some (m0, y0) ∧
  0 ≤ m0 ∧
  laws_markIntS.f k R 1 = some (m2, y2) ∧
  laws_heldIntS.f k y2 1 = some m2 ∧
  0 ≤ m2
/-- .. or the input is too great: guard j turns it away -/
def Out0 (k : Nat) (l0 : List (List Int)) : Prop := ∃ (f0 : Int), laws_szIntSS.f k l0 1048576 = some f0 ∧ f0 < 0
def Facts (k : Nat) (l0 : List (List Int)) : Prop := Out0 k l0 ∨ Main k l0
set_option maxHeartbeats 4000000 in
set_option maxRecDepth 100000 in
theorem out0 (k : Nat) (l0 : List (List Int)) {A0 : Option Addr} {c0 : Nat} (W : World) (hr0 : Kd.C (Kd.slice 3 (Kd.int .i64)) W A0 l0.length l0) (hc0 : l0.length ≤ c0) (F : Out0 k l0) :
    Calls Try.prog 3 #[.slice A0 l0.length c0] W fun e w' => e = .returned (.bool true) ∧ Below W.heap.size W w' := by
  have HR0 := Aside0.mk hr0
  have HC0 := Aside0.mk hc0
  clear hr0 hc0
  have HB := Aside0.mk (Below.refl W.heap.size W)
  obtain ⟨f0, g0, p0⟩ := F
  have df0 : decide (f0 < 0) = true := decide_eq_true (by omega)
  have G0 := Aside0.mk g0
  clear g0
  skip
  clear p0
  go_enter Try.func3, Try.ntmps3
  go_wp2_with fail
  (go_at_call 5; (with_reducible refine (laws_szIntSS.calls k _ _ _ _ _ _ (Kd.C_below HR0.out HB.out) HC0.out G0.out).mono ?_))
  rintro e w1 ⟨rfl, hd⟩
  have hb : Below W.heap.size W w1 := by first | exact hd.below | exact hd
  clear hd
  have Z1 := Aside0.mk hb.size
  replace HB := Aside0.mk (below_step HB.out hb)
  clear hb
  go_wp2
  go_ret
  exact ⟨rfl, HB.out⟩
set_option maxHeartbeats 8000000 in
set_option maxRecDepth 100000 in
theorem main (k : Nat) (l0 : List (List Int)) {A0 : Option Addr} {c0 : Nat} (W : World) (hr0 : Kd.C (Kd.slice 3 (Kd.int .i64)) W A0 l0.length l0) (hc0 : l0.length ≤ c0) (F : Main k l0) :
    Calls Try.prog 3 #[.slice A0 l0.length c0] W fun e w' => e = .returned (.bool true) ∧ Below W.heap.size W w' := by
  have HR0 := Aside0.mk hr0
  have HC0 := Aside0.mk hc0
  clear hr0 hc0
  have HB := Aside0.mk (Below.refl W.heap.size W)
  obtain ⟨f0, R, m0, y0, m2, y2, g0, p0, h0, h1, h2, h3, h4, h5, h6, h7, h8, h9⟩ := F
  have df0 : decide (f0 < 0) = false := decide_eq_false (by omega)
  have G0 := Aside0.mk g0
  clear g0
  have e0 : decide (m0 < 0) = false := decide_eq_false (by have := h6; omega)
  have e1 : decide (m2 < 0) = false := decide_eq_false (by have := h9; omega)
  have e2 : (m2 != m2) = false := by simp
  have e3 : (m2 == m2) = true := by simp
  clear p0
  replace h0 := Aside0.mk h0
  replace h1 := Aside0.mk h1
  replace h2 := Aside0.mk h2
  replace h3 := Aside0.mk h3
  replace h4 := Aside0.mk h4
  replace h5 := Aside0.mk h5
  clear h6
  replace h7 := Aside0.mk h7
  replace h8 := Aside0.mk h8
  clear h9
  go_enter Try.func3, Try.ntmps3
  go_wp2_with fail
  (go_at_call 5; (with_reducible refine (laws_szIntSS.calls k _ _ _ _ _ _ (Kd.C_below HR0.out HB.out) HC0.out G0.out).mono ?_))
  rintro e w1 ⟨rfl, hd⟩
  have hb : Below W.heap.size W w1 := by first | exact hd.below | exact hd
  clear hd
  have Z1 := Aside0.mk hb.size
  replace HB := Aside0.mk (below_step HB.out hb)
  clear hb
  go_wp2_with fail
  (go_at_call 7; (with_reducible refine (laws_toIntSS.calls k _ _ _ _ _ (Kd.C_below HR0.out HB.out) HC0.out h0.out).mono ?_))
  rintro e w2 ⟨v2, rfl, ho, hb⟩
  obtain ⟨A2_, n2_, c2_, rfl⟩ : ∃ A n c, v2 = .slice A n c := by obtain ⟨A, c, h⟩ := Kd.S_slice ho; exact ⟨A, _, c, h⟩
  replace ho := Aside0.mk (OSS.of (b := W.heap.size) (Kd.S_mono ho (fun _ _ => trivial)) HB.out.size)
  have Z2 := Aside0.mk hb.size
  replace HB := Aside0.mk (below_step HB.out hb)
  clear hb
  have O2 := ho
  clear ho
  go_wp2_with fail
  (go_at_call 6; refine calls_of_args (args' := #[.slice A2_ (l0).length c2_]) (by rw [show n2_ = (l0).length from O2.out.reads.1]) ?_; (with_reducible refine (spec_GenusRow.calls k _ _ _ _ _ O2.out.reads.2.2 O2.out.cap h1.out).mono ?_))
  rintro e w3 ⟨v3, rfl, ho, hb⟩
  obtain ⟨A3_, n3_, c3_, rfl⟩ : ∃ A n c, v3 = .slice A n c := by obtain ⟨A, c, h⟩ := Kd.R_slice ho; exact ⟨A, _, c, h⟩
  replace ho := Aside0.mk (OS.of (b := W.heap.size) (Kd.R_mono ho (fun _ _ => trivial)) HB.out.size)
  have Z3 := Aside0.mk hb.size
  replace O2 := Aside0.mk (O2.out.below hb)
  replace HB := Aside0.mk (below_step HB.out hb)
  clear hb
  have O3 := ho
  clear ho
  clear O2
  go_wp2_with fail
  (go_at_call 7; (with_reducible refine (laws_toIntSS.calls k _ _ _ _ _ (Kd.C_below HR0.out HB.out) HC0.out h0.out).mono ?_))
  rintro e w4 ⟨v4, rfl, ho, hb⟩
  obtain ⟨A4_, n4_, c4_, rfl⟩ : ∃ A n c, v4 = .slice A n c := by obtain ⟨A, c, h⟩ := Kd.S_slice ho; exact ⟨A, _, c, h⟩
  replace ho := Aside0.mk (OSS.of (b := W.heap.size) (Kd.S_mono ho (fun _ _ => trivial)) HB.out.size)
  have Z4 := Aside0.mk hb.size
  replace O3 := Aside0.mk (O3.out.below hb)
  replace HB := Aside0.mk (below_step HB.out hb)
  clear hb
  have O4 := ho
  clear ho
  go_wp2_with fail
  (go_at_call 8; refine calls_of_args (args' := #[.slice A4_ (l0).length c4_]) (by rw [show n4_ = (l0).length from O4.out.reads.1]) ?_; (with_reducible refine (impl_GenusRow.calls k _ _ _ _ _ O4.out.reads.2.2 O4.out.cap h2.out).mono ?_))
  rintro e w5 ⟨v5, rfl, ho, hb⟩
  obtain ⟨A5_, n5_, c5_, rfl⟩ : ∃ A n c, v5 = .slice A n c := by obtain ⟨A, c, h⟩ := Kd.R_slice ho; exact ⟨A, _, c, h⟩
  replace ho := Aside0.mk (OS.of (b := W.heap.size) (Kd.R_mono ho (fun _ _ => trivial)) HB.out.size)
  have Z5 := Aside0.mk hb.size
  replace O3 := Aside0.mk (O3.out.below hb)
  replace O4 := Aside0.mk (O4.out.below hb)
  replace HB := Aside0.mk (below_step HB.out hb)
  clear hb
  have O5 := ho
  clear ho
  go_wp2_with fail
  (go_at_call 9; refine calls_of_args (args' := #[.slice A5_ (R).length c5_, .slice A3_ (R).length c3_]) (by rw [show n5_ = (R).length from O5.out.reads.1, show n3_ = (R).length from O3.out.reads.1]) ?_; (with_reducible refine (laws_eqIntS.calls k _ _ _ _ _ _ _ _ O5.out.reads.2.2 O5.out.cap O3.out.reads.2.2 O3.out.cap h3.out).mono ?_))
  rintro e w6 ⟨rfl, hd⟩
  have hb : Below w5.heap.size w5 w6 := by first | exact hd.below | exact hd
  clear hd
  have Z6 := Aside0.mk hb.size
  replace O3 := Aside0.mk (O3.out.below hb)
  replace O4 := Aside0.mk (O4.out.below hb)
  replace O5 := Aside0.mk (O5.out.below hb)
  replace HB := Aside0.mk (below_step HB.out hb)
  clear hb
  go_wp2_with fail
  (go_at_call 7; (with_reducible refine (laws_toIntSS.calls k _ _ _ _ _ (Kd.C_below HR0.out HB.out) HC0.out h0.out).mono ?_))
  rintro e w7 ⟨v7, rfl, ho, hb⟩
  obtain ⟨A7_, n7_, c7_, rfl⟩ : ∃ A n c, v7 = .slice A n c := by obtain ⟨A, c, h⟩ := Kd.S_slice ho; exact ⟨A, _, c, h⟩
  replace ho := Aside0.mk (OSS.of (b := W.heap.size) (Kd.S_mono ho (fun _ _ => trivial)) HB.out.size)
  have Z7 := Aside0.mk hb.size
  replace O3 := Aside0.mk (O3.out.below hb)
  replace O4 := Aside0.mk (O4.out.below hb)
  replace O5 := Aside0.mk (O5.out.below hb)
  replace HB := Aside0.mk (below_step HB.out hb)
  clear hb
  have O7 := ho
  clear ho
  go_wp2_with fail
  (go_at_call 10; refine calls_of_args (args' := #[.slice A4_ (l0).length c4_, .slice A7_ (l0).length c7_]) (by rw [show n4_ = (l0).length from O4.out.reads.1, show n7_ = (l0).length from O7.out.reads.1]) ?_; (with_reducible refine (laws_eqIntSS.calls k _ _ _ _ _ _ _ _ O4.out.reads.2.2 O4.out.cap O7.out.reads.2.2 O7.out.cap h4.out).mono ?_))
  rintro e w8 ⟨rfl, hd⟩
  have hb : Below w7.heap.size w7 w8 := by first | exact hd.below | exact hd
  clear hd
  have Z8 := Aside0.mk hb.size
  replace O3 := Aside0.mk (O3.out.below hb)
  replace O4 := Aside0.mk (O4.out.below hb)
  replace O5 := Aside0.mk (O5.out.below hb)
  replace O7 := Aside0.mk (O7.out.below hb)
  replace HB := Aside0.mk (below_step HB.out hb)
  clear hb
  clear O7
  go_wp2_with fail
  (go_at_call 11; (with_reducible refine (laws_markIntSS.calls k (fun k_ => w3.heap.size ≤ k_ ∧ k_ < w4.heap.size) _ _ _ _ _ W _ HB.out O4.out.raw h5.out).mono ?_))
  rintro e w9 ⟨rfl, ho, hb, hk⟩
  have Z9 := Aside0.mk hk.1
  replace ho := Aside0.mk (OSS.back O4.out ho hk.1)
  replace O3 := Aside0.mk (O3.out.keep hk (by intro k_ h1_ h2_ h3_; have zZ1_ := Z1.out; have zZ2_ := Z2.out; have zZ3_ := Z3.out; have zZ4_ := Z4.out; have zZ5_ := Z5.out; have zZ6_ := Z6.out; have zZ7_ := Z7.out; have zZ8_ := Z8.out; omega))
  replace O5 := Aside0.mk (O5.out.keep hk (by intro k_ h1_ h2_ h3_; have zZ1_ := Z1.out; have zZ2_ := Z2.out; have zZ3_ := Z3.out; have zZ4_ := Z4.out; have zZ5_ := Z5.out; have zZ6_ := Z6.out; have zZ7_ := Z7.out; have zZ8_ := Z8.out; omega))
  clear O4
  have O4 := ho
  clear ho
  replace HB := Aside0.mk hb
  clear hb hk
  go_wp2_with fail
  (go_at_call 9; refine calls_of_args (args' := #[.slice A5_ (R).length c5_, .slice A3_ (R).length c3_]) (by rw [show n5_ = (R).length from O5.out.reads.1, show n3_ = (R).length from O3.out.reads.1]) ?_; (with_reducible refine (laws_eqIntS.calls k _ _ _ _ _ _ _ _ O5.out.reads.2.2 O5.out.cap O3.out.reads.2.2 O3.out.cap h3.out).mono ?_))
  rintro e w10 ⟨rfl, hd⟩
  have hb : Below w9.heap.size w9 w10 := by first | exact hd.below | exact hd
  clear hd
  have Z10 := Aside0.mk hb.size
  replace O3 := Aside0.mk (O3.out.below hb)
  replace O4 := Aside0.mk (O4.out.below hb)
  replace O5 := Aside0.mk (O5.out.below hb)
  replace HB := Aside0.mk (below_step HB.out hb)
  clear hb
  go_wp2_with fail
  (go_at_call 12; (with_reducible refine (laws_markIntS.calls k (fun k_ => w4.heap.size ≤ k_ ∧ k_ < w5.heap.size) _ _ _ _ _ W _ HB.out O5.out.raw h7.out).mono ?_))
  rintro e w11 ⟨rfl, ho, hb, hk⟩
  have Z11 := Aside0.mk hk.1
  replace ho := Aside0.mk (OS.back O5.out ho hk.1)
  replace O3 := Aside0.mk (O3.out.keep hk (by intro k_ h1_ h2_ h3_; have zZ1_ := Z1.out; have zZ2_ := Z2.out; have zZ3_ := Z3.out; have zZ4_ := Z4.out; have zZ5_ := Z5.out; have zZ6_ := Z6.out; have zZ7_ := Z7.out; have zZ8_ := Z8.out; have zZ9_ := Z9.out; have zZ10_ := Z10.out; omega))
  replace O4 := Aside0.mk (O4.out.keep hk (by intro k_ h1_ h2_ h3_; have zZ1_ := Z1.out; have zZ2_ := Z2.out; have zZ3_ := Z3.out; have zZ4_ := Z4.out; have zZ5_ := Z5.out; have zZ6_ := Z6.out; have zZ7_ := Z7.out; have zZ8_ := Z8.out; have zZ9_ := Z9.out; have zZ10_ := Z10.out; omega))
  clear O5
  have O5 := ho
  clear ho
  replace HB := Aside0.mk hb
  clear hb hk
  go_wp2_with fail
  (go_at_call 13; refine calls_of_args (args' := #[.slice A5_ (y2).length c5_, .int .i64 1]) (by rw [show n5_ = (y2).length from O5.out.reads.1]) ?_; (with_reducible refine (laws_heldIntS.calls k _ _ _ _ _ _ O5.out.reads.2.2 O5.out.cap h8.out).mono ?_))
  rintro e w12 ⟨rfl, hd⟩
  have hb : Below w11.heap.size w11 w12 := by first | exact hd.below | exact hd
  clear hd
  have Z12 := Aside0.mk hb.size
  replace O3 := Aside0.mk (O3.out.below hb)
  replace O4 := Aside0.mk (O4.out.below hb)
  replace O5 := Aside0.mk (O5.out.below hb)
  replace HB := Aside0.mk (below_step HB.out hb)
  clear hb
  go_wp2_with fail
  (go_at_call 7; (with_reducible refine (laws_toIntSS.calls k _ _ _ _ _ (Kd.C_below HR0.out HB.out) HC0.out h0.out).mono ?_))
  rintro e w13 ⟨v13, rfl, ho, hb⟩
  obtain ⟨A13_, n13_, c13_, rfl⟩ : ∃ A n c, v13 = .slice A n c := by obtain ⟨A, c, h⟩ := Kd.S_slice ho; exact ⟨A, _, c, h⟩
  replace ho := Aside0.mk (OSS.of (b := W.heap.size) (Kd.S_mono ho (fun _ _ => trivial)) HB.out.size)
  have Z13 := Aside0.mk hb.size
  replace O3 := Aside0.mk (O3.out.below hb)
  replace O4 := Aside0.mk (O4.out.below hb)
  replace O5 := Aside0.mk (O5.out.below hb)
  replace HB := Aside0.mk (below_step HB.out hb)
  clear hb
  have O13 := ho
  clear ho
  go_wp2_with fail
  (go_at_call 8; refine calls_of_args (args' := #[.slice A13_ (l0).length c13_]) (by rw [show n13_ = (l0).length from O13.out.reads.1]) ?_; (with_reducible refine (impl_GenusRow.calls k _ _ _ _ _ O13.out.reads.2.2 O13.out.cap h2.out).mono ?_))
  rintro e w14 ⟨v14, rfl, ho, hb⟩
  obtain ⟨A14_, n14_, c14_, rfl⟩ : ∃ A n c, v14 = .slice A n c := by obtain ⟨A, c, h⟩ := Kd.R_slice ho; exact ⟨A, _, c, h⟩
  replace ho := Aside0.mk (OS.of (b := W.heap.size) (Kd.R_mono ho (fun _ _ => trivial)) HB.out.size)
  have Z14 := Aside0.mk hb.size
  replace O3 := Aside0.mk (O3.out.below hb)
  replace O4 := Aside0.mk (O4.out.below hb)
  replace O5 := Aside0.mk (O5.out.below hb)
  replace O13 := Aside0.mk (O13.out.below hb)
  replace HB := Aside0.mk (below_step HB.out hb)
  clear hb
  have O14 := ho
  clear ho
  clear O13
  go_wp2_with fail
  (go_at_call 9; refine calls_of_args (args' := #[.slice A14_ (R).length c14_, .slice A3_ (R).length c3_]) (by rw [show n14_ = (R).length from O14.out.reads.1, show n3_ = (R).length from O3.out.reads.1]) ?_; (with_reducible refine (laws_eqIntS.calls k _ _ _ _ _ _ _ _ O14.out.reads.2.2 O14.out.cap O3.out.reads.2.2 O3.out.cap h3.out).mono ?_))
  rintro e w15 ⟨rfl, hd⟩
  have hb : Below w14.heap.size w14 w15 := by first | exact hd.below | exact hd
  clear hd
  have Z15 := Aside0.mk hb.size
  replace O3 := Aside0.mk (O3.out.below hb)
  replace O4 := Aside0.mk (O4.out.below hb)
  replace O5 := Aside0.mk (O5.out.below hb)
  replace O14 := Aside0.mk (O14.out.below hb)
  replace HB := Aside0.mk (below_step HB.out hb)
  clear hb
  clear O14
  go_wp2_with fail
  (go_at_call 13; refine calls_of_args (args' := #[.slice A5_ (y2).length c5_, .int .i64 1]) (by rw [show n5_ = (y2).length from O5.out.reads.1]) ?_; (with_reducible refine (laws_heldIntS.calls k _ _ _ _ _ _ O5.out.reads.2.2 O5.out.cap h8.out).mono ?_))
  rintro e w16 ⟨rfl, hd⟩
  have hb : Below w15.heap.size w15 w16 := by first | exact hd.below | exact hd
  clear hd
  have Z16 := Aside0.mk hb.size
  replace O3 := Aside0.mk (O3.out.below hb)
  replace O4 := Aside0.mk (O4.out.below hb)
  replace O5 := Aside0.mk (O5.out.below hb)
  replace HB := Aside0.mk (below_step HB.out hb)
  clear hb
  go_wp2
  go_ret
  exact ⟨rfl, HB.out⟩
theorem walk (k : Nat) (l0 : List (List Int)) {A0 : Option Addr} {c0 : Nat} (W : World) (hr0 : Kd.C (Kd.slice 3 (Kd.int .i64)) W A0 l0.length l0) (hc0 : l0.length ≤ c0) (F : Facts k l0) :
    Calls Try.prog 3 #[.slice A0 l0.length c0] W fun e w' => e = .returned (.bool true) ∧ Below W.heap.size W w' := by
  rcases F with F | F
  · exact out0 k l0 W hr0 hc0 F
  · exact main k l0 W hr0 hc0 F
end Go.Proofs.Ytnfaejmmbldaeaa.VFnExactGenusRow
