-- written by a copy of the print that takes contracts by hand (stubprint.py)
import Derived.Test.YtafpbabiahjjaaaGreatDoorWSpanB
import Derived.Test.YtafpbabiahjjaaaGreatDoorPFnGraphsx0
import Derived.Test.YtafpbabiahjjaaaGreatDoorPFnGraphsx13
import Derived.Test.YtafpbabiahjjaaaGreatDoorPFnGraphsx14
import Derived.Test.YtafpbabiahjjaaaGreatDoorPFnGraphsx15
namespace Go.Proofs.YtafpbabiahjjaaaGreatDoor.PFnGraphs
open Go.RowKit Go.Proofs.YtafpbabiahjjaaaGreatDoorW.PrintWords Go.Proofs.YtafpbabiahjjaaaGreatDoorW.PrintLast Go.Proofs.YtafpbabiahjjaaaGreatDoorW.PrintMore
attribute [local go_sem] max2_int min2_int max_two min_two max_three min_three max_four min_four   -- for this text's walks alone
set_option linter.unusedVariables false
set_option linter.unusedSimpArgs false

/-! ### spec_l7Orders: function 73 -/
mutual
def spec_l7Orders.l0 : Nat → List Int → List (List Int) → Int → Option (List (List Int))
  | 0, _, _, _ => none
  | k + 1, l, out, j => if j < (l.length : Int) then (if 0 ≤ j then spec_l7Orders.l1 k l out j [] 0 else none) else some out
def spec_l7Orders.l1 : Nat → List Int → List (List Int) → Int → List (List Int) → Int → Option (List (List Int))
  | 0, _, _, _, _, _ => none
  | k + 1, l, out, j, next, i => if i < (out.length : Int) then (if 0 ≤ i then spec_l7Orders.l2 k l out j next i ((rd_L2 out i).length : Int) else none) else spec_l7Orders.l0 k l next (wrap64 (j + 1))
def spec_l7Orders.l2 : Nat → List Int → List (List Int) → Int → List (List Int) → Int → Int → Option (List (List Int))
  | 0, _, _, _, _, _, _ => none
  | k + 1, l, out, j, next, i, t => (spec_l1Min.f 1 j).bind fun m => if m ≤ t then (if 0 ≤ t ∧ t ≤ ((rd_L2 out i).length : Int) then (if next.length < 1000000 ∧ (rd_L2 out i).length < 1000000 then spec_l7Orders.l2 k l out j (next ++ [(rd_L2 out i).take t.toNat ++ [rd l j] ++ (rd_L2 out i).drop t.toNat]) i (wrap64 (t - 1)) else none) else none) else spec_l7Orders.l1 k l out j next (wrap64 (i + 1))
end
def spec_l7Orders.f (k : Nat) (l0 : List Int) : Option (List (List Int)) := spec_l7Orders.l0 k l0 [[]] 0
theorem spec_l7Orders.lit0 {α : Type} {d : Kd α} {e : Nat} {W : World} {base b : Nat} {ok : Nat → Prop} (hb : W.heap[b]? = some (.cells #[] e (0, 0))) (hlb : base ≤ b) (hok : ok b) : d.R e W base ok (.slice (some ⟨b, 0, none⟩) 0 0) ([] : List α) :=
  ⟨fun k hk => by obtain rfl : b = k := by simpa [Value.ownBlock] using hk
                  exact hok, [], ⟨by simp, .inr ⟨b, 0, #[], rfl, hlb, hb, by simp, by simp, by simp, by simp⟩⟩, Reps.none _ _⟩
theorem spec_l7Orders.lit1 {W : World} {base b : Nat} {ok okp : Nat → Prop} {x : List Int} {Ao : Option Addr} {co : Nat} (hb : W.heap[b]? = some (.cells #[.slice Ao x.length co] 26 (0, 0))) (hx : Kd.R (Kd.int .i64) 3 W base okp (.slice Ao x.length co) x) (hlb : base ≤ b) (hok : ok b) (ho : ∀ k, okp k → ok k ∧ k ≠ b) : Kd.S (Kd.slice 3 (Kd.int .i64)) 26 W base ok (.slice (some ⟨b, 0, none⟩) 1 1) [x] := by
  refine ⟨fun _ => 0, fun k hk => by obtain rfl : b = k := by simpa [Value.ownBlock] using hk
                                     exact hok, [.slice Ao x.length co], ⟨rfl, .inr ⟨b, 1, #[.slice Ao x.length co], rfl, hlb, hb, by simp, by simp [maxLen], rfl, rfl⟩⟩, rfl, fun j p hj => ?_⟩
  rcases j with _ | j
  · obtain rfl : (x, 0) = p := by simpa using hj
    exact Kd.M_row (Kd.R_mono hx (fun k hk => ⟨⟨(ho k hk).1, fun e => (ho k hk).2 (by simpa [Value.ownBlock] using e)⟩, rfl⟩))
  · simp at hj
theorem spec_l7Orders.elder {w w1 w2 : World} {v : Value} (hb : Below w.heap.size w w1) (hg : w1.grownBy w2 v.ownBlock) (hv : ∀ k, v.ownBlock = some k → w.heap.size ≤ k) : Below w.heap.size w w2 :=
  ⟨hg.os.trans hb.os, hg.tape.trans hb.tape, hg.output.trans hb.output, Nat.le_trans hb.size hg.size, fun k hk => (hg.block k (Nat.lt_of_lt_of_le hk hb.size) (fun e => by have := hv k e.symm; omega)).trans (hb.block k hk)⟩
theorem spec_l7Orders.keep {w W : World} {p q : Addr} {u v : Value} (h : w.cell? p = some u) (h' : w.cell? q = some v) (hb : Below w.heap.size w W) : W.cell? p = some u ∧ W.cell? q = some v :=
  ⟨(hb.cell (World.block_lt_of_cell? w _ h)).trans h, (hb.cell (World.block_lt_of_cell? w _ h')).trans h'⟩
section
variable {ops : Array Oper} {o : Oper} {a : Act} {W : World} {Q : Exit → Act → World → Prop} {Kc : Act → World → Prop}
theorem spec_l7Orders.gate (y z : Operand) (t : TypeId) {p : Prop} (_ : o.op = .call { callee := .builtin .append, args := #[y, z], argTypes := #[t, t] }) (h : if Region.wanted o (yielded ops a.tmps) = true then Oper.wp Tryz.prog o a W Kc Q else p) : if Region.wanted o (yielded ops a.tmps) = true then Oper.wp Tryz.prog o a W Kc Q else p := h
/-- numbers are appended to a row of the call's own -/
theorem spec_l7Orders.appi {w : World} (hgd : o.guard = none) (s x : Operand) (ho : o.op = .call { callee := .builtin .append, args := #[s, x], argTypes := #[26, 26] }) (v : Value) (A : Option Addr) (m c : Nat) (xs ys : List Int)
    (hs : a.eval s = v) (hx : a.eval x = .slice A m c) (HO : Kd.R (Kd.int .i64) 3 W w.heap.size (fun _ => True) v xs) (HR : Kd.C (Kd.int .i64) W A m ys) (HB : Below w.heap.size w W) (hl : xs.length + m < 8000000)
    (h : ∀ v1 w1, Kd.R (Kd.int .i64) 3 w1 w.heap.size (fun _ => True) v1 (xs ++ ys) → Below w.heap.size w w1 → W.grownBy w1 v.ownBlock → Kc (a.put o.dst v1) w1) :
    if Region.wanted o (yielded ops a.tmps) = true then Oper.wp Tryz.prog o a W Kc Q else Kc (a.put o.dst undef) W := by
  refine Kd.R_append_rows_step (Kd.int .i64) (Rr := (Kd.int .i64).K W) (w0 := w) w.heap.size (by simp [Region.wanted, hgd]) s x 26 3 (.int .i64 0) 8 ho Tryz.underlying26 info3 rfl (show (0 : Nat) < 1 by omega) (by omega) v xs ys A m c (fun _ => True) (fun _ => False) hs hx HO HR (fun _ _ hk => hk) (fun _ hk => hk.elim) (fun _ _ => trivial) HB HB.size (by omega) (fun v1 w1 h1 h2 h3 _ => h v1 w1 h1 h2 h3)
/-- one number, as it was laid -/
theorem spec_l7Orders.liti {b : Nat} {x : Int} (hb : W.heap[b]? = some (.cells #[.int .i64 x] 3 (0, 0))) : Kd.C (Kd.int .i64) W (some ⟨b, 0, none⟩) 1 [x] := by
  have h : Kd.R (Kd.int .i64) 3 W 0 (fun _ => True) (.slice (some ⟨b, 0, none⟩) 1 1) [x] := by
    refine ⟨fun _ _ => trivial, [.int .i64 x], ⟨rfl, .inr ⟨b, 1, #[.int .i64 x], rfl, Nat.zero_le _, hb, by simp, by simp [maxLen], rfl, rfl⟩⟩, rfl, fun j p hj => ?_⟩
    rcases j with _ | j
    · obtain rfl : x = p := by simpa using hj
      exact rfl
    · simp at hj
  exact (Kd.R_reads' h).2.2
theorem spec_l7Orders.hp1 (W : World) (o o' : Obj) : ((W.alloc o).alloc o').heap[W.heap.size]? = some o := ((below_alloc (Below.refl _ _) o').block _ (by show _ < (W.heap.push _).size; simp)).trans (heap_alloc_new W o)
theorem spec_l7Orders.hp2 (W : World) (o o' : Obj) : ((W.alloc o).alloc o').heap[W.heap.size + 1]? = some o' := by
  have := heap_alloc_new (W.alloc o) o'
  have e : (W.alloc o).heap.size = W.heap.size + 1 := by show (W.heap.push _).size = _; simp
  rw [e] at this
  exact this
end
theorem spec_l7Orders.first (w : World) : Kd.S (Kd.slice 3 (Kd.int .i64)) 26 ((w.alloc (.cells #[] 3)).alloc (.cells #[.slice (some ⟨w.heap.size, 0, none⟩) 0 0] 26)) w.heap.size (fun _ => True) (.slice (some ⟨w.heap.size + 1, 0, none⟩) 1 1) [[]] := by
  have e0 : ((w.alloc (.cells #[] 3)).alloc (.cells #[.slice (some ⟨w.heap.size, 0, none⟩) 0 0] 26)).heap[w.heap.size]? = some (.cells #[] 3 (0, 0)) := by
    show ((w.heap.push _).push _)[w.heap.size]? = _
    rw [Array.getElem?_push, if_neg (by simp), Array.getElem?_push, if_pos rfl]
  have e1 : ((w.alloc (.cells #[] 3)).alloc (.cells #[.slice (some ⟨w.heap.size, 0, none⟩) 0 0] 26)).heap[w.heap.size + 1]? = some (.cells #[.slice (some ⟨w.heap.size, 0, none⟩) 0 0] 26 (0, 0)) := by
    show ((w.heap.push _).push _)[w.heap.size + 1]? = _
    rw [Array.getElem?_push, if_pos (by simp)]
  exact spec_l7Orders.lit1 (x := []) (okp := fun k => k = w.heap.size) e1 (spec_l7Orders.lit0 e0 (Nat.le_refl _) rfl) (by omega) trivial (fun k hk => ⟨trivial, by omega⟩)
set_option maxHeartbeats 8000000 in
set_option maxRecDepth 100000 in
theorem spec_l7Orders.calls (k : Nat) (A0 : Option Addr) (c0 : Nat) (l0 : List Int) (r : List (List Int)) (w : World) (hr0 : Kd.C (Kd.int .i64) w A0 l0.length l0) (hc0 : l0.length ≤ c0) (h : spec_l7Orders.f k l0 = some r) :
    Calls Tryz.prog 73 #[.slice A0 l0.length c0] w fun e w' => ∃ v0_ : Value, e = .returned (v0_) ∧ Kd.S (Kd.slice 3 (Kd.int .i64)) 26 w' w.heap.size (fun _ => True) v0_ r ∧ Below w.heap.size w w' := by
  have HR0 := Aside0.mk hr0
  have HC0 := Aside0.mk hc0
  have H := Aside0.mk (show spec_l7Orders.l0 k l0 [[]] 0 = some r from h)
  clear hr0 hc0 h
  go_enter Tryz.func73, Tryz.ntmps73
  go_wp2
  go_loopg [3, 4] k (fun kq v3 v4 w' => ∃ (out : List (List Int)) (j : Int), v4 = .int .i64 j ∧ Aside0 (spec_l7Orders.l0 kq l0 out j = some r) ∧ Aside0 (kq ≤ k) ∧ Aside0 (Kd.S (Kd.slice 3 (Kd.int .i64)) 26 w' w.heap.size (fun _ => True) v3 out) ∧ Aside0 (Below w.heap.size w w'))
  case atStart => exact ⟨[[]], 0, rfl, H, ⟨Nat.le_refl _⟩, ⟨spec_l7Orders.first w⟩, ⟨below_alloc (below_alloc (Below.refl _ _) _) _⟩⟩
  case round =>
    clear H
    obtain ⟨out, j, rfl, HA, HK1, HO, HB⟩ := hrel
    cases gk with
    | zero => exact absurd HA.out (by simp [spec_l7Orders.l0])
    | succ k1 =>
      have H := HA.out
      clear HA
      rw [spec_l7Orders.l0] at H
      obtain ⟨A3, c3, hv3⟩ := Kd.S_slice HO.out
      subst hv3
      by_cases c1 : j < (l0.length : Int)
      · rw [if_pos c1] at H
        have c1b0 : decide (j < (l0.length : Int)) = true := decide_eq_true c1
        obtain ⟨c2, H⟩ := gd H
        have H' := Aside0.mk H
        have HJ := Aside0.mk (And.intro c1 c2)
        have HC := Aside0.mk (Kd.S_reads' HO.out).2.2
        have HCC := Aside0.mk (Kd.S_reads' HO.out).2.1
        clear H c1 c2
        go_wp2
        go_loopg [5, 6] k1 (fun kq v5 v6 w' => ∃ (next : List (List Int)) (i : Int), v6 = .int .i64 i ∧ Aside0 (spec_l7Orders.l1 kq l0 out j next i = some r) ∧ Aside0 (kq ≤ k1) ∧ Aside0 (Kd.S (Kd.slice 3 (Kd.int .i64)) 26 w' wr.heap.size (fun _ => True) v5 next) ∧ Aside0 (Below wr.heap.size wr w'))
        case atStart => exact ⟨[], 0, rfl, H', ⟨Nat.le_refl _⟩, ⟨fun _ => 0, spec_l7Orders.lit0 (heap_alloc_new _ _) (Nat.le_refl _) trivial⟩, ⟨below_alloc (Below.refl _ _) _⟩⟩
        case round =>
          clear H'
          rename World => w1
          obtain ⟨next, i, rfl, HA, HK2, HN, HD⟩ := hrel
          cases gk with
          | zero => exact absurd HA.out (by simp [spec_l7Orders.l1])
          | succ k2 =>
            have H := HA.out
            clear HA
            rw [spec_l7Orders.l1] at H
            by_cases c1 : i < (out.length : Int)
            · rw [if_pos c1] at H
              have c3b0 : decide (i < (out.length : Int)) = true := decide_eq_true c1
              obtain ⟨c2, H⟩ := gd H
              have H' := Aside0.mk H
              obtain ⟨ad, A5, k5, e5, hx5, hl5, hi5⟩ := at_L2 HC.out i c2 c1
              subst e5
              have HX5 := Aside0.mk hx5
              have HR5 := Aside0.mk hi5
              have HC5 := Aside0.mk hl5
              have hx := (HD.out.cell (World.block_lt_of_cell? wr _ hx5)).trans hx5
              have HI := Aside0.mk (And.intro c1 c2)
              replace c1 := eq_true c1
              replace c2 := eq_true c2
              clear H hx5 hi5 hl5
              go_wp2
              clear hx
              go_loopg [5, 7] k2 (fun kq v5 v7 w' => ∃ (next : List (List Int)) (t : Int), v7 = .int .i64 t ∧ Aside0 (spec_l7Orders.l2 kq l0 out j next i t = some r) ∧ Aside0 (kq ≤ k2) ∧ Aside0 (Kd.S (Kd.slice 3 (Kd.int .i64)) 26 w' wr.heap.size (fun _ => True) v5 next) ∧ Aside0 (Below wr.heap.size wr w'))
              case atStart => exact ⟨next, _, rfl, H', ⟨Nat.le_refl _⟩, HN, HD⟩
              case round =>
                clear H' HN HD
                rename World => w2
                obtain ⟨next, t, rfl, HA, HK3, HN, HD⟩ := hrel
                cases gk with
                | zero => exact absurd HA.out (by simp [spec_l7Orders.l2])
                | succ k3 =>
                  have H := HA.out
                  clear HA
                  rw [spec_l7Orders.l2] at H
                  obtain ⟨m, hm, H⟩ := Option.bind_eq_some_iff.mp H
                  have HM := Aside0.mk hm
                  have H' := Aside0.mk H
                  clear hm H
                  go_wp2_with fail
                  (go_at_call 83; (with_reducible refine (spec_l1Min.calls 1 j m _ HM.out).mono ?_))
                  rintro e w3 ⟨rfl, hd⟩
                  obtain ⟨n3, rfl⟩ := hd.out
                  have HN3 := Aside0.mk (Kd.S_drewN HN.out n3)
                  have HD3 := Aside0.mk (pw_below_drewN HD.out n3)
                  clear hd HN HD HM
                  generalize w2.drewN n3 = w3 at HN3 HD3 ⊢
                  by_cases c4 : m ≤ t
                  · have H := H'.out
                    rw [if_pos c4] at H
                    have c4b0 : decide (m ≤ t) = true := decide_eq_true c4
                    obtain ⟨c5, H⟩ := gd H
                    obtain ⟨c6, H⟩ := gd H
                    have H1 := Aside0.mk H
                    have LM := Aside0.mk c6
                    obtain ⟨c5a, c5b⟩ := c5
                    clear H H' c4
                    obtain ⟨tn, rfl⟩ : ∃ tn : Nat, t = tn := ⟨t.toNat, by omega⟩
                    have HT := Aside0.mk (show tn ≤ (rd_L2 out i).length by omega)
                    have q1 := eq_true c5a
                    have q2 := eq_true c5b
                    have q3 : ((tn : Int) ≤ (k5 : Int)) = True := eq_true (by have := HC5.out; omega)
                    have q4 : ((rd_L2 out i).length : Int) ≤ (k5 : Int) := by have := HC5.out; omega
                    have HD4 := Aside0.mk (below_alloc HD3.out (.cells #[] 3))
                    have hx := (HD4.out.cell (World.block_lt_of_cell? wr _ HX5.out)).trans HX5.out
                    obtain ⟨p1, p2⟩ := HI.out
                    replace p1 := eq_true p1
                    replace p2 := eq_true p2
                    obtain ⟨tl, htl⟩ : ∃ y, y = (rd_L2 out i).drop tn := ⟨_, rfl⟩
                    obtain ⟨tk, htk⟩ : ∃ y, y = (rd_L2 out i).take tn := ⟨_, rfl⟩
                    obtain ⟨ii, hi_, _, hsz, _⟩ := info_parts info3
                    have hcut := cut_from (P := Tryz.prog) 26 3 .i64 Tryz.underlying26 hi_ 1 hsz A5 (rd_L2 out i).length k5 (tn : Int) c5a c5b
                    rw [Int.toNat_natCast, ← List.length_drop, ← htl] at hcut
                    obtain ⟨At, hAt⟩ : ∃ A1, A1 = (if k5 = tn then A5 else A5.map (·.add (tn * 1))) := ⟨_, rfl⟩
                    rw [← hAt] at hcut
                    have HTl := Aside0.mk (show Kd.C (Kd.int .i64) wr At tl.length tl by rw [hAt, htl]; exact Kd.C_drop (k := Kd.int .i64) (m := tn) (c := k5) HR5.out HT.out HC5.out)
                    have hcut2 := cut_to (P := Tryz.prog) 26 3 .i64 Tryz.underlying26 hi_ A5 (rd_L2 out i).length k5 (tn : Int) c5a c5b HC5.out
                    rw [Int.toNat_natCast] at hcut2
                    have et : tk.length = tn := by rw [htk, List.length_take]; have := HT.out; omega
                    have HTk := Aside0.mk (show Kd.C (Kd.int .i64) wr A5 tn tk by rw [← et, htk]; exact Kd.C_take HR5.out HT.out)
                    have ed : tl.length < 2000000 := by rw [htl, List.length_drop]; have := LM.out; omega
                    have H1 := Aside0.mk (show spec_l7Orders.l2 k3 l0 out j (next ++ [tk ++ [rd l0 j] ++ tl]) i (wrap64 ((tn : Int) - 1)) = some r by have h := H1.out; rw [Int.toNat_natCast, ← htl, ← htk] at h; exact h)
                    have HED := Aside0.mk ed
                    have HET := Aside0.mk (show tn < 2000000 by have := HT.out; have := LM.out; omega)
                    clear c5a c5b hAt hi_ hsz ed et htl htk
                    go_wp2_with (first | ((with_reducible refine gate_builtin (b := .append) (xs := #[.tmp 35, .tmp 41]) rfl ?_); at_builtin; refine Kd.R_append_row (Value.int .i64) (0 : Int) (h1 := fun _ => rfl) (w0 := wr) wr.heap.size rfl (.tmp 35) (.tmp 41) 26 3 (.int .i64 0) 8 rfl Tryz.underlying26 info3 rfl (by decide) (.slice (some ⟨w3.heap.size, 0, none⟩) 0 0) [] tl At tl.length (k5 - tn) (fun k => w3.heap.size ≤ k) rfl rfl (fun k hk => Nat.le_trans (below_alloc (Below.refl w3.heap.size w3) _).size hk) (spec_l7Orders.lit0 (heap_alloc_new _ _) HD3.out.size (Nat.le_refl _)) (Kd.C_below HTl.out HD4.out) HD4.out HD4.out.size (by have := HED.out; simp; omega) ?_; intro v5 w5 hR5 hB5 hG5 _; obtain ⟨A6, c6', rfl⟩ := Kd.R_slice hR5; have hE5 := spec_l7Orders.elder (below_alloc (Below.refl w3.heap.size w3) _) hG5 (fun k hk => by simp [Value.ownBlock] at hk; omega); rw [List.nil_append] at hR5; have HN5 := Aside0.mk (Kd.S_below HN3.out hE5); have HR6 := Aside0.mk hR5; have HB5 := Aside0.mk hB5; have HZ5 := Aside0.mk hE5.size; clear hR5 hB5 hG5 hE5))
                    have HX6 := ((HB5.out.cell (World.block_lt_of_cell? wr _ HX5.out)).trans HX5.out)
                    have HXo := Aside0.mk HX6
                    obtain ⟨adl, el, hxl⟩ := Kd.at_int HR0.out j HJ.out.2 HJ.out.1
                    subst el
                    have HXr := Aside0.mk ((HB.out.cell (World.block_lt_of_cell? w _ hxl)).trans hxl)
                    have HXl := Aside0.mk (((below_step HB.out HB5.out).cell (World.block_lt_of_cell? w _ hxl)).trans hxl)
                    have HTk5 := Aside0.mk (Kd.C_below HTk.out HB5.out)
                    have HTl5 := Aside0.mk (Kd.R_reads' HR6.out).2.2
                    obtain ⟨A4, c4, hv4⟩ := Kd.S_slice HN5.out
                    subst hv4
                    have p3 := eq_true HJ.out.2
                    have p4 := eq_true HJ.out.1
                    have HL1 : ([] : List Int).length + tn < 8000000 := by have := HET.out; simp; omega
                    have HLk : tk.length = tn := HTk.out.1
                    obtain ⟨y, hy⟩ : ∃ y, y = tk ++ [rd l0 j] ++ tl := ⟨_, rfl⟩
                    have H2 := Aside0.mk (show spec_l7Orders.l2 k3 l0 out j (next ++ [y]) i (wrap64 ((tn : Int) - 1)) = some r by rw [hy]; exact H1.out)
                    have HY := Aside0.mk hy
                    have HLK := Aside0.mk HLk
                    have HL2 : ([] ++ tk).length + 1 < 8000000 := by have := HET.out; simp; omega
                    have HL3 : ([] ++ tk ++ [rd l0 j]).length + tl.length < 8000000 := by have := HET.out; have := HED.out; simp; omega
                    have HL4 : (next.length + 1) * 24 ≤ 140737488355328 := by have := LM.out; omega
                    have HNb := Aside0.mk (Kd.S_bound HN5.out)
                    clear hx HX6 hxl hcut hy HLk
                    go_region_held3 (fun W' => W'.cell? (ad.add i.toNat) = some (.slice A5 (rd_L2 out i).length k5) ∧ W'.cell? (adl.add j.toNat) = some (.int .i64 (rd l0 j)))
                      (first | (refine spec_l7Orders.keep HX5.out HXr.out hB9) | (refine spec_l7Orders.keep HXo.out HXl.out ?_; repeat (first | assumption | exact Below.refl _ _ | apply below_drew1 | apply below_alloc)))
                      (first
                        | ((with_reducible refine spec_l7Orders.gate (.tmp 44) (.tmp 50) 26 rfl ?_); refine spec_l7Orders.appi (w := w5) (by rfl) (.tmp 44) (.tmp 50) (by rfl) (.slice (some ⟨w5.heap.size, 0, none⟩) 0 0) A5 tn k5 [] tk (by rfl) (by rfl) (spec_l7Orders.lit0 (heap_alloc_new w5 _) (Nat.le_refl _) trivial) (Kd.C_below HTk5.out (below_drew1 (below_alloc (Below.refl _ _) _))) (below_drew1 (below_alloc (Below.refl _ _) _)) HL1 ?_; intro v6 w6 hR6 hB6 hG6; clear hG6)
                        | ((with_reducible refine spec_l7Orders.gate (.tmp 44) (.tmp 50) 26 rfl ?_); refine spec_l7Orders.appi (w := w5) (by rfl) (.tmp 44) (.tmp 50) (by rfl) (.slice (some ⟨w5.heap.size + 1, 0, none⟩) 0 0) A5 tn k5 [] tk (by rfl) (by rfl) (spec_l7Orders.lit0 (spec_l7Orders.hp2 w5 _ _) (Nat.le_succ _) trivial) (Kd.C_below HTk5.out (below_drew1 (below_alloc (below_alloc (Below.refl _ _) _) _))) (below_drew1 (below_alloc (below_alloc (Below.refl _ _) _) _)) HL1 ?_; intro v6 w6 hR6 hB6 hG6; have hq := (hG6.block w5.heap.size (by show _ < ((w5.heap.push _).push _).size; simp only [Array.size_push]; omega) (by simp [Value.ownBlock])).trans (spec_l7Orders.hp1 w5 _ _); clear hG6)
                        | ((with_reducible refine spec_l7Orders.gate (.tmp 44) (.tmp 50) 26 rfl ?_); refine spec_l7Orders.appi (w := w5) (by rfl) (.tmp 44) (.tmp 50) (by rfl) (.slice (some ⟨w5.heap.size, 0, none⟩) 0 0) A5 tn k5 [] tk (by rfl) (by rfl) (spec_l7Orders.lit0 (spec_l7Orders.hp1 w5 _ _) (Nat.le_refl _) trivial) (Kd.C_below HTk5.out (below_drew1 (below_alloc (below_alloc (Below.refl _ _) _) _))) (below_drew1 (below_alloc (below_alloc (Below.refl _ _) _) _)) HL1 ?_; intro v6 w6 hR6 hB6 hG6; have hq := (hG6.block (w5.heap.size + 1) (by show _ < ((w5.heap.push _).push _).size; simp only [Array.size_push]; omega) (by simp [Value.ownBlock])).trans (spec_l7Orders.hp2 w5 _ _); clear hG6)
                        | ((with_reducible refine spec_l7Orders.gate (.tmp 51) (.tmp 56) 26 rfl ?_); refine spec_l7Orders.appi (w := w5) (by rfl) (.tmp 51) (.tmp 56) (by rfl) v6 _ 1 1 ([] ++ tk) [rd l0 j] (by rfl) (by rfl) (Kd.R_alloc hR6 _) (spec_l7Orders.liti (heap_alloc_new w6 _)) (below_alloc hB6 _) HL2 ?_; intro v7 w7 hR7 hB7 hG7; clear hG7)
                        | ((with_reducible refine spec_l7Orders.gate (.tmp 51) (.tmp 56) 26 rfl ?_); refine spec_l7Orders.appi (w := w5) (by rfl) (.tmp 51) (.tmp 56) (by rfl) v6 _ 1 1 ([] ++ tk) [rd l0 j] (by rfl) (by rfl) hR6 (spec_l7Orders.liti hq) hB6 HL2 ?_; intro v7 w7 hR7 hB7 hG7; clear hG7)
                        | ((with_reducible refine spec_l7Orders.gate (.tmp 57) (.tmp 58) 26 rfl ?_); refine spec_l7Orders.appi (w := w5) (by rfl) (.tmp 57) (.tmp 58) (by rfl) v7 A6 tl.length c6' ([] ++ tk ++ [rd l0 j]) tl (by rfl) (by rfl) hR7 (Kd.C_below HTl5.out hB7) hB7 HL3 ?_; intro v8 w8 hR8 hB8 hG8; rw [List.nil_append, ← HY.out] at hR8; obtain ⟨A8, c8, rfl⟩ := Kd.R_slice hR8; clear hG8)
                        | ((with_reducible refine spec_l7Orders.gate (.tmp 43) (.tmp 60) 24 rfl ?_); refine Kd.S_append_step (Kd.slice 3 (Kd.int .i64)) (w0 := wr) wr.heap.size (by simp [Region.wanted]) (.tmp 43) (.tmp 60) 24 26 (.slice none 0 0) 24 (by rfl) Tryz.underlying24 info26 rfl (show (0 : Nat) < 1 by omega) (by omega) (.slice A4 next.length c4) next y [.slice A8 y.length c8] (fun _ => True) (fun k => w5.heap.size ≤ k) (by rfl) (by rfl) (Kd.M_row (Kd.R_lower (Kd.R_mono (Kd.R_bound hR8) (fun k q => q.2.1)) HB5.out.size)) (fun k hk => ⟨trivial, fun e => absurd (Kd.S_lt HN5.out k e.symm) (by omega)⟩) (fun _ _ => trivial) (Kd.S_mono (Kd.S_below HNb.out hB8) (fun k hk => ⟨trivial, by have := hk.2.2.1; omega⟩)) (below_step HB5.out hB8) (Nat.le_trans HB5.out.size hB8.size) HL4 ?_; intro v9 w9 hS9 hB9 hG9 _; obtain ⟨A9, c9, rfl⟩ := Kd.S_slice hS9))
                    all_goals as_aux_lemma =>
                      go_wp2
                      go_roundg k3
                      case measure => exact oK
                      case rel => exact ⟨next ++ [y], (tn : Int) - 1, rfl, ⟨by have h := H2.out; rw [show wrap64 ((tn : Int) - 1) = (tn : Int) - 1 by have := HET.out; unfold wrap64; omega] at h; exact h⟩, ⟨oK⟩, ⟨by rw [show next.length + 1 = (next ++ [y]).length by simp]; exact hS9⟩, ⟨hB9⟩⟩
                  · have H := H'.out
                    rw [if_neg c4] at H
                    have c4b0 : decide (m ≤ t) = false := decide_eq_false c4
                    have H1 := Aside0.mk H
                    clear H H' c4
                    go_wp2
                    go_roundg k3
                    case measure => exact oK
                    case rel => exact ⟨next, _, rfl, H1, ⟨oK⟩, HN3, HD3⟩
            · rw [if_neg c1] at H
              have c3b0 : decide (i < (out.length : Int)) = false := decide_eq_false c1
              have H' := Aside0.mk H
              clear H c1
              go_wp2
              go_roundg k2
              case measure => exact oK
              case rel => exact ⟨next, _, rfl, H', ⟨oK⟩, ⟨Kd.S_lower HN.out HB.out.size⟩, ⟨below_step HB.out HD.out⟩⟩
      · rw [if_neg c1] at H
        have c1b0 : decide (j < (l0.length : Int)) = false := decide_eq_false c1
        obtain rfl := Option.some.inj H
        clear c1 H
        go_wp2
        go_ret
        exact ⟨_, rfl, HO.out, HB.out⟩

end Go.Proofs.YtafpbabiahjjaaaGreatDoor.PFnGraphs
