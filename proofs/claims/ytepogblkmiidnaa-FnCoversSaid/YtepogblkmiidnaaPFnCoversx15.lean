import Derived.Test.YtepogblkmiidnaaWSpanB
import Derived.Test.YtepogblkmiidnaaPFnCoversx0
import Derived.Test.YtepogblkmiidnaaPFnCoversx3
import Derived.Test.YtepogblkmiidnaaPFnCoversx4
import Derived.Test.YtepogblkmiidnaaPFnCoversx7
import Derived.Test.YtepogblkmiidnaaPFnCoversx14
namespace Go.Proofs.Ytepogblkmiidnaa.PFnCovers
open Go.RowKit Go.Proofs.YtepogblkmiidnaaW.PrintWords Go.Proofs.YtepogblkmiidnaaW.PrintLast Go.Proofs.YtepogblkmiidnaaW.PrintMore
attribute [local go_sem] max2_int min2_int max_two min_two max_three min_three max_four min_four   -- for this text's walks alone
set_option linter.unusedVariables false
set_option linter.unusedSimpArgs false

/-! ### impl_IsWord: function 79 -/
def impl_IsWord.l0 : Nat → List Int → List Int → Int → Int → Option (Bool)
  | 0, _, _, _, _ => none
  | k + 1, x0, x5, x6, x7 => if x7 < x6 then (if 0 ≤ x7 then (if x7 < (x5.length : Int) then ((impl_isLetter.f (rd x5 x7)).bind fun t485 => (if t485 = true then (impl_IsWord.l0 k x0 x5 x6 (wrap64 (x7 + 1))) else (some false))) else (none)) else (none)) else (some (decide ((x0.length : Int) ≤ 24)))
def impl_IsWord.f (k : Nat) (l0 : List Int) : Option (Bool) := impl_IsWord.l0 k l0 l0 (l0.length : Int) 0
set_option maxHeartbeats 8000000 in
set_option maxRecDepth 100000 in
theorem impl_IsWord.calls (k : Nat) (A0 : Option Addr) (c0 : Nat) (l0 : List Int) (r : Bool) (w : World) (hr0 : Kd.C (Kd.int .i64) w A0 l0.length l0) (hc0 : l0.length ≤ c0) (h : impl_IsWord.f k l0 = some r) :
    Calls Try.prog 79 #[.slice A0 l0.length c0] w fun e w' => e = .returned (.bool r) ∧ Drawn0 w w' := by
  have HR0 := Aside0.mk hr0
  have HC0 := Aside0.mk hc0
  clear hr0 hc0
  have H : (impl_IsWord.l0 k l0 l0 (l0.length : Int) 0) = some r := h
  clear h
  have H' := Aside0.mk H
  clear H
  go_enter Try.func79, Try.ntmps79
  go_wp2
  go_loopg [7] k (fun kq v7 w' => ∃ (x7_1 : Int), v7 = .int .i64 x7_1 ∧ Aside0 (impl_IsWord.l0 kq l0 l0 (l0.length : Int) x7_1 = some r) ∧ Aside0 (kq ≤ k) ∧ Drawn0 w w')
  case atStart => exact ⟨(0), rS, H', ⟨Nat.le_refl _⟩, tD⟩
  case round =>
    clear H'
    obtain ⟨x7_1, rfl, HA, HK1, ⟨m1, rfl⟩⟩ := hrel
    cases gk with
    | zero => exact absurd HA.out (by simp [impl_IsWord.l0])
    | succ k1 =>
      have H := HA.out
      clear HA
      simp only [impl_IsWord.l0] at H
      obtain ⟨c2b0, H⟩ | ⟨c2b0, H⟩ := gi H
      · obtain ⟨c3b0, H⟩ := gdt H
        obtain ⟨c4b0, H⟩ := gdt H
        obtain ⟨t485, A5, H⟩ := bs H
        by_cases c6 : t485 = true
        · subst c6
          rw [if_pos rfl] at H
          have H' := Aside0.mk H
          clear H
          have p484 : 0 ≤ (x7_1 : Int) := dT
          have q484 : x7_1 < (l0.length : Int) := dT
          obtain ⟨ad484, e484, hx484_0⟩ := Kd.at_int HR0.out x7_1 p484 q484
          cases e484
          replace p484 := eq_true p484
          replace q484 := eq_true q484
          go_wp2_with (first | (refine gL 89 (some 12) Try.func89 #[.int .i64 (rd l0 x7_1)] ?_; (with_reducible refine (impl_isLetter.calls (rd l0 x7_1) true _ A5.out).mono ?_); rintro e w' ⟨rfl, ⟨nd, rfl⟩⟩; refine ⟨_, rfl, ?_⟩))
          go_roundg k1
          case measure => exact oK
          case rel => exact ⟨(wrap64 (x7_1 + 1)), rS, H', ⟨oK⟩, tD⟩
        · replace c6 := Bool.eq_false_iff.mpr c6
          subst c6
          rw [if_neg (show ¬ (false = true) by decide)] at H
          obtain rfl := Option.some.inj H
          have p484 : 0 ≤ (x7_1 : Int) := dT
          have q484 : x7_1 < (l0.length : Int) := dT
          obtain ⟨ad484, e484, hx484_0⟩ := Kd.at_int HR0.out x7_1 p484 q484
          cases e484
          replace p484 := eq_true p484
          replace q484 := eq_true q484
          go_wp2_with (first | (refine gL 89 (some 12) Try.func89 #[.int .i64 (rd l0 x7_1)] ?_; (with_reducible refine (impl_isLetter.calls (rd l0 x7_1) false _ A5.out).mono ?_); rintro e w' ⟨rfl, ⟨nd, rfl⟩⟩; refine ⟨_, rfl, ?_⟩))
          go_ret
          exact ⟨rS, tD⟩
      · obtain rfl := Option.some.inj H
        go_wp2
        go_ret
        exact ⟨rS, tD⟩

/-! ### impl_hasLetters: function 44 -/
def impl_hasLetters.l0 : Nat → List Int → Int → List Int → Int → Int → Option (Bool)
  | 0, _, _, _, _, _ => none
  | k + 1, x0, x1, x7, x8, x9 => if x9 < x8 then (if 0 ≤ x9 then (if x9 < (x7.length : Int) then ((impl_size.f (rd x7 x9)).bind fun t487 => (if t487 > x1 then (some false) else (impl_hasLetters.l0 k x0 x1 x7 x8 (wrap64 (x9 + 1))))) else (none)) else (none)) else ((impl_IsWord.f k x0).bind fun t488 => (some t488))
def impl_hasLetters.f (k : Nat) (l0 : List Int) (a1 : Int) : Option (Bool) := impl_hasLetters.l0 k l0 a1 l0 (l0.length : Int) 0
set_option maxHeartbeats 8000000 in
set_option maxRecDepth 100000 in
theorem impl_hasLetters.calls (k : Nat) (A0 : Option Addr) (c0 : Nat) (l0 : List Int) (a1 : Int) (r : Bool) (w : World) (hr0 : Kd.C (Kd.int .i64) w A0 l0.length l0) (hc0 : l0.length ≤ c0) (h : impl_hasLetters.f k l0 a1 = some r) :
    Calls Try.prog 44 #[.slice A0 l0.length c0, .int .i64 a1] w fun e w' => e = .returned (.bool r) ∧ Below w.heap.size w w' := by
  have HR0 := Aside0.mk hr0
  have HC0 := Aside0.mk hc0
  clear hr0 hc0
  have HB := Aside0.mk (Below.refl w.heap.size w)
  have H : (impl_hasLetters.l0 k l0 a1 l0 (l0.length : Int) 0) = some r := h
  clear h
  have H' := Aside0.mk H
  clear H
  go_enter Try.func44, Try.ntmps44
  go_wp2
  go_loopg [9] k (fun kq v9 w' => ∃ (x9_1 : Int), v9 = .int .i64 x9_1 ∧ Aside0 (impl_hasLetters.l0 kq l0 a1 l0 (l0.length : Int) x9_1 = some r) ∧ Aside0 (kq ≤ k) ∧ Aside0 (Below w.heap.size w w'))
  case atStart => exact ⟨(0), rS, H', ⟨Nat.le_refl _⟩, ⟨tb⟩⟩
  case round =>
    clear H'
    try clear p2
    obtain ⟨x9_1, rfl, HA, HK1, HB⟩ := hrel
    cases gk with
    | zero => exact absurd HA.out (by simp [impl_hasLetters.l0])
    | succ k1 =>
      have H := HA.out
      clear HA
      simp only [impl_hasLetters.l0] at H
      obtain ⟨c3b0, H⟩ | ⟨c3b0, H⟩ := gi H
      · obtain ⟨c4b0, H⟩ := gdt H
        obtain ⟨c5b0, H⟩ := gdt H
        obtain ⟨t487, A6, H⟩ := bs H
        by_cases c7 : t487 > a1
        · rw [if_pos c7] at H
          have c7b0 : decide (a1 < t487) = true := decide_eq_true c7
          clear c7
          obtain rfl := Option.some.inj H
          have p486 : 0 ≤ (x9_1 : Int) := dT
          have q486 : x9_1 < (l0.length : Int) := dT
          obtain ⟨ad486, e486, hx486_0⟩ := Kd.at_int HR0.out x9_1 p486 q486
          cases e486
          replace hx486_0 := cB HB hx486_0
          replace p486 := eq_true p486
          replace q486 := eq_true q486
          go_wp2_with (first | (refine gL 72 (some 14) Try.func72 #[.int .i64 (rd l0 x9_1)] ?_; (with_reducible refine (impl_size.calls (rd l0 x9_1) t487 _ A6.out).mono ?_); rintro e w8 ⟨rfl, hb⟩; refine ⟨_, rfl, ?_⟩; replace HB := Aside0.mk (below_step tb hb)))
          go_ret
          exact ⟨rE, tb⟩
        · rw [if_neg c7] at H
          have c7b0 : decide (a1 < t487) = false := decide_eq_false c7
          clear c7
          have H' := Aside0.mk H
          clear H
          have p486 : 0 ≤ (x9_1 : Int) := dT
          have q486 : x9_1 < (l0.length : Int) := dT
          obtain ⟨ad486, e486, hx486_0⟩ := Kd.at_int HR0.out x9_1 p486 q486
          cases e486
          replace hx486_0 := cB HB hx486_0
          replace p486 := eq_true p486
          replace q486 := eq_true q486
          go_wp2_with (first | (refine gL 72 (some 14) Try.func72 #[.int .i64 (rd l0 x9_1)] ?_; (with_reducible refine (impl_size.calls (rd l0 x9_1) t487 _ A6.out).mono ?_); rintro e w9 ⟨rfl, hb⟩; refine ⟨_, rfl, ?_⟩; replace HB := Aside0.mk (below_step tb hb)))
          go_roundg k1
          case measure => exact oK
          case rel => exact ⟨(wrap64 (x9_1 + 1)), rS, H', ⟨oK⟩, ⟨tb⟩⟩
      · obtain ⟨t488, A10, H⟩ := bs H
        obtain rfl := Option.some.inj H
        go_wp2_with (first | (refine gL 79 (some 19) Try.func79 #[.slice A0 l0.length c0] ?_; (with_reducible refine (impl_IsWord.calls k1 _ _ l0 t488 _ ?side1 ?side2 A10.out).mono ?_); (case side1 => exact C_l (Kd.C_below HR0.out HB.out)); (case side2 => exact HC0.out); rintro e w' ⟨rfl, ⟨nd, rfl⟩⟩; refine ⟨_, rfl, ?_⟩))
        go_ret
        exact ⟨rE, tb⟩

/-! ### impl_ActWord: function 9 -/
def impl_ActWord.f (k : Nat) (l0 : List (List Int)) (l1 : List Int) : Option (List Int) := if (l0.length : Int) > 8 then (some ([] : List Int)) else ((impl_areSheets.f k l0).bind fun t489 => (if t489 = true then ((impl_hasLetters.f k l1 (l0.length : Int)).bind fun t490 => (if t490 = true then ((impl_act.f k l0 l1).bind fun t491 => (some t491)) else (some ([] : List Int)))) else (some ([] : List Int))))
set_option maxHeartbeats 8000000 in
set_option maxRecDepth 100000 in
theorem impl_ActWord.calls (k : Nat) (A0 : Option Addr) (c0 : Nat) (l0 : List (List Int)) (A1 : Option Addr) (c1 : Nat) (l1 : List Int) (r : List Int) (w : World) (hr0 : Kd.C (Kd.slice 3 (Kd.int .i64)) w A0 l0.length l0) (hc0 : l0.length ≤ c0) (hr1 : Kd.C (Kd.int .i64) w A1 l1.length l1) (hc1 : l1.length ≤ c1) (h : impl_ActWord.f k l0 l1 = some r) :
    Calls Try.prog 9 #[.slice A0 l0.length c0, .slice A1 l1.length c1] w fun e w' => ∃ v0_ : Value, e = .returned (v0_) ∧ Kd.R (Kd.int .i64) 3 w' w.heap.size (fun _ => True) v0_ r ∧ Below w.heap.size w w' := by
  have HR0 := Aside0.mk hr0
  have HC0 := Aside0.mk hc0
  clear hr0 hc0
  have HR1 := Aside0.mk hr1
  have HC1 := Aside0.mk hc1
  clear hr1 hc1
  have HB := Aside0.mk (Below.refl w.heap.size w)
  have H : (if (l0.length : Int) > 8 then (some ([] : List Int)) else ((impl_areSheets.f k l0).bind fun t489 => (if t489 = true then ((impl_hasLetters.f k l1 (l0.length : Int)).bind fun t490 => (if t490 = true then ((impl_act.f k l0 l1).bind fun t491 => (some t491)) else (some ([] : List Int)))) else (some ([] : List Int))))) = some r := h
  clear h
  by_cases c3 : (l0.length : Int) > 8
  · rw [if_pos c3] at H
    have c3b0 : decide (8 < (l0.length : Int)) = true := decide_eq_true c3
    have c3b1 : decide (8 < l0.length) = true := decide_eq_true (by omega)
    clear c3
    obtain rfl := Option.some.inj H
    go_enter Try.func9, Try.ntmps9
    go_wp2
    go_ret
    exact ⟨_, rE, by first | exact Kd.R_nil _ _ _ _ _ | exact Kd.N_nil _ _ _ _ _ | exact Kd.V_nil _ _ _ _ _ | exact Kd.Q_nil _ _ _ _ _ | exact Kd.S_nil _ _ _ _ _, tb⟩
  · rw [if_neg c3] at H
    have c3b0 : decide (8 < (l0.length : Int)) = false := decide_eq_false c3
    have c3b1 : decide (8 < l0.length) = false := decide_eq_false (by omega)
    clear c3
    obtain ⟨t489, A4, H⟩ := bs H
    by_cases c5 : t489 = true
    · subst c5
      rw [if_pos rfl] at H
      obtain ⟨t490, A6, H⟩ := bs H
      by_cases c7 : t490 = true
      · subst c7
        rw [if_pos rfl] at H
        obtain ⟨t491, A8, H⟩ := bs H
        obtain rfl := Option.some.inj H
        go_enter Try.func9, Try.ntmps9
        go_wp2_with (first | (go_at_call 43; (with_reducible refine (impl_areSheets.calls k _ _ l0 true _ ?side1 ?side2 A4.out).mono ?_); (case side1 => exact C_l HR0.out); (case side2 => exact HC0.out); rintro e w9 ⟨rfl, hb⟩; replace HB := Aside0.mk (below_step tb hb)) | (go_at_call 44; (with_reducible refine (impl_hasLetters.calls k _ _ l1 (l0.length : Int) true _ ?side1 ?side2 A6.out).mono ?_); (case side1 => exact C_l (Kd.C_below HR1.out HB.out)); (case side2 => exact HC1.out); rintro e w10 ⟨rfl, hb⟩; replace HB := Aside0.mk (below_step tb hb)) | (refine gL 33 (some 22) Try.func33 #[.slice A0 l0.length c0, .slice A1 l1.length c1] ?_; (with_reducible refine (impl_act.calls k _ _ l0 _ _ l1 t491 _ ?side1 ?side2 ?side3 ?side4 A8.out).mono ?_); (case side1 => exact C_l (Kd.C_below HR0.out HB.out)); (case side2 => exact HC0.out); (case side3 => exact C_l (Kd.C_below HR1.out HB.out)); (case side4 => exact HC1.out); rintro e w11 ⟨v492, rfl, ho0, hb⟩; refine ⟨_, rfl, ?_⟩; have HO493 := Aside0.mk (Kd.R_lower ho0 (below_size tb)); replace HB := Aside0.mk (below_step tb hb)))
        go_ret
        exact ⟨_, rE, R_l HO493.out, tb⟩
      · replace c7 := Bool.eq_false_iff.mpr c7
        subst c7
        rw [if_neg (show ¬ (false = true) by decide)] at H
        obtain rfl := Option.some.inj H
        go_enter Try.func9, Try.ntmps9
        go_wp2_with (first | (go_at_call 43; (with_reducible refine (impl_areSheets.calls k _ _ l0 true _ ?side1 ?side2 A4.out).mono ?_); (case side1 => exact C_l HR0.out); (case side2 => exact HC0.out); rintro e w12 ⟨rfl, hb⟩; replace HB := Aside0.mk (below_step tb hb)) | (go_at_call 44; (with_reducible refine (impl_hasLetters.calls k _ _ l1 (l0.length : Int) false _ ?side1 ?side2 A6.out).mono ?_); (case side1 => exact C_l (Kd.C_below HR1.out HB.out)); (case side2 => exact HC1.out); rintro e w13 ⟨rfl, hb⟩; replace HB := Aside0.mk (below_step tb hb)))
        go_ret
        exact ⟨_, rE, by first | exact Kd.R_nil _ _ _ _ _ | exact Kd.N_nil _ _ _ _ _ | exact Kd.V_nil _ _ _ _ _ | exact Kd.Q_nil _ _ _ _ _ | exact Kd.S_nil _ _ _ _ _, tb⟩
    · replace c5 := Bool.eq_false_iff.mpr c5
      subst c5
      rw [if_neg (show ¬ (false = true) by decide)] at H
      obtain rfl := Option.some.inj H
      go_enter Try.func9, Try.ntmps9
      go_wp2_with (first | (go_at_call 43; (with_reducible refine (impl_areSheets.calls k _ _ l0 false _ ?side1 ?side2 A4.out).mono ?_); (case side1 => exact C_l HR0.out); (case side2 => exact HC0.out); rintro e w14 ⟨rfl, hb⟩; replace HB := Aside0.mk (below_step tb hb)))
      go_ret
      exact ⟨_, rE, by first | exact Kd.R_nil _ _ _ _ _ | exact Kd.N_nil _ _ _ _ _ | exact Kd.V_nil _ _ _ _ _ | exact Kd.Q_nil _ _ _ _ _ | exact Kd.S_nil _ _ _ _ _, tb⟩

/-! ### impl_sorted: function 80 -/
theorem copy_in_row {P : Program} {ops : Array Oper} {o : Oper} {a : Act} {K : Act → World → Prop} {Q : Exit → Act → World → Prop} {E : Prop} {α : Type} {enc : α → Value} {h1 : ∀ x, (enc x).oneCell' = true} {w0 W : World} (base : Nat) (hgd : o.guard = none) (s x : Operand) (t t' e : TypeId)
    (ho : o.op = .call { callee := .builtin .copy, args := #[s, x], argTypes := #[t, t'] }) (ht : P.underlying t = some (.slice e)) (hinfo : (P.info? e).map (·.size) = some 1)
    (g n cap k dc sc : Nat) (dp : Option Addr) (xs : List α) (ok : Nat → Prop) (hk : k < n) (hn : n = xs.length)
    (hs : a.eval s = .slice dp (n - (k + 1)) dc) (hdp : 0 < n - (k + 1) → dp = some ⟨g, k + 1, none⟩) (hx : a.eval x = .slice (some ⟨g, k, none⟩) (n - k) sc)
    (HO : (Kd.scalar enc h1).R e W base ok (.slice (some ⟨g, 0, none⟩) n cap) xs) (HB : Below base w0 W) (hbase : base ≤ W.heap.size)
    (h : ∀ w1, (Kd.scalar enc h1).R e w1 base ok (.slice (some ⟨g, 0, none⟩) n cap) (xs.take (k + 1) ++ (xs.drop k).take (n - (k + 1))) → Below base w0 w1 → K (a.put o.dst (.int .i64 ((n - (k + 1) : Nat) : Int))) w1) :
    if Region.wanted o (yielded ops a.tmps) = true then Oper.wp P o a W K Q else E := by
  have hw : Region.wanted o (yielded ops a.tmps) = true := by simp [Region.wanted, hgd]
  rw [if_pos hw]
  subst hn
  have hown := Kd.own_of_R HO
  have fin : ∀ w1, (Builtin.copy_ #[t, t'] o.type #[.slice dp (xs.length - (k + 1)) dc, .slice (some ⟨g, k, none⟩) (xs.length - k) sc]).run P W = .ok (goInt ((xs.length - (k + 1) : Nat) : Int)) w1 → (Kd.scalar enc h1).R e w1 base ok (.slice (some ⟨g, 0, none⟩) xs.length cap) (xs.take (k + 1) ++ (xs.drop k).take (xs.length - (k + 1))) → W.grownBy w1 (some g) → Oper.wp P o a W K Q := by
    intro w1 hr hrow hg
    unfold Oper.wp execOp
    simp only [ho, resolve, invoke, builtin, Sem.run_bind, Sem.run_pure, Result.andThen_ok, List.map_toArray, List.map_cons, List.map_nil, hs, hx, hr]
    exact h w1 hrow (HB.grown hg hbase (own_base hown))
  rcases hown.2 with ⟨hv, hx0⟩ | ⟨g', cap', cur, hv, hb, hh, hnc, hcm, hcs, htake⟩
  · cases hv
  injection hv with hg1 hg2 hg3
  injection hg1 with hg1
  injection hg1 with hg1 _ _
  subst hg1
  subst hg3
  have htk : cur.toList.take xs.length = encs enc xs := by rw [← htake, Nat.mul_one]
  rcases Nat.eq_zero_or_pos (xs.length - (k + 1)) with h0 | hp
  · refine fin W ?_ ?_ (World.grownBy.refl W _)
    · rw [h0]
      have := run_copy_none (P := P) W t t' o.type e dp (some ⟨g, k, none⟩) 0 dc (xs.length - k) sc ht hinfo (by simp)
      exact this
    · rw [h0, List.take_zero, List.append_nil, List.take_of_length_le (by omega)]; exact HO
  · obtain rfl := hdp hp
    have hkl : (encs enc ((xs.drop k).take (xs.length - (k + 1)))).length = xs.length - (k + 1) := by rw [encs_length, List.length_take, List.length_drop]; omega
    have hcl : cur.toList.length = cap := by simpa using hcs
    have hsrc : ∀ j u, (encs enc ((xs.drop k).take (xs.length - (k + 1))))[j]? = some u → W.cell? ((⟨g, k, none⟩ : Addr).add j) = some u := by
      intro j u hu
      have hj : j < xs.length - (k + 1) := by
        rcases Nat.lt_or_ge j (xs.length - (k + 1)) with h | h
        · exact h
        · rw [List.getElem?_eq_none (by rw [hkl]; exact h)] at hu
          cases hu
      have e1 : (⟨g, k, none⟩ : Addr).add j = ⟨g, k + j, none⟩ := by
        unfold Addr.add; split
        · rename_i h; subst h; rfl
        · rfl
      rw [e1, cell_of_row W g _ cur e (0, 0) hh, ← hu]
      have e2 : (encs enc xs)[k + j]? = cur[k + j]? := by rw [← htk, List.getElem?_take, if_pos (by omega)]; simp
      rw [← e2]
      simp only [encs, List.getElem?_map, List.getElem?_take, List.getElem?_drop, if_pos hj]
    have hr := run_copy_cells (P := P) W t t' o.type e g (k + 1) (xs.length - (k + 1)) dc ⟨g, k, none⟩ (xs.length - k) sc (encs enc ((xs.drop k).take (xs.length - (k + 1)))) ht hinfo (by rw [hkl]; exact (Nat.min_eq_right (by omega)).symm) hsrc
      (fun j hj => by rw [cell_of_row W g _ cur e (0, 0) hh]; rw [hkl] at hj; have : k + 1 + j < cur.size := by omega
                      simp [this]) (fun j _ => blk_frozen hh _) (by intro u hu; simp only [encs, List.mem_map] at hu; obtain ⟨q, _, rfl⟩ := hu; exact h1 q)
    obtain ⟨cur', h3, h4, h5⟩ := setCells_row (encs enc ((xs.drop k).take (xs.length - (k + 1)))) (k + 1) W cur hh (by rw [hkl]; omega)
    obtain ⟨s1, s2, s3, s4⟩ := setCells_same g (encs enc ((xs.drop k).take (xs.length - (k + 1)))) (k + 1) W
    refine fin _ (by rw [hr, hkl]) ?_ ⟨s1, s2, s3, by rw [s4]; exact Nat.le_refl _, fun k' _ hk' => setCells_far _ _ k' (fun he => hk' (by rw [he]))⟩
    have hln : (xs.take (k + 1) ++ (xs.drop k).take (xs.length - (k + 1))).length = xs.length := by
      rw [List.length_append, List.length_take, List.length_take, List.length_drop]
      omega
    have R := Kd.R_of_own (enc := enc) (h1 := h1) (e := e) (w := W.setCells g (k + 1) (encs enc ((xs.drop k).take (xs.length - (k + 1))))) (base := base) (ok := ok) (v := .slice (some ⟨g, 0, none⟩) xs.length cap) (xs := xs.take (k + 1) ++ (xs.drop k).take (xs.length - (k + 1))) ?_ HO.1
    · exact R
    rw [hln]
    refine ⟨by rw [encs_length, hln, Nat.mul_one], .inr ⟨g, cap, cur', rfl, hb, h3, hnc, hcm, by rw [h4, hcs], ?_⟩⟩
    rw [h5, hkl, encs_append, Nat.mul_one]
    have e3 : k + 1 + (xs.length - (k + 1)) = xs.length := by omega
    rw [e3]
    have e4 : cur.toList.take (k + 1) = encs enc (xs.take (k + 1)) := by
      have : cur.toList.take (k + 1) = (cur.toList.take xs.length).take (k + 1) := by rw [List.take_take, Nat.min_eq_left (by omega)]
      rw [this, htk]; simp [encs, List.map_take]
    rw [e4]
    have e5 : (encs enc (xs.take (k + 1)) ++ encs enc ((xs.drop k).take (xs.length - (k + 1)))).length = xs.length := by rw [← encs_append, encs_length, hln]
    rw [List.take_append_of_le_length (by omega), List.take_of_length_le (by omega)]
def cpIn (y : List Int) (i : Int) : List Int := y.take (i.toNat + 1) ++ (y.drop i.toNat).take (y.length - (i.toNat + 1))
mutual
def impl_sorted.l0 : Nat → List Int → List Int → Int → Int → Option (List Int)
  | 0, _, _, _, _ => none
  | k + 1, x3, x8, x9, x10 => if x10 < x9 then (if 0 ≤ x10 then (if x10 < (x8.length : Int) then (impl_sorted.l1 k x3 (rd x8 x10) (x3.length : Int) x8 x9 x10) else (none)) else (none)) else (some x3)
def impl_sorted.l1 : Nat → List Int → Int → Int → List Int → Int → Int → Option (List Int)
  | 0, _, _, _, _, _, _ => none
  | k + 1, x3, x5, x6, x8, x9, x10 => if x6 > 0 then (if 0 ≤ (wrap64 (x6 - 1)) then (if (wrap64 (x6 - 1)) < (x3.length : Int) then (if (rd x3 (wrap64 (x6 - 1))) > x5 then (impl_sorted.l1 k x3 x5 (wrap64 (x6 - 1)) x8 x9 x10) else (if x3.length < 17592186044416 then ((some (x3 ++ [0] : List Int)).bind fun y323 => (if 0 ≤ x6 then (if x6 < (y323.length : Int) then (impl_sorted.l0 k ((cpIn y323 x6).set (x6 : Int).toNat x5) x8 x9 (wrap64 (x10 + 1))) else (none)) else (none))) else (none))) else (none)) else (none)) else (if x3.length < 17592186044416 then ((some (x3 ++ [0] : List Int)).bind fun y327 => (if 0 ≤ x6 then (if x6 < (y327.length : Int) then (impl_sorted.l0 k ((cpIn y327 x6).set (x6 : Int).toNat x5) x8 x9 (wrap64 (x10 + 1))) else (none)) else (none))) else (none))
end
def impl_sorted.f (k : Nat) (l0 : List Int) : Option (List Int) := impl_sorted.l0 k (([] : List Int)) l0 (l0.length : Int) 0
set_option maxHeartbeats 8000000 in
set_option maxRecDepth 100000 in
theorem impl_sorted.calls (k : Nat) (A0 : Option Addr) (c0 : Nat) (l0 : List Int) (r : List Int) (w : World) (hr0 : Kd.C (Kd.int .i64) w A0 l0.length l0) (hc0 : l0.length ≤ c0) (h : impl_sorted.f k l0 = some r) :
    Calls Try.prog 80 #[.slice A0 l0.length c0] w fun e w' => ∃ v0_ : Value, e = .returned (v0_) ∧ Kd.R (Kd.int .i64) 3 w' w.heap.size (fun _ => True) v0_ r ∧ Below w.heap.size w w' := by
  have HR0 := Aside0.mk hr0
  have HC0 := Aside0.mk hc0
  clear hr0 hc0
  have HB := Aside0.mk (Below.refl w.heap.size w)
  have H : (impl_sorted.l0 k (([] : List Int)) l0 (l0.length : Int) 0) = some r := h
  clear h
  generalize hy318 : (([] : List Int) : List Int) = y318 at H
  have Ny318 := Aside0.mk hy318.symm; clear hy318
  have H' := Aside0.mk H
  clear H
  go_enter Try.func80, Try.ntmps80
  go_wp2_with (first | ((with_reducible refine gate_dst (N := 7) rfl ?_); refine Kd.R_lit (Kd.int .i64) _ 3 ?hg (N := 7) ?hd (xs := ([] : List Int)) (inner := []) (ok := fun _ => True) (okp := fun _ => True) ?hr ?hp (fun _ hk => hk) trivial (Below.refl _ _) (Nat.le_refl _) (by simp) ?_; (case hd => rfl); (case hg => rfl); (case hr => exact gS); (case hp => exact (Reps.none _ _)); intro v319 w2 ho3 hb hg_ hnew_; clear hg_ hnew_; (first | rw [← Ny318.out] at ho3 | (simp only [Int.reduceToNat] at ho3; rw [← Ny318.out] at ho3)); have HO320 := Aside0.mk (Kd.R_lower ho3 (below_size tb)); replace HB := Aside0.mk (below_step tb hb); clear hb ho3))
  go_loopg [3, 10] k (fun kq v3 v10 w' => ∃ (x3_1 : List Int) (x10_1 : Int), v10 = .int .i64 x10_1 ∧ Aside0 (impl_sorted.l0 kq x3_1 l0 (l0.length : Int) x10_1 = some r) ∧ Aside0 (kq ≤ k) ∧ Aside0 (Kd.R (Kd.int .i64) 3 w' w.heap.size (fun _ => True) v3 x3_1) ∧ Aside0 (Below w.heap.size w w'))
  case atStart => exact ⟨(y318), (0), rS, H', ⟨Nat.le_refl _⟩, ⟨R_l HO320.out⟩, ⟨tb⟩⟩
  case round =>
    clear H'
    try clear p2
    obtain ⟨x3_1, x10_1, rfl, HA, HK1, HO_3, HB⟩ := hrel
    cases gk with
    | zero => exact absurd HA.out (by simp [impl_sorted.l0])
    | succ k1 =>
      have H := HA.out
      clear HA
      simp only [impl_sorted.l0] at H
      obtain ⟨c4b0, H⟩ | ⟨c4b0, H⟩ := gi H
      · obtain ⟨c5b0, H⟩ := gdt H
        obtain ⟨c6b0, H⟩ := gdt H
        have H' := Aside0.mk H
        clear H
        have p321 : 0 ≤ (x10_1 : Int) := dT
        have q321 : x10_1 < (l0.length : Int) := dT
        obtain ⟨ad321, e321, hx321_0⟩ := Kd.at_int HR0.out x10_1 p321 q321
        cases e321
        replace hx321_0 := cB HB hx321_0
        replace p321 := eq_true p321
        replace q321 := eq_true q321
        obtain ⟨Ao7, co7, eo7⟩ := Kd.R_slice HO_3.out
        subst eo7
        go_wp2
        go_loopg [6] k1 (fun kq v6 w' => ∃ (x6_2 : Int), v6 = .int .i64 x6_2 ∧ Aside0 (impl_sorted.l1 kq x3_1 (rd l0 x10_1) x6_2 l0 (l0.length : Int) x10_1 = some r) ∧ Aside0 (kq ≤ k1) ∧ Aside0 (Kd.R (Kd.int .i64) 3 w' w.heap.size (fun _ => True) (.slice Ao7 x3_1.length co7) x3_1) ∧ Aside0 (Below w.heap.size w w'))
        case atStart => exact ⟨((x3_1.length : Int)), rS, H', ⟨Nat.le_refl _⟩, ⟨R_l HO_3.out⟩, ⟨tb⟩⟩
        case round =>
          clear H'
          try clear p2
          try clear p3
          try clear q3
          try clear hx3
          try clear c4
          try clear c4b0
          try clear c5
          try clear c5b0
          try clear c6
          try clear c6b0
          try clear hx321_0
          try clear p2
          try clear p321
          try clear q321
          obtain ⟨x6_2, rfl, HA, HK2, HO_3, HB⟩ := hrel
          cases gk with
          | zero => exact absurd HA.out (by simp [impl_sorted.l1])
          | succ k2 =>
            have H := HA.out
            clear HA
            simp only [impl_sorted.l1] at H
            by_cases c8 : x6_2 > 0
            · rw [if_pos c8] at H
              have c8b0 : decide (0 < x6_2) = true := decide_eq_true c8
              clear c8
              obtain ⟨ji9, hji9⟩ : ∃ j_ : Int, (wrap64 (x6_2 - 1)) = j_ := ⟨_, rfl⟩
              replace H : (if 0 ≤ (ji9) then (if (ji9) < (x3_1.length : Int) then (if (rd x3_1 (ji9)) > (rd l0 x10_1) then (impl_sorted.l1 k2 x3_1 (rd l0 x10_1) ji9 l0 (l0.length : Int) x10_1) else (if x3_1.length < 17592186044416 then ((some (x3_1 ++ [0] : List Int)).bind fun y323 => (if 0 ≤ x6_2 then (if x6_2 < (y323.length : Int) then (impl_sorted.l0 k2 ((cpIn y323 x6_2).set (x6_2 : Int).toNat (rd l0 x10_1)) l0 (l0.length : Int) (wrap64 (x10_1 + 1))) else (none)) else (none))) else (none))) else (none)) else (none)) = some r := by first | (rw [hji9] at H; exact H) | (simp only [hji9] at H ⊢; exact H)
              have hji9w : (IntKind.i64.wrap (x6_2 - 1)) = ji9 := (i64_w _).trans hji9
              obtain ⟨c10b0, H⟩ := gdt H
              obtain ⟨c11b0, H⟩ := gdt H
              by_cases c12 : (rd x3_1 (ji9)) > (rd l0 x10_1)
              · rw [if_pos c12] at H
                have c12b0 : decide ((rd l0 x10_1) < (rd x3_1 (ji9))) = true := decide_eq_true c12
                clear c12
                have H' := Aside0.mk H
                clear H
                have p322 : 0 ≤ ((ji9) : Int) := dT
                have q322 : (ji9) < (x3_1.length : Int) := dT
                obtain ⟨ad322, e322, hx322_0⟩ := Kd.at_int (Kd.R_reads' HO_3.out).2.2 (ji9) p322 q322
                cases e322
                replace p322 := eq_true p322
                replace q322 := eq_true q322
                go_wp2
                go_roundg k2
                case measure => exact oK
                case rel => exact ⟨(ji9), (by first | rfl | (simp; done) | (simp only [← hji9] <;> (first | rfl | simp)) | (simp [*]; done)), H', ⟨oK⟩, ⟨R_l HO_3.out⟩, ⟨tb⟩⟩
              · rw [if_neg c12] at H
                have c12b0 : decide ((rd l0 x10_1) < (rd x3_1 (ji9))) = false := decide_eq_false c12
                clear c12
                obtain ⟨LMc13, H⟩ := gda H
                generalize hy323 : (x3_1 ++ [0] : List Int) = y323 at H
                have Ny323 := Aside0.mk hy323.symm; clear hy323
                obtain ⟨c14b0, H⟩ := gdt H
                obtain ⟨c15b0, H⟩ := gdt H
                generalize hy326 : ((cpIn y323 x6_2).set (x6_2 : Int).toNat (rd l0 x10_1) : List Int) = y326 at H
                have Ny326 := Aside0.mk hy326.symm; clear hy326
                have H' := Aside0.mk H
                clear H
                have p322 : 0 ≤ ((ji9) : Int) := dT
                have q322 : (ji9) < (x3_1.length : Int) := dT
                obtain ⟨ad322, e322, hx322_0⟩ := Kd.at_int (Kd.R_reads' HO_3.out).2.2 (ji9) p322 q322
                cases e322
                replace p322 := eq_true p322
                replace q322 := eq_true q322
                go_wp2_with (first | ((with_reducible refine gate_builtin (b := .append) (xs := #[.tmp 29, .tmp 30]) rfl ?_); at_builtin; refine Kd.R_append (Kd.int .i64) (w0 := w) w.heap.size rfl (.tmp 29) (.tmp 30) 30 3 (.int .i64 0) 8 rfl Try.underlying30 info3 rfl (by decide) (by omega) (.slice (some ad322) x3_1.length co7) x3_1 0 [.int .i64 0] (fun _ => True) (fun _ => False) rfl rfl ?aP (fun _ hk => hk.elim) ?aF ?aO ?aB ?aS ?aL ?_; (case aP => exact rfl); (case aB => exact tb); (case aF => exact (fun _ _ => trivial)); (case aO => exact (R_l HO_3.out)); (case aS => exact (below_size tb)); (case aL => have := LMc13.out; omega); intro v324 w17 ho hb hg hat; rw [← Ny323.out] at ho; replace HB := Aside0.mk (hb); have HO325 := Aside0.mk (ho); clear HO_3; clear ho hb hg hat))
                --MID y323 HO325 go16 co16 w17
                have hlen : 0 < y323.length := by rw [Ny323.out]; simp
                obtain ⟨go16, co16, eo16, gb16, gl16, cl16, HG16⟩ := Kd.R_form HO325.out hlen; (first | cases eo16 | (injection eo16 with ea_ en_ ec_; (first | subst ea_ | (injection ea_ with ea_; subst ea_)); subst ec_; clear en_))
                have GB16 := Aside0.mk gb16; have GG16 := Aside0.mk HG16; clear gb16 gl16 HG16
                obtain ⟨kN, hkN⟩ : ∃ m : Nat, x6_2 = (m : Int) := ⟨x6_2.toNat, by have : 0 ≤ x6_2 := of_decide_eq_true (by assumption); omega⟩
                have hklt : kN < y323.length := by have : x6_2 < (y323.length : Int) := of_decide_eq_true (by assumption); omega
                have hyc : y323.length ≤ co16 := by have := (Kd.R_reads' HO325.out).2.1; omega
                subst hkN
                have hlim : y323.length < 17592186044417 := by rw [Ny323.out]; simp; first | (have := LMc13.out; omega) | (have := LMc20.out; omega)
                have hwr : IntKind.i64.wrap ((kN : Int) + 1) = ((kN + 1 : Nat) : Int) := by rw [IntKind.wrap_i64]; omega
                obtain ⟨dp, hA, hdp⟩ : ∃ A : Option Addr, (if co16 = kN + 1 then some (⟨go16, 0, none⟩ : Addr) else some ⟨go16, kN + 1, none⟩) = A ∧ Hid (0 < y323.length - (kN + 1) → A = some ⟨go16, kN + 1, none⟩) := ⟨_, rfl, fun h => if_neg (by omega)⟩
                have hne : (co16 = kN) = False := by simp; omega
                have hp0 : (kN : Int) + 1 ≤ (y323.length : Int) := by omega
                have hp1 : 0 ≤ (kN : Int) + 1 := by omega
                have hp2 : (kN : Int) ≤ (y323.length : Int) := by omega
                have HK := Aside0.mk hklt
                clear hklt
                go_region_law (refine copy_in_row (P := Try.prog) (enc := Value.int .i64) (h1 := fun _ => rfl) (w0 := w) w.heap.size rfl (.tmp 35) (.tmp 38) 30 30 3 rfl Try.underlying30 (by kernel_rfl) go16 y323.length co16 kN (co16 - (kN + 1)) (co16 - kN) dp y323 (fun _ => True) HK.out rfl (by simp [Act.eval, Act.put]) hdp.out (by simp [Act.eval, Act.put]) (R_l HO325.out) tb (below_size tb) ?_; intro wc hRc hBc; have n0_ : Aside0 (Kd.R (Kd.int .i64) 3 wc w.heap.size (fun _ => True) (.slice (some ⟨go16, 0, none⟩) y323.length co16) (cpIn y323 (kN : Int))) := Aside0.mk hRc; have n1_ := Aside0.mk hBc; clear hRc hBc)
                clear HO325 HB
                have HO325 := n0_
                have HB := n1_
                clear n0_ n1_
                have p16 : 0 ≤ (kN : Int) := dT
                have q16 : (kN : Int) < (y323.length : Int) := dT
                obtain ⟨hx16_0, hf16_0⟩ := Kd.R_celln 0 HO325.out (kN : Int) p16 q16; replace p16 := eq_true p16; replace q16 := eq_true q16; obtain ⟨hy18_, hz18_⟩ := Kd.R_celln 0 HO325.out (kN : Int) dT dT; have HP18 := Kd.R_putg HO325.out (kN : Int) (rd l0 x10_1)
                simp only [Int.toNat_natCast] at hx16_0 hf16_0 hy18_ hz18_
                go_wp2_with ((with_reducible refine gate_store (t := 3) (p := 43) rfl ?_); refine store_event (t := 3) (p := 43) (v := ?vo_w19) (w1 := (wc.setCell ⟨go16, kN, none⟩ (.int .i64 (rd l0 x10_1)))) ?hg ?ho ?hn ?hr ?_; (case ho => rfl); (case hg => rfl); (case hn => rfl); (case hr => exact gS); intro w19 hw; have hg : wc.grownBy w19 (some go16) := (by rw [hw]; exact HP18.2); have hp_ : Kd.R (Kd.int .i64) 3 w19 w.heap.size (fun _ => True) (.slice (some ⟨go16, 0, none⟩) y323.length co16) y326 := (by rw [hw, Ny326.out]; exact HP18.1); clear HP18; replace HO325 := Aside0.mk (hp_); replace HB := Aside0.mk ((by rw [hw]; exact below_set (HB.out) GB16.out : Below w.heap.size w w19)); clear hg hw hp_)
                go_roundg k2
                case measure => exact oK
                case rel => exact ⟨(y326), (wrap64 (x10_1 + 1)), rS, H', ⟨oK⟩, ⟨R_l HO325.out⟩, ⟨tb⟩⟩
            · rw [if_neg c8] at H
              have c8b0 : decide (0 < x6_2) = false := decide_eq_false c8
              clear c8
              obtain ⟨LMc20, H⟩ := gda H
              generalize hy327 : (x3_1 ++ [0] : List Int) = y327 at H
              have Ny327 := Aside0.mk hy327.symm; clear hy327
              obtain ⟨c21b0, H⟩ := gdt H
              obtain ⟨c22b0, H⟩ := gdt H
              generalize hy330 : ((cpIn y327 x6_2).set (x6_2 : Int).toNat (rd l0 x10_1) : List Int) = y330 at H
              have Ny330 := Aside0.mk hy330.symm; clear hy330
              have H' := Aside0.mk H
              clear H
              go_wp2_with (first | ((with_reducible refine gate_builtin (b := .append) (xs := #[.tmp 29, .tmp 30]) rfl ?_); at_builtin; refine Kd.R_append (Kd.int .i64) (w0 := w) w.heap.size rfl (.tmp 29) (.tmp 30) 30 3 (.int .i64 0) 8 rfl Try.underlying30 info3 rfl (by decide) (by omega) (.slice Ao7 x3_1.length co7) x3_1 0 [.int .i64 0] (fun _ => True) (fun _ => False) rfl rfl ?aP (fun _ hk => hk.elim) ?aF ?aO ?aB ?aS ?aL ?_; (case aP => exact rfl); (case aB => exact tb); (case aF => exact (fun _ _ => trivial)); (case aO => exact (R_l HO_3.out)); (case aS => exact (below_size tb)); (case aL => have := LMc20.out; omega); intro v328 w24 ho hb hg hat; rw [← Ny327.out] at ho; replace HB := Aside0.mk (hb); have HO329 := Aside0.mk (ho); clear HO_3; clear ho hb hg hat))
              --MID y327 HO329 go23 co23 w24
              have hlen : 0 < y327.length := by rw [Ny327.out]; simp
              obtain ⟨go23, co23, eo23, gb23, gl23, cl23, HG23⟩ := Kd.R_form HO329.out hlen; (first | cases eo23 | (injection eo23 with ea_ en_ ec_; (first | subst ea_ | (injection ea_ with ea_; subst ea_)); subst ec_; clear en_))
              have GB23 := Aside0.mk gb23; have GG23 := Aside0.mk HG23; clear gb23 gl23 HG23
              obtain ⟨kN, hkN⟩ : ∃ m : Nat, x6_2 = (m : Int) := ⟨x6_2.toNat, by have : 0 ≤ x6_2 := of_decide_eq_true (by assumption); omega⟩
              have hklt : kN < y327.length := by have : x6_2 < (y327.length : Int) := of_decide_eq_true (by assumption); omega
              have hyc : y327.length ≤ co23 := by have := (Kd.R_reads' HO329.out).2.1; omega
              subst hkN
              have hlim : y327.length < 17592186044417 := by rw [Ny327.out]; simp; first | (have := LMc13.out; omega) | (have := LMc20.out; omega)
              have hwr : IntKind.i64.wrap ((kN : Int) + 1) = ((kN + 1 : Nat) : Int) := by rw [IntKind.wrap_i64]; omega
              obtain ⟨dp, hA, hdp⟩ : ∃ A : Option Addr, (if co23 = kN + 1 then some (⟨go23, 0, none⟩ : Addr) else some ⟨go23, kN + 1, none⟩) = A ∧ Hid (0 < y327.length - (kN + 1) → A = some ⟨go23, kN + 1, none⟩) := ⟨_, rfl, fun h => if_neg (by omega)⟩
              have hne : (co23 = kN) = False := by simp; omega
              have hp0 : (kN : Int) + 1 ≤ (y327.length : Int) := by omega
              have hp1 : 0 ≤ (kN : Int) + 1 := by omega
              have hp2 : (kN : Int) ≤ (y327.length : Int) := by omega
              have HK := Aside0.mk hklt
              clear hklt
              go_region_law (refine copy_in_row (P := Try.prog) (enc := Value.int .i64) (h1 := fun _ => rfl) (w0 := w) w.heap.size rfl (.tmp 35) (.tmp 38) 30 30 3 rfl Try.underlying30 (by kernel_rfl) go23 y327.length co23 kN (co23 - (kN + 1)) (co23 - kN) dp y327 (fun _ => True) HK.out rfl (by simp [Act.eval, Act.put]) hdp.out (by simp [Act.eval, Act.put]) (R_l HO329.out) tb (below_size tb) ?_; intro wc hRc hBc; have n0_ : Aside0 (Kd.R (Kd.int .i64) 3 wc w.heap.size (fun _ => True) (.slice (some ⟨go23, 0, none⟩) y327.length co23) (cpIn y327 (kN : Int))) := Aside0.mk hRc; have n1_ := Aside0.mk hBc; clear hRc hBc)
              clear HO329 HB
              have HO329 := n0_
              have HB := n1_
              clear n0_ n1_
              have p23 : 0 ≤ (kN : Int) := dT
              have q23 : (kN : Int) < (y327.length : Int) := dT
              obtain ⟨hx23_0, hf23_0⟩ := Kd.R_celln 0 HO329.out (kN : Int) p23 q23; replace p23 := eq_true p23; replace q23 := eq_true q23; obtain ⟨hy25_, hz25_⟩ := Kd.R_celln 0 HO329.out (kN : Int) dT dT; have HP25 := Kd.R_putg HO329.out (kN : Int) (rd l0 x10_1)
              simp only [Int.toNat_natCast] at hx23_0 hf23_0 hy25_ hz25_
              go_wp2_with ((with_reducible refine gate_store (t := 3) (p := 43) rfl ?_); refine store_event (t := 3) (p := 43) (v := ?vo_w26) (w1 := (wc.setCell ⟨go23, kN, none⟩ (.int .i64 (rd l0 x10_1)))) ?hg ?ho ?hn ?hr ?_; (case ho => rfl); (case hg => rfl); (case hn => rfl); (case hr => exact gS); intro w26 hw; have hg : wc.grownBy w26 (some go23) := (by rw [hw]; exact HP25.2); have hp_ : Kd.R (Kd.int .i64) 3 w26 w.heap.size (fun _ => True) (.slice (some ⟨go23, 0, none⟩) y327.length co23) y330 := (by rw [hw, Ny330.out]; exact HP25.1); clear HP25; replace HO329 := Aside0.mk (hp_); replace HB := Aside0.mk ((by rw [hw]; exact below_set (HB.out) GB23.out : Below w.heap.size w w26)); clear hg hw hp_)
              go_roundg k2
              case measure => exact oK
              case rel => exact ⟨(y330), (wrap64 (x10_1 + 1)), rS, H', ⟨oK⟩, ⟨R_l HO329.out⟩, ⟨tb⟩⟩
      · obtain rfl := Option.some.inj H
        go_wp2
        go_ret
        exact ⟨_, rE, R_l HO_3.out, tb⟩

/-! ### impl_lengths: function 45 -/
def impl_lengths.l0 : Nat → List Int → List (List Int) → Int → Int → Option (List Int)
  | 0, _, _, _, _ => none
  | k + 1, x3, x8, x9, x10 => if x10 < x9 then (if 0 ≤ x10 then (if x10 < (x8.length : Int) then (if x3.length < 17592186044416 then (impl_lengths.l0 k (x3 ++ [((rd_L2 x8 x10).length : Int)]) x8 x9 (wrap64 (x10 + 1))) else (none)) else (none)) else (none)) else ((impl_sorted.f k x3).bind fun t504 => (some t504))
def impl_lengths.f (k : Nat) (l0 : List Int) : Option (List Int) := (impl_cycles.f k l0).bind fun t497 => (impl_lengths.l0 k (([] : List Int)) t497 (t497.length : Int) 0)
set_option maxHeartbeats 8000000 in
set_option maxRecDepth 100000 in
theorem impl_lengths.calls (k : Nat) (A0 : Option Addr) (c0 : Nat) (l0 : List Int) (r : List Int) (w : World) (hr0 : Kd.C (Kd.int .i64) w A0 l0.length l0) (hc0 : l0.length ≤ c0) (h : impl_lengths.f k l0 = some r) :
    Calls Try.prog 45 #[.slice A0 l0.length c0] w fun e w' => ∃ v0_ : Value, e = .returned (v0_) ∧ Kd.R (Kd.int .i64) 3 w' w.heap.size (fun _ => True) v0_ r ∧ Below w.heap.size w w' := by
  have HR0 := Aside0.mk hr0
  have HC0 := Aside0.mk hc0
  clear hr0 hc0
  have HB := Aside0.mk (Below.refl w.heap.size w)
  have H : ((impl_cycles.f k l0).bind fun t497 => (impl_lengths.l0 k (([] : List Int)) t497 (t497.length : Int) 0)) = some r := h
  clear h
  generalize hy494 : (([] : List Int) : List Int) = y494 at H
  have Ny494 := Aside0.mk hy494.symm; clear hy494
  obtain ⟨t497, A2, H⟩ := bs H
  have H' := Aside0.mk H
  clear H
  go_enter Try.func45, Try.ntmps45
  go_wp2_with (first | ((with_reducible refine gate_dst (N := 6) rfl ?_); refine Kd.R_lit (Kd.int .i64) _ 3 ?hg (N := 6) ?hd (xs := ([] : List Int)) (inner := []) (ok := fun _ => True) (okp := fun _ => True) ?hr ?hp (fun _ hk => hk) trivial (Below.refl _ _) (Nat.le_refl _) (by simp) ?_; (case hd => rfl); (case hg => rfl); (case hr => exact gS); (case hp => exact (Reps.none _ _)); intro v495 w3 ho4 hb hg_ hnew_; clear hg_ hnew_; (first | rw [← Ny494.out] at ho4 | (simp only [Int.reduceToNat] at ho4; rw [← Ny494.out] at ho4)); have HO496 := Aside0.mk (Kd.R_lower ho4 (below_size tb)); replace HB := Aside0.mk (below_step tb hb); clear hb ho4) | (refine gL 32 (some 8) Try.func32 #[.slice A0 l0.length c0] ?_; (with_reducible refine (impl_cycles.calls k _ _ l0 t497 _ ?side1 ?side2 A2.out).mono ?_); (case side1 => exact C_l (Kd.C_below HR0.out HB.out)); (case side2 => exact HC0.out); rintro e w5 ⟨v498, rfl, ho0, hb⟩; refine ⟨_, rfl, ?_⟩; have HO499 := Aside0.mk (Kd.S_lower (Kd.S_new' ho0 (Kd.R_lt (R_l HO496.out))) (below_size tb)); replace HO496 := Aside0.mk (rB HO496.out hb); replace HB := Aside0.mk (below_step tb hb); obtain ⟨Ao6, co6, eo6⟩ := Kd.S_slice HO499.out; subst eo6))
  go_loopg [3, 10] k (fun kq v3 v10 w' => ∃ (x3_1 : List Int) (x10_1 : Int), v10 = .int .i64 x10_1 ∧ Aside0 (impl_lengths.l0 kq x3_1 t497 (t497.length : Int) x10_1 = some r) ∧ Aside0 (kq ≤ k) ∧ Aside0 (Kd.R (Kd.int .i64) 3 w' w.heap.size (fun _ => True) v3 x3_1) ∧ Aside0 (Kd.S (Kd.slice 3 (Kd.int .i64)) 30 w' w.heap.size (fun k_ => some k_ ≠ (v3 : Value).ownBlock) (.slice Ao6 t497.length co6) t497) ∧ Aside0 (Below w.heap.size w w'))
  case atStart => exact ⟨(y494), (0), rS, H', ⟨Nat.le_refl _⟩, ⟨R_l HO496.out⟩, ⟨S_l (Kd.S_mono HO499.out (fun _ hk => hk.2))⟩, ⟨tb⟩⟩
  case round =>
    clear H'
    try clear p2
    try clear c3
    try clear c4
    obtain ⟨x3_1, x10_1, rfl, HA, HK1, HO_3, HO_8, HB⟩ := hrel
    cases gk with
    | zero => exact absurd HA.out (by simp [impl_lengths.l0])
    | succ k1 =>
      have H := HA.out
      clear HA
      simp only [impl_lengths.l0] at H
      obtain ⟨c7b0, H⟩ | ⟨c7b0, H⟩ := gi H
      · obtain ⟨c8b0, H⟩ := gdt H
        obtain ⟨c9b0, H⟩ := gdt H
        obtain ⟨LMc10, H⟩ := gda H
        generalize hy501 : (x3_1 ++ [((rd_L2 t497 x10_1).length : Int)] : List Int) = y501 at H
        have Ny501 := Aside0.mk hy501.symm; clear hy501
        have H' := Aside0.mk H
        clear H
        have p500 : 0 ≤ (x10_1 : Int) := dT
        have q500 : x10_1 < (t497.length : Int) := dT
        obtain ⟨ad500, A500_0, c500_0, e500, hx500_0, hl500_0, hi500_0⟩ := at_L2 (Kd.S_reads' HO_8.out).2.2 x10_1 p500 q500
        cases e500
        obtain ⟨ce500, hce500, hMe500, hcc500⟩ := Kd.S_get HO_8.out [] x10_1 p500 (by first | exact q500 | exact dT | (have e_ := (Kd.S_reads' HO_8.out).1; omega))
        obtain ⟨ve500_0, rfl, ge500_0⟩ := hMe500
        have hv500_0 := hcc500 0 _ rfl
        rw [Nat.add_zero, show ((Kd.slice 3 (Kd.int .i64))).sz = 1 from rfl, Nat.mul_one] at hv500_0
        replace hv500_0 := Option.some.inj (hv500_0.symm.trans hx500_0)
        rw [hv500_0] at ge500_0
        have HL500_0 := Aside0.mk (show Kd.R (Kd.int .i64) 3 _ _ _ _ (rd_L2 t497 x10_1) from ge500_0)
        clear hv500_0 ge500_0
        clear hcc500 hce500
        have HR500_0 := Aside0.mk hi500_0
        have HC500_0 := Aside0.mk hl500_0
        clear hi500_0 hl500_0
        replace p500 := eq_true p500
        replace q500 := eq_true q500
        go_wp2_with (first | ((with_reducible refine gate_builtin (b := .append) (xs := #[.tmp 14, .tmp 17]) rfl ?_); at_builtin; refine Kd.R_append (Kd.int .i64) (w0 := w) w.heap.size rfl (.tmp 14) (.tmp 17) 30 3 (.int .i64 0) 8 rfl Try.underlying30 info3 rfl (by decide) (by omega) u3 x3_1 ((rd_L2 t497 x10_1).length : Int) [.int .i64 ((rd_L2 t497 x10_1).length : Int)] (fun _ => True) (fun _ => False) rfl rfl ?aP (fun _ hk => hk.elim) ?aF ?aO ?aB ?aS ?aL ?_; (case aP => exact rfl); (case aB => exact tb); (case aF => exact (fun _ _ => trivial)); (case aO => exact (R_l HO_3.out)); (case aS => exact (below_size tb)); (case aL => have := LMc10.out; omega); intro v502 w11 ho hb hg hat; rw [← Ny501.out] at ho; replace HO_8 := Aside0.mk (Kd.S_after (ok := (fun _ => True)) (S_l (Kd.S_mono HO_8.out (fun _ hk => ⟨trivial, hk⟩))) hg hat); replace HL500_0 := Aside0.mk (Kd.R_after (ok := (fun k_ => some k_ ≠ (.slice (some ad500) t497.length co6 : Value).ownBlock)) (R_l (Kd.R_mono HL500_0.out (fun _ hk => ⟨hk.2, hk.1⟩))) hg hat); replace HB := Aside0.mk (hb); have HO503 := Aside0.mk (ho); clear HO_3; clear ho hb hg hat))
        go_roundg k1
        case measure => exact oK
        case rel => exact ⟨(y501), (wrap64 (x10_1 + 1)), rS, H', ⟨oK⟩, ⟨R_l HO503.out⟩, ⟨S_l (Kd.S_mono HO_8.out (fun _ hk => hk.2))⟩, ⟨tb⟩⟩
      · obtain ⟨t504, A12, H⟩ := bs H
        obtain rfl := Option.some.inj H
        obtain ⟨Ao13, co13, eo13⟩ := Kd.R_slice HO_3.out
        subst eo13
        go_wp2_with (first | (refine gL 80 (some 21) Try.func80 #[.slice Ao13 x3_1.length co13] ?_; (with_reducible refine (impl_sorted.calls k1 _ _ x3_1 t504 _ ?side1 ?side2 A12.out).mono ?_); (case side1 => exact C_l ((Kd.R_reads' HO_3.out).2.2)); (case side2 => exact (Kd.R_reads' HO_3.out).2.1); rintro e w14 ⟨v505, rfl, ho0, hb⟩; refine ⟨_, rfl, ?_⟩; replace HO_8 := Aside0.mk (Kd.S_elder' (S_l HO_8.out) (Kd.R_base ho0) hb); have HO506 := Aside0.mk (Kd.R_lower (Kd.R_new' ho0 (Kd.R_lt (R_l HO_3.out))) (below_size tb)); replace HO_3 := Aside0.mk (Kd.R_elder' (R_l HO_3.out) (Kd.R_base ho0) hb); replace HB := Aside0.mk (below_step tb hb)))
        go_ret
        exact ⟨_, rE, R_l (Kd.R_mono HO506.out (fun _ hk => trivial)), tb⟩

end Go.Proofs.Ytepogblkmiidnaa.PFnCovers
