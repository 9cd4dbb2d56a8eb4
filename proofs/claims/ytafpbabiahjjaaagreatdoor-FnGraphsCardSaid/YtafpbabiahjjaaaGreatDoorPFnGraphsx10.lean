import Derived.Test.YtafpbabiahjjaaaGreatDoorWSpanB
import Derived.Test.YtafpbabiahjjaaaGreatDoorPFnGraphsx0
import Derived.Test.YtafpbabiahjjaaaGreatDoorPFnGraphsx2
import Derived.Test.YtafpbabiahjjaaaGreatDoorPFnGraphsx3
namespace Go.Proofs.YtafpbabiahjjaaaGreatDoor.PFnGraphs
open Go.RowKit Go.Proofs.YtafpbabiahjjaaaGreatDoorW.PrintWords Go.Proofs.YtafpbabiahjjaaaGreatDoorW.PrintLast Go.Proofs.YtafpbabiahjjaaaGreatDoorW.PrintMore
attribute [local go_sem] max2_int min2_int max_two min_two max_three min_three max_four min_four   -- for this text's walks alone
set_option linter.unusedVariables false
set_option linter.unusedSimpArgs false

/-! ### spec_FormatInt: function 59 -/
def spec_FormatInt.l0 : Nat → Int → Bool → ByteArray → Option (ByteArray)
 | 0, _, _, _ => none
 | k + 1, x0, x3, x4 => if x0 = 0 then (if x3 = true then (if 1 + x4.size ≤ 9223372036854775807 then (some ((⟨#[45]⟩ : ByteArray) ++ x4)) else (none)) else (some x4)) else (if (Int.tmod x0 10) < 0 then ((some (([(wrap64 (48 + (wrap64 (-(Int.tmod x0 10))))) % 256] : List Int) : List Int)).bind fun y320 => (if (strOfNums y320).size + x4.size ≤ 9223372036854775807 then (spec_FormatInt.l0 k (wrap64 (Int.tdiv x0 10)) x3 ((strOfNums y320) ++ x4)) else (none))) else ((some (([(wrap64 (48 + (Int.tmod x0 10))) % 256] : List Int) : List Int)).bind fun y323 => (if (strOfNums y323).size + x4.size ≤ 9223372036854775807 then (spec_FormatInt.l0 k (wrap64 (Int.tdiv x0 10)) x3 ((strOfNums y323) ++ x4)) else (none))))
def spec_FormatInt.f (k : Nat) (a0 : Int) : Option (ByteArray) := if a0 = 0 then (some (⟨#[48]⟩ : ByteArray)) else (spec_FormatInt.l0 k a0 (decide (a0 < 0)) (⟨#[]⟩ : ByteArray))
set_option maxHeartbeats 8000000 in
set_option maxRecDepth 100000 in
theorem spec_FormatInt.calls (k : Nat) (a0 : Int) (r : ByteArray) (w : World) (h : spec_FormatInt.f k a0 = some r) :
  Calls Tryz.prog 59 #[.int .i64 a0] w fun e w' => e = .returned (.string r) ∧ Below w.heap.size w w' := by
 have HB := Aside0.mk (Below.refl w.heap.size w)
 have H : (if a0 = 0 then (some (⟨#[48]⟩ : ByteArray)) else (spec_FormatInt.l0 k a0 (decide (a0 < 0)) (⟨#[]⟩ : ByteArray))) = some r := h
 clear h
 by_cases c2 : a0 = 0
 ·rw [if_pos c2] at H
  have c2b0 : (a0 == 0) = true := beq_iff_eq.mpr c2
  have c2b1 : (a0 != 0) = false := bne_eq_false_iff_eq.mpr c2
  clear c2
  obtain rfl := Option.some.inj H
  go_enter Tryz.func59, Tryz.ntmps59
  go_wp2
  go_ret
  exact ⟨rE, tb⟩
 ·rw [if_neg c2] at H
  have c2b0 : (a0 == 0) = false := beq_eq_false_iff_ne.mpr c2
  have c2b1 : (a0 != 0) = true := bne_iff_ne.mpr c2
  have H' := Aside0.mk H
  clear H
  go_enter Tryz.func59, Tryz.ntmps59
  go_wp2
  go_loopg [0, 4] k (fun kq v0 v4 w' => ∃ (x0_1 : Int) (x4_1 : ByteArray), v0 = .int .i64 x0_1 ∧ v4 = .string x4_1 ∧ Aside0 (spec_FormatInt.l0 kq x0_1 (decide (a0 < 0)) x4_1 = some r) ∧ Aside0 (kq ≤ k) ∧ Aside0 (Below w.heap.size w w'))
  case atStart => exact ⟨(a0), ((⟨#[]⟩ : ByteArray)), rS, rS, H', ⟨Nat.le_refl _⟩, ⟨tb⟩⟩
  case round =>
   clear H'
   try clear c2
   try clear c2b0
   try clear c2b1
   try clear p2
   obtain ⟨x0_1, x4_1, rfl, rfl, HA, HK1, HB⟩ := hrel
   cases gk with
   | zero => exact absurd HA.out (by simp [spec_FormatInt.l0])
   | succ k1 =>
    have H := HA.out
    clear HA
    simp only [spec_FormatInt.l0] at H
    by_cases c3 : x0_1 = 0
    ·rw [if_pos c3] at H
     have c3b0 : (x0_1 == 0) = true := beq_iff_eq.mpr c3
     have c3b1 : (x0_1 != 0) = false := bne_eq_false_iff_eq.mpr c3
     clear c3
     by_cases c4 : (decide (a0 < 0)) = true
     ·rw [if_pos c4] at H
      have c4b0 : (decide (a0 < 0)) = true := c4
      (try rw [c4b0])
      clear c4
      obtain ⟨c5, H⟩ := gd H
      have c5b0 := eq_true c5
      have c5b1 : decide (1 + x4_1.size ≤ 9223372036854775807) = true := decide_eq_true c5
      try have c5b2 : (9223372036854775807 < 1 + x4_1.size) = False := eq_false (Nat.not_lt.2 c5)
      obtain rfl := Option.some.inj H
      go_wp2
      go_ret
      exact ⟨rE, tb⟩
     ·rw [if_neg c4] at H
      have c4b0 : (decide (a0 < 0)) = false := by simpa using c4
      (try rw [c4b0])
      clear c4
      obtain rfl := Option.some.inj H
      go_wp2
      go_ret
      exact ⟨rE, tb⟩
    ·rw [if_neg c3] at H
     have c3b0 : (x0_1 == 0) = false := beq_eq_false_iff_ne.mpr c3
     have c3b1 : (x0_1 != 0) = true := bne_iff_ne.mpr c3
     obtain ⟨c6b0, H⟩ | ⟨c6b0, H⟩ := gi H
     ·obtain ⟨y320, hy320⟩ : ∃ y_ : List Int, y_ = (([(wrap64 (48 + (wrap64 (-(Int.tmod x0_1 10))))) % 256] : List Int)) := ⟨_, rfl⟩
      replace H : (if (strOfNums y320).size + x4_1.size ≤ 9223372036854775807 then (spec_FormatInt.l0 k1 (wrap64 (Int.tdiv x0_1 10)) (decide (a0 < 0)) ((strOfNums y320) ++ x4_1)) else (none)) = some r := by first | (rw [hy320]; with_reducible exact H) | (have H2_ := (Option.bind_some _ _).symm.trans H; rw [hy320]; with_reducible exact H2_) | (have H2_ := (Option.bind_some _ _).symm.trans H; with_reducible exact H2_) | with_reducible exact H | (rw [hy320]; exact H) | exact H
      have Ny320 := Aside0.mk hy320
      clear hy320
      obtain ⟨c7, H⟩ := gd H
      have c7b0 := eq_true c7
      have c7b1 : decide ((strOfNums y320).size + x4_1.size ≤ 9223372036854775807) = true := decide_eq_true c7
      try have c7b2 : (9223372036854775807 < (strOfNums y320).size + x4_1.size) = False := eq_false (Nat.not_lt.2 c7)
      have H' := Aside0.mk H
      clear H
      go_wp2_with (first | ((with_reducible refine gate_dst (N := 21) rfl ?_); refine Kd.R_lit (Kd.int .u8) _ 5 ?hg (N := 21) ?hd (xs := ([(wrap64 (48 + (wrap64 (-(Int.tmod x0_1 10))))) % 256] : List Int)) (inner := [.int .u8 ((wrap64 (48 + (wrap64 (-(Int.tmod x0_1 10))))) % 256)]) (ok := fun _ => True) (okp := fun _ => True) ?hr ?hp (fun _ hk => hk) trivial (Below.refl _ _) (Nat.le_refl _) (by simp) ?_; (case hd => rfl); (case hg => rfl); (case hr => exact gS); (case hp => exact (Reps.one (show Kd.M (Kd.int .u8) _ _ _ ((wrap64 (48 + (wrap64 (-(Int.tmod x0_1 10))))) % 256) [.int .u8 ((wrap64 (48 + (wrap64 (-(Int.tmod x0_1 10))))) % 256)] from rfl) (Reps.none _ _))); intro v321 w8 ho9 hb hg_ hnew_; clear hg_ hnew_; (first | rw [← Ny320.out] at ho9 | (simp only [Int.reduceToNat] at ho9; rw [← Ny320.out] at ho9)); have HO322 := Aside0.mk (Kd.R_lower ho9 (below_size tb)); replace HB := Aside0.mk (below_step tb hb); clear hb ho9; have hcv10 := own_string (P := Tryz.prog) Tryz.underlying22 Tryz.underlying5 Tryz.underlying9 (Kd.own_of_R HO322.out)))
      go_roundg k1
      case measure => exact oK
      case rel => exact ⟨(wrap64 (Int.tdiv x0_1 10)), ((strOfNums y320) ++ x4_1), rS, rS, H', ⟨oK⟩, ⟨tb⟩⟩
     ·obtain ⟨y323, hy323⟩ : ∃ y_ : List Int, y_ = (([(wrap64 (48 + (Int.tmod x0_1 10))) % 256] : List Int)) := ⟨_, rfl⟩
      replace H : (if (strOfNums y323).size + x4_1.size ≤ 9223372036854775807 then (spec_FormatInt.l0 k1 (wrap64 (Int.tdiv x0_1 10)) (decide (a0 < 0)) ((strOfNums y323) ++ x4_1)) else (none)) = some r := by first | (rw [hy323]; with_reducible exact H) | (have H2_ := (Option.bind_some _ _).symm.trans H; rw [hy323]; with_reducible exact H2_) | (have H2_ := (Option.bind_some _ _).symm.trans H; with_reducible exact H2_) | with_reducible exact H | (rw [hy323]; exact H) | exact H
      have Ny323 := Aside0.mk hy323
      clear hy323
      by_cases c11 : (strOfNums y323).size + x4_1.size ≤ 9223372036854775807
      ·rw [if_pos c11] at H
       have c11b0 := eq_true c11
       have c11b1 : decide ((strOfNums y323).size + x4_1.size ≤ 9223372036854775807) = true := decide_eq_true c11
       try have c11b2 : (9223372036854775807 < (strOfNums y323).size + x4_1.size) = False := eq_false (Nat.not_lt.2 c11)
       have H' := Aside0.mk H
       clear H
       go_wp2_with (first | ((with_reducible refine gate_dst (N := 21) rfl ?_); refine Kd.R_lit (Kd.int .u8) _ 5 ?hg (N := 21) ?hd (xs := ([(wrap64 (48 + (Int.tmod x0_1 10))) % 256] : List Int)) (inner := [.int .u8 ((wrap64 (48 + (Int.tmod x0_1 10))) % 256)]) (ok := fun _ => True) (okp := fun _ => True) ?hr ?hp (fun _ hk => hk) trivial (Below.refl _ _) (Nat.le_refl _) (by simp) ?_; (case hd => rfl); (case hg => rfl); (case hr => exact gS); (case hp => exact (Reps.one (show Kd.M (Kd.int .u8) _ _ _ ((wrap64 (48 + (Int.tmod x0_1 10))) % 256) [.int .u8 ((wrap64 (48 + (Int.tmod x0_1 10))) % 256)] from rfl) (Reps.none _ _))); intro v324 w12 ho13 hb hg_ hnew_; clear hg_ hnew_; (first | rw [← Ny323.out] at ho13 | (simp only [Int.reduceToNat] at ho13; rw [← Ny323.out] at ho13)); have HO325 := Aside0.mk (Kd.R_lower ho13 (below_size tb)); replace HB := Aside0.mk (below_step tb hb); clear hb ho13; have hcv14 := own_string (P := Tryz.prog) Tryz.underlying22 Tryz.underlying5 Tryz.underlying9 (Kd.own_of_R HO325.out)))
       go_roundg k1
       case measure => exact oK
       case rel => exact ⟨(wrap64 (Int.tdiv x0_1 10)), ((strOfNums y323) ++ x4_1), rS, rS, H', ⟨oK⟩, ⟨tb⟩⟩
      ·rw [if_neg c11] at H
       exact absurd H (by simp)

/-! ### spec_Join: function 60 -/
def spec_Join.l0 : Nat → List ByteArray → ByteArray → List Int → Int → Option (ByteArray)
 | 0, _, _, _, _ => none
 | k + 1, x0, x1, x5, x6 => if x6 < (x0.length : Int) then (if x6 > 0 then (if x5.length + x1.size < 140737488355328 then ((some (x5 ++ bytesOf x1 : List Int)).bind fun y329 => (if 0 ≤ x6 then (if y329.length + (rdOf ByteArray.empty x0 x6).size < 140737488355328 then (spec_Join.l0 k x0 x1 (y329 ++ bytesOf (rdOf ByteArray.empty x0 x6)) (wrap64 (x6 + 1))) else (none)) else (none))) else (none)) else (if 0 ≤ x6 then (if x5.length + (rdOf ByteArray.empty x0 x6).size < 140737488355328 then (spec_Join.l0 k x0 x1 (x5 ++ bytesOf (rdOf ByteArray.empty x0 x6)) (wrap64 (x6 + 1))) else (none)) else (none))) else (some (strOfNums x5))
def spec_Join.f (k : Nat) (l0 : List ByteArray) (a1 : ByteArray) : Option (ByteArray) := spec_Join.l0 k l0 a1 (([] : List Int)) 0
set_option maxHeartbeats 8000000 in
set_option maxRecDepth 100000 in
theorem spec_Join.calls (k : Nat) (A0 : Option Addr) (c0 : Nat) (l0 : List ByteArray) (a1 : ByteArray) (r : ByteArray) (w : World) (hr0 : Kd.C Kd.string w A0 l0.length l0) (hc0 : l0.length ≤ c0) (h : spec_Join.f k l0 a1 = some r) :
  Calls Tryz.prog 60 #[.slice A0 l0.length c0, .string a1] w fun e w' => e = .returned (.string r) ∧ Below w.heap.size w w' := by
 have HR0 := Aside0.mk hr0
 have HC0 := Aside0.mk hc0
 clear hr0 hc0
 have HB := Aside0.mk (Below.refl w.heap.size w)
 have H : (spec_Join.l0 k l0 a1 (([] : List Int)) 0) = some r := h
 clear h
 generalize hy326 : (([] : List Int) : List Int) = y326 at H
 have Ny326 := Aside0.mk hy326.symm; clear hy326
 have H' := Aside0.mk H
 clear H
 go_enter Tryz.func60, Tryz.ntmps60
 go_wp2_with (first | ((with_reducible refine gate_dst (N := 7) rfl ?_); refine Kd.R_lit (Kd.int .u8) _ 5 ?hg (N := 7) ?hd (xs := ([] : List Int)) (inner := []) (ok := fun _ => True) (okp := fun _ => True) ?hr ?hp (fun _ hk => hk) trivial (Below.refl _ _) (Nat.le_refl _) (by simp) ?_; (case hd => rfl); (case hg => rfl); (case hr => exact gS); (case hp => exact (Reps.none _ _)); intro v327 w3 ho4 hb hg_ hnew_; clear hg_ hnew_; (first | rw [← Ny326.out] at ho4 | (simp only [Int.reduceToNat] at ho4; rw [← Ny326.out] at ho4)); have HO328 := Aside0.mk (Kd.R_lower ho4 (below_size tb)); replace HB := Aside0.mk (below_step tb hb); clear hb ho4))
 go_loopg [5, 6] k (fun kq v5 v6 w' => ∃ (x5_1 : List Int) (x6_1 : Int), v6 = .int .i64 x6_1 ∧ Aside0 (spec_Join.l0 kq l0 a1 x5_1 x6_1 = some r) ∧ Aside0 (kq ≤ k) ∧ Aside0 (Kd.R (Kd.int .u8) 5 w' w.heap.size (fun _ => True) v5 x5_1) ∧ Aside0 (Below w.heap.size w w'))
 case atStart => exact ⟨(y326), (0), rS, H', ⟨Nat.le_refl _⟩, ⟨R_l HO328.out⟩, ⟨tb⟩⟩
 case round =>
  clear H'
  try clear p2
  obtain ⟨x5_1, x6_1, rfl, HA, HK1, HO_5, HB⟩ := hrel
  cases gk with
  | zero => exact absurd HA.out (by simp [spec_Join.l0])
  | succ k1 =>
   have H := HA.out
   clear HA
   simp only [spec_Join.l0] at H
   obtain ⟨c5b0, H⟩ | ⟨c5b0, H⟩ := gi H
   ·by_cases c6 : x6_1 > 0
    ·rw [if_pos c6] at H
     have c6b0 : decide (0 < x6_1) = true := decide_eq_true c6
     clear c6
     obtain ⟨LMc7, H⟩ := gda H
     generalize hy329 : (x5_1 ++ bytesOf a1 : List Int) = y329 at H
     have Ny329 := Aside0.mk hy329.symm; clear hy329
     obtain ⟨c8b0, H⟩ := gdt H
     obtain ⟨LMc9, H⟩ := gda H
     generalize hy333 : (y329 ++ bytesOf (rdOf ByteArray.empty l0 x6_1) : List Int) = y333 at H
     have Ny333 := Aside0.mk hy333.symm; clear hy333
     have H' := Aside0.mk H
     clear H
     go_wp2_with (first | (at_builtin; refine print_append_str (w0 := w) w.heap.size rfl (.tmp 16) _ 22 9 5 rfl Tryz.underlying22 Tryz.underlying9 info5 u5 x5_1 a1 rfl rfl ?aO ?aB ?aS ?aL ?_; (case aB => exact tb); (case aO => exact (Kd.own_of_R (R_l HO_5.out))); (case aS => exact (below_size tb)); (case aL => have := LMc7.out; omega); intro v330 w10 ho0 hb hg; have ho := Kd.R_of_own (h1 := fun _ => rfl) (ok := fun _ => True) ho0 (fun _ _ => trivial); clear ho0; have hat := True.intro; rw [← Ny329.out] at ho; change Kd.R (Kd.int .u8) 5 w10 w.heap.size (fun _ => True) v330 y329 at ho; replace HB := Aside0.mk (hb); have HO331 := Aside0.mk (ho); clear HO_5; clear ho hb hg hat; have p332 : 0 ≤ (x6_1 : Int) := dT; have q332 : x6_1 < (l0.length : Int) := dT; obtain ⟨ad332, e332, hx332_0⟩ := Kd.at_string HR0.out x6_1 p332 q332; cases e332; replace hx332_0 := cB HB hx332_0; replace p332 := eq_true p332; replace q332 := eq_true q332) | (at_builtin; refine print_append_str (w0 := w) w.heap.size rfl (.tmp 19) _ 22 9 5 rfl Tryz.underlying22 Tryz.underlying9 info5 v330 y329 (rdOf ByteArray.empty l0 x6_1) rfl rfl ?aO ?aB ?aS ?aL ?_; (case aB => exact tb); (case aO => exact (Kd.own_of_R (R_l HO331.out))); (case aS => exact (below_size tb)); (case aL => have := LMc9.out; omega); intro v334 w11 ho0 hb hg; have ho := Kd.R_of_own (h1 := fun _ => rfl) (ok := fun _ => True) ho0 (fun _ _ => trivial); clear ho0; have hat := True.intro; rw [← Ny333.out] at ho; change Kd.R (Kd.int .u8) 5 w11 w.heap.size (fun _ => True) v334 y333 at ho; replace HB := Aside0.mk (hb); have HO335 := Aside0.mk (ho); clear HO331; clear ho hb hg hat))
     go_roundg k1
     case measure => exact oK
     case rel => exact ⟨(y333), (wrap64 (x6_1 + 1)), rS, H', ⟨oK⟩, ⟨R_l HO335.out⟩, ⟨tb⟩⟩
    ·rw [if_neg c6] at H
     have c6b0 : decide (0 < x6_1) = false := decide_eq_false c6
     clear c6
     obtain ⟨c12b0, H⟩ := gdt H
     obtain ⟨LMc13, H⟩ := gda H
     generalize hy337 : (x5_1 ++ bytesOf (rdOf ByteArray.empty l0 x6_1) : List Int) = y337 at H
     have Ny337 := Aside0.mk hy337.symm; clear hy337
     have H' := Aside0.mk H
     clear H
     have p336 : 0 ≤ (x6_1 : Int) := dT
     have q336 : x6_1 < (l0.length : Int) := dT
     obtain ⟨ad336, e336, hx336_0⟩ := Kd.at_string HR0.out x6_1 p336 q336
     cases e336
     replace hx336_0 := cB HB hx336_0
     replace p336 := eq_true p336
     replace q336 := eq_true q336
     go_wp2_with (first | (at_builtin; refine print_append_str (w0 := w) w.heap.size rfl (.tmp 19) _ 22 9 5 rfl Tryz.underlying22 Tryz.underlying9 info5 u5 x5_1 (rdOf ByteArray.empty l0 x6_1) rfl rfl ?aO ?aB ?aS ?aL ?_; (case aB => exact tb); (case aO => exact (Kd.own_of_R (R_l HO_5.out))); (case aS => exact (below_size tb)); (case aL => have := LMc13.out; omega); intro v338 w14 ho0 hb hg; have ho := Kd.R_of_own (h1 := fun _ => rfl) (ok := fun _ => True) ho0 (fun _ _ => trivial); clear ho0; have hat := True.intro; rw [← Ny337.out] at ho; change Kd.R (Kd.int .u8) 5 w14 w.heap.size (fun _ => True) v338 y337 at ho; replace HB := Aside0.mk (hb); have HO339 := Aside0.mk (ho); clear HO_5; clear ho hb hg hat))
     go_roundg k1
     case measure => exact oK
     case rel => exact ⟨(y337), (wrap64 (x6_1 + 1)), rS, H', ⟨oK⟩, ⟨R_l HO339.out⟩, ⟨tb⟩⟩
   ·obtain rfl := Option.some.inj H
    have hcv15 := own_string (P := Tryz.prog) Tryz.underlying22 Tryz.underlying5 Tryz.underlying9 (Kd.own_of_R HO_5.out)
    go_wp2
    go_ret
    exact ⟨rE, tb⟩

/-! ### spec_GraphText: function 33 -/
def spec_GraphText.l0 : Nat → List (List Int) → List ByteArray → Int → Option (ByteArray)
 | 0, _, _, _ => none
 | k + 1, x0, x3, x4 => if x4 < (x0.length : Int) then (if 0 ≤ x4 then (if 0 < ((rd_L2 x0 x4).length : Int) then ((spec_FormatInt.f k (rd (rd_L2 x0 x4) 0)).bind fun t346 => (if 1 < ((rd_L2 x0 x4).length : Int) then ((spec_FormatInt.f k (rd (rd_L2 x0 x4) 1)).bind fun t349 => (if t346.size + t349.size ≤ 9223372036854775807 then (if x3.length < 8796093022208 then (spec_GraphText.l0 k x0 (x3 ++ [t346 ++ t349]) (wrap64 (x4 + 1))) else (none)) else (none))) else (none))) else (none)) else (none)) else ((spec_Join.f k x3 (⟨#[32]⟩ : ByteArray)).bind fun t353 => (some t353))
def spec_GraphText.f (k : Nat) (l0 : List (List Int)) : Option (ByteArray) := (spec_IsGraph.f k l0).bind fun t340 => (if t340 = true then (spec_GraphText.l0 k l0 (([] : List ByteArray)) 0) else (some (⟨#[]⟩ : ByteArray)))
def spec_GraphText.T7 : Bool × List (List Nat × List Nat) := (true, [([], []), ([], []), ([], []), ([1, 2], [1, 2]), ([3], [3]), ([4], [4]), ([5], [5]), ([6], [6]), ([], []), ([], []), ([8, 9], [8, 9]), ([10], [10]), ([11], [11]), ([12], [12]), ([13, 7], [13]), ([7, 14], [7, 14]), ([15], [15]), ([0, 16, 14], [0, 16]), ([17, 17, 0, 1, 2, 3, 4, 5, 6, 7, 8, 9, 10, 11, 12, 13, 14, 15, 16, 17], [0, 17])])
def spec_GraphText.B7 : List Nat := [0, 0, 0, 6, 14, 30, 62, 126, 0, 0, 768, 1792, 3840, 7936, 16382, 32766, 65534, 131071, 262143]
theorem spec_GraphText.tab7 : rtab .any (opsOf Tryz.f33 7) = spec_GraphText.T7 := by kernel_rfl
theorem spec_GraphText.bits7 : waitsOk spec_GraphText.T7.2 spec_GraphText.B7 = true := by kernel_rfl
set_option maxHeartbeats 8000000 in
set_option maxRecDepth 100000 in
theorem spec_GraphText.calls (k : Nat) (A0 : Option Addr) (c0 : Nat) (l0 : List (List Int)) (r : ByteArray) (w : World) (hr0 : Kd.C (Kd.slice 3 (Kd.int .i64)) w A0 l0.length l0) (hc0 : l0.length ≤ c0) (h : spec_GraphText.f k l0 = some r) :
  Calls Tryz.prog 33 #[.slice A0 l0.length c0] w fun e w' => e = .returned (.string r) ∧ Below w.heap.size w w' := by
 have HR0 := Aside0.mk hr0
 have HC0 := Aside0.mk hc0
 clear hr0 hc0
 have HB := Aside0.mk (Below.refl w.heap.size w)
 have H : ((spec_IsGraph.f k l0).bind fun t340 => (if t340 = true then (spec_GraphText.l0 k l0 (([] : List ByteArray)) 0) else (some (⟨#[]⟩ : ByteArray)))) = some r := h
 clear h
 obtain ⟨t340, A2, H⟩ := bs H
 by_cases c3 : t340 = true
 ·subst c3
  rw [if_pos rfl] at H
  generalize hy341 : (([] : List ByteArray) : List ByteArray) = y341 at H
  have Ny341 := Aside0.mk hy341.symm; clear hy341
  have H' := Aside0.mk H
  clear H
  go_enter Tryz.func33, Tryz.ntmps33
  go_wp2_with (first | ((with_reducible refine gate_callee (f := 25) rfl ?_); refine goesL_ (some 6) rfl rfl Tryz.func25 (by kernel_rfl) rfl #[.slice A0 l0.length c0] rfl mp_ ?_; (with_reducible refine (spec_IsGraph.calls k _ _ l0 true _ ?side1 ?side2 A2.out).mono ?_); (case side1 => exact C_l HR0.out); (case side2 => exact HC0.out); rintro e w4 ⟨rfl, hb⟩; refine ⟨_, rfl, ?_⟩; replace HB := Aside0.mk (below_step tb hb)) | ((with_reducible refine gate_dst (N := 8) rfl ?_); refine Kd.R_lit Kd.string _ 9 ?hg (N := 8) ?hd (xs := ([] : List ByteArray)) (inner := []) (ok := fun _ => True) (okp := fun _ => True) ?hr ?hp (fun _ hk => hk) trivial (Below.refl _ _) (Nat.le_refl _) (by simp) ?_; (case hd => rfl); (case hg => rfl); (case hr => exact gS); (case hp => exact (Reps.none _ _)); intro v342 w5 ho6 hb hg_ hnew_; clear hg_ hnew_; (first | rw [← Ny341.out] at ho6 | (simp only [Int.reduceToNat] at ho6; rw [← Ny341.out] at ho6)); have HO343 := Aside0.mk (Kd.R_lower ho6 (below_size tb)); replace HB := Aside0.mk (below_step tb hb); clear hb ho6))
  go_loopg [3, 4] k (fun kq v3 v4 w' => ∃ (x3_1 : List ByteArray) (x4_1 : Int), v4 = .int .i64 x4_1 ∧ Aside0 (spec_GraphText.l0 kq l0 x3_1 x4_1 = some r) ∧ Aside0 (kq ≤ k) ∧ Aside0 (Kd.R Kd.string 9 w' w.heap.size (fun _ => True) v3 x3_1) ∧ Aside0 (Below w.heap.size w w'))
  case atStart => exact ⟨(y341), (0), rS, H', ⟨Nat.le_refl _⟩, ⟨R_l HO343.out⟩, ⟨tb⟩⟩
  case round =>
   clear H'
   try clear c2
   try clear p2
   try clear c3
   obtain ⟨x3_1, x4_1, rfl, HA, HK1, HO_3, HB⟩ := hrel
   cases gk with
   | zero => exact absurd HA.out (by simp [spec_GraphText.l0])
   | succ k1 =>
    have H := HA.out
    clear HA
    simp only [spec_GraphText.l0] at H
    obtain ⟨c7b0, H⟩ | ⟨c7b0, H⟩ := gi H
    ·obtain ⟨c8b0, H⟩ := gdt H
     obtain ⟨c9, H⟩ := gd H
     have c9b0 : decide (0 < ((rd_L2 l0 x4_1).length : Int)) = true := decide_eq_true c9
     have c9b1 : decide (0 < (rd_L2 l0 x4_1).length) = true := decide_eq_true (by omega)
     clear c9
     obtain ⟨t346, A10, H⟩ := bs H
     obtain ⟨c11, H⟩ := gd H
     have c11b0 : decide (1 < ((rd_L2 l0 x4_1).length : Int)) = true := decide_eq_true c11
     have c11b1 : decide (1 < (rd_L2 l0 x4_1).length) = true := decide_eq_true (by omega)
     clear c11
     obtain ⟨t349, A12, H⟩ := bs H
     obtain ⟨c13, H⟩ := gd H
     have c13b0 := eq_true c13
     have c13b1 : decide (t346.size + t349.size ≤ 9223372036854775807) = true := decide_eq_true c13
     try have c13b2 : (9223372036854775807 < t346.size + t349.size) = False := eq_false (Nat.not_lt.2 c13)
     obtain ⟨LMc14, H⟩ := gda H
     generalize hy350 : (x3_1 ++ [t346 ++ t349] : List ByteArray) = y350 at H
     have Ny350 := Aside0.mk hy350.symm; clear hy350
     have H' := Aside0.mk H
     clear H
     try go_wp2
     replace HO_3 := Aside0.mk (Kd.R_drew HO_3.out); replace HB := Aside0.mk (below_drew1 HB.out)
     have p344 : 0 ≤ (x4_1 : Int) := dT
     have q344 : x4_1 < (l0.length : Int) := dT
     obtain ⟨ad344, A344_0, c344_0, e344, hx344_0, hl344_0, hi344_0⟩ := at_L2 HR0.out x4_1 p344 q344
     have hw344_0 := hx344_0
     cases e344
     replace hx344_0 := cB HB hx344_0
     have HR344_0 := Aside0.mk hi344_0
     have HC344_0 := Aside0.mk hl344_0
     clear hi344_0 hl344_0
     replace p344 := eq_true p344
     replace q344 := eq_true q344
     have p345 : 0 ≤ (0 : Int) := (by omega)
     have q345 : 0 < ((rd_L2 l0 x4_1).length : Int) := dT
     obtain ⟨ad345, e345, hx345_0⟩ := Kd.at_int HR344_0.out 0 p345 q345
     have hw345_0 := hx345_0
     (try rw [show ((0 : Int)).toNat = 0 from rfl] at hw345_0)
     (try rw [show 0 * 1 = 0 from rfl] at hw345_0)
     (try rw [Addr.add_zero'] at hw345_0)
     cases e345
     have qi345 : (0 < (rd_L2 l0 x4_1).length) = True := eq_true (by omega)
     (try rw [show ((0 : Int)).toNat = 0 from rfl] at hx345_0)
     (try rw [Addr.add_zero'] at hx345_0)
     replace hx345_0 := cB HB hx345_0
     replace p345 := eq_true p345
     replace q345 := eq_true q345
     have p347 : 0 ≤ (x4_1 : Int) := dT
     have q347 : x4_1 < (l0.length : Int) := dT
     obtain ⟨ad347, A347_0, c347_0, e347, hx347_0, hl347_0, hi347_0⟩ := at_L2 HR0.out x4_1 p347 q347
     have hw347_0 := hx347_0
     obtain rfl : ad344 = ad347 := (by injection e347)
     replace hx347_0 := cB HB hx347_0
     have HR347_0 := Aside0.mk hi347_0
     have HC347_0 := Aside0.mk hl347_0
     clear hi347_0 hl347_0
     replace p347 := eq_true p347
     replace q347 := eq_true q347
     have ea_ := Option.some.inj (hx344_0.symm.trans hx347_0)
     injection ea_ with ea_ en_ ec_
     subst ea_
     subst ec_
     clear en_
     have p348 : 0 ≤ (1 : Int) := (by omega)
     have q348 : 1 < ((rd_L2 l0 x4_1).length : Int) := dT
     obtain ⟨ad348, e348, hx348_0⟩ := Kd.at_int HR347_0.out 1 p348 q348
     have hw348_0 := hx348_0
     (try rw [show ((1 : Int)).toNat = 1 from rfl] at hw348_0)
     (try rw [show 1 * 1 = 1 from rfl] at hw348_0)
     (try simp only [Nat.reduceMul, Nat.reduceEqDiff, Go.Addr.add, ↓reduceIte] at hw348_0)
     cases e348
     (try simp only [show (1 : Int).toNat = 1 from rfl, Nat.reduceMul, Nat.reduceEqDiff, Go.Addr.add, ↓reduceIte] at hx348_0)
     have qi348 : (1 < (rd_L2 l0 x4_1).length) = True := eq_true (by omega)
     (try rw [show ((1 : Int)).toNat = 1 from rfl] at hx348_0)
     replace hx348_0 := cB HB hx348_0
     replace p348 := eq_true p348
     replace q348 := eq_true q348
     refine start_ (n := 19) (S := fun w' => w'.cell? (ad344.add (x4_1).toNat) = some (.slice (some ad345) (rd_L2 l0 x4_1).length c344_0) ∧ w'.cell? ad345 = some (.int .i64 (rd (rd_L2 l0 x4_1) 0)) ∧ w'.cell? (ad344.add (x4_1).toNat) = some (.slice (some ad345) (rd_L2 l0 x4_1).length c344_0) ∧ w'.cell? ⟨ad345.block, ad345.off + 1, none⟩ = some (.int .i64 (rd (rd_L2 l0 x4_1) 1))) (ds := []) #[false, false, false, false, false, false, false, false, false, false, false, false, false, false, false, false, false, false, false] (by kernel_rfl) rfl rfl ⟨((HB.out.cell (World.block_lt_of_cell? w _ hw344_0)).trans hw344_0), ((HB.out.cell (World.block_lt_of_cell? w _ hw345_0)).trans hw345_0), ((HB.out.cell (World.block_lt_of_cell? w _ hw347_0)).trans hw347_0), ((HB.out.cell (World.block_lt_of_cell? w _ hw348_0)).trans hw348_0)⟩ (fun hHeld => ?_); refine with_tabW spec_GraphText.tab7 spec_GraphText.bits7 (fun HT_ HW_ => ?_)
     generalize wr.drew = w15 at HO_3 HB HR344_0 HR347_0 hx344_0 hx345_0 hx347_0 hx348_0 hHeld ⊢
     refine pu_ 0 (some 15) ?_
     refine pu_ 1 (some 16) ?_
     refine pu_ 2 (some 17) ?_
     refine pu_ 3 (some 18) ?_
     refine pu_ 8 (some 23) ?_
     refine pu_ 9 (some 24) ?_
     refine pu_ 10 (some 25) ?_
     refine take_ (i := 4) (N := some 19) (v := ?_) (a' := ?_) #[true, true, true, true, true, false, false, false, true, true, true, false, false, false, false, false, false, false, false] rfl rfl (take_ofW HT_.out HW_.out (by kernel_rfl)) (fun _ _ _ h => h) (Or.inl ⟨by rfl, ?_⟩) hHeld ?_ ?_
     rotate_left
     ·rintro w' ⟨s0, s1, s2, s3⟩
      go_simp
      with_reducible rfl
     rotate_left
     ·simp only [Act.put, List.setIfInBounds_toArray, List.set_cons_zero, List.set_cons_succ, i64_w, i32_w]
      rfl
     refine pu_ 5 (some 20) ?_
     refine take_ (i := 6) (N := some 21) (v := ?_) (a' := ?_) #[true, true, true, true, true, true, true, false, true, true, true, false, false, false, false, false, false, false, false] rfl rfl (take_ofW HT_.out HW_.out (by kernel_rfl)) (fun _ _ _ h => h) (Or.inl ⟨by rfl, ?_⟩) hHeld ?_ ?_
     rotate_left
     ·rintro w' ⟨s0, s1, s2, s3⟩
      go_simp
      with_reducible rfl
     rotate_left
     ·simp only [Act.put, List.setIfInBounds_toArray, List.set_cons_zero, List.set_cons_succ, i64_w, i32_w]
      rfl
     refine take_ (i := 11) (N := some 26) (v := ?_) (a' := ?_) #[true, true, true, true, true, true, true, false, true, true, true, true, false, false, false, false, false, false, false] rfl rfl (take_ofW HT_.out HW_.out (by kernel_rfl)) (fun _ _ _ h => h) (Or.inl ⟨by rfl, ?_⟩) hHeld ?_ ?_
     rotate_left
     ·rintro w' ⟨s0, s1, s2, s3⟩
      go_simp
      with_reducible rfl
     rotate_left
     ·simp only [Act.put, List.setIfInBounds_toArray, List.set_cons_zero, List.set_cons_succ, i64_w, i32_w]
      rfl
     refine pu_ 12 (some 27) ?_
     refine take_ (i := 13) (N := some 28) (v := ?_) (a' := ?_) #[true, true, true, true, true, true, true, false, true, true, true, true, true, true, false, false, false, false, false] rfl rfl (take_ofW HT_.out HW_.out (by kernel_rfl)) (fun _ _ _ h => h) (Or.inl ⟨by rfl, ?_⟩) hHeld ?_ ?_
     rotate_left
     ·rintro w' ⟨s0, s1, s2, s3⟩
      go_simp
      with_reducible rfl
     rotate_left
     ·simp only [Act.put, List.setIfInBounds_toArray, List.set_cons_zero, List.set_cons_succ, i64_w, i32_w]
      rfl
     refine one_ (i := 7) (N := some 22) #[true, true, true, true, true, true, true, true, true, true, true, true, true, true, false, false, false, false, false] rfl rfl (one_of HT_.out (by kernel_rfl)) (by decide) (fun K hK => ?_)
     refine goes_ Tryz.func59 (by kernel_rfl) rfl #[.int .i64 (rd (rd_L2 l0 x4_1) 0)] (by rfl) rfl rfl mp_ ?_
     with_reducible refine (spec_FormatInt.calls k1 (rd (rd_L2 l0 x4_1) 0) t346 _ A10.out).mono ?_
     rintro e w16 ⟨rfl, hb⟩
     refine ⟨_, rfl, ?_⟩
     replace HO_3 := Aside0.mk (rB HO_3.out hb); replace HB := Aside0.mk (below_step tb hb)
     (try clear hb)
     (try clear hb2)
     (try clear hk)
     (try clear hi)
     refine hK.out _ _ ⟨((HB.out.cell (World.block_lt_of_cell? w _ hw344_0)).trans hw344_0), ((HB.out.cell (World.block_lt_of_cell? w _ hw345_0)).trans hw345_0), ((HB.out.cell (World.block_lt_of_cell? w _ hw347_0)).trans hw347_0), ((HB.out.cell (World.block_lt_of_cell? w _ hw348_0)).trans hw348_0)⟩ (fun hHeld => ?_)
     clear hK K
     refine norm_ (a' := ?_) ?_ ?_
     rotate_left
     ·show Act.put _ (some 22) _ = _
      simp only [Act.put, List.setIfInBounds_toArray, List.set_cons_zero, List.set_cons_succ, i64_w, i32_w]
      rfl
     refine one_ (i := 14) (N := some 29) #[true, true, true, true, true, true, true, true, true, true, true, true, true, true, true, false, false, false, false] rfl rfl (one_of HT_.out (by kernel_rfl)) (by decide) (fun K hK => ?_)
     refine goes_ Tryz.func59 (by kernel_rfl) rfl #[.int .i64 (rd (rd_L2 l0 x4_1) 1)] (by rfl) rfl rfl mp_ ?_
     with_reducible refine (spec_FormatInt.calls k1 (rd (rd_L2 l0 x4_1) 1) t349 _ A12.out).mono ?_
     rintro e w17 ⟨rfl, hb⟩
     refine ⟨_, rfl, ?_⟩
     replace HO_3 := Aside0.mk (rB HO_3.out hb); replace HB := Aside0.mk (below_step tb hb)
     (try clear hb)
     (try clear hb2)
     (try clear hk)
     (try clear hi)
     refine hK.out _ _ ⟨((HB.out.cell (World.block_lt_of_cell? w _ hw344_0)).trans hw344_0), ((HB.out.cell (World.block_lt_of_cell? w _ hw345_0)).trans hw345_0), ((HB.out.cell (World.block_lt_of_cell? w _ hw347_0)).trans hw347_0), ((HB.out.cell (World.block_lt_of_cell? w _ hw348_0)).trans hw348_0)⟩ (fun hHeld => ?_)
     clear hK K
     refine norm_ (a' := ?_) ?_ ?_
     rotate_left
     ·show Act.put _ (some 29) _ = _
      simp only [Act.put, List.setIfInBounds_toArray, List.set_cons_zero, List.set_cons_succ, i64_w, i32_w]
      rfl
     refine pu_ 15 (some 30) ?_
     refine one_ (i := 16) (N := some 31) #[true, true, true, true, true, true, true, true, true, true, true, true, true, true, true, true, true, false, false] rfl rfl (one_of HT_.out (by kernel_rfl)) (by decide) (fun K hK => ?_)
     refine value_ (w1 := ?_) (v := ?_) (by rfl) rfl ?_ ?_
     rotate_left 2
     ·go_simp
      constructor
      ·rfl
      ·rfl
     refine hK.out _ _ ⟨(World.cell?_alloc_lt _ _ _ (World.block_lt_of_cell? _ _ (((HB.out.cell (World.block_lt_of_cell? w _ hw344_0)).trans hw344_0)))).trans (((HB.out.cell (World.block_lt_of_cell? w _ hw344_0)).trans hw344_0)), (World.cell?_alloc_lt _ _ _ (World.block_lt_of_cell? _ _ (((HB.out.cell (World.block_lt_of_cell? w _ hw345_0)).trans hw345_0)))).trans (((HB.out.cell (World.block_lt_of_cell? w _ hw345_0)).trans hw345_0)), (World.cell?_alloc_lt _ _ _ (World.block_lt_of_cell? _ _ (((HB.out.cell (World.block_lt_of_cell? w _ hw347_0)).trans hw347_0)))).trans (((HB.out.cell (World.block_lt_of_cell? w _ hw347_0)).trans hw347_0)), (World.cell?_alloc_lt _ _ _ (World.block_lt_of_cell? _ _ (((HB.out.cell (World.block_lt_of_cell? w _ hw348_0)).trans hw348_0)))).trans (((HB.out.cell (World.block_lt_of_cell? w _ hw348_0)).trans hw348_0))⟩ (fun hHeld => ?_)
     clear hK K
     refine norm_ (a' := ?_) ?_ ?_
     rotate_left
     ·show Act.put _ (some 31) _ = _
      simp only [Act.put, List.setIfInBounds_toArray, List.set_cons_zero, List.set_cons_succ, i64_w, i32_w]
      rfl
     refine one_ (i := 17) (N := some 32) #[true, true, true, true, true, true, true, true, true, true, true, true, true, true, true, true, true, true, false] rfl rfl (one_of HT_.out (by kernel_rfl)) (by decide) (fun K hK => ?_)
     refine Kd.R_append_step Kd.string (w0 := w) w.heap.size (by rfl) (.tmp 15) (.tmp 31) 51 9 (.string ⟨#[]⟩) 16 rfl Tryz.underlying51 info9 rfl (by decide) (by omega) u3 x3_1 (t346 ++ t349) [.string (t346 ++ t349)] (fun _ => True) (fun _ => False) rfl rfl ?aP (fun _ hk => hk.elim) ?aF ?aO ?aB ?aS ?aL ?_
     (case aP => exact rfl)
     (case aB => exact tb)
     (case aF => exact (fun _ _ => trivial))
     (case aO => exact (R_l HO_3.out))
     (case aS => exact (below_size tb))
     (case aL => have := LMc14.out; omega)
     intro v351 w18 ho hb hg hat
     rw [← Ny350.out] at ho
     replace HB := Aside0.mk (hb); have HO352 := Aside0.mk (ho); clear HO_3
     clear ho hb hg hat
     refine hK.out _ _ ⟨((HB.out.cell (World.block_lt_of_cell? w _ hw344_0)).trans hw344_0), ((HB.out.cell (World.block_lt_of_cell? w _ hw345_0)).trans hw345_0), ((HB.out.cell (World.block_lt_of_cell? w _ hw347_0)).trans hw347_0), ((HB.out.cell (World.block_lt_of_cell? w _ hw348_0)).trans hw348_0)⟩ (fun hHeld => ?_)
     clear hK K
     refine norm_ (a' := ?_) ?_ ?_
     rotate_left
     ·show Act.put _ (some 32) _ = _
      simp only [Act.put, List.setIfInBounds_toArray, List.set_cons_zero, List.set_cons_succ, i64_w, i32_w]
      rfl
     refine pu_ 18 (some 3) ?_
     refine done_ (done_of HT_.out (by kernel_rfl)) ?_
     try go_wp2
     go_roundg k1
     case measure => exact oK
     case rel => exact ⟨(y350), (wrap64 (x4_1 + 1)), rS, H', ⟨oK⟩, ⟨R_l HO352.out⟩, ⟨tb⟩⟩
    ·obtain ⟨t353, A19, H⟩ := bs H
     obtain rfl := Option.some.inj H
     obtain ⟨Ao20, co20, eo20⟩ := Kd.R_slice HO_3.out
     subst eo20
     go_wp2_with (first | ((with_reducible refine gate_callee (f := 60) rfl ?_); refine goesL_ (some 34) rfl rfl Tryz.func60 (by kernel_rfl) rfl #[.slice Ao20 x3_1.length co20, .string (⟨#[32]⟩ : ByteArray)] rfl mp_ ?_; (with_reducible refine (spec_Join.calls k1 _ _ x3_1 (⟨#[32]⟩ : ByteArray) t353 _ ?side1 ?side2 A19.out).mono ?_); (case side1 => exact C_l ((Kd.R_reads' HO_3.out).2.2)); (case side2 => exact (Kd.R_reads' HO_3.out).2.1); rintro e w21 ⟨rfl, hb⟩; refine ⟨_, rfl, ?_⟩; replace HO_3 := Aside0.mk (rB HO_3.out hb); replace HB := Aside0.mk (below_step tb hb)))
     go_ret
     exact ⟨rE, tb⟩
 ·replace c3 := Bool.eq_false_iff.mpr c3
  subst c3
  rw [if_neg (show ¬ (false = true) by decide)] at H
  obtain rfl := Option.some.inj H
  go_enter Tryz.func33, Tryz.ntmps33
  go_wp2_with (first | ((with_reducible refine gate_callee (f := 25) rfl ?_); refine goesL_ (some 6) rfl rfl Tryz.func25 (by kernel_rfl) rfl #[.slice A0 l0.length c0] rfl mp_ ?_; (with_reducible refine (spec_IsGraph.calls k _ _ l0 false _ ?side1 ?side2 A2.out).mono ?_); (case side1 => exact C_l HR0.out); (case side2 => exact HC0.out); rintro e w22 ⟨rfl, hb⟩; refine ⟨_, rfl, ?_⟩; replace HB := Aside0.mk (below_step tb hb)))
  go_ret
  exact ⟨rE, tb⟩

/-! ### spec_l1Pick: function 71 -/
def spec_l1Pick.f (s0_0 : List Int) (s0_1 : Int) (s0_2 : Int) (l1 : List ByteArray) : Option (ByteArray × Int × Int) := (spec_l1Below.f s0_0 s0_1 s0_2 (l1.length : Int)).bind fun bt354 => (if 0 ≤ bt354.1 then (if bt354.1 < (l1.length : Int) then (some (rdOf ByteArray.empty l1 bt354.1, bt354.2.1, bt354.2.2)) else (none)) else (none))
set_option maxHeartbeats 8000000 in
set_option maxRecDepth 100000 in
theorem spec_l1Pick.calls (g : Nat) (s0_0 : List Int) (s0_1 : Int) (s0_2 : Int) (A1 : Option Addr) (c1 : Nat) (l1 : List ByteArray) (r1 : ByteArray) (r2 : Int) (r3 : Int) (w0 w : World) (hI : IsS64 w0 w g s0_0 s0_1 s0_2) (hB : Below w0.heap.size w0 w) (hr1 : Kd.C Kd.string w A1 l1.length l1) (hc1 : l1.length ≤ c1) (hf1 : ∀ ad, A1 = some ad → 0 < l1.length → ad.block ≠ g) (h : spec_l1Pick.f s0_0 s0_1 s0_2 l1 = some (r1, r2, r3)) :
  Calls Tryz.prog 71 #[.pointer (some ⟨g, 0, none⟩), .slice A1 l1.length c1] w fun e w' => e = .returned (.string r1) ∧ IsS64 w0 w' g s0_0 r2 r3 ∧ Below w0.heap.size w0 w' ∧ KeepBut w w' g none := by
 have HR1 := Aside0.mk hr1
 have HC1 := Aside0.mk hc1
 clear hr1 hc1
 have HI0 := Aside0.mk hI
 have HK := Aside0.mk (KeepBut.refl w g none)
 have HL := Aside0.mk hB.size
 clear hI
 have HW0 := Aside0.mk hB.size
 have HB := Aside0.mk hB
 clear hB
 have H : ((spec_l1Below.f s0_0 s0_1 s0_2 (l1.length : Int)).bind fun bt354 => (if 0 ≤ bt354.1 then (if bt354.1 < (l1.length : Int) then (some (rdOf ByteArray.empty l1 bt354.1, bt354.2.1, bt354.2.2)) else (none)) else (none))) = some (r1, r2, r3) := h
 clear h
 obtain ⟨⟨t354, t355, t356⟩, A3, H⟩ := bs H
 try dsimp only at H
 by_cases c4 : 0 ≤ t354
 ·rw [if_pos c4] at H
  have c4b0 : decide (0 ≤ t354) = true := decide_eq_true c4
  clear c4
  obtain ⟨c5b0, H⟩ := gdt H
  simp only [Option.some.injEq, Prod.mk.injEq] at H
  obtain ⟨rfl, rfl, rfl⟩ := H
  go_enter Tryz.func71, Tryz.ntmps71
  go_wp2_with (first | ((with_reducible refine gate_callee (f := 48) rfl ?_); refine goesL_ (some 9) rfl rfl Tryz.func48 (by kernel_rfl) rfl #[.pointer (some ⟨g, 0, none⟩), .int .i64 (l1.length : Int)] rfl mp_ ?_; (with_reducible refine (spec_l1Below.calls g s0_0 s0_1 s0_2 (l1.length : Int) t354 t355 t356 w0 _ ?side1 ?side2 A3.out).mono ?_); (case side1 => exact tI); (case side2 => exact tB); rintro e w6 ⟨rfl, hi, hb, hk⟩; refine ⟨_, rfl, ?_⟩; replace HK := Aside0.mk (KeepBut.trans tK hk (.inl rfl)); replace HB := Aside0.mk (hb); replace HI0 := Aside0.mk (hi); have p357 : 0 ≤ (t354 : Int) := dT; have q357 : t354 < (l1.length : Int) := dT; obtain ⟨ad357, e357, hx357_0⟩ := Kd.at_string HR1.out t354 p357 q357; cases e357; replace hx357_0 := keep_cell HK.out hx357_0 (by first | (rw [add_block]; exact hf1 _ rfl (by omega)) | exact hf1 _ rfl (by omega) | exact hf1 ad357 rfl (by omega)); replace p357 := eq_true p357; replace q357 := eq_true q357))
  go_ret
  exact ⟨rE, tI, tB, tK⟩
 ·rw [if_neg c4] at H
  exact absurd H (by simp)

end Go.Proofs.YtafpbabiahjjaaaGreatDoor.PFnGraphs
