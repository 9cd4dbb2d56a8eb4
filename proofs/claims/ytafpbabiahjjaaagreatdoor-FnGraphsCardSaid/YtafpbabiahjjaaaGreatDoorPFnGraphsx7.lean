-- written by a copy of the print that takes contracts by hand (stubprint.py)
import Derived.Test.YtafpbabiahjjaaaGreatDoorWSpanB
import Derived.Test.YtafpbabiahjjaaaGreatDoorPFnGraphsx0
import Derived.Test.YtafpbabiahjjaaaGreatDoorPFnGraphsx4
namespace Go.Proofs.YtafpbabiahjjaaaGreatDoor.PFnGraphs
open Go.RowKit Go.Proofs.YtafpbabiahjjaaaGreatDoorW.PrintWords Go.Proofs.YtafpbabiahjjaaaGreatDoorW.PrintLast Go.Proofs.YtafpbabiahjjaaaGreatDoorW.PrintMore
attribute [local go_sem] max2_int min2_int max_two min_two max_three min_three max_four min_four   -- for this text's walks alone
set_option linter.unusedVariables false
set_option linter.unusedSimpArgs false

/-! ### impl_isPermutation: function 79 -/
def impl_isPermutation.l0 : Nat → List Int → List Bool → List Int → Int → Int → Option (Bool)
  | 0, _, _, _, _, _ => none
  | k + 1, x0, x3, x9, x10, x11 => if x11 < x10 then (if 0 ≤ x11 then (if x11 < (x9.length : Int) then ((impl_within.f (rd x9 x11) 0 (wrap64 ((x0.length : Int) - 1))).bind fun t267 => (if t267 = true then (if 0 ≤ (rd x9 x11) then (if (rd x9 x11) < (x3.length : Int) then (if rdOf false x3 (rd x9 x11) = true then (some false) else (impl_isPermutation.l0 k x0 (x3.set ((rd x9 x11) : Int).toNat true) x9 x10 (wrap64 (x11 + 1)))) else (none)) else (none)) else (some false))) else (none)) else (none)) else (some true)
def impl_isPermutation.f (k : Nat) (l0 : List Int) : Option (Bool) := if 0 ≤ (l0.length : Int) then (if ((l0.length : Int) : Int).toNat ≤ 281474976710656 then (impl_isPermutation.l0 k l0 (List.replicate ((l0.length : Int) : Int).toNat false) l0 (l0.length : Int) 0) else (none)) else (none)
set_option maxHeartbeats 8000000 in
set_option maxRecDepth 100000 in
theorem impl_isPermutation.calls (k : Nat) (A0 : Option Addr) (c0 : Nat) (l0 : List Int) (r : Bool) (w : World) (hr0 : Kd.C (Kd.int .i64) w A0 l0.length l0) (hc0 : l0.length ≤ c0) (h : impl_isPermutation.f k l0 = some r) :
    Calls Tryz.prog 79 #[.slice A0 l0.length c0] w fun e w' => e = .returned (.bool r) ∧ Below w.heap.size w w' := by
  have HR0 := Aside0.mk hr0
  have HC0 := Aside0.mk hc0
  clear hr0 hc0
  have HB := Aside0.mk (Below.refl w.heap.size w)
  have H : (if 0 ≤ (l0.length : Int) then (if ((l0.length : Int) : Int).toNat ≤ 281474976710656 then (impl_isPermutation.l0 k l0 (List.replicate ((l0.length : Int) : Int).toNat false) l0 (l0.length : Int) 0) else (none)) else (none)) = some r := h
  clear h
  by_cases c2 : 0 ≤ (l0.length : Int)
  · rw [if_pos c2] at H
    have c2b0 := eq_true c2
    have c2b1 : decide (0 ≤ (l0.length : Int)) = true := decide_eq_true c2
    clear c2
    obtain ⟨c3, H⟩ := gd H
    have c3b0 := eq_true c3
    have c3b1 : decide (((l0.length : Int) : Int).toNat ≤ 281474976710656) = true := decide_eq_true c3
    clear c3
    generalize hy263 : (List.replicate ((l0.length : Int) : Int).toNat false : List Bool) = y263 at H
    have Ny263 := Aside0.mk hy263.symm; clear hy263
    have H' := Aside0.mk H
    clear H
    go_enter Tryz.func79, Tryz.ntmps79
    go_wp2_with (first | ((with_reducible refine gate_dst (N := 8) rfl ?_); refine Kd.R_make Kd.bool _ 4 rfl (N := 8) rfl 68 _ _ rfl (l0.length : Int) rfl rfl Tryz.underlying68 (.bool false) 1 info4 rfl (by decide) (by omega) false (ok := fun _ => True) (okp := fun _ => True) rfl (fun _ hk => hk) trivial dT (Nat.le_trans (Nat.mul_le_mul_right _ (dT : (l0.length : Int).toNat ≤ 281474976710656)) (by omega)) (Below.refl _ _) (Nat.le_refl _) ?_; intro v264 w4 ho5 hb hg_ hnew_; clear hg_ hnew_; (first | rw [← Ny263.out] at ho5 | (simp only [Int.reduceToNat] at ho5; rw [← Ny263.out] at ho5)); have HO265 := Aside0.mk (Kd.R_lower ho5 (below_size tb)); replace HB := Aside0.mk (below_step tb hb); clear hb ho5))
    go_loopg [11] k (fun kq v11 w' => ∃ (x3_1 : List Bool) (x11_1 : Int), v11 = .int .i64 x11_1 ∧ Aside0 (impl_isPermutation.l0 kq l0 x3_1 l0 (l0.length : Int) x11_1 = some r) ∧ Aside0 (kq ≤ k) ∧ Aside0 (Kd.R Kd.bool 4 w' w.heap.size (fun _ => True) v264 x3_1) ∧ Aside0 (Below w.heap.size w w'))
    case atStart => exact ⟨(y263), (0), rS, H', ⟨Nat.le_refl _⟩, ⟨R_l HO265.out⟩, ⟨tb⟩⟩
    case round =>
      clear H'
      try clear c2
      try clear c2b0
      try clear c2b1
      try clear p2
      try clear c3
      try clear c3b0
      try clear c3b1
      obtain ⟨x3_1, x11_1, rfl, HA, HK1, HO_3, HB⟩ := hrel
      cases gk with
      | zero => exact absurd HA.out (by simp [impl_isPermutation.l0])
      | succ k1 =>
        have H := HA.out
        clear HA
        simp only [impl_isPermutation.l0] at H
        obtain ⟨c6b0, H⟩ | ⟨c6b0, H⟩ := gi H
        · obtain ⟨c7b0, H⟩ := gdt H
          obtain ⟨c8b0, H⟩ := gdt H
          obtain ⟨t267, A9, H⟩ := bs H
          by_cases c10 : t267 = true
          · subst c10
            rw [if_pos rfl] at H
            obtain ⟨c11b0, H⟩ := gdt H
            obtain ⟨c12b0, H⟩ := gdt H
            obtain ⟨bq13, hbq13⟩ : ∃ b_ : Bool, b_ = (rdOf false x3_1 (rd l0 x11_1)) := ⟨_, rfl⟩
            replace H : (if bq13 = true then (some false) else (impl_isPermutation.l0 k1 l0 (x3_1.set ((rd l0 x11_1) : Int).toNat true) l0 (l0.length : Int) (wrap64 (x11_1 + 1)))) = some r := by rw [← hbq13] at H; exact H
            have Nbq13 := Aside0.mk hbq13
            clear hbq13
            by_cases c14 : bq13 = true
            · subst c14
              rw [if_pos rfl] at H
              obtain rfl := Option.some.inj H
              have p266 : 0 ≤ (x11_1 : Int) := dT
              have q266 : x11_1 < (l0.length : Int) := dT
              obtain ⟨ad266, e266, hx266_0⟩ := Kd.at_int HR0.out x11_1 p266 q266
              cases e266
              replace hx266_0 := cB HB hx266_0
              replace p266 := eq_true p266
              replace q266 := eq_true q266
              go_wp2_with (first | ((with_reducible refine gate_callee (f := 53) rfl ?_); refine goesL_ (some 19) rfl rfl Tryz.func53 (by kernel_rfl) rfl #[.int .i64 (rd l0 x11_1), .int .i64 0, .int .i64 (wrap64 ((l0.length : Int) - 1))] rfl mp_ ?_; (with_reducible refine (impl_within.calls (rd l0 x11_1) 0 (wrap64 ((l0.length : Int) - 1)) true _ A9.out).mono ?_); rintro e w' ⟨rfl, ⟨nd, rfl⟩⟩; refine ⟨_, rfl, ?_⟩; obtain ⟨Ao15, co15, eo15⟩ := Kd.R_slice HO_3.out; subst eo15; have p268 : 0 ≤ ((rd l0 x11_1) : Int) := dT; have q268 : (rd l0 x11_1) < (x3_1.length : Int) := dT; obtain ⟨ad268, e268, hx268_0⟩ := Kd.at_bool (Kd.R_reads' HO_3.out).2.2 (rd l0 x11_1) p268 q268; (try rw [← Nbq13.out] at hx268_0); cases e268; replace p268 := eq_true p268; replace q268 := eq_true q268))
              go_ret
              exact ⟨rE, tb⟩
            · replace c14 := Bool.eq_false_iff.mpr c14
              subst c14
              rw [if_neg (show ¬ (false = true) by decide)] at H
              generalize hy269 : (x3_1.set ((rd l0 x11_1) : Int).toNat true : List Bool) = y269 at H
              have Ny269 := Aside0.mk hy269.symm; clear hy269
              have H' := Aside0.mk H
              clear H
              have p266 : 0 ≤ (x11_1 : Int) := dT
              have q266 : x11_1 < (l0.length : Int) := dT
              obtain ⟨ad266, e266, hx266_0⟩ := Kd.at_int HR0.out x11_1 p266 q266
              cases e266
              replace hx266_0 := cB HB hx266_0
              replace p266 := eq_true p266
              replace q266 := eq_true q266
              go_wp2_with (first | ((with_reducible refine gate_callee (f := 53) rfl ?_); refine goesL_ (some 19) rfl rfl Tryz.func53 (by kernel_rfl) rfl #[.int .i64 (rd l0 x11_1), .int .i64 0, .int .i64 (wrap64 ((l0.length : Int) - 1))] rfl mp_ ?_; (with_reducible refine (impl_within.calls (rd l0 x11_1) 0 (wrap64 ((l0.length : Int) - 1)) true _ A9.out).mono ?_); rintro e w' ⟨rfl, ⟨nd, rfl⟩⟩; refine ⟨_, rfl, ?_⟩; (try (rw [drewN_self wr]; generalize hq_ : World.drewN wr _ = wr; have n0_ : Aside0 (Kd.R Kd.bool 4 wr w.heap.size (fun _ => True) v264 x3_1) := ⟨by rw [← hq_]; exact (R_l HO_3.out)⟩; have n1_ : Aside0 (Below w.heap.size w wr) := ⟨by rw [← hq_]; exact tb⟩; clear HO_3 HB hq_; have HO_3 := n0_; have HB := n1_; clear n0_ n1_)); obtain ⟨Ao17, co17, eo17⟩ := Kd.R_slice HO_3.out; subst eo17; have p268 : 0 ≤ ((rd l0 x11_1) : Int) := dT; have q268 : (rd l0 x11_1) < (x3_1.length : Int) := dT; obtain ⟨ad268, e268, hx268_0⟩ := Kd.at_bool (Kd.R_reads' HO_3.out).2.2 (rd l0 x11_1) p268 q268; (try rw [← Nbq13.out] at hx268_0); cases e268; replace p268 := eq_true p268; replace q268 := eq_true q268; have p16 : 0 ≤ ((rd l0 x11_1) : Int) := dT; have q16 : ((rd l0 x11_1) : Int) < ((x3_1.length : Int) : Int) := dT; obtain ⟨go16, co16, eo16, gb16, gl16, cl16, HG16⟩ := Kd.R_form HO_3.out (by omega); (first | cases eo16 | (injection eo16 with ea_ en_ ec_; (first | subst ea_ | (injection ea_ with ea_; subst ea_)); subst ec_; clear en_)); have GB16 := Aside0.mk gb16; have GG16 := Aside0.mk HG16; clear gb16 gl16 HG16; (first | simp only [add_plain] at hx268_0 | skip); obtain ⟨hx16_0, hf16_0⟩ := Kd.R_celln false HO_3.out ((rd l0 x11_1) : Int) p16 q16; replace p16 := eq_true p16; replace q16 := eq_true q16; obtain ⟨hy18_, hz18_⟩ := Kd.R_celln false HO_3.out ((rd l0 x11_1) : Int) dT dT; have HP18 := Kd.R_putg HO_3.out ((rd l0 x11_1) : Int) true) | ((with_reducible refine gate_store (t := 4) (p := 29) rfl ?_); refine store_event (t := 4) (p := 29) (v := ?vo_w19) (w1 := (wr.setCell ⟨go16, ((rd l0 x11_1) : Int).toNat, none⟩ (.bool true))) ?hg ?ho ?hn ?hr ?_; (case ho => rfl); (case hg => rfl); (case hn => rfl); (case hr => exact gS); intro w19 hw; have hg : wr.grownBy w19 (some go16) := (by rw [hw]; exact HP18.2); have hp_ : Kd.R Kd.bool 4 w19 w.heap.size (fun _ => True) (.slice (some ⟨go16, 0, none⟩) x3_1.length co17) y269 := (by rw [hw, Ny269.out]; exact HP18.1); clear HP18; replace HO_3 := Aside0.mk (hp_); replace HB := Aside0.mk ((by rw [hw]; exact below_set (HB.out) GB16.out : Below w.heap.size w w19)); clear hg hw hp_))
              go_roundg k1
              case measure => exact oK
              case rel => exact ⟨(y269), (wrap64 (x11_1 + 1)), rS, H', ⟨oK⟩, ⟨R_l HO_3.out⟩, ⟨tb⟩⟩
          · replace c10 := Bool.eq_false_iff.mpr c10
            subst c10
            rw [if_neg (show ¬ (false = true) by decide)] at H
            obtain rfl := Option.some.inj H
            have p266 : 0 ≤ (x11_1 : Int) := dT
            have q266 : x11_1 < (l0.length : Int) := dT
            obtain ⟨ad266, e266, hx266_0⟩ := Kd.at_int HR0.out x11_1 p266 q266
            cases e266
            replace hx266_0 := cB HB hx266_0
            replace p266 := eq_true p266
            replace q266 := eq_true q266
            go_wp2_with (first | ((with_reducible refine gate_callee (f := 53) rfl ?_); refine goesL_ (some 19) rfl rfl Tryz.func53 (by kernel_rfl) rfl #[.int .i64 (rd l0 x11_1), .int .i64 0, .int .i64 (wrap64 ((l0.length : Int) - 1))] rfl mp_ ?_; (with_reducible refine (impl_within.calls (rd l0 x11_1) 0 (wrap64 ((l0.length : Int) - 1)) false _ A9.out).mono ?_); rintro e w' ⟨rfl, ⟨nd, rfl⟩⟩; refine ⟨_, rfl, ?_⟩))
            go_ret
            exact ⟨rE, tb⟩
        · obtain rfl := Option.some.inj H
          go_wp2
          go_ret
          exact ⟨rE, tb⟩
  · rw [if_neg c2] at H
    exact absurd H (by simp)

/-! ### impl_IsMap: function 65 -/
def impl_IsMap.f (k : Nat) (l0 : List Int) : Option (Bool) := (impl_within.f (l0.length : Int) 2 24).bind fun t270 => (if t270 = true then (if ((l0.length : Int) % 2) = 0 then ((impl_isPermutation.f k l0).bind fun t271 => (some t271)) else (some false)) else (some false))
set_option maxHeartbeats 8000000 in
set_option maxRecDepth 100000 in
theorem impl_IsMap.calls (k : Nat) (A0 : Option Addr) (c0 : Nat) (l0 : List Int) (r : Bool) (w : World) (hr0 : Kd.C (Kd.int .i64) w A0 l0.length l0) (hc0 : l0.length ≤ c0) (h : impl_IsMap.f k l0 = some r) :
    Calls Tryz.prog 65 #[.slice A0 l0.length c0] w fun e w' => e = .returned (.bool r) ∧ Below w.heap.size w w' := by
  have HR0 := Aside0.mk hr0
  have HC0 := Aside0.mk hc0
  clear hr0 hc0
  have HB := Aside0.mk (Below.refl w.heap.size w)
  have H : ((impl_within.f (l0.length : Int) 2 24).bind fun t270 => (if t270 = true then (if ((l0.length : Int) % 2) = 0 then ((impl_isPermutation.f k l0).bind fun t271 => (some t271)) else (some false)) else (some false))) = some r := h
  clear h
  obtain ⟨t270, A2, H⟩ := bs H
  by_cases c3 : t270 = true
  · subst c3
    rw [if_pos rfl] at H
    by_cases c4 : ((l0.length : Int) % 2) = 0
    · rw [if_pos c4] at H
      have c4b0 : (((l0.length : Int) % 2) == 0) = true := beq_iff_eq.mpr c4
      have c4b1 : (((l0.length : Int) % 2) != 0) = false := bne_eq_false_iff_eq.mpr c4
      clear c4
      obtain ⟨t271, A5, H⟩ := bs H
      obtain rfl := Option.some.inj H
      go_enter Tryz.func65, Tryz.ntmps65
      go_wp2_with (first | ((with_reducible refine gate_callee (f := 53) rfl ?_); refine goesL_ (some 5) rfl rfl Tryz.func53 (by kernel_rfl) rfl #[.int .i64 (l0.length : Int), .int .i64 2, .int .i64 24] rfl mp_ ?_; (with_reducible refine (impl_within.calls (l0.length : Int) 2 24 true _ A2.out).mono ?_); rintro e w' ⟨rfl, ⟨nd, rfl⟩⟩; refine ⟨_, rfl, ?_⟩) | (go_at_call 79; (with_reducible refine (impl_isPermutation.calls k _ _ l0 t271 _ ?side1 ?side2 A5.out).mono ?_); (case side1 => exact C_l HR0.out); (case side2 => exact HC0.out); rintro e w6 ⟨rfl, hb⟩; replace HB := Aside0.mk (below_step tb hb)))
      go_ret
      exact ⟨rE, tb⟩
    · rw [if_neg c4] at H
      have c4b0 : (((l0.length : Int) % 2) == 0) = false := beq_eq_false_iff_ne.mpr c4
      have c4b1 : (((l0.length : Int) % 2) != 0) = true := bne_iff_ne.mpr c4
      obtain rfl := Option.some.inj H
      go_enter Tryz.func65, Tryz.ntmps65
      go_wp2_with (first | ((with_reducible refine gate_callee (f := 53) rfl ?_); refine goesL_ (some 5) rfl rfl Tryz.func53 (by kernel_rfl) rfl #[.int .i64 (l0.length : Int), .int .i64 2, .int .i64 24] rfl mp_ ?_; (with_reducible refine (impl_within.calls (l0.length : Int) 2 24 true _ A2.out).mono ?_); rintro e w' ⟨rfl, ⟨nd, rfl⟩⟩; refine ⟨_, rfl, ?_⟩))
      go_ret
      exact ⟨rE, tb⟩
  · replace c3 := Bool.eq_false_iff.mpr c3
    subst c3
    rw [if_neg (show ¬ (false = true) by decide)] at H
    obtain rfl := Option.some.inj H
    go_enter Tryz.func65, Tryz.ntmps65
    go_wp2_with (first | ((with_reducible refine gate_callee (f := 53) rfl ?_); refine goesL_ (some 5) rfl rfl Tryz.func53 (by kernel_rfl) rfl #[.int .i64 (l0.length : Int), .int .i64 2, .int .i64 24] rfl mp_ ?_; (with_reducible refine (impl_within.calls (l0.length : Int) 2 24 false _ A2.out).mono ?_); rintro e w' ⟨rfl, ⟨nd, rfl⟩⟩; refine ⟨_, rfl, ?_⟩))
    go_ret
    exact ⟨rE, tb⟩

-- NOT PRINTED: function 80 (impl_newJoiner)

-- NOT PRINTED: function 91 (impl_joiner_top)

-- NOT PRINTED: function 81 (impl_joiner_join)

-- NOT PRINTED: function 82 (impl_joiner_count)

/-! ### impl_MapParts: function 66 -/
/-- a joiner at block g: its one field is the row v, which reads up -/
structure JB (w : World) (base g : Nat) (v : Value) (up : List Int) : Prop where
  cell : w.heap[g]? = some (.cells #[v] 86 (0, 0))
  ge : base ≤ g
  row : Kd.R (Kd.int .i64) 3 w base (fun k => k ≠ g) v up
theorem JB.at_ {w : World} {base g : Nat} {v : Value} {up : List Int} (h : JB w base g v up) : w.cell? ⟨g, 0, none⟩ = some v := by
  rw [cell_of_row w g 0 _ _ _ h.cell]; rfl
theorem JB.below {w w1 : World} {base g : Nat} {v : Value} {up : List Int} (h : JB w base g v up) (hb : Below w.heap.size w w1) : JB w1 base g v up :=
  ⟨(hb.block g (blk_lt h.cell)).trans h.cell, h.ge, Kd.R_below h.row hb⟩
theorem JB.form {w : World} {base g : Nat} {v : Value} {up : List Int} (h : JB w base g v up) (hp : 0 < up.length) : ∃ b cap, v = .slice (some ⟨b, 0, none⟩) up.length cap ∧ base ≤ b ∧ b ≠ g := by
  obtain ⟨b, cap, hv, hb, hl, cs, hc⟩ := Kd.R_form h.row hp
  exact ⟨b, cap, hv, hb, h.row.1 b (by rw [hv]; rfl)⟩
mutual
def impl_MapParts.top : Nat → List Int → Int → Option Int
  | 0, _, _ => none
  | k + 1, up, i => if 0 ≤ i then (if i < (up.length : Int) then (if (rd up i) = i then (some i) else (impl_MapParts.top k up (rd up i))) else (none)) else (none)
def impl_MapParts.new : Nat → List Int → Int → Int → Option (List Int)
  | 0, _, _, _ => none
  | k + 1, up, n, i => if i < n then (if up.length < 17592186044416 then (impl_MapParts.new k (up ++ [i]) n (wrap64 (i + 1))) else (none)) else (some up)
end
def impl_MapParts.join (k : Nat) (up : List Int) (a b : Int) : Option (List Int) := (impl_MapParts.top k up a).bind fun x => ((impl_MapParts.top k up b).bind fun y => (if x > y then (if 0 ≤ x then (if x < (up.length : Int) then (some (up.set x.toNat y)) else (none)) else (none)) else (if 0 ≤ y then (if y < (up.length : Int) then (some (up.set y.toNat x)) else (none)) else (none))))
set_option maxHeartbeats 8000000 in
set_option maxRecDepth 100000 in
theorem J_top (k : Nat) (g : Nat) (v : Value) (up : List Int) (i r : Int) (base : Nat) (w : World) (hj : JB w base g v up) (h : impl_MapParts.top k up i = some r) :
    Calls Tryz.prog 91 #[.pointer (some ⟨g, 0, none⟩), .int .i64 i] w fun e w' => e = .returned (.int .i64 r) ∧ w = w' := by
  have HJ := Aside0.mk hj
  clear hj
  have H' := Aside0.mk h
  clear h
  go_enter Tryz.func91, Tryz.ntmps91
  go_wp2
  go_loopg [1] k (fun kq v1 w' => ∃ (x1_1 : Int), v1 = .int .i64 x1_1 ∧ Aside0 (impl_MapParts.top kq up x1_1 = some r) ∧ Aside0 (kq ≤ k) ∧ w = w')
  case atStart => exact ⟨i, rfl, H', ⟨Nat.le_refl _⟩, rfl⟩
  case round =>
    clear H'
    obtain ⟨x1_1, rfl, HA, HK1, rfl⟩ := hrel
    cases gk with
    | zero => exact absurd HA.out (by simp [impl_MapParts.top])
    | succ k1 =>
      have H := HA.out
      clear HA
      simp only [impl_MapParts.top] at H
      obtain ⟨c3, H⟩ := gd H
      obtain ⟨c4, H⟩ := gd H
      obtain ⟨b, cap, hv, _, _⟩ := HJ.out.form (by omega)
      have hcell := HJ.out.at_
      have HR := Aside0.mk (show Kd.R (Kd.int .i64) 3 w base (fun k => k ≠ g) (.slice (some ⟨b, 0, none⟩) up.length cap) up from hv ▸ HJ.out.row)
      subst hv
      obtain ⟨hx1, hf1⟩ := Kd.R_celln 0 HR.out x1_1 c3 c4
      replace hx1 : w.cell? ⟨b, x1_1.toNat, none⟩ = some (.int .i64 (rd up x1_1)) := hx1
      have c3b0 : decide (0 ≤ x1_1) = true := decide_eq_true c3
      have c4b0 : decide (x1_1 < (up.length : Int)) = true := decide_eq_true c4
      replace c3 := eq_true c3
      replace c4 := eq_true c4
      by_cases c5 : (rd up x1_1) = x1_1
      · rw [if_pos c5] at H
        have c5b0 : ((rd up x1_1) == x1_1) = true := beq_iff_eq.mpr c5
        have c5b1 : ((rd up x1_1) != x1_1) = false := bne_eq_false_iff_eq.mpr c5
        clear c5
        obtain rfl := Option.some.inj H
        clear H
        go_wp2
        go_ret
        exact ⟨rfl, rfl⟩
      · rw [if_neg c5] at H
        have c5b0 : ((rd up x1_1) == x1_1) = false := beq_eq_false_iff_ne.mpr c5
        have c5b1 : ((rd up x1_1) != x1_1) = true := bne_iff_ne.mpr c5
        clear c5
        have H' := Aside0.mk H
        clear H
        go_wp2
        go_roundg k1
        case measure => exact oK
        case rel => exact ⟨(rd up x1_1), rfl, H', ⟨oK⟩, rfl⟩
set_option maxHeartbeats 8000000 in
set_option maxRecDepth 100000 in
theorem J_join (k : Nat) (g : Nat) (v : Value) (up : List Int) (a b : Int) (up' : List Int) (base : Nat) (w0 w : World) (hj : JB w base g v up) (hB : Below w0.heap.size w0 w) (hb : w0.heap.size ≤ base) (h : impl_MapParts.join k up a b = some up') :
    Calls Tryz.prog 81 #[.pointer (some ⟨g, 0, none⟩), .int .i64 a, .int .i64 b] w fun e w' => e = .returned (.tuple #[]) ∧ JB w' base g v up' ∧ Below w0.heap.size w0 w' := by
  have HJ := Aside0.mk hj
  have HB := Aside0.mk hB
  have HL := Aside0.mk hb
  clear hj hB hb
  obtain ⟨x, hx, h⟩ := Option.bind_eq_some_iff.mp h
  obtain ⟨y, hy, h⟩ := Option.bind_eq_some_iff.mp h
  have HX := Aside0.mk hx
  have HY := Aside0.mk hy
  clear hx hy
  go_enter Tryz.func81, Tryz.ntmps81
  by_cases c : x > y
  · rw [if_pos c] at h
    have cb : decide (y < x) = true := decide_eq_true c
    by_cases c1 : 0 ≤ x
    · rw [if_pos c1] at h
      by_cases c2 : x < (up.length : Int)
      · rw [if_pos c2] at h
        obtain rfl := Option.some.inj h
        obtain ⟨bl, cap, hv, hge, hne⟩ := HJ.out.form (by omega)
        have hcell := HJ.out.at_
        have HR := Aside0.mk (show Kd.R (Kd.int .i64) 3 w base (fun k => k ≠ g) (.slice (some ⟨bl, 0, none⟩) up.length cap) up from hv ▸ HJ.out.row)
        subst hv
        obtain ⟨hx1, hf1⟩ := Kd.R_celln 0 HR.out x c1 c2
        have HP := Kd.R_putg HR.out x y
        have HG := Aside0.mk (Nat.le_trans HL.out hge)
        have HN := Aside0.mk hne
        clear hne hge
        replace c1 := eq_true c1
        replace c2 := eq_true c2
        clear h c
        go_wp2_with (first | (go_at_call 91; (with_reducible refine (J_top k g _ up a x base _ HJ.out HX.out).mono ?_); rintro e w' ⟨rfl, rfl⟩) | (go_at_call 91; (with_reducible refine (J_top k g _ up b y base _ HJ.out HY.out).mono ?_); rintro e w' ⟨rfl, rfl⟩))
        first | go_end0 | ((try simp only [Exit.inBlock, Exit.then]); refine bodyPost_ret (results_none rfl _ _ _) rfl ?_)
        exact ⟨rfl, ⟨(Below.heap_setCell w ⟨bl, x.toNat, none⟩ _ g (fun e => HN.out e.symm)).trans HJ.out.cell, HJ.out.ge, HP.1⟩, below_set HB.out HG.out⟩
      · rw [if_neg c2] at h; cases h
    · rw [if_neg c1] at h; cases h
  · rw [if_neg c] at h
    have cb : decide (y < x) = false := decide_eq_false c
    by_cases c1 : 0 ≤ y
    · rw [if_pos c1] at h
      by_cases c2 : y < (up.length : Int)
      · rw [if_pos c2] at h
        obtain rfl := Option.some.inj h
        obtain ⟨bl, cap, hv, hge, hne⟩ := HJ.out.form (by omega)
        have hcell := HJ.out.at_
        have HR := Aside0.mk (show Kd.R (Kd.int .i64) 3 w base (fun k => k ≠ g) (.slice (some ⟨bl, 0, none⟩) up.length cap) up from hv ▸ HJ.out.row)
        subst hv
        obtain ⟨hx1, hf1⟩ := Kd.R_celln 0 HR.out y c1 c2
        have HP := Kd.R_putg HR.out y x
        have HG := Aside0.mk (Nat.le_trans HL.out hge)
        have HN := Aside0.mk hne
        clear hne hge
        replace c1 := eq_true c1
        replace c2 := eq_true c2
        clear h c
        go_wp2_with (first | (go_at_call 91; (with_reducible refine (J_top k g _ up a x base _ HJ.out HX.out).mono ?_); rintro e w' ⟨rfl, rfl⟩) | (go_at_call 91; (with_reducible refine (J_top k g _ up b y base _ HJ.out HY.out).mono ?_); rintro e w' ⟨rfl, rfl⟩))
        first | go_end0 | ((try simp only [Exit.inBlock, Exit.then]); refine bodyPost_ret (results_none rfl _ _ _) rfl ?_)
        exact ⟨rfl, ⟨(Below.heap_setCell w ⟨bl, y.toNat, none⟩ _ g (fun e => HN.out e.symm)).trans HJ.out.cell, HJ.out.ge, HP.1⟩, below_set HB.out HG.out⟩
      · rw [if_neg c2] at h; cases h
    · rw [if_neg c1] at h; cases h
def JNew (w : World) (r : List Int) (e : Ending) (w' : World) : Prop := ∃ g v, e = .returned (.pointer (some ⟨g, 0, none⟩)) ∧ JB w' w.heap.size g v r ∧ Below w.heap.size w w'
set_option maxHeartbeats 8000000 in
set_option maxRecDepth 100000 in
theorem J_new (k : Nat) (n : Int) (r : List Int) (w : World) (h : impl_MapParts.new k [] n 0 = some r) :
    Calls Tryz.prog 80 #[.int .i64 n] w (JNew w r) := by
  have H' := Aside0.mk h
  clear h
  have hu82 := Tryz.underlying86
  go_enter Tryz.func80, Tryz.ntmps80
  go_wp2_with ((with_reducible refine gate_dst (N := 6) rfl ?_); refine box_event ?hg (N := 6) ?hd (cs := #[.slice none 0 0]) (t := 86) ?hr ?_; (case hd => rfl); (case hg => rfl); (case hr => exact gS); intro gb hg w5 hbox hb; have HJ0 := Aside0.mk (show JB w5 w.heap.size gb (.slice none 0 0) [] from ⟨hbox, by rw [hg]; exact Nat.le_refl _, Kd.R_nil _ _ _ _ _⟩); have HB0 := Aside0.mk hb; have HG := Aside0.mk (show w.heap.size ≤ gb by rw [hg]; exact Nat.le_refl _); clear hbox hb hg)
  go_loopg [8] k (fun kq v8 w' => ∃ (x8 : Int) (v : Value) (up : List Int), v8 = .int .i64 x8 ∧ Aside0 (impl_MapParts.new kq up n x8 = some r) ∧ Aside0 (kq ≤ k) ∧ Aside0 (JB w' w.heap.size gb v up) ∧ Aside0 (Below w.heap.size w w'))
  case atStart => exact ⟨0, _, _, rfl, H', ⟨Nat.le_refl _⟩, HJ0, HB0⟩
  case round =>
    clear H' HJ0 HB0
    obtain ⟨x8, v, up, rfl, HA, HK1, HJ, HB⟩ := hrel
    cases gk with
    | zero => exact absurd HA.out (by simp [impl_MapParts.new])
    | succ k1 =>
      have H := HA.out
      clear HA
      simp only [impl_MapParts.new] at H
      obtain ⟨c3b0, H⟩ | ⟨c3b0, H⟩ := gi H
      · obtain ⟨c4, H⟩ := gd H
        have LM := Aside0.mk c4
        clear c4
        obtain ⟨y, hy⟩ : ∃ y_ : List Int, y_ = up ++ [x8] := ⟨_, rfl⟩
        replace H : impl_MapParts.new k1 y n (wrap64 (x8 + 1)) = some r := by rw [hy]; exact H
        have Ny := Aside0.mk hy
        clear hy
        have H' := Aside0.mk H
        clear H
        obtain ⟨A, c, hv⟩ := Kd.R_slice HJ.out.row
        subst hv
        have hcell := HJ.out.at_
        have HLT := Aside0.mk (blk_lt HJ.out.cell)
        have HAW := Aside0.mk (Kd.R_away (g := gb) HJ.out.row (fun k hk => hk))
        go_wp2_with (first | ((with_reducible refine gate_builtin (b := .append) (xs := #[.tmp 15, .tmp 17]) rfl ?_); at_builtin; refine Kd.R_append (Kd.int .i64) (w0 := w) w.heap.size rfl (.tmp 15) (.tmp 17) 26 3 (.int .i64 0) 8 rfl Tryz.underlying26 info3 rfl (by decide) (by omega) (.slice A up.length c) up x8 [.int .i64 x8] (fun k_ => k_ ≠ gb) (fun _ => False) rfl rfl ?aP (fun _ hk => hk.elim) ?aF ?aO ?aB ?aS ?aL ?_; (case aP => exact rfl); (case aB => exact tb); (case aF => exact (fun k_ h_ e_ => by subst e_; exact absurd (Nat.lt_of_lt_of_le HLT.out h_) (Nat.lt_irrefl _))); (case aO => exact (R_l HJ.out.row)); (case aS => exact (below_size tb)); (case aL => have := LM.out; omega); intro v1 w1 ho hb hg hat; rw [← Ny.out] at ho; obtain ⟨A1, c1, hv1⟩ := Kd.R_slice ho; subst hv1; have hc1 := blk_grown (by (with_reducible repeat (first | refine blk_drewN ?_ _ | refine blk_drew ?_ | refine blk_alloc ?_ _)); exact HJ.out.cell) hg HAW.out; have HC1 := Aside0.mk hc1; have hcell1 : w1.cell? ⟨gb, 0, none⟩ = some (.slice A up.length c) := (by rw [cell_of_row w1 gb 0 _ _ _ hc1]; rfl); have hfz1 : w1.frozen? ⟨gb, 0, none⟩ = false := blk_frozen hc1 0; have HO1 := Aside0.mk ho; have HB1 := Aside0.mk hb; clear ho hb hg hat hc1))
        go_roundg k1
        case measure => exact oK
        case rel => exact ⟨(wrap64 (x8 + 1)), _, y, rS, H', ⟨oK⟩, ⟨⟨blk_set HC1.out 0 _, HJ.out.ge, Kd.R_far (p := ⟨gb, 0, none⟩) HO1.out (fun _ hk => hk) _⟩⟩, ⟨below_set HB1.out HG.out⟩⟩
      · obtain rfl := Option.some.inj H
        go_wp2
        go_ret
        exact ⟨gb, v, rfl, HJ.out, HB.out⟩
def impl_MapParts.cnt : Nat → List Int → Int → Int → Option Int
  | 0, _, _, _ => none
  | k + 1, up, i, n => if i < (up.length : Int) then (if 0 ≤ i then (if i = rd up i then impl_MapParts.cnt k up (wrap64 (i + 1)) (wrap64 (n + 1)) else impl_MapParts.cnt k up (wrap64 (i + 1)) n) else none) else some n
def impl_MapParts.l1 : Nat → List Int → List Int → Int → Option Int
  | 0, _, _, _ => none
  | k + 1, m, up, d => if d < (m.length : Int) then (if 0 ≤ d then ((impl_MapParts.join k up d (rd m d)).bind fun up1 => ((impl_MapParts.join k up1 d (Go.bits .xor .i64 d 1)).bind fun up2 => impl_MapParts.l1 k m up2 (wrap64 (d + 1)))) else none) else impl_MapParts.cnt k up 0 0
def impl_MapParts.f (k : Nat) (l0 : List Int) : Option Int := (impl_IsMap.f k l0).bind fun t => if t = true then ((impl_MapParts.new k (([] : List Int)) (l0.length : Int) 0).bind fun up => impl_MapParts.l1 k l0 up 0) else some (-1)
theorem impl_MapParts.mono_t : ∀ k, (∀ y0 y1, LeO (impl_MapParts.top k y0 y1) (impl_MapParts.top (k + 1) y0 y1)) ∧ (∀ y0 y1 y2, LeO (impl_MapParts.new k y0 y1 y2) (impl_MapParts.new (k + 1) y0 y1 y2))
  | 0 => ⟨fun _ _ r h => by simp [impl_MapParts.top] at h, fun _ _ _ r h => by simp [impl_MapParts.new] at h⟩
  | k + 1 => by
    obtain ⟨ih0, ih1⟩ := impl_MapParts.mono_t k
    refine ⟨?_, ?_⟩
    · intro y0 y1
      unfold impl_MapParts.top
      exact mM1 ih0
    · intro y0 y1 y2
      unfold impl_MapParts.new
      exact mM1 ih1
theorem impl_MapParts.mono_j (k : Nat) (a : List Int) (b c : Int) : LeO (impl_MapParts.join k a b c) (impl_MapParts.join (k + 1) a b c) := by
  unfold impl_MapParts.join
  exact LeO.bind ((impl_MapParts.mono_t k).1 _ _) (fun _ => LeO.bind ((impl_MapParts.mono_t k).1 _ _) (fun _ => LeO.refl _))
theorem impl_MapParts.mono_c : ∀ k up i n, LeO (impl_MapParts.cnt k up i n) (impl_MapParts.cnt (k + 1) up i n)
  | 0, _, _, _ => fun r h => by simp [impl_MapParts.cnt] at h
  | k + 1, up, i, n => by
    rw [impl_MapParts.cnt, impl_MapParts.cnt]
    exact LeO.ite (LeO.ite (LeO.ite (impl_MapParts.mono_c k _ _ _) (impl_MapParts.mono_c k _ _ _)) (LeO.refl _)) (LeO.refl _)
set_option maxHeartbeats 8000000 in
set_option maxRecDepth 100000 in
theorem J_count (k : Nat) (g : Nat) (v : Value) (up : List Int) (r : Int) (base : Nat) (w : World) (hj : JB w base g v up) (h : impl_MapParts.cnt k up 0 0 = some r) :
    Calls Tryz.prog 82 #[.pointer (some ⟨g, 0, none⟩)] w fun e w' => e = .returned (.int .i64 r) ∧ w = w' := by
  have HJ := Aside0.mk hj
  have hcell := hj.at_
  obtain ⟨A, c, hv⟩ := Kd.R_slice hj.row
  subst hv
  have HC := Aside0.mk (Kd.R_reads' hj.row).2.2
  clear hj
  have H' := Aside0.mk h
  clear h
  go_enter Tryz.func82, Tryz.ntmps82
  go_wp2
  go_loopg [3, 11] k (fun kq v3 v11 w' => ∃ (n i : Int), v3 = .int .i64 n ∧ v11 = .int .i64 i ∧ Aside0 (impl_MapParts.cnt kq up i n = some r) ∧ Aside0 (kq ≤ k) ∧ w = w')
  case atStart => exact ⟨0, 0, rfl, rfl, H', ⟨Nat.le_refl _⟩, rfl⟩
  case round =>
    clear H'
    obtain ⟨n, i, rfl, rfl, HA, HK1, rfl⟩ := hrel
    cases gk with
    | zero => exact absurd HA.out (by simp [impl_MapParts.cnt])
    | succ k1 =>
      have H := HA.out
      clear HA
      rw [impl_MapParts.cnt] at H
      by_cases c1 : i < (up.length : Int)
      · rw [if_pos c1] at H
        have c1b0 : decide (i < (up.length : Int)) = true := decide_eq_true c1
        obtain ⟨c2, H⟩ := gd H
        obtain ⟨ad, e2, hx2⟩ := Kd.at_int HC.out i c2 c1
        subst e2
        replace c1 := eq_true c1
        replace c2 := eq_true c2
        by_cases c5 : i = rd up i
        · rw [if_pos c5] at H
          have c5b0 : (i == rd up i) = true := beq_iff_eq.mpr c5
          have H' := Aside0.mk H
          clear H c5
          go_wp2
          go_roundg k1
          case measure => exact oK
          case rel => exact ⟨_, _, rfl, rfl, H', ⟨oK⟩, rfl⟩
        · rw [if_neg c5] at H
          have c5b0 : (i == rd up i) = false := beq_eq_false_iff_ne.mpr c5
          have H' := Aside0.mk H
          clear H c5
          go_wp2
          go_roundg k1
          case measure => exact oK
          case rel => exact ⟨_, _, rfl, rfl, H', ⟨oK⟩, rfl⟩
      · rw [if_neg c1] at H
        have c1b0 : decide (i < (up.length : Int)) = false := decide_eq_false c1
        obtain rfl := Option.some.inj H
        clear c1 H
        go_wp2
        go_ret
        exact ⟨rfl, rfl⟩
set_option maxHeartbeats 8000000 in
set_option maxRecDepth 100000 in
theorem impl_MapParts.calls (k : Nat) (A0 : Option Addr) (c0 : Nat) (l0 : List Int) (r : Int) (w : World) (hr0 : Kd.C (Kd.int .i64) w A0 l0.length l0) (hc0 : l0.length ≤ c0) (h : impl_MapParts.f k l0 = some r) :
    Calls Tryz.prog 66 #[.slice A0 l0.length c0] w fun e w' => e = .returned (.int .i64 r) ∧ Below w.heap.size w w' := by
  have HR0 := Aside0.mk hr0
  have HC0 := Aside0.mk hc0
  clear hr0 hc0
  unfold impl_MapParts.f at h
  obtain ⟨t, ht, h⟩ := Option.bind_eq_some_iff.mp h
  have HT := Aside0.mk ht
  have HH := Aside0.mk h
  clear ht h
  go_enter Tryz.func66, Tryz.ntmps66
  go_wp2_with fail
  (go_at_call 65; (with_reducible refine (impl_IsMap.calls k A0 c0 l0 t _ HR0.out HC0.out HT.out).mono ?_))
  rintro e w1 ⟨rfl, hb⟩
  have HB1 := Aside0.mk hb
  clear hb
  cases t with
  | false =>
    have h := HH.out
    rw [if_neg (by decide)] at h
    obtain rfl := Option.some.inj h
    clear h HH
    go_wp2
    go_ret
    exact ⟨rfl, HB1.out⟩
  | true =>
    have h := HH.out
    rw [if_pos rfl] at h
    obtain ⟨up0, hu, h⟩ := Option.bind_eq_some_iff.mp h
    have HU := Aside0.mk hu
    have H' := Aside0.mk h
    clear hu h HH
    go_wp2_with fail
    (go_at_call 80; (with_reducible refine (J_new k _ up0 w1 HU.out).mono ?_))
    rintro e w2 ⟨g, v, rfl, hj, hb⟩
    have HJ := Aside0.mk hj
    have HB := Aside0.mk (below_step HB1.out hb)
    have HZ := Aside0.mk HB1.out.size
    clear hj hb
    go_wp2
    go_loopg [14] k (fun kq v14 w' => ∃ (d : Int) (v : Value) (up : List Int), v14 = .int .i64 d ∧ Aside0 (impl_MapParts.l1 kq l0 up d = some r) ∧ Aside0 (kq ≤ k) ∧ Aside0 (JB w' w1.heap.size g v up) ∧ Aside0 (Below w.heap.size w w'))
    case atStart => exact ⟨0, _, _, rfl, H', ⟨Nat.le_refl _⟩, HJ, HB⟩
    case round =>
      clear H' HJ HB
      obtain ⟨d, v, up, rfl, HA, HK1, HJ, HB⟩ := hrel
      cases gk with
      | zero => exact absurd HA.out (by simp [impl_MapParts.l1])
      | succ k1 =>
        have H := HA.out
        clear HA
        rw [impl_MapParts.l1] at H
        by_cases c1 : d < (l0.length : Int)
        · rw [if_pos c1] at H
          have c1b0 : decide (d < (l0.length : Int)) = true := decide_eq_true c1
          obtain ⟨c2, H⟩ := gd H
          obtain ⟨up1, AJ0, H⟩ := Option.bind_eq_some_iff.mp H
          obtain ⟨up2, AJ1, H⟩ := Option.bind_eq_some_iff.mp H
          have AJ := Aside0.mk AJ0
          have AK := Aside0.mk AJ1
          have H' := Aside0.mk H
          clear H AJ0 AJ1
          obtain ⟨ad2, e2, hx2⟩ := Kd.at_int HR0.out d c2 c1
          subst e2
          have hx := (HB.out.cell (World.block_lt_of_cell? w _ hx2)).trans hx2
          clear hx2
          replace c1 := eq_true c1
          replace c2 := eq_true c2
          go_wp2_with fail
          (go_at_call 81; (with_reducible refine (J_join k1 g v up d (rd l0 d) up1 w1.heap.size w _ HJ.out HB.out HZ.out AJ.out).mono ?_))
          rintro e w3 ⟨rfl, hj, hb⟩
          have HJ3 := Aside0.mk hj
          have HB3 := Aside0.mk hb
          clear hj hb HJ HB hx
          go_wp2_with fail
          (go_at_call 81; (with_reducible refine (J_join k1 g v up1 d (Go.bits .xor .i64 d 1) up2 w1.heap.size w _ HJ3.out HB3.out HZ.out AK.out).mono ?_))
          rintro e w4 ⟨rfl, hj, hb⟩
          have HJ4 := Aside0.mk hj
          have HB4 := Aside0.mk hb
          clear hj hb HJ3 HB3
          go_wp2
          go_roundg k1
          case measure => exact oK
          case rel => exact ⟨_, _, _, rfl, H', ⟨oK⟩, HJ4, HB4⟩
        · rw [if_neg c1] at H
          have c1b0 : decide (d < (l0.length : Int)) = false := decide_eq_false c1
          have H' := Aside0.mk H
          clear H c1
          go_wp2_with fail
          (go_at_call 82; (with_reducible refine (J_count k1 g v up r w1.heap.size _ HJ.out H'.out).mono ?_))
          rintro e w3 ⟨rfl, rfl⟩
          go_wp2
          go_ret
          exact ⟨rfl, HB.out⟩

end Go.Proofs.YtafpbabiahjjaaaGreatDoor.PFnGraphs
