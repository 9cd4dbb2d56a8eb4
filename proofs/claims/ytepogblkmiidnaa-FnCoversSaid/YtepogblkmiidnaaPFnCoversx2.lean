import Derived.Test.YtepogblkmiidnaaWSpanB
import Derived.Deep.CutBlock
import Derived.Test.YtepogblkmiidnaaPFnCoversx0
namespace Go.Proofs.Ytepogblkmiidnaa.PFnCovers
open Go.RowKit Go.Proofs.YtepogblkmiidnaaW.PrintWords Go.Proofs.YtepogblkmiidnaaW.PrintLast Go.Proofs.YtepogblkmiidnaaW.PrintMore
attribute [local go_sem] max2_int min2_int max_two min_two max_three min_three max_four min_four   -- for this text's walks alone
set_option linter.unusedVariables false
set_option linter.unusedSimpArgs false

/-! ### laws_big: function 4 -/
def laws_big.f (l0 : List Int) : Option (Bool) := some (decide ((l0.length : Int) > 1048576))
set_option maxHeartbeats 8000000 in
set_option maxRecDepth 100000 in
theorem laws_big.calls (A0 : Option Addr) (c0 : Nat) (l0 : List Int) (r : Bool) (w : World) (hr0 : Kd.C (Kd.int .u8) w A0 l0.length l0) (hc0 : l0.length ≤ c0) (h : laws_big.f l0 = some r) :
  Calls Try.prog 4 #[.slice A0 l0.length c0] w fun e w' => e = .returned (.bool r) ∧ Drawn0 w w' := by
 have HR0 := Aside0.mk hr0
 have HC0 := Aside0.mk hc0
 clear hr0 hc0
 have H : (some (decide ((l0.length : Int) > 1048576))) = some r := h
 clear h
 obtain rfl := Option.some.inj H
 go_enter Try.func4, Try.ntmps4
 go_wp2
 go_ret
 exact ⟨rS, tD⟩

/-- A state of type 77 at block g of W; what its slices lead to came in by w0. -/
def IsS77 (w0 W : World) (g : Nat) (f0 : List Int) (f1 : Int) (f2 : Int) : Prop := ∃ A0 c0, W.heap[g]? = some (.cells #[.slice A0 f0.length c0, .int .i64 f1, .int .i64 f2] 77 (0, 0)) ∧ w0.heap.size ≤ g ∧ Kd.C (Kd.int .u8) w0 A0 f0.length f0
theorem IsS77.grown {w0 W : World} {g : Nat} {f0 : List Int} {f1 : Int} {f2 : Int} {W1 : World} {row : Option Nat} (h : IsS77 w0 W g f0 f1 f2) (hw : W.grownBy W1 row) (hne : some g ≠ row) : IsS77 w0 W1 g f0 f1 f2 := by
 obtain ⟨A0, c0, hb, hg, hr0⟩ := h
 exact ⟨A0, c0, blk_grown hb hw hne, hg, hr0⟩
theorem IsS77.own_neN {w0 W : World} {g : Nat} {f0 : List Int} {f1 : Int} {f2 : Int} {α : Type} {d : Kd α} {e : Nat} {base : Nat} {ok : Nat → Prop} {v : Value} {xs : List α} (h : IsS77 w0 W g f0 f1 f2) (ho : Kd.N d e W base ok v xs) (ht : e ≠ 77) : some g ≠ v.ownBlock := by
 obtain ⟨A0, c0, hb, hg, hr0⟩ := h
 exact Kd.N_ne ho hb ht
theorem IsS77.fresh {w0 W : World} {g : Nat} {f0 : List Int} {f1 : Int} {f2 : Int} (h : IsS77 w0 W g f0 f1 f2) : ∀ k, W.heap.size ≤ k → k ≠ g := by
 obtain ⟨A0, c0, hb, hg, hr0⟩ := h
 exact Kd.freshB hb
theorem IsS77.kept {w0 W : World} {g : Nat} {f0 : List Int} {f1 : Int} {f2 : Int} {W1 : World} {S : Nat → Prop} (h : IsS77 w0 W g f0 f1 f2) (hk : Kept W W1 S) (hne : ¬ S g) : IsS77 w0 W1 g f0 f1 f2 := by
 obtain ⟨A0, c0, hb, hg, hr0⟩ := h
 exact ⟨A0, c0, blk_kept hb hk hne, hg, hr0⟩
theorem IsS77.below {w0 W : World} {g : Nat} {f0 : List Int} {f1 : Int} {f2 : Int} {W1 : World} (h : IsS77 w0 W g f0 f1 f2) (hw : Below W.heap.size W W1) : IsS77 w0 W1 g f0 f1 f2 := h.grown (grown_of_below hw none) (by simp)
theorem IsS77.alloc {w0 W : World} {g : Nat} {f0 : List Int} {f1 : Int} {f2 : Int} (h : IsS77 w0 W g f0 f1 f2) (o : Obj) : IsS77 w0 (W.alloc o) g f0 f1 f2 := h.below (below_alloc (Below.refl _ _) o)
theorem IsS77.drewN {w0 W : World} {g : Nat} {f0 : List Int} {f1 : Int} {f2 : Int} (h : IsS77 w0 W g f0 f1 f2) (m : Nat) : IsS77 w0 (W.drewN m) g f0 f1 f2 := h
theorem IsS77.drew {w0 W : World} {g : Nat} {f0 : List Int} {f1 : Int} {f2 : Int} (h : IsS77 w0 W g f0 f1 f2) : IsS77 w0 W.drew g f0 f1 f2 := h
theorem IsS77.at_ {w0 W : World} {g : Nat} {f0 : List Int} {f1 : Int} {f2 : Int} {w' : World} {m : Nat} (hq : W.drewN m = w') (h : IsS77 w0 W g f0 f1 f2) : IsS77 w0 w' g f0 f1 f2 := by subst hq; exact IsS77.drewN h m
theorem IsS77.apart {w0 W : World} {g : Nat} {f0 : List Int} {f1 : Int} {f2 : Int} {α : Type} {d : Kd α} {e : Nat} {base : Nat} {ok : Nat → Prop} {v : Value} {xs : List α} (h : IsS77 w0 W g f0 f1 f2) (ho : d.R e W base ok v xs) (ht : ∀ q, q ∈ e :: d.E → q ≠ 77) : d.R e W base (fun k => ok k ∧ k ≠ g) v xs := by
 obtain ⟨A0, c0, hb, hg, hr0⟩ := h
 exact Kd.R_types ho hb ht
theorem IsS77.own_ne {w0 W : World} {g : Nat} {f0 : List Int} {f1 : Int} {f2 : Int} {α : Type} {d : Kd α} {e : Nat} {base : Nat} {ok : Nat → Prop} {v : Value} {xs : List α} (h : IsS77 w0 W g f0 f1 f2) (ho : d.R e W base ok v xs) (ht : e ≠ 77) : some g ≠ v.ownBlock := by
 obtain ⟨A0, c0, hb, hg, hr0⟩ := h
 exact Kd.R_ne ho hb ht
theorem IsS77.apartQ {w0 W : World} {g : Nat} {f0 : List Int} {f1 : Int} {f2 : Int} {α : Type} {d : Kd α} {e : Nat} {base : Nat} {ok : Nat → Prop} {v : Value} {xs : List α} (h : IsS77 w0 W g f0 f1 f2) (ho : d.Q e W base ok v xs) (ht : ∀ q, q ∈ e :: d.E → q ≠ 77) : d.Q e W base (fun k => ok k ∧ k ≠ g) v xs := by
 obtain ⟨A0, c0, hb, hg, hr0⟩ := h
 exact Kd.Q_types ho hb ht
theorem IsS77.own_neQ {w0 W : World} {g : Nat} {f0 : List Int} {f1 : Int} {f2 : Int} {α : Type} {d : Kd α} {e : Nat} {base : Nat} {ok : Nat → Prop} {v : Value} {xs : List α} (h : IsS77 w0 W g f0 f1 f2) (ho : d.Q e W base ok v xs) (ht : e ≠ 77) : some g ≠ v.ownBlock := by
 obtain ⟨A0, c0, hb, hg, hr0⟩ := h
 exact Kd.Q_ne ho hb ht
theorem IsS77.apartS {w0 W : World} {g : Nat} {f0 : List Int} {f1 : Int} {f2 : Int} {α : Type} {d : Kd α} {e : Nat} {base : Nat} {ok : Nat → Prop} {v : Value} {xs : List α} (h : IsS77 w0 W g f0 f1 f2) (ho : d.S e W base ok v xs) (ht : ∀ q, q ∈ e :: d.E → q ≠ 77) : d.S e W base (fun k => ok k ∧ k ≠ g) v xs := by
 obtain ⟨A0, c0, hb, hg, hr0⟩ := h
 exact Kd.S_types ho hb ht
theorem IsS77.own_neS {w0 W : World} {g : Nat} {f0 : List Int} {f1 : Int} {f2 : Int} {α : Type} {d : Kd α} {e : Nat} {base : Nat} {ok : Nat → Prop} {v : Value} {xs : List α} (h : IsS77 w0 W g f0 f1 f2) (ho : d.S e W base ok v xs) (ht : e ≠ 77) : some g ≠ v.ownBlock := by
 obtain ⟨A0, c0, hb, hg, hr0⟩ := h
 exact Kd.S_ne ho hb ht
theorem IsS77.lt {w0 W : World} {g : Nat} {f0 : List Int} {f1 : Int} {f2 : Int} (h : IsS77 w0 W g f0 f1 f2) : g < W.heap.size := by
 obtain ⟨A0, c0, hb, hg, hr0⟩ := h
 exact blk_lt hb
theorem IsS77.ge {w0 W : World} {g : Nat} {f0 : List Int} {f1 : Int} {f2 : Int} (h : IsS77 w0 W g f0 f1 f2) : w0.heap.size ≤ g := by
 obtain ⟨A0, c0, hb, hg, hr0⟩ := h
 exact hg
theorem IsS77.ne_blk {w0 W : World} {g : Nat} {f0 : List Int} {f1 : Int} {f2 : Int} {a : Nat} {cs : Array Value} {t : TypeId} {fr : Nat × Nat} (h : IsS77 w0 W g f0 f1 f2) (hb2 : W.heap[a]? = some (.cells cs t fr)) (ht : t ≠ 77) : g ≠ a := by
 obtain ⟨A0, c0, hb, hg, hr0⟩ := h
 rintro rfl
 rw [hb] at hb2
 injection hb2 with hb2
 injection hb2 with _ ht2
 exact ht ht2.symm
theorem IsS77.far {w0 W : World} {g : Nat} {f0 : List Int} {f1 : Int} {f2 : Int} {p : Addr} (h : IsS77 w0 W g f0 f1 f2) (hne : g ≠ p.block) (u : Value) : IsS77 w0 (W.setCell p u) g f0 f1 f2 := by
 obtain ⟨A0, c0, hb, hg, hr0⟩ := h
 exact ⟨A0, c0, blk_far hb hne u, hg, hr0⟩
theorem cellS77_0 {W : World} {g : Nat} {A0 : Option Addr} {c0 : Nat} {f0 : List Int} {f1 : Int} {f2 : Int} (h : W.heap[g]? = some (.cells #[.slice A0 f0.length c0, .int .i64 f1, .int .i64 f2] 77 (0, 0))) : W.cell? ⟨g, 0, none⟩ = some (.slice A0 f0.length c0) := (blk_cell h 0).trans rfl
theorem cellS77_1 {W : World} {g : Nat} {A0 : Option Addr} {c0 : Nat} {f0 : List Int} {f1 : Int} {f2 : Int} (h : W.heap[g]? = some (.cells #[.slice A0 f0.length c0, .int .i64 f1, .int .i64 f2] 77 (0, 0))) : W.cell? ⟨g, 1, none⟩ = some (.int .i64 f1) := (blk_cell h 1).trans rfl
theorem IsS77.set_1 {w0 W : World} {g : Nat} {f0 : List Int} {f1 : Int} {f2 : Int} (h : IsS77 w0 W g f0 f1 f2) (x : Int) : IsS77 w0 (W.setCell ⟨g, 1, none⟩ (.int .i64 x)) g f0 x f2 := by
 obtain ⟨A0, c0, hb, hg, hr0⟩ := h
 exact ⟨A0, c0, by simpa using blk_set hb 1 (.int .i64 x), hg, hr0⟩
theorem cellS77_2 {W : World} {g : Nat} {A0 : Option Addr} {c0 : Nat} {f0 : List Int} {f1 : Int} {f2 : Int} (h : W.heap[g]? = some (.cells #[.slice A0 f0.length c0, .int .i64 f1, .int .i64 f2] 77 (0, 0))) : W.cell? ⟨g, 2, none⟩ = some (.int .i64 f2) := (blk_cell h 2).trans rfl
theorem IsS77.set_2 {w0 W : World} {g : Nat} {f0 : List Int} {f1 : Int} {f2 : Int} (h : IsS77 w0 W g f0 f1 f2) (x : Int) : IsS77 w0 (W.setCell ⟨g, 2, none⟩ (.int .i64 x)) g f0 f1 x := by
 obtain ⟨A0, c0, hb, hg, hr0⟩ := h
 exact ⟨A0, c0, by simpa using blk_set hb 2 (.int .i64 x), hg, hr0⟩
theorem IsS77.new (w0 W : World) (A0 : Option Addr) (c0 : Nat) (f0 : List Int) (f1 : Int) (f2 : Int) (hB : Below w0.heap.size w0 W) (hr0 : Kd.C (Kd.int .u8) w0 A0 f0.length f0) : IsS77 w0 (W.alloc (.cells #[.slice A0 f0.length c0, .int .i64 f1, .int .i64 f2] 77)) W.heap.size f0 f1 f2 := ⟨A0, c0, by simpa using heap_alloc_new W _, hB.size, hr0⟩

/-! ### spec_l1Byte: function 81 -/
def spec_l1Byte.f (s0_0 : List Int) (s0_1 : Int) (s0_2 : Int) : Option (Int × Int × Int) := if s0_1 < (s0_0.length : Int) then (if 0 ≤ s0_1 then (some (Go.bits .and .i64 (wrap64 ((Go.bits .and .i64 (Go.bits .xor .i64 ((wrap64 ((wrap64 (s0_2 * 6364136223846793005)) + 1442695040888963407)) / 8589934592) ((wrap64 ((wrap64 (s0_2 * 6364136223846793005)) + 1442695040888963407)) / 35184372088832)) 255) + (wrap64 (rd s0_0 s0_1)))) 255, wrap64 (s0_1 + 1), wrap64 ((wrap64 (s0_2 * 6364136223846793005)) + 1442695040888963407))) else (none)) else (some (Go.bits .and .i64 (Go.bits .xor .i64 ((wrap64 ((wrap64 (s0_2 * 6364136223846793005)) + 1442695040888963407)) / 8589934592) ((wrap64 ((wrap64 (s0_2 * 6364136223846793005)) + 1442695040888963407)) / 35184372088832)) 255, s0_1, wrap64 ((wrap64 (s0_2 * 6364136223846793005)) + 1442695040888963407)))
set_option maxHeartbeats 8000000 in
set_option maxRecDepth 100000 in
theorem spec_l1Byte.calls (g : Nat) (s0_0 : List Int) (s0_1 : Int) (s0_2 : Int) (r1 : Int) (r2 : Int) (r3 : Int) (w0 w : World) (hI : IsS77 w0 w g s0_0 s0_1 s0_2) (hB : Below w0.heap.size w0 w) (h : spec_l1Byte.f s0_0 s0_1 s0_2 = some (r1, r2, r3)) :
  Calls Try.prog 81 #[.pointer (some ⟨g, 0, none⟩)] w fun e w' => e = .returned (.int .i64 r1) ∧ IsS77 w0 w' g s0_0 r2 r3 ∧ Below w0.heap.size w0 w' ∧ KeepBut w w' g none := by
 have HI0 := Aside0.mk hI
 have HK := Aside0.mk (KeepBut.refl w g none)
 have HL := Aside0.mk hB.size
 clear hI
 have HW0 := Aside0.mk hB.size
 have HB := Aside0.mk hB
 clear hB
 have H : (if s0_1 < (s0_0.length : Int) then (if 0 ≤ s0_1 then (some (Go.bits .and .i64 (wrap64 ((Go.bits .and .i64 (Go.bits .xor .i64 ((wrap64 ((wrap64 (s0_2 * 6364136223846793005)) + 1442695040888963407)) / 8589934592) ((wrap64 ((wrap64 (s0_2 * 6364136223846793005)) + 1442695040888963407)) / 35184372088832)) 255) + (wrap64 (rd s0_0 s0_1)))) 255, wrap64 (s0_1 + 1), wrap64 ((wrap64 (s0_2 * 6364136223846793005)) + 1442695040888963407))) else (none)) else (some (Go.bits .and .i64 (Go.bits .xor .i64 ((wrap64 ((wrap64 (s0_2 * 6364136223846793005)) + 1442695040888963407)) / 8589934592) ((wrap64 ((wrap64 (s0_2 * 6364136223846793005)) + 1442695040888963407)) / 35184372088832)) 255, s0_1, wrap64 ((wrap64 (s0_2 * 6364136223846793005)) + 1442695040888963407)))) = some (r1, r2, r3) := h
 clear h
 obtain ⟨c2b0, H⟩ | ⟨c2b0, H⟩ := gi H
 ·obtain ⟨c3b0, H⟩ := gdt H
  simp only [Option.some.injEq, Prod.mk.injEq] at H
  obtain ⟨rfl, rfl, rfl⟩ := H
  obtain ⟨ASz4_0, cSz4_0, HGz4, hgz4, HSz4_0⟩ := HI0.out
  have hcz4_0 := cellS77_0 HGz4
  have hcz4_1 := cellS77_1 HGz4
  have hcz4_2 := cellS77_2 HGz4
  have hfz4_1 := blk_frozen HGz4 1
  have hfz4_2 := blk_frozen HGz4 2
  clear HGz4 hgz4
  have p101 : 0 ≤ (s0_1 : Int) := dT
  have q101 : s0_1 < (s0_0.length : Int) := dT
  obtain ⟨ad101, e101, hx101_0⟩ := Kd.at_int HSz4_0 s0_1 p101 q101
  cases e101
  have hn101_0 : ad101.block ≠ g := Nat.ne_of_lt (Nat.lt_of_lt_of_le (by have := World.block_lt_of_cell? _ _ hx101_0; first | rwa [add_block] at this | exact this) (IsS77.ge HI0.out))
  replace hx101_0 := pw_cell_below HB.out hx101_0
  replace hx101_0 := (cell_far (p := ⟨g, 2, none⟩) (by first | (rw [add_block]; exact hn101_0) | (show (Addr.add _ _).block ≠ _; rw [add_block]; exact hn101_0) | exact hn101_0) (.int .i64 (wrap64 ((wrap64 (s0_2 * 6364136223846793005)) + 1442695040888963407)))).trans hx101_0
  (try have hy101_0 := fun (n_ : Nat) => (show (((w.drewN n_).setCell ⟨g, 2, none⟩ (.int .i64 (wrap64 ((wrap64 (s0_2 * 6364136223846793005)) + 1442695040888963407))))).cell? _ = some _ from hx101_0))
  clear hn101_0
  replace p101 := eq_true p101
  replace q101 := eq_true q101
  go_enter Try.func81, Try.ntmps81
  go_wp2
  repeat (go_quiet (fail); try go_wp2)
  go_ret
  exact ⟨rE, tI, tB, tK⟩
 ·simp only [Option.some.injEq, Prod.mk.injEq] at H
  obtain ⟨rfl, rfl, rfl⟩ := H
  obtain ⟨ASz5_0, cSz5_0, HGz5, hgz5, HSz5_0⟩ := HI0.out
  have hcz5_0 := cellS77_0 HGz5
  have hcz5_1 := cellS77_1 HGz5
  have hcz5_2 := cellS77_2 HGz5
  have hfz5_1 := blk_frozen HGz5 1
  have hfz5_2 := blk_frozen HGz5 2
  clear HGz5 hgz5
  go_enter Try.func81, Try.ntmps81
  go_wp2
  repeat (go_quiet (fail); try go_wp2)
  go_ret
  exact ⟨rE, tI, tB, tK⟩

/-! ### spec_l1Below: function 46 -/
def spec_l1Below.f (s0_0 : List Int) (s0_1 : Int) (s0_2 : Int) (a1 : Int) : Option (Int × Int × Int) := if a1 ≤ 0 then (some (0, s0_1, s0_2)) else (if a1 ≤ 256 then ((spec_l1Byte.f s0_0 s0_1 s0_2).bind fun bt102 => (if a1 = 0 then (none) else (some (Int.tmod bt102.1 a1, bt102.2.1, bt102.2.2)))) else ((spec_l1Byte.f s0_0 s0_1 s0_2).bind fun bt105 => ((spec_l1Byte.f s0_0 bt105.2.1 bt105.2.2).bind fun bt108 => ((spec_l1Byte.f s0_0 bt108.2.1 bt108.2.2).bind fun bt111 => ((spec_l1Byte.f s0_0 bt111.2.1 bt111.2.2).bind fun bt114 => (if a1 = 0 then (none) else (some (Int.tmod (wrap64 ((wrap64 ((wrap64 ((wrap64 (bt105.1 * 16777216)) + (wrap64 (bt108.1 * 65536)))) + (wrap64 (bt111.1 * 256)))) + bt114.1)) a1, bt114.2.1, bt114.2.2))))))))
set_option maxHeartbeats 8000000 in
set_option maxRecDepth 100000 in
theorem spec_l1Below.calls (g : Nat) (s0_0 : List Int) (s0_1 : Int) (s0_2 : Int) (a1 : Int) (r1 : Int) (r2 : Int) (r3 : Int) (w0 w : World) (hI : IsS77 w0 w g s0_0 s0_1 s0_2) (hB : Below w0.heap.size w0 w) (h : spec_l1Below.f s0_0 s0_1 s0_2 a1 = some (r1, r2, r3)) :
  Calls Try.prog 46 #[.pointer (some ⟨g, 0, none⟩), .int .i64 a1] w fun e w' => e = .returned (.int .i64 r1) ∧ IsS77 w0 w' g s0_0 r2 r3 ∧ Below w0.heap.size w0 w' ∧ KeepBut w w' g none := by
 have HI0 := Aside0.mk hI
 have HK := Aside0.mk (KeepBut.refl w g none)
 have HL := Aside0.mk hB.size
 clear hI
 have HW0 := Aside0.mk hB.size
 have HB := Aside0.mk hB
 clear hB
 have H : (if a1 ≤ 0 then (some (0, s0_1, s0_2)) else (if a1 ≤ 256 then ((spec_l1Byte.f s0_0 s0_1 s0_2).bind fun bt102 => (if a1 = 0 then (none) else (some (Int.tmod bt102.1 a1, bt102.2.1, bt102.2.2)))) else ((spec_l1Byte.f s0_0 s0_1 s0_2).bind fun bt105 => ((spec_l1Byte.f s0_0 bt105.2.1 bt105.2.2).bind fun bt108 => ((spec_l1Byte.f s0_0 bt108.2.1 bt108.2.2).bind fun bt111 => ((spec_l1Byte.f s0_0 bt111.2.1 bt111.2.2).bind fun bt114 => (if a1 = 0 then (none) else (some (Int.tmod (wrap64 ((wrap64 ((wrap64 ((wrap64 (bt105.1 * 16777216)) + (wrap64 (bt108.1 * 65536)))) + (wrap64 (bt111.1 * 256)))) + bt114.1)) a1, bt114.2.1, bt114.2.2))))))))) = some (r1, r2, r3) := h
 clear h
 obtain ⟨c3b0, H⟩ | ⟨c3b0, H⟩ := gi H
 ·simp only [Option.some.injEq, Prod.mk.injEq] at H
  obtain ⟨rfl, rfl, rfl⟩ := H
  go_enter Try.func46, Try.ntmps46
  go_wp2
  go_ret
  exact ⟨rE, tI, tB, tK⟩
 ·obtain ⟨c4b0, H⟩ | ⟨c4b0, H⟩ := gi H
  ·obtain ⟨⟨t102, t103, t104⟩, A5, H⟩ := bs H
   try dsimp only at H
   by_cases c6 : a1 = 0
   ·rw [if_pos c6] at H
    exact absurd H (by simp)
   ·rw [if_neg c6] at H
    have c6b0 : (a1 == 0) = false := beq_eq_false_iff_ne.mpr c6
    have c6b1 : (a1 != 0) = true := bne_iff_ne.mpr c6
    simp only [Option.some.injEq, Prod.mk.injEq] at H
    obtain ⟨rfl, rfl, rfl⟩ := H
    go_enter Try.func46, Try.ntmps46
    go_wp2_with (first | (refine gL 81 (some 14) Try.func81 #[.pointer (some ⟨g, 0, none⟩)] ?_; (with_reducible refine (spec_l1Byte.calls g s0_0 s0_1 s0_2 t102 t103 t104 w0 _ ?side1 ?side2 A5.out).mono ?_); (case side1 => exact tI); (case side2 => exact tB); rintro e w7 ⟨rfl, hi, hb, hk⟩; refine ⟨_, rfl, ?_⟩; replace HK := Aside0.mk (KeepBut.trans tK hk (.inl rfl)); replace HB := Aside0.mk (hb); replace HI0 := Aside0.mk (hi)))
    go_ret
    exact ⟨rE, tI, tB, tK⟩
  ·obtain ⟨⟨t105, t106, t107⟩, A8, H⟩ := bs H
   try dsimp only at H
   obtain ⟨⟨t108, t109, t110⟩, A9, H⟩ := bs H
   try dsimp only at H
   obtain ⟨⟨t111, t112, t113⟩, A10, H⟩ := bs H
   try dsimp only at H
   obtain ⟨⟨t114, t115, t116⟩, A11, H⟩ := bs H
   try dsimp only at H
   by_cases c12 : a1 = 0
   ·rw [if_pos c12] at H
    exact absurd H (by simp)
   ·rw [if_neg c12] at H
    have c12b0 : (a1 == 0) = false := beq_eq_false_iff_ne.mpr c12
    have c12b1 : (a1 != 0) = true := bne_iff_ne.mpr c12
    simp only [Option.some.injEq, Prod.mk.injEq] at H
    obtain ⟨rfl, rfl, rfl⟩ := H
    go_enter Try.func46, Try.ntmps46
    go_wp2_with (first | (refine gL 81 (some 18) Try.func81 #[.pointer (some ⟨g, 0, none⟩)] ?_; (with_reducible refine (spec_l1Byte.calls g s0_0 s0_1 s0_2 t105 t106 t107 w0 _ ?side1 ?side2 A8.out).mono ?_); (case side1 => exact tI); (case side2 => exact tB); rintro e w13 ⟨rfl, hi, hb, hk⟩; refine ⟨_, rfl, ?_⟩; replace HK := Aside0.mk (KeepBut.trans tK hk (.inl rfl)); replace HB := Aside0.mk (hb); replace HI0 := Aside0.mk (hi)) | (refine gL 81 (some 20) Try.func81 #[.pointer (some ⟨g, 0, none⟩)] ?_; (with_reducible refine (spec_l1Byte.calls g s0_0 t106 t107 t108 t109 t110 w0 _ ?side1 ?side2 A9.out).mono ?_); (case side1 => exact tI); (case side2 => exact tB); rintro e w14 ⟨rfl, hi, hb, hk⟩; refine ⟨_, rfl, ?_⟩; replace HK := Aside0.mk (KeepBut.trans tK hk (.inl rfl)); replace HB := Aside0.mk (hb); replace HI0 := Aside0.mk (hi)) | (refine gL 81 (some 22) Try.func81 #[.pointer (some ⟨g, 0, none⟩)] ?_; (with_reducible refine (spec_l1Byte.calls g s0_0 t109 t110 t111 t112 t113 w0 _ ?side1 ?side2 A10.out).mono ?_); (case side1 => exact tI); (case side2 => exact tB); rintro e w15 ⟨rfl, hi, hb, hk⟩; refine ⟨_, rfl, ?_⟩; replace HK := Aside0.mk (KeepBut.trans tK hk (.inl rfl)); replace HB := Aside0.mk (hb); replace HI0 := Aside0.mk (hi)) | (refine gL 81 (some 24) Try.func81 #[.pointer (some ⟨g, 0, none⟩)] ?_; (with_reducible refine (spec_l1Byte.calls g s0_0 t112 t113 t114 t115 t116 w0 _ ?side1 ?side2 A11.out).mono ?_); (case side1 => exact tI); (case side2 => exact tB); rintro e w16 ⟨rfl, hi, hb, hk⟩; refine ⟨_, rfl, ?_⟩; replace HK := Aside0.mk (KeepBut.trans tK hk (.inl rfl)); replace HB := Aside0.mk (hb); replace HI0 := Aside0.mk (hi)))
    go_ret
    exact ⟨rE, tI, tB, tK⟩

/-! ### spec_l1Once: function 47 -/
def spec_l1Once.f (s0_0 : List Int) (s0_1 : Int) (s0_2 : Int) (a1 : Int) : Option (Bool × Int × Int) := (spec_l1Below.f s0_0 s0_1 s0_2 a1).bind fun bt117 => (some ((bt117.1 == 0), bt117.2.1, bt117.2.2))
set_option maxHeartbeats 8000000 in
set_option maxRecDepth 100000 in
theorem spec_l1Once.calls (g : Nat) (s0_0 : List Int) (s0_1 : Int) (s0_2 : Int) (a1 : Int) (r1 : Bool) (r2 : Int) (r3 : Int) (w0 w : World) (hI : IsS77 w0 w g s0_0 s0_1 s0_2) (hB : Below w0.heap.size w0 w) (h : spec_l1Once.f s0_0 s0_1 s0_2 a1 = some (r1, r2, r3)) :
  Calls Try.prog 47 #[.pointer (some ⟨g, 0, none⟩), .int .i64 a1] w fun e w' => e = .returned (.bool r1) ∧ IsS77 w0 w' g s0_0 r2 r3 ∧ Below w0.heap.size w0 w' ∧ KeepBut w w' g none := by
 have HI0 := Aside0.mk hI
 have HK := Aside0.mk (KeepBut.refl w g none)
 have HL := Aside0.mk hB.size
 clear hI
 have HW0 := Aside0.mk hB.size
 have HB := Aside0.mk hB
 clear hB
 have H : ((spec_l1Below.f s0_0 s0_1 s0_2 a1).bind fun bt117 => (some ((bt117.1 == 0), bt117.2.1, bt117.2.2))) = some (r1, r2, r3) := h
 clear h
 obtain ⟨⟨t117, t118, t119⟩, A3, H⟩ := bs H
 try dsimp only at H
 simp only [Option.some.injEq, Prod.mk.injEq] at H
 obtain ⟨rfl, rfl, rfl⟩ := H
 go_enter Try.func47, Try.ntmps47
 go_wp2_with (first | (refine gL 46 (some 7) Try.func46 #[.pointer (some ⟨g, 0, none⟩), .int .i64 a1] ?_; (with_reducible refine (spec_l1Below.calls g s0_0 s0_1 s0_2 a1 t117 t118 t119 w0 _ ?side1 ?side2 A3.out).mono ?_); (case side1 => exact tI); (case side2 => exact tB); rintro e w4 ⟨rfl, hi, hb, hk⟩; refine ⟨_, rfl, ?_⟩; replace HK := Aside0.mk (KeepBut.trans tK hk (.inl rfl)); replace HB := Aside0.mk (hb); replace HI0 := Aside0.mk (hi)))
 go_ret
 exact ⟨rE, tI, tB, tK⟩

/-! ### spec_l9Perm: function 67 -/
def spec_l9Perm.l0 : Nat → Int → List Int → Int → List Int → Int → Int → Option (List Int × Int × Int)
 | 0, _, _, _, _, _, _ => none
 | k + 1, x1, x5, x6, x1000, x1001, x1002 => if x6 < x1 then ((spec_l1Below.f x1000 x1001 x1002 (wrap64 ((x5.length : Int) + 1))).bind fun bt123 => ((some (([] : List Int) : List Int)).bind fun y126 => (if 0 ≤ bt123.1 then (if bt123.1 ≤ (x5.length : Int) then ((some (x5.drop (bt123.1 : Int).toNat : List Int)).bind fun y129 => (if y126.length + y129.length < 17592186044416 then ((some (y126 ++ y129 : List Int)).bind fun y133 => ((some (x5.take (bt123.1 : Int).toNat : List Int)).bind fun y136 => (if y136.length < 17592186044416 then ((some (y136 ++ [x6] : List Int)).bind fun y139 => (if y139.length + y133.length < 17592186044416 then (spec_l9Perm.l0 k x1 (y139 ++ y133) (wrap64 (x6 + 1)) x1000 bt123.2.1 bt123.2.2) else (none))) else (none)))) else (none))) else (none)) else (none)))) else (some (x5, x1001, x1002))
def spec_l9Perm.f (k : Nat) (s0_0 : List Int) (s0_1 : Int) (s0_2 : Int) (a1 : Int) : Option (List Int × Int × Int) := spec_l9Perm.l0 k a1 (([] : List Int)) 0 s0_0 s0_1 s0_2
set_option maxHeartbeats 8000000 in
set_option maxRecDepth 100000 in
theorem spec_l9Perm.calls (k : Nat) (g : Nat) (s0_0 : List Int) (s0_1 : Int) (s0_2 : Int) (a1 : Int) (r1 : List Int) (r2 : Int) (r3 : Int) (w0 w : World) (hI : IsS77 w0 w g s0_0 s0_1 s0_2) (hB : Below w0.heap.size w0 w) (h : spec_l9Perm.f k s0_0 s0_1 s0_2 a1 = some (r1, r2, r3)) :
  Calls Try.prog 67 #[.pointer (some ⟨g, 0, none⟩), .int .i64 a1] w fun e w' => ∃ v0_ : Value, e = .returned (v0_) ∧ Kd.R (Kd.int .i64) 3 w' w.heap.size (fun _ => True) v0_ r1 ∧ IsS77 w0 w' g s0_0 r2 r3 ∧ Below w0.heap.size w0 w' ∧ KeepBut w w' g none := by
 have HI0 := Aside0.mk hI
 have HK := Aside0.mk (KeepBut.refl w g none)
 have HL := Aside0.mk hB.size
 clear hI
 have HW0 := Aside0.mk hB.size
 have HB := Aside0.mk hB
 clear hB
 have H : (spec_l9Perm.l0 k a1 (([] : List Int)) 0 s0_0 s0_1 s0_2) = some (r1, r2, r3) := h
 clear h
 generalize hy120 : (([] : List Int) : List Int) = y120 at H
 have Ny120 := Aside0.mk hy120.symm; clear hy120
 have H' := Aside0.mk H
 clear H
 go_enter Try.func67, Try.ntmps67
 go_wp2_with (first | ((with_reducible refine gate_dst (N := 9) rfl ?_); refine Kd.R_lit (Kd.int .i64) _ 3 ?hg (N := 9) ?hd (xs := ([] : List Int)) (inner := []) (ok := fun _ => True) (okp := fun _ => True) ?hr ?hp (fun _ hk => hk) trivial (Below.refl _ _) (Nat.le_refl _) (by simp) ?_; (case hd => rfl); (case hg => rfl); (case hr => exact gS); (case hp => exact (Reps.none _ _)); intro v121 w3 ho4 hb hg_ hnew_; clear hg_ hnew_; (first | rw [← Ny120.out] at ho4 | (simp only [Int.reduceToNat] at ho4; rw [← Ny120.out] at ho4)); have HO122 := Aside0.mk (Kd.R_lower ho4 (zK)); replace HK := Aside0.mk (KeepBut.trans tK (KeepBut.of_below hb g none) (.inl rfl)); replace HB := Aside0.mk (below_step tB hb); replace HI0 := Aside0.mk (IsS77.below tI hb); clear hb ho4))
 go_loopg [5, 6] k (fun kq v5 v6 w' => ∃ (x5_1 : List Int) (x6_1 : Int) (x1001_1 : Int) (x1002_1 : Int), v6 = .int .i64 x6_1 ∧ Aside0 (spec_l9Perm.l0 kq a1 x5_1 x6_1 s0_0 x1001_1 x1002_1 = some (r1, r2, r3)) ∧ Aside0 (kq ≤ k) ∧ Aside0 (Kd.R (Kd.int .i64) 3 w' w.heap.size (fun _ => True) v5 x5_1) ∧ Aside0 (IsS77 w0 w' g s0_0 x1001_1 x1002_1) ∧ Aside0 (KeepBut w w' g none) ∧ Aside0 (Below w0.heap.size w0 w'))
 case atStart => exact ⟨(y120), (0), (s0_1), (s0_2), rS, H', ⟨Nat.le_refl _⟩, ⟨R_l HO122.out⟩, ⟨tI⟩, ⟨tK⟩, ⟨tB⟩⟩
 case round =>
  clear H'
  try clear p2
  obtain ⟨x5_1, x6_1, x1001_1, x1002_1, rfl, HA, HK1, HO_5, HI0, HK, HB⟩ := hrel
  cases gk with
  | zero => exact absurd HA.out (by simp [spec_l9Perm.l0])
  | succ k1 =>
   have H := HA.out
   clear HA
   simp only [spec_l9Perm.l0] at H
   obtain ⟨c5b0, H⟩ | ⟨c5b0, H⟩ := gi H
   ·obtain ⟨⟨t123, t124, t125⟩, A6, H⟩ := bs H
    try dsimp only at H
    obtain ⟨y126, hy126⟩ : ∃ y_ : List Int, y_ = (([] : List Int)) := ⟨_, rfl⟩
    replace H : (if 0 ≤ t123 then (if t123 ≤ (x5_1.length : Int) then ((some (x5_1.drop (t123 : Int).toNat : List Int)).bind fun y129 => (if y126.length + y129.length < 17592186044416 then ((some (y126 ++ y129 : List Int)).bind fun y133 => ((some (x5_1.take (t123 : Int).toNat : List Int)).bind fun y136 => (if y136.length < 17592186044416 then ((some (y136 ++ [x6_1] : List Int)).bind fun y139 => (if y139.length + y133.length < 17592186044416 then (spec_l9Perm.l0 k1 a1 (y139 ++ y133) (wrap64 (x6_1 + 1)) s0_0 t124 t125) else (none))) else (none)))) else (none))) else (none)) else (none)) = some (r1, r2, r3) := by first | (rw [hy126]; with_reducible exact H) | (have H2_ := (Option.bind_some _ _).symm.trans H; rw [hy126]; with_reducible exact H2_) | (have H2_ := (Option.bind_some _ _).symm.trans H; with_reducible exact H2_) | with_reducible exact H | (rw [hy126]; exact H) | exact H
    have Ny126 := Aside0.mk hy126
    clear hy126
    obtain ⟨c7, H⟩ := gd H
    have c7b0 := eq_true c7
    have c7b1 : decide (0 ≤ t123) = true := decide_eq_true c7
    clear c7
    obtain ⟨c8, H⟩ := gd H
    have c8b0 := eq_true c8
    have c8b1 : decide (t123 ≤ (x5_1.length : Int)) = true := decide_eq_true c8
    clear c8
    generalize hy129 : (x5_1.drop (t123 : Int).toNat : List Int) = y129 at H
    have Ny129 := Aside0.mk hy129.symm; clear hy129
    obtain ⟨LMc9, H⟩ := gda H
    generalize hy133 : (y126 ++ y129 : List Int) = y133 at H
    have Ny133 := Aside0.mk hy133.symm; clear hy133
    have c10b0 := eq_true (dT : t123 ≤ (x5_1.length : Int))
    generalize hy136 : (x5_1.take (t123 : Int).toNat : List Int) = y136 at H
    have Ny136 := Aside0.mk hy136.symm; clear hy136
    obtain ⟨LMc11, H⟩ := gda H
    generalize hy139 : (y136 ++ [x6_1] : List Int) = y139 at H
    have Ny139 := Aside0.mk hy139.symm; clear hy139
    obtain ⟨LMc12, H⟩ := gda H
    generalize hy142 : (y139 ++ y133 : List Int) = y142 at H
    have Ny142 := Aside0.mk hy142.symm; clear hy142
    have H' := Aside0.mk H
    clear H
    obtain ⟨Ao13, co13, eo13⟩ := Kd.R_slice HO_5.out
    subst eo13
    go_wp2_with (first | (refine gL 46 (some 19) Try.func46 #[.pointer (some ⟨g, 0, none⟩), .int .i64 (wrap64 ((x5_1.length : Int) + 1))] ?_; (with_reducible refine (spec_l1Below.calls g s0_0 x1001_1 x1002_1 (wrap64 ((x5_1.length : Int) + 1)) t123 t124 t125 w0 _ ?side1 ?side2 A6.out).mono ?_); (case side1 => exact tI); (case side2 => exact tB); rintro e w14 ⟨rfl, hi, hb, hk⟩; refine ⟨_, rfl, ?_⟩; replace HO_5 := Aside0.mk (Kd.R_mono (Kd.R_keep (IsS77.apart (show IsS77 w0 _ g s0_0 x1001_1 x1002_1 from tI) (R_l HO_5.out) (by decide)) hk (fun _ h => h.2)) (fun _ h => h.1)); replace HK := Aside0.mk (KeepBut.trans tK hk (.inl rfl)); replace HB := Aside0.mk (hb); replace HI0 := Aside0.mk (hi)) | ((with_reducible refine gate_dst (N := 20) rfl ?_); refine Kd.R_lit (Kd.int .i64) _ 3 ?hg (N := 20) ?hd (xs := ([] : List Int)) (inner := []) (ok := fun _ => True) (okp := fun _ => True) ?hr ?hp (fun _ hk => hk) trivial (Below.refl _ _) (Nat.le_refl _) (by simp) ?_; (case hd => rfl); (case hg => rfl); (case hr => exact gS); (case hp => exact (Reps.none _ _)); intro v127 w15 ho16 hb hg_ hnew_; clear hg_ hnew_; (first | rw [← Ny126.out] at ho16 | (simp only [Int.reduceToNat] at ho16; rw [← Ny126.out] at ho16)); have HO128 := Aside0.mk (Kd.R_lower (Kd.R_new' ho16 (Kd.R_lt (R_l HO_5.out))) (zK)); replace HO_5 := Aside0.mk (Kd.R_elder' (R_l HO_5.out) (Kd.R_base ho16) hb); replace HK := Aside0.mk (KeepBut.trans tK (KeepBut.of_below hb g none) (.inl rfl)); replace HB := Aside0.mk (below_step tB hb); replace HI0 := Aside0.mk (IsS77.below tI hb); clear hb ho16; have q17 : (t123 : Int) ≤ ((x5_1.length : Int) : Int) := dT; obtain ⟨i017, hi017, _, hsz17, _⟩ := info_parts info3; have hroom17 : x5_1.length ≤ co13 := (Kd.R_reads' HO_5.out).2.1; have hC17 : Kd.C (Kd.int .i64) _ Ao13 x5_1.length x5_1 := (Kd.R_reads' HO_5.out).2.2; have q017 : (0 : Int) ≤ (t123 : Int) := dT; have hcut17 := cut_from (P := Try.prog) 30 3 .i64 Try.underlying30 hi017 1 hsz17 Ao13 x5_1.length co13 t123 q017 q17; have hr17 := Kd.C_drop (m := (t123 : Int).toNat) (c := co13) hC17 (by omega) hroom17; obtain ⟨A17, hA17⟩ : ∃ A1, A1 = (if co13 = (t123 : Int).toNat then Ao13 else (Ao13 : Option Addr).map (·.add ((t123 : Int).toNat * 1))) := ⟨_, rfl⟩; obtain ⟨c17, hc17⟩ : ∃ c1, c1 = co13 - (t123 : Int).toNat := ⟨_, rfl⟩; have hy17 : y129.length = x5_1.length - (t123 : Int).toNat := (by rw [Ny129.out, List.length_drop] <;> omega); rw [show (x5_1).drop (t123 : Int).toNat = y129 from Ny129.out.symm] at hr17; replace hr17 : Kd.C (Kd.int .i64) _ A17 y129.length y129 := (by rw [hA17]; exact hr17); rw [← hy17, ← hA17, ← hc17] at hcut17; have HR132 := Aside0.mk hr17; have HC132 := Aside0.mk (show y129.length ≤ c17 from by rw [hy17, hc17]; exact Nat.sub_le_sub_right hroom17 _); clear hr17 hC17 hroom17 hi017 hsz17 hc17; have KY17 := Aside0.mk hy17; have KA17 := Aside0.mk hA17; clear hy17 hA17; have KL17 := Aside0.mk (show (t123 : Int).toNat ≤ x5_1.length from by omega); replace q17 := eq_true q17) | ((with_reducible refine gate_builtin (b := .append) (xs := #[.tmp 20, .tmp 23]) rfl ?_); at_builtin; refine Kd.R_append_rows (Kd.int .i64) w.heap.size rfl (.tmp 20) (.tmp 23) 30 3 (.int .i64 0) 8 rfl Try.underlying30 info3 rfl (by decide) (by omega) v127 y126 y129 _ _ _ (fun k_ => some k_ ≠ (.slice Ao13 x5_1.length co13 : Value).ownBlock) (fun _ => False) rfl rfl ?aO ?aR (fun _ _ h => h) (fun _ h => h.elim) ?aF (Below.refl _ _) ?aS ?aL ?_; (case aR => repeat (first | exact (by repeat (first | (with_reducible exact HR132.out) | (with_reducible refine Kd.C_alloc ?_ _) | (with_reducible refine Kd.C_drewN ?_ _) | (with_reducible refine Kd.C_drew ?_) | exact HR132.out)) | (with_reducible refine Kd.C_alloc ?_ _) | (with_reducible refine Kd.C_drewN ?_ _) | (with_reducible refine Kd.C_drew ?_))); (case aF => exact (fun k_ hk => Kd.fresh' (Kd.R_lt (R_l HO_5.out)) k_ hk)); (case aO => exact (R_l (Kd.R_mono HO128.out (fun _ hk => hk.2)))); (case aS => exact (zK)); (case aL => have := LMc9.out; omega); intro v134 w18 ho hb hg hat; rw [← Ny133.out] at ho; replace HB := Aside0.mk (below_weaken tB HL.out hb); replace HI0 := Aside0.mk (IsS77.grown tI hg (IsS77.own_ne HI0.out HO128.out (by decide))); replace HK := Aside0.mk (KeepBut.trans tK (KeepBut.of_grown hg g) (Kd.R_base2 HO128.out)); replace HR132 := Aside0.mk ((show Kd.C (Kd.int .i64) w18 A17 y129.length y129 from by rw [Ny129.out, KA17.out]; exact Kd.C_drop (m := (t123 : Int).toNat) (c := co13) ((Kd.R_reads' (Kd.R_after (ok := (fun _ => True)) (R_l HO_5.out) hg hat)).2.2) KL17.out ((Kd.R_reads' (Kd.R_after (ok := (fun _ => True)) (R_l HO_5.out) hg hat)).2.1))); replace HO_5 := Aside0.mk (Kd.R_after (ok := (fun _ => True)) (R_l HO_5.out) hg hat); have HO135 := Aside0.mk (ho); clear HO128; clear ho hb hg hat; have q19 : (t123 : Int) ≤ ((x5_1.length : Int) : Int) := dT; obtain ⟨i019, hi019, _, hsz19, _⟩ := info_parts info3; have hcut19 := cut_to (P := Try.prog) 30 3 .i64 Try.underlying30 hi019 Ao13 x5_1.length co13 t123 dT q19 (Kd.R_reads' HO_5.out).2.1; have hr19 := Kd.R_take (m := (t123 : Int).toNat) HO_5.out (by omega); have hy19 : y136.length = (t123 : Int).toNat := (by rw [Ny136.out, List.length_take]; omega); rw [← Ny136.out] at hr19; rw [← hy19] at hr19 hcut19; clear hy19 hi019 hsz19 HO_5; have HO138 := Aside0.mk hr19; clear hr19; replace q19 := eq_true q19) | ((with_reducible refine gate_builtin (b := .append) (xs := #[.tmp 27, .tmp 29]) rfl ?_); at_builtin; refine Kd.R_append (Kd.int .i64) w.heap.size rfl (.tmp 27) (.tmp 29) 30 3 (.int .i64 0) 8 rfl Try.underlying30 info3 rfl (by decide) (by omega) (.slice Ao13 y136.length co13) y136 x6_1 [.int .i64 x6_1] (fun k_ => some k_ ≠ (v134 : Value).ownBlock) (fun _ => False) rfl rfl ?aP (fun _ hk => hk.elim) ?aF ?aO (Below.refl _ _) ?aS ?aL ?_; (case aP => exact rfl); (case aF => exact (fun k_ hk => Kd.fresh' (Kd.R_lt (R_l HO135.out)) k_ hk)); (case aO => exact (R_l (Kd.R_mono HO138.out (fun _ hk => hk.2)))); (case aS => exact (zK)); (case aL => have := LMc11.out; omega); intro v140 w20 ho hb hg hat; rw [← Ny139.out] at ho; replace HO135 := Aside0.mk (Kd.R_after (ok := (fun _ => True)) (R_l (Kd.R_mono HO135.out (fun _ hk => ⟨trivial, by revert hk; cases Ao13 <;> exact fun h_ => h_⟩))) hg hat); replace HB := Aside0.mk (below_weaken tB HL.out hb); replace HI0 := Aside0.mk (IsS77.grown tI hg (IsS77.own_ne HI0.out HO138.out (by decide))); replace HK := Aside0.mk (KeepBut.trans tK (KeepBut.of_grown hg g) (Kd.R_base2 HO138.out)); have HO141 := Aside0.mk (ho); clear HO138; clear ho hb hg hat; obtain ⟨Ao22, co22, eo22⟩ := Kd.R_slice HO135.out; subst eo22) | ((with_reducible refine gate_builtin (b := .append) (xs := #[.tmp 30, .tmp 31]) rfl ?_); at_builtin; refine Kd.R_append_rows (Kd.int .i64) w.heap.size rfl (.tmp 30) (.tmp 31) 30 3 (.int .i64 0) 8 rfl Try.underlying30 info3 rfl (by decide) (by omega) v140 y139 y133 _ _ _ (fun k_ => some k_ ≠ (.slice Ao22 y133.length co22 : Value).ownBlock) (fun _ => False) rfl rfl ?aO ?aR (fun _ _ h => h) (fun _ h => h.elim) ?aF (Below.refl _ _) ?aS ?aL ?_; (case aR => exact C_l ((Kd.R_reads' HO135.out).2.2)); (case aF => exact (fun k_ hk => Kd.fresh' (Kd.R_lt (R_l HO135.out)) k_ hk)); (case aO => exact (R_l HO141.out)); (case aS => exact (zK)); (case aL => have := LMc12.out; omega); intro v143 w21 ho hb hg hat; rw [← Ny142.out] at ho; replace HO135 := Aside0.mk (Kd.R_after (ok := (fun _ => True)) (R_l HO135.out) hg hat); replace HB := Aside0.mk (below_weaken tB HL.out hb); replace HI0 := Aside0.mk (IsS77.grown tI hg (IsS77.own_ne HI0.out HO141.out (by decide))); replace HK := Aside0.mk (KeepBut.trans tK (KeepBut.of_grown hg g) (Kd.R_base2 HO141.out)); have HO144 := Aside0.mk (ho); clear HO141; clear ho hb hg hat))
    go_roundg k1
    case measure => exact oK
    case rel => exact ⟨(y142), (wrap64 (x6_1 + 1)), (t124), (t125), rS, H', ⟨oK⟩, ⟨R_l (Kd.R_mono HO144.out (fun _ hk => trivial))⟩, ⟨tI⟩, ⟨tK⟩, ⟨tB⟩⟩
   ·simp only [Option.some.injEq, Prod.mk.injEq] at H
    obtain ⟨rfl, rfl, rfl⟩ := H
    go_wp2
    go_ret
    exact ⟨_, rE, R_l HO_5.out, tI, tB, tK⟩

/-! ### spec_l1PickInt: function 68 -/
def spec_l1PickInt.f (s0_0 : List Int) (s0_1 : Int) (s0_2 : Int) (l1 : List Int) : Option (Int × Int × Int) := (spec_l1Below.f s0_0 s0_1 s0_2 (l1.length : Int)).bind fun bt145 => (if 0 ≤ bt145.1 then (if bt145.1 < (l1.length : Int) then (some (rd l1 bt145.1, bt145.2.1, bt145.2.2)) else (none)) else (none))
set_option maxHeartbeats 8000000 in
set_option maxRecDepth 100000 in
theorem spec_l1PickInt.calls (g : Nat) (s0_0 : List Int) (s0_1 : Int) (s0_2 : Int) (A1 : Option Addr) (c1 : Nat) (l1 : List Int) (r1 : Int) (r2 : Int) (r3 : Int) (w0 w : World) (hI : IsS77 w0 w g s0_0 s0_1 s0_2) (hB : Below w0.heap.size w0 w) (hr1 : Kd.C (Kd.int .i64) w A1 l1.length l1) (hc1 : l1.length ≤ c1) (hf1 : ∀ ad, A1 = some ad → 0 < l1.length → ad.block ≠ g) (h : spec_l1PickInt.f s0_0 s0_1 s0_2 l1 = some (r1, r2, r3)) :
  Calls Try.prog 68 #[.pointer (some ⟨g, 0, none⟩), .slice A1 l1.length c1] w fun e w' => e = .returned (.int .i64 r1) ∧ IsS77 w0 w' g s0_0 r2 r3 ∧ Below w0.heap.size w0 w' ∧ KeepBut w w' g none := by
 have HR1 := Aside0.mk hr1
 have HC1 := Aside0.mk hc1
 clear hr1 hc1
 have HI0 := Aside0.mk hI
 have HK := Aside0.mk (KeepBut.refl w g none)
 have HL := Aside0.mk hB.size
 clear hI
 have HW0 := Aside0.mk hB.size
 have HB := Aside0.mk hB
 clear hB
 have H : ((spec_l1Below.f s0_0 s0_1 s0_2 (l1.length : Int)).bind fun bt145 => (if 0 ≤ bt145.1 then (if bt145.1 < (l1.length : Int) then (some (rd l1 bt145.1, bt145.2.1, bt145.2.2)) else (none)) else (none))) = some (r1, r2, r3) := h
 clear h
 obtain ⟨⟨t145, t146, t147⟩, A3, H⟩ := bs H
 try dsimp only at H
 by_cases c4 : 0 ≤ t145
 ·rw [if_pos c4] at H
  have c4b0 : decide (0 ≤ t145) = true := decide_eq_true c4
  clear c4
  obtain ⟨c5b0, H⟩ := gdt H
  simp only [Option.some.injEq, Prod.mk.injEq] at H
  obtain ⟨rfl, rfl, rfl⟩ := H
  go_enter Try.func68, Try.ntmps68
  go_wp2_with (first | (refine gL 46 (some 9) Try.func46 #[.pointer (some ⟨g, 0, none⟩), .int .i64 (l1.length : Int)] ?_; (with_reducible refine (spec_l1Below.calls g s0_0 s0_1 s0_2 (l1.length : Int) t145 t146 t147 w0 _ ?side1 ?side2 A3.out).mono ?_); (case side1 => exact tI); (case side2 => exact tB); rintro e w6 ⟨rfl, hi, hb, hk⟩; refine ⟨_, rfl, ?_⟩; replace HK := Aside0.mk (KeepBut.trans tK hk (.inl rfl)); replace HB := Aside0.mk (hb); replace HI0 := Aside0.mk (hi); have p148 : 0 ≤ (t145 : Int) := dT; have q148 : t145 < (l1.length : Int) := dT; obtain ⟨ad148, e148, hx148_0⟩ := Kd.at_int HR1.out t145 p148 q148; cases e148; replace hx148_0 := keep_cell HK.out hx148_0 (by first | (rw [add_block]; exact hf1 _ rfl (by omega)) | exact hf1 _ rfl (by omega) | exact hf1 ad148 rfl (by omega)); replace p148 := eq_true p148; replace q148 := eq_true q148))
  go_ret
  exact ⟨rE, tI, tB, tK⟩
 ·rw [if_neg c4] at H
  exact absurd H (by simp)

/-! ### spec_l9Draw: function 29 -/
/-- the product a a, entry by entry -/
def spec_l9Draw.l0 : Nat → List Int → List Int → Int → Int → Option (List Int)
 | 0, _, _, _, _ => none
 | k + 1, a, p, s, n => if s < n then (if 0 ≤ s then (if s < (a.length : Int) then (if 0 ≤ rd a s then (if rd a s < (a.length : Int) then (if p.length < 1000000 then (spec_l9Draw.l0 k a (p ++ [rd a (rd a s)]) (wrap64 (s + 1)) n) else (none)) else (none)) else (none)) else (none)) else (none)) else (some p)
/-- what the last switch makes of a list -/
def spec_l9Draw.j0 (k : Nat) (s0_0 : List Int) (s0_1 s0_2 : Int) (n g : Int) (l : List (List Int)) : Option (Int × (List (List Int)) × Int × Int) :=
 (spec_l1Below.f s0_0 s0_1 s0_2 16).bind fun bt => if bt.1 = 0 then ((spec_l9Perm.f k s0_0 bt.2.1 bt.2.2 n).bind fun bp => (if 0 < (l.length : Int) then (some (g, l.set 0 bp.1, bp.2.1, bp.2.2)) else (none)))
  else (if bt.1 = 1 then (if 1 ≤ (l.length : Int) then (some (g, l.take (l.length - 1), bt.2.1, bt.2.2)) else (none))
  else (if bt.1 = 2 then ((spec_l1PickInt.f s0_0 bt.2.1 bt.2.2 [(-1), 3, 0, 1]).bind fun bq => (some (bq.1, l, bq.2.1, bq.2.2))) else (some (g, l, bt.2.1, bt.2.2))))
def spec_l9Draw.f (k : Nat) (s0_0 : List Int) (s0_1 : Int) (s0_2 : Int) : Option (Int × (List (List Int)) × Int × Int) :=
 (spec_l1Below.f s0_0 s0_1 s0_2 3).bind fun bg => (spec_l1Below.f s0_0 bg.2.1 bg.2.2 4).bind fun bn => (spec_l9Perm.f k s0_0 bn.2.1 bn.2.2 (wrap64 (1 + bn.1))).bind fun ba => (spec_l9Perm.f k s0_0 ba.2.1 ba.2.2 (wrap64 (1 + bn.1))).bind fun bb =>
  if bg.1 = 1 then ((spec_l9Draw.l0 k ba.1 [] 0 (wrap64 (1 + bn.1))).bind fun p => (spec_l1Once.f s0_0 bb.2.1 bb.2.2 4).bind fun bo => if bo.1 = true then (spec_l9Draw.j0 k s0_0 bo.2.1 bo.2.2 (wrap64 (1 + bn.1)) bg.1 [ba.1, ba.1]) else (spec_l9Draw.j0 k s0_0 bo.2.1 bo.2.2 (wrap64 (1 + bn.1)) bg.1 [ba.1, p]))
  else (if bg.1 = 2 then (spec_l9Draw.j0 k s0_0 bb.2.1 bb.2.2 (wrap64 (1 + bn.1)) bg.1 [ba.1, bb.1, bb.1, ba.1]) else (spec_l9Draw.j0 k s0_0 bb.2.1 bb.2.2 (wrap64 (1 + bn.1)) bg.1 [ba.1, bb.1]))
theorem spec_l9Draw.gd {α : Type} {c : Prop} [Decidable c] {t : Option α} {r : α} (h : (if c then t else none) = some r) : c ∧ t = some r := by
 by_cases hc : c
 ·exact ⟨hc, by rwa [if_pos hc] at h⟩
 ·rw [if_neg hc] at h; cases h
theorem spec_l9Draw.up {w W w1 : World} {v : Value} {xs : List Int} (h : Kd.R (Kd.int .i64) 3 w1 W.heap.size (fun _ => True) v xs) (hle : w.heap.size ≤ W.heap.size) : Kd.R (Kd.int .i64) 3 w1 w.heap.size (fun k => w.heap.size ≤ k) v xs := Kd.R_lower (Kd.R_mono (Kd.R_bound h) (fun _ hk => Nat.le_trans hle hk.2.1)) hle
theorem spec_l9Draw.fk {W : World} {b c : Nat} {A : Option Addr} {l : List Int} (h : Kd.R (Kd.int .i64) 3 W b (fun k => b ≤ k) (.slice A l.length c) l) : Kd.FK (Kd.slice 3 (Kd.int .i64)) W (fun k => b ≤ k) l [.slice A l.length c] := Kd.FK_slice_mk (Kd.R_reads' h).2.1 (Kd.R_F h)
theorem spec_l9Draw.fk2 {W : World} {b b2 c n cl gl : Nat} {A : Option Addr} {l : List Int} {xs : List (List Int)} {ok : Nat → Prop} (h : Kd.R (Kd.int .i64) 3 W b (fun k => b ≤ k) (.slice A l.length c) l) (hN : Kd.N (Kd.slice 3 (Kd.int .i64)) 30 W b2 ok (.slice (some ⟨gl, 0, none⟩) n cl) xs) : Kd.FK (Kd.slice 3 (Kd.int .i64)) W (fun k => b ≤ k ∧ k ≠ gl) l [.slice A l.length c] := by
 have h2 := Kd.R_apart' h (Kd.N_typed hN) (by decide)
 have h3 := Kd.R_mono (ok' := fun k => b ≤ k ∧ k ≠ gl) h2 (fun k hk => ⟨hk.1, fun e => hk.2 (by rw [e]; rfl)⟩)
 exact Kd.FK_slice_mk (Kd.R_reads' h).2.1 (Kd.R_F h3)
theorem spec_l9Draw.st {W : World} {ok : Nat → Prop} {l : List Int} {u : Value} {ce : List Value} (hcl : ce.length = (Kd.slice 3 (Kd.int .i64)).sz) (h : Kd.FK (Kd.slice 3 (Kd.int .i64)) W ok l [u]) : Kd.FK (Kd.slice 3 (Kd.int .i64)) W ok l (ce.take 0 ++ [u] ++ ce.drop (0 + [u].length)) := by
 have h2 : ce.drop (0 + [u].length) = [] := List.drop_eq_nil_of_le (by rw [hcl]; exact Nat.le_refl 1)
 rw [h2]
 simpa using h
theorem spec_l9Draw.ap {w W w1 : World} {b : Nat} {u v : Value} {la : List Int} {ok oku : Nat → Prop} (ha : Kd.R (Kd.int .i64) 3 W b oku u la) (h : Kd.R (Kd.int .i64) 3 w1 W.heap.size ok v []) (hle : w.heap.size ≤ W.heap.size) : Kd.R (Kd.int .i64) 3 w1 w.heap.size (fun k => w.heap.size ≤ k ∧ some k ≠ u.ownBlock) v [] :=
 Kd.R_lower (Kd.R_mono (Kd.R_bound h) (fun k hk => ⟨Nat.le_trans hle hk.2.1, Kd.fresh' (Kd.R_lt ha) k hk.2.1⟩)) hle
theorem spec_l9Draw.over {w W w1 W' : World} {u v : Value} {la p : List Int} (ha : Kd.R (Kd.int .i64) 3 W w.heap.size (fun k => w.heap.size ≤ k) u la) (hg : W.grownBy w1 v.ownBlock) (hp : Kd.R (Kd.int .i64) 3 W' w.heap.size (fun k => w.heap.size ≤ k ∧ some k ≠ u.ownBlock) v p) : Kd.R (Kd.int .i64) 3 w1 w.heap.size (fun k => w.heap.size ≤ k) u la :=
 Kd.R_grown2 ha rfl hg (fun k hk he => (hp.1 k hk).2 he)
theorem spec_l9Draw.away {W : World} {b c n g : Nat} {A : Option Addr} {l : List Int} (h : Kd.R (Kd.int .i64) 3 W b (fun k => b ≤ k) (.slice A n c) l) (hg : ∀ k, b ≤ k → k ≠ g) : ∀ ad, A = some ad → 0 < l.length → ad.block ≠ g := fun ad e _ => hg _ (h.1 _ (by rw [e]; rfl))
theorem spec_l9Draw.w1 {n : Nat} (h : (1 : Int) ≤ (n : Int)) (hn : n ≤ 9223372036854775807) : wrap64 ((n : Int) - 1) = ((n - 1 : Nat) : Int) := by
 unfold wrap64; omega
theorem spec_l9Draw.small {W : World} {b n cl : Nat} {A : Option Addr} {ok : Nat → Prop} {xs : List (List Int)} (h : Kd.N (Kd.slice 3 (Kd.int .i64)) 30 W b ok (.slice A n cl) xs) : xs.length ≤ 9223372036854775807 := Kd.C_max (Kd.N_reads' h).2.2
set_option maxHeartbeats 8000000 in
set_option maxRecDepth 100000 in
theorem spec_l9Draw.calls (k : Nat) (g : Nat) (s0_0 : List Int) (s0_1 : Int) (s0_2 : Int) (r1 : Int) (r2 : List (List Int)) (r3 : Int) (r4 : Int) (w0 w : World) (hI : IsS77 w0 w g s0_0 s0_1 s0_2) (hB : Below w0.heap.size w0 w) (h : spec_l9Draw.f k s0_0 s0_1 s0_2 = some (r1, r2, r3, r4)) :
  Calls Try.prog 29 #[.pointer (some ⟨g, 0, none⟩)] w fun e w' => ∃ v1_ : Value, e = .returned (.tuple #[.int .i64 r1, v1_]) ∧ Kd.N (Kd.slice 3 (Kd.int .i64)) 30 w' w.heap.size (fun k_ => (w.heap.size ≤ k_)) v1_ r2 ∧ IsS77 w0 w' g s0_0 r3 r4 ∧ Below w0.heap.size w0 w' ∧ KeepBut w w' g none := by
 have HI0 := Aside0.mk hI
 have HK := Aside0.mk (KeepBut.refl w g none)
 have HG : Aside0 (∀ k, w.heap.size ≤ k → k ≠ g) := ⟨IsS77.fresh hI⟩
 have HL := Aside0.mk hB.size
 clear hI
 have HB := Aside0.mk hB
 clear hB
 unfold spec_l9Draw.f at h
 replace h := Option.bind_eq_some_iff.mp h; obtain ⟨⟨tg, x1, y1⟩, A1, h⟩ := h
 replace h := Option.bind_eq_some_iff.mp h; obtain ⟨⟨tn, x2, y2⟩, A2, h⟩ := h
 replace h := Option.bind_eq_some_iff.mp h; obtain ⟨⟨la, x3, y3⟩, A3, h⟩ := h
 replace h := Option.bind_eq_some_iff.mp h; obtain ⟨⟨lb, x4, y4⟩, A4, h⟩ := h
 dsimp only at A1 A2 A3 A4 h
 have H := Aside0.mk h
 clear h
 replace A1 := Aside0.mk A1
 replace A2 := Aside0.mk A2
 replace A3 := Aside0.mk A3
 replace A4 := Aside0.mk A4
 go_enter Try.func29, Try.ntmps29
 go_upto_block 0 with (first | (refine gL 46 (some 12) Try.func46 #[.pointer (some ⟨g, 0, none⟩), .int .i64 3] ?_; (with_reducible refine (spec_l1Below.calls g s0_0 s0_1 s0_2 3 tg x1 y1 w0 _ ?side1 ?side2 A1.out).mono ?_); (case side1 => exact HI0.out); (case side2 => exact HB.out); rintro e w5 ⟨rfl, hi, hb, hk⟩; refine ⟨_, rfl, ?_⟩; have n0_ := Aside0.mk (KeepBut.trans HK.out hk (.inl rfl)); clear HI0 HB HK A1; have HI0 := Aside0.mk hi; have HB := Aside0.mk hb; have HK := n0_; clear hi hb hk n0_) | (refine gL 46 (some 14) Try.func46 #[.pointer (some ⟨g, 0, none⟩), .int .i64 4] ?_; (with_reducible refine (spec_l1Below.calls g s0_0 x1 y1 4 tn x2 y2 w0 _ ?side1 ?side2 A2.out).mono ?_); (case side1 => exact HI0.out); (case side2 => exact HB.out); rintro e w6 ⟨rfl, hi, hb, hk⟩; refine ⟨_, rfl, ?_⟩; have n0_ := Aside0.mk (KeepBut.trans HK.out hk (.inl rfl)); clear HI0 HB HK A2; have HI0 := Aside0.mk hi; have HB := Aside0.mk hb; have HK := n0_; clear hi hb hk n0_) | (refine gL 67 (some 18) Try.func67 #[.pointer (some ⟨g, 0, none⟩), .int .i64 (wrap64 (1 + tn))] ?_; (with_reducible refine (spec_l9Perm.calls k g s0_0 x2 y2 (wrap64 (1 + tn)) la x3 y3 w0 _ ?side1 ?side2 A3.out).mono ?_); (case side1 => exact HI0.out); (case side2 => exact HB.out); rintro e w7 ⟨va, rfl, ho, hi, hb, hk⟩; refine ⟨_, rfl, ?_⟩; obtain ⟨Aa, ca, rfl⟩ := Kd.R_slice ho; have n1_ := Aside0.mk (spec_l9Draw.up ho (keep_size HK.out)); have n0_ := Aside0.mk (KeepBut.trans HK.out hk (.inl rfl)); clear HI0 HB HK A3; have HI0 := Aside0.mk hi; have HB := Aside0.mk hb; have HK := n0_; have RA := n1_; clear hi hb hk n0_ n1_ ho) | (refine gL 67 (some 21) Try.func67 #[.pointer (some ⟨g, 0, none⟩), .int .i64 (wrap64 (1 + tn))] ?_; (with_reducible refine (spec_l9Perm.calls k g s0_0 x3 y3 (wrap64 (1 + tn)) lb x4 y4 w0 _ ?side1 ?side2 A4.out).mono ?_); (case side1 => exact HI0.out); (case side2 => exact HB.out); rintro e w8 ⟨vb, rfl, ho, hi, hb, hk⟩; refine ⟨_, rfl, ?_⟩; obtain ⟨Ab, cb, rfl⟩ := Kd.R_slice ho; have n1_ := Aside0.mk (spec_l9Draw.up ho (keep_size HK.out)); have n2_ := Aside0.mk (Kd.R_keep RA.out hk HG.out); have n0_ := Aside0.mk (KeepBut.trans HK.out hk (.inl rfl)); clear HI0 HB HK A4 RA; have HI0 := Aside0.mk hi; have HB := Aside0.mk hb; have HK := n0_; have RA := n2_; have RB := n1_; clear hi hb hk n0_ n1_ n2_ ho) | ((with_reducible refine gate_dst (N := 24) rfl ?_); refine Kd.N_lit (Kd.slice 3 (Kd.int .i64)) _ 30 ?hg (N' := 24) ?hd (xs := ([la, lb] : List (List Int))) (inner := [.slice Aa la.length ca, .slice Ab lb.length cb]) (ok := (fun k_ => (w.heap.size ≤ k_))) (okp := (fun k_ => (w.heap.size ≤ k_))) ?hr ?hp (fun _ hk => hk) (keep_size (HK.out)) (Below.refl _ _) (Nat.le_refl _) (by simp) ?_; (case hd => rfl); (case hg => rfl); (case hr => exact gS); (case hp => exact (Reps.one (show Kd.FK (Kd.slice 3 (Kd.int .i64)) _ _ la [.slice Aa la.length ca] from spec_l9Draw.fk (RA.out)) (Reps.one (show Kd.FK (Kd.slice 3 (Kd.int .i64)) _ _ lb [.slice Ab lb.length cb] from spec_l9Draw.fk (RB.out)) (Reps.none _ _)))); intro vl wl ho hb hg_ hnew_; have n0_ := Aside0.mk (Kd.N_lower ho (keep_size (HK.out))); have n1_ := Aside0.mk (IsS77.below (HI0.out) hb); have n2_ := Aside0.mk (KeepBut.trans (HK.out) (KeepBut.of_below hb g none) (.inl rfl)); have n3_ := Aside0.mk (below_step (HB.out) hb); have mRA_ := Aside0.mk (Kd.R_below (RA.out) hb); have mRB_ := Aside0.mk (Kd.R_below (RB.out) hb); clear hg_ hnew_ HI0 HK HB; (try clear HL1); have HL1 := n0_; have HI0 := n1_; have HK := n2_; have HB := n3_; clear n0_ n1_ n2_ n3_ hb ho; clear RA; have RA := mRA_; clear mRA_; clear RB; have RB := mRB_; clear mRB_))
 go_cut [8] from 9 (fun v8 w' => ∃ (l : List (List Int)) (x y : Int), Aside0 (spec_l9Draw.j0 k s0_0 x y (wrap64 (1 + tn)) tg l = some (r1, r2, r3, r4)) ∧ Aside0 (Kd.N (Kd.slice 3 (Kd.int .i64)) 30 w' w.heap.size (fun k_ => (w.heap.size ≤ k_)) v8 l) ∧ Aside0 (IsS77 w0 w' g s0_0 x y) ∧ Aside0 (KeepBut w w' g none) ∧ Aside0 (Below w0.heap.size w0 w'))
 case first =>
  by_cases c1 : tg = 1
  ·have c1b : (tg == 1) = true := beq_iff_eq.mpr c1
   have h := H.out
   rw [if_pos c1] at h
   replace h := Option.bind_eq_some_iff.mp h; obtain ⟨lp, A5, h⟩ := h
   replace h := Option.bind_eq_some_iff.mp h; obtain ⟨⟨bo, x5, y5⟩, A6, h⟩ := h
   dsimp only at A5 A6 h
   replace A5 := Aside0.mk A5
   replace A6 := Aside0.mk A6
   clear H c1 RB
   have H := Aside0.mk h
   clear h
   go_upto_region 8 with (first | ((with_reducible refine gate_dst (N := 28) rfl ?_); refine Kd.R_lit (Kd.int .i64) _ 3 ?hg (N := 28) ?hd (xs := ([] : List Int)) (inner := []) (ok := fun k => w.heap.size ≤ k) (okp := fun _ => False) ?hr ?hp (fun _ hk => hk.elim) (keep_size HK.out) (Below.refl _ _) (Nat.le_refl _) (by simp) ?_; (case hd => rfl); (case hg => rfl); (case hr => exact gS); (case hp => exact (Reps.none _ _)); intro vp wl ho hb hg_ hnew_; have n0_ := Aside0.mk (spec_l9Draw.ap RA.out ho (keep_size HK.out)); have n1_ := Aside0.mk (IsS77.below HI0.out hb); have n2_ := Aside0.mk (KeepBut.trans HK.out (KeepBut.of_below hb g none) (.inl rfl)); have n3_ := Aside0.mk (below_step HB.out hb); have n4_ := Aside0.mk (Kd.R_below RA.out hb); clear hg_ hnew_ HI0 HK HB RA; have RP := n0_; have HI0 := n1_; have HK := n2_; have HB := n3_; have RA := n4_; clear n0_ n1_ n2_ n3_ n4_ hb ho))
   repeat (first | go_values | go_skip | go_guarded | go_step | go_upon | go_back)
   go_loopg [9, 10] k (fun kq v9 v10 w' => ∃ (p : List Int) (s : Int), v10 = .int .i64 s ∧ Aside0 (spec_l9Draw.l0 kq la p s (wrap64 (1 + tn)) = some lp) ∧ Aside0 (kq ≤ k) ∧ Aside0 (Kd.R (Kd.int .i64) 3 w' w.heap.size (fun k_ => (w.heap.size ≤ k_) ∧ some k_ ≠ (Value.slice Aa la.length ca).ownBlock) v9 p) ∧ Aside0 (Kd.R (Kd.int .i64) 3 w' w.heap.size (fun k_ => (w.heap.size ≤ k_)) (.slice Aa la.length ca) la) ∧ Aside0 (IsS77 w0 w' g s0_0 x4 y4) ∧ Aside0 (KeepBut w w' g none) ∧ Aside0 (Below w0.heap.size w0 w'))
   case atStart => exact ⟨[], 0, (by first | rfl | simp), A5, ⟨Nat.le_refl _⟩, ⟨RP.out⟩, ⟨RA.out⟩, ⟨HI0.out⟩, ⟨HK.out⟩, ⟨HB.out⟩⟩
   case round =>
    clear RA RP HI0 HK HB
    obtain ⟨p, s, rfl, HA, HK1, RP, RA, HI0, HK, HB⟩ := hrel
    cases gk with
    | zero => exact absurd HA.out (by simp [spec_l9Draw.l0])
    | succ k1 =>
     have h := HA.out
     clear HA
     simp only [spec_l9Draw.l0] at h
     by_cases c2 : s < wrap64 (1 + tn)
     ·rw [if_pos c2] at h
      have c2b := decide_eq_true c2
      obtain ⟨q1, h⟩ := spec_l9Draw.gd h
      obtain ⟨q2, h⟩ := spec_l9Draw.gd h
      obtain ⟨q3, h⟩ := spec_l9Draw.gd h
      obtain ⟨q4, h⟩ := spec_l9Draw.gd h
      obtain ⟨q5, h⟩ := spec_l9Draw.gd h
      have HA := Aside0.mk h
      have HM := Aside0.mk q5
      clear h q5
      obtain ⟨ad, e1, hx1⟩ := Kd.at_int (Kd.R_reads' RA.out).2.2 s q1 q2
      obtain ⟨ad2, e2, hx2⟩ := Kd.at_int (Kd.R_reads' RA.out).2.2 (rd la s) q3 q4
      cases e1
      cases e2
      have q1b := eq_true q1
      have q2b := eq_true q2
      have q3b := eq_true q3
      have q4b := eq_true q4
      clear c2
      go_wp2_with (first | ((with_reducible refine gate_builtin (b := .append) (xs := #[.tmp 34, .tmp 42]) rfl ?_); at_builtin; refine Kd.R_append (Kd.int .i64) w.heap.size rfl (.tmp 34) (.tmp 42) 30 3 (.int .i64 0) 8 rfl Try.underlying30 info3 rfl (by decide) (by omega) u9 p (rd la (rd la s)) [.int .i64 (rd la (rd la s))] (fun k_ => (w.heap.size ≤ k_) ∧ some k_ ≠ (Value.slice (some ad) la.length ca).ownBlock) (fun _ => False) rfl rfl ?aP (fun _ hk => hk.elim) ?aF ?aO (Below.refl _ _) ?aS ?aL ?_; (case aP => exact rfl); (case aF => exact (fun k_ hk => ⟨Nat.le_trans (keep_size HK.out) hk, Kd.fresh' (Kd.R_lt (show Kd.R (Kd.int .i64) 3 _ w.heap.size (fun k_ => (w.heap.size ≤ k_)) _ la from RA.out)) k_ hk⟩)); (case aO => exact RP.out); (case aS => exact (keep_size HK.out)); (case aL => have := HM.out; omega); intro v1 w1 ho hb hg hat; have n0_ := Aside0.mk (IsS77.grown HI0.out hg (IsS77.own_ne HI0.out RP.out (by decide))); have n1_ := Aside0.mk (below_weaken HB.out HL.out hb); have n2_ := Aside0.mk (KeepBut.trans HK.out (KeepBut.of_grown hg g) (Kd.R_base2 RP.out)); have n4_ := Aside0.mk (spec_l9Draw.over (show Kd.R (Kd.int .i64) 3 _ w.heap.size (fun k_ => (w.heap.size ≤ k_)) _ la from RA.out) hg RP.out); clear HI0 HB HK RP RA; have HI0 := n0_; have HB := n1_; have HK := n2_; have RP := Aside0.mk ho; have RA := n4_; clear n0_ n1_ n2_ n4_ ho hb hg hat))
      go_roundg k1
      case measure => exact oK
      case rel => exact ⟨p ++ [rd la (rd la s)], wrap64 (s + 1), rS, HA, ⟨oK⟩, ⟨RP.out⟩, ⟨RA.out⟩, ⟨HI0.out⟩, ⟨HK.out⟩, ⟨HB.out⟩⟩
     ·rw [if_neg c2] at h
      have c2b := decide_eq_false c2
      clear c2
      obtain rfl := Option.some.inj h
      obtain ⟨Ap, cp, rfl⟩ := Kd.R_slice RP.out
      replace RP := Aside0.mk (Kd.R_mono RP.out (fun _ hk => hk.1))
      cases bo with
      | false =>
       go_wp2_with (first | ((with_reducible refine gate_dst (N := 46) rfl ?_); refine Kd.N_lit (Kd.slice 3 (Kd.int .i64)) _ 30 ?hg (N' := 46) ?hd (xs := ([la, p] : List (List Int))) (inner := [.slice Aa la.length ca, .slice Ap p.length cp]) (ok := (fun k_ => (w.heap.size ≤ k_))) (okp := (fun k_ => (w.heap.size ≤ k_))) ?hr ?hp (fun _ hk => hk) (keep_size (HK.out)) (Below.refl _ _) (Nat.le_refl _) (by simp) ?_; (case hd => rfl); (case hg => rfl); (case hr => exact gS); (case hp => exact (Reps.one (show Kd.FK (Kd.slice 3 (Kd.int .i64)) _ _ la [.slice Aa la.length ca] from spec_l9Draw.fk (RA.out)) (Reps.one (show Kd.FK (Kd.slice 3 (Kd.int .i64)) _ _ p [.slice Ap p.length cp] from spec_l9Draw.fk (RP.out)) (Reps.none _ _)))); intro vl wl ho hb hg_ hnew_; have n0_ := Aside0.mk (Kd.N_lower ho (keep_size (HK.out))); have n1_ := Aside0.mk (IsS77.below (HI0.out) hb); have n2_ := Aside0.mk (KeepBut.trans (HK.out) (KeepBut.of_below hb g none) (.inl rfl)); have n3_ := Aside0.mk (below_step (HB.out) hb); clear hg_ hnew_ HI0 HK HB; (try clear HL1); have HL1 := n0_; have HI0 := n1_; have HK := n2_; have HB := n3_; clear n0_ n1_ n2_ n3_ hb ho) | (refine gL 47 (some 48) Try.func47 #[.pointer (some ⟨g, 0, none⟩), .int .i64 4] ?_; (with_reducible refine (spec_l1Once.calls g s0_0 x4 y4 4 false x5 y5 w0 _ ?side1 ?side2 A6.out).mono ?_); (case side1 => exact HI0.out); (case side2 => exact HB.out); rintro e wq ⟨rfl, hi, hb, hk⟩; refine ⟨_, rfl, ?_⟩; have n0_ := Aside0.mk (KeepBut.trans (HK.out) hk (.inl rfl)); have mHL1_ := Aside0.mk (Kd.N_keep (HL1.out) hk HG.out); clear HI0 HB HK; have HI0 := Aside0.mk hi; have HB := Aside0.mk hb; have HK := n0_; clear hi hb hk n0_; (try clear HL1); have HL1 := mHL1_; clear mHL1_))
       go_meet
       case rel => exact ⟨_, _, _, (by simpa using H), ⟨HL1.out⟩, ⟨HI0.out⟩, ⟨HK.out⟩, ⟨HB.out⟩⟩
      | true =>
       go_wp2_with (first | ((with_reducible refine gate_dst (N := 46) rfl ?_); refine Kd.N_lit (Kd.slice 3 (Kd.int .i64)) _ 30 ?hg (N' := 46) ?hd (xs := ([la, p] : List (List Int))) (inner := [.slice Aa la.length ca, .slice Ap p.length cp]) (ok := (fun k_ => (w.heap.size ≤ k_))) (okp := (fun k_ => (w.heap.size ≤ k_))) ?hr ?hp (fun _ hk => hk) (keep_size (HK.out)) (Below.refl _ _) (Nat.le_refl _) (by simp) ?_; (case hd => rfl); (case hg => rfl); (case hr => exact gS); (case hp => exact (Reps.one (show Kd.FK (Kd.slice 3 (Kd.int .i64)) _ _ la [.slice Aa la.length ca] from spec_l9Draw.fk (RA.out)) (Reps.one (show Kd.FK (Kd.slice 3 (Kd.int .i64)) _ _ p [.slice Ap p.length cp] from spec_l9Draw.fk (RP.out)) (Reps.none _ _)))); intro vl wl ho hb hg_ hnew_; have n0_ := Aside0.mk (Kd.N_lower ho (keep_size (HK.out))); have n1_ := Aside0.mk (IsS77.below (HI0.out) hb); have n2_ := Aside0.mk (KeepBut.trans (HK.out) (KeepBut.of_below hb g none) (.inl rfl)); have n3_ := Aside0.mk (below_step (HB.out) hb); have mRA_ := Aside0.mk (Kd.R_below (RA.out) hb); clear hg_ hnew_ HI0 HK HB; (try clear HL1); have HL1 := n0_; have HI0 := n1_; have HK := n2_; have HB := n3_; clear n0_ n1_ n2_ n3_ hb ho; clear RA; have RA := mRA_; clear mRA_; obtain ⟨gl, cl, rfl, hlb, hlt, hty⟩ := Kd.N_form HL1.out (by simp); clear hty) | (refine gL 47 (some 48) Try.func47 #[.pointer (some ⟨g, 0, none⟩), .int .i64 4] ?_; (with_reducible refine (spec_l1Once.calls g s0_0 x4 y4 4 true x5 y5 w0 _ ?side1 ?side2 A6.out).mono ?_); (case side1 => exact HI0.out); (case side2 => exact HB.out); rintro e wq ⟨rfl, hi, hb, hk⟩; refine ⟨_, rfl, ?_⟩; have n0_ := Aside0.mk (KeepBut.trans (HK.out) hk (.inl rfl)); have mHL1_ := Aside0.mk (Kd.N_keep (HL1.out) hk HG.out); have mRA_ := Aside0.mk (Kd.R_keep (RA.out) hk HG.out); clear HI0 HB HK; have HI0 := Aside0.mk hi; have HB := Aside0.mk hb; have HK := n0_; clear hi hb hk n0_; (try clear HL1); have HL1 := mHL1_; clear mHL1_; (try clear RA); have RA := mRA_; clear mRA_) | ((with_reducible refine gate_store (t := 30) (p := 51) rfl ?_); obtain ⟨ce, hcl, _, hcc, _⟩ := Kd.N_elem HL1.out [] 1 (by omega) (by first | omega | (simp; done)); refine Kd.N_store (Kd.slice 3 (Kd.int .i64)) w.heap.size rfl rfl 30 (.tmp 51) (.tmp 50) rfl 30 1 0 [la,p] la (.slice Aa la.length ca) [.slice Aa la.length ca] ce (fun k => w.heap.size ≤ k) (fun k => w.heap.size ≤ k ∧ k ≠ gl) rfl rfl rfl rfl (by kernel_rfl) (by simp [Value.oneCell']) HL1.out (by omega) (by first | omega | (simp; done)) hcl hcc (Nat.le_refl 1) (spec_l9Draw.st hcl (spec_l9Draw.fk2 RA.out HL1.out)) (fun _ hk => hk) (Below.refl _ _) ?_; intro w1 ho hb hg; have n0_ := Aside0.mk (IsS77.grown (HI0.out) hg (IsS77.own_neN HI0.out HL1.out (by decide))); have n1_ := Aside0.mk (below_weaken (HB.out) HL.out hb); have n2_ := Aside0.mk (KeepBut.trans (HK.out) (KeepBut.of_grown hg g) (.inr ⟨gl, rfl, hlb⟩)); clear HI0 HB HK HL1; have HI0 := n0_; have HB := n1_; have HK := n2_; have HL1 := Aside0.mk ho; clear n0_ n1_ n2_ ho hb hg))
       go_meet
       case rel => exact ⟨_, _, _, (by simpa using H), ⟨HL1.out⟩, ⟨HI0.out⟩, ⟨HK.out⟩, ⟨HB.out⟩⟩
  ·have c1b : (tg == 1) = false := beq_eq_false_iff_ne.mpr c1
   have h := H.out
   rw [if_neg c1] at h
   by_cases c2 : tg = 2
   ·have c2b : (tg == 2) = true := beq_iff_eq.mpr c2
    rw [if_pos c2] at h
    clear c1 c2
    go_wp2_with (first | ((with_reducible refine gate_dst (N := 59) rfl ?_); refine Kd.N_lit (Kd.slice 3 (Kd.int .i64)) _ 30 ?hg (N' := 59) ?hd (xs := ([la, lb, lb, la] : List (List Int))) (inner := [.slice Aa la.length ca, .slice Ab lb.length cb, .slice Ab lb.length cb, .slice Aa la.length ca]) (ok := (fun k_ => (w.heap.size ≤ k_))) (okp := (fun k_ => (w.heap.size ≤ k_))) ?hr ?hp (fun _ hk => hk) (keep_size (HK.out)) (Below.refl _ _) (Nat.le_refl _) (by simp) ?_; (case hd => rfl); (case hg => rfl); (case hr => exact gS); (case hp => exact (Reps.one (show Kd.FK (Kd.slice 3 (Kd.int .i64)) _ _ la [.slice Aa la.length ca] from spec_l9Draw.fk (RA.out)) (Reps.one (show Kd.FK (Kd.slice 3 (Kd.int .i64)) _ _ lb [.slice Ab lb.length cb] from spec_l9Draw.fk (RB.out)) (Reps.one (show Kd.FK (Kd.slice 3 (Kd.int .i64)) _ _ lb [.slice Ab lb.length cb] from spec_l9Draw.fk (RB.out)) (Reps.one (show Kd.FK (Kd.slice 3 (Kd.int .i64)) _ _ la [.slice Aa la.length ca] from spec_l9Draw.fk (RA.out)) (Reps.none _ _)))))); intro vl wl ho hb hg_ hnew_; have n0_ := Aside0.mk (Kd.N_lower ho (keep_size (HK.out))); have n1_ := Aside0.mk (IsS77.below (HI0.out) hb); have n2_ := Aside0.mk (KeepBut.trans (HK.out) (KeepBut.of_below hb g none) (.inl rfl)); have n3_ := Aside0.mk (below_step (HB.out) hb); clear hg_ hnew_ HI0 HK HB; (try clear HL1); have HL1 := n0_; have HI0 := n1_; have HK := n2_; have HB := n3_; clear n0_ n1_ n2_ n3_ hb ho))
    go_meet
    case rel => exact ⟨_, _, _, ⟨h⟩, ⟨HL1.out⟩, ⟨HI0.out⟩, ⟨HK.out⟩, ⟨HB.out⟩⟩
   ·have c2b : (tg == 2) = false := beq_eq_false_iff_ne.mpr c2
    rw [if_neg c2] at h
    clear c1 c2
    go_wp2
    go_meet
    case rel => exact ⟨_, _, _, ⟨h⟩, ⟨HL1.out⟩, ⟨HI0.out⟩, ⟨HK.out⟩, ⟨HB.out⟩⟩
 case rest =>
  clear H HL1 RA RB HI0 HK HB
  obtain ⟨l, x, y, HJ, HL1, HI0, HK, HB⟩ := hcut
  have h := HJ.out
  clear HJ
  unfold spec_l9Draw.j0 at h
  replace h := Option.bind_eq_some_iff.mp h; obtain ⟨⟨tb, x5, y5⟩, A5, h⟩ := h
  dsimp only at A5 h
  replace A5 := Aside0.mk A5
  by_cases c0 : tb = 0
  ·have c0b : (tb == 0) = true := beq_iff_eq.mpr c0
   rw [if_pos c0] at h
   replace h := Option.bind_eq_some_iff.mp h; obtain ⟨⟨lq, x6, y6⟩, A6, h⟩ := h
   dsimp only at A6 h
   replace A6 := Aside0.mk A6
   obtain ⟨q0, h⟩ := spec_l9Draw.gd h
   simp only [Option.some.injEq, Prod.mk.injEq] at h
   obtain ⟨rfl, rfl, rfl, rfl⟩ := h
   obtain ⟨gl, cl, rfl, hlb, hlt, hty⟩ := Kd.N_form HL1.out (by omega)
   have q0b := eq_true q0
   clear c0 hty
   go_wp2_with (first | (refine gL 46 (some 61) Try.func46 #[.pointer (some ⟨g, 0, none⟩), .int .i64 16] ?_; (with_reducible refine (spec_l1Below.calls g s0_0 x y 16 tb x5 y5 w0 _ ?side1 ?side2 A5.out).mono ?_); (case side1 => exact HI0.out); (case side2 => exact HB.out); rintro e wq ⟨rfl, hi, hb, hk⟩; refine ⟨_, rfl, ?_⟩; have n0_ := Aside0.mk (KeepBut.trans (HK.out) hk (.inl rfl)); have mHL1_ := Aside0.mk (Kd.N_keep (HL1.out) hk HG.out); clear HI0 HB HK; have HI0 := Aside0.mk hi; have HB := Aside0.mk hb; have HK := n0_; clear hi hb hk n0_; (try clear HL1); have HL1 := mHL1_; clear mHL1_) | (refine gL 67 (some 67) Try.func67 #[.pointer (some ⟨g, 0, none⟩), .int .i64 (wrap64 (1 + tn))] ?_; (with_reducible refine (spec_l9Perm.calls k g s0_0 x5 y5 (wrap64 (1 + tn)) lq x6 y6 w0 _ ?side1 ?side2 A6.out).mono ?_); (case side1 => exact HI0.out); (case side2 => exact HB.out); rintro e wq ⟨vq, rfl, ho, hi, hb, hk⟩; refine ⟨_, rfl, ?_⟩; have n0_ := Aside0.mk (KeepBut.trans (HK.out) hk (.inl rfl)); have mHL1_ := Aside0.mk (Kd.N_keep (HL1.out) hk HG.out); have mRQ_ := Aside0.mk (spec_l9Draw.up ho (keep_size (HK.out))); clear HI0 HB HK; have HI0 := Aside0.mk hi; have HB := Aside0.mk hb; have HK := n0_; clear hi hb hk n0_; (try clear HL1); have HL1 := mHL1_; clear mHL1_; (try clear RQ); have RQ := mRQ_; clear mRQ_; obtain ⟨Aq, cq, rfl⟩ := Kd.R_slice ho; clear ho) | ((with_reducible refine gate_store (t := 30) (p := 68) rfl ?_); obtain ⟨ce, hcl, _, hcc, _⟩ := Kd.N_elem HL1.out [] 0 (by omega) (by first | omega | (simp; done)); refine Kd.N_store (Kd.slice 3 (Kd.int .i64)) w.heap.size rfl rfl 30 (.tmp 68) (.tmp 67) rfl 30 0 0 l lq (.slice Aq lq.length cq) [.slice Aq lq.length cq] ce (fun k => w.heap.size ≤ k) (fun k => w.heap.size ≤ k ∧ k ≠ gl) rfl rfl rfl rfl (by kernel_rfl) (by simp [Value.oneCell']) HL1.out (by omega) (by first | omega | (simp; done)) hcl hcc (Nat.le_refl 1) (spec_l9Draw.st hcl (spec_l9Draw.fk2 RQ.out HL1.out)) (fun _ hk => hk) (Below.refl _ _) ?_; intro w1 ho hb hg; have n0_ := Aside0.mk (IsS77.grown (HI0.out) hg (IsS77.own_neN HI0.out HL1.out (by decide))); have n1_ := Aside0.mk (below_weaken (HB.out) HL.out hb); have n2_ := Aside0.mk (KeepBut.trans (HK.out) (KeepBut.of_grown hg g) (.inr ⟨gl, rfl, hlb⟩)); clear HI0 HB HK HL1; have HI0 := n0_; have HB := n1_; have HK := n2_; have HL1 := Aside0.mk ho; clear n0_ n1_ n2_ ho hb hg))
   go_ret2
   exact ⟨_, by first | rfl | (simp; done), HL1.out, HI0.out, HB.out, HK.out⟩
  ·have c0b : (tb == 0) = false := beq_eq_false_iff_ne.mpr c0
   rw [if_neg c0] at h
   clear c0
   by_cases c1 : tb = 1
   ·have c1b : (tb == 1) = true := beq_iff_eq.mpr c1
    rw [if_pos c1] at h
    obtain ⟨q0, h⟩ := spec_l9Draw.gd h
    simp only [Option.some.injEq, Prod.mk.injEq] at h
    obtain ⟨rfl, rfl, rfl, rfl⟩ := h
    obtain ⟨gl, cl, rfl, hlb, hlt, hty⟩ := Kd.N_form HL1.out (by omega)
    obtain ⟨_, hcap, _⟩ := Kd.N_reads' HL1.out
    have e1 : wrap64 ((l.length : Int) - 1) = ((l.length - 1 : Nat) : Int) := spec_l9Draw.w1 q0 (spec_l9Draw.small HL1.out)
    have q2 : (0 : Int) ≤ wrap64 ((l.length : Int) - 1) := by rw [e1]; omega
    have q3 : wrap64 ((l.length : Int) - 1) ≤ (l.length : Int) := by rw [e1]; omega
    obtain ⟨i30, hi30, _, hsz30, _⟩ := info_parts info30
    have hcut := cut_to (P := Try.prog) 24 30 .i64 Try.underlying24 hi30 (some ⟨gl, 0, none⟩) l.length cl (wrap64 ((l.length : Int) - 1)) q2 q3 hcap
    rw [e1] at hcut q2 q3
    rw [Int.toNat_natCast] at hcut
    have q2b := eq_true q2
    have q3b := eq_true q3
    clear c1 hty q2 q3 hi30 hsz30
    go_wp2_with (first | (refine gL 46 (some 61) Try.func46 #[.pointer (some ⟨g, 0, none⟩), .int .i64 16] ?_; (with_reducible refine (spec_l1Below.calls g s0_0 x y 16 tb x5 y5 w0 _ ?side1 ?side2 A5.out).mono ?_); (case side1 => exact HI0.out); (case side2 => exact HB.out); rintro e wq ⟨rfl, hi, hb, hk⟩; refine ⟨_, rfl, ?_⟩; have n0_ := Aside0.mk (KeepBut.trans (HK.out) hk (.inl rfl)); have mHL1_ := Aside0.mk (Kd.N_keep (HL1.out) hk HG.out); clear HI0 HB HK; have HI0 := Aside0.mk hi; have HB := Aside0.mk hb; have HK := n0_; clear hi hb hk n0_; (try clear HL1); have HL1 := mHL1_; clear mHL1_))
    go_ret2
    exact ⟨_, by first | rfl | (simp; done), (Kd.N_take HL1.out (by omega)), HI0.out, HB.out, HK.out⟩
   ·have c1b : (tb == 1) = false := beq_eq_false_iff_ne.mpr c1
    rw [if_neg c1] at h
    clear c1
    by_cases c2 : tb = 2
    ·have c2b : (tb == 2) = true := beq_iff_eq.mpr c2
     rw [if_pos c2] at h
     replace h := Option.bind_eq_some_iff.mp h; obtain ⟨⟨tq, x6, y6⟩, A6, h⟩ := h
     dsimp only at A6 h
     replace A6 := Aside0.mk A6
     simp only [Option.some.injEq, Prod.mk.injEq] at h
     obtain ⟨rfl, rfl, rfl, rfl⟩ := h
     clear c2
     go_wp2_with (first | (refine gL 46 (some 61) Try.func46 #[.pointer (some ⟨g, 0, none⟩), .int .i64 16] ?_; (with_reducible refine (spec_l1Below.calls g s0_0 x y 16 tb x5 y5 w0 _ ?side1 ?side2 A5.out).mono ?_); (case side1 => exact HI0.out); (case side2 => exact HB.out); rintro e wq ⟨rfl, hi, hb, hk⟩; refine ⟨_, rfl, ?_⟩; have n0_ := Aside0.mk (KeepBut.trans (HK.out) hk (.inl rfl)); have mHL1_ := Aside0.mk (Kd.N_keep (HL1.out) hk HG.out); clear HI0 HB HK; have HI0 := Aside0.mk hi; have HB := Aside0.mk hb; have HK := n0_; clear hi hb hk n0_; (try clear HL1); have HL1 := mHL1_; clear mHL1_) | ((with_reducible refine gate_dst (N := 79) rfl ?_); refine Kd.R_lit (Kd.int .i64) _ 3 ?hg (N := 79) ?hd (xs := ([(-1), 3, 0, 1] : List Int)) (inner := [.int .i64 (-1), .int .i64 3, .int .i64 0, .int .i64 1]) (ok := fun k => w.heap.size ≤ k) (okp := fun _ => False) ?hr ?hp (fun _ hk => hk.elim) (keep_size (HK.out)) (Below.refl _ _) (Nat.le_refl _) (by simp) ?_; (case hd => rfl); (case hg => rfl); (case hr => exact gS); (case hp => exact (Reps.one (show Kd.M (Kd.int .i64) _ _ _ (-1) [.int .i64 (-1)] from rfl) (Reps.one (show Kd.M (Kd.int .i64) _ _ _ 3 [.int .i64 3] from rfl) (Reps.one (show Kd.M (Kd.int .i64) _ _ _ 0 [.int .i64 0] from rfl) (Reps.one (show Kd.M (Kd.int .i64) _ _ _ 1 [.int .i64 1] from rfl) (Reps.none _ _)))))); intro vz wl ho hb hg_ hnew_; have n0_ := Aside0.mk (Kd.R_lower ho (keep_size (HK.out))); have n1_ := Aside0.mk (IsS77.below (HI0.out) hb); have n2_ := Aside0.mk (KeepBut.trans (HK.out) (KeepBut.of_below hb g none) (.inl rfl)); have n3_ := Aside0.mk (below_step (HB.out) hb); have n4_ := Aside0.mk (Kd.N_below (HL1.out) hb); clear hg_ hnew_ HI0 HK HB HL1; have RZ := n0_; have HI0 := n1_; have HK := n2_; have HB := n3_; have HL1 := n4_; clear n0_ n1_ n2_ n3_ n4_ hb ho; obtain ⟨Al, cl, rfl⟩ := Kd.R_slice RZ.out) | (refine gL 68 (some 80) Try.func68 #[.pointer (some ⟨g, 0, none⟩), .slice Al ([(-1), 3, 0, 1] : List Int).length cl] ?_; (with_reducible refine (spec_l1PickInt.calls g s0_0 x5 y5 Al cl [(-1), 3, 0, 1] tq x6 y6 w0 _ ?side1 ?side2 ?side3 ?side4 ?side5 A6.out).mono ?_); (case side1 => exact HI0.out); (case side2 => exact HB.out); (case side3 => exact (Kd.R_reads' RZ.out).2.2); (case side4 => exact (Kd.R_reads' RZ.out).2.1); (case side5 => exact spec_l9Draw.away RZ.out HG.out); rintro e wq ⟨rfl, hi, hb, hk⟩; refine ⟨_, rfl, ?_⟩; have n0_ := Aside0.mk (KeepBut.trans (HK.out) hk (.inl rfl)); have mHL1_ := Aside0.mk (Kd.N_keep (HL1.out) hk HG.out); clear HI0 HB HK; have HI0 := Aside0.mk hi; have HB := Aside0.mk hb; have HK := n0_; clear hi hb hk n0_; (try clear HL1); have HL1 := mHL1_; clear mHL1_))
     go_ret2
     exact ⟨_, by first | rfl | (simp; done), HL1.out, HI0.out, HB.out, HK.out⟩
    ·have c2b : (tb == 2) = false := beq_eq_false_iff_ne.mpr c2
     rw [if_neg c2] at h
     simp only [Option.some.injEq, Prod.mk.injEq] at h
     obtain ⟨rfl, rfl, rfl, rfl⟩ := h
     clear c2
     go_wp2_with (first | (refine gL 46 (some 61) Try.func46 #[.pointer (some ⟨g, 0, none⟩), .int .i64 16] ?_; (with_reducible refine (spec_l1Below.calls g s0_0 x y 16 tb x5 y5 w0 _ ?side1 ?side2 A5.out).mono ?_); (case side1 => exact HI0.out); (case side2 => exact HB.out); rintro e wq ⟨rfl, hi, hb, hk⟩; refine ⟨_, rfl, ?_⟩; have n0_ := Aside0.mk (KeepBut.trans (HK.out) hk (.inl rfl)); have mHL1_ := Aside0.mk (Kd.N_keep (HL1.out) hk HG.out); clear HI0 HB HK; have HI0 := Aside0.mk hi; have HB := Aside0.mk hb; have HK := n0_; clear hi hb hk n0_; (try clear HL1); have HL1 := mHL1_; clear mHL1_))
     go_ret2
     exact ⟨_, by first | rfl | (simp; done), HL1.out, HI0.out, HB.out, HK.out⟩

/-! ### spec_l1New: function 30 -/
def spec_l1New.l0 : Nat → List Int → Int → Int → Option (List Int × Int × Int)
 | 0, _, _, _ => none
 | k + 1, x0, x3, x4 => if x4 < (x0.length : Int) then (if x4 < 4000 then (if 0 ≤ x4 then (spec_l1New.l0 k x0 (Go.bits .and .i64 (wrap64 ((wrap64 ((wrap64 (x3 * 131)) + (wrap64 (rd x0 x4)))) + 7)) 1073741823) (wrap64 (x4 + 1))) else (none)) else (some (x0, 0, x3))) else (some (x0, 0, x3))
def spec_l1New.f (k : Nat) (l0 : List Int) : Option (List Int × Int × Int) := spec_l1New.l0 k l0 (wrap64 (26583 + (l0.length : Int))) 0
set_option maxHeartbeats 8000000 in
set_option maxRecDepth 100000 in
theorem spec_l1New.calls (k : Nat) (A0 : Option Addr) (c0 : Nat) (l0 : List Int) (r1 : List Int) (r2 : Int) (r3 : Int) (w0 w : World) (hB : Below w0.heap.size w0 w) (hr0 : Kd.C (Kd.int .u8) w0 A0 l0.length l0) (hc0 : l0.length ≤ c0) (h : spec_l1New.f k l0 = some (r1, r2, r3)) :
  Calls Try.prog 30 #[.slice A0 l0.length c0] w fun e w' => ∃ g_ : Nat, e = .returned (.pointer (some ⟨g_, 0, none⟩)) ∧ IsS77 w0 w' g_ r1 r2 r3 ∧ Below w0.heap.size w0 w' ∧ Below w.heap.size w w' := by
 have hu77 := Try.underlying77
 have HR0 := Aside0.mk hr0
 have HC0 := Aside0.mk hc0
 clear hr0 hc0
 have HBW := Aside0.mk (Below.refl w.heap.size w)
 have HW0 := Aside0.mk hB.size
 have HB := Aside0.mk hB
 clear hB
 have H : (spec_l1New.l0 k l0 (wrap64 (26583 + (l0.length : Int))) 0) = some (r1, r2, r3) := h
 clear h
 have H' := Aside0.mk H
 clear H
 go_enter Try.func30, Try.ntmps30
 go_wp2
 go_loopg [3, 4] k (fun kq v3 v4 w' => ∃ (x3_1 : Int) (x4_1 : Int), v3 = .int .i64 x3_1 ∧ v4 = .int .i64 x4_1 ∧ Aside0 (spec_l1New.l0 kq l0 x3_1 x4_1 = some (r1, r2, r3)) ∧ Aside0 (kq ≤ k) ∧ Aside0 (Below w0.heap.size w0 w') ∧ Aside0 (Below w.heap.size w w'))
 case atStart => exact ⟨(wrap64 (26583 + (l0.length : Int))), (0), rS, rS, H', ⟨Nat.le_refl _⟩, ⟨tb⟩, ⟨by repeat (first | (with_reducible first | exact HBW.out | apply below_alloc | apply pw_below_drewN | apply below_drew1) | exact HBW.out)⟩⟩
 case round =>
  clear H'
  obtain ⟨x3_1, x4_1, rfl, rfl, HA, HK1, HB, HBW⟩ := hrel
  cases gk with
  | zero => exact absurd HA.out (by simp [spec_l1New.l0])
  | succ k1 =>
   have H := HA.out
   clear HA
   simp only [spec_l1New.l0] at H
   obtain ⟨c2b0, H⟩ | ⟨c2b0, H⟩ := gi H
   ·obtain ⟨c3b0, H⟩ | ⟨c3b0, H⟩ := gi H
    ·obtain ⟨c4b0, H⟩ := gdt H
     have H' := Aside0.mk H
     clear H
     have p149 : 0 ≤ (x4_1 : Int) := dT
     have q149 : x4_1 < (l0.length : Int) := dT
     obtain ⟨ad149, e149, hx149_0⟩ := Kd.at_int HR0.out x4_1 p149 q149
     cases e149
     replace hx149_0 := pw_cell_below HB.out hx149_0
     replace p149 := eq_true p149
     replace q149 := eq_true q149
     go_wp2
     go_roundg k1
     case measure => exact oK
     case rel => exact ⟨(Go.bits .and .i64 (wrap64 ((wrap64 ((wrap64 (x3_1 * 131)) + (wrap64 (rd l0 x4_1)))) + 7)) 1073741823), (wrap64 (x4_1 + 1)), rS, rS, H', ⟨oK⟩, ⟨tb⟩, ⟨by repeat (first | (with_reducible first | exact HBW.out | apply below_alloc | apply pw_below_drewN | apply below_drew1) | exact HBW.out)⟩⟩
    ·simp only [Option.some.injEq, Prod.mk.injEq] at H
     obtain ⟨rfl, rfl, rfl⟩ := H
     go_wp2_with (first | ((with_reducible refine gate_dst (N := 31) rfl ?_); refine box_event ?hg (N := 31) ?hd (cs := #[.slice A0 l0.length c0, .int .i64 0, .int .i64 x3_1]) (t := 77) ?hr ?_; (case hd => rfl); (case hg => rfl); (case hr => exact gS); intro gb150 hg w5 hbox hb; replace HB := Aside0.mk (below_step tb hb); have BK150 := Aside0.mk (hbox); have GW150 := Aside0.mk ((by rw [hg]; exact (below_size (by repeat (first | (with_reducible first | exact HBW.out | apply below_alloc | apply pw_below_drewN | apply below_drew1) | exact HBW.out))) : w.heap.size ≤ gb150)); have GE150 := Aside0.mk ((Nat.le_trans HW0.out (by rw [hg]; exact (below_size (by repeat (first | (with_reducible first | exact HBW.out | apply below_alloc | apply pw_below_drewN | apply below_drew1) | exact HBW.out))) : w.heap.size ≤ gb150) : w0.heap.size ≤ gb150)); replace HBW := Aside0.mk (below_step HBW.out hb); clear hb hbox hg))
     go_ret
     exact ⟨_, rfl, (show IsS77 w0 _ gb150 l0 0 x3_1 from ⟨_, _, by (with_reducible repeat (first | refine blk_drewN ?_ _ | refine blk_drew ?_ | refine blk_alloc ?_ _)); exact BK150.out, GE150.out, HR0.out⟩), tG1 GE150.out, by repeat (first | (with_reducible first | exact HBW.out | apply below_alloc | apply pw_below_drewN | apply below_drew1 | refine below_set ?_ GW150.out) | exact HBW.out)⟩
   ·simp only [Option.some.injEq, Prod.mk.injEq] at H
    obtain ⟨rfl, rfl, rfl⟩ := H
    go_wp2_with (first | ((with_reducible refine gate_dst (N := 31) rfl ?_); refine box_event ?hg (N := 31) ?hd (cs := #[.slice A0 l0.length c0, .int .i64 0, .int .i64 x3_1]) (t := 77) ?hr ?_; (case hd => rfl); (case hg => rfl); (case hr => exact gS); intro gb151 hg w6 hbox hb; replace HB := Aside0.mk (below_step tb hb); have BK151 := Aside0.mk (hbox); have GW151 := Aside0.mk ((by rw [hg]; exact (below_size (by repeat (first | (with_reducible first | exact HBW.out | apply below_alloc | apply pw_below_drewN | apply below_drew1) | exact HBW.out))) : w.heap.size ≤ gb151)); have GE151 := Aside0.mk ((Nat.le_trans HW0.out (by rw [hg]; exact (below_size (by repeat (first | (with_reducible first | exact HBW.out | apply below_alloc | apply pw_below_drewN | apply below_drew1) | exact HBW.out))) : w.heap.size ≤ gb151) : w0.heap.size ≤ gb151)); replace HBW := Aside0.mk (below_step HBW.out hb); clear hb hbox hg))
    go_ret
    exact ⟨_, rfl, (show IsS77 w0 _ gb151 l0 0 x3_1 from ⟨_, _, by (with_reducible repeat (first | refine blk_drewN ?_ _ | refine blk_drew ?_ | refine blk_alloc ?_ _)); exact BK151.out, GE151.out, HR0.out⟩), tG1 GE151.out, by repeat (first | (with_reducible first | exact HBW.out | apply below_alloc | apply pw_below_drewN | apply below_drew1 | refine below_set ?_ GW151.out) | exact HBW.out)⟩

/-! ### spec_DrawCoverOf: function 5 -/
def spec_DrawCoverOf.f (k : Nat) (l0 : List Int) : Option (Int × (List (List Int))) := (spec_l1New.f k l0).bind fun bt152 => ((spec_l9Draw.f k bt152.1 bt152.2.1 bt152.2.2).bind fun bt156 => (some (bt156.1, bt156.2.1)))
set_option maxHeartbeats 8000000 in
set_option maxRecDepth 100000 in
theorem spec_DrawCoverOf.calls (k : Nat) (A0 : Option Addr) (c0 : Nat) (l0 : List Int) (r1 : Int) (r2 : List (List Int)) (w : World) (hr0 : Kd.C (Kd.int .u8) w A0 l0.length l0) (hc0 : l0.length ≤ c0) (h : spec_DrawCoverOf.f k l0 = some (r1, r2)) :
  Calls Try.prog 5 #[.slice A0 l0.length c0] w fun e w' => ∃ v1_ : Value, e = .returned (.tuple #[.int .i64 r1, v1_]) ∧ Kd.N (Kd.slice 3 (Kd.int .i64)) 30 w' w.heap.size (fun k_ => (w.heap.size ≤ k_)) v1_ r2 ∧ Below w.heap.size w w' := by
 have HR0 := Aside0.mk hr0
 have HC0 := Aside0.mk hc0
 clear hr0 hc0
 have HB := Aside0.mk (Below.refl w.heap.size w)
 have H : ((spec_l1New.f k l0).bind fun bt152 => ((spec_l9Draw.f k bt152.1 bt152.2.1 bt152.2.2).bind fun bt156 => (some (bt156.1, bt156.2.1)))) = some (r1, r2) := h
 clear h
 obtain ⟨⟨t152, t153, t154⟩, A2, H⟩ := bs H
 try dsimp only at H
 obtain ⟨⟨t156, t157, t160, t161⟩, A3, H⟩ := bs H
 try dsimp only at H
 simp only [Option.some.injEq, Prod.mk.injEq] at H
 obtain ⟨rfl, rfl⟩ := H
 go_enter Try.func5, Try.ntmps5
 go_wp2_with (first | (refine gL 30 (some 8) Try.func30 #[.slice A0 l0.length c0] ?_; (with_reducible refine (spec_l1New.calls k _ _ l0 t152 t153 t154 w _ ?side1 ?side2 ?side3 A2.out).mono ?_); (case side1 => exact tb); (case side2 => exact HR0.out); (case side3 => exact HC0.out); rintro e w4 ⟨g155, rfl, hi, hb, hb2⟩; refine ⟨_, rfl, ?_⟩; replace HB := Aside0.mk (hb); have HI155 := Aside0.mk (hi)) | (refine gL 29 (some 9) Try.func29 #[.pointer (some ⟨g155, 0, none⟩)] ?_; (with_reducible refine (spec_l9Draw.calls k g155 t152 t153 t154 t156 t157 t160 t161 w _ ?side1 ?side2 A3.out).mono ?_); (case side1 => repeat (first | (with_reducible first | exact HI155.out | apply IsS77.alloc | apply IsS77.drewN | apply IsS77.drew | apply IsS77.set_1 | apply IsS77.set_2) | exact HI155.out)); (case side2 => repeat (first | (with_reducible first | exact HB.out | apply below_alloc | apply pw_below_drewN | apply below_drew1 | refine below_set ?_ (IsS77.ge HI155.out)) | exact HB.out)); rintro e w5 ⟨v158, rfl, ho0, hi, hb, hk⟩; refine ⟨_, rfl, ?_⟩; have HO159 := Aside0.mk (Kd.N_lower (Kd.N_mono (ok' := fun k_ => (w.heap.size ≤ k_) ∧ k_ ≠ g155) ho0 (fun k_ hk_ => ⟨(Nat.le_trans (below_size (by repeat (first | (with_reducible first | exact HB.out | apply below_alloc | apply pw_below_drewN | apply below_drew1 | refine below_set ?_ (IsS77.ge HI155.out)) | exact HB.out))) hk_), (IsS77.fresh (by repeat (first | (with_reducible first | exact HI155.out | apply IsS77.alloc | apply IsS77.drewN | apply IsS77.drew | apply IsS77.set_1 | apply IsS77.set_2) | exact HI155.out)) k_ hk_)⟩)) (below_size (by repeat (first | (with_reducible first | exact HB.out | apply below_alloc | apply pw_below_drewN | apply below_drew1 | refine below_set ?_ (IsS77.ge HI155.out)) | exact HB.out)))); replace HB := Aside0.mk (hb); replace HI155 := Aside0.mk (hi)))
 go_ret2
 exact ⟨_, rE, N_l (Kd.N_mono HO159.out (fun _ hk => hk.1)), by repeat (first | (with_reducible first | exact HB.out | apply below_alloc | apply pw_below_drewN | apply below_drew1 | refine below_set ?_ (IsS77.ge HI155.out)) | exact HB.out)⟩

end Go.Proofs.Ytepogblkmiidnaa.PFnCovers
