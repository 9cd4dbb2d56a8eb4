import Derived.Test.YtomjfejacjphnaaDoorWSpanB
import Derived.Test.YtomjfejacjphnaaDoorPFnSlopesx0
import Derived.Test.YtomjfejacjphnaaDoorPFnSlopesx2
import Derived.Test.YtomjfejacjphnaaDoorPFnSlopesx3
namespace Go.Proofs.YtomjfejacjphnaaDoor.PFnSlopes
open Go.RowKit Go.Proofs.YtomjfejacjphnaaDoorW.PrintWords Go.Proofs.YtomjfejacjphnaaDoorW.PrintLast Go.Proofs.YtomjfejacjphnaaDoorW.PrintMore
attribute [local go_sem] max2_int min2_int max_two min_two max_three min_three max_four min_four   -- for this text's walks alone
set_option linter.unusedVariables false
set_option linter.unusedSimpArgs false

/-! ### spec_l12Two: function 30 -/
def spec_l12Two.j0 : Nat → Bool → List Int → Int → Int → Int → Int → Int → Int → Option (Int × Int × Int × Int)
 | 0, _, _, _, _, _, _, _, _ => none
 | k + 1, x29, x184000, x184001, x184002, x189000, x189001, x199000, x199001 => if x29 = true then (some (x189000, x189001, x199000, x199001)) else ((spec_SlopeOf.f k x189000 (wrap64 (x189001 + 1))).bind fun bt202 => (if bt202.2.2 = true then (some (x189000, x189001, bt202.1, bt202.2.1)) else ((spec_l12Draw.f k x184000 x184001 x184002).bind fun bt206 => (some (x189000, x189001, bt206.1, bt206.2.1)))))
def spec_l12Two.f (k : Nat) (l0 : List Int) : Option (Int × Int × Int × Int) := (spec_l1New.f k l0).bind fun bt180 => ((spec_l12Draw.f k bt180.1 bt180.2.1 bt180.2.2).bind fun bt184 => ((spec_l1Once.f bt180.1 bt184.2.2.1 bt184.2.2.2 2).bind fun bt189 => (if bt189.1 = true then ((spec_l1Below.f bt180.1 bt189.2.1 bt189.2.2 5).bind fun bt192 => ((spec_TwistSlope.f k bt184.1 bt184.2.1 0 1 (wrap64 (bt192.1 - 2))).bind fun bt195 => (if bt195.2.2 = true then ((spec_l1Once.f bt180.1 bt192.2.1 bt192.2.2 2).bind fun bt199 => (spec_l12Two.j0 k bt199.1 bt180.1 bt199.2.1 bt199.2.2 bt184.1 bt184.2.1 bt195.1 bt195.2.1)) else (spec_l12Two.j0 k false bt180.1 bt192.2.1 bt192.2.2 bt184.1 bt184.2.1 bt195.1 bt195.2.1)))) else ((spec_l12Draw.f k bt180.1 bt189.2.1 bt189.2.2).bind fun bt210 => (some (bt184.1, bt184.2.1, bt210.1, bt210.2.1))))))
def spec_l12Two.T4 : Bool × List (List Nat × List Nat) := (true, [([], []), ([], []), ([], []), ([2], [2]), ([3], [3]), ([0, 1, 4, 3], [0, 1, 4]), ([5], [5]), ([6], [6]), ([6], [6]), ([], []), ([9, 7, 5, 0, 1, 2, 3, 4, 5, 6, 7, 9], [7, 9]), ([8, 10, 0, 1, 2, 3, 4, 5, 6, 7, 8, 9, 10], [8])])
def spec_l12Two.B4 : List Nat := [0, 0, 0, 4, 12, 31, 63, 127, 127, 0, 767, 2047]
theorem spec_l12Two.tab4 : rtab .any (opsOf Tryd.f30 4) = spec_l12Two.T4 := by kernel_rfl
theorem spec_l12Two.bits4 : waitsOk spec_l12Two.T4.2 spec_l12Two.B4 = true := by kernel_rfl
set_option maxHeartbeats 8000000 in
set_option maxRecDepth 100000 in
theorem spec_l12Two.calls (k : Nat) (A0 : Option Addr) (c0 : Nat) (l0 : List Int) (r1 : Int) (r2 : Int) (r3 : Int) (r4 : Int) (w : World) (hr0 : Kd.C (Kd.int .u8) w A0 l0.length l0) (hc0 : l0.length ≤ c0) (h : spec_l12Two.f k l0 = some (r1, r2, r3, r4)) :
  Calls Tryd.prog 30 #[.slice A0 l0.length c0] w fun e w' => e = .returned (.tuple #[.agg #[.int .i64 r1, .int .i64 r2], .agg #[.int .i64 r3, .int .i64 r4]]) ∧ Below w.heap.size w w' := by
 have hu25 := Tryd.underlying25
 have HR0 := Aside0.mk hr0
 have HC0 := Aside0.mk hc0
 clear hr0 hc0
 have HB := Aside0.mk (Below.refl w.heap.size w)
 have H : ((spec_l1New.f k l0).bind fun bt180 => ((spec_l12Draw.f k bt180.1 bt180.2.1 bt180.2.2).bind fun bt184 => ((spec_l1Once.f bt180.1 bt184.2.2.1 bt184.2.2.2 2).bind fun bt189 => (if bt189.1 = true then ((spec_l1Below.f bt180.1 bt189.2.1 bt189.2.2 5).bind fun bt192 => ((spec_TwistSlope.f k bt184.1 bt184.2.1 0 1 (wrap64 (bt192.1 - 2))).bind fun bt195 => (if bt195.2.2 = true then ((spec_l1Once.f bt180.1 bt192.2.1 bt192.2.2 2).bind fun bt199 => (spec_l12Two.j0 k bt199.1 bt180.1 bt199.2.1 bt199.2.2 bt184.1 bt184.2.1 bt195.1 bt195.2.1)) else (spec_l12Two.j0 k false bt180.1 bt192.2.1 bt192.2.2 bt184.1 bt184.2.1 bt195.1 bt195.2.1)))) else ((spec_l12Draw.f k bt180.1 bt189.2.1 bt189.2.2).bind fun bt210 => (some (bt184.1, bt184.2.1, bt210.1, bt210.2.1))))))) = some (r1, r2, r3, r4) := h
 clear h
 obtain ⟨⟨t180, t181, t182⟩, A2, H⟩ := bs H
 try dsimp only at H
 obtain ⟨⟨t184, t185, t186, t187⟩, A3, H⟩ := bs H
 try dsimp only at H
 obtain ⟨⟨t189, t190, t191⟩, A4, H⟩ := bs H
 try dsimp only at H
 by_cases c5 : t189 = true
 ·subst c5
  rw [if_pos rfl] at H
  obtain ⟨⟨t192, t193, t194⟩, A6, H⟩ := bs H
  try dsimp only at H
  obtain ⟨⟨t195, t196, t197⟩, A7, H⟩ := bs H
  try dsimp only at H
  have HC8 := Aside0.mk H
  clear H
  go_enter Tryd.func30, Tryd.ntmps30
  try go_wp2_with (first | ((with_reducible refine gate_dst (N := 2) rfl ?_); refine box_event ?hg (N := 2) ?hd (cs := #[.int .i64 0, .int .i64 0]) (t := 25) ?hr ?_; (case hd => rfl); (case hg => rfl); (case hr => exact gS); intro gb178 hg w9 hbox hb; have BK178 := Aside0.mk (hbox); have GW178 := Aside0.mk (gW hg tb); have GE178 := Aside0.mk (gW hg tb); replace HB := Aside0.mk (below_step tb hb); clear hb hbox hg) | ((with_reducible refine gate_dst (N := 3) rfl ?_); refine box_event ?hg (N := 3) ?hd (cs := #[.int .i64 0, .int .i64 0]) (t := 25) ?hr ?_; (case hd => rfl); (case hg => rfl); (case hr => exact gS); intro gb179 hg w10 hbox hb; have BK179 := Aside0.mk (hbox); have GW179 := Aside0.mk (gW hg (tG1 GE178.out)); have GE179 := Aside0.mk (gW hg (tG1 GE178.out)); replace HB := Aside0.mk (below_step (tG1 GE178.out) hb); have NB178_179 := Aside0.mk (neL BK178 hg); have NB179_178 := Aside0.mk (neG BK178 hg); replace BK178 := Aside0.mk (bB BK178 hb); clear hb hbox hg) | ((with_reducible refine gate_callee (f := 32) rfl ?_); refine goesL_ (some 11) rfl rfl Tryd.func32 (by kernel_rfl) rfl #[.slice A0 l0.length c0] rfl mp_ ?_; (with_reducible refine (spec_l1New.calls k _ _ l0 t180 t181 t182 w _ ?side1 ?side2 ?side3 A2.out).mono ?_); (case side1 => exact tG2 GE178.out GE179.out); (case side2 => exact HR0.out); (case side3 => exact HC0.out); rintro e w11 ⟨g183, rfl, hi, hb, hb2⟩; refine ⟨_, rfl, ?_⟩; replace HB := Aside0.mk (hb); have HI183 := Aside0.mk (hi); have NB183_178 := Aside0.mk (IsS66.ne_blk hi (bB BK178 hb2) (by decide)); have NB178_183 := Aside0.mk (Ne.symm (IsS66.ne_blk hi (bB BK178 hb2) (by decide))); replace BK178 := Aside0.mk (bB BK178 hb2); have NB183_179 := Aside0.mk (IsS66.ne_blk hi (bB BK179 hb2) (by decide)); have NB179_183 := Aside0.mk (Ne.symm (IsS66.ne_blk hi (bB BK179 hb2) (by decide))); replace BK179 := Aside0.mk (bB BK179 hb2)) | ((with_reducible refine gate_callee (f := 41) rfl ?_); refine goesL_ (some 13) rfl rfl Tryd.func41 (by kernel_rfl) rfl #[.pointer (some ⟨g183, 0, none⟩)] rfl mp_ ?_; (with_reducible refine (spec_l12Draw.calls k g183 t180 t181 t182 t184 t185 t186 t187 w _ ?side1 ?side2 A3.out).mono ?_); (case side1 => repeat (first | (with_reducible first | exact HI183.out | apply IsS66.alloc | apply IsS66.drewN | apply IsS66.drew | apply IsS66.set_1 | apply IsS66.set_2 | refine IsS66.far ?_ NB183_178.out _ | refine IsS66.far ?_ NB183_179.out _) | exact HI183.out)); (case side2 => repeat (first | (with_reducible first | exact HB.out | apply below_alloc | apply pw_below_drewN | apply below_drew1 | refine below_set ?_ (IsS66.ge HI183.out) | refine below_set ?_ GE178.out | refine below_set ?_ GE179.out) | exact HB.out)); rintro e w12 ⟨rfl, hi, hb, hk⟩; refine ⟨_, rfl, ?_⟩; replace BK178 := Aside0.mk (KeepBut.blk hk (g' := gb178) (o := .cells #[.int .i64 0, .int .i64 0] 25 (0, 0)) (blk_l BK178.out) NB178_183.out (by simp)); replace BK179 := Aside0.mk (KeepBut.blk hk (g' := gb179) (o := .cells #[.int .i64 0, .int .i64 0] 25 (0, 0)) (blk_l BK179.out) NB179_183.out (by simp)); replace HB := Aside0.mk (hb); replace HI183 := Aside0.mk (hi)) | ((with_reducible refine gate_dst (N := 5) rfl ?_); refine box_event ?hg (N := 5) ?hd (cs := #[.int .i64 0, .int .i64 0]) (t := 25) ?hr ?_; (case hd => rfl); (case hg => rfl); (case hr => exact gS); intro gb188 hg w13 hbox hb; have BK188 := Aside0.mk (hbox); have GW188 := Aside0.mk ((by rw [hg]; exact (below_size (by repeat (first | (with_reducible first | exact HB.out | apply below_alloc | apply pw_below_drewN | apply below_drew1 | refine below_set ?_ (IsS66.ge HI183.out) | refine below_set ?_ GE178.out | refine below_set ?_ GE179.out) | exact HB.out))) : w.heap.size ≤ gb188)); have GE188 := Aside0.mk ((by rw [hg]; exact (below_size (by repeat (first | (with_reducible first | exact HB.out | apply below_alloc | apply pw_below_drewN | apply below_drew1 | refine below_set ?_ (IsS66.ge HI183.out) | refine below_set ?_ GE178.out | refine below_set ?_ GE179.out) | exact HB.out))) : w.heap.size ≤ gb188)); replace HB := Aside0.mk (below_step (by repeat (first | (with_reducible first | exact HB.out | apply below_alloc | apply pw_below_drewN | apply below_drew1 | refine below_set ?_ (IsS66.ge HI183.out) | refine below_set ?_ GE178.out | refine below_set ?_ GE179.out) | exact HB.out)) hb); have NB178_188 := Aside0.mk (neL BK178 hg); have NB188_178 := Aside0.mk (neG BK178 hg); replace BK178 := Aside0.mk (bB BK178 hb); have NB179_188 := Aside0.mk (neL BK179 hg); have NB188_179 := Aside0.mk (neG BK179 hg); replace BK179 := Aside0.mk (bB BK179 hb); have NB183_188 := Aside0.mk ((by rw [hg]; exact Nat.ne_of_lt (IsS66.lt (show IsS66 w _ g183 t180 t186 t187 from by repeat (first | (with_reducible first | exact HI183.out | apply IsS66.alloc | apply IsS66.drewN | apply IsS66.drew | apply IsS66.set_1 | apply IsS66.set_2 | refine IsS66.far ?_ NB183_178.out _ | refine IsS66.far ?_ NB183_179.out _) | exact HI183.out))) : g183 ≠ gb188)); have NB188_183 := Aside0.mk ((by rw [hg]; exact Nat.ne_of_gt (IsS66.lt (show IsS66 w _ g183 t180 t186 t187 from by repeat (first | (with_reducible first | exact HI183.out | apply IsS66.alloc | apply IsS66.drewN | apply IsS66.drew | apply IsS66.set_1 | apply IsS66.set_2 | refine IsS66.far ?_ NB183_178.out _ | refine IsS66.far ?_ NB183_179.out _) | exact HI183.out))) : gb188 ≠ g183)); replace HI183 := Aside0.mk (IsS66.below (by repeat (first | (with_reducible first | exact HI183.out | apply IsS66.alloc | apply IsS66.drewN | apply IsS66.drew | apply IsS66.set_1 | apply IsS66.set_2 | refine IsS66.far ?_ NB183_178.out _ | refine IsS66.far ?_ NB183_179.out _) | exact HI183.out)) hb); clear hb hbox hg; have hnb14 := NB188_178.out; have hnc14 := NB178_188.out; have hnb15 := NB188_179.out; have hnc15 := NB179_188.out; have hnb16 := NB188_183.out; have hnc16 := NB183_188.out; have hcz17_0 : w13.cell? ⟨gb188, 0, none⟩ = some (.int .i64 0) := (blk_cell BK188.out 0).trans rfl; have hcz17_1 : w13.cell? ⟨gb188, 1, none⟩ = some (.int .i64 0) := (blk_cell BK188.out 1).trans rfl; have hfz17_0 := blk_frozen BK188.out 0; have hfz17_1 := blk_frozen BK188.out 1) | ((with_reducible refine gate_callee (f := 35) rfl ?_); refine goesL_ (some 15) rfl rfl Tryd.func35 (by kernel_rfl) rfl #[.pointer (some ⟨g183, 0, none⟩), .int .i64 2] rfl mp_ ?_; (with_reducible refine (spec_l1Once.calls g183 t180 t186 t187 2 true t190 t191 w _ ?side1 ?side2 A4.out).mono ?_); (case side1 => repeat (first | (with_reducible first | exact HI183.out | apply IsS66.alloc | apply IsS66.drewN | apply IsS66.drew | apply IsS66.set_1 | apply IsS66.set_2 | refine IsS66.far ?_ NB183_178.out _ | refine IsS66.far ?_ NB183_179.out _ | refine IsS66.far ?_ NB183_188.out _) | exact HI183.out)); (case side2 => repeat (first | (with_reducible first | exact HB.out | apply below_alloc | apply pw_below_drewN | apply below_drew1 | refine below_set ?_ (IsS66.ge HI183.out) | refine below_set ?_ GE178.out | refine below_set ?_ GE179.out | refine below_set ?_ GE188.out) | exact HB.out)); rintro e w18 ⟨rfl, hi, hb, hk⟩; refine ⟨_, rfl, ?_⟩; replace BK178 := Aside0.mk (KeepBut.blk hk (g' := gb178) (o := .cells #[.int .i64 0, .int .i64 0] 25 (0, 0)) (bF1 BK178.out NB178_188.out) NB178_183.out (by simp)); replace BK179 := Aside0.mk (KeepBut.blk hk (g' := gb179) (o := .cells #[.int .i64 0, .int .i64 0] 25 (0, 0)) (bF1 BK179.out NB179_188.out) NB179_183.out (by simp)); replace BK188 := Aside0.mk (KeepBut.blk hk (g' := gb188) (o := .cells #[.int .i64 t184, .int .i64 t185] 25 (0, 0)) (by (with_reducible repeat (first | refine blk_drewN ?_ _ | refine blk_drew ?_ | refine blk_alloc ?_ _)); refine blk_put (cs := #[.int .i64 t184, .int .i64 0]) ?_ 1 _ rfl; (with_reducible repeat (first | refine blk_drewN ?_ _ | refine blk_drew ?_ | refine blk_alloc ?_ _)); refine blk_put (cs := #[.int .i64 0, .int .i64 0]) ?_ 0 _ rfl; (with_reducible repeat (first | refine blk_drewN ?_ _ | refine blk_drew ?_ | refine blk_alloc ?_ _)); exact BK188.out) NB188_183.out (by simp)); replace HB := Aside0.mk (hb); replace HI183 := Aside0.mk (hi)))
  replace BK178 := Aside0.mk (blk_drew BK178.out); replace BK179 := Aside0.mk (blk_drew BK179.out); replace BK188 := Aside0.mk (blk_drew BK188.out); replace HI183 := Aside0.mk (IsS66.drew HI183.out); replace HB := Aside0.mk (below_drew1 HB.out)
  refine start_ (n := 12) (S := fun w' => w'.cell? ⟨gb188, 0, none⟩ = some (.int .i64 t184) ∧ w'.cell? ⟨gb188, 1, none⟩ = some (.int .i64 t185)) (ds := []) #[false, false, false, false, false, false, false, false, false, false, false, false] (by kernel_rfl) rfl rfl ⟨(blk_cell BK188.out 0).trans rfl, (blk_cell BK188.out 1).trans rfl⟩ (fun hHeld => ?_); refine with_tabW spec_l12Two.tab4 spec_l12Two.bits4 (fun HT_ HW_ => ?_)
  generalize w18.drew = w19 at BK178 BK179 BK188 HI183 HB hHeld ⊢
  refine pu_ 1 (some 18) ?_
  refine pu_ 2 (some 19) ?_
  refine take_ (i := 0) (N := some 17) (v := ?_) (a' := ?_) #[true, true, true, false, false, false, false, false, false, false, false, false] rfl rfl (take_ofW HT_.out HW_.out (by kernel_rfl)) (fun _ _ _ h => h) (Or.inl ⟨by rfl, ?_⟩) hHeld ?_ ?_
  rotate_left
  ·rintro w' ⟨s0, s1⟩
   go_simp
   with_reducible rfl
  rotate_left
  ·simp only [Act.put, List.setIfInBounds_toArray, List.set_cons_zero, List.set_cons_succ, i64_w, i32_w]
   rfl
  refine join_ (σ := Nat) 2 #[true, true, true, true, true, true, true, true, true, true, false, false] (fun s_ => [(20, .int .i64 t192), (22, .tuple #[.agg #[.int .i64 t195, .int .i64 t196], .bool t197]), (6, .pointer (some ⟨s_, 0, none⟩)), (21, .int .i64 (wrap64 (t192 - 2))), (16, .tuple #[.agg #[.int .i64 t195, .int .i64 t196], .bool t197]), (23, .agg #[.int .i64 t195, .int .i64 t196]), (24, .bool t197)]) (fun s_ w' => (w'.cell? ⟨gb188, 0, none⟩ = some (.int .i64 t184) ∧ w'.cell? ⟨gb188, 1, none⟩ = some (.int .i64 t185)) ∧ (w'.heap[gb178]? = some (.cells #[.int .i64 0, .int .i64 0] 25 (0, 0))) ∧ (w'.heap[gb179]? = some (.cells #[.int .i64 0, .int .i64 0] 25 (0, 0))) ∧ (w'.heap[gb188]? = some (.cells #[.int .i64 t184, .int .i64 t185] 25 (0, 0))) ∧ (w'.heap[s_]? = some (.cells #[.int .i64 0, .int .i64 0] 25 (0, 0))) ∧ (w.heap.size ≤ s_) ∧ (w.heap.size ≤ s_) ∧ (g183 ≠ s_) ∧ (s_ ≠ g183) ∧ (gb178 ≠ s_) ∧ (s_ ≠ gb178) ∧ (gb179 ≠ s_) ∧ (s_ ≠ gb179) ∧ (gb188 ≠ s_) ∧ (s_ ≠ gb188) ∧ (IsS66 w w' g183 t180 t193 t194) ∧ (Below w.heap.size w w')) ?_ ?_
  rotate_left
  ·intro hCont
   refine two_ (i := 3) (j := 9) (Ni := some 20) (Nj := some 6) #[true, true, true, true, false, false, false, false, false, false, false, false] #[true, true, true, false, false, false, false, false, false, true, false, false] rfl rfl rfl rfl (two_of HT_.out (by kernel_rfl)) (by decide) (by decide) (fun K hK => ?_) (fun K hK => ?_)
   ·skip
    refine goes_ Tryd.func33 (by kernel_rfl) rfl #[.pointer (some ⟨g183, 0, none⟩), .int .i64 5] (by rfl) rfl rfl mp_ ?_
    with_reducible refine (spec_l1Below.calls g183 t180 t190 t191 5 t192 t193 t194 w _ ?side1 ?side2 A6.out).mono ?_
    (case side1 => repeat (first | (with_reducible first | exact HI183.out | apply IsS66.alloc | apply IsS66.drewN | apply IsS66.drew | apply IsS66.set_1 | apply IsS66.set_2 | refine IsS66.far ?_ NB183_178.out _ | refine IsS66.far ?_ NB183_179.out _ | refine IsS66.far ?_ NB183_188.out _) | exact HI183.out))
    (case side2 => repeat (first | (with_reducible first | exact HB.out | apply below_alloc | apply pw_below_drewN | apply below_drew1 | refine below_set ?_ (IsS66.ge HI183.out) | refine below_set ?_ GE178.out | refine below_set ?_ GE179.out | refine below_set ?_ GE188.out) | exact HB.out))
    rintro e w20 ⟨rfl, hi, hb, hk⟩
    refine ⟨_, rfl, ?_⟩
    replace BK178 := Aside0.mk (KeepBut.blk hk (g' := gb178) (o := .cells #[.int .i64 0, .int .i64 0] 25 (0, 0)) (blk_l BK178.out) NB178_183.out (by simp)); replace BK179 := Aside0.mk (KeepBut.blk hk (g' := gb179) (o := .cells #[.int .i64 0, .int .i64 0] 25 (0, 0)) (blk_l BK179.out) NB179_183.out (by simp)); replace BK188 := Aside0.mk (KeepBut.blk hk (g' := gb188) (o := .cells #[.int .i64 t184, .int .i64 t185] 25 (0, 0)) (blk_l BK188.out) NB188_183.out (by simp)); replace HB := Aside0.mk (hb); replace HI183 := Aside0.mk (hi)
    (try clear hb)
    (try clear hb2)
    (try clear hk)
    (try clear hi)
    refine hK.out _ _ ⟨(blk_cell BK188.out 0).trans rfl, (blk_cell BK188.out 1).trans rfl⟩ (fun hHeld => ?_)
    clear hK K
    refine norm_ (a' := ?_) ?_ ?_
    rotate_left
    ·show Act.put _ (some 20) _ = _
     simp only [Act.put, List.setIfInBounds_toArray, List.set_cons_zero, List.set_cons_succ, i64_w, i32_w]
     rfl
    refine pu_ 4 (some 21) ?_
    refine two_ (i := 5) (j := 9) (Ni := some 22) (Nj := some 6) #[true, true, true, true, true, true, false, false, false, false, false, false] #[true, true, true, true, true, false, false, false, false, true, false, false] rfl rfl rfl rfl (two_of HT_.out (by kernel_rfl)) (by decide) (by decide) (fun K hK => ?_) (fun K hK => ?_)
    ·skip
     refine goes_ Tryd.func15 (by kernel_rfl) rfl #[.agg #[.int .i64 t184, .int .i64 t185], .agg #[.int .i64 0, .int .i64 1], .int .i64 (wrap64 (t192 - 2))] (by rfl) rfl rfl mp_ ?_
     with_reducible refine (spec_TwistSlope.calls k t184 t185 0 1 (wrap64 (t192 - 2)) t195 t196 t197 _ A7.out).mono ?_
     rintro e w21 ⟨rfl, hb⟩
     refine ⟨_, rfl, ?_⟩
     replace BK178 := Aside0.mk (bB BK178 hb); replace BK179 := Aside0.mk (bB BK179 hb); replace BK188 := Aside0.mk (bB BK188 hb); replace HB := Aside0.mk (below_step (by repeat (first | (with_reducible first | exact HB.out | apply below_alloc | apply pw_below_drewN | apply below_drew1 | refine below_set ?_ (IsS66.ge HI183.out) | refine below_set ?_ GE178.out | refine below_set ?_ GE179.out | refine below_set ?_ GE188.out) | exact HB.out)) hb); replace HI183 := Aside0.mk (IsS66.below (by repeat (first | (with_reducible first | exact HI183.out | apply IsS66.alloc | apply IsS66.drewN | apply IsS66.drew | apply IsS66.set_1 | apply IsS66.set_2 | refine IsS66.far ?_ NB183_178.out _ | refine IsS66.far ?_ NB183_179.out _ | refine IsS66.far ?_ NB183_188.out _) | exact HI183.out)) hb)
     (try clear hb)
     (try clear hb2)
     (try clear hk)
     (try clear hi)
     refine hK.out _ _ ⟨(blk_cell BK188.out 0).trans rfl, (blk_cell BK188.out 1).trans rfl⟩ (fun hHeld => ?_)
     clear hK K
     refine norm_ (a' := ?_) ?_ ?_
     rotate_left
     ·show Act.put _ (some 22) _ = _
      simp only [Act.put, List.setIfInBounds_toArray, List.set_cons_zero, List.set_cons_succ, i64_w, i32_w]
      rfl
     refine pu_ 6 (some 16) ?_
     refine pu_ 7 (some 23) ?_
     refine pu_ 8 (some 24) ?_
     refine one_ (i := 9) (N := some 6) #[true, true, true, true, true, true, true, true, true, true, false, false] rfl rfl (one_of HT_.out (by kernel_rfl)) (by decide) (fun K hK => ?_)
     refine box_step ?hg (N := 6) ?hd (cs := #[.int .i64 0, .int .i64 0]) (t := 25) ?hr ?_; (case hd => rfl); (case hg => rfl); (case hr => exact gS)
     intro gb198 hg w22 hbox hb
     have BK198 := Aside0.mk (hbox); have GW198 := Aside0.mk ((by rw [hg]; exact (below_size (by repeat (first | (with_reducible first | exact HB.out | apply below_alloc | apply pw_below_drewN | apply below_drew1 | refine below_set ?_ (IsS66.ge HI183.out) | refine below_set ?_ GE178.out | refine below_set ?_ GE179.out | refine below_set ?_ GE188.out) | exact HB.out))) : w.heap.size ≤ gb198)); have GE198 := Aside0.mk ((by rw [hg]; exact (below_size (by repeat (first | (with_reducible first | exact HB.out | apply below_alloc | apply pw_below_drewN | apply below_drew1 | refine below_set ?_ (IsS66.ge HI183.out) | refine below_set ?_ GE178.out | refine below_set ?_ GE179.out | refine below_set ?_ GE188.out) | exact HB.out))) : w.heap.size ≤ gb198)); replace HB := Aside0.mk (below_step (by repeat (first | (with_reducible first | exact HB.out | apply below_alloc | apply pw_below_drewN | apply below_drew1 | refine below_set ?_ (IsS66.ge HI183.out) | refine below_set ?_ GE178.out | refine below_set ?_ GE179.out | refine below_set ?_ GE188.out) | exact HB.out)) hb); have NB178_198 := Aside0.mk (neL BK178 hg); have NB198_178 := Aside0.mk (neG BK178 hg); replace BK178 := Aside0.mk (bB BK178 hb); have NB179_198 := Aside0.mk (neL BK179 hg); have NB198_179 := Aside0.mk (neG BK179 hg); replace BK179 := Aside0.mk (bB BK179 hb); have NB188_198 := Aside0.mk (neL BK188 hg); have NB198_188 := Aside0.mk (neG BK188 hg); replace BK188 := Aside0.mk (bB BK188 hb); have NB183_198 := Aside0.mk ((by rw [hg]; exact Nat.ne_of_lt (IsS66.lt (show IsS66 w _ g183 t180 t193 t194 from by repeat (first | (with_reducible first | exact HI183.out | apply IsS66.alloc | apply IsS66.drewN | apply IsS66.drew | apply IsS66.set_1 | apply IsS66.set_2 | refine IsS66.far ?_ NB183_178.out _ | refine IsS66.far ?_ NB183_179.out _ | refine IsS66.far ?_ NB183_188.out _) | exact HI183.out))) : g183 ≠ gb198)); have NB198_183 := Aside0.mk ((by rw [hg]; exact Nat.ne_of_gt (IsS66.lt (show IsS66 w _ g183 t180 t193 t194 from by repeat (first | (with_reducible first | exact HI183.out | apply IsS66.alloc | apply IsS66.drewN | apply IsS66.drew | apply IsS66.set_1 | apply IsS66.set_2 | refine IsS66.far ?_ NB183_178.out _ | refine IsS66.far ?_ NB183_179.out _ | refine IsS66.far ?_ NB183_188.out _) | exact HI183.out))) : gb198 ≠ g183)); replace HI183 := Aside0.mk (IsS66.below (by repeat (first | (with_reducible first | exact HI183.out | apply IsS66.alloc | apply IsS66.drewN | apply IsS66.drew | apply IsS66.set_1 | apply IsS66.set_2 | refine IsS66.far ?_ NB183_178.out _ | refine IsS66.far ?_ NB183_179.out _ | refine IsS66.far ?_ NB183_188.out _) | exact HI183.out)) hb)
     clear hb hbox hg
     refine hK.out _ _ ⟨(blk_cell BK188.out 0).trans rfl, (blk_cell BK188.out 1).trans rfl⟩ (fun hHeld => ?_)
     clear hK K
     refine norm_ (a' := ?_) ?_ ?_
     rotate_left
     ·show Act.put _ (some 6) _ = _
      simp only [Act.put, List.setIfInBounds_toArray, List.set_cons_zero, List.set_cons_succ, i64_w, i32_w]
      rfl
     exact norm_ (by simp only [putAll, Act.put, List.setIfInBounds_toArray, List.set_cons_zero, List.set_cons_succ]) (hCont (gb198) _ ⟨hHeld, (blk_l BK178.out), (blk_l BK179.out), (blk_l BK188.out), (blk_l BK198.out), GW198.out, GE198.out, NB183_198.out, NB198_183.out, NB178_198.out, NB198_178.out, NB179_198.out, NB198_179.out, NB188_198.out, NB198_188.out, (by repeat (first | (with_reducible first | exact HI183.out | apply IsS66.alloc | apply IsS66.drewN | apply IsS66.drew | apply IsS66.set_1 | apply IsS66.set_2 | refine IsS66.far ?_ NB183_178.out _ | refine IsS66.far ?_ NB183_179.out _ | refine IsS66.far ?_ NB183_188.out _ | refine IsS66.far ?_ NB183_198.out _) | exact HI183.out)), (by repeat (first | (with_reducible first | exact HB.out | apply below_alloc | apply pw_below_drewN | apply below_drew1 | refine below_set ?_ (IsS66.ge HI183.out) | refine below_set ?_ GE178.out | refine below_set ?_ GE179.out | refine below_set ?_ GE188.out | refine below_set ?_ GE198.out) | exact HB.out))⟩)
    ·skip
     refine box_step ?hg (N := 6) ?hd (cs := #[.int .i64 0, .int .i64 0]) (t := 25) ?hr ?_; (case hd => rfl); (case hg => rfl); (case hr => exact gS)
     intro gb198 hg w21 hbox hb
     have BK198 := Aside0.mk (hbox); have GW198 := Aside0.mk ((by rw [hg]; exact (below_size (by repeat (first | (with_reducible first | exact HB.out | apply below_alloc | apply pw_below_drewN | apply below_drew1 | refine below_set ?_ (IsS66.ge HI183.out) | refine below_set ?_ GE178.out | refine below_set ?_ GE179.out | refine below_set ?_ GE188.out) | exact HB.out))) : w.heap.size ≤ gb198)); have GE198 := Aside0.mk ((by rw [hg]; exact (below_size (by repeat (first | (with_reducible first | exact HB.out | apply below_alloc | apply pw_below_drewN | apply below_drew1 | refine below_set ?_ (IsS66.ge HI183.out) | refine below_set ?_ GE178.out | refine below_set ?_ GE179.out | refine below_set ?_ GE188.out) | exact HB.out))) : w.heap.size ≤ gb198)); replace HB := Aside0.mk (below_step (by repeat (first | (with_reducible first | exact HB.out | apply below_alloc | apply pw_below_drewN | apply below_drew1 | refine below_set ?_ (IsS66.ge HI183.out) | refine below_set ?_ GE178.out | refine below_set ?_ GE179.out | refine below_set ?_ GE188.out) | exact HB.out)) hb); have NB178_198 := Aside0.mk (neL BK178 hg); have NB198_178 := Aside0.mk (neG BK178 hg); replace BK178 := Aside0.mk (bB BK178 hb); have NB179_198 := Aside0.mk (neL BK179 hg); have NB198_179 := Aside0.mk (neG BK179 hg); replace BK179 := Aside0.mk (bB BK179 hb); have NB188_198 := Aside0.mk (neL BK188 hg); have NB198_188 := Aside0.mk (neG BK188 hg); replace BK188 := Aside0.mk (bB BK188 hb); have NB183_198 := Aside0.mk ((by rw [hg]; exact Nat.ne_of_lt (IsS66.lt (show IsS66 w _ g183 t180 t193 t194 from by repeat (first | (with_reducible first | exact HI183.out | apply IsS66.alloc | apply IsS66.drewN | apply IsS66.drew | apply IsS66.set_1 | apply IsS66.set_2 | refine IsS66.far ?_ NB183_178.out _ | refine IsS66.far ?_ NB183_179.out _ | refine IsS66.far ?_ NB183_188.out _) | exact HI183.out))) : g183 ≠ gb198)); have NB198_183 := Aside0.mk ((by rw [hg]; exact Nat.ne_of_gt (IsS66.lt (show IsS66 w _ g183 t180 t193 t194 from by repeat (first | (with_reducible first | exact HI183.out | apply IsS66.alloc | apply IsS66.drewN | apply IsS66.drew | apply IsS66.set_1 | apply IsS66.set_2 | refine IsS66.far ?_ NB183_178.out _ | refine IsS66.far ?_ NB183_179.out _ | refine IsS66.far ?_ NB183_188.out _) | exact HI183.out))) : gb198 ≠ g183)); replace HI183 := Aside0.mk (IsS66.below (by repeat (first | (with_reducible first | exact HI183.out | apply IsS66.alloc | apply IsS66.drewN | apply IsS66.drew | apply IsS66.set_1 | apply IsS66.set_2 | refine IsS66.far ?_ NB183_178.out _ | refine IsS66.far ?_ NB183_179.out _ | refine IsS66.far ?_ NB183_188.out _) | exact HI183.out)) hb)
     clear hb hbox hg
     refine hK.out _ _ ⟨(blk_cell BK188.out 0).trans rfl, (blk_cell BK188.out 1).trans rfl⟩ (fun hHeld => ?_)
     clear hK K
     refine norm_ (a' := ?_) ?_ ?_
     rotate_left
     ·show Act.put _ (some 6) _ = _
      simp only [Act.put, List.setIfInBounds_toArray, List.set_cons_zero, List.set_cons_succ, i64_w, i32_w]
      rfl
     refine one_ (i := 5) (N := some 22) #[true, true, true, true, true, true, false, false, false, true, false, false] rfl rfl (one_of HT_.out (by kernel_rfl)) (by decide) (fun K hK => ?_)
     refine goes_ Tryd.func15 (by kernel_rfl) rfl #[.agg #[.int .i64 t184, .int .i64 t185], .agg #[.int .i64 0, .int .i64 1], .int .i64 (wrap64 (t192 - 2))] (by rfl) rfl rfl mp_ ?_
     with_reducible refine (spec_TwistSlope.calls k t184 t185 0 1 (wrap64 (t192 - 2)) t195 t196 t197 _ A7.out).mono ?_
     rintro e w22 ⟨rfl, hb⟩
     refine ⟨_, rfl, ?_⟩
     replace BK178 := Aside0.mk (bB BK178 hb); replace BK179 := Aside0.mk (bB BK179 hb); replace BK188 := Aside0.mk (bB BK188 hb); replace BK198 := Aside0.mk (bB BK198 hb); replace HB := Aside0.mk (below_step (by repeat (first | (with_reducible first | exact HB.out | apply below_alloc | apply pw_below_drewN | apply below_drew1 | refine below_set ?_ (IsS66.ge HI183.out) | refine below_set ?_ GE178.out | refine below_set ?_ GE179.out | refine below_set ?_ GE188.out | refine below_set ?_ GE198.out) | exact HB.out)) hb); replace HI183 := Aside0.mk (IsS66.below (by repeat (first | (with_reducible first | exact HI183.out | apply IsS66.alloc | apply IsS66.drewN | apply IsS66.drew | apply IsS66.set_1 | apply IsS66.set_2 | refine IsS66.far ?_ NB183_178.out _ | refine IsS66.far ?_ NB183_179.out _ | refine IsS66.far ?_ NB183_188.out _ | refine IsS66.far ?_ NB183_198.out _) | exact HI183.out)) hb)
     (try clear hb)
     (try clear hb2)
     (try clear hk)
     (try clear hi)
     refine hK.out _ _ ⟨(blk_cell BK188.out 0).trans rfl, (blk_cell BK188.out 1).trans rfl⟩ (fun hHeld => ?_)
     clear hK K
     refine norm_ (a' := ?_) ?_ ?_
     rotate_left
     ·show Act.put _ (some 22) _ = _
      simp only [Act.put, List.setIfInBounds_toArray, List.set_cons_zero, List.set_cons_succ, i64_w, i32_w]
      rfl
     refine pu_ 6 (some 16) ?_
     refine pu_ 7 (some 23) ?_
     refine pu_ 8 (some 24) ?_
     exact norm_ (by simp only [putAll, Act.put, List.setIfInBounds_toArray, List.set_cons_zero, List.set_cons_succ]) (hCont (gb198) _ ⟨hHeld, (blk_l BK178.out), (blk_l BK179.out), (blk_l BK188.out), (blk_l BK198.out), GW198.out, GE198.out, NB183_198.out, NB198_183.out, NB178_198.out, NB198_178.out, NB179_198.out, NB198_179.out, NB188_198.out, NB198_188.out, (by repeat (first | (with_reducible first | exact HI183.out | apply IsS66.alloc | apply IsS66.drewN | apply IsS66.drew | apply IsS66.set_1 | apply IsS66.set_2 | refine IsS66.far ?_ NB183_178.out _ | refine IsS66.far ?_ NB183_179.out _ | refine IsS66.far ?_ NB183_188.out _ | refine IsS66.far ?_ NB183_198.out _) | exact HI183.out)), (by repeat (first | (with_reducible first | exact HB.out | apply below_alloc | apply pw_below_drewN | apply below_drew1 | refine below_set ?_ (IsS66.ge HI183.out) | refine below_set ?_ GE178.out | refine below_set ?_ GE179.out | refine below_set ?_ GE188.out | refine below_set ?_ GE198.out) | exact HB.out))⟩)
   ·skip
    refine box_step ?hg (N := 6) ?hd (cs := #[.int .i64 0, .int .i64 0]) (t := 25) ?hr ?_; (case hd => rfl); (case hg => rfl); (case hr => exact gS)
    intro gb198 hg w20 hbox hb
    have BK198 := Aside0.mk (hbox); have GW198 := Aside0.mk ((by rw [hg]; exact (below_size (by repeat (first | (with_reducible first | exact HB.out | apply below_alloc | apply pw_below_drewN | apply below_drew1 | refine below_set ?_ (IsS66.ge HI183.out) | refine below_set ?_ GE178.out | refine below_set ?_ GE179.out | refine below_set ?_ GE188.out) | exact HB.out))) : w.heap.size ≤ gb198)); have GE198 := Aside0.mk ((by rw [hg]; exact (below_size (by repeat (first | (with_reducible first | exact HB.out | apply below_alloc | apply pw_below_drewN | apply below_drew1 | refine below_set ?_ (IsS66.ge HI183.out) | refine below_set ?_ GE178.out | refine below_set ?_ GE179.out | refine below_set ?_ GE188.out) | exact HB.out))) : w.heap.size ≤ gb198)); replace HB := Aside0.mk (below_step (by repeat (first | (with_reducible first | exact HB.out | apply below_alloc | apply pw_below_drewN | apply below_drew1 | refine below_set ?_ (IsS66.ge HI183.out) | refine below_set ?_ GE178.out | refine below_set ?_ GE179.out | refine below_set ?_ GE188.out) | exact HB.out)) hb); have NB178_198 := Aside0.mk (neL BK178 hg); have NB198_178 := Aside0.mk (neG BK178 hg); replace BK178 := Aside0.mk (bB BK178 hb); have NB179_198 := Aside0.mk (neL BK179 hg); have NB198_179 := Aside0.mk (neG BK179 hg); replace BK179 := Aside0.mk (bB BK179 hb); have NB188_198 := Aside0.mk (neL BK188 hg); have NB198_188 := Aside0.mk (neG BK188 hg); replace BK188 := Aside0.mk (bB BK188 hb); have NB183_198 := Aside0.mk ((by rw [hg]; exact Nat.ne_of_lt (IsS66.lt (show IsS66 w _ g183 t180 t190 t191 from by repeat (first | (with_reducible first | exact HI183.out | apply IsS66.alloc | apply IsS66.drewN | apply IsS66.drew | apply IsS66.set_1 | apply IsS66.set_2 | refine IsS66.far ?_ NB183_178.out _ | refine IsS66.far ?_ NB183_179.out _ | refine IsS66.far ?_ NB183_188.out _) | exact HI183.out))) : g183 ≠ gb198)); have NB198_183 := Aside0.mk ((by rw [hg]; exact Nat.ne_of_gt (IsS66.lt (show IsS66 w _ g183 t180 t190 t191 from by repeat (first | (with_reducible first | exact HI183.out | apply IsS66.alloc | apply IsS66.drewN | apply IsS66.drew | apply IsS66.set_1 | apply IsS66.set_2 | refine IsS66.far ?_ NB183_178.out _ | refine IsS66.far ?_ NB183_179.out _ | refine IsS66.far ?_ NB183_188.out _) | exact HI183.out))) : gb198 ≠ g183)); replace HI183 := Aside0.mk (IsS66.below (by repeat (first | (with_reducible first | exact HI183.out | apply IsS66.alloc | apply IsS66.drewN | apply IsS66.drew | apply IsS66.set_1 | apply IsS66.set_2 | refine IsS66.far ?_ NB183_178.out _ | refine IsS66.far ?_ NB183_179.out _ | refine IsS66.far ?_ NB183_188.out _) | exact HI183.out)) hb)
    clear hb hbox hg
    refine hK.out _ _ ⟨(blk_cell BK188.out 0).trans rfl, (blk_cell BK188.out 1).trans rfl⟩ (fun hHeld => ?_)
    clear hK K
    refine norm_ (a' := ?_) ?_ ?_
    rotate_left
    ·show Act.put _ (some 6) _ = _
     simp only [Act.put, List.setIfInBounds_toArray, List.set_cons_zero, List.set_cons_succ, i64_w, i32_w]
     rfl
    refine one_ (i := 3) (N := some 20) #[true, true, true, true, false, false, false, false, false, true, false, false] rfl rfl (one_of HT_.out (by kernel_rfl)) (by decide) (fun K hK => ?_)
    refine goes_ Tryd.func33 (by kernel_rfl) rfl #[.pointer (some ⟨g183, 0, none⟩), .int .i64 5] (by rfl) rfl rfl mp_ ?_
    with_reducible refine (spec_l1Below.calls g183 t180 t190 t191 5 t192 t193 t194 w _ ?side1 ?side2 A6.out).mono ?_
    (case side1 => repeat (first | (with_reducible first | exact HI183.out | apply IsS66.alloc | apply IsS66.drewN | apply IsS66.drew | apply IsS66.set_1 | apply IsS66.set_2 | refine IsS66.far ?_ NB183_178.out _ | refine IsS66.far ?_ NB183_179.out _ | refine IsS66.far ?_ NB183_188.out _ | refine IsS66.far ?_ NB183_198.out _) | exact HI183.out))
    (case side2 => repeat (first | (with_reducible first | exact HB.out | apply below_alloc | apply pw_below_drewN | apply below_drew1 | refine below_set ?_ (IsS66.ge HI183.out) | refine below_set ?_ GE178.out | refine below_set ?_ GE179.out | refine below_set ?_ GE188.out | refine below_set ?_ GE198.out) | exact HB.out))
    rintro e w21 ⟨rfl, hi, hb, hk⟩
    refine ⟨_, rfl, ?_⟩
    replace BK178 := Aside0.mk (KeepBut.blk hk (g' := gb178) (o := .cells #[.int .i64 0, .int .i64 0] 25 (0, 0)) (blk_l BK178.out) NB178_183.out (by simp)); replace BK179 := Aside0.mk (KeepBut.blk hk (g' := gb179) (o := .cells #[.int .i64 0, .int .i64 0] 25 (0, 0)) (blk_l BK179.out) NB179_183.out (by simp)); replace BK188 := Aside0.mk (KeepBut.blk hk (g' := gb188) (o := .cells #[.int .i64 t184, .int .i64 t185] 25 (0, 0)) (blk_l BK188.out) NB188_183.out (by simp)); replace BK198 := Aside0.mk (KeepBut.blk hk (g' := gb198) (o := .cells #[.int .i64 0, .int .i64 0] 25 (0, 0)) (blk_l BK198.out) NB198_183.out (by simp)); replace HB := Aside0.mk (hb); replace HI183 := Aside0.mk (hi)
    (try clear hb)
    (try clear hb2)
    (try clear hk)
    (try clear hi)
    refine hK.out _ _ ⟨(blk_cell BK188.out 0).trans rfl, (blk_cell BK188.out 1).trans rfl⟩ (fun hHeld => ?_)
    clear hK K
    refine norm_ (a' := ?_) ?_ ?_
    rotate_left
    ·show Act.put _ (some 20) _ = _
     simp only [Act.put, List.setIfInBounds_toArray, List.set_cons_zero, List.set_cons_succ, i64_w, i32_w]
     rfl
    refine pu_ 4 (some 21) ?_
    refine one_ (i := 5) (N := some 22) #[true, true, true, true, true, true, false, false, false, true, false, false] rfl rfl (one_of HT_.out (by kernel_rfl)) (by decide) (fun K hK => ?_)
    refine goes_ Tryd.func15 (by kernel_rfl) rfl #[.agg #[.int .i64 t184, .int .i64 t185], .agg #[.int .i64 0, .int .i64 1], .int .i64 (wrap64 (t192 - 2))] (by rfl) rfl rfl mp_ ?_
    with_reducible refine (spec_TwistSlope.calls k t184 t185 0 1 (wrap64 (t192 - 2)) t195 t196 t197 _ A7.out).mono ?_
    rintro e w22 ⟨rfl, hb⟩
    refine ⟨_, rfl, ?_⟩
    replace BK178 := Aside0.mk (bB BK178 hb); replace BK179 := Aside0.mk (bB BK179 hb); replace BK188 := Aside0.mk (bB BK188 hb); replace BK198 := Aside0.mk (bB BK198 hb); replace HB := Aside0.mk (below_step (by repeat (first | (with_reducible first | exact HB.out | apply below_alloc | apply pw_below_drewN | apply below_drew1 | refine below_set ?_ (IsS66.ge HI183.out) | refine below_set ?_ GE178.out | refine below_set ?_ GE179.out | refine below_set ?_ GE188.out | refine below_set ?_ GE198.out) | exact HB.out)) hb); replace HI183 := Aside0.mk (IsS66.below (by repeat (first | (with_reducible first | exact HI183.out | apply IsS66.alloc | apply IsS66.drewN | apply IsS66.drew | apply IsS66.set_1 | apply IsS66.set_2 | refine IsS66.far ?_ NB183_178.out _ | refine IsS66.far ?_ NB183_179.out _ | refine IsS66.far ?_ NB183_188.out _ | refine IsS66.far ?_ NB183_198.out _) | exact HI183.out)) hb)
    (try clear hb)
    (try clear hb2)
    (try clear hk)
    (try clear hi)
    refine hK.out _ _ ⟨(blk_cell BK188.out 0).trans rfl, (blk_cell BK188.out 1).trans rfl⟩ (fun hHeld => ?_)
    clear hK K
    refine norm_ (a' := ?_) ?_ ?_
    rotate_left
    ·show Act.put _ (some 22) _ = _
     simp only [Act.put, List.setIfInBounds_toArray, List.set_cons_zero, List.set_cons_succ, i64_w, i32_w]
     rfl
    refine pu_ 6 (some 16) ?_
    refine pu_ 7 (some 23) ?_
    refine pu_ 8 (some 24) ?_
    exact norm_ (by simp only [putAll, Act.put, List.setIfInBounds_toArray, List.set_cons_zero, List.set_cons_succ]) (hCont (gb198) _ ⟨hHeld, (blk_l BK178.out), (blk_l BK179.out), (blk_l BK188.out), (blk_l BK198.out), GW198.out, GE198.out, NB183_198.out, NB198_183.out, NB178_198.out, NB198_178.out, NB179_198.out, NB198_179.out, NB188_198.out, NB198_188.out, (by repeat (first | (with_reducible first | exact HI183.out | apply IsS66.alloc | apply IsS66.drewN | apply IsS66.drew | apply IsS66.set_1 | apply IsS66.set_2 | refine IsS66.far ?_ NB183_178.out _ | refine IsS66.far ?_ NB183_179.out _ | refine IsS66.far ?_ NB183_188.out _ | refine IsS66.far ?_ NB183_198.out _) | exact HI183.out)), (by repeat (first | (with_reducible first | exact HB.out | apply below_alloc | apply pw_below_drewN | apply below_drew1 | refine below_set ?_ (IsS66.ge HI183.out) | refine below_set ?_ GE178.out | refine below_set ?_ GE179.out | refine below_set ?_ GE188.out | refine below_set ?_ GE198.out) | exact HB.out))⟩)
  rintro gb198 w23 ⟨hS_, h0_, h1_, h2_, h3_, h4_, h5_, h6_, h7_, h8_, h9_, h10_, h11_, h12_, h13_, h14_, h15_⟩
  have n0_ : Aside0 (w23.heap[gb178]? = some (.cells #[.int .i64 0, .int .i64 0] 25 (0, 0))) := ⟨h0_⟩
  have n1_ : Aside0 (w23.heap[gb179]? = some (.cells #[.int .i64 0, .int .i64 0] 25 (0, 0))) := ⟨h1_⟩
  have n2_ : Aside0 (w23.heap[gb188]? = some (.cells #[.int .i64 t184, .int .i64 t185] 25 (0, 0))) := ⟨h2_⟩
  have n3_ : Aside0 (w23.heap[gb198]? = some (.cells #[.int .i64 0, .int .i64 0] 25 (0, 0))) := ⟨h3_⟩
  have n4_ : Aside0 (w.heap.size ≤ gb198) := ⟨h4_⟩
  have n5_ : Aside0 (w.heap.size ≤ gb198) := ⟨h5_⟩
  have n6_ : Aside0 (g183 ≠ gb198) := ⟨h6_⟩
  have n7_ : Aside0 (gb198 ≠ g183) := ⟨h7_⟩
  have n8_ : Aside0 (gb178 ≠ gb198) := ⟨h8_⟩
  have n9_ : Aside0 (gb198 ≠ gb178) := ⟨h9_⟩
  have n10_ : Aside0 (gb179 ≠ gb198) := ⟨h10_⟩
  have n11_ : Aside0 (gb198 ≠ gb179) := ⟨h11_⟩
  have n12_ : Aside0 (gb188 ≠ gb198) := ⟨h12_⟩
  have n13_ : Aside0 (gb198 ≠ gb188) := ⟨h13_⟩
  have n14_ : Aside0 (IsS66 w w23 g183 t180 t193 t194) := ⟨h14_⟩
  have n15_ : Aside0 (Below w.heap.size w w23) := ⟨h15_⟩
  clear BK178
  clear BK179
  clear BK188
  clear HI183
  clear HB
  clear h0_ h1_ h2_ h3_ h4_ h5_ h6_ h7_ h8_ h9_ h10_ h11_ h12_ h13_ h14_ h15_
  have BK178 := n0_
  have BK179 := n1_
  have BK188 := n2_
  have BK198 := n3_
  have GW198 := n4_
  have GE198 := n5_
  have NB183_198 := n6_
  have NB198_183 := n7_
  have NB178_198 := n8_
  have NB198_178 := n9_
  have NB179_198 := n10_
  have NB198_179 := n11_
  have NB188_198 := n12_
  have NB198_188 := n13_
  have HI183 := n14_
  have HB := n15_
  clear n0_ n1_ n2_ n3_ n4_ n5_ n6_ n7_ n8_ n9_ n10_ n11_ n12_ n13_ n14_ n15_
  have hHeld : w23.cell? ⟨gb188, 0, none⟩ = some (.int .i64 t184) ∧ w23.cell? ⟨gb188, 1, none⟩ = some (.int .i64 t185) := hS_
  refine norm_ (a' := ?_) ?_ ?_
  rotate_left
  ·simp only [putAll, Act.put, List.setIfInBounds_toArray, List.set_cons_zero, List.set_cons_succ]
   rfl
  refine one_ (i := 10) (N := none) #[true, true, true, true, true, true, true, true, true, true, true, false] rfl rfl (one_of HT_.out (by kernel_rfl)) (by decide) (fun K hK => ?_)
  have hs24 : w23.cell? ⟨gb198, 0, none⟩ = some (.int .i64 0) := (blk_cell BK198.out 0).trans rfl
  have hfs24 := blk_frozen BK198.out 0
  have hns24_0 := NB178_198.out
  have hns24_1 := NB179_198.out
  have hns24_2 := NB188_198.out
  have hms24_0 := NB198_178.out
  have hms24_1 := NB198_179.out
  have hms24_2 := NB198_188.out
  have hs25 : w23.cell? ⟨gb198, 1, none⟩ = some (.int .i64 0) := (blk_cell BK198.out 1).trans rfl
  have hfs25 := blk_frozen BK198.out 1
  have hns25_0 := NB178_198.out
  have hns25_1 := NB179_198.out
  have hns25_2 := NB188_198.out
  have hms25_0 := NB198_178.out
  have hms25_1 := NB198_179.out
  have hms25_2 := NB198_188.out
  refine skip_ (w1 := ?_) (by rfl) rfl ?_ ?_
  rotate_left
  ·go_simp
   rfl
  refine hK.out _ _ ⟨((cell_far (p := ⟨gb198, _, none⟩) NB188_198.out _).trans (((cell_far (p := ⟨gb198, _, none⟩) NB188_198.out _).trans (hHeld.1)))), ((cell_far (p := ⟨gb198, _, none⟩) NB188_198.out _).trans (((cell_far (p := ⟨gb198, _, none⟩) NB188_198.out _).trans (hHeld.2))))⟩ (fun hHeld => ?_)
  clear hK K
  refine pu_ 11 (some 7) ?_
  refine done_ (done_of HT_.out (by kernel_rfl)) ?_
  go_upto_region 5 with (fail)
  go_cut [29] (fun v29 wc => ∃ (kq : Nat) (x29_7 : Bool) (x184001_7 : Int) (x184002_7 : Int), v29 = .bool x29_7 ∧ Aside0 (spec_l12Two.j0 kq x29_7 t180 x184001_7 x184002_7 t184 t185 t195 t196 = some (r1, r2, r3, r4)) ∧ Aside0 (kq ≤ k) ∧ Aside0 (wc.heap[gb178]? = some (.cells #[.int .i64 0, .int .i64 0] 25 (0, 0))) ∧ Aside0 (wc.heap[gb179]? = some (.cells #[.int .i64 0, .int .i64 0] 25 (0, 0))) ∧ Aside0 (wc.heap[gb188]? = some (.cells #[.int .i64 t184, .int .i64 t185] 25 (0, 0))) ∧ Aside0 (wc.heap[gb198]? = some (.cells #[.int .i64 t195, .int .i64 t196] 25 (0, 0))) ∧ Aside0 (IsS66 w wc g183 t180 x184001_7 x184002_7) ∧ Aside0 (Below w.heap.size w wc))
  case first =>
   have H := HC8.out
   clear HC8
   by_cases c26 : t197 = true
   ·subst c26
    rw [if_pos rfl] at H
    obtain ⟨⟨t199, t200, t201⟩, A27, H⟩ := bs H
    try dsimp only at H
    have H' := Aside0.mk H
    clear H
    go_wp2_with (first | (go_at_call 35; (with_reducible refine (spec_l1Once.calls g183 t180 t193 t194 2 t199 t200 t201 w _ ?side1 ?side2 A27.out).mono ?_); (case side1 => repeat (first | (with_reducible first | exact HI183.out | apply IsS66.alloc | apply IsS66.drewN | apply IsS66.drew | apply IsS66.set_1 | apply IsS66.set_2 | refine IsS66.far ?_ NB183_178.out _ | refine IsS66.far ?_ NB183_179.out _ | refine IsS66.far ?_ NB183_188.out _ | refine IsS66.far ?_ NB183_198.out _) | exact HI183.out)); (case side2 => repeat (first | (with_reducible first | exact HB.out | apply below_alloc | apply pw_below_drewN | apply below_drew1 | refine below_set ?_ (IsS66.ge HI183.out) | refine below_set ?_ GE178.out | refine below_set ?_ GE179.out | refine below_set ?_ GE188.out | refine below_set ?_ GE198.out) | exact HB.out)); rintro e w28 ⟨rfl, hi, hb, hk⟩; replace BK178 := Aside0.mk (KeepBut.blk hk (g' := gb178) (o := .cells #[.int .i64 0, .int .i64 0] 25 (0, 0)) (bF1 BK178.out NB178_198.out) NB178_183.out (by simp)); replace BK179 := Aside0.mk (KeepBut.blk hk (g' := gb179) (o := .cells #[.int .i64 0, .int .i64 0] 25 (0, 0)) (bF1 BK179.out NB179_198.out) NB179_183.out (by simp)); replace BK188 := Aside0.mk (KeepBut.blk hk (g' := gb188) (o := .cells #[.int .i64 t184, .int .i64 t185] 25 (0, 0)) (bF1 BK188.out NB188_198.out) NB188_183.out (by simp)); replace BK198 := Aside0.mk (KeepBut.blk hk (g' := gb198) (o := .cells #[.int .i64 t195, .int .i64 t196] 25 (0, 0)) (by (with_reducible repeat (first | refine blk_drewN ?_ _ | refine blk_drew ?_ | refine blk_alloc ?_ _)); refine blk_put (cs := #[.int .i64 t195, .int .i64 0]) ?_ 1 _ rfl; (with_reducible repeat (first | refine blk_drewN ?_ _ | refine blk_drew ?_ | refine blk_alloc ?_ _)); refine blk_put (cs := #[.int .i64 0, .int .i64 0]) ?_ 0 _ rfl; (with_reducible repeat (first | refine blk_drewN ?_ _ | refine blk_drew ?_ | refine blk_alloc ?_ _)); exact BK198.out) NB198_183.out (by simp)); replace HB := Aside0.mk (hb); replace HI183 := Aside0.mk (hi)))
    go_meet
    case rel => exact ⟨_, (t199), (t200), (t201), rS, H', ⟨by first | omega | exact Nat.le_refl _⟩, ⟨by (with_reducible repeat (first | refine blk_drewN ?_ _ | refine blk_drew ?_ | refine blk_alloc ?_ _)); exact BK178.out⟩, ⟨by (with_reducible repeat (first | refine blk_drewN ?_ _ | refine blk_drew ?_ | refine blk_alloc ?_ _)); exact BK179.out⟩, ⟨by (with_reducible repeat (first | refine blk_drewN ?_ _ | refine blk_drew ?_ | refine blk_alloc ?_ _)); exact BK188.out⟩, ⟨by (with_reducible repeat (first | refine blk_drewN ?_ _ | refine blk_drew ?_ | refine blk_alloc ?_ _)); exact BK198.out⟩, ⟨by repeat (first | (with_reducible first | exact HI183.out | apply IsS66.alloc | apply IsS66.drewN | apply IsS66.drew | apply IsS66.set_1 | apply IsS66.set_2 | refine IsS66.far ?_ NB183_178.out _ | refine IsS66.far ?_ NB183_179.out _ | refine IsS66.far ?_ NB183_188.out _ | refine IsS66.far ?_ NB183_198.out _) | exact HI183.out)⟩, ⟨by repeat (first | (with_reducible first | exact HB.out | apply below_alloc | apply pw_below_drewN | apply below_drew1 | refine below_set ?_ (IsS66.ge HI183.out) | refine below_set ?_ GE178.out | refine below_set ?_ GE179.out | refine below_set ?_ GE188.out | refine below_set ?_ GE198.out) | exact HB.out)⟩⟩
   ·replace c26 := Bool.eq_false_iff.mpr c26
    subst c26
    rw [if_neg (show ¬ (false = true) by decide)] at H
    have H' := Aside0.mk H
    clear H
    go_wp2
    go_meet
    case rel => exact ⟨_, (false), (t193), (t194), rS, H', ⟨by first | omega | exact Nat.le_refl _⟩, ⟨by (with_reducible repeat (first | refine blk_drewN ?_ _ | refine blk_drew ?_ | refine blk_alloc ?_ _)); refine blk_far ?_ NB178_198.out _; (with_reducible repeat (first | refine blk_drewN ?_ _ | refine blk_drew ?_ | refine blk_alloc ?_ _)); refine blk_far ?_ NB178_198.out _; (with_reducible repeat (first | refine blk_drewN ?_ _ | refine blk_drew ?_ | refine blk_alloc ?_ _)); exact BK178.out⟩, ⟨by (with_reducible repeat (first | refine blk_drewN ?_ _ | refine blk_drew ?_ | refine blk_alloc ?_ _)); refine blk_far ?_ NB179_198.out _; (with_reducible repeat (first | refine blk_drewN ?_ _ | refine blk_drew ?_ | refine blk_alloc ?_ _)); refine blk_far ?_ NB179_198.out _; (with_reducible repeat (first | refine blk_drewN ?_ _ | refine blk_drew ?_ | refine blk_alloc ?_ _)); exact BK179.out⟩, ⟨by (with_reducible repeat (first | refine blk_drewN ?_ _ | refine blk_drew ?_ | refine blk_alloc ?_ _)); refine blk_far ?_ NB188_198.out _; (with_reducible repeat (first | refine blk_drewN ?_ _ | refine blk_drew ?_ | refine blk_alloc ?_ _)); refine blk_far ?_ NB188_198.out _; (with_reducible repeat (first | refine blk_drewN ?_ _ | refine blk_drew ?_ | refine blk_alloc ?_ _)); exact BK188.out⟩, ⟨by (with_reducible repeat (first | refine blk_drewN ?_ _ | refine blk_drew ?_ | refine blk_alloc ?_ _)); refine blk_put (cs := #[.int .i64 t195, .int .i64 0]) ?_ 1 _ rfl; (with_reducible repeat (first | refine blk_drewN ?_ _ | refine blk_drew ?_ | refine blk_alloc ?_ _)); refine blk_put (cs := #[.int .i64 0, .int .i64 0]) ?_ 0 _ rfl; (with_reducible repeat (first | refine blk_drewN ?_ _ | refine blk_drew ?_ | refine blk_alloc ?_ _)); exact BK198.out⟩, ⟨by repeat (first | (with_reducible first | exact HI183.out | apply IsS66.alloc | apply IsS66.drewN | apply IsS66.drew | apply IsS66.set_1 | apply IsS66.set_2 | refine IsS66.far ?_ NB183_178.out _ | refine IsS66.far ?_ NB183_179.out _ | refine IsS66.far ?_ NB183_188.out _ | refine IsS66.far ?_ NB183_198.out _) | exact HI183.out)⟩, ⟨by repeat (first | (with_reducible first | exact HB.out | apply below_alloc | apply pw_below_drewN | apply below_drew1 | refine below_set ?_ (IsS66.ge HI183.out) | refine below_set ?_ GE178.out | refine below_set ?_ GE179.out | refine below_set ?_ GE188.out | refine below_set ?_ GE198.out) | exact HB.out)⟩⟩
  case rest =>
   clear HC8
   try clear c1
   try clear c2
   try clear p2
   try clear c3
   try clear c4
   try clear c5
   try clear p6
   try clear c14
   try clear c15
   try clear c16
   try clear c26
   try clear hcz17_0
   try clear hcz17_1
   try clear hfz17_0
   try clear hfz17_1
   obtain ⟨kq, x29_7, x184001_7, x184002_7, rfl, HA, HJ7, BK178, BK179, BK188, BK198, HI183, HB⟩ := hcut
   cases kq with
   | zero => exact absurd HA.out (by simp [spec_l12Two.j0])
   | succ kj7 =>
    have H := HA.out
    clear HA
    simp only [spec_l12Two.j0] at H
    by_cases c29 : x29_7 = true
    ·subst c29
     rw [if_pos rfl] at H
     simp only [Option.some.injEq, Prod.mk.injEq] at H
     obtain ⟨rfl, rfl, rfl, rfl⟩ := H
     try go_wp2
     replace BK178 := Aside0.mk (blk_drew BK178.out); replace BK179 := Aside0.mk (blk_drew BK179.out); replace BK188 := Aside0.mk (blk_drew BK188.out); replace BK198 := Aside0.mk (blk_drew BK198.out); replace HI183 := Aside0.mk (IsS66.drew HI183.out); replace HB := Aside0.mk (below_drew1 HB.out)
     refine start_ (n := 4) (S := fun w' => w'.cell? ⟨gb188, 0, none⟩ = some (.int .i64 t184) ∧ w'.cell? ⟨gb188, 1, none⟩ = some (.int .i64 t185) ∧ w'.cell? ⟨gb198, 0, none⟩ = some (.int .i64 t195) ∧ w'.cell? ⟨gb198, 1, none⟩ = some (.int .i64 t196)) (ds := []) #[false, false, false, false] (by kernel_rfl) rfl rfl ⟨(blk_cell BK188.out 0).trans rfl, (blk_cell BK188.out 1).trans rfl, (blk_cell BK198.out 0).trans rfl, (blk_cell BK198.out 1).trans rfl⟩ (fun hHeld => ?_)
     generalize wc.drew = w30 at BK178 BK179 BK188 BK198 HI183 HB hHeld ⊢
     refine take_ (i := 0) (N := some 30) (v := ?_) (a' := ?_) #[true, false, false, false] rfl rfl (by kernel_rfl) (fun _ _ _ h => h) (Or.inl ⟨by rfl, ?_⟩) hHeld ?_ ?_
     rotate_left
     ·rintro w' ⟨s0, s1, s2, s3⟩
      go_simp
      with_reducible rfl
     rotate_left
     ·simp only [Act.put, List.setIfInBounds_toArray, List.set_cons_zero, List.set_cons_succ, i64_w, i32_w]
      rfl
     refine take_ (i := 1) (N := some 31) (v := ?_) (a' := ?_) #[true, true, false, false] rfl rfl (by kernel_rfl) (fun _ _ _ h => h) (Or.inl ⟨by rfl, ?_⟩) hHeld ?_ ?_
     rotate_left
     ·rintro w' ⟨s0, s1, s2, s3⟩
      go_simp
      with_reducible rfl
     rotate_left
     ·simp only [Act.put, List.setIfInBounds_toArray, List.set_cons_zero, List.set_cons_succ, i64_w, i32_w]
      rfl
     refine one_ (i := 2) (N := none) #[true, true, true, false] rfl rfl (by kernel_rfl) (by decide) (fun K hK => ?_)
     have hs31 : w30.cell? ⟨gb178, 0, none⟩ = some (.int .i64 0) := (blk_cell BK178.out 0).trans rfl
     have hfs31 := blk_frozen BK178.out 0
     have hns31_1 := NB179_178.out
     have hns31_2 := NB188_178.out
     have hns31_3 := NB198_178.out
     have hms31_1 := NB178_179.out
     have hms31_2 := NB178_188.out
     have hms31_3 := NB178_198.out
     have hs32 : w30.cell? ⟨gb178, 1, none⟩ = some (.int .i64 0) := (blk_cell BK178.out 1).trans rfl
     have hfs32 := blk_frozen BK178.out 1
     have hns32_1 := NB179_178.out
     have hns32_2 := NB188_178.out
     have hns32_3 := NB198_178.out
     have hms32_1 := NB178_179.out
     have hms32_2 := NB178_188.out
     have hms32_3 := NB178_198.out
     refine skip_ (w1 := ?_) (by rfl) rfl ?_ ?_
     rotate_left
     ·go_simp
      rfl
     refine hK.out _ _ ⟨((cell_far (p := ⟨gb178, _, none⟩) NB188_178.out _).trans (((cell_far (p := ⟨gb178, _, none⟩) NB188_178.out _).trans (hHeld.1)))), ((cell_far (p := ⟨gb178, _, none⟩) NB188_178.out _).trans (((cell_far (p := ⟨gb178, _, none⟩) NB188_178.out _).trans (hHeld.2.1)))), ((cell_far (p := ⟨gb178, _, none⟩) NB198_178.out _).trans (((cell_far (p := ⟨gb178, _, none⟩) NB198_178.out _).trans (hHeld.2.2.1)))), ((cell_far (p := ⟨gb178, _, none⟩) NB198_178.out _).trans (((cell_far (p := ⟨gb178, _, none⟩) NB198_178.out _).trans (hHeld.2.2.2))))⟩ (fun hHeld => ?_)
     clear hK K
     refine one_ (i := 3) (N := none) #[true, true, true, true] rfl rfl (by kernel_rfl) (by decide) (fun K hK => ?_)
     have hs33 : w30.cell? ⟨gb179, 0, none⟩ = some (.int .i64 0) := (blk_cell BK179.out 0).trans rfl
     have hfs33 := blk_frozen BK179.out 0
     have hns33_0 := NB178_179.out
     have hns33_2 := NB188_179.out
     have hns33_3 := NB198_179.out
     have hms33_0 := NB179_178.out
     have hms33_2 := NB179_188.out
     have hms33_3 := NB179_198.out
     have hs34 : w30.cell? ⟨gb179, 1, none⟩ = some (.int .i64 0) := (blk_cell BK179.out 1).trans rfl
     have hfs34 := blk_frozen BK179.out 1
     have hns34_0 := NB178_179.out
     have hns34_2 := NB188_179.out
     have hns34_3 := NB198_179.out
     have hms34_0 := NB179_178.out
     have hms34_2 := NB179_188.out
     have hms34_3 := NB179_198.out
     refine skip_ (w1 := ?_) (by rfl) rfl ?_ ?_
     rotate_left
     ·go_simp
      rfl
     refine hK.out _ _ ⟨((cell_far (p := ⟨gb179, _, none⟩) NB188_179.out _).trans (((cell_far (p := ⟨gb179, _, none⟩) NB188_179.out _).trans (hHeld.1)))), ((cell_far (p := ⟨gb179, _, none⟩) NB188_179.out _).trans (((cell_far (p := ⟨gb179, _, none⟩) NB188_179.out _).trans (hHeld.2.1)))), ((cell_far (p := ⟨gb179, _, none⟩) NB198_179.out _).trans (((cell_far (p := ⟨gb179, _, none⟩) NB198_179.out _).trans (hHeld.2.2.1)))), ((cell_far (p := ⟨gb179, _, none⟩) NB198_179.out _).trans (((cell_far (p := ⟨gb179, _, none⟩) NB198_179.out _).trans (hHeld.2.2.2))))⟩ (fun hHeld => ?_)
     clear hK K
     refine done_ (by kernel_rfl) ?_
     try go_wp2
     refine bodyPost_ret (results_cc rfl _ _ gb178 gb179 25 25 #[.int .i64 t184, .int .i64 t185] #[.int .i64 t195, .int .i64 t196] (0, 0) (0, 0) _ _ rfl (by (with_reducible repeat (first | refine blk_drewN ?_ _ | refine blk_drew ?_ | refine blk_alloc ?_ _)); refine blk_far ?_ NB178_179.out _; (with_reducible repeat (first | refine blk_drewN ?_ _ | refine blk_drew ?_ | refine blk_alloc ?_ _)); refine blk_far ?_ NB178_179.out _; (with_reducible repeat (first | refine blk_drewN ?_ _ | refine blk_drew ?_ | refine blk_alloc ?_ _)); refine blk_put (cs := #[.int .i64 t184, .int .i64 0]) ?_ 1 _ rfl; (with_reducible repeat (first | refine blk_drewN ?_ _ | refine blk_drew ?_ | refine blk_alloc ?_ _)); refine blk_put (cs := #[.int .i64 0, .int .i64 0]) ?_ 0 _ rfl; (with_reducible repeat (first | refine blk_drewN ?_ _ | refine blk_drew ?_ | refine blk_alloc ?_ _)); exact BK178.out) Tryd.underlying25 rfl (by kernel_rfl) rfl (by (with_reducible repeat (first | refine blk_drewN ?_ _ | refine blk_drew ?_ | refine blk_alloc ?_ _)); refine blk_put (cs := #[.int .i64 t195, .int .i64 0]) ?_ 1 _ rfl; (with_reducible repeat (first | refine blk_drewN ?_ _ | refine blk_drew ?_ | refine blk_alloc ?_ _)); refine blk_put (cs := #[.int .i64 0, .int .i64 0]) ?_ 0 _ rfl; (with_reducible repeat (first | refine blk_drewN ?_ _ | refine blk_drew ?_ | refine blk_alloc ?_ _)); refine blk_far ?_ NB179_178.out _; (with_reducible repeat (first | refine blk_drewN ?_ _ | refine blk_drew ?_ | refine blk_alloc ?_ _)); refine blk_far ?_ NB179_178.out _; (with_reducible repeat (first | refine blk_drewN ?_ _ | refine blk_drew ?_ | refine blk_alloc ?_ _)); exact BK179.out) Tryd.underlying25 rfl (by kernel_rfl)) rfl ?_
     exact ⟨rE, by repeat (first | (with_reducible first | exact HB.out | apply below_alloc | apply pw_below_drewN | apply below_drew1 | refine below_set ?_ (IsS66.ge HI183.out) | refine below_set ?_ GE178.out | refine below_set ?_ GE179.out | refine below_set ?_ GE188.out | refine below_set ?_ GE198.out) | exact HB.out)⟩
    ·replace c29 := Bool.eq_false_iff.mpr c29
     subst c29
     rw [if_neg (show ¬ (false = true) by decide)] at H
     obtain ⟨⟨t202, t203, t204⟩, A35, H⟩ := bs H
     try dsimp only at H
     by_cases c36 : t204 = true
     ·subst c36
      rw [if_pos rfl] at H
      simp only [Option.some.injEq, Prod.mk.injEq] at H
      obtain ⟨rfl, rfl, rfl, rfl⟩ := H
      have hnb37 := NB188_178.out
      have hnc37 := NB178_188.out
      have hnb38 := NB188_179.out
      have hnc38 := NB179_188.out
      have hnb39 := NB188_198.out
      have hnc39 := NB198_188.out
      have hnb40 := NB188_183.out
      have hnc40 := NB183_188.out
      have hcz41_0 : wc.cell? ⟨gb188, 0, none⟩ = some (.int .i64 t184) := (blk_cell BK188.out 0).trans rfl
      have hcz41_1 : wc.cell? ⟨gb188, 1, none⟩ = some (.int .i64 t185) := (blk_cell BK188.out 1).trans rfl
      have hfz41_0 := blk_frozen BK188.out 0
      have hfz41_1 := blk_frozen BK188.out 1
      try go_wp2_with (first | ((with_reducible refine gate_callee (f := 9) rfl ?_); refine goesL_ (some 38) rfl rfl Tryd.func9 (by kernel_rfl) rfl #[.int .i64 t184, .int .i64 (wrap64 (t185 + 1))] rfl mp_ ?_; (with_reducible refine (spec_SlopeOf.calls kj7 t184 (wrap64 (t185 + 1)) t202 t203 true _ A35.out).mono ?_); rintro e w42 ⟨rfl, hb⟩; refine ⟨_, rfl, ?_⟩; replace BK178 := Aside0.mk (bB BK178 hb); replace BK179 := Aside0.mk (bB BK179 hb); replace BK188 := Aside0.mk (bB BK188 hb); replace BK198 := Aside0.mk (bB BK198 hb); replace HB := Aside0.mk (below_step (by repeat (first | (with_reducible first | exact HB.out | apply below_alloc | apply pw_below_drewN | apply below_drew1 | refine below_set ?_ (IsS66.ge HI183.out) | refine below_set ?_ GE178.out | refine below_set ?_ GE179.out | refine below_set ?_ GE188.out | refine below_set ?_ GE198.out) | exact HB.out)) hb); replace HI183 := Aside0.mk (IsS66.below (by repeat (first | (with_reducible first | exact HI183.out | apply IsS66.alloc | apply IsS66.drewN | apply IsS66.drew | apply IsS66.set_1 | apply IsS66.set_2 | refine IsS66.far ?_ NB183_178.out _ | refine IsS66.far ?_ NB183_179.out _ | refine IsS66.far ?_ NB183_188.out _ | refine IsS66.far ?_ NB183_198.out _) | exact HI183.out)) hb)) | ((with_reducible refine gate_dst (N := 8) rfl ?_); refine box_event ?hg (N := 8) ?hd (cs := #[.int .i64 0, .int .i64 0]) (t := 25) ?hr ?_; (case hd => rfl); (case hg => rfl); (case hr => exact gS); intro gb205 hg w43 hbox hb; have BK205 := Aside0.mk (hbox); have GW205 := Aside0.mk ((by rw [hg]; exact (below_size (by repeat (first | (with_reducible first | exact HB.out | apply below_alloc | apply pw_below_drewN | apply below_drew1 | refine below_set ?_ (IsS66.ge HI183.out) | refine below_set ?_ GE178.out | refine below_set ?_ GE179.out | refine below_set ?_ GE188.out | refine below_set ?_ GE198.out) | exact HB.out))) : w.heap.size ≤ gb205)); have GE205 := Aside0.mk ((by rw [hg]; exact (below_size (by repeat (first | (with_reducible first | exact HB.out | apply below_alloc | apply pw_below_drewN | apply below_drew1 | refine below_set ?_ (IsS66.ge HI183.out) | refine below_set ?_ GE178.out | refine below_set ?_ GE179.out | refine below_set ?_ GE188.out | refine below_set ?_ GE198.out) | exact HB.out))) : w.heap.size ≤ gb205)); replace HB := Aside0.mk (below_step (by repeat (first | (with_reducible first | exact HB.out | apply below_alloc | apply pw_below_drewN | apply below_drew1 | refine below_set ?_ (IsS66.ge HI183.out) | refine below_set ?_ GE178.out | refine below_set ?_ GE179.out | refine below_set ?_ GE188.out | refine below_set ?_ GE198.out) | exact HB.out)) hb); have NB178_205 := Aside0.mk (neL BK178 hg); have NB205_178 := Aside0.mk (neG BK178 hg); replace BK178 := Aside0.mk (bB BK178 hb); have NB179_205 := Aside0.mk (neL BK179 hg); have NB205_179 := Aside0.mk (neG BK179 hg); replace BK179 := Aside0.mk (bB BK179 hb); have NB188_205 := Aside0.mk (neL BK188 hg); have NB205_188 := Aside0.mk (neG BK188 hg); replace BK188 := Aside0.mk (bB BK188 hb); have NB198_205 := Aside0.mk (neL BK198 hg); have NB205_198 := Aside0.mk (neG BK198 hg); replace BK198 := Aside0.mk (bB BK198 hb); have NB183_205 := Aside0.mk ((by rw [hg]; exact Nat.ne_of_lt (IsS66.lt (show IsS66 w _ g183 t180 x184001_7 x184002_7 from by repeat (first | (with_reducible first | exact HI183.out | apply IsS66.alloc | apply IsS66.drewN | apply IsS66.drew | apply IsS66.set_1 | apply IsS66.set_2 | refine IsS66.far ?_ NB183_178.out _ | refine IsS66.far ?_ NB183_179.out _ | refine IsS66.far ?_ NB183_188.out _ | refine IsS66.far ?_ NB183_198.out _) | exact HI183.out))) : g183 ≠ gb205)); have NB205_183 := Aside0.mk ((by rw [hg]; exact Nat.ne_of_gt (IsS66.lt (show IsS66 w _ g183 t180 x184001_7 x184002_7 from by repeat (first | (with_reducible first | exact HI183.out | apply IsS66.alloc | apply IsS66.drewN | apply IsS66.drew | apply IsS66.set_1 | apply IsS66.set_2 | refine IsS66.far ?_ NB183_178.out _ | refine IsS66.far ?_ NB183_179.out _ | refine IsS66.far ?_ NB183_188.out _ | refine IsS66.far ?_ NB183_198.out _) | exact HI183.out))) : gb205 ≠ g183)); replace HI183 := Aside0.mk (IsS66.below (by repeat (first | (with_reducible first | exact HI183.out | apply IsS66.alloc | apply IsS66.drewN | apply IsS66.drew | apply IsS66.set_1 | apply IsS66.set_2 | refine IsS66.far ?_ NB183_178.out _ | refine IsS66.far ?_ NB183_179.out _ | refine IsS66.far ?_ NB183_188.out _ | refine IsS66.far ?_ NB183_198.out _) | exact HI183.out)) hb); clear hb hbox hg; have hnb44 := NB205_178.out; have hnc44 := NB178_205.out; have hnb45 := NB205_179.out; have hnc45 := NB179_205.out; have hnb46 := NB205_188.out; have hnc46 := NB188_205.out; have hnb47 := NB205_198.out; have hnc47 := NB198_205.out; have hnb48 := NB205_183.out; have hnc48 := NB183_205.out; have hcz49_0 : w43.cell? ⟨gb205, 0, none⟩ = some (.int .i64 0) := (blk_cell BK205.out 0).trans rfl; have hcz49_1 : w43.cell? ⟨gb205, 1, none⟩ = some (.int .i64 0) := (blk_cell BK205.out 1).trans rfl; have hfz49_0 := blk_frozen BK205.out 0; have hfz49_1 := blk_frozen BK205.out 1))
      have n0_ : Aside0 (((w43.setCell ⟨gb205, 0, none⟩ (.int .i64 t202)).setCell ⟨gb205, 1, none⟩ (.int .i64 t203)).heap[gb178]? = some (.cells #[.int .i64 0, .int .i64 0] 25 (0, 0))) := ⟨by (with_reducible repeat (first | refine blk_drewN ?_ _ | refine blk_drew ?_ | refine blk_alloc ?_ _)); refine blk_far ?_ NB178_205.out _; (with_reducible repeat (first | refine blk_drewN ?_ _ | refine blk_drew ?_ | refine blk_alloc ?_ _)); refine blk_far ?_ NB178_205.out _; (with_reducible repeat (first | refine blk_drewN ?_ _ | refine blk_drew ?_ | refine blk_alloc ?_ _)); exact BK178.out⟩
      have n1_ : Aside0 (((w43.setCell ⟨gb205, 0, none⟩ (.int .i64 t202)).setCell ⟨gb205, 1, none⟩ (.int .i64 t203)).heap[gb179]? = some (.cells #[.int .i64 0, .int .i64 0] 25 (0, 0))) := ⟨by (with_reducible repeat (first | refine blk_drewN ?_ _ | refine blk_drew ?_ | refine blk_alloc ?_ _)); refine blk_far ?_ NB179_205.out _; (with_reducible repeat (first | refine blk_drewN ?_ _ | refine blk_drew ?_ | refine blk_alloc ?_ _)); refine blk_far ?_ NB179_205.out _; (with_reducible repeat (first | refine blk_drewN ?_ _ | refine blk_drew ?_ | refine blk_alloc ?_ _)); exact BK179.out⟩
      have n2_ : Aside0 (((w43.setCell ⟨gb205, 0, none⟩ (.int .i64 t202)).setCell ⟨gb205, 1, none⟩ (.int .i64 t203)).heap[gb188]? = some (.cells #[.int .i64 t184, .int .i64 t185] 25 (0, 0))) := ⟨by (with_reducible repeat (first | refine blk_drewN ?_ _ | refine blk_drew ?_ | refine blk_alloc ?_ _)); refine blk_far ?_ NB188_205.out _; (with_reducible repeat (first | refine blk_drewN ?_ _ | refine blk_drew ?_ | refine blk_alloc ?_ _)); refine blk_far ?_ NB188_205.out _; (with_reducible repeat (first | refine blk_drewN ?_ _ | refine blk_drew ?_ | refine blk_alloc ?_ _)); exact BK188.out⟩
      have n3_ : Aside0 (((w43.setCell ⟨gb205, 0, none⟩ (.int .i64 t202)).setCell ⟨gb205, 1, none⟩ (.int .i64 t203)).heap[gb198]? = some (.cells #[.int .i64 t195, .int .i64 t196] 25 (0, 0))) := ⟨by (with_reducible repeat (first | refine blk_drewN ?_ _ | refine blk_drew ?_ | refine blk_alloc ?_ _)); refine blk_far ?_ NB198_205.out _; (with_reducible repeat (first | refine blk_drewN ?_ _ | refine blk_drew ?_ | refine blk_alloc ?_ _)); refine blk_far ?_ NB198_205.out _; (with_reducible repeat (first | refine blk_drewN ?_ _ | refine blk_drew ?_ | refine blk_alloc ?_ _)); exact BK198.out⟩
      have n4_ : Aside0 (((w43.setCell ⟨gb205, 0, none⟩ (.int .i64 t202)).setCell ⟨gb205, 1, none⟩ (.int .i64 t203)).heap[gb205]? = some (.cells #[.int .i64 t202, .int .i64 t203] 25 (0, 0))) := ⟨by (with_reducible repeat (first | refine blk_drewN ?_ _ | refine blk_drew ?_ | refine blk_alloc ?_ _)); refine blk_put (cs := #[.int .i64 t202, .int .i64 0]) ?_ 1 _ rfl; (with_reducible repeat (first | refine blk_drewN ?_ _ | refine blk_drew ?_ | refine blk_alloc ?_ _)); refine blk_put (cs := #[.int .i64 0, .int .i64 0]) ?_ 0 _ rfl; (with_reducible repeat (first | refine blk_drewN ?_ _ | refine blk_drew ?_ | refine blk_alloc ?_ _)); exact BK205.out⟩
      have n5_ : Aside0 (IsS66 w ((w43.setCell ⟨gb205, 0, none⟩ (.int .i64 t202)).setCell ⟨gb205, 1, none⟩ (.int .i64 t203)) g183 t180 x184001_7 x184002_7) := ⟨by repeat (first | (with_reducible first | exact HI183.out | apply IsS66.alloc | apply IsS66.drewN | apply IsS66.drew | apply IsS66.set_1 | apply IsS66.set_2 | refine IsS66.far ?_ NB183_178.out _ | refine IsS66.far ?_ NB183_179.out _ | refine IsS66.far ?_ NB183_188.out _ | refine IsS66.far ?_ NB183_198.out _ | refine IsS66.far ?_ NB183_205.out _) | exact HI183.out)⟩
      have n6_ : Aside0 (Below w.heap.size w ((w43.setCell ⟨gb205, 0, none⟩ (.int .i64 t202)).setCell ⟨gb205, 1, none⟩ (.int .i64 t203))) := ⟨by repeat (first | (with_reducible first | exact HB.out | apply below_alloc | apply pw_below_drewN | apply below_drew1 | refine below_set ?_ (IsS66.ge HI183.out) | refine below_set ?_ GE178.out | refine below_set ?_ GE179.out | refine below_set ?_ GE188.out | refine below_set ?_ GE198.out | refine below_set ?_ GE205.out) | exact HB.out)⟩
      (try clear BK178)
      (try clear BK179)
      (try clear BK188)
      (try clear BK198)
      (try clear BK205)
      (try clear HI183)
      (try clear HB)
      generalize ((w43.setCell ⟨gb205, 0, none⟩ (.int .i64 t202)).setCell ⟨gb205, 1, none⟩ (.int .i64 t203)) = w50 at n0_ n1_ n2_ n3_ n4_ n5_ n6_ ⊢
      have BK178 := n0_
      have BK179 := n1_
      have BK188 := n2_
      have BK198 := n3_
      have BK205 := n4_
      have HI183 := n5_
      have HB := n6_
      clear n0_ n1_ n2_ n3_ n4_ n5_ n6_
      replace BK178 := Aside0.mk (blk_drew BK178.out); replace BK179 := Aside0.mk (blk_drew BK179.out); replace BK188 := Aside0.mk (blk_drew BK188.out); replace BK198 := Aside0.mk (blk_drew BK198.out); replace BK205 := Aside0.mk (blk_drew BK205.out); replace HI183 := Aside0.mk (IsS66.drew HI183.out); replace HB := Aside0.mk (below_drew1 HB.out)
      refine start_ (n := 4) (S := fun w' => w'.cell? ⟨gb188, 0, none⟩ = some (.int .i64 t184) ∧ w'.cell? ⟨gb188, 1, none⟩ = some (.int .i64 t185) ∧ w'.cell? ⟨gb205, 0, none⟩ = some (.int .i64 t202) ∧ w'.cell? ⟨gb205, 1, none⟩ = some (.int .i64 t203)) (ds := []) #[false, false, false, false] (by kernel_rfl) rfl rfl ⟨(blk_cell BK188.out 0).trans rfl, (blk_cell BK188.out 1).trans rfl, (blk_cell BK205.out 0).trans rfl, (blk_cell BK205.out 1).trans rfl⟩ (fun hHeld => ?_)
      generalize w50.drew = w51 at BK178 BK179 BK188 BK198 BK205 HI183 HB hHeld ⊢
      refine take_ (i := 0) (N := some 42) (v := ?_) (a' := ?_) #[true, false, false, false] rfl rfl (by kernel_rfl) (fun _ _ _ h => h) (Or.inl ⟨by rfl, ?_⟩) hHeld ?_ ?_
      rotate_left
      ·rintro w' ⟨s0, s1, s2, s3⟩
       go_simp
       with_reducible rfl
      rotate_left
      ·simp only [Act.put, List.setIfInBounds_toArray, List.set_cons_zero, List.set_cons_succ, i64_w, i32_w]
       rfl
      refine take_ (i := 1) (N := some 43) (v := ?_) (a' := ?_) #[true, true, false, false] rfl rfl (by kernel_rfl) (fun _ _ _ h => h) (Or.inl ⟨by rfl, ?_⟩) hHeld ?_ ?_
      rotate_left
      ·rintro w' ⟨s0, s1, s2, s3⟩
       go_simp
       with_reducible rfl
      rotate_left
      ·simp only [Act.put, List.setIfInBounds_toArray, List.set_cons_zero, List.set_cons_succ, i64_w, i32_w]
       rfl
      refine one_ (i := 2) (N := none) #[true, true, true, false] rfl rfl (by kernel_rfl) (by decide) (fun K hK => ?_)
      have hs52 : w51.cell? ⟨gb178, 0, none⟩ = some (.int .i64 0) := (blk_cell BK178.out 0).trans rfl
      have hfs52 := blk_frozen BK178.out 0
      have hns52_1 := NB179_178.out
      have hns52_2 := NB188_178.out
      have hns52_3 := NB198_178.out
      have hns52_4 := NB205_178.out
      have hms52_1 := NB178_179.out
      have hms52_2 := NB178_188.out
      have hms52_3 := NB178_198.out
      have hms52_4 := NB178_205.out
      have hs53 : w51.cell? ⟨gb178, 1, none⟩ = some (.int .i64 0) := (blk_cell BK178.out 1).trans rfl
      have hfs53 := blk_frozen BK178.out 1
      have hns53_1 := NB179_178.out
      have hns53_2 := NB188_178.out
      have hns53_3 := NB198_178.out
      have hns53_4 := NB205_178.out
      have hms53_1 := NB178_179.out
      have hms53_2 := NB178_188.out
      have hms53_3 := NB178_198.out
      have hms53_4 := NB178_205.out
      refine skip_ (w1 := ?_) (by rfl) rfl ?_ ?_
      rotate_left
      ·go_simp
       rfl
      refine hK.out _ _ ⟨((cell_far (p := ⟨gb178, _, none⟩) NB188_178.out _).trans (((cell_far (p := ⟨gb178, _, none⟩) NB188_178.out _).trans (hHeld.1)))), ((cell_far (p := ⟨gb178, _, none⟩) NB188_178.out _).trans (((cell_far (p := ⟨gb178, _, none⟩) NB188_178.out _).trans (hHeld.2.1)))), ((cell_far (p := ⟨gb178, _, none⟩) NB205_178.out _).trans (((cell_far (p := ⟨gb178, _, none⟩) NB205_178.out _).trans (hHeld.2.2.1)))), ((cell_far (p := ⟨gb178, _, none⟩) NB205_178.out _).trans (((cell_far (p := ⟨gb178, _, none⟩) NB205_178.out _).trans (hHeld.2.2.2))))⟩ (fun hHeld => ?_)
      clear hK K
      refine one_ (i := 3) (N := none) #[true, true, true, true] rfl rfl (by kernel_rfl) (by decide) (fun K hK => ?_)
      have hs54 : w51.cell? ⟨gb179, 0, none⟩ = some (.int .i64 0) := (blk_cell BK179.out 0).trans rfl
      have hfs54 := blk_frozen BK179.out 0
      have hns54_0 := NB178_179.out
      have hns54_2 := NB188_179.out
      have hns54_3 := NB198_179.out
      have hns54_4 := NB205_179.out
      have hms54_0 := NB179_178.out
      have hms54_2 := NB179_188.out
      have hms54_3 := NB179_198.out
      have hms54_4 := NB179_205.out
      have hs55 : w51.cell? ⟨gb179, 1, none⟩ = some (.int .i64 0) := (blk_cell BK179.out 1).trans rfl
      have hfs55 := blk_frozen BK179.out 1
      have hns55_0 := NB178_179.out
      have hns55_2 := NB188_179.out
      have hns55_3 := NB198_179.out
      have hns55_4 := NB205_179.out
      have hms55_0 := NB179_178.out
      have hms55_2 := NB179_188.out
      have hms55_3 := NB179_198.out
      have hms55_4 := NB179_205.out
      refine skip_ (w1 := ?_) (by rfl) rfl ?_ ?_
      rotate_left
      ·go_simp
       rfl
      refine hK.out _ _ ⟨((cell_far (p := ⟨gb179, _, none⟩) NB188_179.out _).trans (((cell_far (p := ⟨gb179, _, none⟩) NB188_179.out _).trans (hHeld.1)))), ((cell_far (p := ⟨gb179, _, none⟩) NB188_179.out _).trans (((cell_far (p := ⟨gb179, _, none⟩) NB188_179.out _).trans (hHeld.2.1)))), ((cell_far (p := ⟨gb179, _, none⟩) NB205_179.out _).trans (((cell_far (p := ⟨gb179, _, none⟩) NB205_179.out _).trans (hHeld.2.2.1)))), ((cell_far (p := ⟨gb179, _, none⟩) NB205_179.out _).trans (((cell_far (p := ⟨gb179, _, none⟩) NB205_179.out _).trans (hHeld.2.2.2))))⟩ (fun hHeld => ?_)
      clear hK K
      refine done_ (by kernel_rfl) ?_
      try go_wp2
      refine bodyPost_ret (results_cc rfl _ _ gb178 gb179 25 25 #[.int .i64 t184, .int .i64 t185] #[.int .i64 t202, .int .i64 t203] (0, 0) (0, 0) _ _ rfl (by (with_reducible repeat (first | refine blk_drewN ?_ _ | refine blk_drew ?_ | refine blk_alloc ?_ _)); refine blk_far ?_ NB178_179.out _; (with_reducible repeat (first | refine blk_drewN ?_ _ | refine blk_drew ?_ | refine blk_alloc ?_ _)); refine blk_far ?_ NB178_179.out _; (with_reducible repeat (first | refine blk_drewN ?_ _ | refine blk_drew ?_ | refine blk_alloc ?_ _)); refine blk_put (cs := #[.int .i64 t184, .int .i64 0]) ?_ 1 _ rfl; (with_reducible repeat (first | refine blk_drewN ?_ _ | refine blk_drew ?_ | refine blk_alloc ?_ _)); refine blk_put (cs := #[.int .i64 0, .int .i64 0]) ?_ 0 _ rfl; (with_reducible repeat (first | refine blk_drewN ?_ _ | refine blk_drew ?_ | refine blk_alloc ?_ _)); exact BK178.out) Tryd.underlying25 rfl (by kernel_rfl) rfl (by (with_reducible repeat (first | refine blk_drewN ?_ _ | refine blk_drew ?_ | refine blk_alloc ?_ _)); refine blk_put (cs := #[.int .i64 t202, .int .i64 0]) ?_ 1 _ rfl; (with_reducible repeat (first | refine blk_drewN ?_ _ | refine blk_drew ?_ | refine blk_alloc ?_ _)); refine blk_put (cs := #[.int .i64 0, .int .i64 0]) ?_ 0 _ rfl; (with_reducible repeat (first | refine blk_drewN ?_ _ | refine blk_drew ?_ | refine blk_alloc ?_ _)); refine blk_far ?_ NB179_178.out _; (with_reducible repeat (first | refine blk_drewN ?_ _ | refine blk_drew ?_ | refine blk_alloc ?_ _)); refine blk_far ?_ NB179_178.out _; (with_reducible repeat (first | refine blk_drewN ?_ _ | refine blk_drew ?_ | refine blk_alloc ?_ _)); exact BK179.out) Tryd.underlying25 rfl (by kernel_rfl)) rfl ?_
      exact ⟨rE, by repeat (first | (with_reducible first | exact HB.out | apply below_alloc | apply pw_below_drewN | apply below_drew1 | refine below_set ?_ (IsS66.ge HI183.out) | refine below_set ?_ GE178.out | refine below_set ?_ GE179.out | refine below_set ?_ GE188.out | refine below_set ?_ GE198.out | refine below_set ?_ GE205.out) | exact HB.out)⟩
     ·replace c36 := Bool.eq_false_iff.mpr c36
      subst c36
      rw [if_neg (show ¬ (false = true) by decide)] at H
      obtain ⟨⟨t206, t207, t208, t209⟩, A56, H⟩ := bs H
      try dsimp only at H
      simp only [Option.some.injEq, Prod.mk.injEq] at H
      obtain ⟨rfl, rfl, rfl, rfl⟩ := H
      have hnb57 := NB188_178.out
      have hnc57 := NB178_188.out
      have hnb58 := NB188_179.out
      have hnc58 := NB179_188.out
      have hnb59 := NB188_198.out
      have hnc59 := NB198_188.out
      have hnb60 := NB188_183.out
      have hnc60 := NB183_188.out
      have hcz61_0 : wc.cell? ⟨gb188, 0, none⟩ = some (.int .i64 t184) := (blk_cell BK188.out 0).trans rfl
      have hcz61_1 : wc.cell? ⟨gb188, 1, none⟩ = some (.int .i64 t185) := (blk_cell BK188.out 1).trans rfl
      have hfz61_0 := blk_frozen BK188.out 0
      have hfz61_1 := blk_frozen BK188.out 1
      try go_wp2_with (first | ((with_reducible refine gate_callee (f := 9) rfl ?_); refine goesL_ (some 38) rfl rfl Tryd.func9 (by kernel_rfl) rfl #[.int .i64 t184, .int .i64 (wrap64 (t185 + 1))] rfl mp_ ?_; (with_reducible refine (spec_SlopeOf.calls kj7 t184 (wrap64 (t185 + 1)) t202 t203 false _ A35.out).mono ?_); rintro e w62 ⟨rfl, hb⟩; refine ⟨_, rfl, ?_⟩; replace BK178 := Aside0.mk (bB BK178 hb); replace BK179 := Aside0.mk (bB BK179 hb); replace BK188 := Aside0.mk (bB BK188 hb); replace BK198 := Aside0.mk (bB BK198 hb); replace HB := Aside0.mk (below_step (by repeat (first | (with_reducible first | exact HB.out | apply below_alloc | apply pw_below_drewN | apply below_drew1 | refine below_set ?_ (IsS66.ge HI183.out) | refine below_set ?_ GE178.out | refine below_set ?_ GE179.out | refine below_set ?_ GE188.out | refine below_set ?_ GE198.out) | exact HB.out)) hb); replace HI183 := Aside0.mk (IsS66.below (by repeat (first | (with_reducible first | exact HI183.out | apply IsS66.alloc | apply IsS66.drewN | apply IsS66.drew | apply IsS66.set_1 | apply IsS66.set_2 | refine IsS66.far ?_ NB183_178.out _ | refine IsS66.far ?_ NB183_179.out _ | refine IsS66.far ?_ NB183_188.out _ | refine IsS66.far ?_ NB183_198.out _) | exact HI183.out)) hb)) | ((with_reducible refine gate_dst (N := 8) rfl ?_); refine box_event ?hg (N := 8) ?hd (cs := #[.int .i64 0, .int .i64 0]) (t := 25) ?hr ?_; (case hd => rfl); (case hg => rfl); (case hr => exact gS); intro gb205 hg w63 hbox hb; have BK205 := Aside0.mk (hbox); have GW205 := Aside0.mk ((by rw [hg]; exact (below_size (by repeat (first | (with_reducible first | exact HB.out | apply below_alloc | apply pw_below_drewN | apply below_drew1 | refine below_set ?_ (IsS66.ge HI183.out) | refine below_set ?_ GE178.out | refine below_set ?_ GE179.out | refine below_set ?_ GE188.out | refine below_set ?_ GE198.out) | exact HB.out))) : w.heap.size ≤ gb205)); have GE205 := Aside0.mk ((by rw [hg]; exact (below_size (by repeat (first | (with_reducible first | exact HB.out | apply below_alloc | apply pw_below_drewN | apply below_drew1 | refine below_set ?_ (IsS66.ge HI183.out) | refine below_set ?_ GE178.out | refine below_set ?_ GE179.out | refine below_set ?_ GE188.out | refine below_set ?_ GE198.out) | exact HB.out))) : w.heap.size ≤ gb205)); replace HB := Aside0.mk (below_step (by repeat (first | (with_reducible first | exact HB.out | apply below_alloc | apply pw_below_drewN | apply below_drew1 | refine below_set ?_ (IsS66.ge HI183.out) | refine below_set ?_ GE178.out | refine below_set ?_ GE179.out | refine below_set ?_ GE188.out | refine below_set ?_ GE198.out) | exact HB.out)) hb); have NB178_205 := Aside0.mk (neL BK178 hg); have NB205_178 := Aside0.mk (neG BK178 hg); replace BK178 := Aside0.mk (bB BK178 hb); have NB179_205 := Aside0.mk (neL BK179 hg); have NB205_179 := Aside0.mk (neG BK179 hg); replace BK179 := Aside0.mk (bB BK179 hb); have NB188_205 := Aside0.mk (neL BK188 hg); have NB205_188 := Aside0.mk (neG BK188 hg); replace BK188 := Aside0.mk (bB BK188 hb); have NB198_205 := Aside0.mk (neL BK198 hg); have NB205_198 := Aside0.mk (neG BK198 hg); replace BK198 := Aside0.mk (bB BK198 hb); have NB183_205 := Aside0.mk ((by rw [hg]; exact Nat.ne_of_lt (IsS66.lt (show IsS66 w _ g183 t180 x184001_7 x184002_7 from by repeat (first | (with_reducible first | exact HI183.out | apply IsS66.alloc | apply IsS66.drewN | apply IsS66.drew | apply IsS66.set_1 | apply IsS66.set_2 | refine IsS66.far ?_ NB183_178.out _ | refine IsS66.far ?_ NB183_179.out _ | refine IsS66.far ?_ NB183_188.out _ | refine IsS66.far ?_ NB183_198.out _) | exact HI183.out))) : g183 ≠ gb205)); have NB205_183 := Aside0.mk ((by rw [hg]; exact Nat.ne_of_gt (IsS66.lt (show IsS66 w _ g183 t180 x184001_7 x184002_7 from by repeat (first | (with_reducible first | exact HI183.out | apply IsS66.alloc | apply IsS66.drewN | apply IsS66.drew | apply IsS66.set_1 | apply IsS66.set_2 | refine IsS66.far ?_ NB183_178.out _ | refine IsS66.far ?_ NB183_179.out _ | refine IsS66.far ?_ NB183_188.out _ | refine IsS66.far ?_ NB183_198.out _) | exact HI183.out))) : gb205 ≠ g183)); replace HI183 := Aside0.mk (IsS66.below (by repeat (first | (with_reducible first | exact HI183.out | apply IsS66.alloc | apply IsS66.drewN | apply IsS66.drew | apply IsS66.set_1 | apply IsS66.set_2 | refine IsS66.far ?_ NB183_178.out _ | refine IsS66.far ?_ NB183_179.out _ | refine IsS66.far ?_ NB183_188.out _ | refine IsS66.far ?_ NB183_198.out _) | exact HI183.out)) hb); clear hb hbox hg; have hnb64 := NB205_178.out; have hnc64 := NB178_205.out; have hnb65 := NB205_179.out; have hnc65 := NB179_205.out; have hnb66 := NB205_188.out; have hnc66 := NB188_205.out; have hnb67 := NB205_198.out; have hnc67 := NB198_205.out; have hnb68 := NB205_183.out; have hnc68 := NB183_205.out; have hcz69_0 : w63.cell? ⟨gb205, 0, none⟩ = some (.int .i64 0) := (blk_cell BK205.out 0).trans rfl; have hcz69_1 : w63.cell? ⟨gb205, 1, none⟩ = some (.int .i64 0) := (blk_cell BK205.out 1).trans rfl; have hfz69_0 := blk_frozen BK205.out 0; have hfz69_1 := blk_frozen BK205.out 1))
      have n0_ : Aside0 (((w63.setCell ⟨gb205, 0, none⟩ (.int .i64 t202)).setCell ⟨gb205, 1, none⟩ (.int .i64 t203)).heap[gb178]? = some (.cells #[.int .i64 0, .int .i64 0] 25 (0, 0))) := ⟨by (with_reducible repeat (first | refine blk_drewN ?_ _ | refine blk_drew ?_ | refine blk_alloc ?_ _)); refine blk_far ?_ NB178_205.out _; (with_reducible repeat (first | refine blk_drewN ?_ _ | refine blk_drew ?_ | refine blk_alloc ?_ _)); refine blk_far ?_ NB178_205.out _; (with_reducible repeat (first | refine blk_drewN ?_ _ | refine blk_drew ?_ | refine blk_alloc ?_ _)); exact BK178.out⟩
      have n1_ : Aside0 (((w63.setCell ⟨gb205, 0, none⟩ (.int .i64 t202)).setCell ⟨gb205, 1, none⟩ (.int .i64 t203)).heap[gb179]? = some (.cells #[.int .i64 0, .int .i64 0] 25 (0, 0))) := ⟨by (with_reducible repeat (first | refine blk_drewN ?_ _ | refine blk_drew ?_ | refine blk_alloc ?_ _)); refine blk_far ?_ NB179_205.out _; (with_reducible repeat (first | refine blk_drewN ?_ _ | refine blk_drew ?_ | refine blk_alloc ?_ _)); refine blk_far ?_ NB179_205.out _; (with_reducible repeat (first | refine blk_drewN ?_ _ | refine blk_drew ?_ | refine blk_alloc ?_ _)); exact BK179.out⟩
      have n2_ : Aside0 (((w63.setCell ⟨gb205, 0, none⟩ (.int .i64 t202)).setCell ⟨gb205, 1, none⟩ (.int .i64 t203)).heap[gb188]? = some (.cells #[.int .i64 t184, .int .i64 t185] 25 (0, 0))) := ⟨by (with_reducible repeat (first | refine blk_drewN ?_ _ | refine blk_drew ?_ | refine blk_alloc ?_ _)); refine blk_far ?_ NB188_205.out _; (with_reducible repeat (first | refine blk_drewN ?_ _ | refine blk_drew ?_ | refine blk_alloc ?_ _)); refine blk_far ?_ NB188_205.out _; (with_reducible repeat (first | refine blk_drewN ?_ _ | refine blk_drew ?_ | refine blk_alloc ?_ _)); exact BK188.out⟩
      have n3_ : Aside0 (((w63.setCell ⟨gb205, 0, none⟩ (.int .i64 t202)).setCell ⟨gb205, 1, none⟩ (.int .i64 t203)).heap[gb198]? = some (.cells #[.int .i64 t195, .int .i64 t196] 25 (0, 0))) := ⟨by (with_reducible repeat (first | refine blk_drewN ?_ _ | refine blk_drew ?_ | refine blk_alloc ?_ _)); refine blk_far ?_ NB198_205.out _; (with_reducible repeat (first | refine blk_drewN ?_ _ | refine blk_drew ?_ | refine blk_alloc ?_ _)); refine blk_far ?_ NB198_205.out _; (with_reducible repeat (first | refine blk_drewN ?_ _ | refine blk_drew ?_ | refine blk_alloc ?_ _)); exact BK198.out⟩
      have n4_ : Aside0 (((w63.setCell ⟨gb205, 0, none⟩ (.int .i64 t202)).setCell ⟨gb205, 1, none⟩ (.int .i64 t203)).heap[gb205]? = some (.cells #[.int .i64 t202, .int .i64 t203] 25 (0, 0))) := ⟨by (with_reducible repeat (first | refine blk_drewN ?_ _ | refine blk_drew ?_ | refine blk_alloc ?_ _)); refine blk_put (cs := #[.int .i64 t202, .int .i64 0]) ?_ 1 _ rfl; (with_reducible repeat (first | refine blk_drewN ?_ _ | refine blk_drew ?_ | refine blk_alloc ?_ _)); refine blk_put (cs := #[.int .i64 0, .int .i64 0]) ?_ 0 _ rfl; (with_reducible repeat (first | refine blk_drewN ?_ _ | refine blk_drew ?_ | refine blk_alloc ?_ _)); exact BK205.out⟩
      have n5_ : Aside0 (IsS66 w ((w63.setCell ⟨gb205, 0, none⟩ (.int .i64 t202)).setCell ⟨gb205, 1, none⟩ (.int .i64 t203)) g183 t180 x184001_7 x184002_7) := ⟨by repeat (first | (with_reducible first | exact HI183.out | apply IsS66.alloc | apply IsS66.drewN | apply IsS66.drew | apply IsS66.set_1 | apply IsS66.set_2 | refine IsS66.far ?_ NB183_178.out _ | refine IsS66.far ?_ NB183_179.out _ | refine IsS66.far ?_ NB183_188.out _ | refine IsS66.far ?_ NB183_198.out _ | refine IsS66.far ?_ NB183_205.out _) | exact HI183.out)⟩
      have n6_ : Aside0 (Below w.heap.size w ((w63.setCell ⟨gb205, 0, none⟩ (.int .i64 t202)).setCell ⟨gb205, 1, none⟩ (.int .i64 t203))) := ⟨by repeat (first | (with_reducible first | exact HB.out | apply below_alloc | apply pw_below_drewN | apply below_drew1 | refine below_set ?_ (IsS66.ge HI183.out) | refine below_set ?_ GE178.out | refine below_set ?_ GE179.out | refine below_set ?_ GE188.out | refine below_set ?_ GE198.out | refine below_set ?_ GE205.out) | exact HB.out)⟩
      (try clear BK178)
      (try clear BK179)
      (try clear BK188)
      (try clear BK198)
      (try clear BK205)
      (try clear HI183)
      (try clear HB)
      generalize ((w63.setCell ⟨gb205, 0, none⟩ (.int .i64 t202)).setCell ⟨gb205, 1, none⟩ (.int .i64 t203)) = w70 at n0_ n1_ n2_ n3_ n4_ n5_ n6_ ⊢
      have BK178 := n0_
      have BK179 := n1_
      have BK188 := n2_
      have BK198 := n3_
      have BK205 := n4_
      have HI183 := n5_
      have HB := n6_
      clear n0_ n1_ n2_ n3_ n4_ n5_ n6_
      replace BK178 := Aside0.mk (blk_drew BK178.out); replace BK179 := Aside0.mk (blk_drew BK179.out); replace BK188 := Aside0.mk (blk_drew BK188.out); replace BK198 := Aside0.mk (blk_drew BK198.out); replace BK205 := Aside0.mk (blk_drew BK205.out); replace HI183 := Aside0.mk (IsS66.drew HI183.out); replace HB := Aside0.mk (below_drew1 HB.out)
      refine start_ (n := 5) (S := fun w' => w'.cell? ⟨gb188, 0, none⟩ = some (.int .i64 t184) ∧ w'.cell? ⟨gb188, 1, none⟩ = some (.int .i64 t185)) (ds := []) #[false, false, false, false, false] (by kernel_rfl) rfl rfl ⟨(blk_cell BK188.out 0).trans rfl, (blk_cell BK188.out 1).trans rfl⟩ (fun hHeld => ?_)
      generalize w70.drew = w71 at BK178 BK179 BK188 BK198 BK205 HI183 HB hHeld ⊢
      refine pure_ (i := 1) (N := some 45) (v := ?_) (a' := ?_) #[false, true, false, false, false] rfl rfl (by kernel_rfl) (fun _ _ _ h => h) (Or.inl ⟨by rfl, ?_⟩) ?_ ?_
      rotate_left
      ·intro w'
       go_simp
       with_reducible rfl
      rotate_left
      ·simp only [Act.put, List.setIfInBounds_toArray, List.set_cons_zero, List.set_cons_succ, i64_w, i32_w]
       rfl
      refine take_ (i := 0) (N := some 44) (v := ?_) (a' := ?_) #[true, true, false, false, false] rfl rfl (by kernel_rfl) (fun _ _ _ h => h) (Or.inl ⟨by rfl, ?_⟩) hHeld ?_ ?_
      rotate_left
      ·rintro w' ⟨s0, s1⟩
       go_simp
       with_reducible rfl
      rotate_left
      ·simp only [Act.put, List.setIfInBounds_toArray, List.set_cons_zero, List.set_cons_succ, i64_w, i32_w]
       rfl
      refine one_ (i := 2) (N := some 46) #[true, true, true, false, false] rfl rfl (by kernel_rfl) (by decide) (fun K hK => ?_)
      refine goes_ Tryd.func41 (by kernel_rfl) rfl #[.pointer (some ⟨g183, 0, none⟩)] (by rfl) rfl rfl mp_ ?_
      with_reducible refine (spec_l12Draw.calls kj7 g183 t180 x184001_7 x184002_7 t206 t207 t208 t209 w _ ?side1 ?side2 A56.out).mono ?_
      (case side1 => repeat (first | (with_reducible first | exact HI183.out | apply IsS66.alloc | apply IsS66.drewN | apply IsS66.drew | apply IsS66.set_1 | apply IsS66.set_2 | refine IsS66.far ?_ NB183_178.out _ | refine IsS66.far ?_ NB183_179.out _ | refine IsS66.far ?_ NB183_188.out _ | refine IsS66.far ?_ NB183_198.out _ | refine IsS66.far ?_ NB183_205.out _) | exact HI183.out))
      (case side2 => repeat (first | (with_reducible first | exact HB.out | apply below_alloc | apply pw_below_drewN | apply below_drew1 | refine below_set ?_ (IsS66.ge HI183.out) | refine below_set ?_ GE178.out | refine below_set ?_ GE179.out | refine below_set ?_ GE188.out | refine below_set ?_ GE198.out | refine below_set ?_ GE205.out) | exact HB.out))
      rintro e w72 ⟨rfl, hi, hb, hk⟩
      refine ⟨_, rfl, ?_⟩
      replace BK178 := Aside0.mk (KeepBut.blk hk (g' := gb178) (o := .cells #[.int .i64 0, .int .i64 0] 25 (0, 0)) (blk_l BK178.out) NB178_183.out (by simp)); replace BK179 := Aside0.mk (KeepBut.blk hk (g' := gb179) (o := .cells #[.int .i64 0, .int .i64 0] 25 (0, 0)) (blk_l BK179.out) NB179_183.out (by simp)); replace BK188 := Aside0.mk (KeepBut.blk hk (g' := gb188) (o := .cells #[.int .i64 t184, .int .i64 t185] 25 (0, 0)) (blk_l BK188.out) NB188_183.out (by simp)); replace BK198 := Aside0.mk (KeepBut.blk hk (g' := gb198) (o := .cells #[.int .i64 t195, .int .i64 t196] 25 (0, 0)) (blk_l BK198.out) NB198_183.out (by simp)); replace BK205 := Aside0.mk (KeepBut.blk hk (g' := gb205) (o := .cells #[.int .i64 t202, .int .i64 t203] 25 (0, 0)) (blk_l BK205.out) NB205_183.out (by simp)); replace HB := Aside0.mk (hb); replace HI183 := Aside0.mk (hi)
      (try clear hb)
      (try clear hb2)
      (try clear hk)
      (try clear hi)
      refine hK.out _ _ ⟨(blk_cell BK188.out 0).trans rfl, (blk_cell BK188.out 1).trans rfl⟩ (fun hHeld => ?_)
      clear hK K
      refine norm_ (a' := ?_) ?_ ?_
      rotate_left
      ·show Act.put _ (some 46) _ = _
       simp only [Act.put, List.setIfInBounds_toArray, List.set_cons_zero, List.set_cons_succ, i64_w, i32_w]
       rfl
      refine one_ (i := 3) (N := none) #[true, true, true, true, false] rfl rfl (by kernel_rfl) (by decide) (fun K hK => ?_)
      have hs73 : w72.cell? ⟨gb178, 0, none⟩ = some (.int .i64 0) := (blk_cell BK178.out 0).trans rfl
      have hfs73 := blk_frozen BK178.out 0
      have hns73_1 := NB179_178.out
      have hns73_2 := NB188_178.out
      have hns73_3 := NB198_178.out
      have hns73_4 := NB205_178.out
      have hms73_1 := NB178_179.out
      have hms73_2 := NB178_188.out
      have hms73_3 := NB178_198.out
      have hms73_4 := NB178_205.out
      have hs74 : w72.cell? ⟨gb178, 1, none⟩ = some (.int .i64 0) := (blk_cell BK178.out 1).trans rfl
      have hfs74 := blk_frozen BK178.out 1
      have hns74_1 := NB179_178.out
      have hns74_2 := NB188_178.out
      have hns74_3 := NB198_178.out
      have hns74_4 := NB205_178.out
      have hms74_1 := NB178_179.out
      have hms74_2 := NB178_188.out
      have hms74_3 := NB178_198.out
      have hms74_4 := NB178_205.out
      refine skip_ (w1 := ?_) (by rfl) rfl ?_ ?_
      rotate_left
      ·go_simp
       rfl
      refine hK.out _ _ ⟨((cell_far (p := ⟨gb178, _, none⟩) NB188_178.out _).trans (((cell_far (p := ⟨gb178, _, none⟩) NB188_178.out _).trans (hHeld.1)))), ((cell_far (p := ⟨gb178, _, none⟩) NB188_178.out _).trans (((cell_far (p := ⟨gb178, _, none⟩) NB188_178.out _).trans (hHeld.2))))⟩ (fun hHeld => ?_)
      clear hK K
      refine one_ (i := 4) (N := none) #[true, true, true, true, true] rfl rfl (by kernel_rfl) (by decide) (fun K hK => ?_)
      have hs75 : w72.cell? ⟨gb179, 0, none⟩ = some (.int .i64 0) := (blk_cell BK179.out 0).trans rfl
      have hfs75 := blk_frozen BK179.out 0
      have hns75_0 := NB178_179.out
      have hns75_2 := NB188_179.out
      have hns75_3 := NB198_179.out
      have hns75_4 := NB205_179.out
      have hms75_0 := NB179_178.out
      have hms75_2 := NB179_188.out
      have hms75_3 := NB179_198.out
      have hms75_4 := NB179_205.out
      have hs76 : w72.cell? ⟨gb179, 1, none⟩ = some (.int .i64 0) := (blk_cell BK179.out 1).trans rfl
      have hfs76 := blk_frozen BK179.out 1
      have hns76_0 := NB178_179.out
      have hns76_2 := NB188_179.out
      have hns76_3 := NB198_179.out
      have hns76_4 := NB205_179.out
      have hms76_0 := NB179_178.out
      have hms76_2 := NB179_188.out
      have hms76_3 := NB179_198.out
      have hms76_4 := NB179_205.out
      refine skip_ (w1 := ?_) (by rfl) rfl ?_ ?_
      rotate_left
      ·go_simp
       rfl
      refine hK.out _ _ ⟨((cell_far (p := ⟨gb179, _, none⟩) NB188_179.out _).trans (((cell_far (p := ⟨gb179, _, none⟩) NB188_179.out _).trans (hHeld.1)))), ((cell_far (p := ⟨gb179, _, none⟩) NB188_179.out _).trans (((cell_far (p := ⟨gb179, _, none⟩) NB188_179.out _).trans (hHeld.2))))⟩ (fun hHeld => ?_)
      clear hK K
      refine done_ (by kernel_rfl) ?_
      try go_wp2
      refine bodyPost_ret (results_cc rfl _ _ gb178 gb179 25 25 #[.int .i64 t184, .int .i64 t185] #[.int .i64 t206, .int .i64 t207] (0, 0) (0, 0) _ _ rfl (by (with_reducible repeat (first | refine blk_drewN ?_ _ | refine blk_drew ?_ | refine blk_alloc ?_ _)); refine blk_far ?_ NB178_179.out _; (with_reducible repeat (first | refine blk_drewN ?_ _ | refine blk_drew ?_ | refine blk_alloc ?_ _)); refine blk_far ?_ NB178_179.out _; (with_reducible repeat (first | refine blk_drewN ?_ _ | refine blk_drew ?_ | refine blk_alloc ?_ _)); refine blk_put (cs := #[.int .i64 t184, .int .i64 0]) ?_ 1 _ rfl; (with_reducible repeat (first | refine blk_drewN ?_ _ | refine blk_drew ?_ | refine blk_alloc ?_ _)); refine blk_put (cs := #[.int .i64 0, .int .i64 0]) ?_ 0 _ rfl; (with_reducible repeat (first | refine blk_drewN ?_ _ | refine blk_drew ?_ | refine blk_alloc ?_ _)); exact BK178.out) Tryd.underlying25 rfl (by kernel_rfl) rfl (by (with_reducible repeat (first | refine blk_drewN ?_ _ | refine blk_drew ?_ | refine blk_alloc ?_ _)); refine blk_put (cs := #[.int .i64 t206, .int .i64 0]) ?_ 1 _ rfl; (with_reducible repeat (first | refine blk_drewN ?_ _ | refine blk_drew ?_ | refine blk_alloc ?_ _)); refine blk_put (cs := #[.int .i64 0, .int .i64 0]) ?_ 0 _ rfl; (with_reducible repeat (first | refine blk_drewN ?_ _ | refine blk_drew ?_ | refine blk_alloc ?_ _)); refine blk_far ?_ NB179_178.out _; (with_reducible repeat (first | refine blk_drewN ?_ _ | refine blk_drew ?_ | refine blk_alloc ?_ _)); refine blk_far ?_ NB179_178.out _; (with_reducible repeat (first | refine blk_drewN ?_ _ | refine blk_drew ?_ | refine blk_alloc ?_ _)); exact BK179.out) Tryd.underlying25 rfl (by kernel_rfl)) rfl ?_
      exact ⟨rE, by repeat (first | (with_reducible first | exact HB.out | apply below_alloc | apply pw_below_drewN | apply below_drew1 | refine below_set ?_ (IsS66.ge HI183.out) | refine below_set ?_ GE178.out | refine below_set ?_ GE179.out | refine below_set ?_ GE188.out | refine below_set ?_ GE198.out | refine below_set ?_ GE205.out) | exact HB.out)⟩
 ·replace c5 := Bool.eq_false_iff.mpr c5
  subst c5
  rw [if_neg (show ¬ (false = true) by decide)] at H
  obtain ⟨⟨t210, t211, t212, t213⟩, A77, H⟩ := bs H
  try dsimp only at H
  simp only [Option.some.injEq, Prod.mk.injEq] at H
  obtain ⟨rfl, rfl, rfl, rfl⟩ := H
  go_enter Tryd.func30, Tryd.ntmps30
  try go_wp2_with (first | ((with_reducible refine gate_dst (N := 2) rfl ?_); refine box_event ?hg (N := 2) ?hd (cs := #[.int .i64 0, .int .i64 0]) (t := 25) ?hr ?_; (case hd => rfl); (case hg => rfl); (case hr => exact gS); intro gb178 hg w78 hbox hb; have BK178 := Aside0.mk (hbox); have GW178 := Aside0.mk (gW hg tb); have GE178 := Aside0.mk (gW hg tb); replace HB := Aside0.mk (below_step tb hb); clear hb hbox hg) | ((with_reducible refine gate_dst (N := 3) rfl ?_); refine box_event ?hg (N := 3) ?hd (cs := #[.int .i64 0, .int .i64 0]) (t := 25) ?hr ?_; (case hd => rfl); (case hg => rfl); (case hr => exact gS); intro gb179 hg w79 hbox hb; have BK179 := Aside0.mk (hbox); have GW179 := Aside0.mk (gW hg (tG1 GE178.out)); have GE179 := Aside0.mk (gW hg (tG1 GE178.out)); replace HB := Aside0.mk (below_step (tG1 GE178.out) hb); have NB178_179 := Aside0.mk (neL BK178 hg); have NB179_178 := Aside0.mk (neG BK178 hg); replace BK178 := Aside0.mk (bB BK178 hb); clear hb hbox hg) | ((with_reducible refine gate_callee (f := 32) rfl ?_); refine goesL_ (some 11) rfl rfl Tryd.func32 (by kernel_rfl) rfl #[.slice A0 l0.length c0] rfl mp_ ?_; (with_reducible refine (spec_l1New.calls k _ _ l0 t180 t181 t182 w _ ?side1 ?side2 ?side3 A2.out).mono ?_); (case side1 => exact tG2 GE178.out GE179.out); (case side2 => exact HR0.out); (case side3 => exact HC0.out); rintro e w80 ⟨g183, rfl, hi, hb, hb2⟩; refine ⟨_, rfl, ?_⟩; replace HB := Aside0.mk (hb); have HI183 := Aside0.mk (hi); have NB183_178 := Aside0.mk (IsS66.ne_blk hi (bB BK178 hb2) (by decide)); have NB178_183 := Aside0.mk (Ne.symm (IsS66.ne_blk hi (bB BK178 hb2) (by decide))); replace BK178 := Aside0.mk (bB BK178 hb2); have NB183_179 := Aside0.mk (IsS66.ne_blk hi (bB BK179 hb2) (by decide)); have NB179_183 := Aside0.mk (Ne.symm (IsS66.ne_blk hi (bB BK179 hb2) (by decide))); replace BK179 := Aside0.mk (bB BK179 hb2)) | ((with_reducible refine gate_callee (f := 41) rfl ?_); refine goesL_ (some 13) rfl rfl Tryd.func41 (by kernel_rfl) rfl #[.pointer (some ⟨g183, 0, none⟩)] rfl mp_ ?_; (with_reducible refine (spec_l12Draw.calls k g183 t180 t181 t182 t184 t185 t186 t187 w _ ?side1 ?side2 A3.out).mono ?_); (case side1 => repeat (first | (with_reducible first | exact HI183.out | apply IsS66.alloc | apply IsS66.drewN | apply IsS66.drew | apply IsS66.set_1 | apply IsS66.set_2 | refine IsS66.far ?_ NB183_178.out _ | refine IsS66.far ?_ NB183_179.out _) | exact HI183.out)); (case side2 => repeat (first | (with_reducible first | exact HB.out | apply below_alloc | apply pw_below_drewN | apply below_drew1 | refine below_set ?_ (IsS66.ge HI183.out) | refine below_set ?_ GE178.out | refine below_set ?_ GE179.out) | exact HB.out)); rintro e w81 ⟨rfl, hi, hb, hk⟩; refine ⟨_, rfl, ?_⟩; replace BK178 := Aside0.mk (KeepBut.blk hk (g' := gb178) (o := .cells #[.int .i64 0, .int .i64 0] 25 (0, 0)) (blk_l BK178.out) NB178_183.out (by simp)); replace BK179 := Aside0.mk (KeepBut.blk hk (g' := gb179) (o := .cells #[.int .i64 0, .int .i64 0] 25 (0, 0)) (blk_l BK179.out) NB179_183.out (by simp)); replace HB := Aside0.mk (hb); replace HI183 := Aside0.mk (hi)) | ((with_reducible refine gate_dst (N := 5) rfl ?_); refine box_event ?hg (N := 5) ?hd (cs := #[.int .i64 0, .int .i64 0]) (t := 25) ?hr ?_; (case hd => rfl); (case hg => rfl); (case hr => exact gS); intro gb188 hg w82 hbox hb; have BK188 := Aside0.mk (hbox); have GW188 := Aside0.mk ((by rw [hg]; exact (below_size (by repeat (first | (with_reducible first | exact HB.out | apply below_alloc | apply pw_below_drewN | apply below_drew1 | refine below_set ?_ (IsS66.ge HI183.out) | refine below_set ?_ GE178.out | refine below_set ?_ GE179.out) | exact HB.out))) : w.heap.size ≤ gb188)); have GE188 := Aside0.mk ((by rw [hg]; exact (below_size (by repeat (first | (with_reducible first | exact HB.out | apply below_alloc | apply pw_below_drewN | apply below_drew1 | refine below_set ?_ (IsS66.ge HI183.out) | refine below_set ?_ GE178.out | refine below_set ?_ GE179.out) | exact HB.out))) : w.heap.size ≤ gb188)); replace HB := Aside0.mk (below_step (by repeat (first | (with_reducible first | exact HB.out | apply below_alloc | apply pw_below_drewN | apply below_drew1 | refine below_set ?_ (IsS66.ge HI183.out) | refine below_set ?_ GE178.out | refine below_set ?_ GE179.out) | exact HB.out)) hb); have NB178_188 := Aside0.mk (neL BK178 hg); have NB188_178 := Aside0.mk (neG BK178 hg); replace BK178 := Aside0.mk (bB BK178 hb); have NB179_188 := Aside0.mk (neL BK179 hg); have NB188_179 := Aside0.mk (neG BK179 hg); replace BK179 := Aside0.mk (bB BK179 hb); have NB183_188 := Aside0.mk ((by rw [hg]; exact Nat.ne_of_lt (IsS66.lt (show IsS66 w _ g183 t180 t186 t187 from by repeat (first | (with_reducible first | exact HI183.out | apply IsS66.alloc | apply IsS66.drewN | apply IsS66.drew | apply IsS66.set_1 | apply IsS66.set_2 | refine IsS66.far ?_ NB183_178.out _ | refine IsS66.far ?_ NB183_179.out _) | exact HI183.out))) : g183 ≠ gb188)); have NB188_183 := Aside0.mk ((by rw [hg]; exact Nat.ne_of_gt (IsS66.lt (show IsS66 w _ g183 t180 t186 t187 from by repeat (first | (with_reducible first | exact HI183.out | apply IsS66.alloc | apply IsS66.drewN | apply IsS66.drew | apply IsS66.set_1 | apply IsS66.set_2 | refine IsS66.far ?_ NB183_178.out _ | refine IsS66.far ?_ NB183_179.out _) | exact HI183.out))) : gb188 ≠ g183)); replace HI183 := Aside0.mk (IsS66.below (by repeat (first | (with_reducible first | exact HI183.out | apply IsS66.alloc | apply IsS66.drewN | apply IsS66.drew | apply IsS66.set_1 | apply IsS66.set_2 | refine IsS66.far ?_ NB183_178.out _ | refine IsS66.far ?_ NB183_179.out _) | exact HI183.out)) hb); clear hb hbox hg; have hnb83 := NB188_178.out; have hnc83 := NB178_188.out; have hnb84 := NB188_179.out; have hnc84 := NB179_188.out; have hnb85 := NB188_183.out; have hnc85 := NB183_188.out; have hcz86_0 : w82.cell? ⟨gb188, 0, none⟩ = some (.int .i64 0) := (blk_cell BK188.out 0).trans rfl; have hcz86_1 : w82.cell? ⟨gb188, 1, none⟩ = some (.int .i64 0) := (blk_cell BK188.out 1).trans rfl; have hfz86_0 := blk_frozen BK188.out 0; have hfz86_1 := blk_frozen BK188.out 1) | ((with_reducible refine gate_callee (f := 35) rfl ?_); refine goesL_ (some 15) rfl rfl Tryd.func35 (by kernel_rfl) rfl #[.pointer (some ⟨g183, 0, none⟩), .int .i64 2] rfl mp_ ?_; (with_reducible refine (spec_l1Once.calls g183 t180 t186 t187 2 false t190 t191 w _ ?side1 ?side2 A4.out).mono ?_); (case side1 => repeat (first | (with_reducible first | exact HI183.out | apply IsS66.alloc | apply IsS66.drewN | apply IsS66.drew | apply IsS66.set_1 | apply IsS66.set_2 | refine IsS66.far ?_ NB183_178.out _ | refine IsS66.far ?_ NB183_179.out _ | refine IsS66.far ?_ NB183_188.out _) | exact HI183.out)); (case side2 => repeat (first | (with_reducible first | exact HB.out | apply below_alloc | apply pw_below_drewN | apply below_drew1 | refine below_set ?_ (IsS66.ge HI183.out) | refine below_set ?_ GE178.out | refine below_set ?_ GE179.out | refine below_set ?_ GE188.out) | exact HB.out)); rintro e w87 ⟨rfl, hi, hb, hk⟩; refine ⟨_, rfl, ?_⟩; replace BK178 := Aside0.mk (KeepBut.blk hk (g' := gb178) (o := .cells #[.int .i64 0, .int .i64 0] 25 (0, 0)) (bF1 BK178.out NB178_188.out) NB178_183.out (by simp)); replace BK179 := Aside0.mk (KeepBut.blk hk (g' := gb179) (o := .cells #[.int .i64 0, .int .i64 0] 25 (0, 0)) (bF1 BK179.out NB179_188.out) NB179_183.out (by simp)); replace BK188 := Aside0.mk (KeepBut.blk hk (g' := gb188) (o := .cells #[.int .i64 t184, .int .i64 t185] 25 (0, 0)) (by (with_reducible repeat (first | refine blk_drewN ?_ _ | refine blk_drew ?_ | refine blk_alloc ?_ _)); refine blk_put (cs := #[.int .i64 t184, .int .i64 0]) ?_ 1 _ rfl; (with_reducible repeat (first | refine blk_drewN ?_ _ | refine blk_drew ?_ | refine blk_alloc ?_ _)); refine blk_put (cs := #[.int .i64 0, .int .i64 0]) ?_ 0 _ rfl; (with_reducible repeat (first | refine blk_drewN ?_ _ | refine blk_drew ?_ | refine blk_alloc ?_ _)); exact BK188.out) NB188_183.out (by simp)); replace HB := Aside0.mk (hb); replace HI183 := Aside0.mk (hi)))
  replace BK178 := Aside0.mk (blk_drew BK178.out); replace BK179 := Aside0.mk (blk_drew BK179.out); replace BK188 := Aside0.mk (blk_drew BK188.out); replace HI183 := Aside0.mk (IsS66.drew HI183.out); replace HB := Aside0.mk (below_drew1 HB.out)
  refine start_ (n := 5) (S := fun w' => w'.cell? ⟨gb188, 0, none⟩ = some (.int .i64 t184) ∧ w'.cell? ⟨gb188, 1, none⟩ = some (.int .i64 t185)) (ds := []) #[false, false, false, false, false] (by kernel_rfl) rfl rfl ⟨(blk_cell BK188.out 0).trans rfl, (blk_cell BK188.out 1).trans rfl⟩ (fun hHeld => ?_)
  generalize w87.drew = w88 at BK178 BK179 BK188 HI183 HB hHeld ⊢
  refine pure_ (i := 1) (N := some 45) (v := ?_) (a' := ?_) #[false, true, false, false, false] rfl rfl (by kernel_rfl) (fun _ _ _ h => h) (Or.inl ⟨by rfl, ?_⟩) ?_ ?_
  rotate_left
  ·intro w'
   go_simp
   with_reducible rfl
  rotate_left
  ·simp only [Act.put, List.setIfInBounds_toArray, List.set_cons_zero, List.set_cons_succ, i64_w, i32_w]
   rfl
  refine take_ (i := 0) (N := some 44) (v := ?_) (a' := ?_) #[true, true, false, false, false] rfl rfl (by kernel_rfl) (fun _ _ _ h => h) (Or.inl ⟨by rfl, ?_⟩) hHeld ?_ ?_
  rotate_left
  ·rintro w' ⟨s0, s1⟩
   go_simp
   with_reducible rfl
  rotate_left
  ·simp only [Act.put, List.setIfInBounds_toArray, List.set_cons_zero, List.set_cons_succ, i64_w, i32_w]
   rfl
  refine one_ (i := 2) (N := some 46) #[true, true, true, false, false] rfl rfl (by kernel_rfl) (by decide) (fun K hK => ?_)
  refine goes_ Tryd.func41 (by kernel_rfl) rfl #[.pointer (some ⟨g183, 0, none⟩)] (by rfl) rfl rfl mp_ ?_
  with_reducible refine (spec_l12Draw.calls k g183 t180 t190 t191 t210 t211 t212 t213 w _ ?side1 ?side2 A77.out).mono ?_
  (case side1 => repeat (first | (with_reducible first | exact HI183.out | apply IsS66.alloc | apply IsS66.drewN | apply IsS66.drew | apply IsS66.set_1 | apply IsS66.set_2 | refine IsS66.far ?_ NB183_178.out _ | refine IsS66.far ?_ NB183_179.out _ | refine IsS66.far ?_ NB183_188.out _) | exact HI183.out))
  (case side2 => repeat (first | (with_reducible first | exact HB.out | apply below_alloc | apply pw_below_drewN | apply below_drew1 | refine below_set ?_ (IsS66.ge HI183.out) | refine below_set ?_ GE178.out | refine below_set ?_ GE179.out | refine below_set ?_ GE188.out) | exact HB.out))
  rintro e w89 ⟨rfl, hi, hb, hk⟩
  refine ⟨_, rfl, ?_⟩
  replace BK178 := Aside0.mk (KeepBut.blk hk (g' := gb178) (o := .cells #[.int .i64 0, .int .i64 0] 25 (0, 0)) (blk_l BK178.out) NB178_183.out (by simp)); replace BK179 := Aside0.mk (KeepBut.blk hk (g' := gb179) (o := .cells #[.int .i64 0, .int .i64 0] 25 (0, 0)) (blk_l BK179.out) NB179_183.out (by simp)); replace BK188 := Aside0.mk (KeepBut.blk hk (g' := gb188) (o := .cells #[.int .i64 t184, .int .i64 t185] 25 (0, 0)) (blk_l BK188.out) NB188_183.out (by simp)); replace HB := Aside0.mk (hb); replace HI183 := Aside0.mk (hi)
  (try clear hb)
  (try clear hb2)
  (try clear hk)
  (try clear hi)
  refine hK.out _ _ ⟨(blk_cell BK188.out 0).trans rfl, (blk_cell BK188.out 1).trans rfl⟩ (fun hHeld => ?_)
  clear hK K
  refine norm_ (a' := ?_) ?_ ?_
  rotate_left
  ·show Act.put _ (some 46) _ = _
   simp only [Act.put, List.setIfInBounds_toArray, List.set_cons_zero, List.set_cons_succ, i64_w, i32_w]
   rfl
  refine one_ (i := 3) (N := none) #[true, true, true, true, false] rfl rfl (by kernel_rfl) (by decide) (fun K hK => ?_)
  have hs90 : w89.cell? ⟨gb178, 0, none⟩ = some (.int .i64 0) := (blk_cell BK178.out 0).trans rfl
  have hfs90 := blk_frozen BK178.out 0
  have hns90_1 := NB179_178.out
  have hns90_2 := NB188_178.out
  have hms90_1 := NB178_179.out
  have hms90_2 := NB178_188.out
  have hs91 : w89.cell? ⟨gb178, 1, none⟩ = some (.int .i64 0) := (blk_cell BK178.out 1).trans rfl
  have hfs91 := blk_frozen BK178.out 1
  have hns91_1 := NB179_178.out
  have hns91_2 := NB188_178.out
  have hms91_1 := NB178_179.out
  have hms91_2 := NB178_188.out
  refine skip_ (w1 := ?_) (by rfl) rfl ?_ ?_
  rotate_left
  ·go_simp
   rfl
  refine hK.out _ _ ⟨((cell_far (p := ⟨gb178, _, none⟩) NB188_178.out _).trans (((cell_far (p := ⟨gb178, _, none⟩) NB188_178.out _).trans (hHeld.1)))), ((cell_far (p := ⟨gb178, _, none⟩) NB188_178.out _).trans (((cell_far (p := ⟨gb178, _, none⟩) NB188_178.out _).trans (hHeld.2))))⟩ (fun hHeld => ?_)
  clear hK K
  refine one_ (i := 4) (N := none) #[true, true, true, true, true] rfl rfl (by kernel_rfl) (by decide) (fun K hK => ?_)
  have hs92 : w89.cell? ⟨gb179, 0, none⟩ = some (.int .i64 0) := (blk_cell BK179.out 0).trans rfl
  have hfs92 := blk_frozen BK179.out 0
  have hns92_0 := NB178_179.out
  have hns92_2 := NB188_179.out
  have hms92_0 := NB179_178.out
  have hms92_2 := NB179_188.out
  have hs93 : w89.cell? ⟨gb179, 1, none⟩ = some (.int .i64 0) := (blk_cell BK179.out 1).trans rfl
  have hfs93 := blk_frozen BK179.out 1
  have hns93_0 := NB178_179.out
  have hns93_2 := NB188_179.out
  have hms93_0 := NB179_178.out
  have hms93_2 := NB179_188.out
  refine skip_ (w1 := ?_) (by rfl) rfl ?_ ?_
  rotate_left
  ·go_simp
   rfl
  refine hK.out _ _ ⟨((cell_far (p := ⟨gb179, _, none⟩) NB188_179.out _).trans (((cell_far (p := ⟨gb179, _, none⟩) NB188_179.out _).trans (hHeld.1)))), ((cell_far (p := ⟨gb179, _, none⟩) NB188_179.out _).trans (((cell_far (p := ⟨gb179, _, none⟩) NB188_179.out _).trans (hHeld.2))))⟩ (fun hHeld => ?_)
  clear hK K
  refine done_ (by kernel_rfl) ?_
  try go_wp2
  refine bodyPost_ret (results_cc rfl _ _ gb178 gb179 25 25 #[.int .i64 t184, .int .i64 t185] #[.int .i64 t210, .int .i64 t211] (0, 0) (0, 0) _ _ rfl (by (with_reducible repeat (first | refine blk_drewN ?_ _ | refine blk_drew ?_ | refine blk_alloc ?_ _)); refine blk_far ?_ NB178_179.out _; (with_reducible repeat (first | refine blk_drewN ?_ _ | refine blk_drew ?_ | refine blk_alloc ?_ _)); refine blk_far ?_ NB178_179.out _; (with_reducible repeat (first | refine blk_drewN ?_ _ | refine blk_drew ?_ | refine blk_alloc ?_ _)); refine blk_put (cs := #[.int .i64 t184, .int .i64 0]) ?_ 1 _ rfl; (with_reducible repeat (first | refine blk_drewN ?_ _ | refine blk_drew ?_ | refine blk_alloc ?_ _)); refine blk_put (cs := #[.int .i64 0, .int .i64 0]) ?_ 0 _ rfl; (with_reducible repeat (first | refine blk_drewN ?_ _ | refine blk_drew ?_ | refine blk_alloc ?_ _)); exact BK178.out) Tryd.underlying25 rfl (by kernel_rfl) rfl (by (with_reducible repeat (first | refine blk_drewN ?_ _ | refine blk_drew ?_ | refine blk_alloc ?_ _)); refine blk_put (cs := #[.int .i64 t210, .int .i64 0]) ?_ 1 _ rfl; (with_reducible repeat (first | refine blk_drewN ?_ _ | refine blk_drew ?_ | refine blk_alloc ?_ _)); refine blk_put (cs := #[.int .i64 0, .int .i64 0]) ?_ 0 _ rfl; (with_reducible repeat (first | refine blk_drewN ?_ _ | refine blk_drew ?_ | refine blk_alloc ?_ _)); refine blk_far ?_ NB179_178.out _; (with_reducible repeat (first | refine blk_drewN ?_ _ | refine blk_drew ?_ | refine blk_alloc ?_ _)); refine blk_far ?_ NB179_178.out _; (with_reducible repeat (first | refine blk_drewN ?_ _ | refine blk_drew ?_ | refine blk_alloc ?_ _)); exact BK179.out) Tryd.underlying25 rfl (by kernel_rfl)) rfl ?_
  exact ⟨rE, by repeat (first | (with_reducible first | exact HB.out | apply below_alloc | apply pw_below_drewN | apply below_drew1 | refine below_set ?_ (IsS66.ge HI183.out) | refine below_set ?_ GE178.out | refine below_set ?_ GE179.out | refine below_set ?_ GE188.out) | exact HB.out)⟩

end Go.Proofs.YtomjfejacjphnaaDoor.PFnSlopes
