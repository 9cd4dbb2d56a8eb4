/- The row of FnExactSlopeText: called with any arguments that can be read, it returns true and the arguments read on as they did; out of the printed walk and the pure statement of YtkjflikcifcnkaaDoorPureFnExactSlopeText. -/
import Derived.Test.YtkjflikcifcnkaaDoorRows
import Derived.Test.YtkjflikcifcnkaaDoorPFnExactSlopeTextx2
import Derived.Test.YtkjflikcifcnkaaDoorPureFnExactSlopeText
import Derived.Test.YtkjflikcifcnkaaDoorCards
import Derived.Test.YtkjflikcifcnkaaDoorTie
import Derived.Test.YtkjflikcifcnkaaDoorItoa
import Derived.LaidMore
import Derived.Lay
import Derived.LaidOnce
import Derived.LaidLaws
import Derived.SevenTiedAt
import Derived.MakeChecks
import Derived.JoinedOf
import Derived.Lib.LaidTab
import Derived.Stop.LaidErr
import Derived.ChangeVars
import Derived.ChangeSame
import Derived.WalkKit
import Derived.ProofKit
import Derived.OpenShut
import Derived.ShutString
import Derived.ChangeOld
import Derived.Below
import Derived.SizedLaws
import Derived.Lib.SmallJoins
import Derived.Deep.Matrix
import Derived.Test.YtkjflikcifcnkaaDoorWSized
namespace Go.Proofs.YtkjflikcifcnkaaDoor.fnExactSlopeText
open Go.ChangeShapes Go.WideShapes Go.ChangeAt Go.RowKit Go.Joins Go.Deep Go.Proofs.YtkjflikcifcnkaaDoorW.PrintWords
open Go.ChangeMaps (open_string shut_string)
set_option linter.unusedVariables false
theorem own : ownKnob Tryd.prog.godebug = none := by kernel_rfl
theorem laidOut : laidOutB Tryd.prog = true := by kernel_rfl
theorem tab10_is : (Lib.tabData .u64 Lib.pow10Tab : DataW Unit) = Rows.laid_internal_strconv_uint64pow10 := by kernel_rfl
theorem tab10_laid {rest : List (String × DataW Unit)} {W : World} (h : laidMet Tryd.prog ((nm10, Lib.tabData .u64 Lib.pow10Tab) :: rest) W) : Tab10 W :=
  Lib.tabIs_of_head (g := 0) (t := 83) (e := 68) (n := 20) (by kernel_rfl) (by kernel_rfl) Tryd.underlying83 Tryd.underlying68 (by kernel_rfl) (by kernel_rfl) h
set_option maxRecDepth 100000 in
theorem lifted (os : Os) (started : os.Started) (H : Type) (enc : TypeId × Value → H) :
    ReturnsInHanded {} Tryd.checked os 3 .any (fun w args => (Rows.fnExactSlopeTextSpec.pre enc Tryd.prog Tryd.f3 [] false w args ∧ laidMetH Tryd.prog Rows.fnExactSlopeTextRow.laid w) ∧ sizedMet enc Tryd.prog Tryd.f3 (OpenSpec.ofChange Rows.fnExactSlopeTextSpec) false w args) (Rows.fnExactSlopeTextSpec.post enc Tryd.prog Tryd.f3 false true false false) := by
  refine returnsInHanded_of_change_and (C := Tryd.checked) (X := fun w _ => laidMetH Tryd.prog Rows.fnExactSlopeTextRow.laid w) (fun _ _ _ hh h => h.of_heap hh) own started (by kernel_rfl) Tryd.func3
    (ChangeSpec.witness_at (enc := enc) (C := Tryd.checked) (os := os) (X := fun w _ => laidMetH Tryd.prog Rows.fnExactSlopeTextRow.laid w) false (World.laidAll Tryd.prog os Rows.fnExactSlopeTextRow.laid) #[.agg #[.int .i64 0, .int .i64 0]] 8 (World.laidAll_os _ _ _) (by kernel_rfl) (by kernel_rfl) (by kernel_rfl) (by kernel_rfl) (by kernel_rfl)
      (by rw [MakeChecks.laidMetH_plain _ _ _ (by kernel_rfl)]; exact laidMet_laidAll _ (by kernel_rfl) (by kernel_rfl))) ?_
  intro W base args ds gs before hval0 hW hcnd hsz0 hL _
  rw [MakeChecks.laidMetH_plain _ _ _ (by kernel_rfl)] at hL
  have ht : Tab10 W := tab10_laid (by rw [tab10_is]; exact hL.tail.tail)
  have hsz : (DataW.weightsEach Tryd.prog (Tryd.f3.params.toList ++ Rows.fnExactSlopeTextSpec.plain.varTypes Tryd.prog) (ds ++ gs)).all (· ≤ reachBytes) = true := hsz0
  have hval : ∀ (j : Nat) t v, Tryd.f3.params[j]? = some t → args[j]? = some v → Value.okWide Tryd.prog W .any base t v := hval0
  have hW' := hW
  obtain ⟨p, q, hA0, hV, rfl, hfz, hnd⟩ := hW
  have hA : DataW.TrodAll enc Tryd.prog W 0 (fun _ => true) true Tryd.f3.params.toList args.toList ds p := hA0
  rw [Tryd.params3] at hA hval hsz
  obtain ⟨v0, vs0, d0, ds0, p0, q0, hargs, rfl, rfl, h0, r0⟩ := trodAll_cons hA
  obtain ⟨rfl, rfl, rfl⟩ := trodAll_nil r0
  obtain rfl : args = #[v0] := by cases args; simp_all
  obtain ⟨rfl, rfl⟩ := trodVars_none hV
  obtain ⟨c0a, c0b, y0a, y0b, m0, rfl, rfl, rfl, z0a, z0b⟩ := open_agg2 Tryd.underlying23 (by kernel_rfl) (by kernel_rfl) (hval 0 23 v0 rfl rfl) h0
  obtain ⟨a0a, e0a, ey0a, w0a⟩ := DataW.trod_int Tryd.underlying3 z0a
  obtain rfl : c0a = .int .i64 a0a := by simpa using e0a
  subst ey0a
  obtain ⟨a0b, e0b, ey0b, w0b⟩ := DataW.trod_int Tryd.underlying3 z0b
  obtain rfl : c0b = .int .i64 a0b := by simpa using e0b
  subst ey0b
  have s0 : ∀ (W' : World) (sp : Nat → Bool), DataW.Trod enc Tryd.prog W' 0 sp true 23 (.agg #[.int .i64 a0a, .int .i64 a0b]) (.agg [.lit (.int .i64 a0a), .lit (.int .i64 a0b)]) [] := fun W' sp =>
    shut_agg2 (y0 := (.lit (.int .i64 a0a), [])) (y1 := (.lit (.int .i64 a0b), [])) Tryd.underlying23 (by kernel_rfl) (by kernel_rfl) ⟨1, by simp [DataW.trod, Tryd.underlying3, w0a]⟩ ⟨1, by simp [DataW.trod, Tryd.underlying3, w0b]⟩
  clear hA0 hval0 hsz0 hsz
  obtain ⟨k, hk⟩ := Pure.FnExactSlopeText a0a w0a a0b w0b
  refine (PFnExactSlopeText.laws_FnExactSlopeText.calls k a0a a0b true W  hk ht).mono fun e W' ⟨he, bel⟩ => ?_
  subst he
  exact ⟨_, rfl, _, _, _, [], _, [], hW', trodAll_mk1 (shut_bool Tryd.underlying4 _), (trodAll_cons_mk (s0 _ _) trodAll_mk0), rfl, bel.frame _, fun h => by cases h⟩
theorem over : Rows.fnExactSlopeTextRow.holds Tryd.pinned (OpenSpec.ofChange Rows.fnExactSlopeTextSpec) :=
  OpenClaim.holds_of_wide 3 Tryd.f3 rfl rfl rfl rfl rfl rfl rfl ⟨rfl, rfl, rfl, rfl, rfl⟩ rfl rfl rfl rfl rfl (by kernel_rfl) Tryd.func3 (by kernel_rfl)
    (of_decide_eq_true (by kernel_rfl)) (by unfold Func.isWrapper; first | (rw [if_pos (by decide +kernel)]; kernel_rfl) | (rw [if_neg (by decide +kernel)]; exact ⟨rfl, rfl⟩))
    (fun os started H enc _ => lifted os started H enc)
theorem proved : Rows.FnExactSlopeTextCardSaid :=
  Claim7.holds_tied_plain_at .later [] [.data, .data, .data] true (true, "8650e24aa8e536bd3cca47b868844c7e8b284741bf0434ab7154eb2acd602ac0") true over (fun _ h => by cases h) (by kernel_rfl) (fun _ h => by cases h) fnExactSlopeText_row_tie rfl ⟨rfl, rfl⟩ (by kernel_rfl) rfl
    (fun f fn hf hfn => by
      have hn : Tryd.prog.funcNamed Rows.fnExactSlopeTextRow.func = some 3 := by kernel_rfl
      obtain rfl : f = 3 := Option.some.inj (hn.symm.trans hf) |>.symm
      obtain rfl : fn = Tryd.f3 := (Option.some.inj (Tryd.func3.symm.trans hfn)).symm
      exact ⟨by kernel_rfl, fun j t ht => by
        rw [Tryd.params3] at ht
        have hm : t ∈ [23] := by simpa using Array.mem_of_getElem? ht
        have hall : ([23].all fun u => !Tryd.prog.wantsStandIn u) = true := by kernel_rfl
        exact (show Tryd.prog.wantsStandIn t = false by simpa using List.all_eq_true.1 hall t hm)⟩)
    (by kernel_rfl)
end Go.Proofs.YtkjflikcifcnkaaDoor.fnExactSlopeText
namespace Go.Proofs.YtkjflikcifcnkaaDoor
/-- The card, under a short name, for the claim. -/
theorem fnExactSlopeText_holds : Rows.FnExactSlopeTextCardSaid := fnExactSlopeText.proved
#print axioms fnExactSlopeText_holds
end Go.Proofs.YtkjflikcifcnkaaDoor
