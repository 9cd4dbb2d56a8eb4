/- The row of FnExactParseSlope: called with any arguments that can be read, it returns true and the arguments read on as they did; out of the printed walk and the pure statement of YtkjflikcifcnkaaDoorPureFnExactParseSlope. -/
import Derived.Test.YtkjflikcifcnkaaDoorRows
import Derived.Test.YtkjflikcifcnkaaDoorPFnExactParseSlopex5
import Derived.Test.YtkjflikcifcnkaaDoorPureFnExactParseSlope
import Derived.Test.YtkjflikcifcnkaaDoorCards
import Derived.Test.YtkjflikcifcnkaaDoorTie
import Derived.Test.YtkjflikcifcnkaaDoorAtoi
import Derived.LaidMore
import Derived.Lay
import Derived.LaidOnce
import Derived.LaidLaws
import Derived.SevenTiedAt
import Derived.MakeChecks
import Derived.JoinedOf
import Derived.Lib.LaidTab
import Derived.Stop.LaidErr
import Derived.ChangeVars
import Derived.ChangeSame
import Derived.WalkKit
import Derived.ProofKit
import Derived.OpenShut
import Derived.ShutString
import Derived.ChangeOld
import Derived.Below
import Derived.SizedLaws
import Derived.Lib.SmallJoins
import Derived.Deep.Matrix
import Derived.Test.YtkjflikcifcnkaaDoorWSized
namespace Go.Proofs.YtkjflikcifcnkaaDoor.fnExactParseSlope
open Go.ChangeShapes Go.WideShapes Go.ChangeAt Go.RowKit Go.Joins Go.Deep Go.Proofs.YtkjflikcifcnkaaDoorW.PrintWords
open Go.ChangeMaps (open_string shut_string)
set_option linter.unusedVariables false
theorem own : ownKnob Tryd.prog.godebug = none := by kernel_rfl
theorem laidOut : laidOutB Tryd.prog = true := by kernel_rfl
theorem tab10_is : (Lib.tabData .u64 Lib.pow10Tab : DataW Unit) = Rows.laid_internal_strconv_uint64pow10 := by kernel_rfl
theorem tab10_laid {rest : List (String × DataW Unit)} {W : World} (h : laidMet Tryd.prog ((nm10, Lib.tabData .u64 Lib.pow10Tab) :: rest) W) : Tab10 W :=
  Lib.tabIs_of_head (g := 0) (t := 83) (e := 68) (n := 20) (by kernel_rfl) (by kernel_rfl) Tryd.underlying83 Tryd.underlying68 (by kernel_rfl) (by kernel_rfl) h
abbrev nmER : String := (Rows.fnExactParseSlopeRow.laid.map (·.1)).getD 3 ([].headD (Rows.fnExactParseSlopeRow.func))
abbrev nmES : String := (Rows.fnExactParseSlopeRow.laid.map (·.1)).getD 4 ([].headD (Rows.fnExactParseSlopeRow.func))
theorem gES : Tryd.prog.globalNamed nmES = some 1 := by kernel_rfl
theorem gESType : (Tryd.prog.globals[1]?).map (·.type) = some 56 := by kernel_rfl
theorem gER : Tryd.prog.globalNamed nmER = some 2 := by kernel_rfl
theorem gERType : (Tryd.prog.globals[2]?).map (·.type) = some 56 := by kernel_rfl
theorem cellsES : Tryd.prog.cellsOf 99 = 1 := by kernel_rfl
theorem cellsStr : Tryd.prog.cellsOf 9 = 1 := by kernel_rfl
theorem starES : "*" ++ "errors.errorString" = "*errors.errorString" := by decide
theorem rowES (u : TypeId) (h : Tryd.prog.typeName? 3 u = some "*errors.errorString") : u = 97 :=
  typeName_ptr_named (nm := "errors.errorString") (by rw [starES]; kernel_rfl) (by kernel_rfl) (by decide) u (by rw [starES]; exact h)
set_option maxRecDepth 100000 in
theorem lifted (os : Os) (started : os.Started) (H : Type) (enc : TypeId × Value → H) :
    ReturnsInHanded {} Tryd.checked os 4 .any (fun w args => (Rows.fnExactParseSlopeSpec.pre enc Tryd.prog Tryd.f4 [] false w args ∧ laidMetH Tryd.prog Rows.fnExactParseSlopeRow.laid w) ∧ sizedMet enc Tryd.prog Tryd.f4 (OpenSpec.ofChange Rows.fnExactParseSlopeSpec) false w args) (Rows.fnExactParseSlopeSpec.post enc Tryd.prog Tryd.f4 false true false false) := by
  refine returnsInHanded_of_change_and (C := Tryd.checked) (X := fun w _ => laidMetH Tryd.prog Rows.fnExactParseSlopeRow.laid w) (fun _ _ _ hh h => h.of_heap hh) own started (by kernel_rfl) Tryd.func4
    (ChangeSpec.witness_at (enc := enc) (C := Tryd.checked) (os := os) (X := fun w _ => laidMetH Tryd.prog Rows.fnExactParseSlopeRow.laid w) false (World.laidAll Tryd.prog os Rows.fnExactParseSlopeRow.laid) #[.string ByteArray.empty] 8 (World.laidAll_os _ _ _) (by kernel_rfl) (by kernel_rfl) (by kernel_rfl) (by kernel_rfl) (by kernel_rfl)
      (by rw [MakeChecks.laidMetH_plain _ _ _ (by kernel_rfl)]; exact laidMet_laidAll _ (by kernel_rfl) (by kernel_rfl))) ?_
  intro W base args ds gs before hval0 hW hcnd hsz0 hL _
  rw [MakeChecks.laidMetH_plain _ _ _ (by kernel_rfl)] at hL
  have ht10 : Tab10 W := tab10_laid (by rw [tab10_is]; exact hL.tail.tail)
  obtain ⟨a1_, s1_, hv1, -, -, -⟩ := laid_sentinel hL.tail.tail.tail gER gERType Tryd.underlying56 rowES Tryd.underlying97 Tryd.underlying99 rfl rfl Tryd.underlying9 cellsES cellsStr
  obtain ⟨a2_, s2_, hv2, -, -, -⟩ := laid_sentinel hL.tail.tail.tail.tail gES gESType Tryd.underlying56 rowES Tryd.underlying97 Tryd.underlying99 rfl rfl Tryd.underlying9 cellsES cellsStr
  have ht : TabE W := ⟨ht10, ⟨_, (by have h0 := World.var?_cell gES hv2 0; simpa using h0), Or.inr ⟨_, _, rfl⟩⟩, _, (by have h0 := World.var?_cell gER hv1 0; simpa using h0), Or.inr ⟨_, _, rfl⟩⟩
  have hsz : (DataW.weightsEach Tryd.prog (Tryd.f4.params.toList ++ Rows.fnExactParseSlopeSpec.plain.varTypes Tryd.prog) (ds ++ gs)).all (· ≤ reachBytes) = true := hsz0
  have hval : ∀ (j : Nat) t v, Tryd.f4.params[j]? = some t → args[j]? = some v → Value.okWide Tryd.prog W .any base t v := hval0
  have hW' := hW
  obtain ⟨p, q, hA0, hV, rfl, hfz, hnd⟩ := hW
  have hA : DataW.TrodAll enc Tryd.prog W 0 (fun _ => true) true Tryd.f4.params.toList args.toList ds p := hA0
  rw [Tryd.params4] at hA hval hsz
  obtain ⟨v0, vs0, d0, ds0, p0, q0, hargs, rfl, rfl, h0, r0⟩ := trodAll_cons hA
  obtain ⟨rfl, rfl, rfl⟩ := trodAll_nil r0
  obtain rfl : args = #[v0] := by cases args; simp_all
  obtain ⟨rfl, rfl⟩ := trodVars_none hV
  obtain ⟨a0, rfl, rfl, rfl, y0⟩ := open_string Tryd.underlying9 (hval 0 9 v0 rfl rfl) h0
  have w0 : a0.size ≤ 140737488351232 := by
    have z := sized_string hsz (j := 0) (t := 9) rfl rfl
    rw [Array.length_toList] at z
    exact z
  clear hA0 hval0 hsz0 hsz
  obtain ⟨k, hk⟩ := Pure.FnExactParseSlope a0 w0
  refine (PFnExactParseSlope.laws_FnExactParseSlope.calls k a0 true W  hk ht).mono fun e W' ⟨he, bel⟩ => ?_
  subst he
  exact ⟨_, rfl, _, _, _, [], _, [], hW', trodAll_mk1 (shut_bool Tryd.underlying4 _), (trodAll_cons_mk (shut_string Tryd.underlying9 y0) trodAll_mk0), rfl, bel.frame _, fun h => by cases h⟩
theorem over : Rows.fnExactParseSlopeRow.holds Tryd.pinned (OpenSpec.ofChange Rows.fnExactParseSlopeSpec) :=
  OpenClaim.holds_of_wide 4 Tryd.f4 rfl rfl rfl rfl rfl rfl rfl ⟨rfl, rfl, rfl, rfl, rfl⟩ rfl rfl rfl rfl rfl (by kernel_rfl) Tryd.func4 (by kernel_rfl)
    (of_decide_eq_true (by kernel_rfl)) (by unfold Func.isWrapper; first | (rw [if_pos (by decide +kernel)]; kernel_rfl) | (rw [if_neg (by decide +kernel)]; exact ⟨rfl, rfl⟩))
    (fun os started H enc _ => lifted os started H enc)
theorem proved : Rows.FnExactParseSlopeCardSaid :=
  Claim7.holds_tied_plain_at .later [] [.data, .data, .data, .sentinel, .sentinel] true (true, "8650e24aa8e536bd3cca47b868844c7e8b284741bf0434ab7154eb2acd602ac0") true over (fun _ h => by cases h) (by kernel_rfl) (fun _ h => by cases h) fnExactParseSlope_row_tie rfl ⟨rfl, rfl⟩ (by kernel_rfl) rfl
    (fun f fn hf hfn => by
      have hn : Tryd.prog.funcNamed Rows.fnExactParseSlopeRow.func = some 4 := by kernel_rfl
      obtain rfl : f = 4 := Option.some.inj (hn.symm.trans hf) |>.symm
      obtain rfl : fn = Tryd.f4 := (Option.some.inj (Tryd.func4.symm.trans hfn)).symm
      exact ⟨by kernel_rfl, fun j t ht => by
        rw [Tryd.params4] at ht
        have hm : t ∈ [9] := by simpa using Array.mem_of_getElem? ht
        have hall : ([9].all fun u => !Tryd.prog.wantsStandIn u) = true := by kernel_rfl
        exact (show Tryd.prog.wantsStandIn t = false by simpa using List.all_eq_true.1 hall t hm)⟩)
    (by kernel_rfl)
end Go.Proofs.YtkjflikcifcnkaaDoor.fnExactParseSlope
namespace Go.Proofs.YtkjflikcifcnkaaDoor
/-- The card, under a short name, for the claim. -/
theorem fnExactParseSlope_holds : Rows.FnExactParseSlopeCardSaid := fnExactParseSlope.proved
#print axioms fnExactParseSlope_holds
end Go.Proofs.YtkjflikcifcnkaaDoor
