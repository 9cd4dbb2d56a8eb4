/- The row of FnExactTwistSlope: called with any arguments that can be read, it returns true and the arguments read on as they did; out of the printed walk and the pure statement of YtdkjppbemhpkmaaPureFnExactTwistSlope. -/
import Derived.Test.YtdkjppbemhpkmaaVFnExactTwistSlope
import Derived.Test.YtdkjppbemhpkmaaRows
import Derived.Test.YtdkjppbemhpkmaaPureFnExactTwistSlope
import Derived.WalkKit
import Derived.ProofKit
import Derived.OpenShut
import Derived.ShutString
import Derived.ChangeOld
import Derived.Below
import Derived.SizedLaws
import Derived.Lib.SmallJoins
import Derived.Deep.Matrix
import Derived.Test.YtdkjppbemhpkmaaWSized
namespace Go.Proofs.Ytdkjppbemhpkmaa.fnExactTwistSlope
open Go.ChangeShapes Go.WideShapes Go.ChangeAt Go.RowKit Go.Joins Go.Deep Go.Proofs.YtdkjppbemhpkmaaW.PrintWords
open Go.ChangeMaps (open_string shut_string)
set_option linter.unusedVariables false
theorem own : ownKnob Try.prog.godebug = none := by kernel_rfl
theorem laidOut : laidOutB Try.prog = true := by kernel_rfl
set_option maxRecDepth 100000 in
theorem lifted (os : Os) (started : os.Started) (H : Type) (enc : TypeId × Value → H) :
    ReturnsInHanded {} Try.checked os 11 .any (Rows.fnExactTwistSlopeSpec.pre6 enc Try.prog Try.f11 Rows.fnExactTwistSlopeRow.domain false) (Rows.fnExactTwistSlopeSpec.post enc Try.prog Try.f11 false true false false) := by
  refine returnsInHanded_of_change_sized (C := Try.checked) own started (by kernel_rfl) Try.func11
    (ChangeSpec.witness6 (enc := enc) (C := Try.checked) false ⟨#[], #[.agg #[.int .i64 0, .int .i64 0], .agg #[.int .i64 0, .int .i64 0], .int .i64 0], []⟩ 8 (by kernel_rfl) (by kernel_rfl) (by kernel_rfl) (by kernel_rfl)) ?_
  intro W base args ds gs before hval0 hW hcnd hsz0 _
  have hsz : (DataW.weightsEach Try.prog (Try.f11.params.toList ++ Rows.fnExactTwistSlopeSpec.plain.varTypes Try.prog) (ds ++ gs)).all (· ≤ reachBytes) = true := hsz0
  have hval : ∀ (j : Nat) t v, Try.f11.params[j]? = some t → args[j]? = some v → Value.okWide Try.prog W .any base t v := hval0
  have hW' := hW
  obtain ⟨p, q, hA0, hV, rfl, hfz, hnd⟩ := hW
  have hA : DataW.TrodAll enc Try.prog W 0 (fun _ => true) true Try.f11.params.toList args.toList ds p := hA0
  rw [Try.params11] at hA hval hsz
  obtain ⟨v0, vs0, d0, ds0, p0, q0, hargs, rfl, rfl, h0, r0⟩ := trodAll_cons hA
  obtain ⟨v1, vs1, d1, ds1, p1, q1, rfl, rfl, rfl, h1, r1⟩ := trodAll_cons r0
  obtain ⟨v2, vs2, d2, ds2, p2, q2, rfl, rfl, rfl, h2, r2⟩ := trodAll_cons r1
  obtain ⟨rfl, rfl, rfl⟩ := trodAll_nil r2
  obtain rfl : args = #[v0, v1, v2] := by cases args; simp_all
  obtain ⟨rfl, rfl⟩ := trodVars_none hV
  obtain ⟨c0a, c0b, y0a, y0b, m0, rfl, rfl, rfl, z0a, z0b⟩ := open_agg2 Try.underlying27 (by kernel_rfl) (by kernel_rfl) (hval 0 27 v0 rfl rfl) h0
  obtain ⟨a0a, e0a, ey0a, w0a⟩ := DataW.trod_int Try.underlying3 z0a
  obtain rfl : c0a = .int .i64 a0a := by simpa using e0a
  subst ey0a
  obtain ⟨a0b, e0b, ey0b, w0b⟩ := DataW.trod_int Try.underlying3 z0b
  obtain rfl : c0b = .int .i64 a0b := by simpa using e0b
  subst ey0b
  have s0 : ∀ (W' : World) (sp : Nat → Bool), DataW.Trod enc Try.prog W' 0 sp true 27 (.agg #[.int .i64 a0a, .int .i64 a0b]) (.agg [.lit (.int .i64 a0a), .lit (.int .i64 a0b)]) [] := fun W' sp =>
    shut_agg2 (y0 := (.lit (.int .i64 a0a), [])) (y1 := (.lit (.int .i64 a0b), [])) Try.underlying27 (by kernel_rfl) (by kernel_rfl) ⟨1, by simp [DataW.trod, Try.underlying3, w0a]⟩ ⟨1, by simp [DataW.trod, Try.underlying3, w0b]⟩
  obtain ⟨c1a, c1b, y1a, y1b, m1, rfl, rfl, rfl, z1a, z1b⟩ := open_agg2 Try.underlying27 (by kernel_rfl) (by kernel_rfl) (hval 1 27 v1 rfl rfl) h1
  obtain ⟨a1a, e1a, ey1a, w1a⟩ := DataW.trod_int Try.underlying3 z1a
  obtain rfl : c1a = .int .i64 a1a := by simpa using e1a
  subst ey1a
  obtain ⟨a1b, e1b, ey1b, w1b⟩ := DataW.trod_int Try.underlying3 z1b
  obtain rfl : c1b = .int .i64 a1b := by simpa using e1b
  subst ey1b
  have s1 : ∀ (W' : World) (sp : Nat → Bool), DataW.Trod enc Try.prog W' 0 sp true 27 (.agg #[.int .i64 a1a, .int .i64 a1b]) (.agg [.lit (.int .i64 a1a), .lit (.int .i64 a1b)]) [] := fun W' sp =>
    shut_agg2 (y0 := (.lit (.int .i64 a1a), [])) (y1 := (.lit (.int .i64 a1b), [])) Try.underlying27 (by kernel_rfl) (by kernel_rfl) ⟨1, by simp [DataW.trod, Try.underlying3, w1a]⟩ ⟨1, by simp [DataW.trod, Try.underlying3, w1b]⟩
  obtain ⟨a2, rfl, rfl, rfl, w2⟩ := open_int Try.underlying3 (hval 2 3 v2 rfl rfl) h2
  clear hA0 hval0 hsz0 hsz
  obtain ⟨k, hk⟩ := Pure.FnExactTwistSlope a0a w0a a0b w0b a1a w1a a1b w1b a2 w2
  refine (PFnExactTwistSlope.laws_FnExactTwistSlope.calls k a0a a0b a1a a1b a2 W  hk).mono fun e W' ⟨he, bel⟩ => ?_
  subst he
  exact ⟨_, rfl, _, _, _, [], _, [], hW', trodAll_mk1 (shut_bool Try.underlying4 _), (trodAll_cons_mk (s0 _ _) (trodAll_cons_mk (s1 _ _) (trodAll_cons_mk (shut_int Try.underlying3 w2) trodAll_mk0))), rfl, bel.frame _, fun h => by cases h⟩
theorem over : Rows.fnExactTwistSlopeRow.holds Try.pinned (OpenSpec.ofChange Rows.fnExactTwistSlopeSpec) :=
  OpenClaim.holds_of_wide 11 Try.f11 rfl rfl rfl rfl rfl rfl rfl ⟨rfl, rfl, rfl, rfl, rfl⟩ rfl rfl rfl rfl rfl (by kernel_rfl) Try.func11 (by kernel_rfl)
    (of_decide_eq_true (by kernel_rfl)) (by unfold Func.isWrapper; first | (rw [if_pos (by decide +kernel)]; kernel_rfl) | (rw [if_neg (by decide +kernel)]; exact ⟨rfl, rfl⟩))
    (fun os started H enc _ => lifted os started H enc)
theorem proved : Rows.FnExactTwistSlopeSaid := over
#print axioms proved
end Go.Proofs.Ytdkjppbemhpkmaa.fnExactTwistSlope
namespace Go.Proofs.Ytdkjppbemhpkmaa
/-- The row, under a short name, for the claim. -/
theorem fnExactTwistSlope_holds : Rows.FnExactTwistSlopeSaid := fnExactTwistSlope.proved
end Go.Proofs.Ytdkjppbemhpkmaa
