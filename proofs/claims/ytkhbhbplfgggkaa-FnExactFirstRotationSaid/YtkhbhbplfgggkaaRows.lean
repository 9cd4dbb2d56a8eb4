/-
  No cell of these rows narrows 'for every input' (looked for: loops, veiled, ifaces, maps, wideKeys, modest, calm, conditions, laid).
  DERIVED. THE GIVEN ROWS OF THIS SEAT. 12 by the template 'for every input the law returns true; each argument reads behind the call as it read before'; 0 by the template 'total and deterministic' (their statements: YtkhbhbplfgggkaaTotals.lean).
  GIVEN WITH THE SEED: the statements are not yours to turn. If you find one false, say at which input.
  Laid BY PROGRAM, IN A SANDBOX (cutbox-rows.mjs): the forced cells as the released guide's own fill.sh prints them over the translation f5840e4da4bf84b4… (all of the seat's roots in one cut). By AI agents, Wed Nov 11 2026. No macro, syntax, notation, axiom, sorry.
-/
import Derived.Test.YtkhbhbplfgggkaaChecked
import GoSem.Claim
import GoSem.ClaimJoined
import GoSem.ClaimMapViews
import Derived.JoinedTies
import Derived.KernelRfl
namespace Go.Proofs.Ytkhbhbplfgggkaa
/- THE CELL 'sum', in the pinned program and in every row, IS THE sha256 OF THE DUMP (.gsa) THAT YtkhbhbplfgggkaaProg.lean LOADS. Nothing in Lean hashes anything: it is a label: what it is worth is what the hold of that sum in a sandbox is worth. -/
noncomputable def Try.pinned : Pinned := { name := "ytkhbhbplfgggkaa", sum := "f5840e4da4bf84b4d23b4768a136410ca46598fa2d75df971c15477824054e8b", checked := Try.checked }
namespace Rows
def none {H : Type} : Left H := { results := [], args := [] }

/-- 'laws.FnExactRingGraph': WHATEVER THE INPUT: true; the input reads as it did. -/
def fnExactRingGraphSpec : ChangeSpec := { name := "fnExactRingGraph", fn := fun _ => fun
  | [d] => { results := [.lit (.bool true)], args := [d] }
  | _ => none }
def fnExactRingGraphRow : OpenClaim := { program := "ytkhbhbplfgggkaa", sum := "f5840e4da4bf84b4d23b4768a136410ca46598fa2d75df971c15477824054e8b", func := "loop.example/g03105/laws.FnExactRingGraph", spec := "fnExactRingGraph", apart := false }
def FnExactRingGraphSaid : Prop := fnExactRingGraphRow.holds Try.pinned (OpenSpec.ofChange fnExactRingGraphSpec)

/-- ITS FALSE NEIGHBOUR: 'it returns false'. Refute it at one input. -/
def fnExactRingGraphWrong : ChangeSpec := { name := "fnExactRingGraph", fn := fun _ => fun
  | [d] => { results := [.lit (.bool false)], args := [d] }
  | _ => none }
def FnExactRingGraphWrongFalsely : Prop := fnExactRingGraphRow.holds Try.pinned (OpenSpec.ofChange fnExactRingGraphWrong)

/-- 'laws.FnExactCompleteGraph': WHATEVER THE INPUT: true; the input reads as it did. -/
def fnExactCompleteGraphSpec : ChangeSpec := { name := "fnExactCompleteGraph", fn := fun _ => fun
  | [d] => { results := [.lit (.bool true)], args := [d] }
  | _ => none }
def fnExactCompleteGraphRow : OpenClaim := { program := "ytkhbhbplfgggkaa", sum := "f5840e4da4bf84b4d23b4768a136410ca46598fa2d75df971c15477824054e8b", func := "loop.example/g03105/laws.FnExactCompleteGraph", spec := "fnExactCompleteGraph", apart := false }
def FnExactCompleteGraphSaid : Prop := fnExactCompleteGraphRow.holds Try.pinned (OpenSpec.ofChange fnExactCompleteGraphSpec)

/-- ITS FALSE NEIGHBOUR: 'it returns false'. Refute it at one input. -/
def fnExactCompleteGraphWrong : ChangeSpec := { name := "fnExactCompleteGraph", fn := fun _ => fun
  | [d] => { results := [.lit (.bool false)], args := [d] }
  | _ => none }
def FnExactCompleteGraphWrongFalsely : Prop := fnExactCompleteGraphRow.holds Try.pinned (OpenSpec.ofChange fnExactCompleteGraphWrong)

/-- 'laws.FnExactBipartiteGraph': WHATEVER THE INPUT: true; the input reads as it did. -/
def fnExactBipartiteGraphSpec : ChangeSpec := { name := "fnExactBipartiteGraph", fn := fun _ => fun
  | [d1, d2] => { results := [.lit (.bool true)], args := [d1, d2] }
  | _ => none }
def fnExactBipartiteGraphRow : OpenClaim := { program := "ytkhbhbplfgggkaa", sum := "f5840e4da4bf84b4d23b4768a136410ca46598fa2d75df971c15477824054e8b", func := "loop.example/g03105/laws.FnExactBipartiteGraph", spec := "fnExactBipartiteGraph", apart := false }
def FnExactBipartiteGraphSaid : Prop := fnExactBipartiteGraphRow.holds Try.pinned (OpenSpec.ofChange fnExactBipartiteGraphSpec)

/-- ITS FALSE NEIGHBOUR: 'it returns false'. Refute it at one input. -/
def fnExactBipartiteGraphWrong : ChangeSpec := { name := "fnExactBipartiteGraph", fn := fun _ => fun
  | [d1, d2] => { results := [.lit (.bool false)], args := [d1, d2] }
  | _ => none }
def FnExactBipartiteGraphWrongFalsely : Prop := fnExactBipartiteGraphRow.holds Try.pinned (OpenSpec.ofChange fnExactBipartiteGraphWrong)

/-- 'laws.FnExactParseGraph': WHATEVER THE INPUT: true; the input reads as it did. -/
def fnExactParseGraphSpec : ChangeSpec := { name := "fnExactParseGraph", fn := fun _ => fun
  | [d] => { results := [.lit (.bool true)], args := [d] }
  | _ => none }
def fnExactParseGraphRow : OpenClaim := { program := "ytkhbhbplfgggkaa", sum := "f5840e4da4bf84b4d23b4768a136410ca46598fa2d75df971c15477824054e8b", func := "loop.example/g03105/laws.FnExactParseGraph", spec := "fnExactParseGraph", apart := false }
def FnExactParseGraphSaid : Prop := fnExactParseGraphRow.holds Try.pinned (OpenSpec.ofChange fnExactParseGraphSpec)

/-- ITS FALSE NEIGHBOUR: 'it returns false'. Refute it at one input. -/
def fnExactParseGraphWrong : ChangeSpec := { name := "fnExactParseGraph", fn := fun _ => fun
  | [d] => { results := [.lit (.bool false)], args := [d] }
  | _ => none }
def FnExactParseGraphWrongFalsely : Prop := fnExactParseGraphRow.holds Try.pinned (OpenSpec.ofChange fnExactParseGraphWrong)

/-- 'laws.FnExactHomologyOf': WHATEVER THE INPUT: true; the input reads as it did. -/
def fnExactHomologyOfSpec : ChangeSpec := { name := "fnExactHomologyOf", fn := fun _ => fun
  | [d1, d2] => { results := [.lit (.bool true)], args := [d1, d2] }
  | _ => none }
def fnExactHomologyOfRow : OpenClaim := { program := "ytkhbhbplfgggkaa", sum := "f5840e4da4bf84b4d23b4768a136410ca46598fa2d75df971c15477824054e8b", func := "loop.example/g03105/laws.FnExactHomologyOf", spec := "fnExactHomologyOf", apart := false }
def FnExactHomologyOfSaid : Prop := fnExactHomologyOfRow.holds Try.pinned (OpenSpec.ofChange fnExactHomologyOfSpec)

/-- ITS FALSE NEIGHBOUR: 'it returns false'. Refute it at one input. -/
def fnExactHomologyOfWrong : ChangeSpec := { name := "fnExactHomologyOf", fn := fun _ => fun
  | [d1, d2] => { results := [.lit (.bool false)], args := [d1, d2] }
  | _ => none }
def FnExactHomologyOfWrongFalsely : Prop := fnExactHomologyOfRow.holds Try.pinned (OpenSpec.ofChange fnExactHomologyOfWrong)

/-- 'laws.FnExactDegreesOf': WHATEVER THE INPUT: true; the input reads as it did. -/
def fnExactDegreesOfSpec : ChangeSpec := { name := "fnExactDegreesOf", fn := fun _ => fun
  | [d] => { results := [.lit (.bool true)], args := [d] }
  | _ => none }
def fnExactDegreesOfRow : OpenClaim := { program := "ytkhbhbplfgggkaa", sum := "f5840e4da4bf84b4d23b4768a136410ca46598fa2d75df971c15477824054e8b", func := "loop.example/g03105/laws.FnExactDegreesOf", spec := "fnExactDegreesOf", apart := false }
def FnExactDegreesOfSaid : Prop := fnExactDegreesOfRow.holds Try.pinned (OpenSpec.ofChange fnExactDegreesOfSpec)

/-- ITS FALSE NEIGHBOUR: 'it returns false'. Refute it at one input. -/
def fnExactDegreesOfWrong : ChangeSpec := { name := "fnExactDegreesOf", fn := fun _ => fun
  | [d] => { results := [.lit (.bool false)], args := [d] }
  | _ => none }
def FnExactDegreesOfWrongFalsely : Prop := fnExactDegreesOfRow.holds Try.pinned (OpenSpec.ofChange fnExactDegreesOfWrong)

/-- 'laws.FnExactCountRotations': WHATEVER THE INPUT: true; the input reads as it did. -/
def fnExactCountRotationsSpec : ChangeSpec := { name := "fnExactCountRotations", fn := fun _ => fun
  | [d] => { results := [.lit (.bool true)], args := [d] }
  | _ => none }
def fnExactCountRotationsRow : OpenClaim := { program := "ytkhbhbplfgggkaa", sum := "f5840e4da4bf84b4d23b4768a136410ca46598fa2d75df971c15477824054e8b", func := "loop.example/g03105/laws.FnExactCountRotations", spec := "fnExactCountRotations", apart := false }
def FnExactCountRotationsSaid : Prop := fnExactCountRotationsRow.holds Try.pinned (OpenSpec.ofChange fnExactCountRotationsSpec)

/-- ITS FALSE NEIGHBOUR: 'it returns false'. Refute it at one input. -/
def fnExactCountRotationsWrong : ChangeSpec := { name := "fnExactCountRotations", fn := fun _ => fun
  | [d] => { results := [.lit (.bool false)], args := [d] }
  | _ => none }
def FnExactCountRotationsWrongFalsely : Prop := fnExactCountRotationsRow.holds Try.pinned (OpenSpec.ofChange fnExactCountRotationsWrong)

/-- 'laws.FnExactApplyTable': WHATEVER THE INPUT: true; the input reads as it did. -/
def fnExactApplyTableSpec : ChangeSpec := { name := "fnExactApplyTable", fn := fun _ => fun
  | [d1, d2] => { results := [.lit (.bool true)], args := [d1, d2] }
  | _ => none }
def fnExactApplyTableRow : OpenClaim := { program := "ytkhbhbplfgggkaa", sum := "f5840e4da4bf84b4d23b4768a136410ca46598fa2d75df971c15477824054e8b", func := "loop.example/g03105/laws.FnExactApplyTable", spec := "fnExactApplyTable", apart := false }
def FnExactApplyTableSaid : Prop := fnExactApplyTableRow.holds Try.pinned (OpenSpec.ofChange fnExactApplyTableSpec)

/-- ITS FALSE NEIGHBOUR: 'it returns false'. Refute it at one input. -/
def fnExactApplyTableWrong : ChangeSpec := { name := "fnExactApplyTable", fn := fun _ => fun
  | [d1, d2] => { results := [.lit (.bool false)], args := [d1, d2] }
  | _ => none }
def FnExactApplyTableWrongFalsely : Prop := fnExactApplyTableRow.holds Try.pinned (OpenSpec.ofChange fnExactApplyTableWrong)

/-- 'laws.FnExactFirstRotation': WHATEVER THE INPUT: true; the input reads as it did. -/
def fnExactFirstRotationSpec : ChangeSpec := { name := "fnExactFirstRotation", fn := fun _ => fun
  | [d] => { results := [.lit (.bool true)], args := [d] }
  | _ => none }
def fnExactFirstRotationRow : OpenClaim := { program := "ytkhbhbplfgggkaa", sum := "f5840e4da4bf84b4d23b4768a136410ca46598fa2d75df971c15477824054e8b", func := "loop.example/g03105/laws.FnExactFirstRotation", spec := "fnExactFirstRotation", apart := false }
def FnExactFirstRotationSaid : Prop := fnExactFirstRotationRow.holds Try.pinned (OpenSpec.ofChange fnExactFirstRotationSpec)

/-- ITS FALSE NEIGHBOUR: 'it returns false'. Refute it at one input. -/
def fnExactFirstRotationWrong : ChangeSpec := { name := "fnExactFirstRotation", fn := fun _ => fun
  | [d] => { results := [.lit (.bool false)], args := [d] }
  | _ => none }
def FnExactFirstRotationWrongFalsely : Prop := fnExactFirstRotationRow.holds Try.pinned (OpenSpec.ofChange fnExactFirstRotationWrong)

/-- 'laws.FnExactIsSymplectic': WHATEVER THE INPUT: true; the input reads as it did. -/
def fnExactIsSymplecticSpec : ChangeSpec := { name := "fnExactIsSymplectic", fn := fun _ => fun
  | [d1, d2] => { results := [.lit (.bool true)], args := [d1, d2] }
  | _ => none }
def fnExactIsSymplecticRow : OpenClaim := { program := "ytkhbhbplfgggkaa", sum := "f5840e4da4bf84b4d23b4768a136410ca46598fa2d75df971c15477824054e8b", func := "loop.example/g03105/laws.FnExactIsSymplectic", spec := "fnExactIsSymplectic", apart := false }
def FnExactIsSymplecticSaid : Prop := fnExactIsSymplecticRow.holds Try.pinned (OpenSpec.ofChange fnExactIsSymplecticSpec)

/-- ITS FALSE NEIGHBOUR: 'it returns false'. Refute it at one input. -/
def fnExactIsSymplecticWrong : ChangeSpec := { name := "fnExactIsSymplectic", fn := fun _ => fun
  | [d1, d2] => { results := [.lit (.bool false)], args := [d1, d2] }
  | _ => none }
def FnExactIsSymplecticWrongFalsely : Prop := fnExactIsSymplecticRow.holds Try.pinned (OpenSpec.ofChange fnExactIsSymplecticWrong)

/-- 'laws.FnExactTwistMatrix': WHATEVER THE INPUT: true; the input reads as it did. -/
def fnExactTwistMatrixSpec : ChangeSpec := { name := "fnExactTwistMatrix", fn := fun _ => fun
  | [d1, d2] => { results := [.lit (.bool true)], args := [d1, d2] }
  | _ => none }
def fnExactTwistMatrixRow : OpenClaim := { program := "ytkhbhbplfgggkaa", sum := "f5840e4da4bf84b4d23b4768a136410ca46598fa2d75df971c15477824054e8b", func := "loop.example/g03105/laws.FnExactTwistMatrix", spec := "fnExactTwistMatrix", apart := false }
def FnExactTwistMatrixSaid : Prop := fnExactTwistMatrixRow.holds Try.pinned (OpenSpec.ofChange fnExactTwistMatrixSpec)

/-- ITS FALSE NEIGHBOUR: 'it returns false'. Refute it at one input. -/
def fnExactTwistMatrixWrong : ChangeSpec := { name := "fnExactTwistMatrix", fn := fun _ => fun
  | [d1, d2] => { results := [.lit (.bool false)], args := [d1, d2] }
  | _ => none }
def FnExactTwistMatrixWrongFalsely : Prop := fnExactTwistMatrixRow.holds Try.pinned (OpenSpec.ofChange fnExactTwistMatrixWrong)

/-- 'laws.FnExactTimesTable': WHATEVER THE INPUT: true; the input reads as it did. -/
def fnExactTimesTableSpec : ChangeSpec := { name := "fnExactTimesTable", fn := fun _ => fun
  | [d1, d2] => { results := [.lit (.bool true)], args := [d1, d2] }
  | _ => none }
def fnExactTimesTableRow : OpenClaim := { program := "ytkhbhbplfgggkaa", sum := "f5840e4da4bf84b4d23b4768a136410ca46598fa2d75df971c15477824054e8b", func := "loop.example/g03105/laws.FnExactTimesTable", spec := "fnExactTimesTable", apart := false }
def FnExactTimesTableSaid : Prop := fnExactTimesTableRow.holds Try.pinned (OpenSpec.ofChange fnExactTimesTableSpec)

/-- ITS FALSE NEIGHBOUR: 'it returns false'. Refute it at one input. -/
def fnExactTimesTableWrong : ChangeSpec := { name := "fnExactTimesTable", fn := fun _ => fun
  | [d1, d2] => { results := [.lit (.bool false)], args := [d1, d2] }
  | _ => none }
def FnExactTimesTableWrongFalsely : Prop := fnExactTimesTableRow.holds Try.pinned (OpenSpec.ofChange fnExactTimesTableWrong)

/- THE SECOND FORM. 'bulk': how many values and letters a reading holds, each counted each time it is reached (what is shared counts as often as it is met; a slice's spare places count too). A statement '..UptoSaid' is the law's where the arguments, and the package variables that the reading takes, are together of bulk at most 1048576: NARROWER than '..Said'. Prove '..Said' where nothing that the law and all that it calls make is longer than what came in: it says more and counts as full. Else prove '..UptoSaid'. A law counts once. -/
mutual
def uptoBulk {H : Type} : DataW H → Nat
  | .lit (.string bytes) => bytes.length + 1
  | .lit _ => 1
  | .nil => 1
  | .ptr d => uptoBulk d + 1
  | .slice elems spare => uptoBulkAll elems + uptoBulkAll spare + 1
  | .agg parts => uptoBulkAll parts + 1
  | .iface _ d => uptoBulk d + 1
  | .map entries => uptoBulkEntries entries + 1
  | .held _ => 1
def uptoBulkAll {H : Type} : List (DataW H) → Nat
  | [] => 0
  | d :: r => uptoBulk d + uptoBulkAll r
def uptoBulkEntries {H : Type} : List (Lit × DataW H) → Nat
  | [] => 0
  | x :: r => uptoBulkEntry x + uptoBulkEntries r
def uptoBulkEntry {H : Type} : Lit × DataW H → Nat
  | (.string bytes, d) => bytes.length + uptoBulk d + 1
  | (_, d) => uptoBulk d + 1
 end
def uptoSmall : (H : Type) → List (DataW H) → Bool := fun _ ds => decide (uptoBulkAll ds ≤ 1048576)
def OpenSpec.upto (s : _root_.Go.ChangeSpec) : _root_.Go.OpenSpec := { _root_.Go.OpenSpec.ofChange s with cond := some uptoSmall }

/-- 'laws.FnExactRingGraph', WHERE WHAT IT READS IS OF BULK AT MOST 1048576: true; the input reads as it did. -/
def fnExactRingGraphUptoRow : OpenClaim := { program := "ytkhbhbplfgggkaa", sum := "f5840e4da4bf84b4d23b4768a136410ca46598fa2d75df971c15477824054e8b", func := "loop.example/g03105/laws.FnExactRingGraph", spec := "fnExactRingGraph", apart := false, narrowed := true }
def FnExactRingGraphUptoSaid : Prop := fnExactRingGraphUptoRow.holds Try.pinned (OpenSpec.upto fnExactRingGraphSpec)

/-- 'laws.FnExactCompleteGraph', WHERE WHAT IT READS IS OF BULK AT MOST 1048576: true; the input reads as it did. -/
def fnExactCompleteGraphUptoRow : OpenClaim := { program := "ytkhbhbplfgggkaa", sum := "f5840e4da4bf84b4d23b4768a136410ca46598fa2d75df971c15477824054e8b", func := "loop.example/g03105/laws.FnExactCompleteGraph", spec := "fnExactCompleteGraph", apart := false, narrowed := true }
def FnExactCompleteGraphUptoSaid : Prop := fnExactCompleteGraphUptoRow.holds Try.pinned (OpenSpec.upto fnExactCompleteGraphSpec)

/-- 'laws.FnExactBipartiteGraph', WHERE WHAT IT READS IS OF BULK AT MOST 1048576: true; the input reads as it did. -/
def fnExactBipartiteGraphUptoRow : OpenClaim := { program := "ytkhbhbplfgggkaa", sum := "f5840e4da4bf84b4d23b4768a136410ca46598fa2d75df971c15477824054e8b", func := "loop.example/g03105/laws.FnExactBipartiteGraph", spec := "fnExactBipartiteGraph", apart := false, narrowed := true }
def FnExactBipartiteGraphUptoSaid : Prop := fnExactBipartiteGraphUptoRow.holds Try.pinned (OpenSpec.upto fnExactBipartiteGraphSpec)

/-- 'laws.FnExactParseGraph', WHERE WHAT IT READS IS OF BULK AT MOST 1048576: true; the input reads as it did. -/
def fnExactParseGraphUptoRow : OpenClaim := { program := "ytkhbhbplfgggkaa", sum := "f5840e4da4bf84b4d23b4768a136410ca46598fa2d75df971c15477824054e8b", func := "loop.example/g03105/laws.FnExactParseGraph", spec := "fnExactParseGraph", apart := false, narrowed := true }
def FnExactParseGraphUptoSaid : Prop := fnExactParseGraphUptoRow.holds Try.pinned (OpenSpec.upto fnExactParseGraphSpec)

/-- 'laws.FnExactHomologyOf', WHERE WHAT IT READS IS OF BULK AT MOST 1048576: true; the input reads as it did. -/
def fnExactHomologyOfUptoRow : OpenClaim := { program := "ytkhbhbplfgggkaa", sum := "f5840e4da4bf84b4d23b4768a136410ca46598fa2d75df971c15477824054e8b", func := "loop.example/g03105/laws.FnExactHomologyOf", spec := "fnExactHomologyOf", apart := false, narrowed := true }
def FnExactHomologyOfUptoSaid : Prop := fnExactHomologyOfUptoRow.holds Try.pinned (OpenSpec.upto fnExactHomologyOfSpec)

/-- 'laws.FnExactDegreesOf', WHERE WHAT IT READS IS OF BULK AT MOST 1048576: true; the input reads as it did. -/
def fnExactDegreesOfUptoRow : OpenClaim := { program := "ytkhbhbplfgggkaa", sum := "f5840e4da4bf84b4d23b4768a136410ca46598fa2d75df971c15477824054e8b", func := "loop.example/g03105/laws.FnExactDegreesOf", spec := "fnExactDegreesOf", apart := false, narrowed := true }
def FnExactDegreesOfUptoSaid : Prop := fnExactDegreesOfUptoRow.holds Try.pinned (OpenSpec.upto fnExactDegreesOfSpec)

/-- 'laws.FnExactCountRotations', WHERE WHAT IT READS IS OF BULK AT MOST 1048576: true; the input reads as it did. -/
def fnExactCountRotationsUptoRow : OpenClaim := { program := "ytkhbhbplfgggkaa", sum := "f5840e4da4bf84b4d23b4768a136410ca46598fa2d75df971c15477824054e8b", func := "loop.example/g03105/laws.FnExactCountRotations", spec := "fnExactCountRotations", apart := false, narrowed := true }
def FnExactCountRotationsUptoSaid : Prop := fnExactCountRotationsUptoRow.holds Try.pinned (OpenSpec.upto fnExactCountRotationsSpec)

/-- 'laws.FnExactApplyTable', WHERE WHAT IT READS IS OF BULK AT MOST 1048576: true; the input reads as it did. -/
def fnExactApplyTableUptoRow : OpenClaim := { program := "ytkhbhbplfgggkaa", sum := "f5840e4da4bf84b4d23b4768a136410ca46598fa2d75df971c15477824054e8b", func := "loop.example/g03105/laws.FnExactApplyTable", spec := "fnExactApplyTable", apart := false, narrowed := true }
def FnExactApplyTableUptoSaid : Prop := fnExactApplyTableUptoRow.holds Try.pinned (OpenSpec.upto fnExactApplyTableSpec)

/-- 'laws.FnExactFirstRotation', WHERE WHAT IT READS IS OF BULK AT MOST 1048576: true; the input reads as it did. -/
def fnExactFirstRotationUptoRow : OpenClaim := { program := "ytkhbhbplfgggkaa", sum := "f5840e4da4bf84b4d23b4768a136410ca46598fa2d75df971c15477824054e8b", func := "loop.example/g03105/laws.FnExactFirstRotation", spec := "fnExactFirstRotation", apart := false, narrowed := true }
def FnExactFirstRotationUptoSaid : Prop := fnExactFirstRotationUptoRow.holds Try.pinned (OpenSpec.upto fnExactFirstRotationSpec)

/-- 'laws.FnExactIsSymplectic', WHERE WHAT IT READS IS OF BULK AT MOST 1048576: true; the input reads as it did. -/
def fnExactIsSymplecticUptoRow : OpenClaim := { program := "ytkhbhbplfgggkaa", sum := "f5840e4da4bf84b4d23b4768a136410ca46598fa2d75df971c15477824054e8b", func := "loop.example/g03105/laws.FnExactIsSymplectic", spec := "fnExactIsSymplectic", apart := false, narrowed := true }
def FnExactIsSymplecticUptoSaid : Prop := fnExactIsSymplecticUptoRow.holds Try.pinned (OpenSpec.upto fnExactIsSymplecticSpec)

/-- 'laws.FnExactTwistMatrix', WHERE WHAT IT READS IS OF BULK AT MOST 1048576: true; the input reads as it did. -/
def fnExactTwistMatrixUptoRow : OpenClaim := { program := "ytkhbhbplfgggkaa", sum := "f5840e4da4bf84b4d23b4768a136410ca46598fa2d75df971c15477824054e8b", func := "loop.example/g03105/laws.FnExactTwistMatrix", spec := "fnExactTwistMatrix", apart := false, narrowed := true }
def FnExactTwistMatrixUptoSaid : Prop := fnExactTwistMatrixUptoRow.holds Try.pinned (OpenSpec.upto fnExactTwistMatrixSpec)

/-- 'laws.FnExactTimesTable', WHERE WHAT IT READS IS OF BULK AT MOST 1048576: true; the input reads as it did. -/
def fnExactTimesTableUptoRow : OpenClaim := { program := "ytkhbhbplfgggkaa", sum := "f5840e4da4bf84b4d23b4768a136410ca46598fa2d75df971c15477824054e8b", func := "loop.example/g03105/laws.FnExactTimesTable", spec := "fnExactTimesTable", apart := false, narrowed := true }
def FnExactTimesTableUptoSaid : Prop := fnExactTimesTableUptoRow.holds Try.pinned (OpenSpec.upto fnExactTimesTableSpec)

end Rows
end Go.Proofs.Ytkhbhbplfgggkaa
