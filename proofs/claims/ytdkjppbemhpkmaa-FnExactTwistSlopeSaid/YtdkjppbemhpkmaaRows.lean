/-
  No cell of these rows narrows 'for every input' (looked for: loops, veiled, ifaces, maps, wideKeys, modest, calm, conditions, laid).
  DERIVED. THE GIVEN ROWS OF THIS SEAT. 12 by the template 'for every input the law returns true; each argument reads behind the call as it read before'; 0 by the template 'total and deterministic' (their statements: YtdkjppbemhpkmaaTotals.lean).
  GIVEN WITH THE SEED: the statements are not yours to turn. If you find one false, say at which input.
  Laid BY PROGRAM, IN A SANDBOX (cutbox-rows.mjs): the forced cells as the released guide's own fill.sh prints them over the translation e4b8022bfb3aa54a… (all of the seat's roots in one cut). By AI agents, Wed Nov 11 2026. No macro, syntax, notation, axiom, sorry.
-/
import Derived.Test.YtdkjppbemhpkmaaChecked
import GoSem.Claim
import GoSem.ClaimJoined
import GoSem.ClaimMapViews
import Derived.JoinedTies
import Derived.KernelRfl
namespace Go.Proofs.Ytdkjppbemhpkmaa
/- THE CELL 'sum', in the pinned program and in every row, IS THE sha256 OF THE DUMP (.gsa) THAT YtdkjppbemhpkmaaProg.lean LOADS. Nothing in Lean hashes anything: it is a label: what it is worth is what the hold of that sum in a sandbox is worth. -/
noncomputable def Try.pinned : Pinned := { name := "ytdkjppbemhpkmaa", sum := "e4b8022bfb3aa54ad31eb866628c64ebbacc6e0878c837c9a4259cb71d0cb85a", checked := Try.checked }
namespace Rows
def none {H : Type} : Left H := { results := [], args := [] }

/-- 'laws.FnExactIsClass': WHATEVER THE INPUT: true; the input reads as it did. -/
def fnExactIsClassSpec : ChangeSpec := { name := "fnExactIsClass", fn := fun _ => fun
  | [d1, d2] => { results := [.lit (.bool true)], args := [d1, d2] }
  | _ => none }
def fnExactIsClassRow : OpenClaim := { program := "ytdkjppbemhpkmaa", sum := "e4b8022bfb3aa54ad31eb866628c64ebbacc6e0878c837c9a4259cb71d0cb85a", func := "loop.example/g03105/laws.FnExactIsClass", spec := "fnExactIsClass", apart := false }
def FnExactIsClassSaid : Prop := fnExactIsClassRow.holds Try.pinned (OpenSpec.ofChange fnExactIsClassSpec)

/-- ITS FALSE NEIGHBOUR: 'it returns false'. Refute it at one input. -/
def fnExactIsClassWrong : ChangeSpec := { name := "fnExactIsClass", fn := fun _ => fun
  | [d1, d2] => { results := [.lit (.bool false)], args := [d1, d2] }
  | _ => none }
def FnExactIsClassWrongFalsely : Prop := fnExactIsClassRow.holds Try.pinned (OpenSpec.ofChange fnExactIsClassWrong)

/-- 'laws.FnExactIsSlope': WHATEVER THE INPUT: true; the input reads as it did. -/
def fnExactIsSlopeSpec : ChangeSpec := { name := "fnExactIsSlope", fn := fun _ => fun
  | [d] => { results := [.lit (.bool true)], args := [d] }
  | _ => none }
def fnExactIsSlopeRow : OpenClaim := { program := "ytdkjppbemhpkmaa", sum := "e4b8022bfb3aa54ad31eb866628c64ebbacc6e0878c837c9a4259cb71d0cb85a", func := "loop.example/g03105/laws.FnExactIsSlope", spec := "fnExactIsSlope", apart := false }
def FnExactIsSlopeSaid : Prop := fnExactIsSlopeRow.holds Try.pinned (OpenSpec.ofChange fnExactIsSlopeSpec)

/-- ITS FALSE NEIGHBOUR: 'it returns false'. Refute it at one input. -/
def fnExactIsSlopeWrong : ChangeSpec := { name := "fnExactIsSlope", fn := fun _ => fun
  | [d] => { results := [.lit (.bool false)], args := [d] }
  | _ => none }
def FnExactIsSlopeWrongFalsely : Prop := fnExactIsSlopeRow.holds Try.pinned (OpenSpec.ofChange fnExactIsSlopeWrong)

/-- 'laws.FnExactRelator': WHATEVER THE INPUT: true; the input reads as it did. -/
def fnExactRelatorSpec : ChangeSpec := { name := "fnExactRelator", fn := fun _ => fun
  | [d] => { results := [.lit (.bool true)], args := [d] }
  | _ => none }
def fnExactRelatorRow : OpenClaim := { program := "ytdkjppbemhpkmaa", sum := "e4b8022bfb3aa54ad31eb866628c64ebbacc6e0878c837c9a4259cb71d0cb85a", func := "loop.example/g03105/laws.FnExactRelator", spec := "fnExactRelator", apart := false }
def FnExactRelatorSaid : Prop := fnExactRelatorRow.holds Try.pinned (OpenSpec.ofChange fnExactRelatorSpec)

/-- ITS FALSE NEIGHBOUR: 'it returns false'. Refute it at one input. -/
def fnExactRelatorWrong : ChangeSpec := { name := "fnExactRelator", fn := fun _ => fun
  | [d] => { results := [.lit (.bool false)], args := [d] }
  | _ => none }
def FnExactRelatorWrongFalsely : Prop := fnExactRelatorRow.holds Try.pinned (OpenSpec.ofChange fnExactRelatorWrong)

/-- 'laws.FnExactCrossNumber': WHATEVER THE INPUT: true; the input reads as it did. -/
def fnExactCrossNumberSpec : ChangeSpec := { name := "fnExactCrossNumber", fn := fun _ => fun
  | [d1, d2] => { results := [.lit (.bool true)], args := [d1, d2] }
  | _ => none }
def fnExactCrossNumberRow : OpenClaim := { program := "ytdkjppbemhpkmaa", sum := "e4b8022bfb3aa54ad31eb866628c64ebbacc6e0878c837c9a4259cb71d0cb85a", func := "loop.example/g03105/laws.FnExactCrossNumber", spec := "fnExactCrossNumber", apart := false }
def FnExactCrossNumberSaid : Prop := fnExactCrossNumberRow.holds Try.pinned (OpenSpec.ofChange fnExactCrossNumberSpec)

/-- ITS FALSE NEIGHBOUR: 'it returns false'. Refute it at one input. -/
def fnExactCrossNumberWrong : ChangeSpec := { name := "fnExactCrossNumber", fn := fun _ => fun
  | [d1, d2] => { results := [.lit (.bool false)], args := [d1, d2] }
  | _ => none }
def FnExactCrossNumberWrongFalsely : Prop := fnExactCrossNumberRow.holds Try.pinned (OpenSpec.ofChange fnExactCrossNumberWrong)

/-- 'laws.FnExactSlopeOf': WHATEVER THE INPUT: true; the input reads as it did. -/
def fnExactSlopeOfSpec : ChangeSpec := { name := "fnExactSlopeOf", fn := fun _ => fun
  | [d1, d2] => { results := [.lit (.bool true)], args := [d1, d2] }
  | _ => none }
def fnExactSlopeOfRow : OpenClaim := { program := "ytdkjppbemhpkmaa", sum := "e4b8022bfb3aa54ad31eb866628c64ebbacc6e0878c837c9a4259cb71d0cb85a", func := "loop.example/g03105/laws.FnExactSlopeOf", spec := "fnExactSlopeOf", apart := false }
def FnExactSlopeOfSaid : Prop := fnExactSlopeOfRow.holds Try.pinned (OpenSpec.ofChange fnExactSlopeOfSpec)

/-- ITS FALSE NEIGHBOUR: 'it returns false'. Refute it at one input. -/
def fnExactSlopeOfWrong : ChangeSpec := { name := "fnExactSlopeOf", fn := fun _ => fun
  | [d1, d2] => { results := [.lit (.bool false)], args := [d1, d2] }
  | _ => none }
def FnExactSlopeOfWrongFalsely : Prop := fnExactSlopeOfRow.holds Try.pinned (OpenSpec.ofChange fnExactSlopeOfWrong)

/-- 'laws.FnExactIsBasisPair': WHATEVER THE INPUT: true; the input reads as it did. -/
def fnExactIsBasisPairSpec : ChangeSpec := { name := "fnExactIsBasisPair", fn := fun _ => fun
  | [d1, d2] => { results := [.lit (.bool true)], args := [d1, d2] }
  | _ => none }
def fnExactIsBasisPairRow : OpenClaim := { program := "ytdkjppbemhpkmaa", sum := "e4b8022bfb3aa54ad31eb866628c64ebbacc6e0878c837c9a4259cb71d0cb85a", func := "loop.example/g03105/laws.FnExactIsBasisPair", spec := "fnExactIsBasisPair", apart := false }
def FnExactIsBasisPairSaid : Prop := fnExactIsBasisPairRow.holds Try.pinned (OpenSpec.ofChange fnExactIsBasisPairSpec)

/-- ITS FALSE NEIGHBOUR: 'it returns false'. Refute it at one input. -/
def fnExactIsBasisPairWrong : ChangeSpec := { name := "fnExactIsBasisPair", fn := fun _ => fun
  | [d1, d2] => { results := [.lit (.bool false)], args := [d1, d2] }
  | _ => none }
def FnExactIsBasisPairWrongFalsely : Prop := fnExactIsBasisPairRow.holds Try.pinned (OpenSpec.ofChange fnExactIsBasisPairWrong)

/-- 'laws.FnExactFormOf': WHATEVER THE INPUT: true; the input reads as it did. -/
def fnExactFormOfSpec : ChangeSpec := { name := "fnExactFormOf", fn := fun _ => fun
  | [d1, d2, d3] => { results := [.lit (.bool true)], args := [d1, d2, d3] }
  | _ => none }
def fnExactFormOfRow : OpenClaim := { program := "ytdkjppbemhpkmaa", sum := "e4b8022bfb3aa54ad31eb866628c64ebbacc6e0878c837c9a4259cb71d0cb85a", func := "loop.example/g03105/laws.FnExactFormOf", spec := "fnExactFormOf", apart := false }
def FnExactFormOfSaid : Prop := fnExactFormOfRow.holds Try.pinned (OpenSpec.ofChange fnExactFormOfSpec)

/-- ITS FALSE NEIGHBOUR: 'it returns false'. Refute it at one input. -/
def fnExactFormOfWrong : ChangeSpec := { name := "fnExactFormOf", fn := fun _ => fun
  | [d1, d2, d3] => { results := [.lit (.bool false)], args := [d1, d2, d3] }
  | _ => none }
def FnExactFormOfWrongFalsely : Prop := fnExactFormOfRow.holds Try.pinned (OpenSpec.ofChange fnExactFormOfWrong)

/-- 'laws.FnExactIsPrimitiveClass': WHATEVER THE INPUT: true; the input reads as it did. -/
def fnExactIsPrimitiveClassSpec : ChangeSpec := { name := "fnExactIsPrimitiveClass", fn := fun _ => fun
  | [d1, d2] => { results := [.lit (.bool true)], args := [d1, d2] }
  | _ => none }
def fnExactIsPrimitiveClassRow : OpenClaim := { program := "ytdkjppbemhpkmaa", sum := "e4b8022bfb3aa54ad31eb866628c64ebbacc6e0878c837c9a4259cb71d0cb85a", func := "loop.example/g03105/laws.FnExactIsPrimitiveClass", spec := "fnExactIsPrimitiveClass", apart := false }
def FnExactIsPrimitiveClassSaid : Prop := fnExactIsPrimitiveClassRow.holds Try.pinned (OpenSpec.ofChange fnExactIsPrimitiveClassSpec)

/-- ITS FALSE NEIGHBOUR: 'it returns false'. Refute it at one input. -/
def fnExactIsPrimitiveClassWrong : ChangeSpec := { name := "fnExactIsPrimitiveClass", fn := fun _ => fun
  | [d1, d2] => { results := [.lit (.bool false)], args := [d1, d2] }
  | _ => none }
def FnExactIsPrimitiveClassWrongFalsely : Prop := fnExactIsPrimitiveClassRow.holds Try.pinned (OpenSpec.ofChange fnExactIsPrimitiveClassWrong)

/-- 'laws.FnExactTwistSlope': WHATEVER THE INPUT: true; the input reads as it did. -/
def fnExactTwistSlopeSpec : ChangeSpec := { name := "fnExactTwistSlope", fn := fun _ => fun
  | [d1, d2, d3] => { results := [.lit (.bool true)], args := [d1, d2, d3] }
  | _ => none }
def fnExactTwistSlopeRow : OpenClaim := { program := "ytdkjppbemhpkmaa", sum := "e4b8022bfb3aa54ad31eb866628c64ebbacc6e0878c837c9a4259cb71d0cb85a", func := "loop.example/g03105/laws.FnExactTwistSlope", spec := "fnExactTwistSlope", apart := false }
def FnExactTwistSlopeSaid : Prop := fnExactTwistSlopeRow.holds Try.pinned (OpenSpec.ofChange fnExactTwistSlopeSpec)

/-- ITS FALSE NEIGHBOUR: 'it returns false'. Refute it at one input. -/
def fnExactTwistSlopeWrong : ChangeSpec := { name := "fnExactTwistSlope", fn := fun _ => fun
  | [d1, d2, d3] => { results := [.lit (.bool false)], args := [d1, d2, d3] }
  | _ => none }
def FnExactTwistSlopeWrongFalsely : Prop := fnExactTwistSlopeRow.holds Try.pinned (OpenSpec.ofChange fnExactTwistSlopeWrong)

/-- 'laws.FnExactTwistClass': WHATEVER THE INPUT: true; the input reads as it did. -/
def fnExactTwistClassSpec : ChangeSpec := { name := "fnExactTwistClass", fn := fun _ => fun
  | [d1, d2, d3, d4] => { results := [.lit (.bool true)], args := [d1, d2, d3, d4] }
  | _ => none }
def fnExactTwistClassRow : OpenClaim := { program := "ytdkjppbemhpkmaa", sum := "e4b8022bfb3aa54ad31eb866628c64ebbacc6e0878c837c9a4259cb71d0cb85a", func := "loop.example/g03105/laws.FnExactTwistClass", spec := "fnExactTwistClass", apart := false }
def FnExactTwistClassSaid : Prop := fnExactTwistClassRow.holds Try.pinned (OpenSpec.ofChange fnExactTwistClassSpec)

/-- ITS FALSE NEIGHBOUR: 'it returns false'. Refute it at one input. -/
def fnExactTwistClassWrong : ChangeSpec := { name := "fnExactTwistClass", fn := fun _ => fun
  | [d1, d2, d3, d4] => { results := [.lit (.bool false)], args := [d1, d2, d3, d4] }
  | _ => none }
def FnExactTwistClassWrongFalsely : Prop := fnExactTwistClassRow.holds Try.pinned (OpenSpec.ofChange fnExactTwistClassWrong)

/-- 'laws.FnExactSumSlope': WHATEVER THE INPUT: true; the input reads as it did. -/
def fnExactSumSlopeSpec : ChangeSpec := { name := "fnExactSumSlope", fn := fun _ => fun
  | [d1, d2] => { results := [.lit (.bool true)], args := [d1, d2] }
  | _ => none }
def fnExactSumSlopeRow : OpenClaim := { program := "ytdkjppbemhpkmaa", sum := "e4b8022bfb3aa54ad31eb866628c64ebbacc6e0878c837c9a4259cb71d0cb85a", func := "loop.example/g03105/laws.FnExactSumSlope", spec := "fnExactSumSlope", apart := false }
def FnExactSumSlopeSaid : Prop := fnExactSumSlopeRow.holds Try.pinned (OpenSpec.ofChange fnExactSumSlopeSpec)

/-- ITS FALSE NEIGHBOUR: 'it returns false'. Refute it at one input. -/
def fnExactSumSlopeWrong : ChangeSpec := { name := "fnExactSumSlope", fn := fun _ => fun
  | [d1, d2] => { results := [.lit (.bool false)], args := [d1, d2] }
  | _ => none }
def FnExactSumSlopeWrongFalsely : Prop := fnExactSumSlopeRow.holds Try.pinned (OpenSpec.ofChange fnExactSumSlopeWrong)

/-- 'laws.FnExactSlopeWord': WHATEVER THE INPUT: true; the input reads as it did. -/
def fnExactSlopeWordSpec : ChangeSpec := { name := "fnExactSlopeWord", fn := fun _ => fun
  | [d] => { results := [.lit (.bool true)], args := [d] }
  | _ => none }
def fnExactSlopeWordRow : OpenClaim := { program := "ytdkjppbemhpkmaa", sum := "e4b8022bfb3aa54ad31eb866628c64ebbacc6e0878c837c9a4259cb71d0cb85a", func := "loop.example/g03105/laws.FnExactSlopeWord", spec := "fnExactSlopeWord", apart := false }
def FnExactSlopeWordSaid : Prop := fnExactSlopeWordRow.holds Try.pinned (OpenSpec.ofChange fnExactSlopeWordSpec)

/-- ITS FALSE NEIGHBOUR: 'it returns false'. Refute it at one input. -/
def fnExactSlopeWordWrong : ChangeSpec := { name := "fnExactSlopeWord", fn := fun _ => fun
  | [d] => { results := [.lit (.bool false)], args := [d] }
  | _ => none }
def FnExactSlopeWordWrongFalsely : Prop := fnExactSlopeWordRow.holds Try.pinned (OpenSpec.ofChange fnExactSlopeWordWrong)

/- THE SECOND FORM. 'bulk': how many values and letters a reading holds, each counted each time it is reached (what is shared counts as often as it is met; a slice's spare places count too). A statement '..UptoSaid' is the law's where the arguments, and the package variables that the reading takes, are together of bulk at most 1048576: NARROWER than '..Said'. Prove '..Said' where nothing that the law and all that it calls make is longer than what came in: it says more and counts as full. Else prove '..UptoSaid'. A law counts once. -/
mutual
def uptoBulk {H : Type} : DataW H → Nat
  | .lit (.string bytes) => bytes.length + 1
  | .lit _ => 1
  | .nil => 1
  | .ptr d => uptoBulk d + 1
  | .slice elems spare => uptoBulkAll elems + uptoBulkAll spare + 1
  | .agg parts => uptoBulkAll parts + 1
  | .iface _ d => uptoBulk d + 1
  | .map entries => uptoBulkEntries entries + 1
  | .held _ => 1
def uptoBulkAll {H : Type} : List (DataW H) → Nat
  | [] => 0
  | d :: r => uptoBulk d + uptoBulkAll r
def uptoBulkEntries {H : Type} : List (Lit × DataW H) → Nat
  | [] => 0
  | x :: r => uptoBulkEntry x + uptoBulkEntries r
def uptoBulkEntry {H : Type} : Lit × DataW H → Nat
  | (.string bytes, d) => bytes.length + uptoBulk d + 1
  | (_, d) => uptoBulk d + 1
 end
def uptoSmall : (H : Type) → List (DataW H) → Bool := fun _ ds => decide (uptoBulkAll ds ≤ 1048576)
def OpenSpec.upto (s : _root_.Go.ChangeSpec) : _root_.Go.OpenSpec := { _root_.Go.OpenSpec.ofChange s with cond := some uptoSmall }

/-- 'laws.FnExactIsClass', WHERE WHAT IT READS IS OF BULK AT MOST 1048576: true; the input reads as it did. -/
def fnExactIsClassUptoRow : OpenClaim := { program := "ytdkjppbemhpkmaa", sum := "e4b8022bfb3aa54ad31eb866628c64ebbacc6e0878c837c9a4259cb71d0cb85a", func := "loop.example/g03105/laws.FnExactIsClass", spec := "fnExactIsClass", apart := false, narrowed := true }
def FnExactIsClassUptoSaid : Prop := fnExactIsClassUptoRow.holds Try.pinned (OpenSpec.upto fnExactIsClassSpec)

/-- 'laws.FnExactIsSlope', WHERE WHAT IT READS IS OF BULK AT MOST 1048576: true; the input reads as it did. -/
def fnExactIsSlopeUptoRow : OpenClaim := { program := "ytdkjppbemhpkmaa", sum := "e4b8022bfb3aa54ad31eb866628c64ebbacc6e0878c837c9a4259cb71d0cb85a", func := "loop.example/g03105/laws.FnExactIsSlope", spec := "fnExactIsSlope", apart := false, narrowed := true }
def FnExactIsSlopeUptoSaid : Prop := fnExactIsSlopeUptoRow.holds Try.pinned (OpenSpec.upto fnExactIsSlopeSpec)

/-- 'laws.FnExactRelator', WHERE WHAT IT READS IS OF BULK AT MOST 1048576: true; the input reads as it did. -/
def fnExactRelatorUptoRow : OpenClaim := { program := "ytdkjppbemhpkmaa", sum := "e4b8022bfb3aa54ad31eb866628c64ebbacc6e0878c837c9a4259cb71d0cb85a", func := "loop.example/g03105/laws.FnExactRelator", spec := "fnExactRelator", apart := false, narrowed := true }
def FnExactRelatorUptoSaid : Prop := fnExactRelatorUptoRow.holds Try.pinned (OpenSpec.upto fnExactRelatorSpec)

/-- 'laws.FnExactCrossNumber', WHERE WHAT IT READS IS OF BULK AT MOST 1048576: true; the input reads as it did. -/
def fnExactCrossNumberUptoRow : OpenClaim := { program := "ytdkjppbemhpkmaa", sum := "e4b8022bfb3aa54ad31eb866628c64ebbacc6e0878c837c9a4259cb71d0cb85a", func := "loop.example/g03105/laws.FnExactCrossNumber", spec := "fnExactCrossNumber", apart := false, narrowed := true }
def FnExactCrossNumberUptoSaid : Prop := fnExactCrossNumberUptoRow.holds Try.pinned (OpenSpec.upto fnExactCrossNumberSpec)

/-- 'laws.FnExactSlopeOf', WHERE WHAT IT READS IS OF BULK AT MOST 1048576: true; the input reads as it did. -/
def fnExactSlopeOfUptoRow : OpenClaim := { program := "ytdkjppbemhpkmaa", sum := "e4b8022bfb3aa54ad31eb866628c64ebbacc6e0878c837c9a4259cb71d0cb85a", func := "loop.example/g03105/laws.FnExactSlopeOf", spec := "fnExactSlopeOf", apart := false, narrowed := true }
def FnExactSlopeOfUptoSaid : Prop := fnExactSlopeOfUptoRow.holds Try.pinned (OpenSpec.upto fnExactSlopeOfSpec)

/-- 'laws.FnExactIsBasisPair', WHERE WHAT IT READS IS OF BULK AT MOST 1048576: true; the input reads as it did. -/
def fnExactIsBasisPairUptoRow : OpenClaim := { program := "ytdkjppbemhpkmaa", sum := "e4b8022bfb3aa54ad31eb866628c64ebbacc6e0878c837c9a4259cb71d0cb85a", func := "loop.example/g03105/laws.FnExactIsBasisPair", spec := "fnExactIsBasisPair", apart := false, narrowed := true }
def FnExactIsBasisPairUptoSaid : Prop := fnExactIsBasisPairUptoRow.holds Try.pinned (OpenSpec.upto fnExactIsBasisPairSpec)

/-- 'laws.FnExactFormOf', WHERE WHAT IT READS IS OF BULK AT MOST 1048576: true; the input reads as it did. -/
def fnExactFormOfUptoRow : OpenClaim := { program := "ytdkjppbemhpkmaa", sum := "e4b8022bfb3aa54ad31eb866628c64ebbacc6e0878c837c9a4259cb71d0cb85a", func := "loop.example/g03105/laws.FnExactFormOf", spec := "fnExactFormOf", apart := false, narrowed := true }
def FnExactFormOfUptoSaid : Prop := fnExactFormOfUptoRow.holds Try.pinned (OpenSpec.upto fnExactFormOfSpec)

/-- 'laws.FnExactIsPrimitiveClass', WHERE WHAT IT READS IS OF BULK AT MOST 1048576: true; the input reads as it did. -/
def fnExactIsPrimitiveClassUptoRow : OpenClaim := { program := "ytdkjppbemhpkmaa", sum := "e4b8022bfb3aa54ad31eb866628c64ebbacc6e0878c837c9a4259cb71d0cb85a", func := "loop.example/g03105/laws.FnExactIsPrimitiveClass", spec := "fnExactIsPrimitiveClass", apart := false, narrowed := true }
def FnExactIsPrimitiveClassUptoSaid : Prop := fnExactIsPrimitiveClassUptoRow.holds Try.pinned (OpenSpec.upto fnExactIsPrimitiveClassSpec)

/-- 'laws.FnExactTwistSlope', WHERE WHAT IT READS IS OF BULK AT MOST 1048576: true; the input reads as it did. -/
def fnExactTwistSlopeUptoRow : OpenClaim := { program := "ytdkjppbemhpkmaa", sum := "e4b8022bfb3aa54ad31eb866628c64ebbacc6e0878c837c9a4259cb71d0cb85a", func := "loop.example/g03105/laws.FnExactTwistSlope", spec := "fnExactTwistSlope", apart := false, narrowed := true }
def FnExactTwistSlopeUptoSaid : Prop := fnExactTwistSlopeUptoRow.holds Try.pinned (OpenSpec.upto fnExactTwistSlopeSpec)

/-- 'laws.FnExactTwistClass', WHERE WHAT IT READS IS OF BULK AT MOST 1048576: true; the input reads as it did. -/
def fnExactTwistClassUptoRow : OpenClaim := { program := "ytdkjppbemhpkmaa", sum := "e4b8022bfb3aa54ad31eb866628c64ebbacc6e0878c837c9a4259cb71d0cb85a", func := "loop.example/g03105/laws.FnExactTwistClass", spec := "fnExactTwistClass", apart := false, narrowed := true }
def FnExactTwistClassUptoSaid : Prop := fnExactTwistClassUptoRow.holds Try.pinned (OpenSpec.upto fnExactTwistClassSpec)

/-- 'laws.FnExactSumSlope', WHERE WHAT IT READS IS OF BULK AT MOST 1048576: true; the input reads as it did. -/
def fnExactSumSlopeUptoRow : OpenClaim := { program := "ytdkjppbemhpkmaa", sum := "e4b8022bfb3aa54ad31eb866628c64ebbacc6e0878c837c9a4259cb71d0cb85a", func := "loop.example/g03105/laws.FnExactSumSlope", spec := "fnExactSumSlope", apart := false, narrowed := true }
def FnExactSumSlopeUptoSaid : Prop := fnExactSumSlopeUptoRow.holds Try.pinned (OpenSpec.upto fnExactSumSlopeSpec)

/-- 'laws.FnExactSlopeWord', WHERE WHAT IT READS IS OF BULK AT MOST 1048576: true; the input reads as it did. -/
def fnExactSlopeWordUptoRow : OpenClaim := { program := "ytdkjppbemhpkmaa", sum := "e4b8022bfb3aa54ad31eb866628c64ebbacc6e0878c837c9a4259cb71d0cb85a", func := "loop.example/g03105/laws.FnExactSlopeWord", spec := "fnExactSlopeWord", apart := false, narrowed := true }
def FnExactSlopeWordUptoSaid : Prop := fnExactSlopeWordUptoRow.holds Try.pinned (OpenSpec.upto fnExactSlopeWordSpec)

end Rows
end Go.Proofs.Ytdkjppbemhpkmaa
