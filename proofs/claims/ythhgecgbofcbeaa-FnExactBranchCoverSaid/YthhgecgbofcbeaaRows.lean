/-
  No cell of these rows narrows 'for every input' (looked for: loops, veiled, ifaces, maps, wideKeys, modest, calm, conditions, laid).
  DERIVED. THE GIVEN ROWS OF THIS SEAT. 8 by the template 'for every input the law returns true; each argument reads behind the call as it read before'; 0 by the template 'total and deterministic' (their statements: YthhgecgbofcbeaaTotals.lean).
  GIVEN WITH THE SEED: the statements are not yours to turn. If you find one false, say at which input.
  Laid BY PROGRAM, IN A SANDBOX (cutbox-rows.mjs): the forced cells as the released guide's own fill.sh prints them over the translation fc3982fb90b08605… (all of the seat's roots in one cut). By AI agents, Wed Nov 11 2026. No macro, syntax, notation, axiom, sorry.
-/
import Derived.Test.YthhgecgbofcbeaaChecked
import GoSem.Claim
import GoSem.ClaimJoined
import GoSem.ClaimMapViews
import Derived.JoinedTies
import Derived.KernelRfl
namespace Go.Proofs.Ythhgecgbofcbeaa
/- THE CELL 'sum', in the pinned program and in every row, IS THE sha256 OF THE DUMP (.gsa) THAT YthhgecgbofcbeaaProg.lean LOADS. Nothing in Lean hashes anything: it is a label: what it is worth is what the hold of that sum in a sandbox is worth. -/
noncomputable def Try.pinned : Pinned := { name := "ythhgecgbofcbeaa", sum := "fc3982fb90b08605d841371b145953e694e5576b985be2aad948a9316b1712fa", checked := Try.checked }
namespace Rows
def none {H : Type} : Left H := { results := [], args := [] }

/-- 'laws.FnExactCommuteIn': WHATEVER THE INPUT: true; the input reads as it did. -/
def fnExactCommuteInSpec : ChangeSpec := { name := "fnExactCommuteIn", fn := fun _ => fun
  | [d1, d2, d3] => { results := [.lit (.bool true)], args := [d1, d2, d3] }
  | _ => none }
def fnExactCommuteInRow : OpenClaim := { program := "ythhgecgbofcbeaa", sum := "fc3982fb90b08605d841371b145953e694e5576b985be2aad948a9316b1712fa", func := "loop.example/g03105/laws.FnExactCommuteIn", spec := "fnExactCommuteIn", apart := false }
def FnExactCommuteInSaid : Prop := fnExactCommuteInRow.holds Try.pinned (OpenSpec.ofChange fnExactCommuteInSpec)

/-- ITS FALSE NEIGHBOUR: 'it returns false'. Refute it at one input. -/
def fnExactCommuteInWrong : ChangeSpec := { name := "fnExactCommuteIn", fn := fun _ => fun
  | [d1, d2, d3] => { results := [.lit (.bool false)], args := [d1, d2, d3] }
  | _ => none }
def FnExactCommuteInWrongFalsely : Prop := fnExactCommuteInRow.holds Try.pinned (OpenSpec.ofChange fnExactCommuteInWrong)

/-- 'laws.FnExactLiftLengths': WHATEVER THE INPUT: true; the input reads as it did. -/
def fnExactLiftLengthsSpec : ChangeSpec := { name := "fnExactLiftLengths", fn := fun _ => fun
  | [d1, d2] => { results := [.lit (.bool true)], args := [d1, d2] }
  | _ => none }
def fnExactLiftLengthsRow : OpenClaim := { program := "ythhgecgbofcbeaa", sum := "fc3982fb90b08605d841371b145953e694e5576b985be2aad948a9316b1712fa", func := "loop.example/g03105/laws.FnExactLiftLengths", spec := "fnExactLiftLengths", apart := false }
def FnExactLiftLengthsSaid : Prop := fnExactLiftLengthsRow.holds Try.pinned (OpenSpec.ofChange fnExactLiftLengthsSpec)

/-- ITS FALSE NEIGHBOUR: 'it returns false'. Refute it at one input. -/
def fnExactLiftLengthsWrong : ChangeSpec := { name := "fnExactLiftLengths", fn := fun _ => fun
  | [d1, d2] => { results := [.lit (.bool false)], args := [d1, d2] }
  | _ => none }
def FnExactLiftLengthsWrongFalsely : Prop := fnExactLiftLengthsRow.holds Try.pinned (OpenSpec.ofChange fnExactLiftLengthsWrong)

/-- 'laws.FnExactBraidHolds': WHATEVER THE INPUT: true; the input reads as it did. -/
def fnExactBraidHoldsSpec : ChangeSpec := { name := "fnExactBraidHolds", fn := fun _ => fun
  | [d1, d2, d3] => { results := [.lit (.bool true)], args := [d1, d2, d3] }
  | _ => none }
def fnExactBraidHoldsRow : OpenClaim := { program := "ythhgecgbofcbeaa", sum := "fc3982fb90b08605d841371b145953e694e5576b985be2aad948a9316b1712fa", func := "loop.example/g03105/laws.FnExactBraidHolds", spec := "fnExactBraidHolds", apart := false }
def FnExactBraidHoldsSaid : Prop := fnExactBraidHoldsRow.holds Try.pinned (OpenSpec.ofChange fnExactBraidHoldsSpec)

/-- ITS FALSE NEIGHBOUR: 'it returns false'. Refute it at one input. -/
def fnExactBraidHoldsWrong : ChangeSpec := { name := "fnExactBraidHolds", fn := fun _ => fun
  | [d1, d2, d3] => { results := [.lit (.bool false)], args := [d1, d2, d3] }
  | _ => none }
def FnExactBraidHoldsWrongFalsely : Prop := fnExactBraidHoldsRow.holds Try.pinned (OpenSpec.ofChange fnExactBraidHoldsWrong)

/-- 'laws.FnExactCycleTypes': WHATEVER THE INPUT: true; the input reads as it did. -/
def fnExactCycleTypesSpec : ChangeSpec := { name := "fnExactCycleTypes", fn := fun _ => fun
  | [d] => { results := [.lit (.bool true)], args := [d] }
  | _ => none }
def fnExactCycleTypesRow : OpenClaim := { program := "ythhgecgbofcbeaa", sum := "fc3982fb90b08605d841371b145953e694e5576b985be2aad948a9316b1712fa", func := "loop.example/g03105/laws.FnExactCycleTypes", spec := "fnExactCycleTypes", apart := false }
def FnExactCycleTypesSaid : Prop := fnExactCycleTypesRow.holds Try.pinned (OpenSpec.ofChange fnExactCycleTypesSpec)

/-- ITS FALSE NEIGHBOUR: 'it returns false'. Refute it at one input. -/
def fnExactCycleTypesWrong : ChangeSpec := { name := "fnExactCycleTypes", fn := fun _ => fun
  | [d] => { results := [.lit (.bool false)], args := [d] }
  | _ => none }
def FnExactCycleTypesWrongFalsely : Prop := fnExactCycleTypesRow.holds Try.pinned (OpenSpec.ofChange fnExactCycleTypesWrong)

/-- 'laws.FnExactSheetSymmetries': WHATEVER THE INPUT: true; the input reads as it did. -/
def fnExactSheetSymmetriesSpec : ChangeSpec := { name := "fnExactSheetSymmetries", fn := fun _ => fun
  | [d] => { results := [.lit (.bool true)], args := [d] }
  | _ => none }
def fnExactSheetSymmetriesRow : OpenClaim := { program := "ythhgecgbofcbeaa", sum := "fc3982fb90b08605d841371b145953e694e5576b985be2aad948a9316b1712fa", func := "loop.example/g03105/laws.FnExactSheetSymmetries", spec := "fnExactSheetSymmetries", unfollowed := true, recurses := true, apart := false }
def FnExactSheetSymmetriesSaid : Prop := fnExactSheetSymmetriesRow.holds Try.pinned (OpenSpec.ofChange fnExactSheetSymmetriesSpec)

/-- ITS FALSE NEIGHBOUR: 'it returns false'. Refute it at one input. -/
def fnExactSheetSymmetriesWrong : ChangeSpec := { name := "fnExactSheetSymmetries", fn := fun _ => fun
  | [d] => { results := [.lit (.bool false)], args := [d] }
  | _ => none }
def FnExactSheetSymmetriesWrongFalsely : Prop := fnExactSheetSymmetriesRow.holds Try.pinned (OpenSpec.ofChange fnExactSheetSymmetriesWrong)

/-- 'laws.FnExactSheetParts': WHATEVER THE INPUT: true; the input reads as it did. -/
def fnExactSheetPartsSpec : ChangeSpec := { name := "fnExactSheetParts", fn := fun _ => fun
  | [d] => { results := [.lit (.bool true)], args := [d] }
  | _ => none }
def fnExactSheetPartsRow : OpenClaim := { program := "ythhgecgbofcbeaa", sum := "fc3982fb90b08605d841371b145953e694e5576b985be2aad948a9316b1712fa", func := "loop.example/g03105/laws.FnExactSheetParts", spec := "fnExactSheetParts", apart := false }
def FnExactSheetPartsSaid : Prop := fnExactSheetPartsRow.holds Try.pinned (OpenSpec.ofChange fnExactSheetPartsSpec)

/-- ITS FALSE NEIGHBOUR: 'it returns false'. Refute it at one input. -/
def fnExactSheetPartsWrong : ChangeSpec := { name := "fnExactSheetParts", fn := fun _ => fun
  | [d] => { results := [.lit (.bool false)], args := [d] }
  | _ => none }
def FnExactSheetPartsWrongFalsely : Prop := fnExactSheetPartsRow.holds Try.pinned (OpenSpec.ofChange fnExactSheetPartsWrong)

/-- 'laws.FnExactCoverOf': WHATEVER THE INPUT: true; the input reads as it did. -/
def fnExactCoverOfSpec : ChangeSpec := { name := "fnExactCoverOf", fn := fun _ => fun
  | [d1, d2] => { results := [.lit (.bool true)], args := [d1, d2] }
  | _ => none }
def fnExactCoverOfRow : OpenClaim := { program := "ythhgecgbofcbeaa", sum := "fc3982fb90b08605d841371b145953e694e5576b985be2aad948a9316b1712fa", func := "loop.example/g03105/laws.FnExactCoverOf", spec := "fnExactCoverOf", apart := false }
def FnExactCoverOfSaid : Prop := fnExactCoverOfRow.holds Try.pinned (OpenSpec.ofChange fnExactCoverOfSpec)

/-- ITS FALSE NEIGHBOUR: 'it returns false'. Refute it at one input. -/
def fnExactCoverOfWrong : ChangeSpec := { name := "fnExactCoverOf", fn := fun _ => fun
  | [d1, d2] => { results := [.lit (.bool false)], args := [d1, d2] }
  | _ => none }
def FnExactCoverOfWrongFalsely : Prop := fnExactCoverOfRow.holds Try.pinned (OpenSpec.ofChange fnExactCoverOfWrong)

/-- 'laws.FnExactBranchCover': WHATEVER THE INPUT: true; the input reads as it did. -/
def fnExactBranchCoverSpec : ChangeSpec := { name := "fnExactBranchCover", fn := fun _ => fun
  | [d] => { results := [.lit (.bool true)], args := [d] }
  | _ => none }
def fnExactBranchCoverRow : OpenClaim := { program := "ythhgecgbofcbeaa", sum := "fc3982fb90b08605d841371b145953e694e5576b985be2aad948a9316b1712fa", func := "loop.example/g03105/laws.FnExactBranchCover", spec := "fnExactBranchCover", apart := false }
def FnExactBranchCoverSaid : Prop := fnExactBranchCoverRow.holds Try.pinned (OpenSpec.ofChange fnExactBranchCoverSpec)

/-- ITS FALSE NEIGHBOUR: 'it returns false'. Refute it at one input. -/
def fnExactBranchCoverWrong : ChangeSpec := { name := "fnExactBranchCover", fn := fun _ => fun
  | [d] => { results := [.lit (.bool false)], args := [d] }
  | _ => none }
def FnExactBranchCoverWrongFalsely : Prop := fnExactBranchCoverRow.holds Try.pinned (OpenSpec.ofChange fnExactBranchCoverWrong)

/- THE SECOND FORM. 'bulk': how many values and letters a reading holds, each counted each time it is reached (what is shared counts as often as it is met; a slice's spare places count too). A statement '..UptoSaid' is the law's where the arguments, and the package variables that the reading takes, are together of bulk at most 1048576: NARROWER than '..Said'. Prove '..Said' where nothing that the law and all that it calls make is longer than what came in: it says more and counts as full. Else prove '..UptoSaid'. A law counts once. -/
mutual
def uptoBulk {H : Type} : DataW H → Nat
  | .lit (.string bytes) => bytes.length + 1
  | .lit _ => 1
  | .nil => 1
  | .ptr d => uptoBulk d + 1
  | .slice elems spare => uptoBulkAll elems + uptoBulkAll spare + 1
  | .agg parts => uptoBulkAll parts + 1
  | .iface _ d => uptoBulk d + 1
  | .map entries => uptoBulkEntries entries + 1
  | .held _ => 1
def uptoBulkAll {H : Type} : List (DataW H) → Nat
  | [] => 0
  | d :: r => uptoBulk d + uptoBulkAll r
def uptoBulkEntries {H : Type} : List (Lit × DataW H) → Nat
  | [] => 0
  | x :: r => uptoBulkEntry x + uptoBulkEntries r
def uptoBulkEntry {H : Type} : Lit × DataW H → Nat
  | (.string bytes, d) => bytes.length + uptoBulk d + 1
  | (_, d) => uptoBulk d + 1
 end
def uptoSmall : (H : Type) → List (DataW H) → Bool := fun _ ds => decide (uptoBulkAll ds ≤ 1048576)
def OpenSpec.upto (s : _root_.Go.ChangeSpec) : _root_.Go.OpenSpec := { _root_.Go.OpenSpec.ofChange s with cond := some uptoSmall }

/-- 'laws.FnExactCommuteIn', WHERE WHAT IT READS IS OF BULK AT MOST 1048576: true; the input reads as it did. -/
def fnExactCommuteInUptoRow : OpenClaim := { program := "ythhgecgbofcbeaa", sum := "fc3982fb90b08605d841371b145953e694e5576b985be2aad948a9316b1712fa", func := "loop.example/g03105/laws.FnExactCommuteIn", spec := "fnExactCommuteIn", apart := false, narrowed := true }
def FnExactCommuteInUptoSaid : Prop := fnExactCommuteInUptoRow.holds Try.pinned (OpenSpec.upto fnExactCommuteInSpec)

/-- 'laws.FnExactLiftLengths', WHERE WHAT IT READS IS OF BULK AT MOST 1048576: true; the input reads as it did. -/
def fnExactLiftLengthsUptoRow : OpenClaim := { program := "ythhgecgbofcbeaa", sum := "fc3982fb90b08605d841371b145953e694e5576b985be2aad948a9316b1712fa", func := "loop.example/g03105/laws.FnExactLiftLengths", spec := "fnExactLiftLengths", apart := false, narrowed := true }
def FnExactLiftLengthsUptoSaid : Prop := fnExactLiftLengthsUptoRow.holds Try.pinned (OpenSpec.upto fnExactLiftLengthsSpec)

/-- 'laws.FnExactBraidHolds', WHERE WHAT IT READS IS OF BULK AT MOST 1048576: true; the input reads as it did. -/
def fnExactBraidHoldsUptoRow : OpenClaim := { program := "ythhgecgbofcbeaa", sum := "fc3982fb90b08605d841371b145953e694e5576b985be2aad948a9316b1712fa", func := "loop.example/g03105/laws.FnExactBraidHolds", spec := "fnExactBraidHolds", apart := false, narrowed := true }
def FnExactBraidHoldsUptoSaid : Prop := fnExactBraidHoldsUptoRow.holds Try.pinned (OpenSpec.upto fnExactBraidHoldsSpec)

/-- 'laws.FnExactCycleTypes', WHERE WHAT IT READS IS OF BULK AT MOST 1048576: true; the input reads as it did. -/
def fnExactCycleTypesUptoRow : OpenClaim := { program := "ythhgecgbofcbeaa", sum := "fc3982fb90b08605d841371b145953e694e5576b985be2aad948a9316b1712fa", func := "loop.example/g03105/laws.FnExactCycleTypes", spec := "fnExactCycleTypes", apart := false, narrowed := true }
def FnExactCycleTypesUptoSaid : Prop := fnExactCycleTypesUptoRow.holds Try.pinned (OpenSpec.upto fnExactCycleTypesSpec)

/-- 'laws.FnExactSheetSymmetries', WHERE WHAT IT READS IS OF BULK AT MOST 1048576: true; the input reads as it did. -/
def fnExactSheetSymmetriesUptoRow : OpenClaim := { program := "ythhgecgbofcbeaa", sum := "fc3982fb90b08605d841371b145953e694e5576b985be2aad948a9316b1712fa", func := "loop.example/g03105/laws.FnExactSheetSymmetries", spec := "fnExactSheetSymmetries", unfollowed := true, recurses := true, apart := false, narrowed := true }
def FnExactSheetSymmetriesUptoSaid : Prop := fnExactSheetSymmetriesUptoRow.holds Try.pinned (OpenSpec.upto fnExactSheetSymmetriesSpec)

/-- 'laws.FnExactSheetParts', WHERE WHAT IT READS IS OF BULK AT MOST 1048576: true; the input reads as it did. -/
def fnExactSheetPartsUptoRow : OpenClaim := { program := "ythhgecgbofcbeaa", sum := "fc3982fb90b08605d841371b145953e694e5576b985be2aad948a9316b1712fa", func := "loop.example/g03105/laws.FnExactSheetParts", spec := "fnExactSheetParts", apart := false, narrowed := true }
def FnExactSheetPartsUptoSaid : Prop := fnExactSheetPartsUptoRow.holds Try.pinned (OpenSpec.upto fnExactSheetPartsSpec)

/-- 'laws.FnExactCoverOf', WHERE WHAT IT READS IS OF BULK AT MOST 1048576: true; the input reads as it did. -/
def fnExactCoverOfUptoRow : OpenClaim := { program := "ythhgecgbofcbeaa", sum := "fc3982fb90b08605d841371b145953e694e5576b985be2aad948a9316b1712fa", func := "loop.example/g03105/laws.FnExactCoverOf", spec := "fnExactCoverOf", apart := false, narrowed := true }
def FnExactCoverOfUptoSaid : Prop := fnExactCoverOfUptoRow.holds Try.pinned (OpenSpec.upto fnExactCoverOfSpec)

/-- 'laws.FnExactBranchCover', WHERE WHAT IT READS IS OF BULK AT MOST 1048576: true; the input reads as it did. -/
def fnExactBranchCoverUptoRow : OpenClaim := { program := "ythhgecgbofcbeaa", sum := "fc3982fb90b08605d841371b145953e694e5576b985be2aad948a9316b1712fa", func := "loop.example/g03105/laws.FnExactBranchCover", spec := "fnExactBranchCover", apart := false, narrowed := true }
def FnExactBranchCoverUptoSaid : Prop := fnExactBranchCoverUptoRow.holds Try.pinned (OpenSpec.upto fnExactBranchCoverSpec)

end Rows
end Go.Proofs.Ythhgecgbofcbeaa
