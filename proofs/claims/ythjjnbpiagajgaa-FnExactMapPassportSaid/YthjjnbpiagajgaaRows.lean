/-
  No cell of these rows narrows 'for every input' (looked for: loops, veiled, ifaces, maps, wideKeys, modest, calm, conditions, laid).
  DERIVED. THE GIVEN ROWS OF THIS SEAT. 12 by the template 'for every input the law returns true; each argument reads behind the call as it read before'; 0 by the template 'total and deterministic' (their statements: YthjjnbpiagajgaaTotals.lean).
  GIVEN WITH THE SEED: the statements are not yours to turn. If you find one false, say at which input.
  Laid BY PROGRAM, IN A SANDBOX (cutbox-rows.mjs): the forced cells as the released guide's own fill.sh prints them over the translation 98ca8963425cad88… (all of the seat's roots in one cut). By AI agents, Wed Nov 11 2026. No macro, syntax, notation, axiom, sorry.
-/
import Derived.Test.YthjjnbpiagajgaaChecked
import GoSem.Claim
import GoSem.ClaimJoined
import GoSem.ClaimMapViews
import Derived.JoinedTies
import Derived.KernelRfl
namespace Go.Proofs.Ythjjnbpiagajgaa
/- THE CELL 'sum', in the pinned program and in every row, IS THE sha256 OF THE DUMP (.gsa) THAT YthjjnbpiagajgaaProg.lean LOADS. Nothing in Lean hashes anything: it is a label: what it is worth is what the hold of that sum in a sandbox is worth. -/
noncomputable def Try.pinned : Pinned := { name := "ythjjnbpiagajgaa", sum := "98ca8963425cad88896da40dbdbf6231cbcb5e2733b8c012e97ecd979a14ce77", checked := Try.checked }
namespace Rows
def none {H : Type} : Left H := { results := [], args := [] }

/-- 'laws.FnExactIsPassport': WHATEVER THE INPUT: true; the input reads as it did. -/
def fnExactIsPassportSpec : ChangeSpec := { name := "fnExactIsPassport", fn := fun _ => fun
  | [d] => { results := [.lit (.bool true)], args := [d] }
  | _ => none }
def fnExactIsPassportRow : OpenClaim := { program := "ythjjnbpiagajgaa", sum := "98ca8963425cad88896da40dbdbf6231cbcb5e2733b8c012e97ecd979a14ce77", func := "loop.example/g03105/laws.FnExactIsPassport", spec := "fnExactIsPassport", apart := false }
def FnExactIsPassportSaid : Prop := fnExactIsPassportRow.holds Try.pinned (OpenSpec.ofChange fnExactIsPassportSpec)

/-- ITS FALSE NEIGHBOUR: 'it returns false'. Refute it at one input. -/
def fnExactIsPassportWrong : ChangeSpec := { name := "fnExactIsPassport", fn := fun _ => fun
  | [d] => { results := [.lit (.bool false)], args := [d] }
  | _ => none }
def FnExactIsPassportWrongFalsely : Prop := fnExactIsPassportRow.holds Try.pinned (OpenSpec.ofChange fnExactIsPassportWrong)

/-- 'laws.FnExactActWord': WHATEVER THE INPUT: true; the input reads as it did. -/
def fnExactActWordSpec : ChangeSpec := { name := "fnExactActWord", fn := fun _ => fun
  | [d1, d2] => { results := [.lit (.bool true)], args := [d1, d2] }
  | _ => none }
def fnExactActWordRow : OpenClaim := { program := "ythjjnbpiagajgaa", sum := "98ca8963425cad88896da40dbdbf6231cbcb5e2733b8c012e97ecd979a14ce77", func := "loop.example/g03105/laws.FnExactActWord", spec := "fnExactActWord", apart := false }
def FnExactActWordSaid : Prop := fnExactActWordRow.holds Try.pinned (OpenSpec.ofChange fnExactActWordSpec)

/-- ITS FALSE NEIGHBOUR: 'it returns false'. Refute it at one input. -/
def fnExactActWordWrong : ChangeSpec := { name := "fnExactActWord", fn := fun _ => fun
  | [d1, d2] => { results := [.lit (.bool false)], args := [d1, d2] }
  | _ => none }
def FnExactActWordWrongFalsely : Prop := fnExactActWordRow.holds Try.pinned (OpenSpec.ofChange fnExactActWordWrong)

/-- 'laws.FnExactIsAction': WHATEVER THE INPUT: true; the input reads as it did. -/
def fnExactIsActionSpec : ChangeSpec := { name := "fnExactIsAction", fn := fun _ => fun
  | [d1, d2] => { results := [.lit (.bool true)], args := [d1, d2] }
  | _ => none }
def fnExactIsActionRow : OpenClaim := { program := "ythjjnbpiagajgaa", sum := "98ca8963425cad88896da40dbdbf6231cbcb5e2733b8c012e97ecd979a14ce77", func := "loop.example/g03105/laws.FnExactIsAction", spec := "fnExactIsAction", apart := false }
def FnExactIsActionSaid : Prop := fnExactIsActionRow.holds Try.pinned (OpenSpec.ofChange fnExactIsActionSpec)

/-- ITS FALSE NEIGHBOUR: 'it returns false'. Refute it at one input. -/
def fnExactIsActionWrong : ChangeSpec := { name := "fnExactIsAction", fn := fun _ => fun
  | [d1, d2] => { results := [.lit (.bool false)], args := [d1, d2] }
  | _ => none }
def FnExactIsActionWrongFalsely : Prop := fnExactIsActionRow.holds Try.pinned (OpenSpec.ofChange fnExactIsActionWrong)

/-- 'laws.FnExactDehnStep': WHATEVER THE INPUT: true; the input reads as it did. -/
def fnExactDehnStepSpec : ChangeSpec := { name := "fnExactDehnStep", fn := fun _ => fun
  | [d1, d2] => { results := [.lit (.bool true)], args := [d1, d2] }
  | _ => none }
def fnExactDehnStepRow : OpenClaim := { program := "ythjjnbpiagajgaa", sum := "98ca8963425cad88896da40dbdbf6231cbcb5e2733b8c012e97ecd979a14ce77", func := "loop.example/g03105/laws.FnExactDehnStep", spec := "fnExactDehnStep", apart := false }
def FnExactDehnStepSaid : Prop := fnExactDehnStepRow.holds Try.pinned (OpenSpec.ofChange fnExactDehnStepSpec)

/-- ITS FALSE NEIGHBOUR: 'it returns false'. Refute it at one input. -/
def fnExactDehnStepWrong : ChangeSpec := { name := "fnExactDehnStep", fn := fun _ => fun
  | [d1, d2] => { results := [.lit (.bool false)], args := [d1, d2] }
  | _ => none }
def FnExactDehnStepWrongFalsely : Prop := fnExactDehnStepRow.holds Try.pinned (OpenSpec.ofChange fnExactDehnStepWrong)

/-- 'laws.FnExactMapPassport': WHATEVER THE INPUT: true; the input reads as it did. -/
def fnExactMapPassportSpec : ChangeSpec := { name := "fnExactMapPassport", fn := fun _ => fun
  | [d] => { results := [.lit (.bool true)], args := [d] }
  | _ => none }
def fnExactMapPassportRow : OpenClaim := { program := "ythjjnbpiagajgaa", sum := "98ca8963425cad88896da40dbdbf6231cbcb5e2733b8c012e97ecd979a14ce77", func := "loop.example/g03105/laws.FnExactMapPassport", spec := "fnExactMapPassport", apart := false }
def FnExactMapPassportSaid : Prop := fnExactMapPassportRow.holds Try.pinned (OpenSpec.ofChange fnExactMapPassportSpec)

/-- ITS FALSE NEIGHBOUR: 'it returns false'. Refute it at one input. -/
def fnExactMapPassportWrong : ChangeSpec := { name := "fnExactMapPassport", fn := fun _ => fun
  | [d] => { results := [.lit (.bool false)], args := [d] }
  | _ => none }
def FnExactMapPassportWrongFalsely : Prop := fnExactMapPassportRow.holds Try.pinned (OpenSpec.ofChange fnExactMapPassportWrong)

/-- 'laws.FnExactCloseUp': WHATEVER THE INPUT: true; the input reads as it did. -/
def fnExactCloseUpSpec : ChangeSpec := { name := "fnExactCloseUp", fn := fun _ => fun
  | [d] => { results := [.lit (.bool true)], args := [d] }
  | _ => none }
def fnExactCloseUpRow : OpenClaim := { program := "ythjjnbpiagajgaa", sum := "98ca8963425cad88896da40dbdbf6231cbcb5e2733b8c012e97ecd979a14ce77", func := "loop.example/g03105/laws.FnExactCloseUp", spec := "fnExactCloseUp", apart := false }
def FnExactCloseUpSaid : Prop := fnExactCloseUpRow.holds Try.pinned (OpenSpec.ofChange fnExactCloseUpSpec)

/-- ITS FALSE NEIGHBOUR: 'it returns false'. Refute it at one input. -/
def fnExactCloseUpWrong : ChangeSpec := { name := "fnExactCloseUp", fn := fun _ => fun
  | [d] => { results := [.lit (.bool false)], args := [d] }
  | _ => none }
def FnExactCloseUpWrongFalsely : Prop := fnExactCloseUpRow.holds Try.pinned (OpenSpec.ofChange fnExactCloseUpWrong)

/-- 'laws.FnExactDehnWord': WHATEVER THE INPUT: true; the input reads as it did. -/
def fnExactDehnWordSpec : ChangeSpec := { name := "fnExactDehnWord", fn := fun _ => fun
  | [d1, d2] => { results := [.lit (.bool true)], args := [d1, d2] }
  | _ => none }
def fnExactDehnWordRow : OpenClaim := { program := "ythjjnbpiagajgaa", sum := "98ca8963425cad88896da40dbdbf6231cbcb5e2733b8c012e97ecd979a14ce77", func := "loop.example/g03105/laws.FnExactDehnWord", spec := "fnExactDehnWord", apart := false }
def FnExactDehnWordSaid : Prop := fnExactDehnWordRow.holds Try.pinned (OpenSpec.ofChange fnExactDehnWordSpec)

/-- ITS FALSE NEIGHBOUR: 'it returns false'. Refute it at one input. -/
def fnExactDehnWordWrong : ChangeSpec := { name := "fnExactDehnWord", fn := fun _ => fun
  | [d1, d2] => { results := [.lit (.bool false)], args := [d1, d2] }
  | _ => none }
def FnExactDehnWordWrongFalsely : Prop := fnExactDehnWordRow.holds Try.pinned (OpenSpec.ofChange fnExactDehnWordWrong)

/-- 'laws.FnExactBranchSum': WHATEVER THE INPUT: true; the input reads as it did. -/
def fnExactBranchSumSpec : ChangeSpec := { name := "fnExactBranchSum", fn := fun _ => fun
  | [d] => { results := [.lit (.bool true)], args := [d] }
  | _ => none }
def fnExactBranchSumRow : OpenClaim := { program := "ythjjnbpiagajgaa", sum := "98ca8963425cad88896da40dbdbf6231cbcb5e2733b8c012e97ecd979a14ce77", func := "loop.example/g03105/laws.FnExactBranchSum", spec := "fnExactBranchSum", apart := false }
def FnExactBranchSumSaid : Prop := fnExactBranchSumRow.holds Try.pinned (OpenSpec.ofChange fnExactBranchSumSpec)

/-- ITS FALSE NEIGHBOUR: 'it returns false'. Refute it at one input. -/
def fnExactBranchSumWrong : ChangeSpec := { name := "fnExactBranchSum", fn := fun _ => fun
  | [d] => { results := [.lit (.bool false)], args := [d] }
  | _ => none }
def FnExactBranchSumWrongFalsely : Prop := fnExactBranchSumRow.holds Try.pinned (OpenSpec.ofChange fnExactBranchSumWrong)

/-- 'laws.FnExactIsTrivialWord': WHATEVER THE INPUT: true; the input reads as it did. -/
def fnExactIsTrivialWordSpec : ChangeSpec := { name := "fnExactIsTrivialWord", fn := fun _ => fun
  | [d1, d2] => { results := [.lit (.bool true)], args := [d1, d2] }
  | _ => none }
def fnExactIsTrivialWordRow : OpenClaim := { program := "ythjjnbpiagajgaa", sum := "98ca8963425cad88896da40dbdbf6231cbcb5e2733b8c012e97ecd979a14ce77", func := "loop.example/g03105/laws.FnExactIsTrivialWord", spec := "fnExactIsTrivialWord", apart := false }
def FnExactIsTrivialWordSaid : Prop := fnExactIsTrivialWordRow.holds Try.pinned (OpenSpec.ofChange fnExactIsTrivialWordSpec)

/-- ITS FALSE NEIGHBOUR: 'it returns false'. Refute it at one input. -/
def fnExactIsTrivialWordWrong : ChangeSpec := { name := "fnExactIsTrivialWord", fn := fun _ => fun
  | [d1, d2] => { results := [.lit (.bool false)], args := [d1, d2] }
  | _ => none }
def FnExactIsTrivialWordWrongFalsely : Prop := fnExactIsTrivialWordRow.holds Try.pinned (OpenSpec.ofChange fnExactIsTrivialWordWrong)

/-- 'laws.FnExactBraidPassport': WHATEVER THE INPUT: true; the input reads as it did. -/
def fnExactBraidPassportSpec : ChangeSpec := { name := "fnExactBraidPassport", fn := fun _ => fun
  | [d1, d2] => { results := [.lit (.bool true)], args := [d1, d2] }
  | _ => none }
def fnExactBraidPassportRow : OpenClaim := { program := "ythjjnbpiagajgaa", sum := "98ca8963425cad88896da40dbdbf6231cbcb5e2733b8c012e97ecd979a14ce77", func := "loop.example/g03105/laws.FnExactBraidPassport", spec := "fnExactBraidPassport", apart := false }
def FnExactBraidPassportSaid : Prop := fnExactBraidPassportRow.holds Try.pinned (OpenSpec.ofChange fnExactBraidPassportSpec)

/-- ITS FALSE NEIGHBOUR: 'it returns false'. Refute it at one input. -/
def fnExactBraidPassportWrong : ChangeSpec := { name := "fnExactBraidPassport", fn := fun _ => fun
  | [d1, d2] => { results := [.lit (.bool false)], args := [d1, d2] }
  | _ => none }
def FnExactBraidPassportWrongFalsely : Prop := fnExactBraidPassportRow.holds Try.pinned (OpenSpec.ofChange fnExactBraidPassportWrong)

/-- 'laws.FnExactAreEqualWords': WHATEVER THE INPUT: true; the input reads as it did. -/
def fnExactAreEqualWordsSpec : ChangeSpec := { name := "fnExactAreEqualWords", fn := fun _ => fun
  | [d1, d2, d3] => { results := [.lit (.bool true)], args := [d1, d2, d3] }
  | _ => none }
def fnExactAreEqualWordsRow : OpenClaim := { program := "ythjjnbpiagajgaa", sum := "98ca8963425cad88896da40dbdbf6231cbcb5e2733b8c012e97ecd979a14ce77", func := "loop.example/g03105/laws.FnExactAreEqualWords", spec := "fnExactAreEqualWords", apart := false }
def FnExactAreEqualWordsSaid : Prop := fnExactAreEqualWordsRow.holds Try.pinned (OpenSpec.ofChange fnExactAreEqualWordsSpec)

/-- ITS FALSE NEIGHBOUR: 'it returns false'. Refute it at one input. -/
def fnExactAreEqualWordsWrong : ChangeSpec := { name := "fnExactAreEqualWords", fn := fun _ => fun
  | [d1, d2, d3] => { results := [.lit (.bool false)], args := [d1, d2, d3] }
  | _ => none }
def FnExactAreEqualWordsWrongFalsely : Prop := fnExactAreEqualWordsRow.holds Try.pinned (OpenSpec.ofChange fnExactAreEqualWordsWrong)

/-- 'laws.FnExactCommuteHolds': WHATEVER THE INPUT: true; the input reads as it did. -/
def fnExactCommuteHoldsSpec : ChangeSpec := { name := "fnExactCommuteHolds", fn := fun _ => fun
  | [d1, d2, d3] => { results := [.lit (.bool true)], args := [d1, d2, d3] }
  | _ => none }
def fnExactCommuteHoldsRow : OpenClaim := { program := "ythjjnbpiagajgaa", sum := "98ca8963425cad88896da40dbdbf6231cbcb5e2733b8c012e97ecd979a14ce77", func := "loop.example/g03105/laws.FnExactCommuteHolds", spec := "fnExactCommuteHolds", apart := false }
def FnExactCommuteHoldsSaid : Prop := fnExactCommuteHoldsRow.holds Try.pinned (OpenSpec.ofChange fnExactCommuteHoldsSpec)

/-- ITS FALSE NEIGHBOUR: 'it returns false'. Refute it at one input. -/
def fnExactCommuteHoldsWrong : ChangeSpec := { name := "fnExactCommuteHolds", fn := fun _ => fun
  | [d1, d2, d3] => { results := [.lit (.bool false)], args := [d1, d2, d3] }
  | _ => none }
def FnExactCommuteHoldsWrongFalsely : Prop := fnExactCommuteHoldsRow.holds Try.pinned (OpenSpec.ofChange fnExactCommuteHoldsWrong)

/- THE SECOND FORM. 'bulk': how many values and letters a reading holds, each counted each time it is reached (what is shared counts as often as it is met; a slice's spare places count too). A statement '..UptoSaid' is the law's where the arguments, and the package variables that the reading takes, are together of bulk at most 1048576: NARROWER than '..Said'. Prove '..Said' where nothing that the law and all that it calls make is longer than what came in: it says more and counts as full. Else prove '..UptoSaid'. A law counts once. -/
mutual
def uptoBulk {H : Type} : DataW H → Nat
  | .lit (.string bytes) => bytes.length + 1
  | .lit _ => 1
  | .nil => 1
  | .ptr d => uptoBulk d + 1
  | .slice elems spare => uptoBulkAll elems + uptoBulkAll spare + 1
  | .agg parts => uptoBulkAll parts + 1
  | .iface _ d => uptoBulk d + 1
  | .map entries => uptoBulkEntries entries + 1
  | .held _ => 1
def uptoBulkAll {H : Type} : List (DataW H) → Nat
  | [] => 0
  | d :: r => uptoBulk d + uptoBulkAll r
def uptoBulkEntries {H : Type} : List (Lit × DataW H) → Nat
  | [] => 0
  | x :: r => uptoBulkEntry x + uptoBulkEntries r
def uptoBulkEntry {H : Type} : Lit × DataW H → Nat
  | (.string bytes, d) => bytes.length + uptoBulk d + 1
  | (_, d) => uptoBulk d + 1
 end
def uptoSmall : (H : Type) → List (DataW H) → Bool := fun _ ds => decide (uptoBulkAll ds ≤ 1048576)
def OpenSpec.upto (s : _root_.Go.ChangeSpec) : _root_.Go.OpenSpec := { _root_.Go.OpenSpec.ofChange s with cond := some uptoSmall }

/-- 'laws.FnExactIsPassport', WHERE WHAT IT READS IS OF BULK AT MOST 1048576: true; the input reads as it did. -/
def fnExactIsPassportUptoRow : OpenClaim := { program := "ythjjnbpiagajgaa", sum := "98ca8963425cad88896da40dbdbf6231cbcb5e2733b8c012e97ecd979a14ce77", func := "loop.example/g03105/laws.FnExactIsPassport", spec := "fnExactIsPassport", apart := false, narrowed := true }
def FnExactIsPassportUptoSaid : Prop := fnExactIsPassportUptoRow.holds Try.pinned (OpenSpec.upto fnExactIsPassportSpec)

/-- 'laws.FnExactActWord', WHERE WHAT IT READS IS OF BULK AT MOST 1048576: true; the input reads as it did. -/
def fnExactActWordUptoRow : OpenClaim := { program := "ythjjnbpiagajgaa", sum := "98ca8963425cad88896da40dbdbf6231cbcb5e2733b8c012e97ecd979a14ce77", func := "loop.example/g03105/laws.FnExactActWord", spec := "fnExactActWord", apart := false, narrowed := true }
def FnExactActWordUptoSaid : Prop := fnExactActWordUptoRow.holds Try.pinned (OpenSpec.upto fnExactActWordSpec)

/-- 'laws.FnExactIsAction', WHERE WHAT IT READS IS OF BULK AT MOST 1048576: true; the input reads as it did. -/
def fnExactIsActionUptoRow : OpenClaim := { program := "ythjjnbpiagajgaa", sum := "98ca8963425cad88896da40dbdbf6231cbcb5e2733b8c012e97ecd979a14ce77", func := "loop.example/g03105/laws.FnExactIsAction", spec := "fnExactIsAction", apart := false, narrowed := true }
def FnExactIsActionUptoSaid : Prop := fnExactIsActionUptoRow.holds Try.pinned (OpenSpec.upto fnExactIsActionSpec)

/-- 'laws.FnExactDehnStep', WHERE WHAT IT READS IS OF BULK AT MOST 1048576: true; the input reads as it did. -/
def fnExactDehnStepUptoRow : OpenClaim := { program := "ythjjnbpiagajgaa", sum := "98ca8963425cad88896da40dbdbf6231cbcb5e2733b8c012e97ecd979a14ce77", func := "loop.example/g03105/laws.FnExactDehnStep", spec := "fnExactDehnStep", apart := false, narrowed := true }
def FnExactDehnStepUptoSaid : Prop := fnExactDehnStepUptoRow.holds Try.pinned (OpenSpec.upto fnExactDehnStepSpec)

/-- 'laws.FnExactMapPassport', WHERE WHAT IT READS IS OF BULK AT MOST 1048576: true; the input reads as it did. -/
def fnExactMapPassportUptoRow : OpenClaim := { program := "ythjjnbpiagajgaa", sum := "98ca8963425cad88896da40dbdbf6231cbcb5e2733b8c012e97ecd979a14ce77", func := "loop.example/g03105/laws.FnExactMapPassport", spec := "fnExactMapPassport", apart := false, narrowed := true }
def FnExactMapPassportUptoSaid : Prop := fnExactMapPassportUptoRow.holds Try.pinned (OpenSpec.upto fnExactMapPassportSpec)

/-- 'laws.FnExactCloseUp', WHERE WHAT IT READS IS OF BULK AT MOST 1048576: true; the input reads as it did. -/
def fnExactCloseUpUptoRow : OpenClaim := { program := "ythjjnbpiagajgaa", sum := "98ca8963425cad88896da40dbdbf6231cbcb5e2733b8c012e97ecd979a14ce77", func := "loop.example/g03105/laws.FnExactCloseUp", spec := "fnExactCloseUp", apart := false, narrowed := true }
def FnExactCloseUpUptoSaid : Prop := fnExactCloseUpUptoRow.holds Try.pinned (OpenSpec.upto fnExactCloseUpSpec)

/-- 'laws.FnExactDehnWord', WHERE WHAT IT READS IS OF BULK AT MOST 1048576: true; the input reads as it did. -/
def fnExactDehnWordUptoRow : OpenClaim := { program := "ythjjnbpiagajgaa", sum := "98ca8963425cad88896da40dbdbf6231cbcb5e2733b8c012e97ecd979a14ce77", func := "loop.example/g03105/laws.FnExactDehnWord", spec := "fnExactDehnWord", apart := false, narrowed := true }
def FnExactDehnWordUptoSaid : Prop := fnExactDehnWordUptoRow.holds Try.pinned (OpenSpec.upto fnExactDehnWordSpec)

/-- 'laws.FnExactBranchSum', WHERE WHAT IT READS IS OF BULK AT MOST 1048576: true; the input reads as it did. -/
def fnExactBranchSumUptoRow : OpenClaim := { program := "ythjjnbpiagajgaa", sum := "98ca8963425cad88896da40dbdbf6231cbcb5e2733b8c012e97ecd979a14ce77", func := "loop.example/g03105/laws.FnExactBranchSum", spec := "fnExactBranchSum", apart := false, narrowed := true }
def FnExactBranchSumUptoSaid : Prop := fnExactBranchSumUptoRow.holds Try.pinned (OpenSpec.upto fnExactBranchSumSpec)

/-- 'laws.FnExactIsTrivialWord', WHERE WHAT IT READS IS OF BULK AT MOST 1048576: true; the input reads as it did. -/
def fnExactIsTrivialWordUptoRow : OpenClaim := { program := "ythjjnbpiagajgaa", sum := "98ca8963425cad88896da40dbdbf6231cbcb5e2733b8c012e97ecd979a14ce77", func := "loop.example/g03105/laws.FnExactIsTrivialWord", spec := "fnExactIsTrivialWord", apart := false, narrowed := true }
def FnExactIsTrivialWordUptoSaid : Prop := fnExactIsTrivialWordUptoRow.holds Try.pinned (OpenSpec.upto fnExactIsTrivialWordSpec)

/-- 'laws.FnExactBraidPassport', WHERE WHAT IT READS IS OF BULK AT MOST 1048576: true; the input reads as it did. -/
def fnExactBraidPassportUptoRow : OpenClaim := { program := "ythjjnbpiagajgaa", sum := "98ca8963425cad88896da40dbdbf6231cbcb5e2733b8c012e97ecd979a14ce77", func := "loop.example/g03105/laws.FnExactBraidPassport", spec := "fnExactBraidPassport", apart := false, narrowed := true }
def FnExactBraidPassportUptoSaid : Prop := fnExactBraidPassportUptoRow.holds Try.pinned (OpenSpec.upto fnExactBraidPassportSpec)

/-- 'laws.FnExactAreEqualWords', WHERE WHAT IT READS IS OF BULK AT MOST 1048576: true; the input reads as it did. -/
def fnExactAreEqualWordsUptoRow : OpenClaim := { program := "ythjjnbpiagajgaa", sum := "98ca8963425cad88896da40dbdbf6231cbcb5e2733b8c012e97ecd979a14ce77", func := "loop.example/g03105/laws.FnExactAreEqualWords", spec := "fnExactAreEqualWords", apart := false, narrowed := true }
def FnExactAreEqualWordsUptoSaid : Prop := fnExactAreEqualWordsUptoRow.holds Try.pinned (OpenSpec.upto fnExactAreEqualWordsSpec)

/-- 'laws.FnExactCommuteHolds', WHERE WHAT IT READS IS OF BULK AT MOST 1048576: true; the input reads as it did. -/
def fnExactCommuteHoldsUptoRow : OpenClaim := { program := "ythjjnbpiagajgaa", sum := "98ca8963425cad88896da40dbdbf6231cbcb5e2733b8c012e97ecd979a14ce77", func := "loop.example/g03105/laws.FnExactCommuteHolds", spec := "fnExactCommuteHolds", apart := false, narrowed := true }
def FnExactCommuteHoldsUptoSaid : Prop := fnExactCommuteHoldsUptoRow.holds Try.pinned (OpenSpec.upto fnExactCommuteHoldsSpec)

end Rows
end Go.Proofs.Ythjjnbpiagajgaa
