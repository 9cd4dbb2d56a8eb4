/-
  No cell of these rows narrows 'for every input' (looked for: loops, veiled, ifaces, maps, wideKeys, modest, calm, conditions, laid).
  DERIVED. THE GIVEN ROWS OF THIS SEAT. 4 by the template 'for every input the law returns true; each argument reads behind the call as it read before'; 0 by the template 'total and deterministic' (their statements: YtlbjgdkmkdpopaaTotals.lean).
  GIVEN WITH THE SEED: the statements are not yours to turn. If you find one false, say at which input.
  Laid BY PROGRAM, IN A SANDBOX (cutbox-rows.mjs): the forced cells as the released guide's own fill.sh prints them over the translation 4a0fd16dc5fb4d81… (all of the seat's roots in one cut). By AI agents, Wed Nov 11 2026. No macro, syntax, notation, axiom, sorry.
-/
import Derived.Test.YtlbjgdkmkdpopaaChecked
import GoSem.Claim
import GoSem.ClaimJoined
import GoSem.ClaimMapViews
import Derived.JoinedTies
import Derived.KernelRfl
namespace Go.Proofs.Ytlbjgdkmkdpopaa
/- THE CELL 'sum', in the pinned program and in every row, IS THE sha256 OF THE DUMP (.gsa) THAT YtlbjgdkmkdpopaaProg.lean LOADS. Nothing in Lean hashes anything: it is a label: what it is worth is what the hold of that sum in a sandbox is worth. -/
noncomputable def Try.pinned : Pinned := { name := "ytlbjgdkmkdpopaa", sum := "4a0fd16dc5fb4d81ce53b4193a137033b739636b8c2efe769a83d66ecd9eb598", checked := Try.checked }
namespace Rows
def none {H : Type} : Left H := { results := [], args := [] }

/-- 'laws.FnExactSheetSymmetries': WHATEVER THE INPUT: true; the input reads as it did. -/
def fnExactSheetSymmetriesSpec : ChangeSpec := { name := "fnExactSheetSymmetries", fn := fun _ => fun
  | [d] => { results := [.lit (.bool true)], args := [d] }
  | _ => none }
def fnExactSheetSymmetriesRow : OpenClaim := { program := "ytlbjgdkmkdpopaa", sum := "4a0fd16dc5fb4d81ce53b4193a137033b739636b8c2efe769a83d66ecd9eb598", func := "loop.example/g03105/laws.FnExactSheetSymmetries", spec := "fnExactSheetSymmetries", unfollowed := true, recurses := true, apart := false }
def FnExactSheetSymmetriesSaid : Prop := fnExactSheetSymmetriesRow.holds Try.pinned (OpenSpec.ofChange fnExactSheetSymmetriesSpec)

/-- ITS FALSE NEIGHBOUR: 'it returns false'. Refute it at one input. -/
def fnExactSheetSymmetriesWrong : ChangeSpec := { name := "fnExactSheetSymmetries", fn := fun _ => fun
  | [d] => { results := [.lit (.bool false)], args := [d] }
  | _ => none }
def FnExactSheetSymmetriesWrongFalsely : Prop := fnExactSheetSymmetriesRow.holds Try.pinned (OpenSpec.ofChange fnExactSheetSymmetriesWrong)

/-- 'laws.FnExactCoverOf': WHATEVER THE INPUT: true; the input reads as it did. -/
def fnExactCoverOfSpec : ChangeSpec := { name := "fnExactCoverOf", fn := fun _ => fun
  | [d1, d2] => { results := [.lit (.bool true)], args := [d1, d2] }
  | _ => none }
def fnExactCoverOfRow : OpenClaim := { program := "ytlbjgdkmkdpopaa", sum := "4a0fd16dc5fb4d81ce53b4193a137033b739636b8c2efe769a83d66ecd9eb598", func := "loop.example/g03105/laws.FnExactCoverOf", spec := "fnExactCoverOf", apart := false }
def FnExactCoverOfSaid : Prop := fnExactCoverOfRow.holds Try.pinned (OpenSpec.ofChange fnExactCoverOfSpec)

/-- ITS FALSE NEIGHBOUR: 'it returns false'. Refute it at one input. -/
def fnExactCoverOfWrong : ChangeSpec := { name := "fnExactCoverOf", fn := fun _ => fun
  | [d1, d2] => { results := [.lit (.bool false)], args := [d1, d2] }
  | _ => none }
def FnExactCoverOfWrongFalsely : Prop := fnExactCoverOfRow.holds Try.pinned (OpenSpec.ofChange fnExactCoverOfWrong)

/-- 'laws.FnExactCountActions': WHATEVER THE INPUT: true; the input reads as it did. -/
def fnExactCountActionsSpec : ChangeSpec := { name := "fnExactCountActions", fn := fun _ => fun
  | [d1, d2] => { results := [.lit (.bool true)], args := [d1, d2] }
  | _ => none }
def fnExactCountActionsRow : OpenClaim := { program := "ytlbjgdkmkdpopaa", sum := "4a0fd16dc5fb4d81ce53b4193a137033b739636b8c2efe769a83d66ecd9eb598", func := "loop.example/g03105/laws.FnExactCountActions", spec := "fnExactCountActions", unfollowed := true, recurses := true, apart := false }
def FnExactCountActionsSaid : Prop := fnExactCountActionsRow.holds Try.pinned (OpenSpec.ofChange fnExactCountActionsSpec)

/-- ITS FALSE NEIGHBOUR: 'it returns false'. Refute it at one input. -/
def fnExactCountActionsWrong : ChangeSpec := { name := "fnExactCountActions", fn := fun _ => fun
  | [d1, d2] => { results := [.lit (.bool false)], args := [d1, d2] }
  | _ => none }
def FnExactCountActionsWrongFalsely : Prop := fnExactCountActionsRow.holds Try.pinned (OpenSpec.ofChange fnExactCountActionsWrong)

/-- 'laws.FnExactCountCovers': WHATEVER THE INPUT: true; the input reads as it did. -/
def fnExactCountCoversSpec : ChangeSpec := { name := "fnExactCountCovers", fn := fun _ => fun
  | [d1, d2] => { results := [.lit (.bool true)], args := [d1, d2] }
  | _ => none }
def fnExactCountCoversRow : OpenClaim := { program := "ytlbjgdkmkdpopaa", sum := "4a0fd16dc5fb4d81ce53b4193a137033b739636b8c2efe769a83d66ecd9eb598", func := "loop.example/g03105/laws.FnExactCountCovers", spec := "fnExactCountCovers", unfollowed := true, recurses := true, apart := false }
def FnExactCountCoversSaid : Prop := fnExactCountCoversRow.holds Try.pinned (OpenSpec.ofChange fnExactCountCoversSpec)

/-- ITS FALSE NEIGHBOUR: 'it returns false'. Refute it at one input. -/
def fnExactCountCoversWrong : ChangeSpec := { name := "fnExactCountCovers", fn := fun _ => fun
  | [d1, d2] => { results := [.lit (.bool false)], args := [d1, d2] }
  | _ => none }
def FnExactCountCoversWrongFalsely : Prop := fnExactCountCoversRow.holds Try.pinned (OpenSpec.ofChange fnExactCountCoversWrong)

/- THE SECOND FORM. 'bulk': how many values and letters a reading holds, each counted each time it is reached (what is shared counts as often as it is met; a slice's spare places count too). A statement '..UptoSaid' is the law's where the arguments, and the package variables that the reading takes, are together of bulk at most 1048576: NARROWER than '..Said'. Prove '..Said' where nothing that the law and all that it calls make is longer than what came in: it says more and counts as full. Else prove '..UptoSaid'. A law counts once. -/
mutual
def uptoBulk {H : Type} : DataW H → Nat
  | .lit (.string bytes) => bytes.length + 1
  | .lit _ => 1
  | .nil => 1
  | .ptr d => uptoBulk d + 1
  | .slice elems spare => uptoBulkAll elems + uptoBulkAll spare + 1
  | .agg parts => uptoBulkAll parts + 1
  | .iface _ d => uptoBulk d + 1
  | .map entries => uptoBulkEntries entries + 1
  | .held _ => 1
def uptoBulkAll {H : Type} : List (DataW H) → Nat
  | [] => 0
  | d :: r => uptoBulk d + uptoBulkAll r
def uptoBulkEntries {H : Type} : List (Lit × DataW H) → Nat
  | [] => 0
  | x :: r => uptoBulkEntry x + uptoBulkEntries r
def uptoBulkEntry {H : Type} : Lit × DataW H → Nat
  | (.string bytes, d) => bytes.length + uptoBulk d + 1
  | (_, d) => uptoBulk d + 1
 end
def uptoSmall : (H : Type) → List (DataW H) → Bool := fun _ ds => decide (uptoBulkAll ds ≤ 1048576)
def OpenSpec.upto (s : _root_.Go.ChangeSpec) : _root_.Go.OpenSpec := { _root_.Go.OpenSpec.ofChange s with cond := some uptoSmall }

/-- 'laws.FnExactSheetSymmetries', WHERE WHAT IT READS IS OF BULK AT MOST 1048576: true; the input reads as it did. -/
def fnExactSheetSymmetriesUptoRow : OpenClaim := { program := "ytlbjgdkmkdpopaa", sum := "4a0fd16dc5fb4d81ce53b4193a137033b739636b8c2efe769a83d66ecd9eb598", func := "loop.example/g03105/laws.FnExactSheetSymmetries", spec := "fnExactSheetSymmetries", unfollowed := true, recurses := true, apart := false, narrowed := true }
def FnExactSheetSymmetriesUptoSaid : Prop := fnExactSheetSymmetriesUptoRow.holds Try.pinned (OpenSpec.upto fnExactSheetSymmetriesSpec)

/-- 'laws.FnExactCoverOf', WHERE WHAT IT READS IS OF BULK AT MOST 1048576: true; the input reads as it did. -/
def fnExactCoverOfUptoRow : OpenClaim := { program := "ytlbjgdkmkdpopaa", sum := "4a0fd16dc5fb4d81ce53b4193a137033b739636b8c2efe769a83d66ecd9eb598", func := "loop.example/g03105/laws.FnExactCoverOf", spec := "fnExactCoverOf", apart := false, narrowed := true }
def FnExactCoverOfUptoSaid : Prop := fnExactCoverOfUptoRow.holds Try.pinned (OpenSpec.upto fnExactCoverOfSpec)

/-- 'laws.FnExactCountActions', WHERE WHAT IT READS IS OF BULK AT MOST 1048576: true; the input reads as it did. -/
def fnExactCountActionsUptoRow : OpenClaim := { program := "ytlbjgdkmkdpopaa", sum := "4a0fd16dc5fb4d81ce53b4193a137033b739636b8c2efe769a83d66ecd9eb598", func := "loop.example/g03105/laws.FnExactCountActions", spec := "fnExactCountActions", unfollowed := true, recurses := true, apart := false, narrowed := true }
def FnExactCountActionsUptoSaid : Prop := fnExactCountActionsUptoRow.holds Try.pinned (OpenSpec.upto fnExactCountActionsSpec)

/-- 'laws.FnExactCountCovers', WHERE WHAT IT READS IS OF BULK AT MOST 1048576: true; the input reads as it did. -/
def fnExactCountCoversUptoRow : OpenClaim := { program := "ytlbjgdkmkdpopaa", sum := "4a0fd16dc5fb4d81ce53b4193a137033b739636b8c2efe769a83d66ecd9eb598", func := "loop.example/g03105/laws.FnExactCountCovers", spec := "fnExactCountCovers", unfollowed := true, recurses := true, apart := false, narrowed := true }
def FnExactCountCoversUptoSaid : Prop := fnExactCountCoversUptoRow.holds Try.pinned (OpenSpec.upto fnExactCountCoversSpec)

end Rows
end Go.Proofs.Ytlbjgdkmkdpopaa
