/-
  No cell of these rows narrows 'for every input' (looked for: loops, veiled, ifaces, maps, wideKeys, modest, calm, conditions, laid).
  DERIVED. THE GIVEN ROWS OF THIS SEAT. 2 by the template 'for every input the law returns true; each argument reads behind the call as it read before'; 0 by the template 'total and deterministic' (their statements: YtnfaejmmbldaeaaTotals.lean).
  GIVEN WITH THE SEED: the statements are not yours to turn. If you find one false, say at which input.
  Laid BY PROGRAM, IN A SANDBOX (cutbox-rows.mjs): the forced cells as the released guide's own fill.sh prints them over the translation f9b725be3434d441… (all of the seat's roots in one cut). By AI agents, Wed Nov 11 2026. No macro, syntax, notation, axiom, sorry.
-/
import Derived.Test.YtnfaejmmbldaeaaChecked
import GoSem.Claim
import GoSem.ClaimJoined
import GoSem.ClaimMapViews
import Derived.JoinedTies
import Derived.KernelRfl
namespace Go.Proofs.Ytnfaejmmbldaeaa
/- THE CELL 'sum', in the pinned program and in every row, IS THE sha256 OF THE DUMP (.gsa) THAT YtnfaejmmbldaeaaProg.lean LOADS. Nothing in Lean hashes anything: it is a label: what it is worth is what the hold of that sum in a sandbox is worth. -/
noncomputable def Try.pinned : Pinned := { name := "ytnfaejmmbldaeaa", sum := "f9b725be3434d44162bd8ab63a24b011f6d1bd11abd9c63276dfc4a76ff23955", checked := Try.checked }
namespace Rows
def none {H : Type} : Left H := { results := [], args := [] }

/-- 'laws.FnExactGenusRow': WHATEVER THE INPUT: true; the input reads as it did. -/
def fnExactGenusRowSpec : ChangeSpec := { name := "fnExactGenusRow", fn := fun _ => fun
  | [d] => { results := [.lit (.bool true)], args := [d] }
  | _ => none }
def fnExactGenusRowRow : OpenClaim := { program := "ytnfaejmmbldaeaa", sum := "f9b725be3434d44162bd8ab63a24b011f6d1bd11abd9c63276dfc4a76ff23955", func := "loop.example/g03105/laws.FnExactGenusRow", spec := "fnExactGenusRow", unfollowed := true, recurses := true, apart := false }
def FnExactGenusRowSaid : Prop := fnExactGenusRowRow.holds Try.pinned (OpenSpec.ofChange fnExactGenusRowSpec)

/-- ITS FALSE NEIGHBOUR: 'it returns false'. Refute it at one input. -/
def fnExactGenusRowWrong : ChangeSpec := { name := "fnExactGenusRow", fn := fun _ => fun
  | [d] => { results := [.lit (.bool false)], args := [d] }
  | _ => none }
def FnExactGenusRowWrongFalsely : Prop := fnExactGenusRowRow.holds Try.pinned (OpenSpec.ofChange fnExactGenusRowWrong)

/-- 'laws.FnExactLeastGenus': WHATEVER THE INPUT: true; the input reads as it did. -/
def fnExactLeastGenusSpec : ChangeSpec := { name := "fnExactLeastGenus", fn := fun _ => fun
  | [d] => { results := [.lit (.bool true)], args := [d] }
  | _ => none }
def fnExactLeastGenusRow : OpenClaim := { program := "ytnfaejmmbldaeaa", sum := "f9b725be3434d44162bd8ab63a24b011f6d1bd11abd9c63276dfc4a76ff23955", func := "loop.example/g03105/laws.FnExactLeastGenus", spec := "fnExactLeastGenus", unfollowed := true, recurses := true, apart := false }
def FnExactLeastGenusSaid : Prop := fnExactLeastGenusRow.holds Try.pinned (OpenSpec.ofChange fnExactLeastGenusSpec)

/-- ITS FALSE NEIGHBOUR: 'it returns false'. Refute it at one input. -/
def fnExactLeastGenusWrong : ChangeSpec := { name := "fnExactLeastGenus", fn := fun _ => fun
  | [d] => { results := [.lit (.bool false)], args := [d] }
  | _ => none }
def FnExactLeastGenusWrongFalsely : Prop := fnExactLeastGenusRow.holds Try.pinned (OpenSpec.ofChange fnExactLeastGenusWrong)

/- THE SECOND FORM. 'bulk': how many values and letters a reading holds, each counted each time it is reached (what is shared counts as often as it is met; a slice's spare places count too). A statement '..UptoSaid' is the law's where the arguments, and the package variables that the reading takes, are together of bulk at most 1048576: NARROWER than '..Said'. Prove '..Said' where nothing that the law and all that it calls make is longer than what came in: it says more and counts as full. Else prove '..UptoSaid'. A law counts once. -/
mutual
def uptoBulk {H : Type} : DataW H → Nat
  | .lit (.string bytes) => bytes.length + 1
  | .lit _ => 1
  | .nil => 1
  | .ptr d => uptoBulk d + 1
  | .slice elems spare => uptoBulkAll elems + uptoBulkAll spare + 1
  | .agg parts => uptoBulkAll parts + 1
  | .iface _ d => uptoBulk d + 1
  | .map entries => uptoBulkEntries entries + 1
  | .held _ => 1
def uptoBulkAll {H : Type} : List (DataW H) → Nat
  | [] => 0
  | d :: r => uptoBulk d + uptoBulkAll r
def uptoBulkEntries {H : Type} : List (Lit × DataW H) → Nat
  | [] => 0
  | x :: r => uptoBulkEntry x + uptoBulkEntries r
def uptoBulkEntry {H : Type} : Lit × DataW H → Nat
  | (.string bytes, d) => bytes.length + uptoBulk d + 1
  | (_, d) => uptoBulk d + 1
 end
def uptoSmall : (H : Type) → List (DataW H) → Bool := fun _ ds => decide (uptoBulkAll ds ≤ 1048576)
def OpenSpec.upto (s : _root_.Go.ChangeSpec) : _root_.Go.OpenSpec := { _root_.Go.OpenSpec.ofChange s with cond := some uptoSmall }

/-- 'laws.FnExactGenusRow', WHERE WHAT IT READS IS OF BULK AT MOST 1048576: true; the input reads as it did. -/
def fnExactGenusRowUptoRow : OpenClaim := { program := "ytnfaejmmbldaeaa", sum := "f9b725be3434d44162bd8ab63a24b011f6d1bd11abd9c63276dfc4a76ff23955", func := "loop.example/g03105/laws.FnExactGenusRow", spec := "fnExactGenusRow", unfollowed := true, recurses := true, apart := false, narrowed := true }
def FnExactGenusRowUptoSaid : Prop := fnExactGenusRowUptoRow.holds Try.pinned (OpenSpec.upto fnExactGenusRowSpec)

/-- 'laws.FnExactLeastGenus', WHERE WHAT IT READS IS OF BULK AT MOST 1048576: true; the input reads as it did. -/
def fnExactLeastGenusUptoRow : OpenClaim := { program := "ytnfaejmmbldaeaa", sum := "f9b725be3434d44162bd8ab63a24b011f6d1bd11abd9c63276dfc4a76ff23955", func := "loop.example/g03105/laws.FnExactLeastGenus", spec := "fnExactLeastGenus", unfollowed := true, recurses := true, apart := false, narrowed := true }
def FnExactLeastGenusUptoSaid : Prop := fnExactLeastGenusUptoRow.holds Try.pinned (OpenSpec.upto fnExactLeastGenusSpec)

end Rows
end Go.Proofs.Ytnfaejmmbldaeaa
