/-
  DERIVED. GIVEN WITH THE SEED: THE CARDS: each row of YtomjfejacjphnaaDoorRows.lean that lists a variable, with what it lists TIED to the program's text (the seventh form; the later family's looks); each row that meets fmt, with fmt's text TOLD by the authors' own Lean function (tested against real Go, not proved from fmt's source: count such statements apart). THE CARD IS WHAT COUNTS. Prove the row's statement (the work); the ties are given (YtomjfejacjphnaaDoorTie.lean); close each card by the builder's one call (the guide's Derived/Test/ToyasCard.lean, 'card_holds'). Laid BY PROGRAM, IN A SANDBOX (cutbox-door.mjs). By AI agents, Wed Nov 11 2026. No macro, syntax, notation, axiom, sorry.
-/
import Derived.Test.YtomjfejacjphnaaDoorRows
import GoSem.ClaimSeven
namespace Go.Proofs.YtomjfejacjphnaaDoor
namespace Rows

/-- THE TIED CARD OF 'laws.FnSlopes'. -/
def fnSlopesCard : Claim7 := { stood := { row := fnSlopesRow, standIns := [], harness := (true, "ee8b09457a81ca7dafca093fef3bae9bb7a6ca56b7283366f23be7dd86486d50"), looks := true }, kinds := [], alts := [], laidByText := true, laidKinds := [.data, .data, .data, .sentinel, .sentinel], laidTests := true, laidLooks := .later }
def FnSlopesCardSaid : Prop := Claim7.holds Tryd.pinned (.plain (OpenSpec.ofChange fnSlopesSpec)) fnSlopesCard

/-- THE SECOND FORM's CARD OF 'laws.FnSlopes'. -/
def fnSlopesUptoCard : Claim7 := { stood := { row := fnSlopesUptoRow, standIns := [], harness := (true, "ee8b09457a81ca7dafca093fef3bae9bb7a6ca56b7283366f23be7dd86486d50"), looks := true }, kinds := [], alts := [], laidByText := true, laidKinds := [.data, .data, .data, .sentinel, .sentinel], laidTests := true, laidLooks := .later }
def FnSlopesUptoCardSaid : Prop := Claim7.holds Tryd.pinned (.plain (OpenSpec.upto fnSlopesSpec)) fnSlopesUptoCard
end Rows
end Go.Proofs.YtomjfejacjphnaaDoor
