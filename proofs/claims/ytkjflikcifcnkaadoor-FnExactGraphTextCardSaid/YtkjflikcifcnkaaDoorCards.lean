/-
  DERIVED. GIVEN WITH THE SEED: THE CARDS: each row of YtkjflikcifcnkaaDoorRows.lean that lists a variable, with what it lists TIED to the program's text (the seventh form; the later family's looks); each row that meets fmt, with fmt's text TOLD by the authors' own Lean function (tested against real Go, not proved from fmt's source: count such statements apart). THE CARD IS WHAT COUNTS. Prove the row's statement (the work); the ties are given (YtkjflikcifcnkaaDoorTie.lean); close each card by the builder's one call (the guide's Derived/Test/ToyasCard.lean, 'card_holds'). Laid BY PROGRAM, IN A SANDBOX (cutbox-door.mjs). By AI agents, Wed Nov 11 2026. No macro, syntax, notation, axiom, sorry.
-/
import Derived.Test.YtkjflikcifcnkaaDoorRows
import GoSem.ClaimSeven
namespace Go.Proofs.YtkjflikcifcnkaaDoor
namespace Rows

/-- THE TIED CARD OF 'laws.FnExactSlopeText'. -/
def fnExactSlopeTextCard : Claim7 := { stood := { row := fnExactSlopeTextRow, standIns := [], harness := (true, "8650e24aa8e536bd3cca47b868844c7e8b284741bf0434ab7154eb2acd602ac0"), looks := true }, kinds := [], alts := [], laidByText := true, laidKinds := [.data, .data, .data], laidTests := true, laidLooks := .later }
def FnExactSlopeTextCardSaid : Prop := Claim7.holds Tryd.pinned (.plain (OpenSpec.ofChange fnExactSlopeTextSpec)) fnExactSlopeTextCard

/-- THE TIED CARD OF 'laws.FnExactParseSlope'. -/
def fnExactParseSlopeCard : Claim7 := { stood := { row := fnExactParseSlopeRow, standIns := [], harness := (true, "8650e24aa8e536bd3cca47b868844c7e8b284741bf0434ab7154eb2acd602ac0"), looks := true }, kinds := [], alts := [], laidByText := true, laidKinds := [.data, .data, .data, .sentinel, .sentinel], laidTests := true, laidLooks := .later }
def FnExactParseSlopeCardSaid : Prop := Claim7.holds Tryd.pinned (.plain (OpenSpec.ofChange fnExactParseSlopeSpec)) fnExactParseSlopeCard

/-- THE TIED CARD OF 'laws.FnExactGraphText'. -/
def fnExactGraphTextCard : Claim7 := { stood := { row := fnExactGraphTextRow, standIns := [], harness := (true, "8650e24aa8e536bd3cca47b868844c7e8b284741bf0434ab7154eb2acd602ac0"), looks := true }, kinds := [], alts := [], laidByText := true, laidKinds := [.data, .data, .data], laidTests := true, laidLooks := .later }
def FnExactGraphTextCardSaid : Prop := Claim7.holds Tryd.pinned (.plain (OpenSpec.ofChange fnExactGraphTextSpec)) fnExactGraphTextCard

/-- THE SECOND FORM's CARD OF 'laws.FnExactSlopeText'. -/
def fnExactSlopeTextUptoCard : Claim7 := { stood := { row := fnExactSlopeTextUptoRow, standIns := [], harness := (true, "8650e24aa8e536bd3cca47b868844c7e8b284741bf0434ab7154eb2acd602ac0"), looks := true }, kinds := [], alts := [], laidByText := true, laidKinds := [.data, .data, .data], laidTests := true, laidLooks := .later }
def FnExactSlopeTextUptoCardSaid : Prop := Claim7.holds Tryd.pinned (.plain (OpenSpec.upto fnExactSlopeTextSpec)) fnExactSlopeTextUptoCard

/-- THE SECOND FORM's CARD OF 'laws.FnExactParseSlope'. -/
def fnExactParseSlopeUptoCard : Claim7 := { stood := { row := fnExactParseSlopeUptoRow, standIns := [], harness := (true, "8650e24aa8e536bd3cca47b868844c7e8b284741bf0434ab7154eb2acd602ac0"), looks := true }, kinds := [], alts := [], laidByText := true, laidKinds := [.data, .data, .data, .sentinel, .sentinel], laidTests := true, laidLooks := .later }
def FnExactParseSlopeUptoCardSaid : Prop := Claim7.holds Tryd.pinned (.plain (OpenSpec.upto fnExactParseSlopeSpec)) fnExactParseSlopeUptoCard

/-- THE SECOND FORM's CARD OF 'laws.FnExactGraphText'. -/
def fnExactGraphTextUptoCard : Claim7 := { stood := { row := fnExactGraphTextUptoRow, standIns := [], harness := (true, "8650e24aa8e536bd3cca47b868844c7e8b284741bf0434ab7154eb2acd602ac0"), looks := true }, kinds := [], alts := [], laidByText := true, laidKinds := [.data, .data, .data], laidTests := true, laidLooks := .later }
def FnExactGraphTextUptoCardSaid : Prop := Claim7.holds Tryd.pinned (.plain (OpenSpec.upto fnExactGraphTextSpec)) fnExactGraphTextUptoCard
end Rows
end Go.Proofs.YtkjflikcifcnkaaDoor
