/-
  DERIVED. GIVEN WITH THE SEED: THE CARDS: each row of YtiobnnnacoginaaGreatDoorRows.lean that lists a variable, with what it lists TIED to the program's text (the seventh form; the later family's looks); each row that meets fmt, with fmt's text TOLD by the authors' own Lean function (tested against real Go, not proved from fmt's source: count such statements apart). THE CARD IS WHAT COUNTS. Prove the row's statement (the work); the ties are given (YtiobnnnacoginaaGreatDoorTie.lean); close each card by the builder's one call (the guide's Derived/Test/ToyasCard.lean, 'card_holds'). Laid BY PROGRAM, IN A SANDBOX (cutbox-door.mjs). By AI agents, Wed Nov 11 2026. No macro, syntax, notation, axiom, sorry.
-/
import Derived.Test.YtiobnnnacoginaaGreatDoorRows
import GoSem.ClaimSeven
namespace Go.Proofs.YtiobnnnacoginaaGreatDoor
namespace Rows

/-- THE TIED CARD OF 'laws.FnExactFrameOf'. -/
def fnExactFrameOfCard : Claim7 := { stood := { row := fnExactFrameOfRow, standIns := [], harness := (true, "5b2645e93bc2cbe0e567758bb8367c32cd88e065fa5b86ad7e4ba020a9620852"), looks := false }, kinds := [], alts := [], laidByText := true, laidKinds := [.data, .data, .data], laidTests := true, laidLooks := .later }
def FnExactFrameOfCardSaid : Prop := Claim7.holds Tryz.pinned (.plain (OpenSpec.ofChange fnExactFrameOfSpec)) fnExactFrameOfCard

/-- THE SECOND FORM's CARD OF 'laws.FnExactFrameOf'. -/
def fnExactFrameOfUptoCard : Claim7 := { stood := { row := fnExactFrameOfUptoRow, standIns := [], harness := (true, "5b2645e93bc2cbe0e567758bb8367c32cd88e065fa5b86ad7e4ba020a9620852"), looks := false }, kinds := [], alts := [], laidByText := true, laidKinds := [.data, .data, .data], laidTests := true, laidLooks := .later }
def FnExactFrameOfUptoCardSaid : Prop := Claim7.holds Tryz.pinned (.plain (OpenSpec.upto fnExactFrameOfSpec)) fnExactFrameOfUptoCard
end Rows
end Go.Proofs.YtiobnnnacoginaaGreatDoor
