/-
  DERIVED. GIVEN WITH THE SEED: THE CARDS: each row of YtiofpfmmgkmhmaaGreatDoorRows.lean that lists a variable, with what it lists TIED to the program's text (the seventh form; the later family's looks); each row that meets fmt, with fmt's text TOLD by the authors' own Lean function (tested against real Go, not proved from fmt's source: count such statements apart). THE CARD IS WHAT COUNTS. Prove the row's statement (the work); the ties are given (YtiofpfmmgkmhmaaGreatDoorTie.lean); close each card by the builder's one call (the guide's Derived/Test/ToyasCard.lean, 'card_holds'). Laid BY PROGRAM, IN A SANDBOX (cutbox-door.mjs). By AI agents, Wed Nov 11 2026. No macro, syntax, notation, axiom, sorry.
-/
import Derived.Test.YtiofpfmmgkmhmaaGreatDoorRows
import GoSem.ClaimSeven
namespace Go.Proofs.YtiofpfmmgkmhmaaGreatDoor
namespace Rows

/-- THE TIED CARD OF 'laws.FnExactPutEntry'. -/
def fnExactPutEntryCard : Claim7 := { stood := { row := fnExactPutEntryRow, standIns := [], harness := (true, "05fe2cc5df4eadf7289b419a7f2e872e8a52ef2127a24038d3f1b731d03c2999"), looks := false }, kinds := [], alts := [], laidByText := true, laidKinds := [.data, .data, .data], laidTests := true, laidLooks := .later }
def FnExactPutEntryCardSaid : Prop := Claim7.holds Tryz.pinned (.plain (OpenSpec.ofChange fnExactPutEntrySpec)) fnExactPutEntryCard

/-- THE SECOND FORM's CARD OF 'laws.FnExactPutEntry'. -/
def fnExactPutEntryUptoCard : Claim7 := { stood := { row := fnExactPutEntryUptoRow, standIns := [], harness := (true, "05fe2cc5df4eadf7289b419a7f2e872e8a52ef2127a24038d3f1b731d03c2999"), looks := false }, kinds := [], alts := [], laidByText := true, laidKinds := [.data, .data, .data], laidTests := true, laidLooks := .later }
def FnExactPutEntryUptoCardSaid : Prop := Claim7.holds Tryz.pinned (.plain (OpenSpec.upto fnExactPutEntrySpec)) fnExactPutEntryUptoCard
end Rows
end Go.Proofs.YtiofpfmmgkmhmaaGreatDoor
