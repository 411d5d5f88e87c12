/-
  DERIVED. GIVEN WITH THE SEED: THE CARDS: each row of YtaalegfhglhnjaaGreatDoorRows.lean that lists a variable, with what it lists TIED to the program's text (the seventh form; the later family's looks); each row that meets fmt, with fmt's text TOLD by the authors' own Lean function (tested against real Go, not proved from fmt's source: count such statements apart). THE CARD IS WHAT COUNTS. Prove the row's statement (the work); the ties are given (YtaalegfhglhnjaaGreatDoorTie.lean); close each card by the builder's one call (the guide's Derived/Test/ToyasCard.lean, 'card_holds'). Laid BY PROGRAM, IN A SANDBOX (cutbox-door.mjs). By AI agents, Wed Nov 11 2026. No macro, syntax, notation, axiom, sorry.
-/
import Derived.Test.YtaalegfhglhnjaaGreatDoorRows
import GoSem.ClaimSeven
namespace Go.Proofs.YtaalegfhglhnjaaGreatDoor
namespace Rows

/-- THE TIED CARD OF 'laws.FnExactReadEntry'. -/
def fnExactReadEntryCard : Claim7 := { stood := { row := fnExactReadEntryRow, standIns := [], harness := (true, "252b9eed08c77f4df7ad9c1115427c8764d863a3ab65805e1e2f5ddc3aaf92fd"), looks := true }, kinds := [], alts := [], laidByText := true, laidKinds := [.data, .data, .data, .handle, .sentinel, .sentinel, .sentinel], laidTests := true, laidLooks := .later }
def FnExactReadEntryCardSaid : Prop := Claim7.holds Tryz.pinned (.plain (OpenSpec.ofChange fnExactReadEntrySpec)) fnExactReadEntryCard

/-- THE SECOND FORM's CARD OF 'laws.FnExactReadEntry'. -/
def fnExactReadEntryUptoCard : Claim7 := { stood := { row := fnExactReadEntryUptoRow, standIns := [], harness := (true, "252b9eed08c77f4df7ad9c1115427c8764d863a3ab65805e1e2f5ddc3aaf92fd"), looks := true }, kinds := [], alts := [], laidByText := true, laidKinds := [.data, .data, .data, .handle, .sentinel, .sentinel, .sentinel], laidTests := true, laidLooks := .later }
def FnExactReadEntryUptoCardSaid : Prop := Claim7.holds Tryz.pinned (.plain (OpenSpec.upto fnExactReadEntrySpec)) fnExactReadEntryUptoCard
end Rows
end Go.Proofs.YtaalegfhglhnjaaGreatDoor
