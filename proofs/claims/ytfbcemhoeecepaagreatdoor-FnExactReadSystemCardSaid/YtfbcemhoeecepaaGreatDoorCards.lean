/-
  DERIVED. GIVEN WITH THE SEED: THE CARDS: each row of YtfbcemhoeecepaaGreatDoorRows.lean that lists a variable, with what it lists TIED to the program's text (the seventh form; the later family's looks); each row that meets fmt, with fmt's text TOLD by the authors' own Lean function (tested against real Go, not proved from fmt's source: count such statements apart). THE CARD IS WHAT COUNTS. Prove the row's statement (the work); the ties are given (YtfbcemhoeecepaaGreatDoorTie.lean); close each card by the builder's one call (the guide's Derived/Test/ToyasCard.lean, 'card_holds'). Laid BY PROGRAM, IN A SANDBOX (cutbox-door.mjs). By AI agents, Wed Nov 11 2026. No macro, syntax, notation, axiom, sorry.
-/
import Derived.Test.YtfbcemhoeecepaaGreatDoorRows
import GoSem.ClaimSeven
namespace Go.Proofs.YtfbcemhoeecepaaGreatDoor
namespace Rows

/-- THE TIED CARD OF 'laws.FnExactReadSystem'. -/
def fnExactReadSystemCard : Claim7 := { stood := { row := fnExactReadSystemRow, standIns := [], harness := (true, "78521e6bcdeb6d60e02d03569e8e608b9cfa2fe02ceb8573687d81ff309101aa"), looks := true }, kinds := [], alts := [], laidByText := true, laidKinds := [.data, .data, .data, .handle, .sentinel, .sentinel, .sentinel], laidTests := true, laidLooks := .later }
def FnExactReadSystemCardSaid : Prop := Claim7.holds Tryz.pinned (.plain (OpenSpec.ofChange fnExactReadSystemSpec)) fnExactReadSystemCard

/-- THE SECOND FORM's CARD OF 'laws.FnExactReadSystem'. -/
def fnExactReadSystemUptoCard : Claim7 := { stood := { row := fnExactReadSystemUptoRow, standIns := [], harness := (true, "78521e6bcdeb6d60e02d03569e8e608b9cfa2fe02ceb8573687d81ff309101aa"), looks := true }, kinds := [], alts := [], laidByText := true, laidKinds := [.data, .data, .data, .handle, .sentinel, .sentinel, .sentinel], laidTests := true, laidLooks := .later }
def FnExactReadSystemUptoCardSaid : Prop := Claim7.holds Tryz.pinned (.plain (OpenSpec.upto fnExactReadSystemSpec)) fnExactReadSystemUptoCard
end Rows
end Go.Proofs.YtfbcemhoeecepaaGreatDoor
