/-
  DERIVED. GIVEN WITH THE SEED: THE CARDS: each row of YtinhknndegdcfaaGreatDoorRows.lean that lists a variable, with what it lists TIED to the program's text (the seventh form; the later family's looks); each row that meets fmt, with fmt's text TOLD by the authors' own Lean function (tested against real Go, not proved from fmt's source: count such statements apart). THE CARD IS WHAT COUNTS. Prove the row's statement (the work); the ties are given (YtinhknndegdcfaaGreatDoorTie.lean); close each card by the builder's one call (the guide's Derived/Test/ToyasCard.lean, 'card_holds'). Laid BY PROGRAM, IN A SANDBOX (cutbox-door.mjs). By AI agents, Wed Nov 11 2026. No macro, syntax, notation, axiom, sorry.
-/
import Derived.Test.YtinhknndegdcfaaGreatDoorRows
import GoSem.ClaimSeven
namespace Go.Proofs.YtinhknndegdcfaaGreatDoor
namespace Rows

/-- THE TIED CARD OF 'laws.FnExactProofErrors'. -/
def fnExactProofErrorsCard : Claim7 := { stood := { row := fnExactProofErrorsRow, standIns := [], harness := (true, "6fcaaa286f20d0549eee2cde96a68830d5135944b10350581aced52e45372065"), looks := true }, kinds := [], alts := [], laidByText := true, laidKinds := [.data, .data, .data], laidTests := true, laidLooks := .later }
def FnExactProofErrorsCardSaid : Prop := Claim7.holds Tryz.pinned (.plain (OpenSpec.ofChange fnExactProofErrorsSpec)) fnExactProofErrorsCard

/-- THE SECOND FORM's CARD OF 'laws.FnExactProofErrors'. -/
def fnExactProofErrorsUptoCard : Claim7 := { stood := { row := fnExactProofErrorsUptoRow, standIns := [], harness := (true, "6fcaaa286f20d0549eee2cde96a68830d5135944b10350581aced52e45372065"), looks := true }, kinds := [], alts := [], laidByText := true, laidKinds := [.data, .data, .data], laidTests := true, laidLooks := .later }
def FnExactProofErrorsUptoCardSaid : Prop := Claim7.holds Tryz.pinned (.plain (OpenSpec.upto fnExactProofErrorsSpec)) fnExactProofErrorsUptoCard
end Rows
end Go.Proofs.YtinhknndegdcfaaGreatDoor
