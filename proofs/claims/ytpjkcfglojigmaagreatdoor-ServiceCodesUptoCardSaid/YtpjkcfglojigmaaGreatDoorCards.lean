/-
  DERIVED. GIVEN WITH THE SEED: THE CARDS: each row of YtpjkcfglojigmaaGreatDoorRows.lean that lists a variable, with what it lists TIED to the program's text (the seventh form; the later family's looks); each row that meets fmt, with fmt's text TOLD by the authors' own Lean function (tested against real Go, not proved from fmt's source: count such statements apart). THE CARD IS WHAT COUNTS. Prove the row's statement (the work); the ties are given (YtpjkcfglojigmaaGreatDoorTie.lean); close each card by the builder's one call (the guide's Derived/Test/ToyasCard.lean, 'card_holds'). Laid BY PROGRAM, IN A SANDBOX (cutbox-door.mjs). By AI agents, Wed Nov 11 2026. No macro, syntax, notation, axiom, sorry.
-/
import Derived.Test.YtpjkcfglojigmaaGreatDoorRows
import GoSem.ClaimSeven
namespace Go.Proofs.YtpjkcfglojigmaaGreatDoor
namespace Rows

/-- THE TIED CARD OF 'mainlinelaw24.ServiceCodes'. -/
def serviceCodesCard : Claim7 := { stood := { row := serviceCodesRow, standIns := [], harness := (true, "3986d794aaff26bd16eef9fd1413861c7c6850634e5ccb3676eceaa2d3572583"), looks := true }, kinds := [], alts := [], laidByText := true, laidKinds := [.data, .pinned], laidTests := true, laidLooks := .later }
def ServiceCodesCardSaid : Prop := Claim7.holds Tryz.pinned (.plain (OpenSpec.ofChange serviceCodesSpec)) serviceCodesCard

/-- THE SECOND FORM's CARD OF 'mainlinelaw24.ServiceCodes'. -/
def serviceCodesUptoCard : Claim7 := { stood := { row := serviceCodesUptoRow, standIns := [], harness := (true, "3986d794aaff26bd16eef9fd1413861c7c6850634e5ccb3676eceaa2d3572583"), looks := true }, kinds := [], alts := [], laidByText := true, laidKinds := [.data, .pinned], laidTests := true, laidLooks := .later }
def ServiceCodesUptoCardSaid : Prop := Claim7.holds Tryz.pinned (.plain (OpenSpec.upto serviceCodesSpec)) serviceCodesUptoCard
end Rows
end Go.Proofs.YtpjkcfglojigmaaGreatDoor
