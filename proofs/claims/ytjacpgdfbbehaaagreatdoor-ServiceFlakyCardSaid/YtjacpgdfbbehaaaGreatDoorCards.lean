/-
  DERIVED. GIVEN WITH THE SEED: THE CARDS: each row of YtjacpgdfbbehaaaGreatDoorRows.lean that lists a variable, with what it lists TIED to the program's text (the seventh form; the later family's looks); each row that meets fmt, with fmt's text TOLD by the authors' own Lean function (tested against real Go, not proved from fmt's source: count such statements apart). THE CARD IS WHAT COUNTS. Prove the row's statement (the work); the ties are given (YtjacpgdfbbehaaaGreatDoorTie.lean); close each card by the builder's one call (the guide's Derived/Test/ToyasCard.lean, 'card_holds'). Laid BY PROGRAM, IN A SANDBOX (cutbox-door.mjs). By AI agents, Wed Nov 11 2026. No macro, syntax, notation, axiom, sorry.
-/
import Derived.Test.YtjacpgdfbbehaaaGreatDoorRows
import GoSem.ClaimSeven
namespace Go.Proofs.YtjacpgdfbbehaaaGreatDoor
namespace Rows

/-- THE TIED CARD OF 'mainlinelaw24.ServiceFlaky'. -/
def serviceFlakyCard : Claim7 := { stood := { row := serviceFlakyRow, standIns := [], harness := (true, "1822a4898d8894994282f56f739e105db31ebd84931af9c712cf4aee16686f5a"), looks := true }, kinds := [], alts := [], laidByText := true, laidKinds := [.data, .pinned], laidTests := true, laidLooks := .later }
def ServiceFlakyCardSaid : Prop := Claim7.holds Tryz.pinned (.plain (OpenSpec.ofChange serviceFlakySpec)) serviceFlakyCard

/-- THE SECOND FORM's CARD OF 'mainlinelaw24.ServiceFlaky'. -/
def serviceFlakyUptoCard : Claim7 := { stood := { row := serviceFlakyUptoRow, standIns := [], harness := (true, "1822a4898d8894994282f56f739e105db31ebd84931af9c712cf4aee16686f5a"), looks := true }, kinds := [], alts := [], laidByText := true, laidKinds := [.data, .pinned], laidTests := true, laidLooks := .later }
def ServiceFlakyUptoCardSaid : Prop := Claim7.holds Tryz.pinned (.plain (OpenSpec.upto serviceFlakySpec)) serviceFlakyUptoCard
end Rows
end Go.Proofs.YtjacpgdfbbehaaaGreatDoor
