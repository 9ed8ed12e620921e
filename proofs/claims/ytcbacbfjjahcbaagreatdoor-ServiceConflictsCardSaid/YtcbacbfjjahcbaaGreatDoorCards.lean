/-
  DERIVED. GIVEN WITH THE SEED: THE CARDS: each row of YtcbacbfjjahcbaaGreatDoorRows.lean that lists a variable, with what it lists TIED to the program's text (the seventh form; the later family's looks); each row that meets fmt, with fmt's text TOLD by the authors' own Lean function (tested against real Go, not proved from fmt's source: count such statements apart). THE CARD IS WHAT COUNTS. Prove the row's statement (the work); the ties are given (YtcbacbfjjahcbaaGreatDoorTie.lean); close each card by the builder's one call (the guide's Derived/Test/ToyasCard.lean, 'card_holds'). Laid BY PROGRAM, IN A SANDBOX (cutbox-door.mjs). By AI agents, Wed Nov 11 2026. No macro, syntax, notation, axiom, sorry.
-/
import Derived.Test.YtcbacbfjjahcbaaGreatDoorRows
import GoSem.ClaimSeven
namespace Go.Proofs.YtcbacbfjjahcbaaGreatDoor
namespace Rows

/-- THE TIED CARD OF 'mainlinelaw24.ServiceConflicts'. -/
def serviceConflictsCard : Claim7 := { stood := { row := serviceConflictsRow, standIns := [], harness := (true, "95aa85b21691785d10cffae5ae81c5a18e4684e2e5dfbcc9b4e76b1c60493f20"), looks := true }, kinds := [], alts := [], laidByText := true, laidKinds := [.data, .pinned], laidTests := true, laidLooks := .later }
def ServiceConflictsCardSaid : Prop := Claim7.holds Tryz.pinned (.plain (OpenSpec.ofChange serviceConflictsSpec)) serviceConflictsCard

/-- THE TIED CARD OF 'mainlinelaw24.ServiceBranches'. -/
def serviceBranchesCard : Claim7 := { stood := { row := serviceBranchesRow, standIns := [], harness := (true, "95aa85b21691785d10cffae5ae81c5a18e4684e2e5dfbcc9b4e76b1c60493f20"), looks := true }, kinds := [], alts := [], laidByText := true, laidKinds := [.data, .pinned], laidTests := true, laidLooks := .later }
def ServiceBranchesCardSaid : Prop := Claim7.holds Tryz.pinned (.plain (OpenSpec.ofChange serviceBranchesSpec)) serviceBranchesCard

/-- THE SECOND FORM's CARD OF 'mainlinelaw24.ServiceConflicts'. -/
def serviceConflictsUptoCard : Claim7 := { stood := { row := serviceConflictsUptoRow, standIns := [], harness := (true, "95aa85b21691785d10cffae5ae81c5a18e4684e2e5dfbcc9b4e76b1c60493f20"), looks := true }, kinds := [], alts := [], laidByText := true, laidKinds := [.data, .pinned], laidTests := true, laidLooks := .later }
def ServiceConflictsUptoCardSaid : Prop := Claim7.holds Tryz.pinned (.plain (OpenSpec.upto serviceConflictsSpec)) serviceConflictsUptoCard

/-- THE SECOND FORM's CARD OF 'mainlinelaw24.ServiceBranches'. -/
def serviceBranchesUptoCard : Claim7 := { stood := { row := serviceBranchesUptoRow, standIns := [], harness := (true, "95aa85b21691785d10cffae5ae81c5a18e4684e2e5dfbcc9b4e76b1c60493f20"), looks := true }, kinds := [], alts := [], laidByText := true, laidKinds := [.data, .pinned], laidTests := true, laidLooks := .later }
def ServiceBranchesUptoCardSaid : Prop := Claim7.holds Tryz.pinned (.plain (OpenSpec.upto serviceBranchesSpec)) serviceBranchesUptoCard
end Rows
end Go.Proofs.YtcbacbfjjahcbaaGreatDoor
