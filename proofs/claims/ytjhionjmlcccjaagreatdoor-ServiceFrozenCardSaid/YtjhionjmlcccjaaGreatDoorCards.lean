/-
  DERIVED. GIVEN WITH THE SEED: THE CARDS: each row of YtjhionjmlcccjaaGreatDoorRows.lean that lists a variable, with what it lists TIED to the program's text (the seventh form; the later family's looks); each row that meets fmt, with fmt's text TOLD by the authors' own Lean function (tested against real Go, not proved from fmt's source: count such statements apart). THE CARD IS WHAT COUNTS. Prove the row's statement (the work); the ties are given (YtjhionjmlcccjaaGreatDoorTie.lean); close each card by the builder's one call (the guide's Derived/Test/ToyasCard.lean, 'card_holds'). Laid BY PROGRAM, IN A SANDBOX (cutbox-door.mjs). By AI agents, Wed Nov 11 2026. No macro, syntax, notation, axiom, sorry.
-/
import Derived.Test.YtjhionjmlcccjaaGreatDoorRows
import GoSem.ClaimSeven
namespace Go.Proofs.YtjhionjmlcccjaaGreatDoor
namespace Rows

/-- THE TIED CARD OF 'mainlinelaw24.ServiceApprovals'. -/
def serviceApprovalsCard : Claim7 := { stood := { row := serviceApprovalsRow, standIns := [], harness := (true, "a96daaf8b363b0c4aa52473ba59377aea90d85d108660951b8fb80ff38faf768"), looks := true }, kinds := [], alts := [], laidByText := true, laidKinds := [.data, .pinned], laidTests := true, laidLooks := .later }
def ServiceApprovalsCardSaid : Prop := Claim7.holds Tryz.pinned (.plain (OpenSpec.ofChange serviceApprovalsSpec)) serviceApprovalsCard

/-- THE TIED CARD OF 'mainlinelaw24.ServiceFrozen'. -/
def serviceFrozenCard : Claim7 := { stood := { row := serviceFrozenRow, standIns := [], harness := (true, "a96daaf8b363b0c4aa52473ba59377aea90d85d108660951b8fb80ff38faf768"), looks := true }, kinds := [], alts := [], laidByText := true, laidKinds := [.data, .pinned], laidTests := true, laidLooks := .later }
def ServiceFrozenCardSaid : Prop := Claim7.holds Tryz.pinned (.plain (OpenSpec.ofChange serviceFrozenSpec)) serviceFrozenCard

/-- THE TIED CARD OF 'mainlinelaw24.ServiceRush'. -/
def serviceRushCard : Claim7 := { stood := { row := serviceRushRow, standIns := [], harness := (true, "a96daaf8b363b0c4aa52473ba59377aea90d85d108660951b8fb80ff38faf768"), looks := true }, kinds := [], alts := [], laidByText := true, laidKinds := [.data, .pinned], laidTests := true, laidLooks := .later }
def ServiceRushCardSaid : Prop := Claim7.holds Tryz.pinned (.plain (OpenSpec.ofChange serviceRushSpec)) serviceRushCard

/-- THE TIED CARD OF 'mainlinelaw24.ServiceConflicts'. -/
def serviceConflictsCard : Claim7 := { stood := { row := serviceConflictsRow, standIns := [], harness := (true, "a96daaf8b363b0c4aa52473ba59377aea90d85d108660951b8fb80ff38faf768"), looks := true }, kinds := [], alts := [], laidByText := true, laidKinds := [.data, .pinned], laidTests := true, laidLooks := .later }
def ServiceConflictsCardSaid : Prop := Claim7.holds Tryz.pinned (.plain (OpenSpec.ofChange serviceConflictsSpec)) serviceConflictsCard

/-- THE TIED CARD OF 'mainlinelaw24.ServiceNone'. -/
def serviceNoneCard : Claim7 := { stood := { row := serviceNoneRow, standIns := [], harness := (true, "a96daaf8b363b0c4aa52473ba59377aea90d85d108660951b8fb80ff38faf768"), looks := true }, kinds := [], alts := [], laidByText := true, laidKinds := [.data, .pinned], laidTests := true, laidLooks := .later }
def ServiceNoneCardSaid : Prop := Claim7.holds Tryz.pinned (.plain (OpenSpec.ofChange serviceNoneSpec)) serviceNoneCard

/-- THE SECOND FORM's CARD OF 'mainlinelaw24.ServiceApprovals'. -/
def serviceApprovalsUptoCard : Claim7 := { stood := { row := serviceApprovalsUptoRow, standIns := [], harness := (true, "a96daaf8b363b0c4aa52473ba59377aea90d85d108660951b8fb80ff38faf768"), looks := true }, kinds := [], alts := [], laidByText := true, laidKinds := [.data, .pinned], laidTests := true, laidLooks := .later }
def ServiceApprovalsUptoCardSaid : Prop := Claim7.holds Tryz.pinned (.plain (OpenSpec.upto serviceApprovalsSpec)) serviceApprovalsUptoCard

/-- THE SECOND FORM's CARD OF 'mainlinelaw24.ServiceFrozen'. -/
def serviceFrozenUptoCard : Claim7 := { stood := { row := serviceFrozenUptoRow, standIns := [], harness := (true, "a96daaf8b363b0c4aa52473ba59377aea90d85d108660951b8fb80ff38faf768"), looks := true }, kinds := [], alts := [], laidByText := true, laidKinds := [.data, .pinned], laidTests := true, laidLooks := .later }
def ServiceFrozenUptoCardSaid : Prop := Claim7.holds Tryz.pinned (.plain (OpenSpec.upto serviceFrozenSpec)) serviceFrozenUptoCard

/-- THE SECOND FORM's CARD OF 'mainlinelaw24.ServiceRush'. -/
def serviceRushUptoCard : Claim7 := { stood := { row := serviceRushUptoRow, standIns := [], harness := (true, "a96daaf8b363b0c4aa52473ba59377aea90d85d108660951b8fb80ff38faf768"), looks := true }, kinds := [], alts := [], laidByText := true, laidKinds := [.data, .pinned], laidTests := true, laidLooks := .later }
def ServiceRushUptoCardSaid : Prop := Claim7.holds Tryz.pinned (.plain (OpenSpec.upto serviceRushSpec)) serviceRushUptoCard

/-- THE SECOND FORM's CARD OF 'mainlinelaw24.ServiceConflicts'. -/
def serviceConflictsUptoCard : Claim7 := { stood := { row := serviceConflictsUptoRow, standIns := [], harness := (true, "a96daaf8b363b0c4aa52473ba59377aea90d85d108660951b8fb80ff38faf768"), looks := true }, kinds := [], alts := [], laidByText := true, laidKinds := [.data, .pinned], laidTests := true, laidLooks := .later }
def ServiceConflictsUptoCardSaid : Prop := Claim7.holds Tryz.pinned (.plain (OpenSpec.upto serviceConflictsSpec)) serviceConflictsUptoCard

/-- THE SECOND FORM's CARD OF 'mainlinelaw24.ServiceNone'. -/
def serviceNoneUptoCard : Claim7 := { stood := { row := serviceNoneUptoRow, standIns := [], harness := (true, "a96daaf8b363b0c4aa52473ba59377aea90d85d108660951b8fb80ff38faf768"), looks := true }, kinds := [], alts := [], laidByText := true, laidKinds := [.data, .pinned], laidTests := true, laidLooks := .later }
def ServiceNoneUptoCardSaid : Prop := Claim7.holds Tryz.pinned (.plain (OpenSpec.upto serviceNoneSpec)) serviceNoneUptoCard
end Rows
end Go.Proofs.YtjhionjmlcccjaaGreatDoor
