/- The variables that the functions name. -/
import Derived.Test.YtjhionjmlcccjaaGreatDoorFaA
import Derived.Test.YtjhionjmlcccjaaGreatDoorFbA
namespace Go.Proofs.YtjhionjmlcccjaaGreatDoor
open Go
set_option maxRecDepth 1000000
theorem cloA' : Tryz.prog.closure 3 = clAL := by
  unfold Program.closure
  rw [fuelA]
  exact cloViaA
theorem namA : (Rows.serviceApprovalsRow.named == Tryz.prog.varsNamed 3) = true := by
  unfold Program.varsNamed
  rw [cloA']
  kernel_rfl
end Go.Proofs.YtjhionjmlcccjaaGreatDoor
