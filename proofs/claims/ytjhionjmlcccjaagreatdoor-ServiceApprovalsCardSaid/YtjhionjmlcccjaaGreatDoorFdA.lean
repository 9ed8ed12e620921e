/- What the row tells of the functions that the law comes to. -/
import Derived.Test.YtjhionjmlcccjaaGreatDoorFaA
import Derived.Test.YtjhionjmlcccjaaGreatDoorFbA
namespace Go.Proofs.YtjhionjmlcccjaaGreatDoor
open Go
set_option maxRecDepth 1000000
theorem cloA : Tryz.prog.closure 3 = clAL := by
  unfold Program.closure
  rw [fuelA]
  exact cloViaA
theorem unfA : Tryz.prog.unfollowed 3 = true := by
  unfold Program.unfollowed
  rw [cloA]
  kernel_rfl
theorem recA : Tryz.prog.recurses 3 = true := by
  unfold Program.recurses
  rw [unfA]
  rfl
theorem inpA : (Rows.serviceApprovalsRow.inPlace == Tryz.prog.inPlace 3) = true := by
  unfold Program.inPlace
  rw [cloA]
  kernel_rfl
end Go.Proofs.YtjhionjmlcccjaaGreatDoor
