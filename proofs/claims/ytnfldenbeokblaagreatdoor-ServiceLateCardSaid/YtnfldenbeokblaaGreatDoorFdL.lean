/- What the row tells of the functions that the law comes to. -/
import Derived.Test.YtnfldenbeokblaaGreatDoorFaL
import Derived.Test.YtnfldenbeokblaaGreatDoorFbL
namespace Go.Proofs.YtnfldenbeokblaaGreatDoor
open Go
set_option maxRecDepth 1000000
theorem cloL : Tryz.prog.closure 6 = clLL := by
  unfold Program.closure
  rw [fuelL]
  exact cloViaL
theorem unfL : Tryz.prog.unfollowed 6 = true := by
  unfold Program.unfollowed
  rw [cloL]
  kernel_rfl
theorem recL : Tryz.prog.recurses 6 = true := by
  unfold Program.recurses
  rw [unfL]
  rfl
theorem inpL : (Rows.serviceLateRow.inPlace == Tryz.prog.inPlace 6) = true := by
  unfold Program.inPlace
  rw [cloL]
  kernel_rfl
end Go.Proofs.YtnfldenbeokblaaGreatDoor
