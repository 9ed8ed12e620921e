/- What the row tells of the functions that the law comes to. -/
import Derived.Test.YtjhionjmlcccjaaGreatDoorFaN
import Derived.Test.YtjhionjmlcccjaaGreatDoorFbN
namespace Go.Proofs.YtjhionjmlcccjaaGreatDoor
open Go
set_option maxRecDepth 1000000
theorem cloN : Tryz.prog.closure 7 = clNL := by
  unfold Program.closure
  rw [fuelN]
  exact cloViaN
theorem unfN : Tryz.prog.unfollowed 7 = true := by
  unfold Program.unfollowed
  rw [cloN]
  kernel_rfl
theorem recN : Tryz.prog.recurses 7 = true := by
  unfold Program.recurses
  rw [unfN]
  rfl
theorem inpN : (Rows.serviceNoneRow.inPlace == Tryz.prog.inPlace 7) = true := by
  unfold Program.inPlace
  rw [cloN]
  kernel_rfl
end Go.Proofs.YtjhionjmlcccjaaGreatDoor
