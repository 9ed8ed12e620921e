/- What the row tells of the functions that the law comes to. -/
import Derived.Test.YtjhionjmlcccjaaGreatDoorFaF
import Derived.Test.YtjhionjmlcccjaaGreatDoorFbF
namespace Go.Proofs.YtjhionjmlcccjaaGreatDoor
open Go
set_option maxRecDepth 1000000
theorem cloF : Tryz.prog.closure 4 = clFL := by
  unfold Program.closure
  rw [fuelF]
  exact cloViaF
theorem unfF : Tryz.prog.unfollowed 4 = true := by
  unfold Program.unfollowed
  rw [cloF]
  kernel_rfl
theorem recF : Tryz.prog.recurses 4 = true := by
  unfold Program.recurses
  rw [unfF]
  rfl
theorem inpF : (Rows.serviceFrozenRow.inPlace == Tryz.prog.inPlace 4) = true := by
  unfold Program.inPlace
  rw [cloF]
  kernel_rfl
end Go.Proofs.YtjhionjmlcccjaaGreatDoor
