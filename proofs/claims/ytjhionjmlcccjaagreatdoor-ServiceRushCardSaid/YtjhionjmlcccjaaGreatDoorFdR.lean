/- What the row tells of the functions that the law comes to. -/
import Derived.Test.YtjhionjmlcccjaaGreatDoorFaR
import Derived.Test.YtjhionjmlcccjaaGreatDoorFbR
namespace Go.Proofs.YtjhionjmlcccjaaGreatDoor
open Go
set_option maxRecDepth 1000000
theorem cloR : Tryz.prog.closure 5 = clRL := by
  unfold Program.closure
  rw [fuelR]
  exact cloViaR
theorem unfR : Tryz.prog.unfollowed 5 = true := by
  unfold Program.unfollowed
  rw [cloR]
  kernel_rfl
theorem recR : Tryz.prog.recurses 5 = true := by
  unfold Program.recurses
  rw [unfR]
  rfl
theorem inpR : (Rows.serviceRushRow.inPlace == Tryz.prog.inPlace 5) = true := by
  unfold Program.inPlace
  rw [cloR]
  kernel_rfl
end Go.Proofs.YtjhionjmlcccjaaGreatDoor
