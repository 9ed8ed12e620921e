/- The variables that the functions name. -/
import Derived.Test.YtjhionjmlcccjaaGreatDoorFaR
import Derived.Test.YtjhionjmlcccjaaGreatDoorFbR
namespace Go.Proofs.YtjhionjmlcccjaaGreatDoor
open Go
set_option maxRecDepth 1000000
theorem cloR' : Tryz.prog.closure 5 = clRL := by
  unfold Program.closure
  rw [fuelR]
  exact cloViaR
theorem namR : (Rows.serviceRushRow.named == Tryz.prog.varsNamed 5) = true := by
  unfold Program.varsNamed
  rw [cloR']
  kernel_rfl
end Go.Proofs.YtjhionjmlcccjaaGreatDoor
