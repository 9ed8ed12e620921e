/- The variables that the functions name. -/
import Derived.Test.YtjhionjmlcccjaaGreatDoorFaN
import Derived.Test.YtjhionjmlcccjaaGreatDoorFbN
namespace Go.Proofs.YtjhionjmlcccjaaGreatDoor
open Go
set_option maxRecDepth 1000000
theorem cloN' : Tryz.prog.closure 7 = clNL := by
  unfold Program.closure
  rw [fuelN]
  exact cloViaN
theorem namN : (Rows.serviceNoneRow.named == Tryz.prog.varsNamed 7) = true := by
  unfold Program.varsNamed
  rw [cloN']
  kernel_rfl
end Go.Proofs.YtjhionjmlcccjaaGreatDoor
