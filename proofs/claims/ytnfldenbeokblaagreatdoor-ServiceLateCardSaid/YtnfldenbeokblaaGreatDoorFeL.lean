/- The variables that the functions name. -/
import Derived.Test.YtnfldenbeokblaaGreatDoorFaL
import Derived.Test.YtnfldenbeokblaaGreatDoorFbL
namespace Go.Proofs.YtnfldenbeokblaaGreatDoor
open Go
set_option maxRecDepth 1000000
theorem cloL' : Tryz.prog.closure 6 = clLL := by
  unfold Program.closure
  rw [fuelL]
  exact cloViaL
theorem namL : (Rows.serviceLateRow.named == Tryz.prog.varsNamed 6) = true := by
  unfold Program.varsNamed
  rw [cloL']
  kernel_rfl
end Go.Proofs.YtnfldenbeokblaaGreatDoor
