/- The variables that the functions name. -/
import Derived.Test.YtjhionjmlcccjaaGreatDoorFaF
import Derived.Test.YtjhionjmlcccjaaGreatDoorFbF
namespace Go.Proofs.YtjhionjmlcccjaaGreatDoor
open Go
set_option maxRecDepth 1000000
theorem cloF' : Tryz.prog.closure 4 = clFL := by
  unfold Program.closure
  rw [fuelF]
  exact cloViaF
theorem namF : (Rows.serviceFrozenRow.named == Tryz.prog.varsNamed 4) = true := by
  unfold Program.varsNamed
  rw [cloF']
  kernel_rfl
end Go.Proofs.YtjhionjmlcccjaaGreatDoor
