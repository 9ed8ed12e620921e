/- The list of the functions that the law comes to. -/
import Derived.Test.YtjhionjmlcccjaaGreatDoorFcA
namespace Go.Proofs.YtjhionjmlcccjaaGreatDoor
open Go
set_option maxRecDepth 1000000
theorem cloViaA : Tryz.prog.closureVia (1 + clAFuel) [3] [] = clAL := by kernel_rfl
end Go.Proofs.YtjhionjmlcccjaaGreatDoor
