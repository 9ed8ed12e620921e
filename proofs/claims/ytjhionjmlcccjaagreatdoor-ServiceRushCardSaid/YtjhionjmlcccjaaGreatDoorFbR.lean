/- The list of the functions that the law comes to. -/
import Derived.Test.YtjhionjmlcccjaaGreatDoorFcR
namespace Go.Proofs.YtjhionjmlcccjaaGreatDoor
open Go
set_option maxRecDepth 1000000
theorem cloViaR : Tryz.prog.closureVia (1 + clRFuel) [5] [] = clRL := by kernel_rfl
end Go.Proofs.YtjhionjmlcccjaaGreatDoor
