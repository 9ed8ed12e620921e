/- The list of the functions that the law comes to. -/
import Derived.Test.YtjhionjmlcccjaaGreatDoorFcN
namespace Go.Proofs.YtjhionjmlcccjaaGreatDoor
open Go
set_option maxRecDepth 1000000
theorem cloViaN : Tryz.prog.closureVia (1 + clNFuel) [7] [] = clNL := by kernel_rfl
end Go.Proofs.YtjhionjmlcccjaaGreatDoor
