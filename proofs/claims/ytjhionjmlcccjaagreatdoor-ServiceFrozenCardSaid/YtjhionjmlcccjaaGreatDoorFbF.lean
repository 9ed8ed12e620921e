/- The list of the functions that the law comes to. -/
import Derived.Test.YtjhionjmlcccjaaGreatDoorFcF
namespace Go.Proofs.YtjhionjmlcccjaaGreatDoor
open Go
set_option maxRecDepth 1000000
theorem cloViaF : Tryz.prog.closureVia (1 + clFFuel) [4] [] = clFL := by kernel_rfl
end Go.Proofs.YtjhionjmlcccjaaGreatDoor
