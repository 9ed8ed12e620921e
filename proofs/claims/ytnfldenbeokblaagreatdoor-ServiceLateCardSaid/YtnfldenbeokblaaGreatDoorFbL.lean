/- The list of the functions that the law comes to. -/
import Derived.Test.YtnfldenbeokblaaGreatDoorFcL
namespace Go.Proofs.YtnfldenbeokblaaGreatDoor
open Go
set_option maxRecDepth 1000000
theorem cloViaL : Tryz.prog.closureVia (1 + clLFuel) [6] [] = clLL := by kernel_rfl
end Go.Proofs.YtnfldenbeokblaaGreatDoor
