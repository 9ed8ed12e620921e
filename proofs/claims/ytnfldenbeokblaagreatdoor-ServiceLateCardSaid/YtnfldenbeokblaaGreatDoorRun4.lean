/- The kernel runs ServiceLate where the first argument leaves 4, and the second is any. -/
import Derived.Test.YtnfldenbeokblaaGreatDoorPg
import Derived.KernelRfl
namespace Go.Proofs.YtnfldenbeokblaaGreatDoor.Ev
open Go Go.Proofs
set_option maxRecDepth 1000000
theorem run4 : runIs (call PP3 200 (.func 6) [.modv .u8 5 4, .unkBool] h0) (.bool true) = true := by kernel_rfl
end Go.Proofs.YtnfldenbeokblaaGreatDoor.Ev
