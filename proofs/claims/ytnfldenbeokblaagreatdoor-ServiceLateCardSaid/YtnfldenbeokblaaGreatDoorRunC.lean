/- The kernel runs the classes of bytes. -/
import Derived.Test.YtnfldenbeokblaaGreatDoorPg
import Derived.KernelRfl
namespace Go.Proofs.YtnfldenbeokblaaGreatDoor.Ev
open Go Go.Proofs
set_option maxRecDepth 1000000
theorem runC : runIs (call PP0 200 (.func 280) [] h0) (.agg clsL) = true := by kernel_rfl
end Go.Proofs.YtnfldenbeokblaaGreatDoor.Ev
