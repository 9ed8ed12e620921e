/- The kernel runs the law that every other law asks first. -/
import Derived.Test.YtnfldenbeokblaaGreatDoorPg
import Derived.KernelRfl
namespace Go.Proofs.YtnfldenbeokblaaGreatDoor.Ev
open Go Go.Proofs
set_option maxRecDepth 1000000
theorem runS : runIs (call PP2 200 (.func 8) [] h0) (.bool true) = true := by kernel_rfl
end Go.Proofs.YtnfldenbeokblaaGreatDoor.Ev
