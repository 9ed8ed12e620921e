/- The kernel runs the law that every other law asks first. -/
import Derived.Test.YtjacpgdfbbehaaaGreatDoorPg
import Derived.KernelRfl
namespace Go.Proofs.YtjacpgdfbbehaaaGreatDoor.Ev
open Go Go.Proofs
set_option maxRecDepth 1000000
theorem runS : runIs (call PP1 200 (.func 4) [] h0) (.bool true) = true := by kernel_rfl
end Go.Proofs.YtjacpgdfbbehaaaGreatDoor.Ev
