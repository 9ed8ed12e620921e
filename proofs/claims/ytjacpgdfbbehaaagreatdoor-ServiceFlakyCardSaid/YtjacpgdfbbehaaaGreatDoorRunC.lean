/- The kernel runs the classes of bytes. -/
import Derived.Test.YtjacpgdfbbehaaaGreatDoorPg
import Derived.KernelRfl
namespace Go.Proofs.YtjacpgdfbbehaaaGreatDoor.Ev
open Go Go.Proofs
set_option maxRecDepth 1000000
theorem runC : runIs (call PP0 200 (.func 216) [] h0) (.agg clsL) = true := by kernel_rfl
end Go.Proofs.YtjacpgdfbbehaaaGreatDoor.Ev
