/- The kernel runs the law where the first argument leaves 2, and the second is any. -/
import Derived.Test.YtjacpgdfbbehaaaGreatDoorPg
import Derived.KernelRfl
namespace Go.Proofs.YtjacpgdfbbehaaaGreatDoor.Ev
open Go Go.Proofs
set_option maxRecDepth 1000000
theorem run2 : runIs (call PP2 200 (.func 3) [.modv .u8 6 2, .unk .u8] h0) (.bool true) = true := by kernel_rfl
end Go.Proofs.YtjacpgdfbbehaaaGreatDoor.Ev
