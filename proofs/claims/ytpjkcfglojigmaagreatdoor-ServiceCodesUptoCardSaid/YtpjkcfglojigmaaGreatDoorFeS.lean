/- The variables that the functions name. -/
import Derived.Test.YtpjkcfglojigmaaGreatDoorFaS
import Derived.Test.YtpjkcfglojigmaaGreatDoorFbS
namespace Go.Proofs.YtpjkcfglojigmaaGreatDoor
open Go
set_option maxRecDepth 1000000
theorem cloS' : Tryz.prog.closure 3 = clSL := by
  unfold Program.closure
  rw [fuelS]
  exact cloViaS
theorem namS : (Rows.serviceCodesUptoRow.named == Tryz.prog.varsNamed 3) = true := by
  unfold Program.varsNamed
  rw [cloS']
  kernel_rfl
end Go.Proofs.YtpjkcfglojigmaaGreatDoor
