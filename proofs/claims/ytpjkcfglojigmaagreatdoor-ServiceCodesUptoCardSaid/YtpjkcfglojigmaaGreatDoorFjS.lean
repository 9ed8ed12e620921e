/- The row's cells are as the program says. -/
import Derived.Test.YtpjkcfglojigmaaGreatDoorFdS
import Derived.Test.YtpjkcfglojigmaaGreatDoorFeS
import Derived.Test.YtpjkcfglojigmaaGreatDoorFg
import Derived.Test.YtpjkcfglojigmaaGreatDoorFh
import Derived.JoinedOf
namespace Go.Proofs.YtpjkcfglojigmaaGreatDoor
open Go
set_option maxRecDepth 1000000
theorem and2 {a b : Bool} (h : a = true) (k : b = true) : (a && b) = true := by rw [h, k]; rfl
theorem joinedS : joinedFacts Tryz.prog 3 Tryz.f3 Rows.serviceCodesSpec Rows.serviceCodesUptoRow = true := by
  unfold joinedFacts
  refine and2 (and2 (and2 (and2 (and2 (and2 (and2 (and2 (and2 (and2 (and2 (and2 (and2 (and2 (and2 (and2 (and2 (and2 (and2 (and2 (and2 (and2 (and2 (and2 (and2 (and2 (and2 (and2 (and2 (and2 (and2 ?_ ?_) ?_) ?_) ?_) ?_) ?_) ?_) ?_) ?_) ?_) ?_) ?_) ?_) ?_) ?_) ?_) ?_) ?_) ?_) ?_) ?_) ?_) ?_) ?_) ?_) ?_) ?_) ?_) ?_) ?_) ?_
  · kernel_rfl
  · exact laidOut
  · exact mapsRow
  · kernel_rfl
  · kernel_rfl
  · kernel_rfl
  · kernel_rfl
  · kernel_rfl
  · kernel_rfl
  · exact inpS
  · rw [unfS]; rfl
  · rw [recS]; rfl
  · exact namS
  · kernel_rfl
  · kernel_rfl
  · kernel_rfl
  · kernel_rfl
  · kernel_rfl
  · kernel_rfl
  · kernel_rfl
  · kernel_rfl
  · kernel_rfl
  · kernel_rfl
  · kernel_rfl
  · exact stopsH
  · exact mayE
  · kernel_rfl
  · kernel_rfl
  · kernel_rfl
  · kernel_rfl
  · kernel_rfl
  · kernel_rfl
end Go.Proofs.YtpjkcfglojigmaaGreatDoor
