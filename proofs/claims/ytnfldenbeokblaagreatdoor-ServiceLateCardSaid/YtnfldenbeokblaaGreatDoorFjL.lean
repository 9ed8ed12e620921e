/- The row's cells are as the program says. -/
import Derived.Test.YtnfldenbeokblaaGreatDoorFdL
import Derived.Test.YtnfldenbeokblaaGreatDoorFeL
import Derived.Test.YtnfldenbeokblaaGreatDoorFg
import Derived.Test.YtnfldenbeokblaaGreatDoorFh
import Derived.JoinedOf
namespace Go.Proofs.YtnfldenbeokblaaGreatDoor
open Go
set_option maxRecDepth 1000000
theorem and2 {a b : Bool} (h : a = true) (k : b = true) : (a && b) = true := by rw [h, k]; rfl
theorem joinedL : joinedFacts Tryz.prog 6 Tryz.f6 Rows.serviceLateSpec Rows.serviceLateRow = true := by
  unfold joinedFacts
  refine and2 (and2 (and2 (and2 (and2 (and2 (and2 (and2 (and2 (and2 (and2 (and2 (and2 (and2 (and2 (and2 (and2 (and2 (and2 (and2 (and2 (and2 (and2 (and2 (and2 (and2 (and2 (and2 (and2 (and2 (and2 ?_ ?_) ?_) ?_) ?_) ?_) ?_) ?_) ?_) ?_) ?_) ?_) ?_) ?_) ?_) ?_) ?_) ?_) ?_) ?_) ?_) ?_) ?_) ?_) ?_) ?_) ?_) ?_) ?_) ?_) ?_) ?_
  · kernel_rfl
  · exact laidOut
  · exact mapsRow
  · kernel_rfl
  · kernel_rfl
  · kernel_rfl
  · kernel_rfl
  · kernel_rfl
  · kernel_rfl
  · exact inpL
  · rw [unfL]; rfl
  · rw [recL]; rfl
  · exact namL
  · kernel_rfl
  · kernel_rfl
  · kernel_rfl
  · kernel_rfl
  · kernel_rfl
  · kernel_rfl
  · kernel_rfl
  · kernel_rfl
  · kernel_rfl
  · kernel_rfl
  · kernel_rfl
  · exact stopsH
  · exact mayE
  · kernel_rfl
  · kernel_rfl
  · kernel_rfl
  · kernel_rfl
  · kernel_rfl
  · kernel_rfl
end Go.Proofs.YtnfldenbeokblaaGreatDoor
