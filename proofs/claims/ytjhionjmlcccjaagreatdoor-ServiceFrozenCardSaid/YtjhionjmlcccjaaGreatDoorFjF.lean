/- The row's cells are as the program says. -/
import Derived.Test.YtjhionjmlcccjaaGreatDoorFdF
import Derived.Test.YtjhionjmlcccjaaGreatDoorFeF
import Derived.Test.YtjhionjmlcccjaaGreatDoorFg
import Derived.Test.YtjhionjmlcccjaaGreatDoorFh
import Derived.JoinedOf
namespace Go.Proofs.YtjhionjmlcccjaaGreatDoor
open Go
set_option maxRecDepth 1000000
theorem and2 {a b : Bool} (h : a = true) (k : b = true) : (a && b) = true := by rw [h, k]; rfl
theorem joinedF : joinedFacts Tryz.prog 4 Tryz.f4 Rows.serviceFrozenSpec Rows.serviceFrozenRow = true := by
  unfold joinedFacts
  refine and2 (and2 (and2 (and2 (and2 (and2 (and2 (and2 (and2 (and2 (and2 (and2 (and2 (and2 (and2 (and2 (and2 (and2 (and2 (and2 (and2 (and2 (and2 (and2 (and2 (and2 (and2 (and2 (and2 (and2 (and2 ?_ ?_) ?_) ?_) ?_) ?_) ?_) ?_) ?_) ?_) ?_) ?_) ?_) ?_) ?_) ?_) ?_) ?_) ?_) ?_) ?_) ?_) ?_) ?_) ?_) ?_) ?_) ?_) ?_) ?_) ?_) ?_
  · kernel_rfl
  · exact laidOut
  · exact mapsRow
  · kernel_rfl
  · kernel_rfl
  · kernel_rfl
  · kernel_rfl
  · kernel_rfl
  · kernel_rfl
  · exact inpF
  · rw [unfF]; rfl
  · rw [recF]; rfl
  · exact namF
  · kernel_rfl
  · kernel_rfl
  · kernel_rfl
  · kernel_rfl
  · kernel_rfl
  · kernel_rfl
  · kernel_rfl
  · kernel_rfl
  · kernel_rfl
  · kernel_rfl
  · kernel_rfl
  · exact stopsH
  · exact mayE
  · kernel_rfl
  · kernel_rfl
  · kernel_rfl
  · kernel_rfl
  · kernel_rfl
  · kernel_rfl
end Go.Proofs.YtjhionjmlcccjaaGreatDoor
