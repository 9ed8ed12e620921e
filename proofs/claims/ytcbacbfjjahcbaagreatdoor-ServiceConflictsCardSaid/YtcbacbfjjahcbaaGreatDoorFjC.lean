/- The row's cells are as the program says. -/
import Derived.Test.YtcbacbfjjahcbaaGreatDoorFdC
import Derived.Test.YtcbacbfjjahcbaaGreatDoorFeC
import Derived.Test.YtcbacbfjjahcbaaGreatDoorFg
import Derived.Test.YtcbacbfjjahcbaaGreatDoorFh
import Derived.JoinedOf
namespace Go.Proofs.YtcbacbfjjahcbaaGreatDoor
open Go
set_option maxRecDepth 1000000
theorem and2 {a b : Bool} (h : a = true) (k : b = true) : (a && b) = true := by rw [h, k]; rfl
theorem joinedC : joinedFacts Tryz.prog 3 Tryz.f3 Rows.serviceConflictsSpec Rows.serviceConflictsRow = true := by
  unfold joinedFacts
  refine and2 (and2 (and2 (and2 (and2 (and2 (and2 (and2 (and2 (and2 (and2 (and2 (and2 (and2 (and2 (and2 (and2 (and2 (and2 (and2 (and2 (and2 (and2 (and2 (and2 (and2 (and2 (and2 (and2 (and2 (and2 ?_ ?_) ?_) ?_) ?_) ?_) ?_) ?_) ?_) ?_) ?_) ?_) ?_) ?_) ?_) ?_) ?_) ?_) ?_) ?_) ?_) ?_) ?_) ?_) ?_) ?_) ?_) ?_) ?_) ?_) ?_) ?_
  · kernel_rfl
  · exact laidOut
  · exact mapsRow
  · kernel_rfl
  · kernel_rfl
  · kernel_rfl
  · kernel_rfl
  · kernel_rfl
  · kernel_rfl
  · exact inpC
  · rw [unfC]; rfl
  · rw [recC]; rfl
  · exact namC
  · kernel_rfl
  · kernel_rfl
  · kernel_rfl
  · kernel_rfl
  · kernel_rfl
  · kernel_rfl
  · kernel_rfl
  · kernel_rfl
  · kernel_rfl
  · kernel_rfl
  · kernel_rfl
  · exact stopsH
  · exact mayE
  · kernel_rfl
  · kernel_rfl
  · kernel_rfl
  · kernel_rfl
  · kernel_rfl
  · kernel_rfl
end Go.Proofs.YtcbacbfjjahcbaaGreatDoor
