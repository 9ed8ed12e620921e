/- The kernel runs codec.Number at every number of groups. -/
import Derived.Test.YtpjkcfglojigmaaGreatDoorPg
import Derived.Test.YtpjkcfglojigmaaGreatDoorEvN
import Derived.KernelRfl
namespace Go.Proofs.YtpjkcfglojigmaaGreatDoor.Ev
open Go Go.Proofs
set_option maxRecDepth 1000000
theorem runN0 : runIs (call PP0 200 (.func 25) [.gr 0 0 (loN 0) (hiN 0)] h0) (.sdg 0 (shape 0 0)) = true := by kernel_rfl
theorem runN1 : runIs (call PP0 200 (.func 25) [.gr 0 0 (loN 1) (hiN 1)] h0) (.sdg 0 (shape 0 1)) = true := by kernel_rfl
theorem runN2 : runIs (call PP0 200 (.func 25) [.gr 0 0 (loN 2) (hiN 2)] h0) (.sdg 0 (shape 0 2)) = true := by kernel_rfl
theorem runN3 : runIs (call PP0 200 (.func 25) [.gr 0 0 (loN 3) (hiN 3)] h0) (.sdg 0 (shape 0 3)) = true := by kernel_rfl
theorem runN4 : runIs (call PP0 200 (.func 25) [.gr 0 0 (loN 4) (hiN 4)] h0) (.sdg 0 (shape 0 4)) = true := by kernel_rfl
theorem runN5 : runIs (call PP0 200 (.func 25) [.gr 0 0 (loN 5) (hiN 5)] h0) (.sdg 0 (shape 0 5)) = true := by kernel_rfl
theorem runN6 : runIs (call PP0 200 (.func 25) [.gr 0 0 (loN 6) (hiN 6)] h0) (.sdg 0 (shape 0 6)) = true := by kernel_rfl
theorem runN7 : runIs (call PP0 200 (.func 25) [.gr 0 0 (loN 7) (hiN 7)] h0) (.sdg 0 (shape 0 7)) = true := by kernel_rfl
theorem runN8 : runIs (call PP0 200 (.func 25) [.gr 0 0 (loN 8) (hiN 8)] h0) (.sdg 0 (shape 0 8)) = true := by kernel_rfl
theorem runN9 : runIs (call PP0 200 (.func 25) [.gr 0 0 (loN 9) (hiN 9)] h0) (.sdg 0 (shape 0 9)) = true := by kernel_rfl
end Go.Proofs.YtpjkcfglojigmaaGreatDoor.Ev
