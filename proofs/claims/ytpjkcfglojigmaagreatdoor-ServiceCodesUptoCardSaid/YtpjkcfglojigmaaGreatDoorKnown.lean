/- What is known of some functions. -/
import Derived.Test.YtpjkcfglojigmaaGreatDoorPgOk
import Derived.Test.YtpjkcfglojigmaaGreatDoorRunC
import Derived.Test.YtpjkcfglojigmaaGreatDoorRunS
import Derived.Test.YtpjkcfglojigmaaGreatDoorCon
namespace Go.Proofs.YtpjkcfglojigmaaGreatDoor.Ev
open Go Go.Proofs
set_option maxRecDepth 100000
set_option linter.unusedVariables false
set_option linter.unusedSimpArgs false
theorem hfC : PP0.funcs.get 230 = some Tryz.f230 := by kernel_rfl
theorem hbC : Tryz.f230.body.isSome = true := by kernel_rfl
theorem hvC : closedV 4 (.agg clsL) = true := by kernel_rfl
theorem G1 : PgOK Tryz.prog PP1 := @PgOK.addSum Tryz.prog PP0 G0 230 Tryz.f230 hfC hbC (sum0 (.agg clsL)) (@sum0_ok Tryz.prog PP0 G0 200 230 Tryz.f230 hfC hbC (.agg clsL) runC 4 hvC)
theorem hfZ : PP0.funcs.get 108 = some Tryz.f108 := by kernel_rfl
theorem hbZ : Tryz.f108.body.isSome = true := by kernel_rfl
theorem GC : PgOK Tryz.prog PC := @PgOK.addSum Tryz.prog PP1 G1 108 Tryz.f108 hfZ hbZ ⟨contA⟩ conS
theorem G2 : PgOK Tryz.prog PP2 := GC
theorem hfS : PP0.funcs.get 4 = some Tryz.f4 := by kernel_rfl
theorem hbS : Tryz.f4.body.isSome = true := by kernel_rfl
theorem G3 : PgOK Tryz.prog PP3 := @PgOK.addSum Tryz.prog PP2 G2 4 Tryz.f4 hfS hbS (sum0 (.bool true)) (@sum0_ok Tryz.prog PP2 G2 200 4 Tryz.f4 hfS hbS (.bool true) runS 4 rfl)
end Go.Proofs.YtpjkcfglojigmaaGreatDoor.Ev
