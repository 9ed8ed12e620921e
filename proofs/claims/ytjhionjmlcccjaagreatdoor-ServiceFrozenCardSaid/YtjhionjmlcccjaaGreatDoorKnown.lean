/- What is known of some functions. -/
import Derived.Test.YtjhionjmlcccjaaGreatDoorPgOk
import Derived.Test.YtjhionjmlcccjaaGreatDoorRunC
import Derived.Test.YtjhionjmlcccjaaGreatDoorRunS
import Derived.Test.YtjhionjmlcccjaaGreatDoorCon
namespace Go.Proofs.YtjhionjmlcccjaaGreatDoor.Ev
open Go Go.Proofs
set_option maxRecDepth 100000
set_option linter.unusedVariables false
set_option linter.unusedSimpArgs false
theorem hfC : PP0.funcs.get 286 = some Tryz.f286 := by kernel_rfl
theorem hbC : Tryz.f286.body.isSome = true := by kernel_rfl
theorem hvC : closedV 4 (.agg clsL) = true := by kernel_rfl
theorem G1 : PgOK Tryz.prog PP1 := @PgOK.addSum Tryz.prog PP0 G0 286 Tryz.f286 hfC hbC (sum0 (.agg clsL)) (@sum0_ok Tryz.prog PP0 G0 200 286 Tryz.f286 hfC hbC (.agg clsL) runC 4 hvC)
theorem hfZ : PP0.funcs.get 168 = some Tryz.f168 := by kernel_rfl
theorem hbZ : Tryz.f168.body.isSome = true := by kernel_rfl
theorem GC : PgOK Tryz.prog PC := @PgOK.addSum Tryz.prog PP1 G1 168 Tryz.f168 hfZ hbZ ⟨contA⟩ conS
theorem G2 : PgOK Tryz.prog PP2 := GC
theorem hfS : PP0.funcs.get 8 = some Tryz.f8 := by kernel_rfl
theorem hbS : Tryz.f8.body.isSome = true := by kernel_rfl
theorem G3 : PgOK Tryz.prog PP3 := @PgOK.addSum Tryz.prog PP2 G2 8 Tryz.f8 hfS hbS (sum0 (.bool true)) (@sum0_ok Tryz.prog PP2 G2 200 8 Tryz.f8 hfS hbS (.bool true) runS 4 rfl)
end Go.Proofs.YtjhionjmlcccjaaGreatDoor.Ev
