/- The program as the evaluator reads it, and the same with some functions known. -/
import Derived.Test.YtpjkcfglojigmaaGreatDoorProg
import Derived.KernelRfl
import Derived.Test.YtpjkcfglojigmaaGreatDoorTab
import Derived.Test.YtpjkcfglojigmaaGreatDoorCls
namespace Go.Proofs.YtpjkcfglojigmaaGreatDoor.Ev
open Go Go.Proofs
def mkL : List (Nat × Nat) := [(62, 1), (103, 1), (138, 206158430209), (208, 1), (273, 2097153), (317, 1), (375, 1), (435, 1), (436, 1), (614, 1)]
def padT : List (Nat × Nat) := [(172, 200), (235, 200), (269, 200), (333, 200), (336, 200)]
def aliT : List (Nat × Nat) := []
noncomputable def PP0 : Pg := { types := puts ttL, infos := puts infL, sums := .nil, dnop := puts (mapL (fun n => (n, ())) dnL), funcs := T.ofList Tryz.funcs.toList, exts := puts extL, marks := puts mkL, cps := .nil, pads := puts padT, frs := .nil, aligns := puts aliT, picks := .nil }
noncomputable def PP1 : Pg := { PP0 with sums := PP0.sums.put 230 (sum0 (.agg clsL)) }
noncomputable def PC : Pg := { PP1 with sums := PP1.sums.put 108 ⟨contA⟩ }
noncomputable def PP2 : Pg := PC
noncomputable def PP3 : Pg := { PP2 with sums := PP2.sums.put 4 (sum0 (.bool true)) }
end Go.Proofs.YtpjkcfglojigmaaGreatDoor.Ev
