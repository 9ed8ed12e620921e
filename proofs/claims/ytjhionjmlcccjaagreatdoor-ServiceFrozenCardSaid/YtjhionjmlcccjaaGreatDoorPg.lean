/- The program as the evaluator reads it, and the same with some functions known. -/
import Derived.Test.YtjhionjmlcccjaaGreatDoorProg
import Derived.KernelRfl
import Derived.Test.YtjhionjmlcccjaaGreatDoorTab
import Derived.Test.YtjhionjmlcccjaaGreatDoorCls
namespace Go.Proofs.YtjhionjmlcccjaaGreatDoor.Ev
open Go Go.Proofs
def mkL : List (Nat × Nat) := [(95, 1), (137, 524289), (161, 1), (208, 1), (273, 2049), (308, 1), (369, 1), (432, 1), (433, 1)]
noncomputable def PP0 : Pg := { types := puts ttL, infos := puts infL, sums := .nil, dnop := puts (mapL (fun n => (n, ())) dnL), funcs := T.ofList Tryz.funcs.toList, exts := puts extL, marks := puts mkL, cps := .nil }
noncomputable def PP1 : Pg := { PP0 with sums := PP0.sums.put 286 (sum0 (.agg clsL)) }
noncomputable def PC : Pg := { PP1 with sums := PP1.sums.put 168 ⟨contA⟩ }
noncomputable def PP2 : Pg := PC
noncomputable def PP3 : Pg := { PP2 with sums := PP2.sums.put 8 (sum0 (.bool true)) }
end Go.Proofs.YtjhionjmlcccjaaGreatDoor.Ev
