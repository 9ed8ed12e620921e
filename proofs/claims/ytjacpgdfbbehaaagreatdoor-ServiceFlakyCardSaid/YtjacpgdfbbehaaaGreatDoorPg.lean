/- The program as the evaluator reads it, and the same with the classes of bytes known. -/
import Derived.Test.YtjacpgdfbbehaaaGreatDoorProg
import Derived.KernelRfl
import Derived.Test.YtjacpgdfbbehaaaGreatDoorTab
import Derived.Test.YtjacpgdfbbehaaaGreatDoorCls
namespace Go.Proofs.YtjacpgdfbbehaaaGreatDoor.Ev
open Go Go.Proofs
noncomputable def PP0 : Pg := { types := puts ttL, infos := puts infL, sums := .nil, dnop := puts (mapL (fun n => (n, ())) dnL), funcs := T.ofList Tryz.funcs.toList, exts := puts extL }
noncomputable def PP1 : Pg := { PP0 with sums := PP0.sums.put 216 (sum0 (.agg clsL)) }
noncomputable def PP2 : Pg := { PP1 with sums := PP1.sums.put 4 (sum0 (.bool true)) }
end Go.Proofs.YtjacpgdfbbehaaaGreatDoor.Ev
