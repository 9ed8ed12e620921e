/- The program as the evaluator reads it, and the same with some functions known. -/
import Derived.Test.YtnfldenbeokblaaGreatDoorProg
import Derived.KernelRfl
import Derived.Test.YtnfldenbeokblaaGreatDoorTab
import Derived.Test.YtnfldenbeokblaaGreatDoorCls
namespace Go.Proofs.YtnfldenbeokblaaGreatDoor.Ev
open Go Go.Proofs
noncomputable def PP0 : Pg := { types := puts ttL, infos := puts infL, sums := .nil, dnop := puts (mapL (fun n => (n, ())) dnL), funcs := T.ofList Tryz.funcs.toList, exts := puts extL }
noncomputable def PP1 : Pg := { PP0 with sums := PP0.sums.put 280 (sum0 (.agg clsL)) }
def sV : List (List AVal × AVal) := [([.str 1384410336324], .bool true)]
noncomputable def PV : Pg := { PP1 with sums := PP1.sums.put 157 (sumL sV) }
def sL : List (List AVal × AVal) := [([.int .u64 1], .int .i64 1), ([.int .u64 2], .int .i64 2), ([.int .u64 0], .int .i64 0)]
noncomputable def PL : Pg := { PV with sums := PV.sums.put 232 (sumL sL) }
def sC : List (List AVal × AVal) := [([.nilSlice], .nilSlice)]
noncomputable def PC : Pg := { PL with sums := PL.sums.put 43 (sumL sC) }
def sE : List (List AVal × AVal) := [([.nilSlice], .nilSlice)]
noncomputable def PE : Pg := { PC with sums := PC.sums.put 42 (sumL sE) }
def sD : List (List AVal × AVal) := [([.str 1384410336324], .str 1)]
noncomputable def PD : Pg := { PE with sums := PE.sums.put 188 (sumL sD) }
def sN : List (List AVal × AVal) := [([.str 1384410336324, .str 303], .int .i64 0)]
noncomputable def PN : Pg := { PD with sums := PD.sums.put 436 (sumL sN) }
def sB : List (List AVal × AVal) := [([.str 1384410336324, .str 303], .bool false)]
noncomputable def PB : Pg := { PN with sums := PN.sums.put 158 (sumL sB) }
noncomputable def PP2 : Pg := PB
noncomputable def PP3 : Pg := { PP2 with sums := PP2.sums.put 8 (sum0 (.bool true)) }
end Go.Proofs.YtnfldenbeokblaaGreatDoor.Ev
