/- What is known of some functions. -/
import Derived.Test.YtcbacbfjjahcbaaGreatDoorPgOk
import Derived.Test.YtcbacbfjjahcbaaGreatDoorRunC
import Derived.Test.YtcbacbfjjahcbaaGreatDoorRunS
import Derived.Test.YtcbacbfjjahcbaaGreatDoorRunK
import Derived.Test.YtcbacbfjjahcbaaGreatDoorCon
namespace Go.Proofs.YtcbacbfjjahcbaaGreatDoor.Ev
open Go Go.Proofs
set_option maxRecDepth 100000
set_option linter.unusedVariables false
set_option linter.unusedSimpArgs false
theorem hfC : PP0.funcs.get 284 = some Tryz.f284 := by kernel_rfl
theorem hbC : Tryz.f284.body.isSome = true := by kernel_rfl
theorem hvC : closedV 4 (.agg clsL) = true := by kernel_rfl
theorem G1 : PgOK Tryz.prog PP1 := @PgOK.addSum Tryz.prog PP0 G0 284 Tryz.f284 hfC hbC (sum0 (.agg clsL)) (@sum0_ok Tryz.prog PP0 G0 200 284 Tryz.f284 hfC hbC (.agg clsL) runC 4 hvC)
theorem hfKP : PP0.funcs.get 171 = some Tryz.f171 := by kernel_rfl
theorem hbKP : Tryz.f171.body.isSome = true := by kernel_rfl
theorem okKP : ∀ x ∈ sP, closedL (closedV 4) x.1 = true ∧ closedV 4 x.2 = true ∧ runIs (call PP1 200 (.func 171) x.1 h0) x.2 = true := List.forall_mem_cons.2 ⟨⟨rfl, rfl, runP0⟩, List.forall_mem_cons.2 ⟨⟨rfl, rfl, runP1⟩, List.forall_mem_cons.2 ⟨⟨rfl, rfl, runP2⟩, List.forall_mem_cons.2 ⟨⟨rfl, rfl, runP3⟩, List.forall_mem_cons.2 ⟨⟨rfl, rfl, runP4⟩, List.forall_mem_cons.2 ⟨⟨rfl, rfl, runP5⟩, List.forall_mem_cons.2 ⟨⟨rfl, rfl, runP6⟩, List.forall_mem_cons.2 ⟨⟨rfl, rfl, runP7⟩, List.forall_mem_cons.2 ⟨⟨rfl, rfl, runP8⟩, List.forall_mem_cons.2 ⟨⟨rfl, rfl, runP9⟩, List.forall_mem_cons.2 ⟨⟨rfl, rfl, runP10⟩, List.forall_mem_cons.2 ⟨⟨rfl, rfl, runP11⟩, List.forall_mem_cons.2 ⟨⟨rfl, rfl, runP12⟩, List.forall_mem_cons.2 ⟨⟨rfl, rfl, runP13⟩, List.forall_mem_cons.2 ⟨⟨rfl, rfl, runP14⟩, List.forall_mem_cons.2 ⟨⟨rfl, rfl, runP15⟩, List.forall_mem_cons.2 ⟨⟨rfl, rfl, runP16⟩, List.forall_mem_cons.2 ⟨⟨rfl, rfl, runP17⟩, List.forall_mem_cons.2 ⟨⟨rfl, rfl, runP18⟩, List.forall_mem_cons.2 ⟨⟨rfl, rfl, runP19⟩, List.forall_mem_cons.2 ⟨⟨rfl, rfl, runP20⟩, List.forall_mem_cons.2 ⟨⟨rfl, rfl, runP21⟩, List.forall_mem_cons.2 ⟨⟨rfl, rfl, runP22⟩, List.forall_mem_cons.2 ⟨⟨rfl, rfl, runP23⟩, List.forall_mem_cons.2 ⟨⟨rfl, rfl, runP24⟩, List.forall_mem_cons.2 ⟨⟨rfl, rfl, runP25⟩, List.forall_mem_cons.2 ⟨⟨rfl, rfl, runP26⟩, List.forall_mem_cons.2 ⟨⟨rfl, rfl, runP27⟩, List.forall_mem_cons.2 ⟨⟨rfl, rfl, runP28⟩, (fun _ h => nomatch h)⟩⟩⟩⟩⟩⟩⟩⟩⟩⟩⟩⟩⟩⟩⟩⟩⟩⟩⟩⟩⟩⟩⟩⟩⟩⟩⟩⟩⟩
theorem GKP : PgOK Tryz.prog PP := @PgOK.addSum Tryz.prog PP1 G1 171 Tryz.f171 hfKP hbKP (sumL sP) (@sumL_ok Tryz.prog PP1 G1 200 171 Tryz.f171 hfKP hbKP sP 4 okKP)
theorem hfKQ : PP0.funcs.get 193 = some Tryz.f193 := by kernel_rfl
theorem hbKQ : Tryz.f193.body.isSome = true := by kernel_rfl
theorem okKQ : ∀ x ∈ sQ, closedL (closedV 4) x.1 = true ∧ closedV 4 x.2 = true ∧ runIs (call PP1 200 (.func 193) x.1 h0) x.2 = true := List.forall_mem_cons.2 ⟨⟨rfl, rfl, runQ0⟩, List.forall_mem_cons.2 ⟨⟨rfl, rfl, runQ1⟩, List.forall_mem_cons.2 ⟨⟨rfl, rfl, runQ2⟩, List.forall_mem_cons.2 ⟨⟨rfl, rfl, runQ3⟩, List.forall_mem_cons.2 ⟨⟨rfl, rfl, runQ4⟩, List.forall_mem_cons.2 ⟨⟨rfl, rfl, runQ5⟩, List.forall_mem_cons.2 ⟨⟨rfl, rfl, runQ6⟩, List.forall_mem_cons.2 ⟨⟨rfl, rfl, runQ7⟩, List.forall_mem_cons.2 ⟨⟨rfl, rfl, runQ8⟩, List.forall_mem_cons.2 ⟨⟨rfl, rfl, runQ9⟩, (fun _ h => nomatch h)⟩⟩⟩⟩⟩⟩⟩⟩⟩⟩
theorem GKQ : PgOK Tryz.prog PQ := @PgOK.addSum Tryz.prog PP GKP 193 Tryz.f193 hfKQ hbKQ (sumL sQ) (@sumL_ok Tryz.prog PP1 G1 200 193 Tryz.f193 hfKQ hbKQ sQ 4 okKQ)
theorem hfKX : PP0.funcs.get 266 = some Tryz.f266 := by kernel_rfl
theorem hbKX : Tryz.f266.body.isSome = true := by kernel_rfl
theorem okKX : ∀ x ∈ sX, closedL (closedV 4) x.1 = true ∧ closedV 4 x.2 = true ∧ runIs (call PP1 200 (.func 266) x.1 h0) x.2 = true := List.forall_mem_cons.2 ⟨⟨rfl, rfl, runX0⟩, List.forall_mem_cons.2 ⟨⟨rfl, rfl, runX1⟩, List.forall_mem_cons.2 ⟨⟨rfl, rfl, runX2⟩, List.forall_mem_cons.2 ⟨⟨rfl, rfl, runX3⟩, List.forall_mem_cons.2 ⟨⟨rfl, rfl, runX4⟩, List.forall_mem_cons.2 ⟨⟨rfl, rfl, runX5⟩, List.forall_mem_cons.2 ⟨⟨rfl, rfl, runX6⟩, List.forall_mem_cons.2 ⟨⟨rfl, rfl, runX7⟩, List.forall_mem_cons.2 ⟨⟨rfl, rfl, runX8⟩, List.forall_mem_cons.2 ⟨⟨rfl, rfl, runX9⟩, List.forall_mem_cons.2 ⟨⟨rfl, rfl, runX10⟩, List.forall_mem_cons.2 ⟨⟨rfl, rfl, runX11⟩, List.forall_mem_cons.2 ⟨⟨rfl, rfl, runX12⟩, List.forall_mem_cons.2 ⟨⟨rfl, rfl, runX13⟩, List.forall_mem_cons.2 ⟨⟨rfl, rfl, runX14⟩, List.forall_mem_cons.2 ⟨⟨rfl, rfl, runX15⟩, List.forall_mem_cons.2 ⟨⟨rfl, rfl, runX16⟩, List.forall_mem_cons.2 ⟨⟨rfl, rfl, runX17⟩, List.forall_mem_cons.2 ⟨⟨rfl, rfl, runX18⟩, List.forall_mem_cons.2 ⟨⟨rfl, rfl, runX19⟩, List.forall_mem_cons.2 ⟨⟨rfl, rfl, runX20⟩, List.forall_mem_cons.2 ⟨⟨rfl, rfl, runX21⟩, List.forall_mem_cons.2 ⟨⟨rfl, rfl, runX22⟩, List.forall_mem_cons.2 ⟨⟨rfl, rfl, runX23⟩, List.forall_mem_cons.2 ⟨⟨rfl, rfl, runX24⟩, List.forall_mem_cons.2 ⟨⟨rfl, rfl, runX25⟩, List.forall_mem_cons.2 ⟨⟨rfl, rfl, runX26⟩, List.forall_mem_cons.2 ⟨⟨rfl, rfl, runX27⟩, List.forall_mem_cons.2 ⟨⟨rfl, rfl, runX28⟩, List.forall_mem_cons.2 ⟨⟨rfl, rfl, runX29⟩, List.forall_mem_cons.2 ⟨⟨rfl, rfl, runX30⟩, List.forall_mem_cons.2 ⟨⟨rfl, rfl, runX31⟩, List.forall_mem_cons.2 ⟨⟨rfl, rfl, runX32⟩, List.forall_mem_cons.2 ⟨⟨rfl, rfl, runX33⟩, List.forall_mem_cons.2 ⟨⟨rfl, rfl, runX34⟩, (fun _ h => nomatch h)⟩⟩⟩⟩⟩⟩⟩⟩⟩⟩⟩⟩⟩⟩⟩⟩⟩⟩⟩⟩⟩⟩⟩⟩⟩⟩⟩⟩⟩⟩⟩⟩⟩⟩⟩
theorem GKX : PgOK Tryz.prog PX := @PgOK.addSum Tryz.prog PQ GKQ 266 Tryz.f266 hfKX hbKX (sumL sX) (@sumL_ok Tryz.prog PP1 G1 200 266 Tryz.f266 hfKX hbKX sX 4 okKX)
theorem hfKY : PP0.funcs.get 322 = some Tryz.f322 := by kernel_rfl
theorem hbKY : Tryz.f322.body.isSome = true := by kernel_rfl
theorem okKY : ∀ x ∈ sY, closedL (closedV 4) x.1 = true ∧ closedV 4 x.2 = true ∧ runIs (call PP1 200 (.func 322) x.1 h0) x.2 = true := List.forall_mem_cons.2 ⟨⟨rfl, rfl, runY0⟩, List.forall_mem_cons.2 ⟨⟨rfl, rfl, runY1⟩, List.forall_mem_cons.2 ⟨⟨rfl, rfl, runY2⟩, List.forall_mem_cons.2 ⟨⟨rfl, rfl, runY3⟩, List.forall_mem_cons.2 ⟨⟨rfl, rfl, runY4⟩, List.forall_mem_cons.2 ⟨⟨rfl, rfl, runY5⟩, List.forall_mem_cons.2 ⟨⟨rfl, rfl, runY6⟩, List.forall_mem_cons.2 ⟨⟨rfl, rfl, runY7⟩, List.forall_mem_cons.2 ⟨⟨rfl, rfl, runY8⟩, List.forall_mem_cons.2 ⟨⟨rfl, rfl, runY9⟩, List.forall_mem_cons.2 ⟨⟨rfl, rfl, runY10⟩, List.forall_mem_cons.2 ⟨⟨rfl, rfl, runY11⟩, List.forall_mem_cons.2 ⟨⟨rfl, rfl, runY12⟩, List.forall_mem_cons.2 ⟨⟨rfl, rfl, runY13⟩, List.forall_mem_cons.2 ⟨⟨rfl, rfl, runY14⟩, List.forall_mem_cons.2 ⟨⟨rfl, rfl, runY15⟩, List.forall_mem_cons.2 ⟨⟨rfl, rfl, runY16⟩, (fun _ h => nomatch h)⟩⟩⟩⟩⟩⟩⟩⟩⟩⟩⟩⟩⟩⟩⟩⟩⟩
theorem GKY : PgOK Tryz.prog PY := @PgOK.addSum Tryz.prog PX GKX 322 Tryz.f322 hfKY hbKY (sumL sY) (@sumL_ok Tryz.prog PP1 G1 200 322 Tryz.f322 hfKY hbKY sY 4 okKY)
theorem hfZ : PP0.funcs.get 162 = some Tryz.f162 := by kernel_rfl
theorem hbZ : Tryz.f162.body.isSome = true := by kernel_rfl
theorem GC : PgOK Tryz.prog PC := @PgOK.addSum Tryz.prog PY GKY 162 Tryz.f162 hfZ hbZ ⟨contA⟩ conS
theorem G2 : PgOK Tryz.prog PP2 := GC
theorem hfS : PP0.funcs.get 5 = some Tryz.f5 := by kernel_rfl
theorem hbS : Tryz.f5.body.isSome = true := by kernel_rfl
theorem G3 : PgOK Tryz.prog PP3 := @PgOK.addSum Tryz.prog PP2 G2 5 Tryz.f5 hfS hbS (sum0 (.bool true)) (@sum0_ok Tryz.prog PP2 G2 200 5 Tryz.f5 hfS hbS (.bool true) runS 4 rfl)
end Go.Proofs.YtcbacbfjjahcbaaGreatDoor.Ev
