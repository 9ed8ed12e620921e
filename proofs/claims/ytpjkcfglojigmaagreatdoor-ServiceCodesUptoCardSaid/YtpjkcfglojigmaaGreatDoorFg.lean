/- The tables of types are in order. -/
import Derived.Test.YtpjkcfglojigmaaGreatDoorRows
import Derived.KernelRfl
import Derived.ClosedOfChecked
namespace Go.Proofs.YtpjkcfglojigmaaGreatDoor
open Go
set_option maxRecDepth 1000000
theorem tyEq : Tryz.checked.prog.types = Tryz.checked.src.types := by kernel_rfl
theorem tyRest : (Tryz.checked.prog.globals.all (fun g => decide (g.type < Tryz.checked.prog.types.size)) && Tryz.checked.prog.funcs.all (fun f => f.params.all fun t => decide (t < Tryz.checked.prog.types.size))) = true := by kernel_rfl
theorem allSpec : ClosedOfChecked.AllSpec Tryz.checked.prog := ClosedOfChecked.allSpec_of Tryz.checked.wellFormed tyEq
theorem laidOut : laidOutB Tryz.prog = true := ClosedOfChecked.laidOutB_of allSpec tyRest
theorem mapsRow : mapsRowed Tryz.prog = true := ClosedOfChecked.mapsRowed_of allSpec
end Go.Proofs.YtpjkcfglojigmaaGreatDoor
