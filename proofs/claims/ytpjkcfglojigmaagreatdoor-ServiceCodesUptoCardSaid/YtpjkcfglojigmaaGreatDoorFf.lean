/- No function starts a goroutine. -/
import Derived.Test.YtpjkcfglojigmaaGreatDoorRows
import Derived.KernelRfl
import Derived.SevenTiedAt
namespace Go.Proofs.YtpjkcfglojigmaaGreatDoor
open Go
set_option maxRecDepth 1000000
theorem bodiesGo : Tryz.prog.funcs.any Func.goes = false := by kernel_rfl
theorem goes_none {Q : Program} (h : Q.funcs.any Func.goes = false) (n : String) : Q.goesAt .entering n = false := by
  have hall : ∀ g : FuncId, (Q.funcs[g]?).any Func.goes = false := by
    intro g
    cases hg : Q.funcs[g]? with
    | none => rfl
    | some fn =>
      have h1 : fn ∈ Q.funcs := Array.mem_of_getElem? hg
      have h2 := Array.any_eq_false'.1 h fn h1
      simpa using h2
  have hgo : ∀ f, Q.goes f = false := by
    intro f
    unfold Program.goes
    rw [h, Bool.and_false, Bool.or_false]
    simp [hall]
  unfold Program.goesAt Program.goesFrom
  cases Q.funcNamed n with
  | none => rfl
  | some f => simp [hgo]
end Go.Proofs.YtpjkcfglojigmaaGreatDoor
