/- What the evaluator reads is what the program says. -/
import Derived.Test.YtnfldenbeokblaaGreatDoorPg
import Derived.KernelRfl
import Derived.Test.YtnfldenbeokblaaGreatDoorEvI
namespace Go.Proofs.YtnfldenbeokblaaGreatDoor.Ev
open Go Go.Proofs
set_option maxRecDepth 100000
set_option linter.unusedVariables false
theorem t0 : tabOk Tryz.prog tt0 := tabOk_of (by kernel_rfl)
theorem t1 : tabOk Tryz.prog tt1 := tabOk_of (by kernel_rfl)
theorem t2 : tabOk Tryz.prog tt2 := tabOk_of (by kernel_rfl)
theorem t3 : tabOk Tryz.prog tt3 := tabOk_of (by kernel_rfl)
theorem t4 : tabOk Tryz.prog tt4 := tabOk_of (by kernel_rfl)
theorem t5 : tabOk Tryz.prog tt5 := tabOk_of (by kernel_rfl)
theorem t6 : tabOk Tryz.prog tt6 := tabOk_of (by kernel_rfl)
theorem t7 : tabOk Tryz.prog tt7 := tabOk_of (by kernel_rfl)
theorem t8 : tabOk Tryz.prog tt8 := tabOk_of (by kernel_rfl)
theorem t9 : tabOk Tryz.prog tt9 := tabOk_of (by kernel_rfl)
theorem t10 : tabOk Tryz.prog tt10 := tabOk_of (by kernel_rfl)
theorem t11 : tabOk Tryz.prog tt11 := tabOk_of (by kernel_rfl)
theorem t12 : tabOk Tryz.prog tt12 := tabOk_of (by kernel_rfl)
theorem t13 : tabOk Tryz.prog tt13 := tabOk_of (by kernel_rfl)
theorem t14 : tabOk Tryz.prog tt14 := tabOk_of (by kernel_rfl)
theorem t15 : tabOk Tryz.prog tt15 := tabOk_of (by kernel_rfl)
theorem t16 : tabOk Tryz.prog tt16 := tabOk_of (by kernel_rfl)
theorem t17 : tabOk Tryz.prog tt17 := tabOk_of (by kernel_rfl)
theorem t18 : tabOk Tryz.prog tt18 := tabOk_of (by kernel_rfl)
theorem t19 : tabOk Tryz.prog tt19 := tabOk_of (by kernel_rfl)
theorem t20 : tabOk Tryz.prog tt20 := tabOk_of (by kernel_rfl)
theorem t21 : tabOk Tryz.prog tt21 := tabOk_of (by kernel_rfl)
theorem t22 : tabOk Tryz.prog tt22 := tabOk_of (by kernel_rfl)
theorem t23 : tabOk Tryz.prog tt23 := tabOk_of (by kernel_rfl)
theorem t24 : tabOk Tryz.prog tt24 := tabOk_of (by kernel_rfl)
theorem t25 : tabOk Tryz.prog tt25 := tabOk_of (by kernel_rfl)
theorem t26 : tabOk Tryz.prog tt26 := tabOk_of (by kernel_rfl)
theorem t27 : tabOk Tryz.prog tt27 := tabOk_of (by kernel_rfl)
theorem tabs : tabOk Tryz.prog ttL := by
  unfold ttL
  exact (tabOk_append (tabOk_append (tabOk_append (tabOk_append (tabOk_append (tabOk_append (tabOk_append (tabOk_append (tabOk_append (tabOk_append (tabOk_append (tabOk_append (tabOk_append (tabOk_append (tabOk_append (tabOk_append (tabOk_append (tabOk_append (tabOk_append (tabOk_append (tabOk_append (tabOk_append (tabOk_append (tabOk_append (tabOk_append (tabOk_append (tabOk_append t0 t1) t2) t3) t4) t5) t6) t7) t8) t9) t10) t11) t12) t13) t14) t15) t16) t17) t18) t19) t20) t21) t22) t23) t24) t25) t26) t27)
theorem named : allB (fun fn : Func => !(fn.name == "runtime.NumGoroutine")) Tryz.funcs.toList = true := by kernel_rfl
theorem n572 : (Tryz.f572.name == "runtime.NumGoroutine") = false := by kernel_rfl
theorem b572 : Tryz.f572.body.isNone = true := by kernel_rfl
theorem x572 : Extern.findNext Tryz.f572 = none := by kernel_rfl
theorem e572 : Extern.find Tryz.f572 = some (Extern.BytealgMakeNoZero.makeNoZero Tryz.f572.params #[95]) := by kernel_rfl
theorem u572 : Tryz.prog.underlying 95 = some (.slice 5) := by kernel_rfl
theorem c572 : Tryz.prog.cellsOf 5 = 1 := by kernel_rfl
theorem ex572 : ExtOK Tryz.prog 572 (.makeNoZero 5) := @extMakeNoZero Tryz.prog 572 Tryz.f572 Tryz.func572 n572 b572 x572 95 5 e572 u572 c572
theorem n521 : (Tryz.f521.name == "runtime.NumGoroutine") = false := by kernel_rfl
theorem b521 : Tryz.f521.body.isNone = true := by kernel_rfl
theorem x521 : Extern.findNext Tryz.f521 = none := by kernel_rfl
theorem e521 : Extern.find Tryz.f521 = some Extern.BytealgCount.count := by kernel_rfl
theorem ex521 : ExtOK Tryz.prog 521 .count := @extCount Tryz.prog 521 Tryz.f521 Tryz.func521 n521 b521 x521 e521
theorem n427 : (Tryz.f427.name == "runtime.NumGoroutine") = false := by kernel_rfl
theorem b427 : Tryz.f427.body.isNone = true := by kernel_rfl
theorem x427 : Extern.findNext Tryz.f427 = none := by kernel_rfl
theorem e427 : Extern.find Tryz.f427 = some Extern.BytealgIndexByte.indexByte := by kernel_rfl
theorem ex427 : ExtOK Tryz.prog 427 .indexByte := @extIndexByte Tryz.prog 427 Tryz.f427 Tryz.func427 n427 b427 x427 e427
theorem n224 : (Tryz.f224.name == "runtime.NumGoroutine") = false := by kernel_rfl
theorem b224 : Tryz.f224.body.isNone = true := by kernel_rfl
theorem x224 : Extern.findNext Tryz.f224 = none := by kernel_rfl
theorem e224 : Extern.find Tryz.f224 = some Extern.AbiNoEscape.same := by kernel_rfl
theorem ex224 : ExtOK Tryz.prog 224 .noEscape := @extNoEscape Tryz.prog 224 Tryz.f224 Tryz.func224 n224 b224 x224 e224
theorem exNo (f : FuncId) : ExtOK Tryz.prog f .overlaps := fun φ h w args args' outs hc => nomatch hc
theorem exL : ∀ x ∈ extL, ExtOK Tryz.prog x.1 x.2 := List.forall_mem_cons.2 ⟨ex572, List.forall_mem_cons.2 ⟨exNo _, List.forall_mem_cons.2 ⟨ex521, List.forall_mem_cons.2 ⟨ex427, List.forall_mem_cons.2 ⟨exNo _, List.forall_mem_cons.2 ⟨ex224, fun _ h => nomatch h⟩⟩⟩⟩⟩⟩
theorem exOk : ∀ f fn x, PP0.funcs.get f = some fn → fn.body = none → PP0.exts.get f = some x → ExtOK Tryz.prog f x := fun f _ x _ _ hx => exL (f, x) (puts_mem (l := extL) hx)
def ti20 : TI := ⟨(.iface true), 1, false, .nilIface, [.nilIface], true, false, []⟩
theorem dn403 : DNop Tryz.prog 403 :=
  dnop_ok (types_ok tabs) (fn := Tryz.f403) Tryz.func403 (by kernel_rfl) rfl rfl ⟨rfl, rfl, rfl⟩ ⟨rfl, rfl, rfl⟩ ⟨rfl, rfl, rfl⟩ ⟨rfl, rfl, rfl⟩ (t := 20) (ti := ti20) (em := true) (by kernel_rfl) rfl (by decide) (by decide) (by decide) (by decide)
theorem G0 : PgOK Tryz.prog PP0 where
  types := types_ok tabs
  funcs := fun f fn h => by
    have h1 := T.get_ofList (l := Tryz.funcs.toList) h
    show Tryz.funcs[f]? = some fn
    rw [← Array.getElem?_toList]; exact h1
  named := fun f fn h => by
    have h1 := T.get_ofList (l := Tryz.funcs.toList) h
    have := allB_iff.1 named fn (List.mem_of_getElem? h1)
    simpa using this
  exts := exOk
  dnop := fun f h => by
    have hm := puts_mem (l := mapL (fun n => (n, ())) dnL) h
    have hm : (f, ()) ∈ [(403, ())] := hm
    simp only [List.mem_singleton, Prod.mk.injEq, and_true] at hm
    subst hm; exact dn403
  sums := fun f fn s hf hs => by
    have : PP0.sums.get f = none := get_nil (α := SumK) dep f
    rw [this] at hs; cases hs
end Go.Proofs.YtnfldenbeokblaaGreatDoor.Ev
