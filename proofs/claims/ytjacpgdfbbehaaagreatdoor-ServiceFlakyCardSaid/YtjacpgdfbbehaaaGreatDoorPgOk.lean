/- What the evaluator reads is what the program says. -/
import Derived.Test.YtjacpgdfbbehaaaGreatDoorPg
import Derived.KernelRfl
namespace Go.Proofs.YtjacpgdfbbehaaaGreatDoor.Ev
open Go Go.Proofs
set_option maxRecDepth 100000
set_option linter.unusedVariables false
theorem t0 : tabOk Tryz.prog tt0 := tabOk_of (by kernel_rfl)
theorem t1 : tabOk Tryz.prog tt1 := tabOk_of (by kernel_rfl)
theorem t2 : tabOk Tryz.prog tt2 := tabOk_of (by kernel_rfl)
theorem t3 : tabOk Tryz.prog tt3 := tabOk_of (by kernel_rfl)
theorem t4 : tabOk Tryz.prog tt4 := tabOk_of (by kernel_rfl)
theorem t5 : tabOk Tryz.prog tt5 := tabOk_of (by kernel_rfl)
theorem t6 : tabOk Tryz.prog tt6 := tabOk_of (by kernel_rfl)
theorem t7 : tabOk Tryz.prog tt7 := tabOk_of (by kernel_rfl)
theorem t8 : tabOk Tryz.prog tt8 := tabOk_of (by kernel_rfl)
theorem t9 : tabOk Tryz.prog tt9 := tabOk_of (by kernel_rfl)
theorem t10 : tabOk Tryz.prog tt10 := tabOk_of (by kernel_rfl)
theorem t11 : tabOk Tryz.prog tt11 := tabOk_of (by kernel_rfl)
theorem t12 : tabOk Tryz.prog tt12 := tabOk_of (by kernel_rfl)
theorem t13 : tabOk Tryz.prog tt13 := tabOk_of (by kernel_rfl)
theorem t14 : tabOk Tryz.prog tt14 := tabOk_of (by kernel_rfl)
theorem t15 : tabOk Tryz.prog tt15 := tabOk_of (by kernel_rfl)
theorem t16 : tabOk Tryz.prog tt16 := tabOk_of (by kernel_rfl)
theorem t17 : tabOk Tryz.prog tt17 := tabOk_of (by kernel_rfl)
theorem t18 : tabOk Tryz.prog tt18 := tabOk_of (by kernel_rfl)
theorem t19 : tabOk Tryz.prog tt19 := tabOk_of (by kernel_rfl)
theorem t20 : tabOk Tryz.prog tt20 := tabOk_of (by kernel_rfl)
theorem t21 : tabOk Tryz.prog tt21 := tabOk_of (by kernel_rfl)
theorem t22 : tabOk Tryz.prog tt22 := tabOk_of (by kernel_rfl)
theorem t23 : tabOk Tryz.prog tt23 := tabOk_of (by kernel_rfl)
theorem t24 : tabOk Tryz.prog tt24 := tabOk_of (by kernel_rfl)
theorem t25 : tabOk Tryz.prog tt25 := tabOk_of (by kernel_rfl)
theorem t26 : tabOk Tryz.prog tt26 := tabOk_of (by kernel_rfl)
theorem t27 : tabOk Tryz.prog tt27 := tabOk_of (by kernel_rfl)
theorem tabs : tabOk Tryz.prog ttL := by
  unfold ttL
  exact (tabOk_append (tabOk_append (tabOk_append (tabOk_append (tabOk_append (tabOk_append (tabOk_append (tabOk_append (tabOk_append (tabOk_append (tabOk_append (tabOk_append (tabOk_append (tabOk_append (tabOk_append (tabOk_append (tabOk_append (tabOk_append (tabOk_append (tabOk_append (tabOk_append (tabOk_append (tabOk_append (tabOk_append (tabOk_append (tabOk_append (tabOk_append t0 t1) t2) t3) t4) t5) t6) t7) t8) t9) t10) t11) t12) t13) t14) t15) t16) t17) t18) t19) t20) t21) t22) t23) t24) t25) t26) t27)
theorem named : allB (fun fn : Func => !(fn.name == "runtime.NumGoroutine")) Tryz.funcs.toList = true := by kernel_rfl
theorem n561 : (Tryz.f561.name == "runtime.NumGoroutine") = false := by kernel_rfl
theorem b561 : Tryz.f561.body.isNone = true := by kernel_rfl
theorem x561 : Extern.findNext Tryz.f561 = none := by kernel_rfl
theorem e561 : Extern.find Tryz.f561 = some (Extern.BytealgMakeNoZero.makeNoZero Tryz.f561.params #[77]) := by kernel_rfl
theorem u561 : Tryz.prog.underlying 77 = some (.slice 5) := by kernel_rfl
theorem c561 : Tryz.prog.cellsOf 5 = 1 := by kernel_rfl
theorem ex561 : ExtOK Tryz.prog 561 (.makeNoZero 5) := @extMakeNoZero Tryz.prog 561 Tryz.f561 Tryz.func561 n561 b561 x561 77 5 e561 u561 c561
theorem n506 : (Tryz.f506.name == "runtime.NumGoroutine") = false := by kernel_rfl
theorem b506 : Tryz.f506.body.isNone = true := by kernel_rfl
theorem x506 : Extern.findNext Tryz.f506 = none := by kernel_rfl
theorem e506 : Extern.find Tryz.f506 = some Extern.BytealgCount.count := by kernel_rfl
theorem ex506 : ExtOK Tryz.prog 506 .count := @extCount Tryz.prog 506 Tryz.f506 Tryz.func506 n506 b506 x506 e506
theorem n344 : (Tryz.f344.name == "runtime.NumGoroutine") = false := by kernel_rfl
theorem b344 : Tryz.f344.body.isNone = true := by kernel_rfl
theorem x344 : Extern.findNext Tryz.f344 = none := by kernel_rfl
theorem e344 : Extern.find Tryz.f344 = some Extern.BytealgIndexByte.indexByte := by kernel_rfl
theorem ex344 : ExtOK Tryz.prog 344 .indexByte := @extIndexByte Tryz.prog 344 Tryz.f344 Tryz.func344 n344 b344 x344 e344
theorem n152 : (Tryz.f152.name == "runtime.NumGoroutine") = false := by kernel_rfl
theorem b152 : Tryz.f152.body.isNone = true := by kernel_rfl
theorem x152 : Extern.findNext Tryz.f152 = none := by kernel_rfl
theorem e152 : Extern.find Tryz.f152 = some Extern.AbiNoEscape.same := by kernel_rfl
theorem ex152 : ExtOK Tryz.prog 152 .noEscape := @extNoEscape Tryz.prog 152 Tryz.f152 Tryz.func152 n152 b152 x152 e152
theorem exNo (f : FuncId) : ExtOK Tryz.prog f .overlaps := fun φ h w args args' outs hc => nomatch hc
theorem exL : ∀ x ∈ extL, ExtOK Tryz.prog x.1 x.2 := List.forall_mem_cons.2 ⟨ex561, List.forall_mem_cons.2 ⟨exNo _, List.forall_mem_cons.2 ⟨ex506, List.forall_mem_cons.2 ⟨ex344, List.forall_mem_cons.2 ⟨exNo _, List.forall_mem_cons.2 ⟨ex152, fun _ h => nomatch h⟩⟩⟩⟩⟩⟩
theorem exOk : ∀ f fn x, PP0.funcs.get f = some fn → fn.body = none → PP0.exts.get f = some x → ExtOK Tryz.prog f x := fun f _ x _ _ hx => exL (f, x) (puts_mem (l := extL) hx)
def ti20 : TI := ⟨(.iface true), 1, false, .nilIface, [.nilIface], true, false, []⟩
theorem dn398 : DNop Tryz.prog 398 :=
  dnop_ok (types_ok tabs) (fn := Tryz.f398) Tryz.func398 (by kernel_rfl) rfl rfl ⟨rfl, rfl, rfl⟩ ⟨rfl, rfl, rfl⟩ ⟨rfl, rfl, rfl⟩ ⟨rfl, rfl, rfl⟩ (t := 20) (ti := ti20) (em := true) (by kernel_rfl) rfl (by decide) (by decide) (by decide) (by decide)
theorem G0 : PgOK Tryz.prog PP0 where
  types := types_ok tabs
  funcs := fun f fn h => by
    have h1 := T.get_ofList (l := Tryz.funcs.toList) h
    show Tryz.funcs[f]? = some fn
    rw [← Array.getElem?_toList]; exact h1
  named := fun f fn h => by
    have h1 := T.get_ofList (l := Tryz.funcs.toList) h
    have := allB_iff.1 named fn (List.mem_of_getElem? h1)
    simpa using this
  exts := exOk
  dnop := fun f h => by
    have hm := puts_mem (l := mapL (fun n => (n, ())) dnL) h
    have hm : (f, ()) ∈ [(398, ())] := hm
    simp only [List.mem_singleton, Prod.mk.injEq, and_true] at hm
    subst hm; exact dn398
  sums := fun f fn s hf hs => by
    have : PP0.sums.get f = none := get_nil (α := SumK) dep f
    rw [this] at hs; cases hs
end Go.Proofs.YtjacpgdfbbehaaaGreatDoor.Ev
