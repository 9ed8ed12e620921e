/- What the evaluator reads is what the program says. -/
import Derived.Test.YtjhionjmlcccjaaGreatDoorPg
import Derived.KernelRfl
import Derived.ChangeKeysEq
import Derived.Test.YtjhionjmlcccjaaGreatDoorEvI
namespace Go.Proofs.YtjhionjmlcccjaaGreatDoor.Ev
open Go Go.Proofs
set_option maxRecDepth 100000
set_option linter.unusedVariables false
set_option linter.unusedSimpArgs false
theorem t0 : tabOk Tryz.prog tt0 := tabOk_of (by kernel_rfl)
theorem t1 : tabOk Tryz.prog tt1 := tabOk_of (by kernel_rfl)
theorem t2 : tabOk Tryz.prog tt2 := tabOk_of (by kernel_rfl)
theorem t3 : tabOk Tryz.prog tt3 := tabOk_of (by kernel_rfl)
theorem t4 : tabOk Tryz.prog tt4 := tabOk_of (by kernel_rfl)
theorem t5 : tabOk Tryz.prog tt5 := tabOk_of (by kernel_rfl)
theorem t6 : tabOk Tryz.prog tt6 := tabOk_of (by kernel_rfl)
theorem t7 : tabOk Tryz.prog tt7 := tabOk_of (by kernel_rfl)
theorem t8 : tabOk Tryz.prog tt8 := tabOk_of (by kernel_rfl)
theorem t9 : tabOk Tryz.prog tt9 := tabOk_of (by kernel_rfl)
theorem t10 : tabOk Tryz.prog tt10 := tabOk_of (by kernel_rfl)
theorem t11 : tabOk Tryz.prog tt11 := tabOk_of (by kernel_rfl)
theorem t12 : tabOk Tryz.prog tt12 := tabOk_of (by kernel_rfl)
theorem t13 : tabOk Tryz.prog tt13 := tabOk_of (by kernel_rfl)
theorem t14 : tabOk Tryz.prog tt14 := tabOk_of (by kernel_rfl)
theorem t15 : tabOk Tryz.prog tt15 := tabOk_of (by kernel_rfl)
theorem t16 : tabOk Tryz.prog tt16 := tabOk_of (by kernel_rfl)
theorem t17 : tabOk Tryz.prog tt17 := tabOk_of (by kernel_rfl)
theorem t18 : tabOk Tryz.prog tt18 := tabOk_of (by kernel_rfl)
theorem t19 : tabOk Tryz.prog tt19 := tabOk_of (by kernel_rfl)
theorem t20 : tabOk Tryz.prog tt20 := tabOk_of (by kernel_rfl)
theorem t21 : tabOk Tryz.prog tt21 := tabOk_of (by kernel_rfl)
theorem t22 : tabOk Tryz.prog tt22 := tabOk_of (by kernel_rfl)
theorem t23 : tabOk Tryz.prog tt23 := tabOk_of (by kernel_rfl)
theorem t24 : tabOk Tryz.prog tt24 := tabOk_of (by kernel_rfl)
theorem t25 : tabOk Tryz.prog tt25 := tabOk_of (by kernel_rfl)
theorem t26 : tabOk Tryz.prog tt26 := tabOk_of (by kernel_rfl)
theorem t27 : tabOk Tryz.prog tt27 := tabOk_of (by kernel_rfl)
theorem tabs : tabOk Tryz.prog ttL := by
  unfold ttL
  exact (tabOk_append (tabOk_append (tabOk_append (tabOk_append (tabOk_append (tabOk_append (tabOk_append (tabOk_append (tabOk_append (tabOk_append (tabOk_append (tabOk_append (tabOk_append (tabOk_append (tabOk_append (tabOk_append (tabOk_append (tabOk_append (tabOk_append (tabOk_append (tabOk_append (tabOk_append (tabOk_append (tabOk_append (tabOk_append (tabOk_append (tabOk_append t0 t1) t2) t3) t4) t5) t6) t7) t8) t9) t10) t11) t12) t13) t14) t15) t16) t17) t18) t19) t20) t21) t22) t23) t24) t25) t26) t27)
theorem named : allB (fun fn : Func => !(fn.name == "runtime.NumGoroutine")) Tryz.funcs.toList = true := by kernel_rfl
theorem n575 : (Tryz.f575.name == "runtime.NumGoroutine") = false := by kernel_rfl
theorem b575 : Tryz.f575.body.isNone = true := by kernel_rfl
theorem x575 : Extern.findNext Tryz.f575 = none := by kernel_rfl
theorem e575 : Extern.find Tryz.f575 = some (Extern.BytealgMakeNoZero.makeNoZero Tryz.f575.params #[104]) := by kernel_rfl
theorem und575 : Tryz.prog.underlying 104 = some (.slice 5) := by kernel_rfl
theorem c575 : Tryz.prog.cellsOf 5 = 1 := by kernel_rfl
theorem ex575 : ExtOK Tryz.prog 575 (.makeNoZero 5) := @extMakeNoZero Tryz.prog 575 Tryz.f575 Tryz.func575 n575 b575 x575 104 5 e575 und575 c575
theorem n565 : (Tryz.f565.name == "runtime.NumGoroutine") = false := by kernel_rfl
theorem b565 : Tryz.f565.body.isNone = true := by kernel_rfl
theorem x565 : Extern.findNext Tryz.f565 = none := by kernel_rfl
theorem e565 : Extern.find Tryz.f565 = some (Extern.SlicesOverlaps.overlaps #[176, 176] #[4]) := by kernel_rfl
theorem und565 : Tryz.prog.underlying 176 = some (.slice 200) := by kernel_rfl
theorem c565 : Tryz.prog.cellsOf 200 = 3 := by kernel_rfl
theorem i565 : (Tryz.prog.info? 200).isSome = true := by kernel_rfl
theorem v565 : Tryz.prog.underlying 200 ≠ some (.int .u8) := by
  intro h
  have : (match Tryz.prog.underlying 200 with | some (.int .u8) => true | _ => false) = false := by kernel_rfl
  rw [h] at this
  cases this
theorem z565 (w : World) : (Go.sizeOf 200).run Tryz.prog w = .ok 3 w := by
  obtain ⟨i, hi⟩ := Option.isSome_iff_exists.1 i565
  rw [run_sizeOf w hi, c565]
theorem ex565 : ExtOK Tryz.prog 565 (.overlaps 200 3) := @extOverlaps Tryz.prog 565 Tryz.f565 Tryz.func565 n565 b565 x565 176 4 200 3 e565 und565 z565 c565 (by decide) v565
theorem n524 : (Tryz.f524.name == "runtime.NumGoroutine") = false := by kernel_rfl
theorem b524 : Tryz.f524.body.isNone = true := by kernel_rfl
theorem x524 : Extern.findNext Tryz.f524 = none := by kernel_rfl
theorem e524 : Extern.find Tryz.f524 = some Extern.BytealgCount.count := by kernel_rfl
theorem ex524 : ExtOK Tryz.prog 524 .count := @extCount Tryz.prog 524 Tryz.f524 Tryz.func524 n524 b524 x524 e524
theorem n430 : (Tryz.f430.name == "runtime.NumGoroutine") = false := by kernel_rfl
theorem b430 : Tryz.f430.body.isNone = true := by kernel_rfl
theorem x430 : Extern.findNext Tryz.f430 = none := by kernel_rfl
theorem e430 : Extern.find Tryz.f430 = some Extern.BytealgIndexByte.indexByte := by kernel_rfl
theorem ex430 : ExtOK Tryz.prog 430 .indexByte := @extIndexByte Tryz.prog 430 Tryz.f430 Tryz.func430 n430 b430 x430 e430
theorem n315 : (Tryz.f315.name == "runtime.NumGoroutine") = false := by kernel_rfl
theorem b315 : Tryz.f315.body.isNone = true := by kernel_rfl
theorem x315 : Extern.findNext Tryz.f315 = none := by kernel_rfl
theorem e315 : Extern.find Tryz.f315 = some (Extern.SlicesOverlaps.overlaps #[315, 315] #[4]) := by kernel_rfl
theorem und315 : Tryz.prog.underlying 315 = some (.slice 317) := by kernel_rfl
theorem c315 : Tryz.prog.cellsOf 317 = 2 := by kernel_rfl
theorem i315 : (Tryz.prog.info? 317).isSome = true := by kernel_rfl
theorem v315 : Tryz.prog.underlying 317 ≠ some (.int .u8) := by
  intro h
  have : (match Tryz.prog.underlying 317 with | some (.int .u8) => true | _ => false) = false := by kernel_rfl
  rw [h] at this
  cases this
theorem z315 (w : World) : (Go.sizeOf 317).run Tryz.prog w = .ok 2 w := by
  obtain ⟨i, hi⟩ := Option.isSome_iff_exists.1 i315
  rw [run_sizeOf w hi, c315]
theorem ex315 : ExtOK Tryz.prog 315 (.overlaps 317 2) := @extOverlaps Tryz.prog 315 Tryz.f315 Tryz.func315 n315 b315 x315 315 4 317 2 e315 und315 z315 c315 (by decide) v315
theorem n232 : (Tryz.f232.name == "runtime.NumGoroutine") = false := by kernel_rfl
theorem b232 : Tryz.f232.body.isNone = true := by kernel_rfl
theorem x232 : Extern.findNext Tryz.f232 = none := by kernel_rfl
theorem e232 : Extern.find Tryz.f232 = some Extern.AbiNoEscape.same := by kernel_rfl
theorem ex232 : ExtOK Tryz.prog 232 .noEscape := @extNoEscape Tryz.prog 232 Tryz.f232 Tryz.func232 n232 b232 x232 e232
theorem exL : ∀ x ∈ extL, ExtOK Tryz.prog x.1 x.2 := List.forall_mem_cons.2 ⟨ex575, List.forall_mem_cons.2 ⟨ex565, List.forall_mem_cons.2 ⟨ex524, List.forall_mem_cons.2 ⟨ex430, List.forall_mem_cons.2 ⟨ex315, List.forall_mem_cons.2 ⟨ex232, fun _ h => nomatch h⟩⟩⟩⟩⟩⟩
theorem exOk : ∀ f fn x, PP0.funcs.get f = some fn → fn.body = none → PP0.exts.get f = some x → ExtOK Tryz.prog f x := fun f _ x _ _ hx => exL (f, x) (puts_mem (l := extL) hx)
def ti20 : TI := ⟨(.iface true), 1, false, .nilIface, [.nilIface], true, false, []⟩
theorem dn406 : DNop Tryz.prog 406 :=
  dnop_ok (types_ok tabs) (fn := Tryz.f406) Tryz.func406 (by kernel_rfl) rfl rfl ⟨rfl, rfl, rfl⟩ ⟨rfl, rfl, rfl⟩ ⟨rfl, rfl, rfl⟩ ⟨rfl, rfl, rfl⟩ (t := 20) (ti := ti20) (em := true) (by kernel_rfl) rfl (by decide) (by decide) (by decide) (by decide)
theorem G0 : PgOK Tryz.prog PP0 where
  types := types_ok tabs
  funcs := fun f fn h => by
    have h1 := T.get_ofList (l := Tryz.funcs.toList) h
    show Tryz.funcs[f]? = some fn
    rw [← Array.getElem?_toList]; exact h1
  named := fun f fn h => by
    have h1 := T.get_ofList (l := Tryz.funcs.toList) h
    have := allB_iff.1 named fn (List.mem_of_getElem? h1)
    simpa using this
  exts := exOk
  dnop := fun f h => by
    have hm := puts_mem (l := mapL (fun n => (n, ())) dnL) h
    have hm : (f, ()) ∈ [(406, ())] := hm
    simp only [List.mem_singleton, Prod.mk.injEq, and_true] at hm
    subst hm; exact dn406
  sums := fun f fn s hf hs => by
    have : PP0.sums.get f = none := get_nil (α := SumK) dep f
    rw [this] at hs; cases hs
  cps := fun f l c hf hc => by
    have : PP0.cps.get f = none := get_nil (α := List CP) dep f
    rw [this] at hf; cases hf
end Go.Proofs.YtjhionjmlcccjaaGreatDoor.Ev
