/- What the evaluator reads is what the program says. -/
import Derived.Test.YtcbacbfjjahcbaaGreatDoorPg
import Derived.KernelRfl
import Derived.ChangeKeysEq
import Derived.Test.YtcbacbfjjahcbaaGreatDoorEvI
namespace Go.Proofs.YtcbacbfjjahcbaaGreatDoor.Ev
open Go Go.Proofs
set_option maxRecDepth 100000
set_option linter.unusedVariables false
set_option linter.unusedSimpArgs false
theorem t0 : tabOk Tryz.prog tt0 := tabOk_of (by kernel_rfl)
theorem t1 : tabOk Tryz.prog tt1 := tabOk_of (by kernel_rfl)
theorem t2 : tabOk Tryz.prog tt2 := tabOk_of (by kernel_rfl)
theorem t3 : tabOk Tryz.prog tt3 := tabOk_of (by kernel_rfl)
theorem t4 : tabOk Tryz.prog tt4 := tabOk_of (by kernel_rfl)
theorem t5 : tabOk Tryz.prog tt5 := tabOk_of (by kernel_rfl)
theorem t6 : tabOk Tryz.prog tt6 := tabOk_of (by kernel_rfl)
theorem t7 : tabOk Tryz.prog tt7 := tabOk_of (by kernel_rfl)
theorem t8 : tabOk Tryz.prog tt8 := tabOk_of (by kernel_rfl)
theorem t9 : tabOk Tryz.prog tt9 := tabOk_of (by kernel_rfl)
theorem t10 : tabOk Tryz.prog tt10 := tabOk_of (by kernel_rfl)
theorem t11 : tabOk Tryz.prog tt11 := tabOk_of (by kernel_rfl)
theorem t12 : tabOk Tryz.prog tt12 := tabOk_of (by kernel_rfl)
theorem t13 : tabOk Tryz.prog tt13 := tabOk_of (by kernel_rfl)
theorem t14 : tabOk Tryz.prog tt14 := tabOk_of (by kernel_rfl)
theorem t15 : tabOk Tryz.prog tt15 := tabOk_of (by kernel_rfl)
theorem t16 : tabOk Tryz.prog tt16 := tabOk_of (by kernel_rfl)
theorem t17 : tabOk Tryz.prog tt17 := tabOk_of (by kernel_rfl)
theorem t18 : tabOk Tryz.prog tt18 := tabOk_of (by kernel_rfl)
theorem t19 : tabOk Tryz.prog tt19 := tabOk_of (by kernel_rfl)
theorem t20 : tabOk Tryz.prog tt20 := tabOk_of (by kernel_rfl)
theorem t21 : tabOk Tryz.prog tt21 := tabOk_of (by kernel_rfl)
theorem t22 : tabOk Tryz.prog tt22 := tabOk_of (by kernel_rfl)
theorem t23 : tabOk Tryz.prog tt23 := tabOk_of (by kernel_rfl)
theorem t24 : tabOk Tryz.prog tt24 := tabOk_of (by kernel_rfl)
theorem t25 : tabOk Tryz.prog tt25 := tabOk_of (by kernel_rfl)
theorem t26 : tabOk Tryz.prog tt26 := tabOk_of (by kernel_rfl)
theorem t27 : tabOk Tryz.prog tt27 := tabOk_of (by kernel_rfl)
theorem tabs : tabOk Tryz.prog ttL := by
  unfold ttL
  exact (tabOk_append (tabOk_append (tabOk_append (tabOk_append (tabOk_append (tabOk_append (tabOk_append (tabOk_append (tabOk_append (tabOk_append (tabOk_append (tabOk_append (tabOk_append (tabOk_append (tabOk_append (tabOk_append (tabOk_append (tabOk_append (tabOk_append (tabOk_append (tabOk_append (tabOk_append (tabOk_append (tabOk_append (tabOk_append (tabOk_append (tabOk_append t0 t1) t2) t3) t4) t5) t6) t7) t8) t9) t10) t11) t12) t13) t14) t15) t16) t17) t18) t19) t20) t21) t22) t23) t24) t25) t26) t27)
theorem named : allB (fun fn : Func => !(fn.name == "runtime.NumGoroutine")) Tryz.funcs.toList = true := by kernel_rfl
theorem n573 : (Tryz.f573.name == "runtime.NumGoroutine") = false := by kernel_rfl
theorem b573 : Tryz.f573.body.isNone = true := by kernel_rfl
theorem x573 : Extern.findNext Tryz.f573 = none := by kernel_rfl
theorem e573 : Extern.find Tryz.f573 = some (Extern.BytealgMakeNoZero.makeNoZero Tryz.f573.params #[111]) := by kernel_rfl
theorem und573 : Tryz.prog.underlying 111 = some (.slice 5) := by kernel_rfl
theorem c573 : Tryz.prog.cellsOf 5 = 1 := by kernel_rfl
theorem ex573 : ExtOK Tryz.prog 573 (.makeNoZero 5) := @extMakeNoZero Tryz.prog 573 Tryz.f573 Tryz.func573 n573 b573 x573 111 5 e573 und573 c573
theorem n563 : (Tryz.f563.name == "runtime.NumGoroutine") = false := by kernel_rfl
theorem b563 : Tryz.f563.body.isNone = true := by kernel_rfl
theorem x563 : Extern.findNext Tryz.f563 = none := by kernel_rfl
theorem e563 : Extern.find Tryz.f563 = some (Extern.SlicesOverlaps.overlaps #[187, 187] #[4]) := by kernel_rfl
theorem und563 : Tryz.prog.underlying 187 = some (.slice 192) := by kernel_rfl
theorem c563 : Tryz.prog.cellsOf 192 = 3 := by kernel_rfl
theorem i563 : (Tryz.prog.info? 192).isSome = true := by kernel_rfl
theorem v563 : Tryz.prog.underlying 192 ≠ some (.int .u8) := by
  intro h
  have : (match Tryz.prog.underlying 192 with | some (.int .u8) => true | _ => false) = false := by kernel_rfl
  rw [h] at this
  cases this
theorem z563 (w : World) : (Go.sizeOf 192).run Tryz.prog w = .ok 3 w := by
  obtain ⟨i, hi⟩ := Option.isSome_iff_exists.1 i563
  rw [run_sizeOf w hi, c563]
theorem ex563 : ExtOK Tryz.prog 563 (.overlaps 192 3) := @extOverlaps Tryz.prog 563 Tryz.f563 Tryz.func563 n563 b563 x563 187 4 192 3 e563 und563 z563 c563 (by decide) v563
theorem n522 : (Tryz.f522.name == "runtime.NumGoroutine") = false := by kernel_rfl
theorem b522 : Tryz.f522.body.isNone = true := by kernel_rfl
theorem x522 : Extern.findNext Tryz.f522 = none := by kernel_rfl
theorem e522 : Extern.find Tryz.f522 = some Extern.BytealgCount.count := by kernel_rfl
theorem ex522 : ExtOK Tryz.prog 522 .count := @extCount Tryz.prog 522 Tryz.f522 Tryz.func522 n522 b522 x522 e522
theorem n428 : (Tryz.f428.name == "runtime.NumGoroutine") = false := by kernel_rfl
theorem b428 : Tryz.f428.body.isNone = true := by kernel_rfl
theorem x428 : Extern.findNext Tryz.f428 = none := by kernel_rfl
theorem e428 : Extern.find Tryz.f428 = some Extern.BytealgIndexByte.indexByte := by kernel_rfl
theorem ex428 : ExtOK Tryz.prog 428 .indexByte := @extIndexByte Tryz.prog 428 Tryz.f428 Tryz.func428 n428 b428 x428 e428
theorem n313 : (Tryz.f313.name == "runtime.NumGoroutine") = false := by kernel_rfl
theorem b313 : Tryz.f313.body.isNone = true := by kernel_rfl
theorem x313 : Extern.findNext Tryz.f313 = none := by kernel_rfl
theorem e313 : Extern.find Tryz.f313 = some (Extern.SlicesOverlaps.overlaps #[315, 315] #[4]) := by kernel_rfl
theorem und313 : Tryz.prog.underlying 315 = some (.slice 317) := by kernel_rfl
theorem c313 : Tryz.prog.cellsOf 317 = 2 := by kernel_rfl
theorem i313 : (Tryz.prog.info? 317).isSome = true := by kernel_rfl
theorem v313 : Tryz.prog.underlying 317 ≠ some (.int .u8) := by
  intro h
  have : (match Tryz.prog.underlying 317 with | some (.int .u8) => true | _ => false) = false := by kernel_rfl
  rw [h] at this
  cases this
theorem z313 (w : World) : (Go.sizeOf 317).run Tryz.prog w = .ok 2 w := by
  obtain ⟨i, hi⟩ := Option.isSome_iff_exists.1 i313
  rw [run_sizeOf w hi, c313]
theorem ex313 : ExtOK Tryz.prog 313 (.overlaps 317 2) := @extOverlaps Tryz.prog 313 Tryz.f313 Tryz.func313 n313 b313 x313 315 4 317 2 e313 und313 z313 c313 (by decide) v313
theorem n230 : (Tryz.f230.name == "runtime.NumGoroutine") = false := by kernel_rfl
theorem b230 : Tryz.f230.body.isNone = true := by kernel_rfl
theorem x230 : Extern.findNext Tryz.f230 = none := by kernel_rfl
theorem e230 : Extern.find Tryz.f230 = some Extern.AbiNoEscape.same := by kernel_rfl
theorem ex230 : ExtOK Tryz.prog 230 .noEscape := @extNoEscape Tryz.prog 230 Tryz.f230 Tryz.func230 n230 b230 x230 e230
theorem exL : ∀ x ∈ extL, ExtOK Tryz.prog x.1 x.2 := List.forall_mem_cons.2 ⟨ex573, List.forall_mem_cons.2 ⟨ex563, List.forall_mem_cons.2 ⟨ex522, List.forall_mem_cons.2 ⟨ex428, List.forall_mem_cons.2 ⟨ex313, List.forall_mem_cons.2 ⟨ex230, fun _ h => nomatch h⟩⟩⟩⟩⟩⟩
theorem exOk : ∀ f fn x, PP0.funcs.get f = some fn → fn.body = none → PP0.exts.get f = some x → ExtOK Tryz.prog f x := fun f _ x _ _ hx => exL (f, x) (puts_mem (l := extL) hx)
def ti20 : TI := ⟨(.iface true), 1, false, .nilIface, [.nilIface], true, false, []⟩
theorem dn404 : DNop Tryz.prog 404 :=
  dnop_ok (types_ok tabs) (fn := Tryz.f404) Tryz.func404 (by kernel_rfl) rfl rfl ⟨rfl, rfl, rfl⟩ ⟨rfl, rfl, rfl⟩ ⟨rfl, rfl, rfl⟩ ⟨rfl, rfl, rfl⟩ (t := 20) (ti := ti20) (em := true) (by kernel_rfl) rfl (by decide) (by decide) (by decide) (by decide)
theorem G0 : PgOK Tryz.prog PP0 where
  types := types_ok tabs
  funcs := fun f fn h => by
    have h1 := T.get_ofList (l := Tryz.funcs.toList) h
    show Tryz.funcs[f]? = some fn
    rw [← Array.getElem?_toList]; exact h1
  named := fun f fn h => by
    have h1 := T.get_ofList (l := Tryz.funcs.toList) h
    have := allB_iff.1 named fn (List.mem_of_getElem? h1)
    simpa using this
  exts := exOk
  dnop := fun f h => by
    have hm := puts_mem (l := mapL (fun n => (n, ())) dnL) h
    have hm : (f, ()) ∈ [(404, ())] := hm
    simp only [List.mem_singleton, Prod.mk.injEq, and_true] at hm
    subst hm; exact dn404
  sums := fun f fn s hf hs => by
    have : PP0.sums.get f = none := get_nil (α := SumK) dep f
    rw [this] at hs; cases hs
  cps := fun f l c hf hc => by
    have : PP0.cps.get f = none := get_nil (α := List CP) dep f
    rw [this] at hf; cases hf
  frs := fun f l c hf hc => by
    have : PP0.frs.get f = none := get_nil (α := List CP) dep f
    rw [this] at hf; cases hf
  picks := fun f p args h c hf hc => by
    have : PP0.picks.get f = none := get_nil (α := PickK) dep f
    rw [this] at hf; cases hf
end Go.Proofs.YtcbacbfjjahcbaaGreatDoor.Ev
