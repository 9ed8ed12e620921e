/- What the evaluator reads is what the program says. -/
import Derived.Test.YtpjkcfglojigmaaGreatDoorPg
import Derived.KernelRfl
import Derived.ChangeKeysEq
import Derived.Test.YtpjkcfglojigmaaGreatDoorEvI
namespace Go.Proofs.YtpjkcfglojigmaaGreatDoor.Ev
open Go Go.Proofs
set_option maxRecDepth 100000
set_option linter.unusedVariables false
set_option linter.unusedSimpArgs false
theorem t0 : tabOk Tryz.prog tt0 := tabOk_of (by kernel_rfl)
theorem t1 : tabOk Tryz.prog tt1 := tabOk_of (by kernel_rfl)
theorem t2 : tabOk Tryz.prog tt2 := tabOk_of (by kernel_rfl)
theorem t3 : tabOk Tryz.prog tt3 := tabOk_of (by kernel_rfl)
theorem t4 : tabOk Tryz.prog tt4 := tabOk_of (by kernel_rfl)
theorem t5 : tabOk Tryz.prog tt5 := tabOk_of (by kernel_rfl)
theorem t6 : tabOk Tryz.prog tt6 := tabOk_of (by kernel_rfl)
theorem t7 : tabOk Tryz.prog tt7 := tabOk_of (by kernel_rfl)
theorem t8 : tabOk Tryz.prog tt8 := tabOk_of (by kernel_rfl)
theorem t9 : tabOk Tryz.prog tt9 := tabOk_of (by kernel_rfl)
theorem t10 : tabOk Tryz.prog tt10 := tabOk_of (by kernel_rfl)
theorem t11 : tabOk Tryz.prog tt11 := tabOk_of (by kernel_rfl)
theorem t12 : tabOk Tryz.prog tt12 := tabOk_of (by kernel_rfl)
theorem t13 : tabOk Tryz.prog tt13 := tabOk_of (by kernel_rfl)
theorem t14 : tabOk Tryz.prog tt14 := tabOk_of (by kernel_rfl)
theorem t15 : tabOk Tryz.prog tt15 := tabOk_of (by kernel_rfl)
theorem t16 : tabOk Tryz.prog tt16 := tabOk_of (by kernel_rfl)
theorem t17 : tabOk Tryz.prog tt17 := tabOk_of (by kernel_rfl)
theorem t18 : tabOk Tryz.prog tt18 := tabOk_of (by kernel_rfl)
theorem t19 : tabOk Tryz.prog tt19 := tabOk_of (by kernel_rfl)
theorem t20 : tabOk Tryz.prog tt20 := tabOk_of (by kernel_rfl)
theorem t21 : tabOk Tryz.prog tt21 := tabOk_of (by kernel_rfl)
theorem t22 : tabOk Tryz.prog tt22 := tabOk_of (by kernel_rfl)
theorem t23 : tabOk Tryz.prog tt23 := tabOk_of (by kernel_rfl)
theorem t24 : tabOk Tryz.prog tt24 := tabOk_of (by kernel_rfl)
theorem t25 : tabOk Tryz.prog tt25 := tabOk_of (by kernel_rfl)
theorem t26 : tabOk Tryz.prog tt26 := tabOk_of (by kernel_rfl)
theorem t27 : tabOk Tryz.prog tt27 := tabOk_of (by kernel_rfl)
theorem t28 : tabOk Tryz.prog tt28 := tabOk_of (by kernel_rfl)
theorem tabs : tabOk Tryz.prog ttL := by
  unfold ttL
  exact (tabOk_append (tabOk_append (tabOk_append (tabOk_append (tabOk_append (tabOk_append (tabOk_append (tabOk_append (tabOk_append (tabOk_append (tabOk_append (tabOk_append (tabOk_append (tabOk_append (tabOk_append (tabOk_append (tabOk_append (tabOk_append (tabOk_append (tabOk_append (tabOk_append (tabOk_append (tabOk_append (tabOk_append (tabOk_append (tabOk_append (tabOk_append (tabOk_append t0 t1) t2) t3) t4) t5) t6) t7) t8) t9) t10) t11) t12) t13) t14) t15) t16) t17) t18) t19) t20) t21) t22) t23) t24) t25) t26) t27) t28)
theorem named : allB (fun fn : Func => !(fn.name == "runtime.NumGoroutine")) Tryz.funcs.toList = true := by kernel_rfl
theorem n575 : (Tryz.f575.name == "runtime.NumGoroutine") = false := by kernel_rfl
theorem b575 : Tryz.f575.body.isNone = true := by kernel_rfl
theorem x575 : Extern.findNext Tryz.f575 = none := by kernel_rfl
theorem e575 : Extern.find Tryz.f575 = some (Extern.BytealgMakeNoZero.makeNoZero Tryz.f575.params #[37]) := by kernel_rfl
theorem und575 : Tryz.prog.underlying 37 = some (.slice 5) := by kernel_rfl
theorem c575 : Tryz.prog.cellsOf 5 = 1 := by kernel_rfl
theorem ex575 : ExtOK Tryz.prog 575 (.makeNoZero 5) := @extMakeNoZero Tryz.prog 575 Tryz.f575 Tryz.func575 n575 b575 x575 37 5 e575 und575 c575
theorem n566 : (Tryz.f566.name == "runtime.NumGoroutine") = false := by kernel_rfl
theorem b566 : Tryz.f566.body.isNone = true := by kernel_rfl
theorem x566 : Extern.findNext Tryz.f566 = none := by kernel_rfl
theorem e566 : Extern.find Tryz.f566 = some (Extern.SlicesOverlaps.overlaps #[178, 178] #[4]) := by kernel_rfl
theorem und566 : Tryz.prog.underlying 178 = some (.slice 180) := by kernel_rfl
theorem c566 : Tryz.prog.cellsOf 180 = 3 := by kernel_rfl
theorem i566 : (Tryz.prog.info? 180).isSome = true := by kernel_rfl
theorem v566 : Tryz.prog.underlying 180 ≠ some (.int .u8) := by
  intro h
  have : (match Tryz.prog.underlying 180 with | some (.int .u8) => true | _ => false) = false := by kernel_rfl
  rw [h] at this
  cases this
theorem z566 (w : World) : (Go.sizeOf 180).run Tryz.prog w = .ok 3 w := by
  obtain ⟨i, hi⟩ := Option.isSome_iff_exists.1 i566
  rw [run_sizeOf w hi, c566]
theorem ex566 : ExtOK Tryz.prog 566 (.overlaps 180 3) := @extOverlaps Tryz.prog 566 Tryz.f566 Tryz.func566 n566 b566 x566 178 4 180 3 e566 und566 z566 c566 (by decide) v566
theorem n520 : (Tryz.f520.name == "runtime.NumGoroutine") = false := by kernel_rfl
theorem b520 : Tryz.f520.body.isNone = true := by kernel_rfl
theorem x520 : Extern.findNext Tryz.f520 = none := by kernel_rfl
theorem e520 : Extern.find Tryz.f520 = some Extern.BytealgCount.count := by kernel_rfl
theorem ex520 : ExtOK Tryz.prog 520 .count := @extCount Tryz.prog 520 Tryz.f520 Tryz.func520 n520 b520 x520 e520
theorem n358 : (Tryz.f358.name == "runtime.NumGoroutine") = false := by kernel_rfl
theorem b358 : Tryz.f358.body.isNone = true := by kernel_rfl
theorem x358 : Extern.findNext Tryz.f358 = none := by kernel_rfl
theorem e358 : Extern.find Tryz.f358 = some Extern.BytealgIndexByte.indexByte := by kernel_rfl
theorem ex358 : ExtOK Tryz.prog 358 .indexByte := @extIndexByte Tryz.prog 358 Tryz.f358 Tryz.func358 n358 b358 x358 e358
theorem n324 : (Tryz.f324.name == "runtime.NumGoroutine") = false := by kernel_rfl
theorem b324 : Tryz.f324.body.isNone = true := by kernel_rfl
theorem x324 : Extern.findNext Tryz.f324 = none := by kernel_rfl
theorem e324 : Extern.find Tryz.f324 = some (Extern.SlicesOverlaps.overlaps #[324, 324] #[4]) := by kernel_rfl
theorem und324 : Tryz.prog.underlying 324 = some (.slice 326) := by kernel_rfl
theorem c324 : Tryz.prog.cellsOf 326 = 2 := by kernel_rfl
theorem i324 : (Tryz.prog.info? 326).isSome = true := by kernel_rfl
theorem v324 : Tryz.prog.underlying 326 ≠ some (.int .u8) := by
  intro h
  have : (match Tryz.prog.underlying 326 with | some (.int .u8) => true | _ => false) = false := by kernel_rfl
  rw [h] at this
  cases this
theorem z324 (w : World) : (Go.sizeOf 326).run Tryz.prog w = .ok 2 w := by
  obtain ⟨i, hi⟩ := Option.isSome_iff_exists.1 i324
  rw [run_sizeOf w hi, c324]
theorem ex324 : ExtOK Tryz.prog 324 (.overlaps 326 2) := @extOverlaps Tryz.prog 324 Tryz.f324 Tryz.func324 n324 b324 x324 324 4 326 2 e324 und324 z324 c324 (by decide) v324
theorem n105 : (Tryz.f105.name == "runtime.NumGoroutine") = false := by kernel_rfl
theorem b105 : Tryz.f105.body.isNone = true := by kernel_rfl
theorem x105 : Extern.findNext Tryz.f105 = none := by kernel_rfl
theorem e105 : Extern.find Tryz.f105 = some Extern.AbiNoEscape.same := by kernel_rfl
theorem ex105 : ExtOK Tryz.prog 105 .noEscape := @extNoEscape Tryz.prog 105 Tryz.f105 Tryz.func105 n105 b105 x105 e105
theorem exL : ∀ x ∈ extL, ExtOK Tryz.prog x.1 x.2 := List.forall_mem_cons.2 ⟨ex575, List.forall_mem_cons.2 ⟨ex566, List.forall_mem_cons.2 ⟨ex520, List.forall_mem_cons.2 ⟨ex358, List.forall_mem_cons.2 ⟨ex324, List.forall_mem_cons.2 ⟨ex105, fun _ h => nomatch h⟩⟩⟩⟩⟩⟩
theorem exOk : ∀ f fn x, PP0.funcs.get f = some fn → fn.body = none → PP0.exts.get f = some x → ExtOK Tryz.prog f x := fun f _ x _ _ hx => exL (f, x) (puts_mem (l := extL) hx)
def ti20 : TI := ⟨(.iface true), 1, false, .nilIface, [.nilIface], true, false, []⟩
theorem dn412 : DNop Tryz.prog 412 :=
  dnop_ok (types_ok tabs) (fn := Tryz.f412) Tryz.func412 (by kernel_rfl) rfl rfl ⟨rfl, rfl, rfl⟩ ⟨rfl, rfl, rfl⟩ ⟨rfl, rfl, rfl⟩ ⟨rfl, rfl, rfl⟩ (t := 20) (ti := ti20) (em := true) (by kernel_rfl) rfl (by decide) (by decide) (by decide) (by decide)
theorem G0 : PgOK Tryz.prog PP0 where
  types := types_ok tabs
  funcs := fun f fn h => by
    have h1 := T.get_ofList (l := Tryz.funcs.toList) h
    show Tryz.funcs[f]? = some fn
    rw [← Array.getElem?_toList]; exact h1
  named := fun f fn h => by
    have h1 := T.get_ofList (l := Tryz.funcs.toList) h
    have := allB_iff.1 named fn (List.mem_of_getElem? h1)
    simpa using this
  exts := exOk
  dnop := fun f h => by
    have hm := puts_mem (l := mapL (fun n => (n, ())) dnL) h
    have hm : (f, ()) ∈ [(412, ())] := hm
    simp only [List.mem_singleton, Prod.mk.injEq, and_true] at hm
    subst hm; exact dn412
  sums := fun f fn s hf hs => by
    have : PP0.sums.get f = none := get_nil (α := SumK) dep f
    rw [this] at hs; cases hs
  cps := fun f l c hf hc => by
    have : PP0.cps.get f = none := get_nil (α := List CP) dep f
    rw [this] at hf; cases hf
  frs := fun f l c hf hc => by
    have : PP0.frs.get f = none := get_nil (α := List CP) dep f
    rw [this] at hf; cases hf
  picks := fun f p args h c hf hc => by
    have : PP0.picks.get f = none := get_nil (α := PickK) dep f
    rw [this] at hf; cases hf
end Go.Proofs.YtpjkcfglojigmaaGreatDoor.Ev
