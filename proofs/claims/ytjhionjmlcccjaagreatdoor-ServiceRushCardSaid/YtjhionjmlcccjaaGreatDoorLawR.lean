/- ServiceRush answers true whatever its two arguments are; what it found it leaves. -/
import Derived.Test.YtjhionjmlcccjaaGreatDoorKnown
import Derived.Test.YtjhionjmlcccjaaGreatDoorRcR0
import Derived.Test.YtjhionjmlcccjaaGreatDoorRcR1
import Derived.Test.YtjhionjmlcccjaaGreatDoorRcR2
import Derived.Test.YtjhionjmlcccjaaGreatDoorRcR3
import Derived.Test.YtjhionjmlcccjaaGreatDoorRcR4
import Derived.Test.YtjhionjmlcccjaaGreatDoorRcR5
import Derived.Test.YtjhionjmlcccjaaGreatDoorRcR6
import Derived.Test.YtjhionjmlcccjaaGreatDoorRdR0
import Derived.Test.YtjhionjmlcccjaaGreatDoorRdR1
namespace Go.Proofs.YtjhionjmlcccjaaGreatDoor.Ev
open Go Go.Proofs
set_option maxRecDepth 100000
set_option linter.unusedVariables false
set_option linter.unusedSimpArgs false
theorem hf13 : PP0.funcs.get 13 = some Tryz.f13 := by kernel_rfl
theorem hb13 : Tryz.f13.body.isSome = true := by kernel_rfl
theorem hfL : PP0.funcs.get 5 = some Tryz.f5 := by kernel_rfl
theorem hbL : Tryz.f5.body.isSome = true := by kernel_rfl
theorem G4 : PgOK Tryz.prog PP4 := G3
theorem GK0_13 : PgOK Tryz.prog PK0_13 := @PgOK.addCP Tryz.prog PP4 G4 13 Tryz.f13 hf13 hb13 [cp0, cp1, cp2, cp3, cp4, cp5, cp6, cp7, cp8, cp9, cp10, cp11, cp12] (List.forall_mem_cons.2 ⟨@cp_ok Tryz.prog PP4 G4 200 13 Tryz.f13 hf13 hb13 cp0 cr0, List.forall_mem_cons.2 ⟨@cp_ok Tryz.prog PP4 G4 200 13 Tryz.f13 hf13 hb13 cp1 cr1, List.forall_mem_cons.2 ⟨@cp_ok Tryz.prog PP4 G4 200 13 Tryz.f13 hf13 hb13 cp2 cr2, List.forall_mem_cons.2 ⟨@cp_ok Tryz.prog PP4 G4 200 13 Tryz.f13 hf13 hb13 cp3 cr3, List.forall_mem_cons.2 ⟨@cp_ok Tryz.prog PP4 G4 200 13 Tryz.f13 hf13 hb13 cp4 cr4, List.forall_mem_cons.2 ⟨@cp_ok Tryz.prog PP4 G4 200 13 Tryz.f13 hf13 hb13 cp5 cr5, List.forall_mem_cons.2 ⟨@cp_ok Tryz.prog PP4 G4 200 13 Tryz.f13 hf13 hb13 cp6 cr6, List.forall_mem_cons.2 ⟨@cp_ok Tryz.prog PP4 G4 200 13 Tryz.f13 hf13 hb13 cp7 cr7, List.forall_mem_cons.2 ⟨@cp_ok Tryz.prog PP4 G4 200 13 Tryz.f13 hf13 hb13 cp8 cr8, List.forall_mem_cons.2 ⟨@cp_ok Tryz.prog PP4 G4 200 13 Tryz.f13 hf13 hb13 cp9 cr9, List.forall_mem_cons.2 ⟨@cp_ok Tryz.prog PP4 G4 200 13 Tryz.f13 hf13 hb13 cp10 cr10, List.forall_mem_cons.2 ⟨@cp_ok Tryz.prog PP4 G4 200 13 Tryz.f13 hf13 hb13 cp11 cr11, List.forall_mem_cons.2 ⟨@cp_ok Tryz.prog PP4 G4 200 13 Tryz.f13 hf13 hb13 cp12 cr12, (fun _ h => nomatch h)⟩⟩⟩⟩⟩⟩⟩⟩⟩⟩⟩⟩⟩)
theorem GK0 : PgOK Tryz.prog PK0 := GK0_13
theorem GK1_13 : PgOK Tryz.prog PK1_13 := @PgOK.addCP Tryz.prog PP4 G4 13 Tryz.f13 hf13 hb13 [cp0, cp1, cp2, cp3, cp4, cp5, cp6, cp7, cp8] (List.forall_mem_cons.2 ⟨@cp_ok Tryz.prog PP4 G4 200 13 Tryz.f13 hf13 hb13 cp0 cr0, List.forall_mem_cons.2 ⟨@cp_ok Tryz.prog PP4 G4 200 13 Tryz.f13 hf13 hb13 cp1 cr1, List.forall_mem_cons.2 ⟨@cp_ok Tryz.prog PP4 G4 200 13 Tryz.f13 hf13 hb13 cp2 cr2, List.forall_mem_cons.2 ⟨@cp_ok Tryz.prog PP4 G4 200 13 Tryz.f13 hf13 hb13 cp3 cr3, List.forall_mem_cons.2 ⟨@cp_ok Tryz.prog PP4 G4 200 13 Tryz.f13 hf13 hb13 cp4 cr4, List.forall_mem_cons.2 ⟨@cp_ok Tryz.prog PP4 G4 200 13 Tryz.f13 hf13 hb13 cp5 cr5, List.forall_mem_cons.2 ⟨@cp_ok Tryz.prog PP4 G4 200 13 Tryz.f13 hf13 hb13 cp6 cr6, List.forall_mem_cons.2 ⟨@cp_ok Tryz.prog PP4 G4 200 13 Tryz.f13 hf13 hb13 cp7 cr7, List.forall_mem_cons.2 ⟨@cp_ok Tryz.prog PP4 G4 200 13 Tryz.f13 hf13 hb13 cp8 cr8, (fun _ h => nomatch h)⟩⟩⟩⟩⟩⟩⟩⟩⟩)
theorem GK1 : PgOK Tryz.prog PK1 := GK1_13
theorem GK2_13 : PgOK Tryz.prog PK2_13 := @PgOK.addCP Tryz.prog PP4 G4 13 Tryz.f13 hf13 hb13 [cp0, cp1, cp2, cp13, cp14, cp15, cp16, cp17, cp18, cp19] (List.forall_mem_cons.2 ⟨@cp_ok Tryz.prog PP4 G4 200 13 Tryz.f13 hf13 hb13 cp0 cr0, List.forall_mem_cons.2 ⟨@cp_ok Tryz.prog PP4 G4 200 13 Tryz.f13 hf13 hb13 cp1 cr1, List.forall_mem_cons.2 ⟨@cp_ok Tryz.prog PP4 G4 200 13 Tryz.f13 hf13 hb13 cp2 cr2, List.forall_mem_cons.2 ⟨@cp_ok Tryz.prog PP4 G4 200 13 Tryz.f13 hf13 hb13 cp13 cr13, List.forall_mem_cons.2 ⟨@cp_ok Tryz.prog PP4 G4 200 13 Tryz.f13 hf13 hb13 cp14 cr14, List.forall_mem_cons.2 ⟨@cp_ok Tryz.prog PP4 G4 200 13 Tryz.f13 hf13 hb13 cp15 cr15, List.forall_mem_cons.2 ⟨@cp_ok Tryz.prog PP4 G4 200 13 Tryz.f13 hf13 hb13 cp16 cr16, List.forall_mem_cons.2 ⟨@cp_ok Tryz.prog PP4 G4 200 13 Tryz.f13 hf13 hb13 cp17 cr17, List.forall_mem_cons.2 ⟨@cp_ok Tryz.prog PP4 G4 200 13 Tryz.f13 hf13 hb13 cp18 cr18, List.forall_mem_cons.2 ⟨@cp_ok Tryz.prog PP4 G4 200 13 Tryz.f13 hf13 hb13 cp19 cr19, (fun _ h => nomatch h)⟩⟩⟩⟩⟩⟩⟩⟩⟩⟩)
theorem GK2 : PgOK Tryz.prog PK2 := GK2_13
theorem GK3_13 : PgOK Tryz.prog PK3_13 := @PgOK.addCP Tryz.prog PP4 G4 13 Tryz.f13 hf13 hb13 [cp0, cp1, cp2, cp13, cp14, cp15, cp16, cp17, cp18, cp19] (List.forall_mem_cons.2 ⟨@cp_ok Tryz.prog PP4 G4 200 13 Tryz.f13 hf13 hb13 cp0 cr0, List.forall_mem_cons.2 ⟨@cp_ok Tryz.prog PP4 G4 200 13 Tryz.f13 hf13 hb13 cp1 cr1, List.forall_mem_cons.2 ⟨@cp_ok Tryz.prog PP4 G4 200 13 Tryz.f13 hf13 hb13 cp2 cr2, List.forall_mem_cons.2 ⟨@cp_ok Tryz.prog PP4 G4 200 13 Tryz.f13 hf13 hb13 cp13 cr13, List.forall_mem_cons.2 ⟨@cp_ok Tryz.prog PP4 G4 200 13 Tryz.f13 hf13 hb13 cp14 cr14, List.forall_mem_cons.2 ⟨@cp_ok Tryz.prog PP4 G4 200 13 Tryz.f13 hf13 hb13 cp15 cr15, List.forall_mem_cons.2 ⟨@cp_ok Tryz.prog PP4 G4 200 13 Tryz.f13 hf13 hb13 cp16 cr16, List.forall_mem_cons.2 ⟨@cp_ok Tryz.prog PP4 G4 200 13 Tryz.f13 hf13 hb13 cp17 cr17, List.forall_mem_cons.2 ⟨@cp_ok Tryz.prog PP4 G4 200 13 Tryz.f13 hf13 hb13 cp18 cr18, List.forall_mem_cons.2 ⟨@cp_ok Tryz.prog PP4 G4 200 13 Tryz.f13 hf13 hb13 cp19 cr19, (fun _ h => nomatch h)⟩⟩⟩⟩⟩⟩⟩⟩⟩⟩)
theorem GK3 : PgOK Tryz.prog PK3 := GK3_13
theorem lawR (pg : Pg) (G : PgOK Tryz.prog pg) (hf : pg.funcs.get 5 = some Tryz.f5) (a b : Bool) (hrun : runIs (call pg 200 (.func 5) [(.bool a), (.bool b)] h0) (.bool true) = true) (w : World) (hw : ∀ b, MaxG Tryz.prog b → IntAt w.heap b) :
    CallsIn (W none) 0 Tryz.prog 5 #[.bool a, .bool b] w (endR fun x w' => VRel Ren.none (.bool true) x ∧ Same w w') :=
  @run_ok Tryz.prog pg G 200 5 Tryz.f5 hf hbL [(.bool a), (.bool b)] (.bool true) hrun 4 rfl #[.bool a, .bool b] (.cons _ _ _ _ (.bool a) (.cons _ _ _ _ (.bool b) .nil)) Ren.none w hw
theorem law (a b : Bool) (w : World) (hw : ∀ b, MaxG Tryz.prog b → IntAt w.heap b) : CallsIn (W none) 0 Tryz.prog 5 #[.bool a, .bool b] w (endR fun x w' => VRel Ren.none (.bool true) x ∧ Same w w') := by
  cases a <;> cases b
  · exact lawR PK3 GK3 hfL false false run3 w hw
  · exact lawR PK2 GK2 hfL false true run2 w hw
  · exact lawR PK1 GK1 hfL true false run1 w hw
  · exact lawR PK0 GK0 hfL true true run0 w hw
theorem lawCalls (a b : Bool) (w : World) (hw : ∀ b, MaxG Tryz.prog b → IntAt w.heap b) : Calls Tryz.prog 5 #[.bool a, .bool b] w fun e w' => e = .returned (.bool true) ∧ Same w w' := by
  have h := callsIn_wide.1 (law a b w hw)
  refine Calls.mono h fun e w' k => ?_
  cases e with
  | returned x =>
    obtain ⟨k1, k2⟩ : VRel Ren.none (.bool true) x ∧ Same w w' := k
    cases k1
    exact ⟨rfl, k2⟩
  | panicked => exact False.elim k
  | outgrown => exact False.elim k
end Go.Proofs.YtjhionjmlcccjaaGreatDoor.Ev
