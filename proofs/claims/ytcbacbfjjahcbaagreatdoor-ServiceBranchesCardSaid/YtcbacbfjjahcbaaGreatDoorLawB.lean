/- Whatever its byte and its text are, mainlinelaw24.ServiceBranches returns true. -/
import Derived.Test.YtcbacbfjjahcbaaGreatDoorKnown
import Derived.Test.YtcbacbfjjahcbaaGreatDoorRcB0
import Derived.Test.YtcbacbfjjahcbaaGreatDoorRcB1
import Derived.Test.YtcbacbfjjahcbaaGreatDoorRcB2
import Derived.Test.YtcbacbfjjahcbaaGreatDoorRcB3
import Derived.Test.YtcbacbfjjahcbaaGreatDoorRcB4
import Derived.Test.YtcbacbfjjahcbaaGreatDoorRcB5
import Derived.Test.YtcbacbfjjahcbaaGreatDoorRcB6
import Derived.Test.YtcbacbfjjahcbaaGreatDoorRcB7
import Derived.Test.YtcbacbfjjahcbaaGreatDoorRcB8
import Derived.Test.YtcbacbfjjahcbaaGreatDoorRcB9
import Derived.Test.YtcbacbfjjahcbaaGreatDoorRcB10
import Derived.Test.YtcbacbfjjahcbaaGreatDoorRcB11
import Derived.Test.YtcbacbfjjahcbaaGreatDoorRcB12
import Derived.Test.YtcbacbfjjahcbaaGreatDoorRcB13
import Derived.Test.YtcbacbfjjahcbaaGreatDoorRdB0
import Derived.Test.YtcbacbfjjahcbaaGreatDoorRdB1
import Derived.Test.YtcbacbfjjahcbaaGreatDoorRdB2
namespace Go.Proofs.YtcbacbfjjahcbaaGreatDoor.Ev
open Go Go.Proofs
set_option maxRecDepth 100000
set_option linter.unusedVariables false
set_option linter.unusedSimpArgs false
theorem hf18 : PP0.funcs.get 18 = some Tryz.f18 := by kernel_rfl
theorem hb18 : Tryz.f18.body.isSome = true := by kernel_rfl
theorem hf133 : PP0.funcs.get 133 = some Tryz.f133 := by kernel_rfl
theorem hb133 : Tryz.f133.body.isSome = true := by kernel_rfl
theorem hfL : PP0.funcs.get 4 = some Tryz.f4 := by kernel_rfl
theorem hbL : Tryz.f4.body.isSome = true := by kernel_rfl
theorem okPL133f : ∀ c ∈ cl133f, CPOK Tryz.prog 133 c := List.forall_mem_cons.2 ⟨@cp_ok Tryz.prog PP3 G3 200 133 Tryz.f133 hf133 hb133 cp1 cr1, List.forall_mem_cons.2 ⟨@cp_ok Tryz.prog PP3 G3 200 133 Tryz.f133 hf133 hb133 cp4 cr4, List.forall_mem_cons.2 ⟨@cp_ok Tryz.prog PP3 G3 200 133 Tryz.f133 hf133 hb133 cp7 cr7, List.forall_mem_cons.2 ⟨@cp_ok Tryz.prog PP3 G3 200 133 Tryz.f133 hf133 hb133 cp10 cr10, List.forall_mem_cons.2 ⟨@cp_ok Tryz.prog PP3 G3 200 133 Tryz.f133 hf133 hb133 cp15 cr15, List.forall_mem_cons.2 ⟨@cp_ok Tryz.prog PP3 G3 200 133 Tryz.f133 hf133 hb133 cp17 cr17, List.forall_mem_cons.2 ⟨@cp_ok Tryz.prog PP3 G3 200 133 Tryz.f133 hf133 hb133 cp19 cr19, List.forall_mem_cons.2 ⟨@cp_ok Tryz.prog PP3 G3 200 133 Tryz.f133 hf133 hb133 cp21 cr21, List.forall_mem_cons.2 ⟨@cp_ok Tryz.prog PP3 G3 200 133 Tryz.f133 hf133 hb133 cp23 cr23, List.forall_mem_cons.2 ⟨@cp_ok Tryz.prog PP3 G3 200 133 Tryz.f133 hf133 hb133 cp25 cr25, List.forall_mem_cons.2 ⟨@cp_ok Tryz.prog PP3 G3 200 133 Tryz.f133 hf133 hb133 cp27 cr27, List.forall_mem_cons.2 ⟨@cp_ok Tryz.prog PP3 G3 200 133 Tryz.f133 hf133 hb133 cp29 cr29, List.forall_mem_cons.2 ⟨@cp_ok Tryz.prog PP3 G3 200 133 Tryz.f133 hf133 hb133 cp31 cr31, List.forall_mem_cons.2 ⟨@cp_ok Tryz.prog PP3 G3 200 133 Tryz.f133 hf133 hb133 cp33 cr33, List.forall_mem_cons.2 ⟨@cp_ok Tryz.prog PP3 G3 200 133 Tryz.f133 hf133 hb133 cp35 cr35, List.forall_mem_cons.2 ⟨@cp_ok Tryz.prog PP3 G3 200 133 Tryz.f133 hf133 hb133 cp37 cr37, (fun _ h => nomatch h)⟩⟩⟩⟩⟩⟩⟩⟩⟩⟩⟩⟩⟩⟩⟩⟩
theorem GPL133f : PgOK Tryz.prog PL133f := @PgOK.addFr Tryz.prog PP3 G3 133 Tryz.f133 hf133 hb133 cl133f okPL133f
theorem G4 : PgOK Tryz.prog PP4 := GPL133f
theorem GK0_18 : PgOK Tryz.prog PK0_18 := @PgOK.addCP Tryz.prog PP4 G4 18 Tryz.f18 hf18 hb18 [cp0, cp2, cp3, cp5, cp6, cp8, cp9, cp11, cp12, cp13, cp14, cp16, cp18, cp20, cp22] (List.forall_mem_cons.2 ⟨@cp_ok Tryz.prog PP4 G4 200 18 Tryz.f18 hf18 hb18 cp0 cr0, List.forall_mem_cons.2 ⟨@cp_ok Tryz.prog PP4 G4 200 18 Tryz.f18 hf18 hb18 cp2 cr2, List.forall_mem_cons.2 ⟨@cp_ok Tryz.prog PP4 G4 200 18 Tryz.f18 hf18 hb18 cp3 cr3, List.forall_mem_cons.2 ⟨@cp_ok Tryz.prog PP4 G4 200 18 Tryz.f18 hf18 hb18 cp5 cr5, List.forall_mem_cons.2 ⟨@cp_ok Tryz.prog PP4 G4 200 18 Tryz.f18 hf18 hb18 cp6 cr6, List.forall_mem_cons.2 ⟨@cp_ok Tryz.prog PP4 G4 200 18 Tryz.f18 hf18 hb18 cp8 cr8, List.forall_mem_cons.2 ⟨@cp_ok Tryz.prog PP4 G4 200 18 Tryz.f18 hf18 hb18 cp9 cr9, List.forall_mem_cons.2 ⟨@cp_ok Tryz.prog PP4 G4 200 18 Tryz.f18 hf18 hb18 cp11 cr11, List.forall_mem_cons.2 ⟨@cp_ok Tryz.prog PP4 G4 200 18 Tryz.f18 hf18 hb18 cp12 cr12, List.forall_mem_cons.2 ⟨@cp_ok Tryz.prog PP4 G4 200 18 Tryz.f18 hf18 hb18 cp13 cr13, List.forall_mem_cons.2 ⟨@cp_ok Tryz.prog PP4 G4 200 18 Tryz.f18 hf18 hb18 cp14 cr14, List.forall_mem_cons.2 ⟨@cp_ok Tryz.prog PP4 G4 200 18 Tryz.f18 hf18 hb18 cp16 cr16, List.forall_mem_cons.2 ⟨@cp_ok Tryz.prog PP4 G4 200 18 Tryz.f18 hf18 hb18 cp18 cr18, List.forall_mem_cons.2 ⟨@cp_ok Tryz.prog PP4 G4 200 18 Tryz.f18 hf18 hb18 cp20 cr20, List.forall_mem_cons.2 ⟨@cp_ok Tryz.prog PP4 G4 200 18 Tryz.f18 hf18 hb18 cp22 cr22, (fun _ h => nomatch h)⟩⟩⟩⟩⟩⟩⟩⟩⟩⟩⟩⟩⟩⟩⟩)
theorem GK0 : PgOK Tryz.prog PK0 := GK0_18
theorem GK1_18 : PgOK Tryz.prog PK1_18 := @PgOK.addCP Tryz.prog PP4 G4 18 Tryz.f18 hf18 hb18 [cp0, cp2, cp3, cp5, cp6, cp8, cp9, cp11, cp12, cp13, cp14, cp24, cp26, cp28, cp30] (List.forall_mem_cons.2 ⟨@cp_ok Tryz.prog PP4 G4 200 18 Tryz.f18 hf18 hb18 cp0 cr0, List.forall_mem_cons.2 ⟨@cp_ok Tryz.prog PP4 G4 200 18 Tryz.f18 hf18 hb18 cp2 cr2, List.forall_mem_cons.2 ⟨@cp_ok Tryz.prog PP4 G4 200 18 Tryz.f18 hf18 hb18 cp3 cr3, List.forall_mem_cons.2 ⟨@cp_ok Tryz.prog PP4 G4 200 18 Tryz.f18 hf18 hb18 cp5 cr5, List.forall_mem_cons.2 ⟨@cp_ok Tryz.prog PP4 G4 200 18 Tryz.f18 hf18 hb18 cp6 cr6, List.forall_mem_cons.2 ⟨@cp_ok Tryz.prog PP4 G4 200 18 Tryz.f18 hf18 hb18 cp8 cr8, List.forall_mem_cons.2 ⟨@cp_ok Tryz.prog PP4 G4 200 18 Tryz.f18 hf18 hb18 cp9 cr9, List.forall_mem_cons.2 ⟨@cp_ok Tryz.prog PP4 G4 200 18 Tryz.f18 hf18 hb18 cp11 cr11, List.forall_mem_cons.2 ⟨@cp_ok Tryz.prog PP4 G4 200 18 Tryz.f18 hf18 hb18 cp12 cr12, List.forall_mem_cons.2 ⟨@cp_ok Tryz.prog PP4 G4 200 18 Tryz.f18 hf18 hb18 cp13 cr13, List.forall_mem_cons.2 ⟨@cp_ok Tryz.prog PP4 G4 200 18 Tryz.f18 hf18 hb18 cp14 cr14, List.forall_mem_cons.2 ⟨@cp_ok Tryz.prog PP4 G4 200 18 Tryz.f18 hf18 hb18 cp24 cr24, List.forall_mem_cons.2 ⟨@cp_ok Tryz.prog PP4 G4 200 18 Tryz.f18 hf18 hb18 cp26 cr26, List.forall_mem_cons.2 ⟨@cp_ok Tryz.prog PP4 G4 200 18 Tryz.f18 hf18 hb18 cp28 cr28, List.forall_mem_cons.2 ⟨@cp_ok Tryz.prog PP4 G4 200 18 Tryz.f18 hf18 hb18 cp30 cr30, (fun _ h => nomatch h)⟩⟩⟩⟩⟩⟩⟩⟩⟩⟩⟩⟩⟩⟩⟩)
theorem GK1 : PgOK Tryz.prog PK1 := GK1_18
theorem GK2_18 : PgOK Tryz.prog PK2_18 := @PgOK.addCP Tryz.prog PP4 G4 18 Tryz.f18 hf18 hb18 [cp0, cp2, cp3, cp5, cp6, cp8, cp9, cp11, cp12, cp13, cp14, cp32, cp34, cp36, cp38] (List.forall_mem_cons.2 ⟨@cp_ok Tryz.prog PP4 G4 200 18 Tryz.f18 hf18 hb18 cp0 cr0, List.forall_mem_cons.2 ⟨@cp_ok Tryz.prog PP4 G4 200 18 Tryz.f18 hf18 hb18 cp2 cr2, List.forall_mem_cons.2 ⟨@cp_ok Tryz.prog PP4 G4 200 18 Tryz.f18 hf18 hb18 cp3 cr3, List.forall_mem_cons.2 ⟨@cp_ok Tryz.prog PP4 G4 200 18 Tryz.f18 hf18 hb18 cp5 cr5, List.forall_mem_cons.2 ⟨@cp_ok Tryz.prog PP4 G4 200 18 Tryz.f18 hf18 hb18 cp6 cr6, List.forall_mem_cons.2 ⟨@cp_ok Tryz.prog PP4 G4 200 18 Tryz.f18 hf18 hb18 cp8 cr8, List.forall_mem_cons.2 ⟨@cp_ok Tryz.prog PP4 G4 200 18 Tryz.f18 hf18 hb18 cp9 cr9, List.forall_mem_cons.2 ⟨@cp_ok Tryz.prog PP4 G4 200 18 Tryz.f18 hf18 hb18 cp11 cr11, List.forall_mem_cons.2 ⟨@cp_ok Tryz.prog PP4 G4 200 18 Tryz.f18 hf18 hb18 cp12 cr12, List.forall_mem_cons.2 ⟨@cp_ok Tryz.prog PP4 G4 200 18 Tryz.f18 hf18 hb18 cp13 cr13, List.forall_mem_cons.2 ⟨@cp_ok Tryz.prog PP4 G4 200 18 Tryz.f18 hf18 hb18 cp14 cr14, List.forall_mem_cons.2 ⟨@cp_ok Tryz.prog PP4 G4 200 18 Tryz.f18 hf18 hb18 cp32 cr32, List.forall_mem_cons.2 ⟨@cp_ok Tryz.prog PP4 G4 200 18 Tryz.f18 hf18 hb18 cp34 cr34, List.forall_mem_cons.2 ⟨@cp_ok Tryz.prog PP4 G4 200 18 Tryz.f18 hf18 hb18 cp36 cr36, List.forall_mem_cons.2 ⟨@cp_ok Tryz.prog PP4 G4 200 18 Tryz.f18 hf18 hb18 cp38 cr38, (fun _ h => nomatch h)⟩⟩⟩⟩⟩⟩⟩⟩⟩⟩⟩⟩⟩⟩⟩)
theorem GK2 : PgOK Tryz.prog PK2 := GK2_18
theorem lawR (pg : Pg) (G : PgOK Tryz.prog pg) (hf : pg.funcs.get 4 = some Tryz.f4) (r : Nat) (hrun : runIs (call pg 200 (.func 4) [(.modv .u8 3 r), (.uns 0 0)] h0) (.bool true) = true) (a : Int) (s : ByteArray) (ha : 0 ≤ a) (h : a % 3 = r) (w : World) (hw : ∀ b, MaxG Tryz.prog b → IntAt w.heap b) :
    CallsIn (W none) 0 Tryz.prog 4 #[.int .u8 a, .string s] w (endR fun x w' => VRel (ren2 s s) (.bool true) x ∧ Same w w') :=
  @run_okD Tryz.prog pg G 200 4 Tryz.f4 hf hbL [(.modv .u8 3 r), (.uns 0 0)] (.bool true) hrun 4 rfl (ren2 s s) (ren2_dom s s) #[.int .u8 a, .string s] (.cons _ _ _ _ (.modv .u8 3 r a ha h) (.cons _ _ _ _ (ren2_a s s) .nil)) w hw
theorem law (a : Int) (s : ByteArray) (ha : 0 ≤ a) (w : World) (hw : ∀ b, MaxG Tryz.prog b → IntAt w.heap b) : CallsIn (W none) 0 Tryz.prog 4 #[.int .u8 a, .string s] w (endR fun x w' => VRel (ren2 s s) (.bool true) x ∧ Same w w') := by
  have h : a % 3 = (0 : Nat) ∨ a % 3 = (1 : Nat) ∨ a % 3 = (2 : Nat) := by omega
  rcases h with h | h | h
  · exact lawR PK0 GK0 hfL 0 run0 a s ha h w hw
  · exact lawR PK1 GK1 hfL 1 run1 a s ha h w hw
  · exact lawR PK2 GK2 hfL 2 run2 a s ha h w hw
theorem lawCalls (a : Int) (s : ByteArray) (ha : 0 ≤ a) (w : World) (hw : ∀ b, MaxG Tryz.prog b → IntAt w.heap b) : Calls Tryz.prog 4 #[.int .u8 a, .string s] w fun e w' => e = .returned (.bool true) ∧ Same w w' := by
  have h := callsIn_wide.1 (law a s ha w hw)
  refine Calls.mono h fun e w' k => ?_
  cases e with
  | returned x =>
    obtain ⟨k1, k2⟩ : VRel (ren2 s s) (.bool true) x ∧ Same w w' := k
    cases k1
    exact ⟨rfl, k2⟩
  | panicked => exact False.elim k
  | outgrown => exact False.elim k
end Go.Proofs.YtcbacbfjjahcbaaGreatDoor.Ev
