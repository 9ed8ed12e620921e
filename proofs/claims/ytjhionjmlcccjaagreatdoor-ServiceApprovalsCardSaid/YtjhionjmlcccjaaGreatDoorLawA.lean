/- ServiceApprovals answers true whatever its two arguments are; what it found it leaves. -/
import Derived.Test.YtjhionjmlcccjaaGreatDoorKnown
import Derived.Test.YtjhionjmlcccjaaGreatDoorRcA0
import Derived.Test.YtjhionjmlcccjaaGreatDoorRcA1
import Derived.Test.YtjhionjmlcccjaaGreatDoorRcA2
import Derived.Test.YtjhionjmlcccjaaGreatDoorRcA3
import Derived.Test.YtjhionjmlcccjaaGreatDoorRcA4
import Derived.Test.YtjhionjmlcccjaaGreatDoorRcA5
import Derived.Test.YtjhionjmlcccjaaGreatDoorRcA6
import Derived.Test.YtjhionjmlcccjaaGreatDoorRcA7
import Derived.Test.YtjhionjmlcccjaaGreatDoorRcA8
import Derived.Test.YtjhionjmlcccjaaGreatDoorRcA9
import Derived.Test.YtjhionjmlcccjaaGreatDoorRcA10
import Derived.Test.YtjhionjmlcccjaaGreatDoorRdA0
import Derived.Test.YtjhionjmlcccjaaGreatDoorRdA1
import Derived.Test.YtjhionjmlcccjaaGreatDoorRdA2
namespace Go.Proofs.YtjhionjmlcccjaaGreatDoor.Ev
open Go Go.Proofs
set_option maxRecDepth 100000
set_option linter.unusedVariables false
set_option linter.unusedSimpArgs false
theorem hf13 : PP0.funcs.get 13 = some Tryz.f13 := by kernel_rfl
theorem hb13 : Tryz.f13.body.isSome = true := by kernel_rfl
theorem hfL : PP0.funcs.get 3 = some Tryz.f3 := by kernel_rfl
theorem hbL : Tryz.f3.body.isSome = true := by kernel_rfl
theorem G4 : PgOK Tryz.prog PP4 := G3
theorem GK0_13 : PgOK Tryz.prog PK0_13 := @PgOK.addCP Tryz.prog PP4 G4 13 Tryz.f13 hf13 hb13 [cp0, cp1, cp2, cp3, cp4, cp5] (List.forall_mem_cons.2 ⟨@cp_ok Tryz.prog PP4 G4 200 13 Tryz.f13 hf13 hb13 cp0 cr0, List.forall_mem_cons.2 ⟨@cp_ok Tryz.prog PP4 G4 200 13 Tryz.f13 hf13 hb13 cp1 cr1, List.forall_mem_cons.2 ⟨@cp_ok Tryz.prog PP4 G4 200 13 Tryz.f13 hf13 hb13 cp2 cr2, List.forall_mem_cons.2 ⟨@cp_ok Tryz.prog PP4 G4 200 13 Tryz.f13 hf13 hb13 cp3 cr3, List.forall_mem_cons.2 ⟨@cp_ok Tryz.prog PP4 G4 200 13 Tryz.f13 hf13 hb13 cp4 cr4, List.forall_mem_cons.2 ⟨@cp_ok Tryz.prog PP4 G4 200 13 Tryz.f13 hf13 hb13 cp5 cr5, (fun _ h => nomatch h)⟩⟩⟩⟩⟩⟩)
theorem GK0 : PgOK Tryz.prog PK0 := GK0_13
theorem GK1_13 : PgOK Tryz.prog PK1_13 := @PgOK.addCP Tryz.prog PP4 G4 13 Tryz.f13 hf13 hb13 [cp0, cp1, cp2, cp3, cp4, cp6, cp7] (List.forall_mem_cons.2 ⟨@cp_ok Tryz.prog PP4 G4 200 13 Tryz.f13 hf13 hb13 cp0 cr0, List.forall_mem_cons.2 ⟨@cp_ok Tryz.prog PP4 G4 200 13 Tryz.f13 hf13 hb13 cp1 cr1, List.forall_mem_cons.2 ⟨@cp_ok Tryz.prog PP4 G4 200 13 Tryz.f13 hf13 hb13 cp2 cr2, List.forall_mem_cons.2 ⟨@cp_ok Tryz.prog PP4 G4 200 13 Tryz.f13 hf13 hb13 cp3 cr3, List.forall_mem_cons.2 ⟨@cp_ok Tryz.prog PP4 G4 200 13 Tryz.f13 hf13 hb13 cp4 cr4, List.forall_mem_cons.2 ⟨@cp_ok Tryz.prog PP4 G4 200 13 Tryz.f13 hf13 hb13 cp6 cr6, List.forall_mem_cons.2 ⟨@cp_ok Tryz.prog PP4 G4 200 13 Tryz.f13 hf13 hb13 cp7 cr7, (fun _ h => nomatch h)⟩⟩⟩⟩⟩⟩⟩)
theorem GK1 : PgOK Tryz.prog PK1 := GK1_13
theorem GK2_13 : PgOK Tryz.prog PK2_13 := @PgOK.addCP Tryz.prog PP4 G4 13 Tryz.f13 hf13 hb13 [cp0, cp1, cp2, cp3, cp4, cp8, cp9] (List.forall_mem_cons.2 ⟨@cp_ok Tryz.prog PP4 G4 200 13 Tryz.f13 hf13 hb13 cp0 cr0, List.forall_mem_cons.2 ⟨@cp_ok Tryz.prog PP4 G4 200 13 Tryz.f13 hf13 hb13 cp1 cr1, List.forall_mem_cons.2 ⟨@cp_ok Tryz.prog PP4 G4 200 13 Tryz.f13 hf13 hb13 cp2 cr2, List.forall_mem_cons.2 ⟨@cp_ok Tryz.prog PP4 G4 200 13 Tryz.f13 hf13 hb13 cp3 cr3, List.forall_mem_cons.2 ⟨@cp_ok Tryz.prog PP4 G4 200 13 Tryz.f13 hf13 hb13 cp4 cr4, List.forall_mem_cons.2 ⟨@cp_ok Tryz.prog PP4 G4 200 13 Tryz.f13 hf13 hb13 cp8 cr8, List.forall_mem_cons.2 ⟨@cp_ok Tryz.prog PP4 G4 200 13 Tryz.f13 hf13 hb13 cp9 cr9, (fun _ h => nomatch h)⟩⟩⟩⟩⟩⟩⟩)
theorem GK2 : PgOK Tryz.prog PK2 := GK2_13
theorem GK3_13 : PgOK Tryz.prog PK3_13 := @PgOK.addCP Tryz.prog PP4 G4 13 Tryz.f13 hf13 hb13 [cp0, cp1, cp2, cp3, cp10, cp11] (List.forall_mem_cons.2 ⟨@cp_ok Tryz.prog PP4 G4 200 13 Tryz.f13 hf13 hb13 cp0 cr0, List.forall_mem_cons.2 ⟨@cp_ok Tryz.prog PP4 G4 200 13 Tryz.f13 hf13 hb13 cp1 cr1, List.forall_mem_cons.2 ⟨@cp_ok Tryz.prog PP4 G4 200 13 Tryz.f13 hf13 hb13 cp2 cr2, List.forall_mem_cons.2 ⟨@cp_ok Tryz.prog PP4 G4 200 13 Tryz.f13 hf13 hb13 cp3 cr3, List.forall_mem_cons.2 ⟨@cp_ok Tryz.prog PP4 G4 200 13 Tryz.f13 hf13 hb13 cp10 cr10, List.forall_mem_cons.2 ⟨@cp_ok Tryz.prog PP4 G4 200 13 Tryz.f13 hf13 hb13 cp11 cr11, (fun _ h => nomatch h)⟩⟩⟩⟩⟩⟩)
theorem GK3 : PgOK Tryz.prog PK3 := GK3_13
theorem GK4_13 : PgOK Tryz.prog PK4_13 := @PgOK.addCP Tryz.prog PP4 G4 13 Tryz.f13 hf13 hb13 [cp0, cp1, cp2, cp3, cp10, cp12, cp13] (List.forall_mem_cons.2 ⟨@cp_ok Tryz.prog PP4 G4 200 13 Tryz.f13 hf13 hb13 cp0 cr0, List.forall_mem_cons.2 ⟨@cp_ok Tryz.prog PP4 G4 200 13 Tryz.f13 hf13 hb13 cp1 cr1, List.forall_mem_cons.2 ⟨@cp_ok Tryz.prog PP4 G4 200 13 Tryz.f13 hf13 hb13 cp2 cr2, List.forall_mem_cons.2 ⟨@cp_ok Tryz.prog PP4 G4 200 13 Tryz.f13 hf13 hb13 cp3 cr3, List.forall_mem_cons.2 ⟨@cp_ok Tryz.prog PP4 G4 200 13 Tryz.f13 hf13 hb13 cp10 cr10, List.forall_mem_cons.2 ⟨@cp_ok Tryz.prog PP4 G4 200 13 Tryz.f13 hf13 hb13 cp12 cr12, List.forall_mem_cons.2 ⟨@cp_ok Tryz.prog PP4 G4 200 13 Tryz.f13 hf13 hb13 cp13 cr13, (fun _ h => nomatch h)⟩⟩⟩⟩⟩⟩⟩)
theorem GK4 : PgOK Tryz.prog PK4 := GK4_13
theorem GK5_13 : PgOK Tryz.prog PK5_13 := @PgOK.addCP Tryz.prog PP4 G4 13 Tryz.f13 hf13 hb13 [cp0, cp1, cp2, cp3, cp10, cp14, cp15] (List.forall_mem_cons.2 ⟨@cp_ok Tryz.prog PP4 G4 200 13 Tryz.f13 hf13 hb13 cp0 cr0, List.forall_mem_cons.2 ⟨@cp_ok Tryz.prog PP4 G4 200 13 Tryz.f13 hf13 hb13 cp1 cr1, List.forall_mem_cons.2 ⟨@cp_ok Tryz.prog PP4 G4 200 13 Tryz.f13 hf13 hb13 cp2 cr2, List.forall_mem_cons.2 ⟨@cp_ok Tryz.prog PP4 G4 200 13 Tryz.f13 hf13 hb13 cp3 cr3, List.forall_mem_cons.2 ⟨@cp_ok Tryz.prog PP4 G4 200 13 Tryz.f13 hf13 hb13 cp10 cr10, List.forall_mem_cons.2 ⟨@cp_ok Tryz.prog PP4 G4 200 13 Tryz.f13 hf13 hb13 cp14 cr14, List.forall_mem_cons.2 ⟨@cp_ok Tryz.prog PP4 G4 200 13 Tryz.f13 hf13 hb13 cp15 cr15, (fun _ h => nomatch h)⟩⟩⟩⟩⟩⟩⟩)
theorem GK5 : PgOK Tryz.prog PK5 := GK5_13
theorem GK6_13 : PgOK Tryz.prog PK6_13 := @PgOK.addCP Tryz.prog PP4 G4 13 Tryz.f13 hf13 hb13 [cp0, cp1, cp2, cp3, cp16, cp17] (List.forall_mem_cons.2 ⟨@cp_ok Tryz.prog PP4 G4 200 13 Tryz.f13 hf13 hb13 cp0 cr0, List.forall_mem_cons.2 ⟨@cp_ok Tryz.prog PP4 G4 200 13 Tryz.f13 hf13 hb13 cp1 cr1, List.forall_mem_cons.2 ⟨@cp_ok Tryz.prog PP4 G4 200 13 Tryz.f13 hf13 hb13 cp2 cr2, List.forall_mem_cons.2 ⟨@cp_ok Tryz.prog PP4 G4 200 13 Tryz.f13 hf13 hb13 cp3 cr3, List.forall_mem_cons.2 ⟨@cp_ok Tryz.prog PP4 G4 200 13 Tryz.f13 hf13 hb13 cp16 cr16, List.forall_mem_cons.2 ⟨@cp_ok Tryz.prog PP4 G4 200 13 Tryz.f13 hf13 hb13 cp17 cr17, (fun _ h => nomatch h)⟩⟩⟩⟩⟩⟩)
theorem GK6 : PgOK Tryz.prog PK6 := GK6_13
theorem GK7_13 : PgOK Tryz.prog PK7_13 := @PgOK.addCP Tryz.prog PP4 G4 13 Tryz.f13 hf13 hb13 [cp0, cp1, cp2, cp3, cp16, cp18, cp19] (List.forall_mem_cons.2 ⟨@cp_ok Tryz.prog PP4 G4 200 13 Tryz.f13 hf13 hb13 cp0 cr0, List.forall_mem_cons.2 ⟨@cp_ok Tryz.prog PP4 G4 200 13 Tryz.f13 hf13 hb13 cp1 cr1, List.forall_mem_cons.2 ⟨@cp_ok Tryz.prog PP4 G4 200 13 Tryz.f13 hf13 hb13 cp2 cr2, List.forall_mem_cons.2 ⟨@cp_ok Tryz.prog PP4 G4 200 13 Tryz.f13 hf13 hb13 cp3 cr3, List.forall_mem_cons.2 ⟨@cp_ok Tryz.prog PP4 G4 200 13 Tryz.f13 hf13 hb13 cp16 cr16, List.forall_mem_cons.2 ⟨@cp_ok Tryz.prog PP4 G4 200 13 Tryz.f13 hf13 hb13 cp18 cr18, List.forall_mem_cons.2 ⟨@cp_ok Tryz.prog PP4 G4 200 13 Tryz.f13 hf13 hb13 cp19 cr19, (fun _ h => nomatch h)⟩⟩⟩⟩⟩⟩⟩)
theorem GK7 : PgOK Tryz.prog PK7 := GK7_13
theorem GK8_13 : PgOK Tryz.prog PK8_13 := @PgOK.addCP Tryz.prog PP4 G4 13 Tryz.f13 hf13 hb13 [cp0, cp1, cp2, cp3, cp16, cp20, cp21] (List.forall_mem_cons.2 ⟨@cp_ok Tryz.prog PP4 G4 200 13 Tryz.f13 hf13 hb13 cp0 cr0, List.forall_mem_cons.2 ⟨@cp_ok Tryz.prog PP4 G4 200 13 Tryz.f13 hf13 hb13 cp1 cr1, List.forall_mem_cons.2 ⟨@cp_ok Tryz.prog PP4 G4 200 13 Tryz.f13 hf13 hb13 cp2 cr2, List.forall_mem_cons.2 ⟨@cp_ok Tryz.prog PP4 G4 200 13 Tryz.f13 hf13 hb13 cp3 cr3, List.forall_mem_cons.2 ⟨@cp_ok Tryz.prog PP4 G4 200 13 Tryz.f13 hf13 hb13 cp16 cr16, List.forall_mem_cons.2 ⟨@cp_ok Tryz.prog PP4 G4 200 13 Tryz.f13 hf13 hb13 cp20 cr20, List.forall_mem_cons.2 ⟨@cp_ok Tryz.prog PP4 G4 200 13 Tryz.f13 hf13 hb13 cp21 cr21, (fun _ h => nomatch h)⟩⟩⟩⟩⟩⟩⟩)
theorem GK8 : PgOK Tryz.prog PK8 := GK8_13
theorem lawR (pg : Pg) (G : PgOK Tryz.prog pg) (hf : pg.funcs.get 3 = some Tryz.f3) (r q : Nat) (hrun : runIs (call pg 200 (.func 3) [(.modv .u8 3 r), (.modv .u8 3 q)] h0) (.bool true) = true) (a b : Int) (ha : 0 ≤ a) (hb : 0 ≤ b) (h : a % 3 = r) (k : b % 3 = q) (w : World) :
    CallsIn (W none) 0 Tryz.prog 3 #[.int .u8 a, .int .u8 b] w (endR fun x w' => VRel Ren.none (.bool true) x ∧ Same w w') :=
  @run_ok Tryz.prog pg G 200 3 Tryz.f3 hf hbL [(.modv .u8 3 r), (.modv .u8 3 q)] (.bool true) hrun 4 rfl #[.int .u8 a, .int .u8 b] (.cons _ _ _ _ (.modv .u8 3 r a ha h) (.cons _ _ _ _ (.modv .u8 3 q b hb k) .nil)) Ren.none w
theorem law (a b : Int) (ha : 0 ≤ a) (hb : 0 ≤ b) (w : World) : CallsIn (W none) 0 Tryz.prog 3 #[.int .u8 a, .int .u8 b] w (endR fun x w' => VRel Ren.none (.bool true) x ∧ Same w w') := by
  have h : a % 3 = (0 : Nat) ∨ a % 3 = (1 : Nat) ∨ a % 3 = (2 : Nat) := by omega
  have k : b % 3 = (0 : Nat) ∨ b % 3 = (1 : Nat) ∨ b % 3 = (2 : Nat) := by omega
  rcases h with h | h | h <;> rcases k with k | k | k
  · exact lawR PK0 GK0 hfL 0 0 run0 a b ha hb h k w
  · exact lawR PK1 GK1 hfL 0 1 run1 a b ha hb h k w
  · exact lawR PK2 GK2 hfL 0 2 run2 a b ha hb h k w
  · exact lawR PK3 GK3 hfL 1 0 run3 a b ha hb h k w
  · exact lawR PK4 GK4 hfL 1 1 run4 a b ha hb h k w
  · exact lawR PK5 GK5 hfL 1 2 run5 a b ha hb h k w
  · exact lawR PK6 GK6 hfL 2 0 run6 a b ha hb h k w
  · exact lawR PK7 GK7 hfL 2 1 run7 a b ha hb h k w
  · exact lawR PK8 GK8 hfL 2 2 run8 a b ha hb h k w
theorem lawCalls (a b : Int) (ha : 0 ≤ a) (hb : 0 ≤ b) (w : World) : Calls Tryz.prog 3 #[.int .u8 a, .int .u8 b] w fun e w' => e = .returned (.bool true) ∧ Same w w' := by
  have h := callsIn_wide.1 (law a b ha hb w)
  refine Calls.mono h fun e w' k => ?_
  cases e with
  | returned x =>
    obtain ⟨k1, k2⟩ : VRel Ren.none (.bool true) x ∧ Same w w' := k
    cases k1
    exact ⟨rfl, k2⟩
  | panicked => exact False.elim k
  | outgrown => exact False.elim k
end Go.Proofs.YtjhionjmlcccjaaGreatDoor.Ev
