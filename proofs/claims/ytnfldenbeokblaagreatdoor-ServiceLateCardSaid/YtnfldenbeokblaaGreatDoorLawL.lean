/- ServiceLate answers true whatever its two arguments are; what it found it leaves. -/
import Derived.Test.YtnfldenbeokblaaGreatDoorKnown
import Derived.Test.YtnfldenbeokblaaGreatDoorRun0
import Derived.Test.YtnfldenbeokblaaGreatDoorRun1
import Derived.Test.YtnfldenbeokblaaGreatDoorRun2
import Derived.Test.YtnfldenbeokblaaGreatDoorRun3
import Derived.Test.YtnfldenbeokblaaGreatDoorRun4
namespace Go.Proofs.YtnfldenbeokblaaGreatDoor.Ev
open Go Go.Proofs
set_option maxRecDepth 100000
theorem hf6 : PP0.funcs.get 6 = some Tryz.f6 := by kernel_rfl
theorem hb6 : Tryz.f6.body.isSome = true := by kernel_rfl
theorem lawR (r : Nat) (hrun : runIs (call PP3 200 (.func 6) [.modv .u8 5 r, .unkBool] h0) (.bool true) = true) (a : Int) (b : Bool) (ha : 0 ≤ a) (h : a % 5 = r) (w : World) :
    CallsIn (W none) 0 Tryz.prog 6 #[.int .u8 a, .bool b] w (endR fun x w' => VRel Ren.none (.bool true) x ∧ Same w w') :=
  @run_ok Tryz.prog PP3 G3 200 6 Tryz.f6 hf6 hb6 [.modv .u8 5 r, .unkBool] (.bool true) hrun 4 rfl #[.int .u8 a, .bool b] (.cons _ _ _ _ (.modv .u8 5 r a ha h) (.cons _ _ _ _ (.unkBool b) .nil)) Ren.none w
theorem law (a : Int) (b : Bool) (ha : 0 ≤ a) (w : World) : CallsIn (W none) 0 Tryz.prog 6 #[.int .u8 a, .bool b] w (endR fun x w' => VRel Ren.none (.bool true) x ∧ Same w w') := by
  have h : a % 5 = (0 : Nat) ∨ a % 5 = (1 : Nat) ∨ a % 5 = (2 : Nat) ∨ a % 5 = (3 : Nat) ∨ a % 5 = (4 : Nat) := by omega
  rcases h with h | h | h | h | h
  · exact lawR 0 run0 a b ha h w
  · exact lawR 1 run1 a b ha h w
  · exact lawR 2 run2 a b ha h w
  · exact lawR 3 run3 a b ha h w
  · exact lawR 4 run4 a b ha h w
theorem lawCalls (a : Int) (b : Bool) (ha : 0 ≤ a) (w : World) : Calls Tryz.prog 6 #[.int .u8 a, .bool b] w fun e w' => e = .returned (.bool true) ∧ Same w w' := by
  have h := callsIn_wide.1 (law a b ha w)
  refine Calls.mono h fun e w' k => ?_
  cases e with
  | returned x =>
    obtain ⟨k1, k2⟩ : VRel Ren.none (.bool true) x ∧ Same w w' := k
    cases k1
    exact ⟨rfl, k2⟩
  | panicked => exact False.elim k
  | outgrown => exact False.elim k
end Go.Proofs.YtnfldenbeokblaaGreatDoor.Ev
