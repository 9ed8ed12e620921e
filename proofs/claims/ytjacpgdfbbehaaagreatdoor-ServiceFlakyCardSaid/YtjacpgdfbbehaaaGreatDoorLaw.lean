/- ServiceFlaky answers true whatever its two bytes are; what it found it leaves. -/
import Derived.Test.YtjacpgdfbbehaaaGreatDoorPgOk
import Derived.Test.YtjacpgdfbbehaaaGreatDoorRunC
import Derived.Test.YtjacpgdfbbehaaaGreatDoorRunS
import Derived.Test.YtjacpgdfbbehaaaGreatDoorRun0
import Derived.Test.YtjacpgdfbbehaaaGreatDoorRun1
import Derived.Test.YtjacpgdfbbehaaaGreatDoorRun2
import Derived.Test.YtjacpgdfbbehaaaGreatDoorRun3
import Derived.Test.YtjacpgdfbbehaaaGreatDoorRun4
import Derived.Test.YtjacpgdfbbehaaaGreatDoorRun5
namespace Go.Proofs.YtjacpgdfbbehaaaGreatDoor.Ev
open Go Go.Proofs
set_option maxRecDepth 100000
theorem hf216 : PP0.funcs.get 216 = some Tryz.f216 := by kernel_rfl
theorem hb216 : Tryz.f216.body.isSome = true := by kernel_rfl
theorem hv216 : closedV 4 (.agg clsL) = true := by kernel_rfl
theorem hf4 : PP0.funcs.get 4 = some Tryz.f4 := by kernel_rfl
theorem hb4 : Tryz.f4.body.isSome = true := by kernel_rfl
theorem hf3 : PP0.funcs.get 3 = some Tryz.f3 := by kernel_rfl
theorem hb3 : Tryz.f3.body.isSome = true := by kernel_rfl
theorem G1 : PgOK Tryz.prog PP1 := @PgOK.addSum Tryz.prog PP0 G0 216 Tryz.f216 hf216 hb216 (sum0 (.agg clsL)) (@sum0_ok Tryz.prog PP0 G0 200 216 Tryz.f216 hf216 hb216 (.agg clsL) runC 4 hv216)
theorem G2 : PgOK Tryz.prog PP2 := @PgOK.addSum Tryz.prog PP1 G1 4 Tryz.f4 hf4 hb4 (sum0 (.bool true)) (@sum0_ok Tryz.prog PP1 G1 200 4 Tryz.f4 hf4 hb4 (.bool true) runS 4 rfl)
theorem lawR (r : Nat) (hrun : runIs (call PP2 200 (.func 3) [.modv .u8 6 r, .unk .u8] h0) (.bool true) = true) (a b : Int) (ha : 0 ≤ a) (h : a % 6 = r) (w : World) :
    CallsIn (W none) 0 Tryz.prog 3 #[.int .u8 a, .int .u8 b] w (endR fun x w' => VRel Ren.none (.bool true) x ∧ Same w w') :=
  @run_ok Tryz.prog PP2 G2 200 3 Tryz.f3 hf3 hb3 [.modv .u8 6 r, .unk .u8] (.bool true) hrun 4 rfl #[.int .u8 a, .int .u8 b] (.cons _ _ _ _ (.modv .u8 6 r a ha h) (.cons _ _ _ _ (.unk .u8 b) .nil)) Ren.none w
theorem law (a b : Int) (ha : 0 ≤ a) (w : World) : CallsIn (W none) 0 Tryz.prog 3 #[.int .u8 a, .int .u8 b] w (endR fun x w' => VRel Ren.none (.bool true) x ∧ Same w w') := by
  have h : a % 6 = (0 : Nat) ∨ a % 6 = (1 : Nat) ∨ a % 6 = (2 : Nat) ∨ a % 6 = (3 : Nat) ∨ a % 6 = (4 : Nat) ∨ a % 6 = (5 : Nat) := by omega
  rcases h with h | h | h | h | h | h
  · exact lawR 0 run0 a b ha h w
  · exact lawR 1 run1 a b ha h w
  · exact lawR 2 run2 a b ha h w
  · exact lawR 3 run3 a b ha h w
  · exact lawR 4 run4 a b ha h w
  · exact lawR 5 run5 a b ha h w
theorem lawCalls (a b : Int) (ha : 0 ≤ a) (w : World) : Calls Tryz.prog 3 #[.int .u8 a, .int .u8 b] w fun e w' => e = .returned (.bool true) ∧ Same w w' := by
  have h := callsIn_wide.1 (law a b ha w)
  refine Calls.mono h fun e w' k => ?_
  cases e with
  | returned x =>
    obtain ⟨k1, k2⟩ : VRel Ren.none (.bool true) x ∧ Same w w' := k
    cases k1
    exact ⟨rfl, k2⟩
  | panicked => exact False.elim k
  | outgrown => exact False.elim k
end Go.Proofs.YtjacpgdfbbehaaaGreatDoor.Ev
