/- ServiceNone answers true whatever its arguments are; what it found it leaves. -/
import Derived.Test.YtjhionjmlcccjaaGreatDoorKnown
import Derived.Test.YtjhionjmlcccjaaGreatDoorRdN0
import Derived.Test.YtjhionjmlcccjaaGreatDoorRdN1
import Derived.Test.YtjhionjmlcccjaaGreatDoorRdN2
namespace Go.Proofs.YtjhionjmlcccjaaGreatDoor.Ev
open Go Go.Proofs
set_option maxRecDepth 100000
set_option linter.unusedVariables false
set_option linter.unusedSimpArgs false
theorem hfL : PP0.funcs.get 7 = some Tryz.f7 := by kernel_rfl
theorem hbL : Tryz.f7.body.isSome = true := by kernel_rfl
theorem G4 : PgOK Tryz.prog PP4 := G3
theorem GK0 : PgOK Tryz.prog PK0 := G4
theorem GK1 : PgOK Tryz.prog PK1 := G4
theorem GK2 : PgOK Tryz.prog PK2 := G4
theorem GK3 : PgOK Tryz.prog PK3 := G4
theorem GK4 : PgOK Tryz.prog PK4 := G4
theorem GK5 : PgOK Tryz.prog PK5 := G4
theorem GK6 : PgOK Tryz.prog PK6 := G4
theorem GK7 : PgOK Tryz.prog PK7 := G4
theorem GK8 : PgOK Tryz.prog PK8 := G4
theorem GK9 : PgOK Tryz.prog PK9 := G4
theorem GK10 : PgOK Tryz.prog PK10 := G4
theorem GK11 : PgOK Tryz.prog PK11 := G4
theorem GK12 : PgOK Tryz.prog PK12 := G4
theorem GK13 : PgOK Tryz.prog PK13 := G4
theorem GK14 : PgOK Tryz.prog PK14 := G4
theorem lawC (pg : Pg) (G : PgOK Tryz.prog pg) (hf : pg.funcs.get 7 = some Tryz.f7) (v : AVal) (hrun : runIs (call pg 200 (.func 7) [v, .ustr, (.unk .i64)] h0) (.bool true) = true) (n : Int) (hv : VRel Ren.none v (.int .i64 n)) (s : ByteArray) (m : Int) (w : World) :
    CallsIn (W none) 0 Tryz.prog 7 #[.int .i64 n, .string s, .int .i64 m] w (endR fun x w' => VRel Ren.none (.bool true) x ∧ Same w w') :=
  @run_ok Tryz.prog pg G 200 7 Tryz.f7 hf hbL [v, .ustr, (.unk .i64)] (.bool true) hrun 4 rfl #[.int .i64 n, .string s, .int .i64 m] (.cons _ _ _ _ hv (.cons _ _ _ _ (.ustr s) (.cons _ _ _ _ (.unk .i64 m) .nil))) Ren.none w
theorem law (n : Int) (s : ByteArray) (m : Int) (w : World) : CallsIn (W none) 0 Tryz.prog 7 #[.int .i64 n, .string s, .int .i64 m] w (endR fun x w' => VRel Ren.none (.bool true) x ∧ Same w w') := by
  have h : n ≤ 0 ∨ n = 1 ∨ n = 2 ∨ n = 3 ∨ n = 4 ∨ n = 5 ∨ n = 6 ∨ n = 7 ∨ n = 8 ∨ n = 9 ∨ n = 10 ∨ n = 11 ∨ n = 12 ∨ n = 13 ∨ 14 ≤ n := by omega
  rcases h with h | rfl | rfl | rfl | rfl | rfl | rfl | rfl | rfl | rfl | rfl | rfl | rfl | rfl | h
  · exact lawC PK0 GK0 hfL (.rng .i64 none (some (0))) run0 n (.rng .i64 none (some (0)) n (fun _ h => nomatch h) (fun u hu => by injection hu with hu; omega)) s m w
  · exact lawC PK1 GK1 hfL (I 1) run1 1 (.int .i64 1) s m w
  · exact lawC PK2 GK2 hfL (I 2) run2 2 (.int .i64 2) s m w
  · exact lawC PK3 GK3 hfL (I 3) run3 3 (.int .i64 3) s m w
  · exact lawC PK4 GK4 hfL (I 4) run4 4 (.int .i64 4) s m w
  · exact lawC PK5 GK5 hfL (I 5) run5 5 (.int .i64 5) s m w
  · exact lawC PK6 GK6 hfL (I 6) run6 6 (.int .i64 6) s m w
  · exact lawC PK7 GK7 hfL (I 7) run7 7 (.int .i64 7) s m w
  · exact lawC PK8 GK8 hfL (I 8) run8 8 (.int .i64 8) s m w
  · exact lawC PK9 GK9 hfL (I 9) run9 9 (.int .i64 9) s m w
  · exact lawC PK10 GK10 hfL (I 10) run10 10 (.int .i64 10) s m w
  · exact lawC PK11 GK11 hfL (I 11) run11 11 (.int .i64 11) s m w
  · exact lawC PK12 GK12 hfL (I 12) run12 12 (.int .i64 12) s m w
  · exact lawC PK13 GK13 hfL (I 13) run13 13 (.int .i64 13) s m w
  · exact lawC PK14 GK14 hfL (.rng .i64 (some (14)) none) run14 n (.rng .i64 (some (14)) none n (fun l hl => by injection hl with hl; omega) (fun _ h => nomatch h)) s m w
theorem lawCalls (n : Int) (s : ByteArray) (m : Int) (w : World) : Calls Tryz.prog 7 #[.int .i64 n, .string s, .int .i64 m] w fun e w' => e = .returned (.bool true) ∧ Same w w' := by
  have h := callsIn_wide.1 (law n s m w)
  refine Calls.mono h fun e w' k => ?_
  cases e with
  | returned x =>
    obtain ⟨k1, k2⟩ : VRel Ren.none (.bool true) x ∧ Same w w' := k
    cases k1
    exact ⟨rfl, k2⟩
  | panicked => exact False.elim k
  | outgrown => exact False.elim k
end Go.Proofs.YtjhionjmlcccjaaGreatDoor.Ev
