/- strings.Contains is known by the contract that the library lays for it. -/
import Derived.Shelf.Strings.Search3
import Derived.Shelf.LaysM
import Derived.Test.YtpjkcfglojigmaaGreatDoorProg
import Derived.Test.YtpjkcfglojigmaaGreatDoorEvI
namespace Go.Proofs.YtpjkcfglojigmaaGreatDoor.Ev
open Go Go.Proofs
set_option maxRecDepth 100000
set_option linter.unusedVariables false
set_option linter.unusedSimpArgs false
def conR : Go.Shelf.Ren := ⟨fun | 144 => 108 | 143 => 167 | 219 => 231 | 217 => 295 | 225 => 296 | 224 => 297 | 267 => 298 | 266 => 358 | 314 => 359 | n => n, fun | 9 => 9 | 4 => 4 | 3 => 3 | 5 => 5 | 46 => 110 | 146 => 553 | 51 => 297 | n => n, fun | 1 => 0 | n => n⟩
theorem conL : Go.Proofs.LaysM.n144 Tryz.prog conR := {
  mixed := by kernel_rfl
  f143 := Tryz.func167.trans (congrArg some (by kernel_rfl))
  f144 := Tryz.func108.trans (congrArg some (by kernel_rfl))
  f217 := Tryz.func295.trans (congrArg some (by kernel_rfl))
  f219 := Tryz.func231.trans (congrArg some (by kernel_rfl))
  f224 := Tryz.func297.trans (congrArg some (by kernel_rfl))
  f225 := Tryz.func296.trans (congrArg some (by kernel_rfl))
  f266 := Tryz.func358.trans (congrArg some (by kernel_rfl))
  f267 := Tryz.func298.trans (congrArg some (by kernel_rfl))
  f314 := Tryz.func359.trans (congrArg some (by kernel_rfl))
  t3 := Tryz.underlying3
  a3 := Tryz.isAgg3
  z3 := Tryz.sizeOf3
  v3 := Tryz.zeroValue3
  t4 := Tryz.underlying4
  a4 := Tryz.isAgg4
  z4 := Tryz.sizeOf4
  v4 := Tryz.zeroValue4
  t5 := Tryz.underlying5
  a5 := Tryz.isAgg5
  z5 := Tryz.sizeOf5
  v5 := Tryz.zeroValue5
  t9 := Tryz.underlying9
  a9 := Tryz.isAgg9
  z9 := Tryz.sizeOf9
  v9 := Tryz.zeroValue9
  t46 := Tryz.underlying110
  a46 := Tryz.isAgg110
  z46 := Tryz.sizeOf110
  v46 := Tryz.zeroValue110
  t51 := Tryz.underlying297
  a51 := Tryz.isAgg297
  z51 := Tryz.sizeOf297
  v51 := Tryz.zeroValue297
  t146 := Tryz.underlying553
  a146 := Tryz.isAgg553
  z146 := Tryz.sizeOf553
  v146 := Tryz.zeroValue553
  g1 := by kernel_rfl
  i3 := by kernel_rfl
  i4 := by kernel_rfl
  i5 := by kernel_rfl
  i9 := by kernel_rfl
  i46 := by kernel_rfl
  i51 := by kernel_rfl
  i146 := by kernel_rfl
  m1 := by kernel_rfl
  s1_3 := fun w h => Go.Proofs.cell_of_shapedOpen_int (zero := #[.int .i64 0]) (t := 3) h (of_decide_eq_true (by kernel_rfl)) (by kernel_rfl) rfl (by kernel_rfl) (by kernel_rfl) Tryz.underlying3 }
theorem conC (s sub : ByteArray) (m : Int) (w : World) (hs : s.size < 4294967281) (hm : w.cell? ⟨0, 0, none⟩ = some (.int .i64 m)) :
    Calls Tryz.prog 108 #[.string s, .string sub] w fun e w' => e = .returned (.bool (Lib.contains s.data.toList sub.data.toList)) ∧ w' = w := Any.strings_Contains conL.ton144 s sub m w hs hm
theorem conG : MaxG Tryz.prog 0 := conL.m1
theorem conS : SumOK Tryz.prog 108 ⟨contA⟩ := contA_ok conG conC
theorem startFx (w : World) (h : w.ShapedOpen Tryz.prog) : ∀ b, MaxG Tryz.prog b → IntAt w.heap b := by
  intro b hb
  have e : (0 : Nat) = b := Option.some.inj (conG.symm.trans hb)
  subst e
  obtain ⟨m, hm⟩ := conL.s1_3 w h
  exact intAt hm
end Go.Proofs.YtpjkcfglojigmaaGreatDoor.Ev
