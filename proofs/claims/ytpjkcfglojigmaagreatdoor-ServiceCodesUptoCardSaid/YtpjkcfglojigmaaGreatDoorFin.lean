/- The law answers true, whatever its arguments are, if its texts are no longer than sixteen millions of bytes each. -/
import Derived.Test.YtpjkcfglojigmaaGreatDoorWkA
import Derived.Test.YtpjkcfglojigmaaGreatDoorWkB
import Derived.Test.YtpjkcfglojigmaaGreatDoorWkC
import Derived.Test.YtpjkcfglojigmaaGreatDoorWkD
import Derived.Test.YtpjkcfglojigmaaGreatDoorWkE
import Derived.Test.YtpjkcfglojigmaaGreatDoorWkF
import Derived.Test.YtpjkcfglojigmaaGreatDoorWkG
import Derived.Test.YtpjkcfglojigmaaGreatDoorWkH
import Derived.Test.YtpjkcfglojigmaaGreatDoorWkI
import Derived.Test.YtpjkcfglojigmaaGreatDoorWkJ
import Derived.Test.YtpjkcfglojigmaaGreatDoorEvN
import Derived.Test.YtpjkcfglojigmaaGreatDoorRunN
import Derived.Test.YtpjkcfglojigmaaGreatDoorKnown
import Derived.Test.YtpjkcfglojigmaaGreatDoorCon
import Derived.Test.YtpjkcfglojigmaaGreatDoorStr
namespace Go.Proofs.YtpjkcfglojigmaaGreatDoor
open Go Go.RowKit
set_option maxRecDepth 100000
/-- what is asked of a world: the library's own variable holds some integer -/
def QQ (w : World) : Prop := ∀ b, Ev.MaxG Tryz.prog b → Ev.IntAt w.heap b
theorem qq_below (w w' : World) (h : QQ w) (hb : Below w.heap.size w w') : QQ w' := fun b hM => by
  obtain ⟨m, cc, et, fz, h1, h2⟩ := h b hM
  exact Ev.IntAt.keep (h b hM) (hb.block b (lt_of_block h1))
theorem hfNum : Ev.PP0.funcs.get 25 = some Tryz.f25 := by kernel_rfl
theorem hbNum : Tryz.f25.body.isSome = true := by kernel_rfl
theorem runsN : ∀ k, k < 10 → Ev.runIs (Ev.call Ev.PP0 200 (.func 25) [.gr 0 0 (Ev.loN k) (Ev.hiN k)] Ev.h0) (.sdg 0 (Ev.shape 0 k)) = true := fun k hk => by
  rcases (show k = 0 ∨ k = 1 ∨ k = 2 ∨ k = 3 ∨ k = 4 ∨ k = 5 ∨ k = 6 ∨ k = 7 ∨ k = 8 ∨ k = 9 by omega) with rfl | rfl | rfl | rfl | rfl | rfl | rfl | rfl | rfl | rfl
  · exact Ev.runN0
  · exact Ev.runN1
  · exact Ev.runN2
  · exact Ev.runN3
  · exact Ev.runN4
  · exact Ev.runN5
  · exact Ev.runN6
  · exact Ev.runN7
  · exact Ev.runN8
  · exact Ev.runN9
theorem num_w : NumSpec QQ := fun n w hn hq => Ev.number_calls Ev.G0 hfNum hbNum runsN n hn w hq
theorem san_w (w : World) (hq : QQ w) : Calls Tryz.prog 4 #[] w fun e w' => e = .returned (.bool true) ∧ Below w.heap.size w w' := by
  have h := callsIn_wide.1 (Ev.run_ok Ev.G2 (n := 200) (f := 4) (fn := Tryz.f4) Ev.hfS Ev.hbS (args := []) (v := .bool true) Ev.runS (d := 4) rfl (args' := #[]) .nil Ev.Ren.none w hq)
  refine Calls.mono h fun e w' k => ?_
  cases e with
  | returned x =>
    obtain ⟨k1, k2⟩ : Ev.VRel Ev.Ren.none (.bool true) x ∧ Ev.Same w w' := k
    cases k1
    exact ⟨rfl, k2.below⟩
  | panicked => exact False.elim k
  | outgrown => exact False.elim k
theorem sign_w : SignSpec := fun n h w => signed_calls n h w
theorem packQ : PackSpec QQ := pack_w QQ qq_below num_w string_w
theorem encEsQ : EncEsSpec QQ := encEs_w QQ qq_below sign_w num_w packQ
theorem encQ : EncSpec QQ := enc_w QQ qq_below sign_w num_w packQ encEsQ
theorem inNumQ : InNumSpec := inNum_w read_w
theorem unpackQ : UnpackSpec := unpack_w inNumQ (next_w inNumQ)
theorem decEQ : DecESpec := decE_w unpackQ read_w uns_w
theorem decEsQ : DecEsSpec := decEs_w unpackQ decEQ
theorem decQ : DecSpec QQ := dec_w QQ qq_below unpackQ read_w uns_w decEsQ encQ
theorem decodedQ : DecodedSpec QQ := decoded_w QQ qq_below decQ encQ
theorem sameQ : SameSpec := same_w equal_w
theorem editsQ : EditsSpec := edits_w mod_w (text_w mod_w) paths_w
theorem lawAll (n0 n1 n2 n3 n4 n5 : Int) (t0 t1 : ByteArray) (q0 q1 q2 : Int) (w : World) (hq : QQ w) (hn0 : Codes.I64 n0) (hn1 : Codes.I64 n1) (hn2 : Codes.I64 n2) (hn3 : Codes.I64 n3) (hn4 : Codes.I64 n4) (hn5 : Codes.I64 n5)
    (ht0 : t0.size ≤ 2 ^ 24) (ht1 : t1.size ≤ 2 ^ 24) (hq0 : Codes.I64 q0) (hq1 : Codes.I64 q1) (hq2 : Codes.I64 q2) :
    Calls Tryz.prog 3 #[.agg #[.int .i64 n0, .int .i64 n1, .int .i64 n2, .int .i64 n3, .int .i64 n4, .int .i64 n5], .agg #[.string t0, .string t1], .agg #[.int .i64 q0, .int .i64 q1, .int .i64 q2]] w fun e w' => e = .returned (.bool true) ∧ Ev.Same w w' :=
  (law_w QQ qq_below san_w editsQ encQ decQ sameQ decodedQ n0 n1 n2 n3 n4 n5 t0 t1 q0 q1 q2 w hq hn0 hn1 hn2 hn3 hn4 hn5 ht0 ht1 hq0 hq1 hq2).mono fun _ _ h => ⟨h.1, ⟨h.2.size, h.2.block, ⟨h.2.os, h.2.output, h.2.tape⟩⟩⟩
end Go.Proofs.YtpjkcfglojigmaaGreatDoor
