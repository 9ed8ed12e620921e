/- codec.Number, whatever the number is, off ten runs of the evaluator. -/
import Derived.Test.YtpjkcfglojigmaaGreatDoorEvI
import Derived.Test.YtpjkcfglojigmaaGreatDoorCodes
import Derived.Below
namespace Go.Proofs.YtpjkcfglojigmaaGreatDoor.Ev
set_option linter.unusedVariables false
set_option linter.unusedSimpArgs false
open Go Go.RowKit
/-- a call that begins with no object, and comes to one value, which may speak of unknown strings -/
theorem run_okR {P : Program} {pg : Pg} (G : PgOK P pg) {n : Nat} {f : FuncId} {fn : Func} (hf : pg.funcs.get f = some fn) (hb : fn.body.isSome = true) {args : List AVal} {v : AVal} (hrun : runIs (call pg n (.func f) args h0) v = true)
    {φ : Ren} (hd : ∀ id, ¬ φ.dom id) {args' : Array Value} (ha : VRelL φ args args'.toList) (w : World) (hfx : ∀ b, MaxG P b → IntAt w.heap b) :
    CallsIn (W none) 0 P f args' w (endR fun x w' => (∃ ψ : Ren, φ.le ψ ∧ VRel ψ v x) ∧ Same w w') := by
  obtain ⟨l, h1, h2⟩ := runIs_some hrun
  have R := (call_ok G n).1.fn f φ h0 w args args' l h1 ha (hrelD P φ hd w.heap hfx)
  rw [G.enter hf hb] at R
  refine CallsIn.mono R (endR_mono fun x w' ⟨ψ, vh, g1, g2, g3, g4, g5⟩ => ?_)
  rw [h2 vh g1] at g4
  exact ⟨⟨ψ, g3.le, g4⟩, g3.size, fun b hb => g3.keep b hb (fun id hid => absurd hid.1 (hd id)), g5⟩
/-! codec.Number -/
def shape : Nat → Nat → List (Nat × Bool)
  | j, 0 => [(j, false)]
  | j, k + 1 => (j, true) :: shape (j + 1) k
theorem num_shape (n : Nat) : ∀ (k j : Nat), (k = 0 ∨ 128 ^ k ≤ n / 128 ^ j) → n / 128 ^ j < 128 ^ (k + 1) → Codes.num (n / 128 ^ j) = (shape j k).map fun p => UInt8.ofNat (dgN n p.1 p.2)
  | 0, j, _, h => by
    have h : n / 128 ^ j < 128 := by simpa using h
    rw [Codes.num_small h]
    simp [shape, dgN, Nat.mod_eq_of_lt h]
  | k + 1, j, h0, h => by
    have h0 : 128 ^ (k + 1) ≤ n / 128 ^ j := h0.resolve_left (by omega)
    have hp : 0 < 128 ^ k := Nat.pow_pos (by decide)
    have hb : 128 ≤ n / 128 ^ j := by
      have : 128 ^ (k + 1) = 128 ^ k * 128 := Nat.pow_succ ..
      have : 128 * 1 ≤ 128 * 128 ^ k := Nat.mul_le_mul_left 128 hp
      omega
    have e : n / 128 ^ j / 128 = n / 128 ^ (j + 1) := by rw [Nat.pow_succ, Nat.div_div_eq_div_mul]
    rw [Codes.num_big hb, e]
    have h1 : 128 ^ k ≤ n / 128 ^ (j + 1) := by
      rw [← e, Nat.le_div_iff_mul_le (by decide), ← Nat.pow_succ]; exact h0
    have h2 : n / 128 ^ (j + 1) < 128 ^ (k + 1) := by
      rw [← e]
      refine Nat.div_lt_of_lt_mul ?_
      rw [Nat.mul_comm, ← Nat.pow_succ]; exact h
    rw [num_shape n k (j + 1) (.inr h1) h2]
    simp [shape, dgN]
def loN (k : Nat) : Nat := match k with | 0 => 0 | k + 1 => 128 ^ (k + 1)
def hiN (k : Nat) : Nat := min (128 ^ (k + 1) - 1) (2 ^ 64 - 1)
theorem group_of (n : Nat) (h : n < 2 ^ 64) : ∃ k, k < 10 ∧ loN k ≤ n ∧ n ≤ hiN k ∧ (k = 0 ∨ 128 ^ k ≤ n) ∧ n < 128 ^ (k + 1) := by
  have go : ∀ m, n < 128 ^ (m + 1) → m < 10 → ∃ k, k < 10 ∧ (k = 0 ∨ 128 ^ k ≤ n) ∧ n < 128 ^ (k + 1) := by
    intro m
    induction m with
    | zero => exact fun h _ => ⟨0, by omega, .inl rfl, h⟩
    | succ m ih =>
      intro h hm
      by_cases c : 128 ^ (m + 1) ≤ n
      · exact ⟨m + 1, hm, .inr c, h⟩
      · exact ih (by omega) (by omega)
  obtain ⟨k, h1, h2, h3⟩ := go 9 (by omega) (by omega)
  refine ⟨k, h1, ?_, ?_, h2, h3⟩
  · cases k with
    | zero => exact Nat.zero_le _
    | succ k => exact h2.resolve_left (by omega)
  · unfold hiN; omega
/-- the encoding of a number, whatever it is -/
theorem number_ok {P : Program} {pg : Pg} (G : PgOK P pg) {f : FuncId} {fn : Func} (hf : pg.funcs.get f = some fn) (hb : fn.body.isSome = true)
    (hruns : ∀ k, k < 10 → runIs (call pg 200 (.func f) [.gr 0 0 (loN k) (hiN k)] h0) (.sdg 0 (shape 0 k)) = true) (n : Nat) (hn : n < 2 ^ 64) (w : World) (hfx : ∀ b, MaxG P b → IntAt w.heap b) :
    CallsIn (W none) 0 P f #[.int .u64 (n : Int)] w (endR fun x w' => (∃ s : ByteArray, x = .string s ∧ s.data.toList = Codes.num n) ∧ Same w w') := by
  obtain ⟨k, h1, h2, h3, h4, h5⟩ := group_of n hn
  have hs : (⟨Array.replicate n 0⟩ : ByteArray).size = n := by simp [ByteArray.size]
  let φ : Ren := Ren.of (fun _ => ⟨Array.replicate n 0⟩) cy0 cy0I cy0L
  have e : (φ.raw 0).size = n := hs
  have ha : VRelL φ [.gr 0 0 (loN k) (hiN k)] (#[.int .u64 (n : Int)] : Array Value).toList := by
    refine .cons _ _ _ _ ?_ .nil
    have := VRel.gr (φ := φ) 0 0 (loN k) (hiN k) (by rw [e]; simpa using h2) (by rw [e]; simpa using h3)
    rw [e] at this
    simpa using this
  refine CallsIn.mono (run_okR G hf hb (hruns k h1) (φ := φ) (fun _ h => h) ha w hfx) (endR_mono fun x w' ⟨⟨ψ, hle, hv⟩, hs'⟩ => ⟨?_, hs'⟩)
  cases hv with
  | sdg r l s h =>
    refine ⟨s, rfl, ?_⟩
    rw [h, hle.raw, e]
    have := num_shape n k 0 (by simpa using h4) (by simpa using h5)
    simp only [Nat.pow_zero, Nat.div_one] at this
    exact this.symm
theorem Same.below {w w' : World} (s : Same w w') : Below w.heap.size w w' := ⟨s.still.os, s.still.tape, s.still.out, s.size, s.keep⟩
/-- the same, as the guide's walks take it -/
theorem number_calls {P : Program} {pg : Pg} (G : PgOK P pg) {f : FuncId} {fn : Func} (hf : pg.funcs.get f = some fn) (hb : fn.body.isSome = true)
    (hruns : ∀ k, k < 10 → runIs (call pg 200 (.func f) [.gr 0 0 (loN k) (hiN k)] h0) (.sdg 0 (shape 0 k)) = true) (n : Nat) (hn : n < 2 ^ 64) (w : World) (hfx : ∀ b, MaxG P b → IntAt w.heap b) :
    Calls P f #[.int .u64 (n : Int)] w fun e w' => e = .returned (.string ⟨(Codes.num n).toArray⟩) ∧ Below w.heap.size w w' := by
  have h := callsIn_wide.1 (number_ok G hf hb hruns n hn w hfx)
  refine Calls.mono h fun e w' k => ?_
  cases e with
  | returned x =>
    obtain ⟨⟨s, k1, k2⟩, k3⟩ : (∃ s : ByteArray, x = .string s ∧ s.data.toList = Codes.num n) ∧ Same w w' := k
    refine ⟨?_, k3.below⟩
    rw [k1]
    have : s = ⟨(Codes.num n).toArray⟩ := by
      obtain ⟨a⟩ := s
      have : a.toList = Codes.num n := k2
      rw [← this]
    rw [this]
  | panicked => exact False.elim k
  | outgrown => exact False.elim k
end Go.Proofs.YtpjkcfglojigmaaGreatDoor.Ev
