/- Arrays of integers and of strings, handed over by value, opened; how many letters strings have under the bound. -/
import Derived.Test.YtpjkcfglojigmaaGreatDoorRows
import Derived.WalkKit
import Derived.ProofKit
import Derived.OpenShut
import Derived.ChangeArms
namespace Go.Proofs.YtpjkcfglojigmaaGreatDoor
open Go Go.ChangeShapes Go.WideShapes Go.RowKit
theorem one_of {cs : List Value} {i : Nat} (h : i < cs.length) : (cs.drop (i * 1)).take 1 = [cs[i]] := by
  rw [Nat.mul_one, List.drop_eq_getElem_cons h]; rfl
theorem flat_nil {α β : Type} : ∀ (xs : List (α × List β)), (∀ (i : Nat) x, xs[i]? = some x → x.2 = []) → xs.flatMap (·.2) = []
  | [], _ => rfl
  | x :: xs, h => by
    rw [List.flatMap_cons, h 0 x rfl, flat_nil xs (fun i y hy => h (i + 1) y hy)]; rfl
theorem ints_arr {H : Type} {enc : TypeId × Value → H} {P : Program} {W : World} {base : Nat} {sp : Nat → Bool} {hd : Bool} {t e n : Nat} (ht : P.underlying t = some (.array n e)) (he : P.underlying e = some (.int .i64)) (hce : P.cellsOf e = 1) (hct : P.cellsOf t = n)
    {cs : Array Value} {d : DataW H} {ps : List MemPlace} (h : DataW.Trod enc P W base sp hd t (.agg cs) d ps) : ps = [] ∧ cs.toList.length = n ∧ ∀ i (hi : i < cs.toList.length), ∃ z, cs.toList[i] = .int .i64 z ∧ (Lit.int .i64 z).wf = true := by
  obtain ⟨fuel, hf⟩ := h
  obtain ⟨xs, m, _, hx, hl, hxn, hall⟩ := DataW.trod_array ht hf
  have hl' : cs.toList.length = n := by rw [← hct]; exact hl
  have each : ∀ i (hi : i < cs.toList.length), ∃ z, cs.toList[i] = .int .i64 z ∧ (Lit.int .i64 z).wf = true ∧ ∀ x, xs[i]? = some x → x.2 = [] := by
    intro i hi
    have h1 := hall i (by omega)
    rw [hce] at h1
    have h2 : DataW.trod enc P W base sp hd m e ((cs.toList.drop (i * 1)).take 1) = xs[i]? := h1
    rw [one_of hi, List.getElem?_eq_getElem (by omega)] at h2
    obtain ⟨z, hz, hx, hw⟩ := DataW.trod_int he h2
    refine ⟨z, by simpa using hz, hw, fun x hxx => ?_⟩
    rw [List.getElem?_eq_getElem (by omega), Option.some.injEq] at hxx
    rw [← hxx, hx]
  simp only [Prod.mk.injEq] at hx
  refine ⟨?_, hl', fun i hi => ?_⟩
  · rw [hx.2]
    exact flat_nil xs (fun i x hxx => by
      have hi : i < cs.toList.length := by
        have := (List.getElem?_eq_some_iff.1 hxx).1
        omega
      exact (each i hi).choose_spec.2.2 x hxx)
  · obtain ⟨z, h1, h2, _⟩ := each i hi
    exact ⟨z, h1, h2⟩
theorem strs_arr {H : Type} {enc : TypeId × Value → H} {P : Program} {W : World} {base : Nat} {sp : Nat → Bool} {hd : Bool} {t e n : Nat} (ht : P.underlying t = some (.array n e)) (he : P.underlying e = some .string) (hce : P.cellsOf e = 1) (hct : P.cellsOf t = n)
    {cs : Array Value} {d : DataW H} {ps : List MemPlace} (h : DataW.Trod enc P W base sp hd t (.agg cs) d ps) : ps = [] ∧ cs.toList.length = n ∧ (∃ ds, d = .agg ds ∧ ds.length = n ∧ ∀ i (hi : i < cs.toList.length), ∃ s : ByteArray, cs.toList[i] = .string s ∧ ds[i]? = some (.lit (.string s.data.toList))) := by
  obtain ⟨fuel, hf⟩ := h
  obtain ⟨xs, m, _, hx, hl, hxn, hall⟩ := DataW.trod_array ht hf
  have hl' : cs.toList.length = n := by rw [← hct]; exact hl
  have each : ∀ i (hi : i < cs.toList.length), ∃ s : ByteArray, cs.toList[i] = .string s ∧ xs[i]? = some (.lit (.string s.data.toList), []) := by
    intro i hi
    have h1 := hall i (by omega)
    rw [hce] at h1
    have h2 : DataW.trod enc P W base sp hd m e ((cs.toList.drop (i * 1)).take 1) = xs[i]? := h1
    rw [one_of hi, List.getElem?_eq_getElem (by omega)] at h2
    obtain ⟨s, hz, hx, _⟩ := DataW.trod_string he h2
    exact ⟨s, by simpa using hz, by rw [List.getElem?_eq_getElem (by omega), hx]⟩
  simp only [Prod.mk.injEq] at hx
  refine ⟨?_, hl', xs.map (·.1), hx.1, by simp [hxn], fun i hi => ?_⟩
  · rw [hx.2]
    exact flat_nil xs (fun i x hxx => by
      have hi : i < cs.toList.length := by
        have := (List.getElem?_eq_some_iff.1 hxx).1
        omega
      obtain ⟨s, _, h2⟩ := each i hi
      rw [h2, Option.some.injEq] at hxx
      rw [← hxx])
  · obtain ⟨s, h1, h2⟩ := each i hi
    exact ⟨s, h1, by rw [List.getElem?_map, h2]; rfl⟩
theorem part_le {H : Type} {d : DataW H} {l : List (DataW H)} (h : d ∈ l) : Rows.uptoBulk d ≤ Rows.uptoBulkAll l := by
  induction l with
  | nil => cases h
  | cons x r ih =>
    simp only [Rows.uptoBulkAll]
    cases List.mem_cons.1 h with
    | inl e => subst e; omega
    | inr e => have := ih e; omega
theorem str_le {H : Type} {ds l : List (DataW H)} {b : List UInt8} {i : Nat} (h : DataW.agg ds ∈ l) (hb : ds[i]? = some (.lit (.string b))) (hk : Rows.uptoSmall H l = true) : b.length ≤ 1048576 := by
  have h1 := part_le h
  have h2 := part_le (List.mem_of_getElem? hb)
  have h3 : Rows.uptoBulkAll l ≤ 1048576 := by simpa [Rows.uptoSmall] using hk
  simp only [Rows.uptoBulk] at h1 h2
  omega
theorem wf_I64 {z : Int} (h : (Lit.int .i64 z).wf = true) : -9223372036854775808 ≤ z ∧ z < 9223372036854775808 := by
  simp [Lit.wf, IntKind.min, IntKind.max, IntKind.signed, IntKind.bits] at h
  omega
theorem six {α : Type} {l : List α} (h : l.length = 6) : ∃ a b c d e f, l = [a, b, c, d, e, f] := by
  rcases l with _ | ⟨a, _ | ⟨b, _ | ⟨c, _ | ⟨d, _ | ⟨e, _ | ⟨f, _ | ⟨g, l⟩⟩⟩⟩⟩⟩⟩ <;> first | exact ⟨a, b, c, d, e, f, rfl⟩ | (simp at h)
theorem three {α : Type} {l : List α} (h : l.length = 3) : ∃ a b c, l = [a, b, c] := by
  rcases l with _ | ⟨a, _ | ⟨b, _ | ⟨c, _ | ⟨d, l⟩⟩⟩⟩ <;> first | exact ⟨a, b, c, rfl⟩ | (simp at h)
theorem two {α : Type} {l : List α} (h : l.length = 2) : ∃ a b, l = [a, b] := by
  rcases l with _ | ⟨a, _ | ⟨b, _ | ⟨c, l⟩⟩⟩ <;> first | exact ⟨a, b, rfl⟩ | (simp at h)
end Go.Proofs.YtpjkcfglojigmaaGreatDoor
