/- The builder and codec.Pack, walked. -/
import Derived.Shelf.Strings.Builder1
import Derived.WalkKit
import Derived.WalkSpells
import Derived.WalkLawsBesides
import Derived.Test.YtpjkcfglojigmaaGreatDoorProg
import Derived.Test.YtpjkcfglojigmaaGreatDoorSpecs
import Derived.Lib.Hide
namespace Go.Proofs.YtpjkcfglojigmaaGreatDoor
set_option linter.unusedVariables false
set_option linter.unusedSimpArgs false
open Go.RowKit
theorem bSize : (Tryz.prog.info? 113).map (·.size) = some 2 := by kernel_rfl
theorem bLies : liesAt Tryz.prog Tryz.prog.depth 113 (2 / Tryz.prog.cellsOf 113) 0 113 1 = true := by kernel_rfl
theorem byteInfo : (Tryz.prog.info? 5).map (fun i => (i.zero, i.size, i.bytes)) = some (some (.int .u8 0), 1, 1) := by kernel_rfl
set_option maxHeartbeats 1000000 in
set_option maxRecDepth 100000 in
theorem copyCheck (B b : Nat) (bs : List Value) (w : World) (h : Lib.IsBuilder 113 5 B b bs w) :
    Calls Tryz.prog 70 #[.pointer (some ⟨b, 0, none⟩)] w fun e w' => e = .returned (.tuple #[]) ∧ (Lib.BuilderAt 113 5 B b (.pointer (some ⟨b, 0, none⟩)) bs w' ∧ Below B w w') := by
  obtain ⟨j, hj, hjs⟩ := Option.map_eq_some_iff.1 bSize
  rcases h with h | h
  · have c0 := h.cell0
    have hsh := h.shape
    have hfz := h.frozen0
    have post := h.used (.pointer (some ⟨b, 0, none⟩))
    have hb := (Below.refl B w).setCell (p := ⟨b, 0, none⟩) h.1 (.pointer (some ⟨b, 0, none⟩))
    clear h
    go_enter Tryz.func70, Tryz.ntmps70
    go_wp2
    rw [Lib.run_to_unsafe w ⟨b, 0, none⟩ Tryz.underlying111 Tryz.underlying236 hj (by rw [hjs]; decide) hsh (Nat.zero_lt_succ 1)]
    simp only [Result.andThen]
    rw [Oper.upon_value]
    go_wp2
    rw [run_callFunc_extern Tryz.func105 (by kernel_rfl) (by kernel_rfl) (by kernel_rfl) (e := Extern.AbiNoEscape.same) (by kernel_rfl), Lib.run_noEscape]
    simp only [Result.andThen]
    rw [Oper.upon_value]
    go_wp2
    rw [Lib.run_from_unsafe w ⟨b, 0, none⟩ Tryz.underlying236 Tryz.underlying111 hj hsh bLies]
    simp only [Result.andThen]
    rw [Oper.upon_value]
    go_wp2
    go_end0
    exact ⟨rfl, post, hb⟩
  · have c0 := h.cell0
    go_enter Tryz.func70, Tryz.ntmps70
    go_wp2
    rw [Lib.run_neq_ptr_same w _ Tryz.underlying111 hj]
    go_wp2
    go_end0
    exact ⟨rfl, h, Below.refl B _⟩
set_option maxHeartbeats 2000000 in
set_option maxRecDepth 100000 in
theorem writeString (B b : Nat) (bs : List Value) (s : ByteArray) (w : World) (h : Lib.IsBuilder 113 5 B b bs w) (hlen : bs.length + s.size ≤ 140737488355328) (hBw : B ≤ w.heap.size) :
    Calls Tryz.prog 43 #[.pointer (some ⟨b, 0, none⟩), .string s] w fun e w' => e = .returned (.tuple #[.int .i64 s.size, .nilIface]) ∧ (Lib.BuilderAt 113 5 B b (.pointer (some ⟨b, 0, none⟩)) (bs ++ Lib.strCells s) w' ∧ Below B w w') := by
  obtain ⟨i0, hi, hz0, hz1, hz2⟩ := info_parts byteInfo
  go_enter Tryz.func43, Tryz.ntmps43
  go_wp2_with (go_at_call 70; refine (copyCheck B b bs _ h).mono ?_)
  rintro e w1 ⟨rfl, h1, hb1⟩
  obtain ⟨hB, v, hbk, hown, hne⟩ := h1
  have c0 : w1.cell? ⟨b, 0, none⟩ = some (.pointer (some ⟨b, 0, none⟩)) := by rw [Lib.cell_of_heap hbk]; rfl
  have c1 : w1.cell? ⟨b, 1, none⟩ = some v := by rw [Lib.cell_of_heap hbk]; rfl
  go_wp2_with (at_builtin; refine Lib.wpList_append_own_string _ rfl _ _ 37 9 rfl B 5 i0 Tryz.underlying37 Tryz.underlying9 hi hz0 hz1 hz2 _ _ _ rfl hown s rfl ?c3 ?c4 ?c5 ?_)
  case c3 => unfold maxLen; omega
  case c4 => omega
  case c5 => have := hb1.size; omega
  intro v' w2 hown' hgrow _
  have hlt := Lib.BuilderAt.lt (T := 113) (e := 5) (B := B) (bs := bs) (w := w1) ⟨hB, v, hbk, hown, hne⟩
  have hb2 : w2.heap[b]? = some (.cells #[.pointer (some ⟨b, 0, none⟩), v] 113 (0, 0)) := by
    rw [hgrow.block b hlt (fun e => hne e.symm)]; exact hbk
  have d0 : w2.cell? ⟨b, 0, none⟩ = some (.pointer (some ⟨b, 0, none⟩)) := by rw [Lib.cell_of_heap hb2]; rfl
  have d1 : w2.cell? ⟨b, 1, none⟩ = some v := by rw [Lib.cell_of_heap hb2]; rfl
  have f1 : w2.frozen? ⟨b, 1, none⟩ = false := Lib.frozen_of_heap hb2 1
  obtain ⟨ao, n', cap, rfl⟩ : ∃ ao n' cap, v' = .slice ao n' cap := by
    rcases hown'.2 with ⟨hv, _⟩ | ⟨g, cap, cur, hv, _⟩ <;> exact ⟨_, _, _, hv⟩
  go_wp2
  go_ret2
  refine ⟨rfl, Lib.BuilderAt.put (T := 113) (e := 5) hB hb2 (bs' := bs ++ Lib.strCells s) (by simpa [Lib.strCells_length] using hown') (by decide), ?_⟩
  exact (hb1.grown hgrow (by have := hb1.size; omega) (fun k hk => (hown.lt k hk).1)).setCell (p := ⟨b, 1, none⟩) hB _
end Go.Proofs.YtpjkcfglojigmaaGreatDoor
namespace Go.Proofs.YtpjkcfglojigmaaGreatDoor
set_option linter.unusedVariables false
set_option linter.unusedSimpArgs false
open Go.RowKit
theorem builderAt_below {T e : TypeId} {B b : Nat} {p : Value} {bs : List Value} {w w' : World} (h : Lib.BuilderAt T e B b p bs w) (hb : Below w.heap.size w w') : Lib.BuilderAt T e B b p bs w' := by
  have hlt := h.lt
  obtain ⟨hB, v, hbk, hown, hne⟩ := h
  refine ⟨hB, v, by rw [hb.block b hlt]; exact hbk, hown.kept (row := none) ⟨hb.os, hb.tape, hb.output, hb.size, fun k hk _ => hb.block k hk⟩ ?_, hne⟩
  exact Classical.em _
def packed (l : List ByteArray) (k : Nat) : List UInt8 := Codes.num l.length ++ Codes.packL ((l.take k).map fun s => s.data.toList)
theorem packL_append : ∀ (a b : List Codes.B), Codes.packL (a ++ b) = Codes.packL a ++ Codes.packL b
  | [], _ => rfl
  | s :: a, b => by simp [Codes.packL, packL_append a b]
theorem packed_succ (l : List ByteArray) (k : Nat) (h : k < l.length) : packed l (k + 1) = packed l k ++ (Codes.num l[k].size ++ l[k].data.toList) := by
  unfold packed
  rw [List.take_succ_eq_append_getElem h, List.map_append, packL_append]
  simp only [List.map_cons, List.map_nil, Codes.packL, List.append_nil, List.append_assoc, Lib.size_eq]
theorem packed_all (l : List ByteArray) : packed l l.length = Codes.pack (l.map fun s => s.data.toList) := by
  unfold packed Codes.pack
  simp
theorem packed_le (l : List ByteArray) : ∀ d k, k + d = l.length → (packed l k).length ≤ (packed l l.length).length
  | 0, k, h => by rw [show k = l.length by omega]; exact Nat.le_refl _
  | d + 1, k, h => by
    refine Nat.le_trans ?_ (packed_le l d (k + 1) (by omega))
    rw [packed_succ l k (by omega)]; simp
theorem cat_size (a : List UInt8) (s : ByteArray) : ((⟨a.toArray⟩ : ByteArray) ++ s).size = a.length + s.size := by
  rw [ByteArray.size_append]
  show a.toArray.size + s.size = _
  rw [List.size_toArray]
theorem cat_bytes (a : List UInt8) (s : ByteArray) : ((⟨a.toArray⟩ : ByteArray) ++ s).data.toList = a ++ s.data.toList := by
  simp
set_option maxHeartbeats 1500000 in
set_option maxRecDepth 100000 in
theorem pack_w (Q : World → Prop) (hQ : ∀ w w', Q w → Below w.heap.size w w' → Q w') (hN : NumSpec Q)   (hS : ∀ (B b : Nat) (l : List UInt8) (w : World), Lib.IsBuilder 113 5 B b (Lib.byteCells l) w → B ≤ w.heap.size → Calls Tryz.prog 44 #[.pointer (some ⟨b, 0, none⟩)] w fun e w' => e = .returned (.string ⟨l.toArray⟩) ∧ Below B w w') : PackSpec Q := by
  intro l ao cap w hq hst hln hsz0
  have hsz : (packed l l.length).length ≤ 70368744177664 := by rw [packed_all]; exact hsz0
  have HST := Lib.hid hst
  clear hst hsz0
  have hb0 : Below w.heap.size w (w.alloc (.cells #[.pointer none, .slice none 0 0] 113)) := (Below.refl w.heap.size w).alloc (Nat.le_refl _) _
  have hq0 := hQ _ _ hq hb0
  have hB0 := Lib.fresh_isBuilder 113 5 w
  go_enter Tryz.func27, Tryz.ntmps27
  go_wp2_with fail
  refine (hN l.length _ (by omega) hq0).mono ?_
  rintro e w1 ⟨rfl, hb1⟩
  have HB1 : Lib.IsBuilder 113 5 w.heap.size w.heap.size [] w1 := by
    rcases hB0 with h | h
    · exact .inl (builderAt_below h hb1)
    · exact .inr (builderAt_below h hb1)
  have hbw1 : Below w.heap.size w w1 := hb0.trans (hb1.mono (by simp))
  have hs1 := hbw1.size
  have hz : (Codes.num l.length).length ≤ 70368744177664 := by
    have := packed_le l l.length 0 (by omega)
    have e : packed l 0 = Codes.num l.length := by simp [packed, Codes.packL]
    rw [e] at this; omega
  clear hb0 hq0 hB0 hb1
  go_wp2_with fail
  refine (writeString w.heap.size w.heap.size [] ⟨(Codes.num l.length).toArray⟩ w1 HB1 (by rw [Lib.size_eq]; simpa using (by omega : (Codes.num l.length).length ≤ 140737488355328)) hs1).mono ?_
  rintro e w2 ⟨rfl, h2, hb2⟩
  have H2 : Hid (Lib.IsBuilder 113 5 w.heap.size w.heap.size (Lib.byteCells (packed l 0)) w2) := by
    have e : packed l 0 = Codes.num l.length := by simp [packed, Codes.packL]
    rw [e]; exact Lib.hid (.inr h2)
  have Hb2 : Hid (Below w.heap.size w w2) := Lib.hid (hbw1.trans hb2)
  clear h2 hb2 HB1 hbw1 hs1 hz
  go_wp2
  go_loopw [13] (fun i wr => ∃ k : Nat, k ≤ l.length ∧ i = .int .i64 k ∧ Hid (Lib.IsBuilder 113 5 w.heap.size w.heap.size (Lib.byteCells (packed l k)) wr) ∧ Hid (Below w.heap.size w wr)) (fun i _ => l.length - (intOf i).toNat)
  case atStart => exact ⟨0, Nat.zero_le _, rfl, H2, Hb2⟩
  case round =>
    obtain ⟨k, hk, rfl, HB, HW⟩ := hrel
    by_cases hlt : k < l.length
    · rcases HST.out with h | ⟨blk, off, rfl, hblk, hcells⟩
      · rw [h] at hlt; cases hlt
      have hck : wr.cell? ⟨blk, off + k, none⟩ = some (.string l[k]) := (HW.out.cell (p := ⟨blk, off + k, none⟩) hblk).trans (hcells k hlt)
      clear hcells
      have hle := packed_le l (l.length - (k + 1)) (k + 1) (by omega)
      have hsl : (packed l (k + 1)).length = (packed l k).length + ((Codes.num l[k].size).length + l[k].size) := by
        rw [packed_succ l k hlt]; simp only [List.length_append, Lib.size_eq]
      have hqr := hQ w wr hq HW.out
      have HQR := Lib.hid hqr
      clear hqr
      have hzk : l[k].size < 2 ^ 62 := by omega
      have HS := Lib.hid hsl
      clear hsl
      go_wp2_with fail
      refine (hN l[k].size wr (by omega) HQR.out).mono ?_
      rintro e w3 ⟨rfl, hb3⟩
      have H3 : Hid (Lib.IsBuilder 113 5 w.heap.size w.heap.size (Lib.byteCells (packed l k)) w3) := by
        rcases HB.out with h | h
        · exact Lib.hid (.inl (builderAt_below h hb3))
        · exact Lib.hid (.inr (builderAt_below h hb3))
      have Hb3 : Hid (Below w.heap.size w w3) := Lib.hid (HW.out.trans (hb3.mono HW.out.size))
      have hs3 : w.heap.size ≤ w3.heap.size := Hb3.out.size
      have hadd : (Codes.num l[k].size).length + l[k].size ≤ 70368744177664 := by have := HS.out; omega
      clear hb3
      go_wp2_with fail
      have hlen4 : (Lib.byteCells (packed l k)).length + ((⟨(Codes.num l[k].size).toArray⟩ : ByteArray) ++ l[k]).size ≤ 140737488355328 := by
        rw [cat_size, Lib.byteCells_length]; have := HS.out; omega
      with_reducible refine (writeString w.heap.size w.heap.size (Lib.byteCells (packed l k)) _ w3 H3.out ?hl hs3).mono ?_
      case hl => exact hlen4
      rintro e w4 ⟨rfl, h4, hb4⟩
      have H4 : Hid (Lib.IsBuilder 113 5 w.heap.size w.heap.size (Lib.byteCells (packed l (k + 1))) w4) := by
        have e : Lib.byteCells (packed l k) ++ Lib.strCells (⟨(Codes.num l[k].size).toArray⟩ ++ l[k]) = Lib.byteCells (packed l (k + 1)) := by
          rw [packed_succ l k hlt, Lib.byteCells_append, Lib.strCells_eq, cat_bytes]
        rw [e] at h4
        exact Lib.hid (.inr h4)
      have Hb4 : Hid (Below w.heap.size w w4) := Lib.hid (Hb3.out.trans hb4)
      clear h4 hb4
      go_wp2
      go_roundw
      case rel => exact ⟨k + 1, by omega, by go_num, H4, Hb4⟩
      case measure => simp [intOf]; omega
    · have hke : k = l.length := by omega
      subst hke
      go_wp2_with fail
      refine (hS w.heap.size w.heap.size (packed l l.length) wr HB.out HW.out.size).mono ?_
      rintro e w5 ⟨rfl, hb5⟩
      have Hb5 : Hid (Below w.heap.size w w5) := Lib.hid (HW.out.trans hb5)
      clear hb5
      go_wp2
      go_ret
      have e : (packed l l.length).toArray = (Codes.pack (l.map fun s => s.data.toList)).toArray := by rw [packed_all]
      refine ⟨?_, Hb5.out⟩
      rw [e]
      rfl
end Go.Proofs.YtpjkcfglojigmaaGreatDoor
