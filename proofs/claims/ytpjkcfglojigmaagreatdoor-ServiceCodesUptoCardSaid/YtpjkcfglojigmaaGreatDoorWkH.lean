/- service.Decode, walked. -/
import Derived.Test.YtpjkcfglojigmaaGreatDoorSpecs
import Derived.Test.YtpjkcfglojigmaaGreatDoorCodes
import Derived.Test.YtpjkcfglojigmaaGreatDoorWkG
import Derived.Test.YtpjkcfglojigmaaGreatDoorWkE
import Derived.Deep.RegionHeld3
import Derived.Laws.ResultCell
namespace Go.Proofs.YtpjkcfglojigmaaGreatDoor
set_option linter.unusedVariables false
set_option linter.unusedSimpArgs false
open Go.RowKit
theorem len10 {l : List ByteArray} (h : l.length = 10) : ∃ a b c d l', l = a :: b :: c :: d :: l' ∧ l'.length = 6 := by
  rcases l with _ | ⟨a, _ | ⟨b, _ | ⟨c, _ | ⟨d, l⟩⟩⟩⟩ <;> first | exact ⟨a, b, c, d, l, rfl, by simpa using h⟩ | (simp at h)
theorem ten_facts {w : World} {b : Nat} {T : TypeId} {v0 v1 v2 v3 v4 v5 v6 v7 v8 v9 : Value} (h : w.heap[b]? = some (.cells #[v0, v1, v2, v3, v4, v5, v6, v7, v8, v9] T (0, 0))) :
    w.cell? ⟨b, 0, none⟩ = some v0 ∧ w.cell? ⟨b, 1, none⟩ = some v1 ∧ w.cell? ⟨b, 2, none⟩ = some v2 ∧ w.cell? ⟨b, 3, none⟩ = some v3 ∧ w.cell? ⟨b, 4, none⟩ = some v4 ∧ w.cell? ⟨b, 5, none⟩ = some v5 ∧ w.cell? ⟨b, 6, none⟩ = some v6 ∧ w.cell? ⟨b, 7, none⟩ = some v7 ∧ w.cell? ⟨b, 8, none⟩ = some v8 ∧ w.cell? ⟨b, 9, none⟩ = some v9 ∧ ∀ j, w.frozen? ⟨b, j, none⟩ = false := by
  refine ⟨?_, ?_, ?_, ?_, ?_, ?_, ?_, ?_, ?_, ?_, fun j => Lib.frozen_of_heap h j⟩ <;> (rw [Lib.cell_of_heap h]; rfl)
theorem below_set10 {w x : World} {b : Nat} (hb : w.heap.size ≤ b) (h : Below w.heap.size w x) (v0 v1 v2 v3 v4 v5 v6 v7 v8 v9 : Value) :
    Below w.heap.size w ((((((((((x.setCell ⟨b, 0, none⟩ v0).setCell ⟨b, 1, none⟩ v1).setCell ⟨b, 2, none⟩ v2).setCell ⟨b, 3, none⟩ v3).setCell ⟨b, 4, none⟩ v4).setCell ⟨b, 5, none⟩ v5).setCell ⟨b, 6, none⟩ v6).setCell ⟨b, 7, none⟩ v7).setCell ⟨b, 8, none⟩ v8).setCell ⟨b, 9, none⟩ v9) :=
  (((((((((h.setCell (p := ⟨b, 0, none⟩) hb _).setCell (p := ⟨b, 1, none⟩) hb _).setCell (p := ⟨b, 2, none⟩) hb _).setCell (p := ⟨b, 3, none⟩) hb _).setCell (p := ⟨b, 4, none⟩) hb _).setCell (p := ⟨b, 5, none⟩) hb _).setCell (p := ⟨b, 6, none⟩) hb _).setCell (p := ⟨b, 7, none⟩) hb _).setCell (p := ⟨b, 8, none⟩) hb _).setCell (p := ⟨b, 9, none⟩) hb _
theorem strs_set {w : World} {ao : Option Addr} {l : List ByteArray} (h : StrsAt w ao l) {b : Nat} (hb : ∀ bl o, ao = some ⟨bl, o, none⟩ → ¬ bl = b) (j : Nat) (u : Value) : StrsAt (w.setCell ⟨b, j, none⟩ u) ao l := by
  rcases h with h | ⟨blk, off, h1, h2, h3⟩
  · exact .inl h
  · exact .inr ⟨blk, off, h1, by simpa [World.setCell] using h2, fun i hi => (World.cell?_setCell_far _ _ _ _ (fun e => hb _ _ h1 e.symm)).trans (h3 i hi)⟩
theorem eds_set {w : World} {ao : Option Addr} {l : List EdB} (h : EdsAt w ao l) {b : Nat} (hb : ∀ bl o, ao = some ⟨bl, o, none⟩ → ¬ bl = b) (j : Nat) (u : Value) : EdsAt (w.setCell ⟨b, j, none⟩ u) ao l := by
  rcases h with h | ⟨blk, off, h1, h2, h3⟩
  · exact .inl h
  · have hf : ∀ o v, w.cell? ⟨blk, o, none⟩ = some v → (w.setCell ⟨b, j, none⟩ u).cell? ⟨blk, o, none⟩ = some v := fun o v h => (World.cell?_setCell_far _ _ _ _ (fun e => hb _ _ h1 e.symm)).trans h
    exact .inr ⟨blk, off, h1, by simpa [World.setCell] using h2, fun i hi => ⟨hf _ _ (h3 i hi).1, hf _ _ (h3 i hi).2.1, hf _ _ (h3 i hi).2.2.1, hf _ _ (h3 i hi).2.2.2⟩⟩
def offs : List Nat := [0, 3, 4, 5, 7, 8]
def fillA (okv : Bool) (a b1 : ByteArray) (sl : Value) (zs : List Int) : Array Value :=
  #[.int .i64 (zs.getD 0 0), .string a, .string b1, .int .i64 (zs.getD 1 0), .int .i64 (zs.getD 2 0), .int .i64 (zs.getD 3 0), sl, .int .i64 (zs.getD 4 0), .int .i64 (zs.getD 5 0), .bool okv]
theorem fill_snoc (okv : Bool) (a b1 : ByteArray) (sl : Value) (zs : List Int) (z : Int) (h : zs.length < 6) : (fillA okv a b1 sl zs).setIfInBounds (offs.getD zs.length 0) (.int .i64 z) = fillA okv a b1 sl (zs ++ [z]) := by
  rcases zs with _ | ⟨z0, _ | ⟨z1, _ | ⟨z2, _ | ⟨z3, _ | ⟨z4, _ | ⟨z5, zs⟩⟩⟩⟩⟩⟩ <;> first | rfl | (simp at h; omega)
theorem fill_cell (okv : Bool) (a b1 : ByteArray) (sl : Value) (zs : List Int) (k : Nat) (h : k < 6) : ∃ v, (fillA okv a b1 sl zs)[offs.getD k 0]? = some v := by
  rcases (show k = 0 ∨ k = 1 ∨ k = 2 ∨ k = 3 ∨ k = 4 ∨ k = 5 by omega) with rfl | rfl | rfl | rfl | rfl | rfl <;> exact ⟨_, rfl⟩
def ptrs (b6 : Nat) : Array Value := (offs.map fun o => Value.pointer (some ⟨b6, o, none⟩)).toArray
theorem ptr_at (b6 k : Nat) (h : k < 6) : (ptrs b6)[k]? = some (.pointer (some ⟨b6, offs.getD k 0, none⟩)) := by
  rcases (show k = 0 ∨ k = 1 ∨ k = 2 ∨ k = 3 ∨ k = 4 ∨ k = 5 by omega) with rfl | rfl | rfl | rfl | rfl | rfl <;> rfl
/-- what is known ahead of a round over the numbers (the pointers' block is told apart) -/
def DInv (w : World) (b blk off b6 _bp : Nat) (ls : List ByteArray) (ao5 : Option Addr) (es : List EdB) (okv : Bool) (a b1 : ByteArray) (sl : Value) (l' : List ByteArray) (k : Nat) (wr : World) : Prop :=
  Below w.heap.size w wr ∧ wr.heap[b]? = some (.cells #[.int .i64 0, .string ⟨#[]⟩, .string ⟨#[]⟩, .int .i64 0, .int .i64 0, .int .i64 0, .slice none 0 0, .int .i64 0, .int .i64 0, .bool false] 32 (0, 0)) ∧ StrsAt wr (some ⟨blk, off, none⟩) ls ∧ EdsAt wr ao5 es ∧
  ∃ zs : List Int, zs.length = k ∧ Codes.wholes ((l'.take k).map tb) = some zs ∧ wr.heap[b6]? = some (.cells (fillA okv a b1 sl zs) 32 (0, 0))
theorem DInv.later {w wr w' : World} {b blk off b6 bp k : Nat} {ls l' : List ByteArray} {ao5 : Option Addr} {es : List EdB} {okv : Bool} {a b1 : ByteArray} {sl : Value} (h : DInv w b blk off b6 bp ls ao5 es okv a b1 sl l' k wr) (hb : Below wr.heap.size wr w') : DInv w b blk off b6 bp ls ao5 es okv a b1 sl l' k w' := by
  obtain ⟨h1, h2, h3, h4, zs, h5, h6, h7⟩ := h
  exact ⟨h1.trans (hb.mono h1.size), (hb.block b (lt_of_block h2)).trans h2, h3.later hb, h4.later hb, zs, h5, h6, (hb.block b6 (lt_of_block h7)).trans h7⟩
theorem DInv.next {w wr : World} {b blk off b6 bp k : Nat} {ls l' : List ByteArray} {ao5 : Option Addr} {es : List EdB} {okv : Bool} {a b1 : ByteArray} {sl : Value} {z : Int} (h : DInv w b blk off b6 bp ls ao5 es okv a b1 sl l' k wr) (hw : w.heap.size ≤ b6) (hb : ¬ b = b6) (hl : ¬ blk = b6) (he : ∀ bl o, ao5 = some ⟨bl, o, none⟩ → ¬ bl = b6)
    (hk : k < 6) (hkl : k < l'.length) (hz : Codes.whole (tb l'[k]) = some z) : DInv w b blk off b6 bp ls ao5 es okv a b1 sl l' (k + 1) (wr.setCell ⟨b6, offs.getD k 0, none⟩ (.int .i64 z)) := by
  obtain ⟨h1, h2, h3, h4, zs, h5, h6, h7⟩ := h
  refine ⟨h1.setCell (p := ⟨b6, offs.getD k 0, none⟩) hw _, (Below.heap_setCell _ ⟨b6, offs.getD k 0, none⟩ _ _ hb).trans h2, strs_set h3 (fun bl o h => by cases h; exact hl) _ _, eds_set h4 he _ _, zs ++ [z], by simp [h5], ?_, ?_⟩
  · rw [List.take_succ_eq_append_getElem hkl, List.map_append]
    exact Codes.wholes_snoc _ _ _ _ h6 hz
  · rw [set_block h7, ← h5, fill_snoc _ _ _ _ _ _ (by omega)]
theorem dinv_str {w wr : World} {b blk off b6 bp k : Nat} {a0 a1 a2 a3 : ByteArray} {l' : List ByteArray} {ao5 : Option Addr} {es : List EdB} {okv : Bool} {a b1 : ByteArray} {sl : Value} {m : Nat} (h : DInv w b blk off b6 bp (a0 :: a1 :: a2 :: a3 :: l') ao5 es okv a b1 sl l' m wr) (hkl : k < l'.length) :
    wr.cell? ⟨blk, off + (4 + k), none⟩ = some (.string l'[k]) := by
  rcases h.2.2.1 with h | ⟨bl, of, h1, h2, h3⟩
  · cases h
  · cases h1
    rw [h3 (4 + k) (by simp; omega)]
    simp [Nat.add_comm 4 k]
theorem len6 {l : List Int} (h : l.length = 6) : ∃ a b c d e f, l = [a, b, c, d, e, f] := by
  rcases l with _ | ⟨a, _ | ⟨b, _ | ⟨c, _ | ⟨d, _ | ⟨e, _ | ⟨f, _ | ⟨g, l⟩⟩⟩⟩⟩⟩⟩ <;> first | exact ⟨a, b, c, d, e, f, rfl⟩ | (simp at h)
theorem eds_set10 {w : World} {ao : Option Addr} {l : List EdB} (h : EdsAt w ao l) {b : Nat} (hb : ∀ bl o, ao = some ⟨bl, o, none⟩ → ¬ bl = b) (v0 v1 v2 v3 v4 v5 v6 v7 v8 v9 : Value) :
    EdsAt ((((((((((w.setCell ⟨b, 0, none⟩ v0).setCell ⟨b, 1, none⟩ v1).setCell ⟨b, 2, none⟩ v2).setCell ⟨b, 3, none⟩ v3).setCell ⟨b, 4, none⟩ v4).setCell ⟨b, 5, none⟩ v5).setCell ⟨b, 6, none⟩ v6).setCell ⟨b, 7, none⟩ v7).setCell ⟨b, 8, none⟩ v8).setCell ⟨b, 9, none⟩ v9) ao l :=
  eds_set (eds_set (eds_set (eds_set (eds_set (eds_set (eds_set (eds_set (eds_set (eds_set h hb _ _) hb _ _) hb _ _) hb _ _) hb _ _) hb _ _) hb _ _) hb _ _) hb _ _) hb _ _
set_option maxHeartbeats 4000000 in
set_option maxRecDepth 100000 in
theorem dec_w (Q : World → Prop) (hQ : ∀ w w', Q w → Below w.heap.size w w' → Q w') (hU : UnpackSpec) (hR : ReadSpec) (hZ : UnsSpec) (hD : DecEsSpec) (hC : EncSpec Q) : DecSpec Q := by
  intro s w hq hs
  have HQ := Lib.hid hq
  have hb0 : Below w.heap.size w (w.alloc (.cells #[.int .i64 0, .string ⟨#[]⟩, .string ⟨#[]⟩, .int .i64 0, .int .i64 0, .int .i64 0, .slice none 0 0, .int .i64 0, .int .i64 0, .bool false] 32)) := below_alloc _ _
  have hz0 : (w.alloc (.cells #[.int .i64 0, .string ⟨#[]⟩, .string ⟨#[]⟩, .int .i64 0, .int .i64 0, .int .i64 0, .slice none 0 0, .int .i64 0, .int .i64 0, .bool false] 32)).heap[w.heap.size]? = some (.cells #[.int .i64 0, .string ⟨#[]⟩, .string ⟨#[]⟩, .int .i64 0, .int .i64 0, .int .i64 0, .slice none 0 0, .int .i64 0, .int .i64 0, .bool false] 32 (0, 0)) := heap_alloc_new w _
  have HB0 := Lib.hid hb0
  have HZ0 := Lib.hid hz0
  clear hq hb0 hz0
  go_enter Tryz.func7, Tryz.ntmps7
  go_wp2_with fail
  refine (hU s _ (by omega)).mono ?_
  rintro e w1 ⟨hb1, h⟩
  have hz1 := (hb1.block _ (lt_of_block HZ0.out)).trans HZ0.out
  have hbl := HB0.out.trans (hb1.mono HB0.out.size)
  obtain ⟨b, hbe⟩ : ∃ b, b = w.heap.size := ⟨_, rfl⟩
  rw [← hbe] at hz1
  simp only [← hbe]
  have hwb : w.heap.size ≤ b := by omega
  have HWB := Lib.hid hwb
  have HZ1 := Lib.hid hz1
  have HBL := Lib.hid hbl
  clear hb1 hz1 hbl HB0 HZ0 hwb hbe
  rcases h with ⟨er, hu, hne, rfl⟩ | ⟨ls, ao, cap, hu, rfl, hst⟩
  · have he := errN_ne' hne
    have HU := Lib.hid hu
    obtain ⟨y0, y1, y2, y3, y4, y5, y6, y7, y8, y9, yf⟩ := ten_facts HZ1.out
    clear hu
    go_wp2
    refine bodyPost_ret (v := .tuple #[zeroCmd, .int .i64 22]) ?_ rfl ⟨below_set10 HWB.out (HBL.out) _ _ _ _ _ _ _ _ _ _, .inl ⟨Codes.dec_err HU.out, rfl⟩⟩
    rw [results_cell_tmp rfl]
    go_simp
    rfl
  by_cases h10 : ls.length = 10
  case neg =>
    have h10' : ¬ (ls.length : Int) = 10 := by omega
    have HU := Lib.hid hu
    obtain ⟨y0, y1, y2, y3, y4, y5, y6, y7, y8, y9, yf⟩ := ten_facts HZ1.out
    clear hu hst
    go_wp2
    refine bodyPost_ret (v := .tuple #[zeroCmd, .int .i64 22]) ?_ rfl ⟨below_set10 HWB.out (HBL.out) _ _ _ _ _ _ _ _ _ _, .inl ⟨Codes.dec_len HU.out (by simpa using h10), rfl⟩⟩
    rw [results_cell_tmp rfl]
    go_simp
    rfl
  obtain ⟨a, b1, c1, d1, l', rfl, hl6⟩ := len10 h10
  have h10' : (((a :: b1 :: c1 :: d1 :: l').length : Nat) : Int) = 10 := by omega
  rcases hst with h | ⟨blk, off, rfl, hblk, hcells⟩
  · cases h
  have k0 := hcells 0 (by simp)
  have k1 := hcells 1 (by simp)
  have k2 := hcells 2 (by simp)
  have k3 := hcells 3 (by simp)
  simp only [Nat.add_zero, List.getElem_cons_zero, List.getElem_cons_succ] at k0 k1 k2 k3
  have hle := Codes.unpack_le hu
  have hsz : ∀ t ∈ (a :: b1 :: c1 :: d1 :: l'), t.size ≤ s.size := fun t ht => by
    have := Codes.mem_tot (List.mem_map_of_mem (f := tb) ht)
    rw [tb_len] at this; rw [tb_len] at hle; omega
  rw [List.map_cons, List.map_cons, List.map_cons, List.map_cons] at hu
  have HU := Lib.hid hu
  have HCL := Lib.hid hcells
  have HSZ := Lib.hid hsz
  have hlen : (a :: b1 :: c1 :: d1 :: l').length = 10 := h10
  simp only [hlen]
  clear hu hcells hsz hle h10 h10'
  have hne0 := World.new_ne w1 ⟨blk, off, none⟩ k0
  have hne1 := World.new_ne w1 ⟨blk, off + 1, none⟩ k1
  have hne2 := World.new_ne w1 ⟨blk, off + 2, none⟩ k2
  by_cases hc0 : tb c1 = []
  · have e1 : c1.toList.isEmpty = true := by rw [Lib.toList_data]; show (tb c1).isEmpty = true; rw [hc0]; rfl
    have e2 : (c1.toList == [49]) = false := by rw [Lib.toList_data]; show (tb c1 == [49]) = false; rw [hc0]; rfl
    have HF : Hid ((tb c1 = [] ∨ tb c1 = [49]) ∧ decide (tb c1 = [49]) = false) := Lib.hid ⟨.inl hc0, by rw [hc0]; rfl⟩
    clear hc0
    go_wp2_with fail
    go_region_held3 (fun w' => w'.cell? ⟨blk, off, none⟩ = some (.string a) ∧ w'.cell? ⟨blk, off + 1, none⟩ = some (.string b1) ∧ w'.cell? ⟨blk, off + 2, none⟩ = some (.string c1))
      (go_keep)
      (fail)
    obtain ⟨w4, hw4⟩ : ∃ w4, w4 = (w1.alloc (Obj.cells #[.int .i64 0, .string a, .string b1, .int .i64 0, .int .i64 0, .int .i64 0, .slice none 0 0, .int .i64 0, .int .i64 0, .bool false] 32)).drew := ⟨_, rfl⟩
    obtain ⟨b6, hb6⟩ : ∃ b6, b6 = w1.heap.size := ⟨_, rfl⟩
    have hx : w4.heap[b6]? = some (.cells (fillA false a b1 (.slice none 0 0) []) 32 (0, 0)) := by rw [hw4, hb6]; exact heap_alloc_new w1 _
    have hb14 : Below w1.heap.size w1 w4 := by rw [hw4]; exact (below_alloc _ _).drew
    have hz4 := (hb14.block b (lt_of_block HZ1.out)).trans HZ1.out
    have hltb4 : b < w4.heap.size := lt_of_block hz4
    have hbb6 : ¬ b = b6 := by have := lt_of_block HZ1.out; omega
    have hbb6' : ¬ b6 = b := fun e => hbb6 e.symm
    have hwb6 : w.heap.size ≤ b6 := by rw [hb6]; exact HBL.out.size
    have hblk6 : ¬ blk = b6 := by omega
    have j3 := (hb14.cell (p := ⟨blk, off + 3, none⟩) hblk).trans k3
    have hblk4 : blk < w4.heap.size := Nat.lt_of_lt_of_le hblk hb14.size
    have hst4 : StrsAt w4 (some ⟨blk, off, none⟩) (a :: b1 :: c1 :: d1 :: l') := StrsAt.later (.inr ⟨blk, off, rfl, hblk, HCL.out⟩) hb14
    have hbl4 : Below w.heap.size w w4 := HBL.out.trans (hb14.mono HBL.out.size)
    rw [← hw4, ← hb6]
    have HX := Lib.hid hx
    have HZ4 := Lib.hid hz4
    have HWB6 := Lib.hid hwb6
    have HST4 := Lib.hid hst4
    have HBL4 := Lib.hid hbl4
    clear hx hz4 hwb6 hst4 hbl4 hb14 hw4 hb6 k0 k1 k2 k3 hne0 hne1 hne2 e1 e2 HZ1 HBL HCL
    go_wp2_with fail
    refine (hD d1 w4 (by have := HSZ.out d1 (by simp); omega)).mono ?_
    rintro e w5 ⟨hb5, h5⟩
    have hx5 := (hb5.block b6 (lt_of_block HX.out)).trans HX.out
    have hz5 := (hb5.block b (lt_of_block HZ4.out)).trans HZ4.out
    have x6 : w5.cell? ⟨b6, 6, none⟩ = some (.slice none 0 0) := by rw [Lib.cell_of_heap hx5]; rfl
    have xf : w5.frozen? ⟨b6, 6, none⟩ = false := Lib.frozen_of_heap hx5 6
    have HX5 := Lib.hid hx5
    have HZ5 := Lib.hid hz5
    have HST5 := Lib.hid (HST4.out.later hb5)
    have HBL5 := Lib.hid (HBL4.out.trans (hb5.mono HBL4.out.size))
    have hlt65 := lt_of_block HX.out
    have hs45 := hb5.size
    clear hb5 hx5 hz5 j3 HX HZ4 HST4 HBL4
    rcases h5 with ⟨er, hde, hne, rfl⟩ | ⟨es, ao5, cap5, hde, rfl, hst5, hnew5⟩
    · have he := errN_ne' hne
      have HDE := Lib.hid hde
      obtain ⟨y0, y1, y2, y3, y4, y5, y6, y7, y8, y9, yf⟩ := ten_facts HZ5.out
      clear hde
      go_wp2
      refine bodyPost_ret (v := .tuple #[zeroCmd, .int .i64 22]) ?_ rfl ⟨below_set10 HWB.out (HBL5.out.setCell (p := ⟨b6, 6, none⟩) HWB6.out _) _ _ _ _ _ _ _ _ _ _, .inl ⟨Codes.dec_edits HU.out HDE.out, rfl⟩⟩
      rw [results_cell_tmp rfl]
      go_simp
      rfl
    have HDE := Lib.hid hde
    have hnew6 : ∀ bl o, ao5 = some ⟨bl, o, none⟩ → ¬ bl = b6 := fun bl o h => by have := hnew5 bl o h; omega
    have hbk6 := set_block HX5.out 6 (.slice ao5 es.length cap5)
    have hset5 : Below w.heap.size w (w5.setCell ⟨b6, 6, none⟩ (.slice ao5 es.length cap5)) := HBL5.out.setCell (p := ⟨b6, 6, none⟩) HWB6.out _
    have hz6 : (w5.setCell ⟨b6, 6, none⟩ (.slice ao5 es.length cap5)).heap[b]? = some (.cells #[.int .i64 0, .string ⟨#[]⟩, .string ⟨#[]⟩, .int .i64 0, .int .i64 0, .int .i64 0, .slice none 0 0, .int .i64 0, .int .i64 0, .bool false] 32 (0, 0)) := (Below.heap_setCell _ ⟨b6, 6, none⟩ _ _ hbb6).trans HZ5.out
    have hst6 := strs_set HST5.out (b := b6) (fun bl o h => by cases h; exact hblk6) 6 (.slice ao5 es.length cap5)
    have hed6 := eds_set hst5 (b := b6) hnew6 6 (.slice ao5 es.length cap5)
    have HI6 : Hid (DInv w b blk off b6 0 (a :: b1 :: c1 :: d1 :: l') ao5 es false a b1 (.slice ao5 es.length cap5) l' 0 (w5.setCell ⟨b6, 6, none⟩ (.slice ao5 es.length cap5))) := Lib.hid ⟨hset5, hz6, hst6, hed6, [], rfl, rfl, hbk6⟩
    have hnewb : ∀ bl o, ao5 = some ⟨bl, o, none⟩ → ¬ bl = b := fun bl o h => by have := hnew5 bl o h; omega
    have HNEW := Lib.hid hnew6
    have HNEWB := Lib.hid hnewb
    clear hde hnew5 hnew6 hnewb hbk6 hset5 hz6 hst6 hed6 hst5
    have hsz6 : (w5.setCell ⟨b6, 6, none⟩ (.slice ao5 es.length cap5)).heap.size = w5.heap.size := by simp [World.setCell]
    have HI7 := Lib.hid (HI6.out.later (below_alloc _ (.cells (ptrs b6) 76)))
    have HP7 : Hid (((w5.setCell ⟨b6, 6, none⟩ (.slice ao5 es.length cap5)).alloc (.cells (ptrs b6) 76)).heap[w5.heap.size]? = some (.cells (ptrs b6) 76 (0, 0))) := Lib.hid (by
      have h := heap_alloc_new (w5.setCell ⟨b6, 6, none⟩ (.slice ao5 es.length cap5)) (.cells (ptrs b6) 76)
      rw [hsz6] at h; exact h)
    have hbpb6 : ¬ b6 = w5.heap.size := by omega
    clear hsz6 HI6
    go_wp2_with fail
    obtain ⟨bp, hbp⟩ : ∃ bp, bp = w5.heap.size := ⟨_, rfl⟩
    rw [← hbp] at HP7 hbpb6 ⊢
    have HBP := Lib.hid hbp
    clear hbp
    go_loopw [69] (fun i wr => ∃ k : Nat, k ≤ 6 ∧ i = .int .i64 k ∧ Hid (DInv w b blk off b6 0 (a :: b1 :: c1 :: d1 :: l') ao5 es false a b1 (.slice ao5 es.length cap5) l' k wr) ∧ Hid (wr.heap[bp]? = some (.cells (ptrs b6) 76 (0, 0)))) (fun i _ => 6 - (intOf i).toNat)
    case atStart => exact ⟨0, by omega, rfl, HI7, HP7⟩
    case round =>
      obtain ⟨k, hk, rfl, HI, HP⟩ := hrel
      clear HI7 HP7
      by_cases hlt : k < 6
      · have hkl : k < l'.length := by omega
        obtain ⟨pk, hpk⟩ : ∃ pk, pk = l'[k] := ⟨_, rfl⟩
        obtain ⟨o, ho⟩ : ∃ o, o = offs.getD k 0 := ⟨_, rfl⟩
        have pc : wr.cell? ⟨bp, k, none⟩ = some (.pointer (some ⟨b6, o, none⟩)) := by rw [Lib.cell_of_heap HP.out, ptr_at b6 k hlt, ho]
        have lc : wr.cell? ⟨blk, off + (4 + k), none⟩ = some (.string pk) := by rw [hpk]; exact dinv_str HI.out hkl
        have HPK := Lib.hid hpk
        have HOO := Lib.hid ho
        clear hpk ho
        obtain ⟨n, sz, er, hrd⟩ : ∃ n sz er, Codes.rd (tb pk) = (n, sz, er) := ⟨_, _, _, rfl⟩
        have hn := (Codes.rd_size hrd).2
        have hpks : pk.size ≤ s.size := HSZ.out pk (by rw [HPK.out]; simp)
        have HR := Lib.hid hrd
        clear hrd
        go_wp2_with fail
        refine (hR pk wr n sz er (by omega) HR.out).mono ?_
        rintro e w6 ⟨rfl, hbr⟩
        have hi6 := HI.out.later hbr
        have lc6 : w6.cell? ⟨blk, off + (4 + k), none⟩ = some (.string pk) := by rw [HPK.out]; exact dinv_str hi6 hkl
        have hp6 := (hbr.block bp (lt_of_block HP.out)).trans HP.out
        obtain ⟨y0, y1, y2, y3, y4, y5, y6, y7, y8, y9, yf⟩ := ten_facts hi6.2.1
        have hb6c : ∃ v, w6.cell? ⟨b6, o, none⟩ = some v := by
          obtain ⟨_, _, _, _, zs, _, _, h7⟩ := hi6
          obtain ⟨v, hv⟩ := fill_cell false a b1 (.slice ao5 es.length cap5) zs k hlt
          exact ⟨v, by rw [Lib.cell_of_heap h7, HOO.out]; exact hv⟩
        have hb6f : w6.frozen? ⟨b6, o, none⟩ = false := by
          obtain ⟨_, _, _, _, zs, _, _, h7⟩ := hi6
          exact Lib.frozen_of_heap h7 _
        obtain ⟨v6, hb6c⟩ := hb6c
        have HI6 := Lib.hid hi6
        have HP6 := Lib.hid hp6
        have hkm : k < (l'.map tb).length := by simpa using hkl
        have HKM : Hid ((l'.map tb)[k] = tb pk) := Lib.hid (by rw [HPK.out]; simp)
        clear hbr hi6 hp6 pc lc HI HP
        by_cases hok : er = .ok
        · subst hok
          simp only [errN]
          by_cases hsz : sz = pk.size
          · have hsz' : (sz : Int) = (pk.size : Int) := by omega
            subst hsz
            clear hsz'
            go_wp2_with fail
            refine (hZ n _ hn).mono ?_
            rintro e w' ⟨rfl, hw⟩
            rw [hw]
            clear hw w'
            have HIN : Hid (DInv w b blk off b6 0 (a :: b1 :: c1 :: d1 :: l') ao5 es false a b1 (.slice ao5 es.length cap5) l' (k + 1) (w6.setCell ⟨b6, o, none⟩ (.int .i64 (Codes.zag n)))) := by
              have h := HI6.out.next HWB6.out hbb6 hblk6 HNEW.out hlt hkl (z := Codes.zag n) (by rw [← HPK.out]; exact Codes.whole_good HR.out (tb_len pk).symm)
              rw [← HOO.out] at h
              exact h
            have HPN : Hid ((w6.setCell ⟨b6, o, none⟩ (.int .i64 (Codes.zag n))).heap[bp]? = some (.cells (ptrs b6) 76 (0, 0))) := Lib.hid ((Below.heap_setCell _ ⟨b6, o, none⟩ _ _ (fun e => hbpb6 e.symm)).trans HP6.out)
            go_wp2
            go_roundw
            case rel => exact ⟨k + 1, by omega, by go_num, HIN, HPN⟩
            case measure => simp [intOf]; omega
          · have hsz' : ¬ (sz : Int) = (pk.size : Int) := by omega
            go_wp2
            refine bodyPost_ret (v := .tuple #[zeroCmd, .int .i64 22]) ?_ rfl ⟨below_set10 HWB.out (HI6.out.1) _ _ _ _ _ _ _ _ _ _, .inl ⟨Codes.dec_nums HU.out (Codes.wholes_none _ k hkm (by rw [HKM.out]; exact Codes.whole_size HR.out (by rw [tb_len]; exact hsz))), rfl⟩⟩
            rw [results_cell_tmp rfl]
            go_simp
            rfl
        · have he := errN_ne' hok
          go_wp2
          refine bodyPost_ret (v := .tuple #[zeroCmd, .int .i64 22]) ?_ rfl ⟨below_set10 HWB.out (HI6.out.1) _ _ _ _ _ _ _ _ _ _, .inl ⟨Codes.dec_nums HU.out (Codes.wholes_none _ k hkm (by rw [HKM.out]; exact Codes.whole_bad HR.out hok)), rfl⟩⟩
          rw [results_cell_tmp rfl]
          go_simp
          rfl
      · have hk6 : k = 6 := by omega
        subst hk6
        obtain ⟨h1, h2, h3, h4, zs, h5, h6, h7⟩ := HI.out
        obtain ⟨z0, z1, z2, z3, z4, z5, rfl⟩ := len6 h5
        have htk : l'.take 6 = l' := List.take_of_length_le (by omega)
        rw [htk] at h6
        have h7' : wr.heap[b6]? = some (.cells #[.int .i64 z0, .string a, .string b1, .int .i64 z1, .int .i64 z2, .int .i64 z3, .slice ao5 es.length cap5, .int .i64 z4, .int .i64 z5, .bool false] 32 (0, 0)) := h7
        obtain ⟨x0, x1, x2, x3, x4, x5, x6, x7, x8, x9, xf⟩ := ten_facts h7'
        have hf := Codes.fields_good HU.out (by simpa using hl6) HF.out.1 HDE.out h6
        rw [HF.out.2] at hf
        have hok := Codes.fields_ok hf (by rw [tb_len]; exact hs)
        have hdf := Codes.dec_of_fields hf
        have hc := hC ⟨z0, a, b1, z1, z2, z3, es, z4, z5, false⟩ ao5 cap5 wr (hQ _ _ HQ.out h1) h4 hok
        have H1 := Lib.hid h1
        have H2 := Lib.hid h2
        have H4 := Lib.hid h4
        have H7 := Lib.hid h7'
        have HDF := Lib.hid hdf
        clear h1 h2 h3 h4 h5 h6 h7 h7' htk hf hok hdf HI HP
        by_cases henc : Codes.enc (CmdB.cmd ⟨z0, a, b1, z1, z2, z3, es, z4, z5, false⟩) = tb s
        · rw [henc, bs_tb] at hc
          have HC := Lib.hid hc
          have HENC := Lib.hid henc
          clear hc henc
          go_wp2_with fail
          refine HC.out.mono ?_
          rintro e w9 ⟨rfl, hb9⟩
          have g7 := (hb9.block b6 (lt_of_block H7.out)).trans H7.out
          have g2 := (hb9.block b (lt_of_block H2.out)).trans H2.out
          clear x0 x1 x2 x3 x4 x5 x6 x7 x8 x9 xf
          obtain ⟨x0, x1, x2, x3, x4, x5, x6, x7, x8, x9, xf⟩ := ten_facts g7
          obtain ⟨y0, y1, y2, y3, y4, y5, y6, y7, y8, y9, yf⟩ := ten_facts g2
          have H9 := Lib.hid (H1.out.trans (hb9.mono H1.out.size))
          have HE9 := Lib.hid (H4.out.later hb9)
          clear hb9 g7 g2
          go_wp2
          refine bodyPost_ret (v := .tuple #[CmdB.v ⟨z0, a, b1, z1, z2, z3, es, z4, z5, false⟩ ao5 cap5, .int .i64 0]) ?_ rfl ⟨below_set10 HWB.out H9.out _ _ _ _ _ _ _ _ _ _, .inr ⟨⟨z0, a, b1, z1, z2, z3, es, z4, z5, false⟩, ao5, cap5, by rw [HDF.out]; exact if_pos HENC.out, rfl, eds_set10 HE9.out HNEWB.out _ _ _ _ _ _ _ _ _ _⟩⟩
          rw [results_cell_tmp rfl]
          go_simp
          rfl
        · have hne : ((bs (Codes.enc (CmdB.cmd ⟨z0, a, b1, z1, z2, z3, es, z4, z5, false⟩))).toList == s.toList) = false := by
            rw [Lib.toList_data, Lib.toList_data]
            show (tb (bs _) == tb s) = false
            rw [tb_bs]
            simpa using henc
          have HC := Lib.hid hc
          have HENC := Lib.hid henc
          clear hc henc
          go_wp2_with fail
          refine HC.out.mono ?_
          rintro e w9 ⟨rfl, hb9⟩
          have g2 := (hb9.block b (lt_of_block H2.out)).trans H2.out
          clear x0 x1 x2 x3 x4 x5 x6 x7 x8 x9 xf
          obtain ⟨y0, y1, y2, y3, y4, y5, y6, y7, y8, y9, yf⟩ := ten_facts g2
          have H9 := Lib.hid (H1.out.trans (hb9.mono H1.out.size))
          clear hb9 g2
          go_wp2
          refine bodyPost_ret (v := .tuple #[zeroCmd, .int .i64 22]) ?_ rfl ⟨below_set10 HWB.out (H9.out) _ _ _ _ _ _ _ _ _ _, .inl ⟨by rw [HDF.out]; exact if_neg HENC.out, rfl⟩⟩
          rw [results_cell_tmp rfl]
          go_simp
          rfl
  by_cases hc1 : tb c1 = [49]
  · have e1 : c1.toList.isEmpty = false := by rw [Lib.toList_data]; show (tb c1).isEmpty = false; rw [hc1]; rfl
    have e2 : (c1.toList == [49]) = true := by rw [Lib.toList_data]; show (tb c1 == [49]) = true; rw [hc1]; rfl
    have HF : Hid ((tb c1 = [] ∨ tb c1 = [49]) ∧ decide (tb c1 = [49]) = true) := Lib.hid ⟨.inr hc1, by rw [hc1]; rfl⟩
    clear hc0 hc1
    go_wp2_with fail
    go_region_held3 (fun w' => w'.cell? ⟨blk, off, none⟩ = some (.string a) ∧ w'.cell? ⟨blk, off + 1, none⟩ = some (.string b1) ∧ w'.cell? ⟨blk, off + 2, none⟩ = some (.string c1))
      (go_keep)
      (fail)
    obtain ⟨w4, hw4⟩ : ∃ w4, w4 = (w1.alloc (Obj.cells #[.int .i64 0, .string a, .string b1, .int .i64 0, .int .i64 0, .int .i64 0, .slice none 0 0, .int .i64 0, .int .i64 0, .bool true] 32)).drew := ⟨_, rfl⟩
    obtain ⟨b6, hb6⟩ : ∃ b6, b6 = w1.heap.size := ⟨_, rfl⟩
    have hx : w4.heap[b6]? = some (.cells (fillA true a b1 (.slice none 0 0) []) 32 (0, 0)) := by rw [hw4, hb6]; exact heap_alloc_new w1 _
    have hb14 : Below w1.heap.size w1 w4 := by rw [hw4]; exact (below_alloc _ _).drew
    have hz4 := (hb14.block b (lt_of_block HZ1.out)).trans HZ1.out
    have hltb4 : b < w4.heap.size := lt_of_block hz4
    have hbb6 : ¬ b = b6 := by have := lt_of_block HZ1.out; omega
    have hbb6' : ¬ b6 = b := fun e => hbb6 e.symm
    have hwb6 : w.heap.size ≤ b6 := by rw [hb6]; exact HBL.out.size
    have hblk6 : ¬ blk = b6 := by omega
    have j3 := (hb14.cell (p := ⟨blk, off + 3, none⟩) hblk).trans k3
    have hblk4 : blk < w4.heap.size := Nat.lt_of_lt_of_le hblk hb14.size
    have hst4 : StrsAt w4 (some ⟨blk, off, none⟩) (a :: b1 :: c1 :: d1 :: l') := StrsAt.later (.inr ⟨blk, off, rfl, hblk, HCL.out⟩) hb14
    have hbl4 : Below w.heap.size w w4 := HBL.out.trans (hb14.mono HBL.out.size)
    rw [← hw4, ← hb6]
    have HX := Lib.hid hx
    have HZ4 := Lib.hid hz4
    have HWB6 := Lib.hid hwb6
    have HST4 := Lib.hid hst4
    have HBL4 := Lib.hid hbl4
    clear hx hz4 hwb6 hst4 hbl4 hb14 hw4 hb6 k0 k1 k2 k3 hne0 hne1 hne2 e1 e2 HZ1 HBL HCL
    go_wp2_with fail
    refine (hD d1 w4 (by have := HSZ.out d1 (by simp); omega)).mono ?_
    rintro e w5 ⟨hb5, h5⟩
    have hx5 := (hb5.block b6 (lt_of_block HX.out)).trans HX.out
    have hz5 := (hb5.block b (lt_of_block HZ4.out)).trans HZ4.out
    have x6 : w5.cell? ⟨b6, 6, none⟩ = some (.slice none 0 0) := by rw [Lib.cell_of_heap hx5]; rfl
    have xf : w5.frozen? ⟨b6, 6, none⟩ = false := Lib.frozen_of_heap hx5 6
    have HX5 := Lib.hid hx5
    have HZ5 := Lib.hid hz5
    have HST5 := Lib.hid (HST4.out.later hb5)
    have HBL5 := Lib.hid (HBL4.out.trans (hb5.mono HBL4.out.size))
    have hlt65 := lt_of_block HX.out
    have hs45 := hb5.size
    clear hb5 hx5 hz5 j3 HX HZ4 HST4 HBL4
    rcases h5 with ⟨er, hde, hne, rfl⟩ | ⟨es, ao5, cap5, hde, rfl, hst5, hnew5⟩
    · have he := errN_ne' hne
      have HDE := Lib.hid hde
      obtain ⟨y0, y1, y2, y3, y4, y5, y6, y7, y8, y9, yf⟩ := ten_facts HZ5.out
      clear hde
      go_wp2
      refine bodyPost_ret (v := .tuple #[zeroCmd, .int .i64 22]) ?_ rfl ⟨below_set10 HWB.out (HBL5.out.setCell (p := ⟨b6, 6, none⟩) HWB6.out _) _ _ _ _ _ _ _ _ _ _, .inl ⟨Codes.dec_edits HU.out HDE.out, rfl⟩⟩
      rw [results_cell_tmp rfl]
      go_simp
      rfl
    have HDE := Lib.hid hde
    have hnew6 : ∀ bl o, ao5 = some ⟨bl, o, none⟩ → ¬ bl = b6 := fun bl o h => by have := hnew5 bl o h; omega
    have hbk6 := set_block HX5.out 6 (.slice ao5 es.length cap5)
    have hset5 : Below w.heap.size w (w5.setCell ⟨b6, 6, none⟩ (.slice ao5 es.length cap5)) := HBL5.out.setCell (p := ⟨b6, 6, none⟩) HWB6.out _
    have hz6 : (w5.setCell ⟨b6, 6, none⟩ (.slice ao5 es.length cap5)).heap[b]? = some (.cells #[.int .i64 0, .string ⟨#[]⟩, .string ⟨#[]⟩, .int .i64 0, .int .i64 0, .int .i64 0, .slice none 0 0, .int .i64 0, .int .i64 0, .bool false] 32 (0, 0)) := (Below.heap_setCell _ ⟨b6, 6, none⟩ _ _ hbb6).trans HZ5.out
    have hst6 := strs_set HST5.out (b := b6) (fun bl o h => by cases h; exact hblk6) 6 (.slice ao5 es.length cap5)
    have hed6 := eds_set hst5 (b := b6) hnew6 6 (.slice ao5 es.length cap5)
    have HI6 : Hid (DInv w b blk off b6 0 (a :: b1 :: c1 :: d1 :: l') ao5 es true a b1 (.slice ao5 es.length cap5) l' 0 (w5.setCell ⟨b6, 6, none⟩ (.slice ao5 es.length cap5))) := Lib.hid ⟨hset5, hz6, hst6, hed6, [], rfl, rfl, hbk6⟩
    have hnewb : ∀ bl o, ao5 = some ⟨bl, o, none⟩ → ¬ bl = b := fun bl o h => by have := hnew5 bl o h; omega
    have HNEW := Lib.hid hnew6
    have HNEWB := Lib.hid hnewb
    clear hde hnew5 hnew6 hnewb hbk6 hset5 hz6 hst6 hed6 hst5
    have hsz6 : (w5.setCell ⟨b6, 6, none⟩ (.slice ao5 es.length cap5)).heap.size = w5.heap.size := by simp [World.setCell]
    have HI7 := Lib.hid (HI6.out.later (below_alloc _ (.cells (ptrs b6) 76)))
    have HP7 : Hid (((w5.setCell ⟨b6, 6, none⟩ (.slice ao5 es.length cap5)).alloc (.cells (ptrs b6) 76)).heap[w5.heap.size]? = some (.cells (ptrs b6) 76 (0, 0))) := Lib.hid (by
      have h := heap_alloc_new (w5.setCell ⟨b6, 6, none⟩ (.slice ao5 es.length cap5)) (.cells (ptrs b6) 76)
      rw [hsz6] at h; exact h)
    have hbpb6 : ¬ b6 = w5.heap.size := by omega
    clear hsz6 HI6
    go_wp2_with fail
    obtain ⟨bp, hbp⟩ : ∃ bp, bp = w5.heap.size := ⟨_, rfl⟩
    rw [← hbp] at HP7 hbpb6 ⊢
    have HBP := Lib.hid hbp
    clear hbp
    go_loopw [69] (fun i wr => ∃ k : Nat, k ≤ 6 ∧ i = .int .i64 k ∧ Hid (DInv w b blk off b6 0 (a :: b1 :: c1 :: d1 :: l') ao5 es true a b1 (.slice ao5 es.length cap5) l' k wr) ∧ Hid (wr.heap[bp]? = some (.cells (ptrs b6) 76 (0, 0)))) (fun i _ => 6 - (intOf i).toNat)
    case atStart => exact ⟨0, by omega, rfl, HI7, HP7⟩
    case round =>
      obtain ⟨k, hk, rfl, HI, HP⟩ := hrel
      clear HI7 HP7
      by_cases hlt : k < 6
      · have hkl : k < l'.length := by omega
        obtain ⟨pk, hpk⟩ : ∃ pk, pk = l'[k] := ⟨_, rfl⟩
        obtain ⟨o, ho⟩ : ∃ o, o = offs.getD k 0 := ⟨_, rfl⟩
        have pc : wr.cell? ⟨bp, k, none⟩ = some (.pointer (some ⟨b6, o, none⟩)) := by rw [Lib.cell_of_heap HP.out, ptr_at b6 k hlt, ho]
        have lc : wr.cell? ⟨blk, off + (4 + k), none⟩ = some (.string pk) := by rw [hpk]; exact dinv_str HI.out hkl
        have HPK := Lib.hid hpk
        have HOO := Lib.hid ho
        clear hpk ho
        obtain ⟨n, sz, er, hrd⟩ : ∃ n sz er, Codes.rd (tb pk) = (n, sz, er) := ⟨_, _, _, rfl⟩
        have hn := (Codes.rd_size hrd).2
        have hpks : pk.size ≤ s.size := HSZ.out pk (by rw [HPK.out]; simp)
        have HR := Lib.hid hrd
        clear hrd
        go_wp2_with fail
        refine (hR pk wr n sz er (by omega) HR.out).mono ?_
        rintro e w6 ⟨rfl, hbr⟩
        have hi6 := HI.out.later hbr
        have lc6 : w6.cell? ⟨blk, off + (4 + k), none⟩ = some (.string pk) := by rw [HPK.out]; exact dinv_str hi6 hkl
        have hp6 := (hbr.block bp (lt_of_block HP.out)).trans HP.out
        obtain ⟨y0, y1, y2, y3, y4, y5, y6, y7, y8, y9, yf⟩ := ten_facts hi6.2.1
        have hb6c : ∃ v, w6.cell? ⟨b6, o, none⟩ = some v := by
          obtain ⟨_, _, _, _, zs, _, _, h7⟩ := hi6
          obtain ⟨v, hv⟩ := fill_cell true a b1 (.slice ao5 es.length cap5) zs k hlt
          exact ⟨v, by rw [Lib.cell_of_heap h7, HOO.out]; exact hv⟩
        have hb6f : w6.frozen? ⟨b6, o, none⟩ = false := by
          obtain ⟨_, _, _, _, zs, _, _, h7⟩ := hi6
          exact Lib.frozen_of_heap h7 _
        obtain ⟨v6, hb6c⟩ := hb6c
        have HI6 := Lib.hid hi6
        have HP6 := Lib.hid hp6
        have hkm : k < (l'.map tb).length := by simpa using hkl
        have HKM : Hid ((l'.map tb)[k] = tb pk) := Lib.hid (by rw [HPK.out]; simp)
        clear hbr hi6 hp6 pc lc HI HP
        by_cases hok : er = .ok
        · subst hok
          simp only [errN]
          by_cases hsz : sz = pk.size
          · have hsz' : (sz : Int) = (pk.size : Int) := by omega
            subst hsz
            clear hsz'
            go_wp2_with fail
            refine (hZ n _ hn).mono ?_
            rintro e w' ⟨rfl, hw⟩
            rw [hw]
            clear hw w'
            have HIN : Hid (DInv w b blk off b6 0 (a :: b1 :: c1 :: d1 :: l') ao5 es true a b1 (.slice ao5 es.length cap5) l' (k + 1) (w6.setCell ⟨b6, o, none⟩ (.int .i64 (Codes.zag n)))) := by
              have h := HI6.out.next HWB6.out hbb6 hblk6 HNEW.out hlt hkl (z := Codes.zag n) (by rw [← HPK.out]; exact Codes.whole_good HR.out (tb_len pk).symm)
              rw [← HOO.out] at h
              exact h
            have HPN : Hid ((w6.setCell ⟨b6, o, none⟩ (.int .i64 (Codes.zag n))).heap[bp]? = some (.cells (ptrs b6) 76 (0, 0))) := Lib.hid ((Below.heap_setCell _ ⟨b6, o, none⟩ _ _ (fun e => hbpb6 e.symm)).trans HP6.out)
            go_wp2
            go_roundw
            case rel => exact ⟨k + 1, by omega, by go_num, HIN, HPN⟩
            case measure => simp [intOf]; omega
          · have hsz' : ¬ (sz : Int) = (pk.size : Int) := by omega
            go_wp2
            refine bodyPost_ret (v := .tuple #[zeroCmd, .int .i64 22]) ?_ rfl ⟨below_set10 HWB.out (HI6.out.1) _ _ _ _ _ _ _ _ _ _, .inl ⟨Codes.dec_nums HU.out (Codes.wholes_none _ k hkm (by rw [HKM.out]; exact Codes.whole_size HR.out (by rw [tb_len]; exact hsz))), rfl⟩⟩
            rw [results_cell_tmp rfl]
            go_simp
            rfl
        · have he := errN_ne' hok
          go_wp2
          refine bodyPost_ret (v := .tuple #[zeroCmd, .int .i64 22]) ?_ rfl ⟨below_set10 HWB.out (HI6.out.1) _ _ _ _ _ _ _ _ _ _, .inl ⟨Codes.dec_nums HU.out (Codes.wholes_none _ k hkm (by rw [HKM.out]; exact Codes.whole_bad HR.out hok)), rfl⟩⟩
          rw [results_cell_tmp rfl]
          go_simp
          rfl
      · have hk6 : k = 6 := by omega
        subst hk6
        obtain ⟨h1, h2, h3, h4, zs, h5, h6, h7⟩ := HI.out
        obtain ⟨z0, z1, z2, z3, z4, z5, rfl⟩ := len6 h5
        have htk : l'.take 6 = l' := List.take_of_length_le (by omega)
        rw [htk] at h6
        have h7' : wr.heap[b6]? = some (.cells #[.int .i64 z0, .string a, .string b1, .int .i64 z1, .int .i64 z2, .int .i64 z3, .slice ao5 es.length cap5, .int .i64 z4, .int .i64 z5, .bool true] 32 (0, 0)) := h7
        obtain ⟨x0, x1, x2, x3, x4, x5, x6, x7, x8, x9, xf⟩ := ten_facts h7'
        have hf := Codes.fields_good HU.out (by simpa using hl6) HF.out.1 HDE.out h6
        rw [HF.out.2] at hf
        have hok := Codes.fields_ok hf (by rw [tb_len]; exact hs)
        have hdf := Codes.dec_of_fields hf
        have hc := hC ⟨z0, a, b1, z1, z2, z3, es, z4, z5, true⟩ ao5 cap5 wr (hQ _ _ HQ.out h1) h4 hok
        have H1 := Lib.hid h1
        have H2 := Lib.hid h2
        have H4 := Lib.hid h4
        have H7 := Lib.hid h7'
        have HDF := Lib.hid hdf
        clear h1 h2 h3 h4 h5 h6 h7 h7' htk hf hok hdf HI HP
        by_cases henc : Codes.enc (CmdB.cmd ⟨z0, a, b1, z1, z2, z3, es, z4, z5, true⟩) = tb s
        · rw [henc, bs_tb] at hc
          have HC := Lib.hid hc
          have HENC := Lib.hid henc
          clear hc henc
          go_wp2_with fail
          refine HC.out.mono ?_
          rintro e w9 ⟨rfl, hb9⟩
          have g7 := (hb9.block b6 (lt_of_block H7.out)).trans H7.out
          have g2 := (hb9.block b (lt_of_block H2.out)).trans H2.out
          clear x0 x1 x2 x3 x4 x5 x6 x7 x8 x9 xf
          obtain ⟨x0, x1, x2, x3, x4, x5, x6, x7, x8, x9, xf⟩ := ten_facts g7
          obtain ⟨y0, y1, y2, y3, y4, y5, y6, y7, y8, y9, yf⟩ := ten_facts g2
          have H9 := Lib.hid (H1.out.trans (hb9.mono H1.out.size))
          have HE9 := Lib.hid (H4.out.later hb9)
          clear hb9 g7 g2
          go_wp2
          refine bodyPost_ret (v := .tuple #[CmdB.v ⟨z0, a, b1, z1, z2, z3, es, z4, z5, true⟩ ao5 cap5, .int .i64 0]) ?_ rfl ⟨below_set10 HWB.out H9.out _ _ _ _ _ _ _ _ _ _, .inr ⟨⟨z0, a, b1, z1, z2, z3, es, z4, z5, true⟩, ao5, cap5, by rw [HDF.out]; exact if_pos HENC.out, rfl, eds_set10 HE9.out HNEWB.out _ _ _ _ _ _ _ _ _ _⟩⟩
          rw [results_cell_tmp rfl]
          go_simp
          rfl
        · have hne : ((bs (Codes.enc (CmdB.cmd ⟨z0, a, b1, z1, z2, z3, es, z4, z5, true⟩))).toList == s.toList) = false := by
            rw [Lib.toList_data, Lib.toList_data]
            show (tb (bs _) == tb s) = false
            rw [tb_bs]
            simpa using henc
          have HC := Lib.hid hc
          have HENC := Lib.hid henc
          clear hc henc
          go_wp2_with fail
          refine HC.out.mono ?_
          rintro e w9 ⟨rfl, hb9⟩
          have g2 := (hb9.block b (lt_of_block H2.out)).trans H2.out
          clear x0 x1 x2 x3 x4 x5 x6 x7 x8 x9 xf
          obtain ⟨y0, y1, y2, y3, y4, y5, y6, y7, y8, y9, yf⟩ := ten_facts g2
          have H9 := Lib.hid (H1.out.trans (hb9.mono H1.out.size))
          clear hb9 g2
          go_wp2
          refine bodyPost_ret (v := .tuple #[zeroCmd, .int .i64 22]) ?_ rfl ⟨below_set10 HWB.out (H9.out) _ _ _ _ _ _ _ _ _ _, .inl ⟨by rw [HDF.out]; exact if_neg HENC.out, rfl⟩⟩
          rw [results_cell_tmp rfl]
          go_simp
          rfl
  have e1 : c1.toList.isEmpty = false := by
    rw [Lib.toList_data]
    show (tb c1).isEmpty = false
    cases hq : tb c1 with
    | nil => exact absurd hq hc0
    | cons _ _ => rfl
  have e2 : (c1.toList == [49]) = false := by
    rw [Lib.toList_data]
    show (tb c1 == [49]) = false
    simpa using hc1
  obtain ⟨y0, y1, y2, y3, y4, y5, y6, y7, y8, y9, yf⟩ := ten_facts HZ1.out
  have HC0 := Lib.hid hc0
  have HC1 := Lib.hid hc1
  clear hc0 hc1
  go_wp2
  refine bodyPost_ret (v := .tuple #[zeroCmd, .int .i64 22]) ?_ rfl ⟨below_set10 HWB.out (HBL.out) _ _ _ _ _ _ _ _ _ _, .inl ⟨Codes.dec_flag HU.out HC0.out HC1.out, rfl⟩⟩
  rw [results_cell_tmp rfl]
  go_simp
  rfl
end Go.Proofs.YtpjkcfglojigmaaGreatDoor
