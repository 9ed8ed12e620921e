/- edits.Encode, walked. -/
import Derived.Test.YtpjkcfglojigmaaGreatDoorSpecs
import Derived.Test.YtpjkcfglojigmaaGreatDoorWkC
namespace Go.Proofs.YtpjkcfglojigmaaGreatDoor
set_option linter.unusedVariables false
set_option linter.unusedSimpArgs false
open Go.RowKit
theorem encE_of (x : EdB) : Codes.pack ([bs (Codes.num (Codes.zig x.kind)), x.path, x.to, x.text].map tb) = Codes.encE x.ed := by
  simp [Codes.encE, EdB.ed, tb_bs]
theorem encEs_of (l : List EdB) : Codes.pack ((l.map fun x => bs (Codes.encE x.ed)).map tb) = Codes.encEs (l.map EdB.ed) := by
  unfold Codes.encEs
  rw [List.map_map, List.map_map]
  congr 1
set_option maxHeartbeats 3000000 in
set_option maxRecDepth 100000 in
theorem encEs_w (Q : World → Prop) (hQ : ∀ w w', Q w → Below w.heap.size w w' → Q w') (hS : SignSpec) (hN : NumSpec Q) (hP : PackSpec Q) : EncEsSpec Q := by
  intro l ao cap w hq hA hkinds hsz
  obtain ⟨i0, hi, hz0, hz1, hz2⟩ := info_parts strInfo
  have hpg := Codes.pack_ge ((l.map EdB.ed).map Codes.encE)
  have hll : l.length < 2 ^ 40 := by
    have h1 : Codes.encEs (l.map EdB.ed) = Codes.pack ((l.map EdB.ed).map Codes.encE) := rfl
    rw [h1] at hsz; simp only [List.length_map] at hpg; omega
  have hmem : ∀ x ∈ l, (Codes.encE x.ed).length < 1099511627776 := fun x hx => by
    have : Codes.encE x.ed ∈ (l.map EdB.ed).map Codes.encE := List.mem_map_of_mem (List.mem_map_of_mem hx)
    have := Codes.mem_pack this
    exact Nat.lt_of_lt_of_le this hsz
  have HA := Lib.hid hA
  have HM := Lib.hid hmem
  have HK := Lib.hid hkinds
  have HQ := Lib.hid hq
  have HS := Lib.hid hsz
  clear hA hmem hkinds hpg hq hsz
  go_enter Tryz.func24, Tryz.ntmps24
  go_wp2_with fail
  go_loopw [3, 8] (fun o i wr => ∃ k : Nat, k ≤ l.length ∧ i = .int .i64 k ∧ Hid (wr.ownsRow w.heap.size 9 1 o k (((l.take k).map fun x => bs (Codes.encE x.ed)).map Value.string)) ∧ Hid (Below w.heap.size w wr)) (fun _ i _ => l.length - (intOf i).toNat)
  case atStart => exact ⟨0, Nat.zero_le _, rfl, Lib.hid (World.ownsRow_nil _ _ _ _), Lib.hid (Below.refl _ _)⟩
  case round =>
    obtain ⟨k, hk, rfl, HO, HW⟩ := hrel
    by_cases hlt : k < l.length
    · rcases HA.out with h | ⟨blk, off, rfl, hblk, hcells⟩
      · rw [h] at hlt; cases hlt
      obtain ⟨x, hx⟩ : ∃ x, x = l[k] := ⟨_, rfl⟩
      have hxm : x ∈ l := by rw [hx]; exact List.getElem_mem _
      obtain ⟨e0, e1, e2, e3⟩ := hcells k hlt
      rw [← hx] at e0 e1 e2 e3
      have k0 := (HW.out.cell (p := ⟨blk, off + k * 4, none⟩) hblk).trans e0
      have k1 := (HW.out.cell (p := ⟨blk, off + k * 4 + 1, none⟩) hblk).trans e1
      have k2 := (HW.out.cell (p := ⟨blk, off + k * 4 + 2, none⟩) hblk).trans e2
      have k3 := (HW.out.cell (p := ⟨blk, off + k * 4 + 3, none⟩) hblk).trans e3
      have HX := Lib.hid hx
      have HXM := Lib.hid hxm
      clear e0 e1 e2 e3 hcells hx hxm
      have hkx := HK.out x HXM.out
      have hex := HM.out x HXM.out
      have hzlt : Codes.zig x.kind < 2 ^ 64 := Codes.zig_lt hkx
      have HEX := Lib.hid hex
      clear hex
      go_wp2_with fail
      obtain ⟨wx, hwx⟩ : ∃ wx, wx = wr.alloc (Obj.cells #[Value.int IntKind.i64 x.kind, Value.string x.path, Value.string x.to, Value.string x.text] 66) := ⟨_, rfl⟩
      obtain ⟨bx, hbx⟩ : ∃ bx, bx = wr.heap.size := ⟨_, rfl⟩
      have hb : wx.heap[bx]? = some (.cells #[.int .i64 x.kind, .string x.path, .string x.to, .string x.text] 66 (0, 0)) := by rw [hwx, hbx]; exact heap_alloc_new wr _
      have hltx := lt_of_block hb
      have hWx : Below w.heap.size w wx := by rw [hwx]; exact HW.out.alloc HW.out.size _
      have hOx : wx.ownsRow w.heap.size 9 1 u3 k (((l.take k).map fun x => bs (Codes.encE x.ed)).map Value.string) := by rw [hwx]; exact HO.out.alloc _
      have hQx : Q wx := hQ _ _ HQ.out hWx
      have hfar := owns_far hOx hb (by decide)
      rw [← hwx, ← hbx]
      have x0 : wx.cell? ⟨bx, 0, none⟩ = some (.int .i64 x.kind) := by rw [Lib.cell_of_heap hb]; rfl
      have x1 : wx.cell? ⟨bx, 1, none⟩ = some (.string x.path) := by rw [Lib.cell_of_heap hb]; rfl
      have x2 : wx.cell? ⟨bx, 2, none⟩ = some (.string x.to) := by rw [Lib.cell_of_heap hb]; rfl
      have x3 : wx.cell? ⟨bx, 3, none⟩ = some (.string x.text) := by rw [Lib.cell_of_heap hb]; rfl
      have HOX := Lib.hid hOx
      have HWX := Lib.hid hWx
      have HQX := Lib.hid hQx
      have hsx : w.heap.size ≤ wx.heap.size := hWx.size
      clear hb hwx hbx hOx hWx hQx k0 k1 k2 k3 HO HW
      have hN5 : Calls Tryz.prog 25 #[.int .u64 (Codes.zig x.kind : Int)] wx.drew fun e w5 => e = .returned (.string (bs (Codes.num (Codes.zig x.kind)))) ∧ Below wx.heap.size wx w5 ∧ Hid (Q w5) ∧ wx.heap.size ≤ w5.heap.size :=
        (hN _ _ hzlt (hQ _ _ HQX.out (Below.refl _ wx).drew)).mono fun e w5 ⟨h1, h2⟩ => ⟨h1, (Below.refl _ wx).drew.trans h2, hQ _ _ HQX.out ((Below.refl _ wx).drew.trans h2), h2.size⟩
      have hP4 : ∀ w5 : World, Q w5 → Calls Tryz.prog 27 #[.slice (some ⟨w5.heap.size, 0, none⟩) 4 4] (w5.alloc (.cells #[.string (bs (Codes.num (Codes.zig x.kind))), .string x.path, .string x.to, .string x.text] 9))
          fun e w7 => e = .returned (.string (bs (Codes.encE x.ed))) ∧ Below (w5.alloc (.cells #[.string (bs (Codes.num (Codes.zig x.kind))), .string x.path, .string x.to, .string x.text] 9)).heap.size (w5.alloc (.cells #[.string (bs (Codes.num (Codes.zig x.kind))), .string x.path, .string x.to, .string x.text] 9)) w7 ∧ w5.heap.size + 1 ≤ w7.heap.size := fun w5 hq5 => by
        have h := hP [bs (Codes.num (Codes.zig x.kind)), x.path, x.to, x.text] (some ⟨w5.heap.size, 0, none⟩) 4 _ (hQ _ _ hq5 (below_alloc w5 _)) (strs_new w5 _) (by show 4 < 2 ^ 62; decide) (by rw [encE_of]; have := HEX.out; omega)
        rw [encE_of] at h
        exact h.mono fun e w7 ⟨h1, h2⟩ => ⟨h1, h2, by have := h2.size; simpa using this⟩
      have HP4 := Lib.hid hP4
      have HN5 := Lib.hid hN5
      clear hP4 hN5
      go_region_held3 (fun w' => w'.cell? ⟨bx, 0, none⟩ = some (.int .i64 x.kind) ∧ w'.cell? ⟨bx, 1, none⟩ = some (.string x.path) ∧ w'.cell? ⟨bx, 2, none⟩ = some (.string x.to) ∧ w'.cell? ⟨bx, 3, none⟩ = some (.string x.text))
        (first
          | (go_split_ands; refine ⟨?_, ?_, ?_, ?_⟩ <;> (rw [hgrow.cell_far _ (by simp; omega) (Ne.symm hfar)]; assumption))
          | (go_split_ands; refine ⟨?_, ?_, ?_, ?_⟩ <;> (rw [hb7.cell (by simp; omega)]; assumption))
          | (go_split_ands; refine ⟨?_, ?_, ?_, ?_⟩ <;> (rw [hb5.cell (by exact hltx)]; assumption))
          | go_keep)
        (first
          | (go_at_call 26; refine (hS x.kind hkx _).mono ?_; rintro e w' ⟨rfl, rfl⟩)
          | (go_at_call 25; refine HN5.out.mono ?_; rintro e w5 ⟨rfl, hb5, HQ5, hs5⟩)
          | (go_at_call 27; refine (HP4.out _ HQ5.out).mono ?_; rintro e w7 ⟨rfl, hb7, hs7⟩)
          | (refine step_append_lies _ (by rfl) _ _ _ (by rfl) w.heap.size 9 i0 _ 1 16 Tryz.underlying61 hi hz0 hz1 hz2 rfl (by omega) u3 k (((l.take k).map fun x => bs (Codes.encE x.ed)).map Value.string) (by rfl) ((owns_later ((owns_later HOX.out hb5).alloc _) hb7).alloc _)
              ⟨w7.heap.size, 0, none⟩ 1 1 [.string (bs (Codes.encE x.ed))] (by rfl) (by rfl) (World.news_of_block (cs := #[.string (bs (Codes.encE x.ed))]) (t := 9) (fr := (0, 0)) (heap_alloc_new w7 _)) (by simp [Value.oneCell'])
              (by omega) (by unfold maxLen; omega) (by omega) (by simp; omega) (w7.heap.size + 1) (by simp) ?_
             intro gg cap8 w8 hown8 hgrow hat hlt8))
      all_goals (
        have HG : Hid (Below w.heap.size w w8) := Lib.hid (((((HWX.out.trans (hb5.mono hsx)).alloc (by omega) _).trans (hb7.mono (by simp; omega))).alloc (by omega) _).grown hgrow (by simp; omega) (fun j hj => (HOX.out.lt j hj).1))
        have HO8 := Lib.hid hown8
        clear hgrow hown8 hat hb5 hb7 x0 x1 x2 x3
        go_wp2
        go_roundw
        case rel => exact ⟨k + 1, by omega, by go_num, Lib.hid (by rw [List.take_succ_eq_append_getElem hlt, ← HX.out]; simpa using HO8.out), HG⟩
        case measure => simp [intOf]; omega)
    · have hke : k = l.length := by omega
      subst hke
      obtain ⟨ao', cap', hv, hst⟩ := owns_strs (l := l.map fun x => bs (Codes.encE x.ed)) (by simpa using HO.out)
      subst hv
      have HST := Lib.hid hst
      have HQW := Lib.hid (hQ _ _ HQ.out HW.out)
      clear hst HO
      go_wp2_with fail
      have hc := hP (l.map fun x => bs (Codes.encE x.ed)) ao' cap' wr HQW.out HST.out (by simp; omega) (by rw [encEs_of]; have := HS.out; omega)
      rw [List.length_map, encEs_of] at hc
      with_reducible refine hc.mono ?_
      rintro e w2 ⟨rfl, hb2⟩
      have HF := Lib.hid (HW.out.trans (hb2.mono HW.out.size))
      clear hb2
      go_wp2
      go_ret
      exact ⟨rfl, HF.out⟩
end Go.Proofs.YtpjkcfglojigmaaGreatDoor
