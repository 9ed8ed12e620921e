/- service.Encode, walked. -/
import Derived.Test.YtpjkcfglojigmaaGreatDoorSpecs
import Derived.Test.YtpjkcfglojigmaaGreatDoorWkC
import Derived.Deep.RegionHeld3
namespace Go.Proofs.YtpjkcfglojigmaaGreatDoor
set_option linter.unusedVariables false
set_option linter.unusedSimpArgs false
open Go.RowKit
def okB (b : Bool) : ByteArray := bs (Codes.okS b)
def partsB (c : CmdB) : List ByteArray := [c.user, c.text, okB c.ok, bs (Codes.encEs (c.edits.map EdB.ed))] ++ ([c.kind, c.base, c.change, c.worker, c.key, c.attempt].map fun n => bs (Codes.num (Codes.zig n)))
theorem parts_of (c : CmdB) : (partsB c).map tb = Codes.parts c.cmd := by
  simp [partsB, Codes.parts, Codes.nums, CmdB.cmd, okB, tb_bs]
def numsB (c : CmdB) : List Int := [c.kind, c.base, c.change, c.worker, c.key, c.attempt]
theorem parts_succ (c : CmdB) (k : Nat) (h : k < (numsB c).length) : (partsB c).take (4 + k + 1) = (partsB c).take (4 + k) ++ [bs (Codes.num (Codes.zig (numsB c)[k]))] := by
  have hk : k < 6 := h
  rcases (show k = 0 ∨ k = 1 ∨ k = 2 ∨ k = 3 ∨ k = 4 ∨ k = 5 by omega) with rfl | rfl | rfl | rfl | rfl | rfl <;> rfl
set_option maxHeartbeats 4000000 in
set_option maxRecDepth 100000 in
theorem enc_w (Q : World → Prop) (hQ : ∀ w w', Q w → Below w.heap.size w w' → Q w') (hS : SignSpec) (hN : NumSpec Q) (hP : PackSpec Q) (hE : EncEsSpec Q) : EncSpec Q := by
  intro c ao cap w hq hA hc
  obtain ⟨i0, hi, hz0, hz1, hz2⟩ := info_parts strInfo
  have hnums : ∀ n ∈ numsB c, Codes.I64 n := hc.nums
  have hpl : (Codes.pack ((partsB c).map tb)).length ≤ 70368744177664 := by rw [parts_of]; exact Nat.le_trans hc.size (by decide)
  have hes : (Codes.encEs (c.edits.map EdB.ed)).length ≤ 1099511627776 := by
    have : Codes.encEs (c.edits.map EdB.ed) ∈ Codes.parts c.cmd := by simp [Codes.parts, CmdB.cmd]
    have := Codes.mem_pack this
    have h2 := hc.size
    unfold Codes.enc at h2
    omega
  have hks : ∀ x ∈ c.edits, Codes.I64 x.kind := fun x hx => hc.kinds x.ed (List.mem_map_of_mem hx)
  have HN' := Lib.hid hnums
  have HPL := Lib.hid hpl
  have HES := Lib.hid hes
  have HKS := Lib.hid hks
  have HA := Lib.hid hA
  have HQ := Lib.hid hq
  clear hnums hpl hes hks hA hq hc
  unfold CmdB.v
  go_enter Tryz.func6, Tryz.ntmps6
  go_wp2_with fail
  · have hokv : c.ok = true := by assumption
    have hokB : (⟨#[49]⟩ : ByteArray) = okB true := rfl
    rw [hokB]
    simp only [hokv]
    clear hokB
    obtain ⟨wx, hwx⟩ : ∃ wx, wx = w.alloc (Obj.cells #[Value.int IntKind.i64 c.kind, Value.string c.user, Value.string c.text, Value.int IntKind.i64 c.base, Value.int IntKind.i64 c.change, Value.int IntKind.i64 c.worker, Value.slice ao c.edits.length cap, Value.int IntKind.i64 c.key, Value.int IntKind.i64 c.attempt, Value.bool true] 32) := ⟨_, rfl⟩
    obtain ⟨bx, hbx⟩ : ∃ bx, bx = w.heap.size := ⟨_, rfl⟩
    have hb : wx.heap[bx]? = some (.cells #[Value.int IntKind.i64 c.kind, Value.string c.user, Value.string c.text, Value.int IntKind.i64 c.base, Value.int IntKind.i64 c.change, Value.int IntKind.i64 c.worker, Value.slice ao c.edits.length cap, Value.int IntKind.i64 c.key, Value.int IntKind.i64 c.attempt, Value.bool true] 32 (0, 0)) := by rw [hwx, hbx]; exact heap_alloc_new w _
    have hltx := lt_of_block hb
    have hWx : Below w.heap.size w wx := by rw [hwx]; exact below_alloc _ _
    have hQx : Q wx := hQ _ _ HQ.out hWx
    have hAx := HA.out.later hWx
    rw [← hwx, ← hbx]
    have x1 : wx.cell? ⟨bx, 1, none⟩ = some (.string c.user) := by rw [Lib.cell_of_heap hb]; rfl
    have x2 : wx.cell? ⟨bx, 2, none⟩ = some (.string c.text) := by rw [Lib.cell_of_heap hb]; rfl
    have x6 : wx.cell? ⟨bx, 6, none⟩ = some (.slice ao c.edits.length cap) := by rw [Lib.cell_of_heap hb]; rfl
    have hE24 : Calls Tryz.prog 24 #[.slice ao c.edits.length cap] wx.drew fun e w5 => e = .returned (.string (bs (Codes.encEs (c.edits.map EdB.ed)))) ∧ Below wx.heap.size wx w5 ∧ Hid (Q w5) ∧ wx.heap.size ≤ w5.heap.size :=
      (hE c.edits ao cap _ (hQ _ _ hQx (Below.refl _ wx).drew) (hAx.later (Below.refl _ wx).drew) HKS.out HES.out).mono fun e w5 ⟨h1, h2⟩ => ⟨h1, (Below.refl _ wx).drew.trans h2, hQ _ _ hQx ((Below.refl _ wx).drew.trans h2), h2.size⟩
    have HE24 := Lib.hid hE24
    have HWX := Lib.hid hWx
    have HBX := Lib.hid hb
    have HBXE := Lib.hid hbx
    have hsx := hWx.size
    clear hE24 hb hwx hbx hWx hQx hAx
    go_region_held3 (fun w' => w'.cell? ⟨bx, 1, none⟩ = some (.string c.user) ∧ w'.cell? ⟨bx, 2, none⟩ = some (.string c.text) ∧ w'.cell? ⟨bx, 6, none⟩ = some (.slice ao c.edits.length cap))
      (first
        | (go_split_ands; refine ⟨?_, ?_, ?_⟩ <;> (rw [hb5.cell (by exact hltx)]; assumption))
        | go_keep)
      (first
        | (go_at_call 24; refine HE24.out.mono ?_; rintro e w5 ⟨rfl, hb5, HQ5, hs5⟩))
    have hb6 : Hid (Below wx.heap.size wx (w5.alloc (.cells #[.string c.user, .string c.text, .string (okB true), .string (bs (Codes.encEs (c.edits.map EdB.ed)))] 9))) := Lib.hid (hb5.alloc hs5 _)
    have hO6 : Hid ((w5.alloc (.cells #[.string c.user, .string c.text, .string (okB true), .string (bs (Codes.encEs (c.edits.map EdB.ed)))] 9)).ownsRow w.heap.size 9 1 (.slice (some ⟨w5.heap.size, 0, none⟩) 4 4) 4 (((partsB c).take 4).map Value.string)) :=
      Lib.hid (by
        have h := World.ownsRow_lit (base := w.heap.size) (e := 9) (size := 1) w5 #[.string c.user, .string c.text, .string (okB true), .string (bs (Codes.encEs (c.edits.map EdB.ed)))] 4 (by omega) (by decide) rfl
        have e : ((partsB c).take 4).map Value.string = [.string c.user, .string c.text, .string (okB true), .string (bs (Codes.encEs (c.edits.map EdB.ed)))] := by rw [← hokv]; rfl
        rw [e]; exact h)
    have hQ6 : Hid (Q (w5.alloc (.cells #[.string c.user, .string c.text, .string (okB true), .string (bs (Codes.encEs (c.edits.map EdB.ed)))] 9))) := Lib.hid (hQ _ _ HQ5.out (below_alloc _ _))
    clear hb5 x1 x2 x6
    generalize w5.alloc (.cells #[.string c.user, .string c.text, .string (okB true), .string (bs (Codes.encEs (c.edits.map EdB.ed)))] 9) = w6 at *
    have hb := (hb6.out.block bx hltx).trans HBX.out
    have y0 : w6.cell? ⟨bx, 0, none⟩ = some (.int .i64 c.kind) := by rw [Lib.cell_of_heap hb]; rfl
    have y3 : w6.cell? ⟨bx, 3, none⟩ = some (.int .i64 c.base) := by rw [Lib.cell_of_heap hb]; rfl
    have y4 : w6.cell? ⟨bx, 4, none⟩ = some (.int .i64 c.change) := by rw [Lib.cell_of_heap hb]; rfl
    have y5 : w6.cell? ⟨bx, 5, none⟩ = some (.int .i64 c.worker) := by rw [Lib.cell_of_heap hb]; rfl
    have y7 : w6.cell? ⟨bx, 7, none⟩ = some (.int .i64 c.key) := by rw [Lib.cell_of_heap hb]; rfl
    have y8 : w6.cell? ⟨bx, 8, none⟩ = some (.int .i64 c.attempt) := by rw [Lib.cell_of_heap hb]; rfl
    clear hb
    go_wp2_with fail
    have hs6 := hb6.out.size
    have hB7 : Hid (Below w.heap.size w (w6.alloc (.cells #[.int .i64 c.kind, .int .i64 c.base, .int .i64 c.change, .int .i64 c.worker, .int .i64 c.key, .int .i64 c.attempt] 3))) := Lib.hid ((HWX.out.trans (hb6.out.mono hsx)).alloc (by omega) _)
    have hG7 : Hid ((w6.alloc (.cells #[.int .i64 c.kind, .int .i64 c.base, .int .i64 c.change, .int .i64 c.worker, .int .i64 c.key, .int .i64 c.attempt] 3)).heap[w6.heap.size]? = some (.cells ((numsB c).map (Value.int .i64)).toArray 3 (0, 0))) := Lib.hid (heap_alloc_new w6 _)
    have hO7 : Hid ((w6.alloc (.cells #[.int .i64 c.kind, .int .i64 c.base, .int .i64 c.change, .int .i64 c.worker, .int .i64 c.key, .int .i64 c.attempt] 3)).ownsRow w.heap.size 9 1 (.slice (some ⟨w5.heap.size, 0, none⟩) 4 4) (4 + 0) (((partsB c).take (4 + 0)).map Value.string)) := Lib.hid (hO6.out.alloc _)
    clear y0 y3 y4 y5 y7 y8 hO6 hb6 HBX HE24
    obtain ⟨g2, hg2⟩ : ∃ g2, g2 = w6.heap.size := ⟨_, rfl⟩
    rw [← hg2] at hG7 ⊢
    have HG2 := Lib.hid hg2
    clear hg2
    go_loopw [4, 34] (fun o i wr => ∃ k : Nat, k ≤ 6 ∧ i = .int .i64 k ∧ Hid (wr.ownsRow w.heap.size 9 1 o (4 + k) (((partsB c).take (4 + k)).map Value.string)) ∧ Hid (Below w.heap.size w wr) ∧ Hid (wr.heap[g2]? = some (.cells ((numsB c).map (Value.int .i64)).toArray 3 (0, 0)))) (fun _ i _ => 6 - (intOf i).toNat)
    case atStart => exact ⟨0, by omega, rfl, hO7, hB7, hG7⟩
    case round =>
      obtain ⟨k, hk, rfl, HO, HW, HG⟩ := hrel
      clear hO7 hB7 hG7
      by_cases hlt : k < 6
      · obtain ⟨nk, hnk⟩ : ∃ nk, nk = (numsB c)[k] := ⟨_, rfl⟩
        have hcell : wr.cell? ⟨g2, k, none⟩ = some (.int .i64 nk) := by
          rw [Lib.cell_of_heap HG.out, hnk]
          have hl : k < (numsB c).length := hlt
          simp [hl]
          rfl
        have hI : Codes.I64 nk := HN'.out nk (by rw [hnk]; exact List.getElem_mem _)
        have hz := Codes.zig_lt hI
        have hsucc := parts_succ c k hlt
        rw [← hnk] at hsucc
        have HSU := Lib.hid hsucc
        have hqr := Lib.hid (hQ _ _ HQ.out HW.out)
        have hsr := HW.out.size
        clear hnk hsucc
        go_wp2_with fail
        refine (hS nk hI _).mono ?_
        rintro e w' ⟨rfl, rfl⟩
        go_wp2_with fail
        refine (hN (Codes.zig nk) _ hz hqr.out).mono ?_
        rintro e w8 ⟨rfl, hb8⟩
        have HO8 := Lib.hid (owns_later HO.out hb8)
        have HW8 := Lib.hid (HW.out.trans (hb8.mono hsr))
        have HG8 := Lib.hid ((hb8.block g2 (lt_of_block HG.out)).trans HG.out)
        have hs8 := HW8.out.size
        have hg8 := lt_of_block HG8.out
        have hfar := owns_far HO8.out HG8.out (by decide)
        clear hb8 HO HW HG hcell
        go_wp2_with (at_builtin; refine wpList_append_own _ rfl (.tmp 38) (.tmp 42) 61 rfl w.heap.size 9 i0 _ 1 16 Tryz.underlying61 hi hz0 hz1 hz2 rfl (by decide) u4 (4 + k) (((partsB c).take (4 + k)).map Value.string) rfl (HO8.out.alloc _) ⟨w8.heap.size, 0, none⟩ 1 1 [.string (bs (Codes.num (Codes.zig nk)))] rfl rfl ?q1 ?q2 ?q3 ?q4 ?q5 ?_)
        case q1 => exact World.news_of_block (cs := #[.string (bs (Codes.num (Codes.zig nk)))]) (t := 9) (fr := (0, 0)) (heap_alloc_new w8 _)
        case q2 => intro u hu; simp at hu; subst hu; rfl
        case q3 => unfold maxLen; omega
        case q4 => omega
        case q5 => simp; omega
        intro v' w9 hown9 hgrow _
        have HO9 : Hid (w9.ownsRow w.heap.size 9 1 v' (4 + (k + 1)) (((partsB c).take (4 + (k + 1))).map Value.string)) := Lib.hid (by
          have e : 4 + (k + 1) = 4 + k + 1 := by omega
          rw [e, HSU.out]
          simpa using hown9)
        have HW9 : Hid (Below w.heap.size w w9) := Lib.hid ((HW8.out.alloc (by omega) _).grown hgrow (by simp; omega) (fun j hj => (HO8.out.lt j hj).1))
        have HG9 : Hid (w9.heap[g2]? = some (.cells ((numsB c).map (Value.int .i64)).toArray 3 (0, 0))) := Lib.hid ((hgrow.block g2 (by simp; omega) (Ne.symm hfar)).trans ((Below.heap_alloc w8 _ g2 hg8).trans HG8.out))
        clear hown9 hgrow hfar HO8 HW8 HG8
        go_wp2
        go_roundw
        case rel => exact ⟨k + 1, by omega, by go_num, HO9, HW9, HG9⟩
        case measure => simp [intOf]; omega
      · have hk6 : k = 6 := by omega
        subst hk6
        obtain ⟨ao', cap', hv, hst⟩ := owns_strs (l := partsB c) HO.out
        subst hv
        have hqr := hQ _ _ HQ.out HW.out
        have hc := hP (partsB c) ao' cap' wr hqr hst (by show 10 < 2 ^ 62; decide) HPL.out
        rw [parts_of] at hc
        have HC := Lib.hid hc
        clear hst hqr hc
        go_wp2_with fail
        with_reducible refine HC.out.mono ?_
        rintro e w9 ⟨rfl, hb9⟩
        have HF := Lib.hid (HW.out.trans (hb9.mono HW.out.size))
        clear hb9
        go_wp2
        go_ret
        exact ⟨rfl, HF.out⟩
  · have hokv : c.ok = false := by assumption
    have hokB : (⟨#[]⟩ : ByteArray) = okB false := rfl
    rw [hokB]
    simp only [hokv]
    clear hokB
    obtain ⟨wx, hwx⟩ : ∃ wx, wx = w.alloc (Obj.cells #[Value.int IntKind.i64 c.kind, Value.string c.user, Value.string c.text, Value.int IntKind.i64 c.base, Value.int IntKind.i64 c.change, Value.int IntKind.i64 c.worker, Value.slice ao c.edits.length cap, Value.int IntKind.i64 c.key, Value.int IntKind.i64 c.attempt, Value.bool false] 32) := ⟨_, rfl⟩
    obtain ⟨bx, hbx⟩ : ∃ bx, bx = w.heap.size := ⟨_, rfl⟩
    have hb : wx.heap[bx]? = some (.cells #[Value.int IntKind.i64 c.kind, Value.string c.user, Value.string c.text, Value.int IntKind.i64 c.base, Value.int IntKind.i64 c.change, Value.int IntKind.i64 c.worker, Value.slice ao c.edits.length cap, Value.int IntKind.i64 c.key, Value.int IntKind.i64 c.attempt, Value.bool false] 32 (0, 0)) := by rw [hwx, hbx]; exact heap_alloc_new w _
    have hltx := lt_of_block hb
    have hWx : Below w.heap.size w wx := by rw [hwx]; exact below_alloc _ _
    have hQx : Q wx := hQ _ _ HQ.out hWx
    have hAx := HA.out.later hWx
    rw [← hwx, ← hbx]
    have x1 : wx.cell? ⟨bx, 1, none⟩ = some (.string c.user) := by rw [Lib.cell_of_heap hb]; rfl
    have x2 : wx.cell? ⟨bx, 2, none⟩ = some (.string c.text) := by rw [Lib.cell_of_heap hb]; rfl
    have x6 : wx.cell? ⟨bx, 6, none⟩ = some (.slice ao c.edits.length cap) := by rw [Lib.cell_of_heap hb]; rfl
    have hE24 : Calls Tryz.prog 24 #[.slice ao c.edits.length cap] wx.drew fun e w5 => e = .returned (.string (bs (Codes.encEs (c.edits.map EdB.ed)))) ∧ Below wx.heap.size wx w5 ∧ Hid (Q w5) ∧ wx.heap.size ≤ w5.heap.size :=
      (hE c.edits ao cap _ (hQ _ _ hQx (Below.refl _ wx).drew) (hAx.later (Below.refl _ wx).drew) HKS.out HES.out).mono fun e w5 ⟨h1, h2⟩ => ⟨h1, (Below.refl _ wx).drew.trans h2, hQ _ _ hQx ((Below.refl _ wx).drew.trans h2), h2.size⟩
    have HE24 := Lib.hid hE24
    have HWX := Lib.hid hWx
    have HBX := Lib.hid hb
    have HBXE := Lib.hid hbx
    have hsx := hWx.size
    clear hE24 hb hwx hbx hWx hQx hAx
    go_region_held3 (fun w' => w'.cell? ⟨bx, 1, none⟩ = some (.string c.user) ∧ w'.cell? ⟨bx, 2, none⟩ = some (.string c.text) ∧ w'.cell? ⟨bx, 6, none⟩ = some (.slice ao c.edits.length cap))
      (first
        | (go_split_ands; refine ⟨?_, ?_, ?_⟩ <;> (rw [hb5.cell (by exact hltx)]; assumption))
        | go_keep)
      (first
        | (go_at_call 24; refine HE24.out.mono ?_; rintro e w5 ⟨rfl, hb5, HQ5, hs5⟩))
    have hb6 : Hid (Below wx.heap.size wx (w5.alloc (.cells #[.string c.user, .string c.text, .string (okB false), .string (bs (Codes.encEs (c.edits.map EdB.ed)))] 9))) := Lib.hid (hb5.alloc hs5 _)
    have hO6 : Hid ((w5.alloc (.cells #[.string c.user, .string c.text, .string (okB false), .string (bs (Codes.encEs (c.edits.map EdB.ed)))] 9)).ownsRow w.heap.size 9 1 (.slice (some ⟨w5.heap.size, 0, none⟩) 4 4) 4 (((partsB c).take 4).map Value.string)) :=
      Lib.hid (by
        have h := World.ownsRow_lit (base := w.heap.size) (e := 9) (size := 1) w5 #[.string c.user, .string c.text, .string (okB false), .string (bs (Codes.encEs (c.edits.map EdB.ed)))] 4 (by omega) (by decide) rfl
        have e : ((partsB c).take 4).map Value.string = [.string c.user, .string c.text, .string (okB false), .string (bs (Codes.encEs (c.edits.map EdB.ed)))] := by rw [← hokv]; rfl
        rw [e]; exact h)
    have hQ6 : Hid (Q (w5.alloc (.cells #[.string c.user, .string c.text, .string (okB false), .string (bs (Codes.encEs (c.edits.map EdB.ed)))] 9))) := Lib.hid (hQ _ _ HQ5.out (below_alloc _ _))
    clear hb5 x1 x2 x6
    generalize w5.alloc (.cells #[.string c.user, .string c.text, .string (okB false), .string (bs (Codes.encEs (c.edits.map EdB.ed)))] 9) = w6 at *
    have hb := (hb6.out.block bx hltx).trans HBX.out
    have y0 : w6.cell? ⟨bx, 0, none⟩ = some (.int .i64 c.kind) := by rw [Lib.cell_of_heap hb]; rfl
    have y3 : w6.cell? ⟨bx, 3, none⟩ = some (.int .i64 c.base) := by rw [Lib.cell_of_heap hb]; rfl
    have y4 : w6.cell? ⟨bx, 4, none⟩ = some (.int .i64 c.change) := by rw [Lib.cell_of_heap hb]; rfl
    have y5 : w6.cell? ⟨bx, 5, none⟩ = some (.int .i64 c.worker) := by rw [Lib.cell_of_heap hb]; rfl
    have y7 : w6.cell? ⟨bx, 7, none⟩ = some (.int .i64 c.key) := by rw [Lib.cell_of_heap hb]; rfl
    have y8 : w6.cell? ⟨bx, 8, none⟩ = some (.int .i64 c.attempt) := by rw [Lib.cell_of_heap hb]; rfl
    clear hb
    go_wp2_with fail
    have hs6 := hb6.out.size
    have hB7 : Hid (Below w.heap.size w (w6.alloc (.cells #[.int .i64 c.kind, .int .i64 c.base, .int .i64 c.change, .int .i64 c.worker, .int .i64 c.key, .int .i64 c.attempt] 3))) := Lib.hid ((HWX.out.trans (hb6.out.mono hsx)).alloc (by omega) _)
    have hG7 : Hid ((w6.alloc (.cells #[.int .i64 c.kind, .int .i64 c.base, .int .i64 c.change, .int .i64 c.worker, .int .i64 c.key, .int .i64 c.attempt] 3)).heap[w6.heap.size]? = some (.cells ((numsB c).map (Value.int .i64)).toArray 3 (0, 0))) := Lib.hid (heap_alloc_new w6 _)
    have hO7 : Hid ((w6.alloc (.cells #[.int .i64 c.kind, .int .i64 c.base, .int .i64 c.change, .int .i64 c.worker, .int .i64 c.key, .int .i64 c.attempt] 3)).ownsRow w.heap.size 9 1 (.slice (some ⟨w5.heap.size, 0, none⟩) 4 4) (4 + 0) (((partsB c).take (4 + 0)).map Value.string)) := Lib.hid (hO6.out.alloc _)
    clear y0 y3 y4 y5 y7 y8 hO6 hb6 HBX HE24
    obtain ⟨g2, hg2⟩ : ∃ g2, g2 = w6.heap.size := ⟨_, rfl⟩
    rw [← hg2] at hG7 ⊢
    have HG2 := Lib.hid hg2
    clear hg2
    go_loopw [4, 34] (fun o i wr => ∃ k : Nat, k ≤ 6 ∧ i = .int .i64 k ∧ Hid (wr.ownsRow w.heap.size 9 1 o (4 + k) (((partsB c).take (4 + k)).map Value.string)) ∧ Hid (Below w.heap.size w wr) ∧ Hid (wr.heap[g2]? = some (.cells ((numsB c).map (Value.int .i64)).toArray 3 (0, 0)))) (fun _ i _ => 6 - (intOf i).toNat)
    case atStart => exact ⟨0, by omega, rfl, hO7, hB7, hG7⟩
    case round =>
      obtain ⟨k, hk, rfl, HO, HW, HG⟩ := hrel
      clear hO7 hB7 hG7
      by_cases hlt : k < 6
      · obtain ⟨nk, hnk⟩ : ∃ nk, nk = (numsB c)[k] := ⟨_, rfl⟩
        have hcell : wr.cell? ⟨g2, k, none⟩ = some (.int .i64 nk) := by
          rw [Lib.cell_of_heap HG.out, hnk]
          have hl : k < (numsB c).length := hlt
          simp [hl]
          rfl
        have hI : Codes.I64 nk := HN'.out nk (by rw [hnk]; exact List.getElem_mem _)
        have hz := Codes.zig_lt hI
        have hsucc := parts_succ c k hlt
        rw [← hnk] at hsucc
        have HSU := Lib.hid hsucc
        have hqr := Lib.hid (hQ _ _ HQ.out HW.out)
        have hsr := HW.out.size
        clear hnk hsucc
        go_wp2_with fail
        refine (hS nk hI _).mono ?_
        rintro e w' ⟨rfl, rfl⟩
        go_wp2_with fail
        refine (hN (Codes.zig nk) _ hz hqr.out).mono ?_
        rintro e w8 ⟨rfl, hb8⟩
        have HO8 := Lib.hid (owns_later HO.out hb8)
        have HW8 := Lib.hid (HW.out.trans (hb8.mono hsr))
        have HG8 := Lib.hid ((hb8.block g2 (lt_of_block HG.out)).trans HG.out)
        have hs8 := HW8.out.size
        have hg8 := lt_of_block HG8.out
        have hfar := owns_far HO8.out HG8.out (by decide)
        clear hb8 HO HW HG hcell
        go_wp2_with (at_builtin; refine wpList_append_own _ rfl (.tmp 38) (.tmp 42) 61 rfl w.heap.size 9 i0 _ 1 16 Tryz.underlying61 hi hz0 hz1 hz2 rfl (by decide) u4 (4 + k) (((partsB c).take (4 + k)).map Value.string) rfl (HO8.out.alloc _) ⟨w8.heap.size, 0, none⟩ 1 1 [.string (bs (Codes.num (Codes.zig nk)))] rfl rfl ?q1 ?q2 ?q3 ?q4 ?q5 ?_)
        case q1 => exact World.news_of_block (cs := #[.string (bs (Codes.num (Codes.zig nk)))]) (t := 9) (fr := (0, 0)) (heap_alloc_new w8 _)
        case q2 => intro u hu; simp at hu; subst hu; rfl
        case q3 => unfold maxLen; omega
        case q4 => omega
        case q5 => simp; omega
        intro v' w9 hown9 hgrow _
        have HO9 : Hid (w9.ownsRow w.heap.size 9 1 v' (4 + (k + 1)) (((partsB c).take (4 + (k + 1))).map Value.string)) := Lib.hid (by
          have e : 4 + (k + 1) = 4 + k + 1 := by omega
          rw [e, HSU.out]
          simpa using hown9)
        have HW9 : Hid (Below w.heap.size w w9) := Lib.hid ((HW8.out.alloc (by omega) _).grown hgrow (by simp; omega) (fun j hj => (HO8.out.lt j hj).1))
        have HG9 : Hid (w9.heap[g2]? = some (.cells ((numsB c).map (Value.int .i64)).toArray 3 (0, 0))) := Lib.hid ((hgrow.block g2 (by simp; omega) (Ne.symm hfar)).trans ((Below.heap_alloc w8 _ g2 hg8).trans HG8.out))
        clear hown9 hgrow hfar HO8 HW8 HG8
        go_wp2
        go_roundw
        case rel => exact ⟨k + 1, by omega, by go_num, HO9, HW9, HG9⟩
        case measure => simp [intOf]; omega
      · have hk6 : k = 6 := by omega
        subst hk6
        obtain ⟨ao', cap', hv, hst⟩ := owns_strs (l := partsB c) HO.out
        subst hv
        have hqr := hQ _ _ HQ.out HW.out
        have hc := hP (partsB c) ao' cap' wr hqr hst (by show 10 < 2 ^ 62; decide) HPL.out
        rw [parts_of] at hc
        have HC := Lib.hid hc
        clear hst hqr hc
        go_wp2_with fail
        with_reducible refine HC.out.mono ?_
        rintro e w9 ⟨rfl, hb9⟩
        have HF := Lib.hid (HW.out.trans (hb9.mono HW.out.size))
        clear hb9
        go_wp2
        go_ret
        exact ⟨rfl, HF.out⟩
end Go.Proofs.YtpjkcfglojigmaaGreatDoor
