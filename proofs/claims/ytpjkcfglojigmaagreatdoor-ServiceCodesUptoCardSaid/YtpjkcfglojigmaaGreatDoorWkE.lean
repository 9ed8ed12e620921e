/- The decoding of edits, walked. -/
import Derived.Test.YtpjkcfglojigmaaGreatDoorSpecs
import Derived.Test.YtpjkcfglojigmaaGreatDoorCodes
import Derived.Laws.ResultCell
import Derived.Deep.RegionHeld3
import Derived.Deep.AppendLies
namespace Go.Proofs.YtpjkcfglojigmaaGreatDoor
set_option linter.unusedVariables false
set_option linter.unusedSimpArgs false
open Go.RowKit
theorem len4 {l : List ByteArray} (h : l.length = 4) : ∃ a b c d, l = [a, b, c, d] := by
  rcases l with _ | ⟨a, _ | ⟨b, _ | ⟨c, _ | ⟨d, _ | ⟨x, l⟩⟩⟩⟩⟩ <;> first | exact ⟨a, b, c, d, rfl⟩ | (simp at h)
theorem errN_ne' {er : Codes.E} (h : er ≠ .ok) : errN er ≠ 0 := by cases er <;> simp [errN] at h ⊢
set_option maxHeartbeats 8000000 in
set_option maxRecDepth 100000 in
theorem decE_w (hU : UnpackSpec) (hR : ReadSpec) (hZ : UnsSpec) : DecESpec := by
  intro s w hs
  have hb0 : Below w.heap.size w (w.alloc (.cells #[.int .i64 0, .string ⟨#[]⟩, .string ⟨#[]⟩, .string ⟨#[]⟩] 66)) := below_alloc _ _
  have hz0 : (w.alloc (.cells #[.int .i64 0, .string ⟨#[]⟩, .string ⟨#[]⟩, .string ⟨#[]⟩] 66)).heap[w.heap.size]? = some (.cells #[.int .i64 0, .string ⟨#[]⟩, .string ⟨#[]⟩, .string ⟨#[]⟩] 66 (0, 0)) := heap_alloc_new w _
  have HB0 := Lib.hid hb0
  have HZ0 := Lib.hid hz0
  clear hb0 hz0
  go_enter Tryz.func47, Tryz.ntmps47
  go_wp2_with fail
  refine (hU s _ hs).mono ?_
  rintro e w1 ⟨hb1, h⟩
  have hz1 := (hb1.block _ (lt_of_block HZ0.out)).trans HZ0.out
  have hbl := HB0.out.trans (hb1.mono HB0.out.size)
  obtain ⟨b, hbe⟩ : ∃ b, b = w.heap.size := ⟨_, rfl⟩
  rw [← hbe] at hz1
  simp only [← hbe]
  have HBE := Lib.hid hbe
  clear hbe
  have d0 : w1.cell? ⟨b, 0, none⟩ = some (.int .i64 0) := by rw [Lib.cell_of_heap hz1]; rfl
  have d1 : w1.cell? ⟨b, 1, none⟩ = some (.string ⟨#[]⟩) := by rw [Lib.cell_of_heap hz1]; rfl
  have d2 : w1.cell? ⟨b, 2, none⟩ = some (.string ⟨#[]⟩) := by rw [Lib.cell_of_heap hz1]; rfl
  have d3 : w1.cell? ⟨b, 3, none⟩ = some (.string ⟨#[]⟩) := by rw [Lib.cell_of_heap hz1]; rfl
  have f0 : w1.frozen? ⟨b, 0, none⟩ = false := Lib.frozen_of_heap hz1 0
  have f1 : w1.frozen? ⟨b, 1, none⟩ = false := Lib.frozen_of_heap hz1 1
  have f2 : w1.frozen? ⟨b, 2, none⟩ = false := Lib.frozen_of_heap hz1 2
  have f3 : w1.frozen? ⟨b, 3, none⟩ = false := Lib.frozen_of_heap hz1 3
  have HZ1 := Lib.hid hz1
  have HBL := Lib.hid hbl
  clear hb1 hz1 hbl HB0 HZ0
  have hset : ∀ (x : World) (v0 v1 v2 v3 : Value), Below w.heap.size w x → Below w.heap.size w ((((x.setCell ⟨b, 0, none⟩ v0).setCell ⟨b, 1, none⟩ v1).setCell ⟨b, 2, none⟩ v2).setCell ⟨b, 3, none⟩ v3) := fun x v0 v1 v2 v3 h =>
    (((h.setCell (p := ⟨b, 0, none⟩) (by rw [HBE.out]; exact Nat.le_refl _) _).setCell (p := ⟨b, 1, none⟩) (by rw [HBE.out]; exact Nat.le_refl _) _).setCell (p := ⟨b, 2, none⟩) (by rw [HBE.out]; exact Nat.le_refl _) _).setCell (p := ⟨b, 3, none⟩) (by rw [HBE.out]; exact Nat.le_refl _) _
  have HSET := Lib.hid hset
  clear hset
  rcases h with ⟨er, hu, hne, rfl⟩ | ⟨ls, ao, cap, hu, rfl, hst⟩
  · have he := errN_ne' hne
    have HU := Lib.hid hu
    clear hu
    go_wp2
    refine bodyPost_ret (v := .tuple #[zeroEd, .int .i64 (errN er)]) ?_ rfl ⟨HSET.out _ _ _ _ _ HBL.out, .inl ⟨er, Codes.decE_err HU.out, hne, rfl⟩⟩
    rw [results_cell_tmp rfl]
    go_simp
    rfl
  · by_cases h4 : ls.length = 4
    · obtain ⟨a, b1, c1, e1, rfl⟩ := len4 h4
      rcases hst with h | ⟨blk, off, rfl, hblk, hcells⟩
      · cases h
      have k0 := hcells 0 (by simp)
      have k1 := hcells 1 (by simp)
      have k2 := hcells 2 (by simp)
      have k3 := hcells 3 (by simp)
      simp only [Nat.add_zero, List.getElem_cons_zero, List.getElem_cons_succ] at k0 k1 k2 k3
      have hbb : blk ≠ b := by
        rintro rfl
        rw [Lib.cell_of_heap HZ1.out] at k3 k0
        have h3 : off + 3 < 4 := by
          rcases Nat.lt_or_ge (off + 3) 4 with h | h
          · exact h
          · rw [Array.getElem?_eq_none (by simpa using h)] at k3; cases k3
        have h0 : off = 0 := by omega
        subst h0
        simp at k0
      have hle := Codes.unpack_le hu
      have hal : a.size ≤ s.size := by
        simp only [List.map_cons, List.map_nil, Codes.tot_cons, tb_len, List.length_cons, List.length_nil] at hle
        omega
      obtain ⟨n, sz, er, hrd⟩ : ∃ n sz er, Codes.rd (tb a) = (n, sz, er) := ⟨_, _, _, rfl⟩
      have hn := (Codes.rd_size hrd).2
      have HU := Lib.hid hu
      have HR := Lib.hid hrd
      clear hu hrd hcells hle h4
      simp only [List.length_cons, List.length_nil, Nat.zero_add, Nat.reduceAdd]
      go_wp2_with fail
      refine (hR a _ n sz er (by omega) HR.out).mono ?_
      rintro e w2 ⟨rfl, hb2⟩
      have hblt := lt_of_block HZ1.out
      have hz2 := (hb2.block _ hblt).trans HZ1.out
      have g0 := (hb2.cell (p := ⟨blk, off, none⟩) hblk).trans k0
      have g1 := (hb2.cell (p := ⟨blk, off + 1, none⟩) hblk).trans k1
      have g2 := (hb2.cell (p := ⟨blk, off + 2, none⟩) hblk).trans k2
      have g3 := (hb2.cell (p := ⟨blk, off + 3, none⟩) hblk).trans k3
      clear k0 k1 k2 k3 d0 d1 d2 d3 f0 f1 f2 f3
      have d0 : w2.cell? ⟨b, 0, none⟩ = some (.int .i64 0) := by rw [Lib.cell_of_heap hz2]; rfl
      have d1 : w2.cell? ⟨b, 1, none⟩ = some (.string ⟨#[]⟩) := by rw [Lib.cell_of_heap hz2]; rfl
      have d2 : w2.cell? ⟨b, 2, none⟩ = some (.string ⟨#[]⟩) := by rw [Lib.cell_of_heap hz2]; rfl
      have d3 : w2.cell? ⟨b, 3, none⟩ = some (.string ⟨#[]⟩) := by rw [Lib.cell_of_heap hz2]; rfl
      have f0 : w2.frozen? ⟨b, 0, none⟩ = false := Lib.frozen_of_heap hz2 0
      have f1 : w2.frozen? ⟨b, 1, none⟩ = false := Lib.frozen_of_heap hz2 1
      have f2 : w2.frozen? ⟨b, 2, none⟩ = false := Lib.frozen_of_heap hz2 2
      have f3 : w2.frozen? ⟨b, 3, none⟩ = false := Lib.frozen_of_heap hz2 3
      have HBL2 := Lib.hid (HBL.out.trans (hb2.mono HBL.out.size))
      clear hb2 hz2
      by_cases hok : er = .ok
      · subst hok
        simp only [errN]
        by_cases hsh : sz < a.size
        · have hsh' : (sz : Int) < (a.size : Int) := by omega
          go_wp2
          refine bodyPost_ret (v := .tuple #[zeroEd, .int .i64 22]) ?_ rfl ⟨HSET.out _ _ _ _ _ HBL2.out, .inl ⟨.form, Codes.decE_short HU.out HR.out (by rw [tb_len]; exact hsh), by simp, rfl⟩⟩
          rw [results_cell_tmp rfl]
          go_simp
          rfl
        · have hsh' : ¬ (sz : Int) < (a.size : Int) := by omega
          go_wp2_with fail
          have hbb' : b ≠ blk := Ne.symm hbb
          go_region_held3 (fun w' => w'.cell? ⟨blk, off + 1, none⟩ = some (.string b1) ∧ w'.cell? ⟨blk, off + 2, none⟩ = some (.string c1) ∧ w'.cell? ⟨blk, off + 3, none⟩ = some (.string e1))
            (first | go_keep)
            (first | (go_at_call 31; refine (hZ n _ hn).mono ?_; rintro e w' ⟨rfl, rfl⟩))
          all_goals (
            go_wp2
            refine bodyPost_ret (v := .tuple #[EdB.v ⟨Codes.zag n, b1, c1, e1⟩, .int .i64 0]) ?_ rfl ⟨HSET.out _ _ _ _ _ HBL2.out.drew, .inr ⟨⟨Codes.zag n, b1, c1, e1⟩, Codes.decE_good HU.out HR.out (by rw [tb_len]; exact hsh), rfl⟩⟩
            rw [results_cell_tmp rfl]
            go_simp
            rfl)
      · have he := errN_ne' hok
        go_wp2
        refine bodyPost_ret (v := .tuple #[zeroEd, .int .i64 22]) ?_ rfl ⟨HSET.out _ _ _ _ _ HBL2.out, .inl ⟨.form, Codes.decE_bad HU.out HR.out hok, by simp, rfl⟩⟩
        rw [results_cell_tmp rfl]
        go_simp
        rfl
    · have h4' : ¬ (ls.length : Int) = 4 := by omega
      have HU := Lib.hid hu
      clear hu hst
      go_wp2
      refine bodyPost_ret (v := .tuple #[zeroEd, .int .i64 22]) ?_ rfl ⟨HSET.out _ _ _ _ _ HBL.out, .inl ⟨.form, Codes.decE_len HU.out (by simpa using h4), by simp, rfl⟩⟩
      rw [results_cell_tmp rfl]
      go_simp
      rfl
end Go.Proofs.YtpjkcfglojigmaaGreatDoor
namespace Go.Proofs.YtpjkcfglojigmaaGreatDoor
set_option linter.unusedVariables false
set_option linter.unusedSimpArgs false
open Go.RowKit
theorem edInfo : (Tryz.prog.info? 66).map (fun i => (i.zero, i.size, i.bytes)) = some (some (.agg #[.int .i64 0, .string ⟨#[]⟩, .string ⟨#[]⟩, .string ⟨#[]⟩]), 4, 56) := by kernel_rfl
def cellsOf (l : List EdB) : List Value := l.flatMap EdB.cells
theorem cellsOf_length (l : List EdB) : (cellsOf l).length = l.length * 4 := by
  induction l with
  | nil => rfl
  | cons x l ih => simp only [cellsOf, List.flatMap_cons, List.length_append, List.length_cons] at *; rw [ih]; simp [EdB.cells]; omega
theorem cellsOf_get : ∀ (l : List EdB) (j : Nat) (h : j < l.length), (cellsOf l)[j * 4]? = some (.int .i64 l[j].kind) ∧ (cellsOf l)[j * 4 + 1]? = some (.string l[j].path) ∧ (cellsOf l)[j * 4 + 2]? = some (.string l[j].to) ∧ (cellsOf l)[j * 4 + 3]? = some (.string l[j].text)
  | x :: l, 0, _ => by simp [cellsOf, EdB.cells]
  | x :: l, j + 1, h => by
    have ih := cellsOf_get l j (by simpa using h)
    have e : ∀ i, (cellsOf (x :: l))[(j + 1) * 4 + i]? = (cellsOf l)[j * 4 + i]? := fun i => by
      have e1 : cellsOf (x :: l) = EdB.cells x ++ cellsOf l := by simp [cellsOf]
      rw [e1, List.getElem?_append_right (by simp [EdB.cells]; omega)]
      congr 1
      simp [EdB.cells]; omega
    have e0 := e 0
    simp only [Nat.add_zero] at e0
    refine ⟨e0.trans ih.1, (e 1).trans ih.2.1, (e 2).trans ih.2.2.1, (e 3).trans ih.2.2.2⟩
theorem cellsOf_snoc (l : List EdB) (x : EdB) : cellsOf (l ++ [x]) = cellsOf l ++ [.int .i64 x.kind, .string x.path, .string x.to, .string x.text] := by simp [cellsOf, EdB.cells]
theorem owns_eds {w : World} {B : Nat} {v : Value} {l : List EdB} (h : w.ownsRow B 66 4 v l.length (cellsOf l)) : ∃ ao cap, v = .slice ao l.length cap ∧ EdsAt w ao l ∧ ∀ blk off, ao = some ⟨blk, off, none⟩ → B ≤ blk := by
  rcases h.2 with ⟨h1, h2⟩ | ⟨g, cap, cur, h1, hB, hg, h3⟩
  · refine ⟨none, 0, ?_, .inl ?_, fun _ _ h => by cases h⟩
    · rw [h1, h2]
    · exact List.eq_nil_of_length_eq_zero h2
  · refine ⟨some ⟨g, 0, none⟩, cap, h1, .inr ⟨g, 0, rfl, lt_of_block hg, fun j hj => ?_⟩, fun blk off h => by simp only [Option.some.injEq, Addr.mk.injEq] at h; omega⟩
    subst h1
    have hc := cellsOf_get l j hj
    rw [Nat.zero_add]
    exact ⟨(h.cellAt _ (by omega)).trans hc.1, (h.cellAt _ (by omega)).trans hc.2.1, (h.cellAt _ (by omega)).trans hc.2.2.1, (h.cellAt _ (by omega)).trans hc.2.2.2⟩
set_option maxHeartbeats 8000000 in
set_option maxRecDepth 100000 in
theorem decEs_w (hU : UnpackSpec) (hD : DecESpec) : DecEsSpec := by
  intro s w hs
  obtain ⟨i0, hi, hz0, hz1, hz2⟩ := info_parts edInfo
  go_enter Tryz.func29, Tryz.ntmps29
  go_wp2_with fail
  refine (hU s _ hs).mono ?_
  rintro e w1 ⟨hb1, h⟩
  rcases h with ⟨er, hu, hne, rfl⟩ | ⟨ls, ao, cap, hu, rfl, hst⟩
  · have he := errN_ne' hne
    have HU := Lib.hid hu
    have HB := Lib.hid hb1
    clear hu hb1
    go_wp2
    go_ret2
    exact ⟨HB.out, .inl ⟨er, Codes.decEs_err HU.out, hne, rfl⟩⟩
  · have hle := Codes.unpack_le hu
    have hll : ls.length ≤ s.size := by simp only [List.length_map, tb_len] at hle; omega
    have hmem : ∀ t ∈ ls, t.size ≤ s.size := fun t ht => by
      have := Codes.mem_tot (List.mem_map_of_mem (f := tb) ht)
      rw [tb_len] at this; rw [tb_len] at hle; omega
    have HU := Lib.hid hu
    have HB := Lib.hid hb1
    have HST := Lib.hid hst
    have HM := Lib.hid hmem
    clear hu hb1 hst hmem hle
    go_wp2_with fail
    go_loopw [6, 21] (fun o i wr => ∃ k : Nat, k ≤ ls.length ∧ i = .int .i64 k ∧ Hid (Below w.heap.size w wr) ∧ Hid (Below w1.heap.size w1 wr) ∧
        Hid (∃ xs : List EdB, xs.length = k ∧ wr.ownsRow w1.heap.size 66 4 o xs.length (cellsOf xs) ∧ Codes.Dx (ls.map tb) ((ls.drop k).map tb) (xs.map EdB.ed))) (fun _ i _ => ls.length - (intOf i).toNat)
    case atStart => exact ⟨0, Nat.zero_le _, rfl, HB, Lib.hid (Below.refl _ _), Lib.hid ⟨[], rfl, World.ownsRow_nil _ _ _ _, by simpa using Codes.dx_start (ls.map tb)⟩⟩
    case round =>
      obtain ⟨k, hk, rfl, HW, HW1, HX⟩ := hrel
      by_cases hlt : k < ls.length
      · rcases HST.out with h | ⟨blk, off, rfl, hblk, hcells⟩
        · rw [h] at hlt; cases hlt
        have hck := (HW1.out.cell (p := ⟨blk, off + k, none⟩) hblk).trans (hcells k hlt)
        obtain ⟨t, ht⟩ : ∃ t, t = ls[k] := ⟨_, rfl⟩
        have htm := HM.out t (by rw [ht]; exact List.getElem_mem _)
        rw [← ht] at hck
        have hdrop : (ls.drop k).map tb = tb t :: (ls.drop (k + 1)).map tb := by rw [List.drop_eq_getElem_cons hlt, List.map_cons, ht]
        have HDR := Lib.hid hdrop
        clear hcells ht hdrop
        go_wp2_with fail
        refine (hD t _ (by omega)).mono ?_
        rintro e w2 ⟨hb2, h⟩
        have HB2 := Lib.hid hb2
        clear hb2 hck
        rcases h with ⟨er, hde, hne, rfl⟩ | ⟨x, hde, rfl⟩
        · have he := errN_ne' hne
          have HDE := Lib.hid hde
          clear hde
          unfold zeroEd
          obtain ⟨xs, hxl, hown, hdx⟩ := HX.out
          have hbad := Codes.decEs_ok HU.out
          rw [HDR.out] at hdx
          have HBAD := Lib.hid (hbad.trans (Codes.dx_bad hdx HDE.out))
          have HF := Lib.hid (HW.out.trans (HB2.out.mono HW.out.size))
          clear hown hdx hbad HX
          go_wp2
          go_ret2
          exact ⟨HF.out.alloc HF.out.size _, .inl ⟨er, HBAD.out, hne, rfl⟩⟩
        · have HDE := Lib.hid hde
          clear hde
          unfold EdB.v
          obtain ⟨xs, hxl, hown, hdx⟩ := HX.out
          rw [HDR.out] at hdx
          have hdx' := Codes.dx_good hdx HDE.out
          have hown2 := owns_later hown HB2.out
          have HDX := Lib.hid hdx'
          have HO := Lib.hid hown2
          have HF := Lib.hid (HW.out.trans (HB2.out.mono HW.out.size))
          have HF1 := Lib.hid (HW1.out.trans (HB2.out.mono HW1.out.size))
          have hs1 := HF1.out.size
          have hs0 := HB.out.size
          have HXL := Lib.hid hxl
          have hxs : xs.length < 2 ^ 40 := by omega
          clear hown hdx hdx' hown2 hxl HX HDE HDR
          go_wp2_with (at_builtin; refine wpList_append_own _ rfl (.tmp 33) (.tmp 35) 28 rfl w1.heap.size 66 i0 _ 4 56 Tryz.underlying28 hi hz0 hz1 hz2 rfl (by decide) u6 xs.length (cellsOf xs) rfl ((HO.out.alloc _).alloc _) ⟨w2.heap.size + 1, 0, none⟩ 1 1 [.int .i64 x.kind, .string x.path, .string x.to, .string x.text] rfl rfl ?q1 ?q2 ?q3 ?q4 ?q5 ?_)
          case q1 =>
            intro j u hj
            exact World.news_of_block (cs := #[.int .i64 x.kind, .string x.path, .string x.to, .string x.text]) (t := 66) (fr := (0, 0)) (by have := heap_alloc_new (w2.alloc (.cells #[.int .i64 x.kind, .string x.path, .string x.to, .string x.text] 66)) (.cells #[.int .i64 x.kind, .string x.path, .string x.to, .string x.text] 66); simpa using this) j u hj
          case q2 => intro u hu; simp at hu; rcases hu with rfl | rfl | rfl | rfl <;> rfl
          case q3 => unfold maxLen; omega
          case q4 => omega
          case q5 => simp; omega
          intro v' w3 hown' hgrow _
          have HG : Hid (Below w.heap.size w w3) := Lib.hid ((((HF.out.alloc (by omega) _).alloc (by simp; omega) _)).grown hgrow (by simp; omega) (fun j hj => by have := (HO.out.lt j hj).1; omega))
          have HG1 : Hid (Below w1.heap.size w1 w3) := Lib.hid ((((HF1.out.alloc (by omega) _).alloc (by simp; omega) _)).grown hgrow (by simp; omega) (fun j hj => (HO.out.lt j hj).1))
          have HO' := Lib.hid hown'
          clear hown' hgrow
          go_wp2
          go_roundw
          case rel => exact ⟨k + 1, by omega, by go_num, HG, HG1, Lib.hid ⟨xs ++ [x], by have := HXL.out; simp; omega, by rw [cellsOf_snoc]; simpa using HO'.out, by simpa using HDX.out⟩⟩
          case measure => simp [intOf]; omega
      · have hkl : k = ls.length := by omega
        subst hkl
        obtain ⟨xs, hxl, hown, hdx⟩ := HX.out
        obtain ⟨ao', cap', hv, hst', hnew⟩ := owns_eds hown
        subst hv
        have HNEW := Lib.hid hnew
        clear hnew
        have HDX := Lib.hid hdx
        have HST' := Lib.hid hst'
        clear hdx hst' hown HX
        go_wp2
        go_ret2
        refine ⟨HW.out, .inr ⟨xs, ao', cap', ?_, rfl, HST'.out, fun blk off h => Nat.le_trans HB.out.size (HNEW.out blk off h)⟩⟩
        rw [Codes.decEs_ok HU.out]
        have := HDX.out
        rw [List.drop_length, List.map_nil] at this
        exact Codes.dx_end this
end Go.Proofs.YtpjkcfglojigmaaGreatDoor
