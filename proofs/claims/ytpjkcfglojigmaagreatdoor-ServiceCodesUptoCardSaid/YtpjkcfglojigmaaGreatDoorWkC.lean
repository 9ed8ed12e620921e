/- A string taken, and codec.Unpack, walked. -/
import Derived.Test.YtpjkcfglojigmaaGreatDoorSpecs
import Derived.Deep.RegionHeld3
import Derived.Deep.RegionLaw
import Derived.Deep.AppendLies
import Derived.RegionTactic
import Derived.ChangeAlike
namespace Go.Proofs.YtpjkcfglojigmaaGreatDoor
set_option linter.unusedVariables false
set_option linter.unusedSimpArgs false
open Go.RowKit
theorem strInfo : (Tryz.prog.info? 9).map (fun i => (i.zero, i.size, i.bytes)) = some (some (.string ⟨#[]⟩), 1, 16) := by kernel_rfl
set_option maxHeartbeats 4000000 in
set_option maxRecDepth 100000 in
theorem next_w (hI : InNumSpec) : NextSpec := by
  intro b s v ls w n sz er hb hown hls hs hrd
  have hlt := lt_of_block hb
  have hsz := (Codes.rd_size hrd).1
  have hn := (Codes.rd_size hrd).2
  rw [tb_len] at hsz
  have HB := Lib.hid hb
  have HO := Lib.hid hown
  clear hb hown
  go_enter Tryz.func46, Tryz.ntmps46
  go_wp2_with fail
  refine (hI b s v _ n sz er HB.out hs hrd).mono ?_
  rintro e w1 ⟨rfl, hb', hbut⟩
  have hfar := owns_far HO.out HB.out (by decide)
  have hown1 : w1.ownsRow b 9 1 v ls.length (ls.map Value.string) := HO.out.kept hbut (.inr hfar)
  have hs1 : (s.extract sz s.size).size = s.size - sz := by rw [Lib.size_eq, Lib.extract_to_end, List.length_drop, ← Lib.size_eq]
  obtain ⟨s1, hs1e⟩ : ∃ s1, s1 = s.extract sz s.size := ⟨_, rfl⟩
  have hw1 := hbut.size
  have htb : tb s1 = (tb s).drop sz := by rw [hs1e, tb_cut]
  rw [← hs1e] at hb' hs1
  have c0 : w1.cell? ⟨b, 0, none⟩ = some (.string s1) := by rw [Lib.cell_of_heap hb']; rfl
  have c1 : w1.cell? ⟨b, 1, none⟩ = some (.int .i64 (errN er)) := by rw [Lib.cell_of_heap hb']; rfl
  have c2 : w1.cell? ⟨b, 2, none⟩ = some v := by rw [Lib.cell_of_heap hb']; rfl
  have f0 : w1.frozen? ⟨b, 0, none⟩ = false := Lib.frozen_of_heap hb' 0
  have f1 : w1.frozen? ⟨b, 1, none⟩ = false := Lib.frozen_of_heap hb' 1
  have f2 : w1.frozen? ⟨b, 2, none⟩ = false := Lib.frozen_of_heap hb' 2
  have hlt1 := lt_of_block hb'
  have HB' := Lib.hid hb'
  have HO1 := Lib.hid hown1
  have HBut := Lib.hid hbut
  have HT := Lib.hid htb
  have HS := Lib.hid hs1
  have HE := Lib.hid hs1e
  have hzz : s1.size < 2 ^ 40 := by omega
  have hle1 : s1.size ≤ s.size := by omega
  clear hb' hown1 hbut htb hs1 hs1e
  by_cases hok : er = .ok
  · subst hok
    simp only [errN] at c1
    by_cases hshort : s.size - sz < n
    · have hsh : ((s1.size : Nat) : Int) < (n : Int) := by have := HS.out; omega
      go_wp2
      go_end0
      refine ⟨rfl, s1, 20, v, ls, .inr (.inl ⟨rfl, hshort, rfl, rfl⟩), hle1, set_block HB'.out 1 _, ?_, ?_⟩
      · exact ownsRow_setCell_other HO1.out (by simpa using hfar) _
      · exact (HBut.out.set 1 _).below (Nat.le_refl _) (by omega)
    · have hsh : ¬ ((s1.size : Nat) : Int) < (n : Int) := by have := HS.out; omega
      have hi0 : (0 : Int) ≤ (n : Int) := by omega
      have hi1 : (n : Int) ≤ (s1.size : Int) := by omega
      obtain ⟨i0, hi, hz0, hz1, hz2⟩ := info_parts strInfo
      have ca0 : ∀ o, (w1.alloc o).drew.cell? ⟨b, 0, none⟩ = some (.string s1) := fun o => by
        show (w1.alloc o).cell? _ = _
        rw [World.cell?_alloc_lt _ _ _ hlt1]; exact c0
      have ca2 : ∀ o, (w1.alloc o).drew.cell? ⟨b, 2, none⟩ = some v := fun o => by
        show (w1.alloc o).cell? _ = _
        rw [World.cell?_alloc_lt _ _ _ hlt1]; exact c2
      have cf2 : ∀ o, (w1.alloc o).drew.frozen? ⟨b, 2, none⟩ = false := fun o => by
        show (w1.alloc o).frozen? _ = _
        rw [World.frozen?_alloc_old _ _ _ (Nat.ne_of_lt hlt1)]; exact f2
      have cf0 : ∀ o, (w1.alloc o).drew.frozen? ⟨b, 0, none⟩ = false := fun o => by
        show (w1.alloc o).frozen? _ = _
        rw [World.frozen?_alloc_old _ _ _ (Nat.ne_of_lt hlt1)]; exact f0
      have hne0 := World.new_ne w1 ⟨b, 0, none⟩ c0
      have hne2 := World.new_ne w1 ⟨b, 2, none⟩ c2
      go_wp2_with fail
      go_region_law
        ((refine step_append_lies _ (by rfl) _ _ _ (by rfl) b 9 i0 _ 1 16 Tryz.underlying61 hi hz0 hz1 hz2 rfl (by omega) v ls.length (ls.map Value.string) (by rfl) ((HO1.out.alloc _).drew)
            ⟨w1.heap.size, 0, none⟩ 1 1 [.string (s1.extract 0 n)] (by rfl) (by rfl) (World.news_of_block (cs := #[.string (s1.extract 0 n)]) (t := 9) (fr := (0, 0)) (heap_alloc_new w1 _)) (by simp [Value.oneCell'])
            (by omega) (by unfold maxLen; omega) (by omega) (by simp; omega) (w1.heap.size + 1) (by simp) ?_
          intro gg cap w2 hown2 hgrow hat hlt2
          have k0 := (hgrow.cell_far ⟨b, 0, none⟩ (by simp; omega) (Ne.symm hfar)).trans (ca0 _)
          have k2 := (hgrow.cell_far ⟨b, 2, none⟩ (by simp; omega) (Ne.symm hfar)).trans (ca2 _)
          have kf := (hgrow.frozen_far ⟨b, 2, none⟩ (by simp; omega) (Ne.symm hfar)).trans (cf2 _)
          have kf0 := (hgrow.frozen_far ⟨b, 0, none⟩ (by simp; omega) (Ne.symm hfar)).trans (cf0 _)))
      all_goals (
        have hb2 : w2.heap[b]? = some (.cells #[.string s1, .int .i64 0, v] 123 (0, 0)) := (hgrow.block b (by simp; omega) (Ne.symm hfar)).trans ((Below.heap_alloc w1 _ b hlt1).trans HB'.out)
        have hgb : gg ≠ b := fun e => owns_far hown2 hb2 (by decide) (by rw [e]; rfl)
        have hbel : Below b w w2 := (((HBut.out.below (Nat.le_refl _) (by omega)).alloc (by omega) _).drew).grown hgrow (by simp; omega) (fun k hk => (HO1.out.lt k hk).1)
        have HB2 := Lib.hid hb2
        have HOW := Lib.hid hown2
        have HBE := Lib.hid hbel
        clear hb2 hown2 hbel hgrow hat ca0 ca2 cf2 cf0
        go_wp2
        go_end0
        refine ⟨rfl, s1.extract n s1.size, 0, .slice (some ⟨gg, 0, none⟩) (ls.length + 1) cap, ls ++ [s1.extract 0 n], .inr (.inr ⟨rfl, by omega, rfl, ?_, s1.extract 0 n, ?_, rfl⟩), ?_, set_block (set_block HB2.out 2 _) 0 _, ?_, ?_⟩
        · rw [tb_cut, HT.out]
        · rw [tb_ext, HT.out, List.drop_zero, Nat.sub_zero]
        · rw [← tb_len, tb_cut, List.length_drop, tb_len]; omega
        · have h1 := ownsRow_setCell_other HOW.out (a := ⟨b, 2, none⟩) (by simpa [Value.ownBlock] using hgb) (.slice (some ⟨gg, 0, none⟩) (ls.length + 1) cap)
          have h2 := ownsRow_setCell_other h1 (a := ⟨b, 0, none⟩) (by simpa [Value.ownBlock] using hgb) (.string (s1.extract n s1.size))
          simpa using h2
        · exact ((HBE.out.setCell (p := ⟨b, 2, none⟩) (Nat.le_refl _) _).setCell (p := ⟨b, 0, none⟩) (Nat.le_refl _) _))
  · have hne : ¬ errN er = 0 := by cases er <;> simp [errN] at hok ⊢
    go_wp2
    go_end0
    exact ⟨rfl, s1, errN er, v, ls, .inl ⟨hok, rfl, rfl⟩, hle1, HB'.out, HO1.out, HBut.out.below (Nat.le_refl _) (by omega)⟩
end Go.Proofs.YtpjkcfglojigmaaGreatDoor
namespace Go.Proofs.YtpjkcfglojigmaaGreatDoor
set_option linter.unusedVariables false
set_option linter.unusedSimpArgs false
open Go.RowKit
/-- what is known ahead of a round of Unpack's loop -/
def Nx (many : Nat) (left0 : Codes.B) (k : Nat) (left : Codes.B) (ls : List Codes.B) (e : Int) : Prop :=
  (e = 0 ∧ ls.length = k ∧ Codes.nexts many left0 = (match Codes.nexts (many - k) left with | .ok (l, r) => .ok (ls ++ l, r) | .error er => .error er)) ∨
  (∃ er, er ≠ .ok ∧ e = errN er ∧ Codes.nexts many left0 = .error er)
theorem errN_ne {er : Codes.E} (h : er ≠ .ok) : errN er ≠ 0 := by cases er <;> simp [errN] at h ⊢
theorem nx_start (many : Nat) (left : Codes.B) : Nx many left 0 left [] 0 := by
  refine .inl ⟨rfl, rfl, ?_⟩
  rw [Nat.sub_zero]
  split <;> simp_all
theorem nx_step {many k n sz : Nat} {left0 : Codes.B} {s s' : ByteArray} {ls ls' : List ByteArray} {er : Codes.E} {e' : Int} (hk : k < many) (h : Nx many left0 k (tb s) (ls.map tb) 0)
    (hrd : Codes.rd (tb s) = (n, sz, er)) (ht : Took s n sz er ls s' e' ls') : Nx many left0 (k + 1) (tb s') (ls'.map tb) e' := by
  rcases h with ⟨_, h1, h2⟩ | ⟨er', h1, h2, _⟩
  · have hm : many - k = (many - (k + 1)) + 1 := by omega
    rw [hm] at h2
    rcases ht with ⟨a, b, c⟩ | ⟨a, b, c, d⟩ | ⟨a, b, c, d, x, hx, hl⟩
    · refine .inr ⟨er, a, b, ?_⟩
      rw [h2]
      cases er with
      | ok => exact absurd rfl a
      | short => simp [Codes.nexts, hrd]
      | form => simp [Codes.nexts, hrd]
    · subst a
      refine .inr ⟨.short, by simp, c, ?_⟩
      rw [h2]
      have : ((tb s).drop sz).length < n := by rw [List.length_drop, tb_len]; exact b
      rw [Codes.nexts, hrd]
      simp only [if_pos this]
    · subst a
      refine .inl ⟨c, by rw [hl]; simpa using h1, ?_⟩
      rw [h2]
      have : ¬ ((tb s).drop sz).length < n := by rw [List.length_drop, tb_len]; omega
      rw [d, hl, Codes.nexts, hrd]
      simp only [if_neg this]
      cases hq : Codes.nexts (many - (k + 1)) (((tb s).drop sz).drop n) with
      | error er' => rfl
      | ok p => obtain ⟨l, r⟩ := p; simp [hx]
  · exact absurd h2.symm (errN_ne h1)
set_option maxHeartbeats 4000000 in
set_option maxRecDepth 100000 in
theorem unpack_w (hI : InNumSpec) (hX : NextSpec) : UnpackSpec := by
  intro s w hs
  obtain ⟨n, sz, er, hrd⟩ : ∃ n sz er, Codes.rd (tb s) = (n, sz, er) := ⟨_, _, _, rfl⟩
  have hn := (Codes.rd_size hrd).2
  have hszl := (Codes.rd_size hrd).1
  rw [tb_len] at hszl
  have hb0 : Below w.heap.size w (w.alloc (.cells #[.string s, .int .i64 0, .slice none 0 0] 123)) := (Below.refl _ _).alloc (Nat.le_refl _) _
  have hcell : (w.alloc (.cells #[.string s, .int .i64 0, .slice none 0 0] 123)).heap[w.heap.size]? = some (.cells #[.string s, .int .i64 0, .slice none 0 0] 123 (0, 0)) := heap_alloc_new w _
  have hsz0 : (w.alloc (.cells #[.string s, .int .i64 0, .slice none 0 0] 123)).heap.size = w.heap.size + 1 := by simp
  have HC := Lib.hid hcell
  have HB := Lib.hid hb0
  have HSZ := Lib.hid hsz0
  have HR := Lib.hid hrd
  clear hcell hb0 hsz0 hrd
  go_enter Tryz.func28, Tryz.ntmps28
  go_wp2_with fail
  refine (hI w.heap.size s _ _ n sz er HC.out hs HR.out).mono ?_
  rintro e w1 ⟨rfl, hb', hbut⟩
  have hbl := HB.out.trans (hbut.below (Nat.le_refl _) (by rw [HSZ.out]; omega))
  obtain ⟨b, hbe⟩ : ∃ b, b = w.heap.size := ⟨_, rfl⟩
  rw [← hbe] at hb' hbl
  simp only [← hbe]
  have hle := hbl.size
  obtain ⟨s1, hs1e⟩ : ∃ s1, s1 = s.extract sz s.size := ⟨_, rfl⟩
  have htb : tb s1 = (tb s).drop sz := by rw [hs1e, tb_cut]
  have hsl : s1.size = s.size - sz := by rw [← tb_len, htb, List.length_drop, tb_len]
  rw [← hs1e] at hb'
  have HBE := Lib.hid hbe
  clear hbe
  by_cases hok : er = .ok
  · subst hok
    have hst := nx_start n (tb s1)
    have HI : Hid (∃ (s' : ByteArray) (e' : Int) (v : Value) (ls : List ByteArray), w1.heap[b]? = some (.cells #[.string s', .int .i64 e', v] 123 (0, 0)) ∧ w1.ownsRow b 9 1 v ls.length (ls.map Value.string) ∧ Below b w w1 ∧ ls.length + s'.size ≤ s.size ∧ Nx n (tb s1) 0 (tb s') (ls.map tb) e') :=
      Lib.hid ⟨s1, 0, .slice none 0 0, [], hb', World.ownsRow_nil _ _ _ _, hbl, by simp; omega, hst⟩
    have HT := Lib.hid htb
    clear hst hb' hbut hbl HC HB HSZ htb hs1e
    go_wp2_with fail
    go_loopw [6] (fun i wr => ∃ k : Nat, k ≤ n ∧ i = .int .u64 k ∧ Hid (∃ (s' : ByteArray) (e' : Int) (v : Value) (ls : List ByteArray), wr.heap[b]? = some (.cells #[.string s', .int .i64 e', v] 123 (0, 0)) ∧ wr.ownsRow b 9 1 v ls.length (ls.map Value.string) ∧ Below b w wr ∧ ls.length + s'.size ≤ s.size ∧ Nx n (tb s1) k (tb s') (ls.map tb) e')) (fun i _ => n - (intOf i).toNat)
    case atStart => exact ⟨0, Nat.zero_le _, rfl, HI⟩
    case round =>
      obtain ⟨k, hk, rfl, HK⟩ := hrel
      obtain ⟨s', e', v, ls, hb2, hown2, hbl2, hll, hnx⟩ := HK.out
      clear HK
      have c0 : wr.cell? ⟨b, 0, none⟩ = some (.string s') := by rw [Lib.cell_of_heap hb2]; rfl
      have c1 : wr.cell? ⟨b, 1, none⟩ = some (.int .i64 e') := by rw [Lib.cell_of_heap hb2]; rfl
      have c2 : wr.cell? ⟨b, 2, none⟩ = some v := by rw [Lib.cell_of_heap hb2]; rfl
      have f1 : wr.frozen? ⟨b, 1, none⟩ = false := Lib.frozen_of_heap hb2 1
      have HB2 := Lib.hid hb2
      have HO2 := Lib.hid hown2
      have HBL := Lib.hid hbl2
      have HNX := Lib.hid hnx
      have hsb := hbl2.size
      clear hb2 hown2 hbl2 hnx
      by_cases he : e' = 0
      · subst he
        by_cases hlt : k < n
        · obtain ⟨n2, sz2, er2, hrd2⟩ : ∃ n2 sz2 er2, Codes.rd (tb s') = (n2, sz2, er2) := ⟨_, _, _, rfl⟩
          have hpos : er2 = .ok → 0 < sz2 ∧ sz2 ≤ s'.size := fun h => by subst h; have := Codes.rd_ok hrd2; rw [tb_len] at this; exact ⟨this.1, this.2.1⟩
          have HR2 := Lib.hid hrd2
          have HP2 := Lib.hid hpos
          clear hrd2 hpos
          go_wp2_with fail
          refine (hX b s' v ls wr n2 sz2 er2 HB2.out HO2.out (by omega) (by omega) HR2.out).mono ?_
          rintro e w2 ⟨rfl, s2, e2, v2, ls2, htook, hsz2, hb2, hown2, hbl2⟩
          have HF : Hid (∃ (s' : ByteArray) (e' : Int) (v : Value) (ls : List ByteArray), w2.heap[b]? = some (.cells #[.string s', .int .i64 e', v] 123 (0, 0)) ∧ w2.ownsRow b 9 1 v ls.length (ls.map Value.string) ∧ Below b w w2 ∧ ls.length + s'.size ≤ s.size ∧ Nx n (tb s1) (k + 1) (tb s') (ls.map tb) e') := by
            refine Lib.hid ⟨s2, e2, v2, ls2, hb2, hown2, HBL.out.trans hbl2, ?_, nx_step hlt HNX.out HR2.out htook⟩
            rcases htook with ⟨_, _, q⟩ | ⟨_, _, _, q⟩ | ⟨q0, q1, _, q2, x, _, q3⟩
            · rw [q]; omega
            · rw [q]; omega
            · have := HP2.out q0
              have hz : s2.size = s'.size - sz2 - n2 := by rw [← tb_len, q2, List.length_drop, List.length_drop, tb_len]
              rw [q3]; simp only [List.length_append, List.length_cons, List.length_nil]; omega
          clear htook hsz2 hb2 hown2 hbl2 c0 c1 c2 f1 HB2 HO2 HBL HNX HR2 HP2
          go_wp2
          go_roundw
          case rel => exact ⟨k + 1, by omega, by go_num, HF⟩
          case measure => simp [intOf]; omega
        · have hkn : k = n := by omega
          subst hkn
          have hend : Codes.nexts k (tb s1) = .ok (ls.map tb, tb s') := by
            rcases HNX.out with ⟨_, _, h⟩ | ⟨er', h1, h2, _⟩
            · rw [h, Nat.sub_self]; simp [Codes.nexts]
            · exact absurd h2.symm (errN_ne h1)
          have HEND := Lib.hid hend
          clear hend HNX
          by_cases hempty : tb s' = []
          · have hne : s'.toList.isEmpty = true := by rw [Lib.toList_data]; show (tb s').isEmpty = true; rw [hempty]; rfl
            have HEM := Lib.hid hempty
            clear hempty
            go_wp2
            go_ret2
            refine ⟨HBE.out ▸ HBL.out, .inr ?_⟩
            obtain ⟨ao, cap, hv, hst⟩ := owns_strs HO2.out
            refine ⟨ls, ao, cap, ?_, by rw [← hv]; rfl, hst⟩
            unfold Codes.unpack
            rw [HR.out]
            simp only [← HT.out, HEND.out, HEM.out]
          · have hne : s'.toList.isEmpty = false := by
              rw [Lib.toList_data]
              show (tb s').isEmpty = false
              cases hq : tb s' with
              | nil => exact absurd hq hempty
              | cons _ _ => rfl
            have HEM := Lib.hid hempty
            clear hempty
            have hset : (wr.setCell ⟨b, 1, none⟩ (.int .i64 22)).cell? ⟨b, 1, none⟩ = some (.int .i64 22) := by
              rw [Lib.cell_of_heap (set_block HB2.out 1 _)]; rfl
            go_wp2
            go_region
            all_goals go_wp2
            all_goals go_ret2
            all_goals (
              refine ⟨HBE.out ▸ (HBL.out.setCell (p := ⟨b, 1, none⟩) (Nat.le_refl _) _).drew, .inl ⟨.form, ?_, by simp, rfl⟩⟩
              unfold Codes.unpack
              rw [HR.out]
              simp only [← HT.out, HEND.out]
              cases hq : tb s' with
              | nil => exact absurd hq HEM.out
              | cons _ _ => rfl)
      · have hbad : ∃ er', er' ≠ .ok ∧ e' = errN er' ∧ Codes.nexts n (tb s1) = .error er' := by
          rcases HNX.out with ⟨h, _, _⟩ | h
          · exact absurd h he
          · exact h
        obtain ⟨er', h1, h2, h3⟩ := hbad
        subst h2
        have H3 := Lib.hid h3
        have H1 := Lib.hid h1
        clear h1 h3 HNX
        by_cases hlt : k < n
        all_goals (
          go_wp2
          go_region
          all_goals go_wp2
          all_goals go_ret2
          all_goals (
            refine ⟨HBE.out ▸ HBL.out.drew, .inl ⟨er', ?_, H1.out, rfl⟩⟩
            unfold Codes.unpack
            rw [HR.out]
            simp only [← HT.out, H3.out]))
  · have hz := (Codes.rd_bad HR.out hok).1
    subst hz
    have he := errN_ne hok
    have c1 : w1.cell? ⟨b, 1, none⟩ = some (.int .i64 (errN er)) := by rw [Lib.cell_of_heap hb']; rfl
    have HBL := Lib.hid hbl
    clear hbut hbl HC HB HSZ hb'
    go_wp2_with fail
    refine wp_loop_rounds 1 ?_
    rw [rounds_succ]
    go_wp2
    go_region
    all_goals go_wp2
    all_goals go_ret2
    all_goals (
      refine ⟨HBE.out ▸ HBL.out.drew, .inl ⟨er, ?_, hok, rfl⟩⟩
      unfold Codes.unpack
      rw [HR.out]
      cases er with
      | ok => exact absurd rfl hok
      | short => rfl
      | form => rfl)
end Go.Proofs.YtpjkcfglojigmaaGreatDoor
