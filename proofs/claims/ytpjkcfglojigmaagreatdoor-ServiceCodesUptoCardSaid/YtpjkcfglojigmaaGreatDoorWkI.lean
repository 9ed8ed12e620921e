/- The law's own decoding, and the edits that numbers determine, walked. -/
import Derived.Test.YtpjkcfglojigmaaGreatDoorSpecs
import Derived.Test.YtpjkcfglojigmaaGreatDoorCodes
import Derived.Test.YtpjkcfglojigmaaGreatDoorWkG
import Derived.Test.YtpjkcfglojigmaaGreatDoorWkE
import Derived.Deep.AppendLies
namespace Go.Proofs.YtpjkcfglojigmaaGreatDoor
set_option linter.unusedVariables false
set_option linter.unusedSimpArgs false
open Go.RowKit
set_option maxHeartbeats 8000000 in
set_option maxRecDepth 100000 in
theorem decoded_w (Q : World → Prop) (hQ : ∀ w w', Q w → Below w.heap.size w w' → Q w') (hD : DecSpec Q) (hC : EncSpec Q) : DecodedSpec Q := by
  intro s w hq hs
  have HQ := Lib.hid hq
  clear hq
  go_enter Tryz.func9, Tryz.ntmps9
  go_wp2_with fail
  refine (hD s w HQ.out hs).mono ?_
  rintro e w1 ⟨hb1, h⟩
  have HB := Lib.hid hb1
  clear hb1
  rcases h with ⟨hd, rfl⟩ | ⟨c, ao, cap, hd, rfl, hA⟩
  · unfold zeroCmd
    have HDD := Lib.hid hd
    clear hd
    go_wp2
    go_ret
    exact ⟨rfl, HB.out.alloc HB.out.size _⟩
  · have hfields := Codes.fields_of_dec hd
    have hok := Codes.fields_ok hfields (by rw [tb_len]; exact hs)
    have hcode := Codes.enc_of_dec hd
    have hbs : bs (Codes.enc c.cmd) = s := by rw [hcode, bs_tb]
    have HOK := Lib.hid hok
    have HBS := Lib.hid hbs
    have HA := Lib.hid hA
    clear hd hfields hok hcode hbs hA
    unfold CmdB.v
    have hs1 := HB.out.size
    go_wp2_with fail
    have hbl : ∀ o : Obj, Below w.heap.size w (w1.alloc o) := fun o => HB.out.alloc hs1 o
    have hc := hC c ao cap (w1.alloc (.cells #[.int .i64 c.kind, .string c.user, .string c.text, .int .i64 c.base, .int .i64 c.change, .int .i64 c.worker, .slice ao c.edits.length cap, .int .i64 c.key, .int .i64 c.attempt, .bool c.ok] 32)) (hQ _ _ HQ.out (hbl _)) (HA.out.later (below_alloc _ _)) HOK.out
    rw [HBS.out] at hc
    refine hc.mono ?_
    rintro e w2 ⟨rfl, hb2⟩
    have HF := Lib.hid ((hbl _).trans (hb2.mono (hbl _).size))
    clear hb2 hc hbl
    go_wp2
    go_ret
    exact ⟨rfl, HF.out⟩
end Go.Proofs.YtpjkcfglojigmaaGreatDoor
namespace Go.Proofs.YtpjkcfglojigmaaGreatDoor
set_option linter.unusedVariables false
set_option linter.unusedSimpArgs false
open Go.RowKit
theorem add_le (t l : ByteArray) (k : Nat) (ht : t.size ≤ 100 * k) (hl : l.size ≤ 100) : (t ++ l).size ≤ 100 * (k + 1) := by
  rw [ByteArray.size_append]; omega
theorem wrap_I64 (x : Int) : Codes.I64 (wrap64 x) := by unfold wrap64 Codes.I64; omega
set_option maxHeartbeats 4000000 in
set_option maxRecDepth 100000 in
theorem text_w (hM : ModSpec) : TextSpec := by
  intro p n w hn
  have hbl : ∀ a b c d : Obj, Below w.heap.size w ((((w.alloc a).alloc b).alloc c).alloc d) := fun a b c d => (((below_alloc w a).alloc (by simp) b).alloc (by simp; omega) c).alloc (by simp; omega) d
  have HB := Lib.hid hbl
  have hM5 : ∀ (n : Int) (w : World), Codes.I64 n → Calls Tryz.prog 22 #[.int .i64 n, .int .i64 5] w fun e w' => (∃ r : Nat, r < 5 ∧ e = .returned (.int .i64 (r : Int))) ∧ w' = w := fun n w h => hM n 5 w h (by decide) (by decide)
  have hM4 : ∀ (n : Int) (w : World), Codes.I64 n → Calls Tryz.prog 22 #[.int .i64 n, .int .i64 4] w fun e w' => (∃ r : Nat, r < 4 ∧ e = .returned (.int .i64 (r : Int))) ∧ w' = w := fun n w h => hM n 4 w h (by decide) (by decide)
  have HM5 := Lib.hid hM5
  have HM4 := Lib.hid hM4
  clear hM4 hM5
  clear hbl
  go_enter Tryz.func23, Tryz.ntmps23
  go_wp2_with fail
  all_goals first
    | (with_reducible refine (HM5.out n _ hn).mono ?_
       rintro e w' ⟨⟨r, hr, rfl⟩, rfl⟩
       rcases (show r = 0 ∨ r = 1 ∨ r = 2 ∨ r = 3 ∨ r = 4 by omega) with rfl | rfl | rfl | rfl | rfl <;>
       (go_wp2; go_ret; exact ⟨⟨_, (by decide), rfl⟩, HB.out _ _ _ _⟩))
    | (with_reducible refine (HM4.out n _ hn).mono ?_
       rintro e w' ⟨⟨r, hr, rfl⟩, rfl⟩
       rcases (show r = 0 ∨ r = 1 ∨ r = 2 ∨ r = 3 by omega) with rfl | rfl | rfl | rfl <;>
       (go_wp2; go_ret; exact ⟨⟨_, (by decide), rfl⟩, HB.out _ _ _ _⟩))
    | skip
  have e1 : (p.toList == [66, 85, 73, 76, 68]) = false := by assumption
  have e2 : (p.toList == [108, 105, 98, 47, 66, 85, 73, 76, 68]) = false := by assumption
  have e3 : (p.toList == [79, 87, 78, 69, 82, 83]) = false := by assumption
  simp only [e1, e2, e3, List.append_eq, List.cons_append, List.nil_append]
  go_loop [1, 10, 11] (fun m o i => ∃ (k : Nat) (n' : Int) (t : ByteArray), k ≤ 3 ∧ i = .int .i64 k ∧ m = .int .i64 n' ∧ Codes.I64 n' ∧ o = .string t ∧ t.size ≤ 100 * k) (fun _ _ i => 3 - (intOf i).toNat)
  case atStart => exact ⟨0, n, ⟨#[]⟩, by omega, rfl, rfl, hn, rfl, by decide⟩
  case round =>
    obtain ⟨k, n', t, hk, rfl, rfl, hn', rfl, ht⟩ := hrel
    by_cases hlt : k < 3
    · go_wp2_with fail
      with_reducible refine (HM4.out n' _ hn').mono ?_
      rintro e w' ⟨⟨r, hr, rfl⟩, rfl⟩
      have hmax : t.size ≤ 300 := by omega
      rcases (show r = 0 ∨ r = 1 ∨ r = 2 ∨ r = 3 by omega) with rfl | rfl | rfl | rfl <;>
      (go_wp2
       go_round
       case rel => exact ⟨k + 1, _, _, by omega, by go_num, rfl, wrap_I64 _, rfl, add_le t _ k ht (by decide)⟩
       case measure => simp [intOf]; omega)
    · have hk3 : k = 3 := by omega
      subst hk3
      go_wp2
      go_ret
      exact ⟨⟨_, by omega, rfl⟩, HB.out _ _ _ _⟩
end Go.Proofs.YtpjkcfglojigmaaGreatDoor
namespace Go.Proofs.YtpjkcfglojigmaaGreatDoor
set_option linter.unusedVariables false
set_option linter.unusedSimpArgs false
open Go.RowKit
def PathsSpec : Prop := ∀ w : World, Calls Tryz.prog 21 #[] w fun e w' => Below w.heap.size w w' ∧ ∃ (g : Nat) (ps : Array Value), w.heap.size ≤ g ∧ e = .returned (.slice (some ⟨g, 0, none⟩) 8 8) ∧ w'.heap[g]? = some (.cells ps 9 (0, 0)) ∧ ∀ j, j < 8 → ∃ p : ByteArray, p.size ≤ 900 ∧ ps[j]? = some (.string p)
set_option maxHeartbeats 4000000 in
set_option maxRecDepth 100000 in
theorem paths_w : PathsSpec := by
  intro w
  go_enter Tryz.func21, Tryz.ntmps21
  go_wp2
  go_ret
  refine ⟨below_alloc _ _, w.heap.size, _, Nat.le_refl _, rfl, heap_alloc_new w _, fun j hj => ?_⟩
  rcases (show j = 0 ∨ j = 1 ∨ j = 2 ∨ j = 3 ∨ j = 4 ∨ j = 5 ∨ j = 6 ∨ j = 7 by omega) with rfl | rfl | rfl | rfl | rfl | rfl | rfl | rfl <;> exact ⟨_, by decide, rfl⟩
/-- what is known ahead of a round -/
def EdInv (g : Nat) (ps : Array Value) (w wr : World) (o : Value) (k : Nat) : Prop :=
  Below w.heap.size w wr ∧ wr.heap[g]? = some (.cells ps 9 (0, 0)) ∧ ∃ l : List EdB, l.length = k ∧ (∀ x ∈ l, EdSmall x) ∧ wr.ownsRow w.heap.size 66 4 o l.length (cellsOf l)
theorem EdInv.later {g : Nat} {ps : Array Value} {w wr w' : World} {o : Value} {k : Nat} (h : EdInv g ps w wr o k) (hb : Below wr.heap.size wr w') : EdInv g ps w w' o k := by
  obtain ⟨h1, h2, l, h3, h4, h5⟩ := h
  exact ⟨h1.trans (hb.mono h1.size), (hb.block g (lt_of_block h2)).trans h2, l, h3, h4, owns_later h5 hb⟩
theorem EdInv.set {g : Nat} {ps : Array Value} {w wr : World} {o : Value} {k b : Nat} (h : EdInv g ps w wr o k) (hb : w.heap.size ≤ b) (hg : g ≠ b) (ho : o.ownBlock ≠ some b) (j : Nat) (u : Value) : EdInv g ps w (wr.setCell ⟨b, j, none⟩ u) o k := by
  obtain ⟨h1, h2, l, h3, h4, h5⟩ := h
  exact ⟨h1.setCell (p := ⟨b, j, none⟩) hb u, (Below.heap_setCell _ ⟨b, j, none⟩ _ _ hg).trans h2, l, h3, h4, ownsRow_setCell_other h5 (a := ⟨b, j, none⟩) ho u⟩
theorem EdInv.next {g : Nat} {ps : Array Value} {w w4 w5 : World} {o v' : Value} {k : Nat} {l : List EdB} {x : EdB} {ob : Obj} (h : EdInv g ps w w4 o k) (hx : EdSmall x) (hl : l.length = k) (hsm : ∀ y ∈ l, EdSmall y)
    (ho : w4.ownsRow w.heap.size 66 4 o l.length (cellsOf l)) (hown : w5.ownsRow w.heap.size 66 4 v' (l.length + 1) (cellsOf l ++ [.int .i64 x.kind, .string x.path, .string x.to, .string x.text])) (hgrow : (w4.alloc ob).grownBy w5 o.ownBlock) : EdInv g ps w w5 v' (k + 1) := by
  obtain ⟨h1, h2, _⟩ := h
  have hfar := owns_far ho h2 (by decide)
  have hlt := lt_of_block h2
  refine ⟨(h1.alloc h1.size _).grown hgrow (by have := h1.size; simp; omega) (fun j hj => (ho.lt j hj).1), (hgrow.block g (by simp; omega) (Ne.symm hfar)).trans ((Below.heap_alloc w4 _ g hlt).trans h2), l ++ [x], by simp [hl], ?_, ?_⟩
  · intro y hy
    rcases List.mem_append.1 hy with hy | hy
    · exact hsm y hy
    · simp only [List.mem_singleton] at hy; subst hy; exact hx
  · rw [cellsOf_snoc]; simpa using hown
set_option maxHeartbeats 4000000 in
set_option maxRecDepth 100000 in
theorem edits_w (hM : ModSpec) (hT : TextSpec) (hP : PathsSpec) : EditsSpec := by
  intro blk cap z w hblk hz
  have hM8 : ∀ (n : Int) (w : World), Codes.I64 n → Calls Tryz.prog 22 #[.int .i64 n, .int .i64 8] w fun e w' => (∃ r : Nat, r < 8 ∧ e = .returned (.int .i64 (r : Int))) ∧ w' = w := fun n w h => hM n 8 w h (by decide) (by decide)
  have hM12 : ∀ (n : Int) (w : World), Codes.I64 n → Calls Tryz.prog 22 #[.int .i64 n, .int .i64 12] w fun e w' => (∃ r : Nat, r < 12 ∧ e = .returned (.int .i64 (r : Int))) ∧ w' = w := fun n w h => hM n 12 w h (by decide) (by decide)
  have HM8 := Lib.hid hM8
  have HM12 := Lib.hid hM12
  have HZ := Lib.hid hz
  clear hM8 hM12 hz
  go_enter Tryz.func5, Tryz.ntmps5
  go_wp2_with fail
  refine (hP w).mono ?_
  rintro e w1 ⟨hb1, g, ps, hg, rfl, hps, hpp⟩
  have HPS : Hid (EdInv g ps w w1 (.slice none 0 0) 0) := Lib.hid ⟨hb1, hps, [], rfl, by simp, World.ownsRow_nil _ _ _ _⟩
  have HPP := Lib.hid hpp
  clear hb1 hps hpp
  go_wp2_with fail
  go_loopw [3, 5] (fun o i wr => ∃ k : Nat, k ≤ 2 ∧ i = .int .i64 k ∧ Hid (EdInv g ps w wr o k)) (fun _ i _ => 2 - (intOf i).toNat)
  case atStart => exact ⟨0, by omega, rfl, HPS⟩
  case round =>
    obtain ⟨k, hk, rfl, HI⟩ := hrel
    clear HPS
    by_cases hlt : k < 2
    · obtain ⟨z0, z1, z2, i0, i1, i2, e0, e1, e2⟩ : ∃ z0 z1 z2 : Int, Codes.I64 z0 ∧ Codes.I64 z1 ∧ Codes.I64 z2 ∧ wr.cell? ⟨blk, k * 3, none⟩ = some (.int .i64 z0) ∧ wr.cell? ⟨blk, k * 3 + 1, none⟩ = some (.int .i64 z1) ∧ wr.cell? ⟨blk, k * 3 + 2, none⟩ = some (.int .i64 z2) :=
        ⟨z (k * 3), z (k * 3 + 1), z (k * 3 + 2), (HZ.out _ (by omega)).2, (HZ.out _ (by omega)).2, (HZ.out _ (by omega)).2,
          (HI.out.1.cell (p := ⟨blk, k * 3, none⟩) hblk).trans (HZ.out _ (by omega)).1, (HI.out.1.cell (p := ⟨blk, k * 3 + 1, none⟩) hblk).trans (HZ.out _ (by omega)).1, (HI.out.1.cell (p := ⟨blk, k * 3 + 2, none⟩) hblk).trans (HZ.out _ (by omega)).1⟩
      go_wp2_with fail
      have hlq := HI.out.1.size
      obtain ⟨wq, hwq⟩ : ∃ wq, wq = wr.alloc (Obj.cells #[Value.int IntKind.i64 z0, Value.int IntKind.i64 z1, Value.int IntKind.i64 z2] 24) := ⟨_, rfl⟩
      obtain ⟨bq, hbq⟩ : ∃ bq, bq = wr.heap.size := ⟨_, rfl⟩
      have hbk : wq.heap[bq]? = some (.cells #[.int .i64 z0, .int .i64 z1, .int .i64 z2] 24 (0, 0)) := by rw [hwq, hbq]; exact heap_alloc_new wr _
      have HQ : Hid (EdInv g ps w wq u3 k) := by rw [hwq]; exact HI.out.later (below_alloc _ _)
      rw [← hwq, ← hbq]
      have q2 : wq.cell? ⟨bq, 2, none⟩ = some (.int .i64 z2) := by rw [Lib.cell_of_heap hbk]; rfl
      have HBK := Lib.hid hbk
      clear hwq hbq hbk HI e0 e1 e2
      with_reducible refine (HM8.out z1 _ i1).mono ?_
      rintro e w' ⟨⟨r, hr, rfl⟩, hw⟩; rw [hw]; clear hw w'
      obtain ⟨p, hpsz, hpr⟩ := HPP.out r hr
      have hpc : wq.cell? ⟨g, r, none⟩ = some (.string p) := by rw [Lib.cell_of_heap HQ.out.2.1]; exact hpr
      have hr0 : (0 : Int) ≤ (r : Int) := by omega
      have hr1 : (r : Int) < 8 := by omega
      clear hpr
      go_wp2_with fail
      refine (hT p z2 wq i2).mono ?_
      rintro e w2 ⟨⟨t, ht, rfl⟩, hb2⟩
      have hlt2 := lt_of_block HBK.out
      have hbk := (hb2.block bq hlt2).trans HBK.out
      have HQ2 := Lib.hid (HQ.out.later hb2)
      have s0 : w2.cell? ⟨bq, 0, none⟩ = some (.int .i64 z0) := by rw [Lib.cell_of_heap hbk]; rfl
      have s2 : w2.cell? ⟨bq, 2, none⟩ = some (.int .i64 z2) := by rw [Lib.cell_of_heap hbk]; rfl
      have HBK2 := Lib.hid hbk
      have s0a : ∀ o : Obj, (w2.alloc o).cell? ⟨bq, 0, none⟩ = some (.int .i64 z0) := fun o => (World.cell?_alloc_lt _ _ _ (lt_of_block HBK2.out)).trans s0
      clear hb2 hbk HQ q2 hpc HBK
      go_wp2_with fail
      obtain ⟨w3, hw3⟩ : ∃ w3, w3 = w2.alloc (Obj.cells #[Value.int IntKind.i64 1, Value.string p, Value.string ⟨#[]⟩, Value.string t] 66) := ⟨_, rfl⟩
      obtain ⟨b8, hb8⟩ : ∃ b8, b8 = w2.heap.size := ⟨_, rfl⟩
      have hbk : w3.heap[b8]? = some (.cells #[.int .i64 1, .string p, .string ⟨#[]⟩, .string t] 66 (0, 0)) := by rw [hw3, hb8]; exact heap_alloc_new w2 _
      have HQ3 : Hid (EdInv g ps w w3 u3 k) := by rw [hw3]; exact HQ2.out.later (below_alloc _ _)
      have hbq3 : w3.heap[bq]? = some (.cells #[.int .i64 z0, .int .i64 z1, .int .i64 z2] 24 (0, 0)) := by rw [hw3]; exact (Below.heap_alloc w2 _ bq (lt_of_block HBK2.out)).trans HBK2.out
      have hgb8 : g ≠ b8 := by have := lt_of_block HQ2.out.2.1; omega
      have hob8 : u3.ownBlock ≠ some b8 := by
        obtain ⟨_, _, l, _, _, ho⟩ := HQ2.out
        intro h
        have := (ho.lt b8 h).2
        omega
      have hwb8 : w.heap.size ≤ b8 := by rw [hb8]; exact HQ2.out.1.size
      have hlt8 := lt_of_block hbk
      rw [← hw3, ← hb8]
      have y0 : w3.cell? ⟨bq, 0, none⟩ = some (.int .i64 z0) := by rw [Lib.cell_of_heap hbq3]; rfl
      have y2 : w3.cell? ⟨bq, 2, none⟩ = some (.int .i64 z2) := by rw [Lib.cell_of_heap hbq3]; rfl
      have d0 : w3.cell? ⟨b8, 0, none⟩ = some (.int .i64 1) := by rw [Lib.cell_of_heap hbk]; rfl
      have d1 : w3.cell? ⟨b8, 1, none⟩ = some (.string p) := by rw [Lib.cell_of_heap hbk]; rfl
      have d2 : w3.cell? ⟨b8, 2, none⟩ = some (.string ⟨#[]⟩) := by rw [Lib.cell_of_heap hbk]; rfl
      have d3 : w3.cell? ⟨b8, 3, none⟩ = some (.string t) := by rw [Lib.cell_of_heap hbk]; rfl
      have f0 : w3.frozen? ⟨b8, 0, none⟩ = false := Lib.frozen_of_heap hbk 0
      have f1 : w3.frozen? ⟨b8, 1, none⟩ = false := Lib.frozen_of_heap hbk 1
      have f2 : w3.frozen? ⟨b8, 2, none⟩ = false := Lib.frozen_of_heap hbk 2
      have f3 : w3.frozen? ⟨b8, 3, none⟩ = false := Lib.frozen_of_heap hbk 3
      have HSET : Hid (∀ a b c d : Value, EdInv g ps w ((((w3.setCell ⟨b8, 0, none⟩ a).setCell ⟨b8, 1, none⟩ b).setCell ⟨b8, 2, none⟩ c).setCell ⟨b8, 3, none⟩ d) u3 k) := Lib.hid (fun a b c d =>
        (((HQ3.out.set hwb8 hgb8 hob8 0 a).set hwb8 hgb8 hob8 1 b).set hwb8 hgb8 hob8 2 c).set hwb8 hgb8 hob8 3 d)
      clear hw3 hb8 hbk hbq3 HQ2 s0 s2 s0a HBK2
      with_reducible refine (HM12.out z0 _ i0).mono ?_
      rintro e w' ⟨⟨r0, hr0', rfl⟩, hw⟩; rw [hw]; clear hw w'
      obtain ⟨t0, hi, hz0, hz1, hz2⟩ := info_parts edInfo
      by_cases h10 : r0 = 10
      · subst h10
        have hx : EdSmall ⟨2, p, ⟨#[]⟩, ⟨#[]⟩⟩ := ⟨by show Codes.I64 2; unfold Codes.I64; omega, by show p.size ≤ 1000; omega, (show (0 : Nat) ≤ 1000 from Nat.zero_le _), (show (0 : Nat) ≤ 1000 from Nat.zero_le _)⟩
        have HE : Hid (EdInv g ps w ((((w3.setCell ⟨b8, 0, none⟩ (.int .i64 2)).setCell ⟨b8, 1, none⟩ (.string p)).setCell ⟨b8, 2, none⟩ (.string ⟨#[]⟩)).setCell ⟨b8, 3, none⟩ (.string ⟨#[]⟩)) u3 k) := Lib.hid (HSET.out _ _ _ _)
        obtain ⟨hb4, hps4, l, hl, hsm, hown⟩ := HE.out
        have HO := Lib.hid hown
        have hs4 : w.heap.size ≤ w3.heap.size := by omega
        have HSM := Lib.hid hsm
        have hl2 : l.length < 2 := by omega
        have HL := Lib.hid hl
        clear hb4 hps4 hown hsm hl
        go_wp2_with (at_builtin; refine wpList_append_own _ rfl (.tmp 58) (.tmp 60) 28 rfl w.heap.size 66 t0 _ 4 56 Tryz.underlying28 hi hz0 hz1 hz2 rfl (by decide) u3 l.length (cellsOf l) rfl (HO.out.alloc _) ⟨w3.heap.size, 0, none⟩ 1 1 [.int .i64 2, .string p, .string ⟨#[]⟩, .string ⟨#[]⟩] rfl rfl ?q1 ?q2 ?q3 ?q4 ?q5 ?_)
        case q1 =>
          intro j u hj
          exact World.news_of_block (cs := #[.int .i64 2, .string p, .string ⟨#[]⟩, .string ⟨#[]⟩]) (t := 66) (fr := (0, 0)) (by have := heap_alloc_new ((((w3.setCell ⟨b8, 0, none⟩ (.int .i64 2)).setCell ⟨b8, 1, none⟩ (.string p)).setCell ⟨b8, 2, none⟩ (.string ⟨#[]⟩)).setCell ⟨b8, 3, none⟩ (.string ⟨#[]⟩)) (.cells #[.int .i64 2, .string p, .string ⟨#[]⟩, .string ⟨#[]⟩] 66); simpa using this) j u hj
        case q2 => intro u hu; simp at hu; rcases hu with rfl | rfl | rfl | rfl <;> rfl
        case q3 => unfold maxLen; omega
        case q4 => omega
        case q5 => simp; omega
        intro v' w5 hown' hgrow _
        have HN := Lib.hid (HE.out.next hx HL.out HSM.out HO.out hown' hgrow)
        clear hown' hgrow
        go_wp2
        go_roundw
        case rel => exact ⟨k + 1, by omega, by go_num, HN⟩
        case measure => simp [intOf]; omega
      · by_cases h11 : r0 = 11
        · subst h11
          go_wp2_with fail
          with_reducible refine (HM8.out z2 _ i2).mono ?_
          rintro e w' ⟨⟨r2, hr2, rfl⟩, hw⟩; rw [hw]; clear hw w'
          obtain ⟨p2, hp2, hpr2⟩ := HPP.out r2 hr2
          have hpc2 : w3.cell? ⟨g, r2, none⟩ = some (.string p2) := by rw [Lib.cell_of_heap HQ3.out.2.1]; exact hpr2
          have hr20 : (0 : Int) ≤ (r2 : Int) := by omega
          have hr21 : (r2 : Int) < 8 := by omega
          clear hpr2
          have hx : EdSmall ⟨3, p, p2 ++ ⟨#[120]⟩, ⟨#[]⟩⟩ := ⟨by show Codes.I64 3; unfold Codes.I64; omega, by show p.size ≤ 1000; omega, by show (p2 ++ ⟨#[120]⟩ : ByteArray).size ≤ 1000; rw [ByteArray.size_append]; show p2.size + 1 ≤ 1000; omega, (show (0 : Nat) ≤ 1000 from Nat.zero_le _)⟩
          have hadd : p2.size + 1 ≤ 9223372036854775807 := by omega
          have HE : Hid (EdInv g ps w ((((w3.setCell ⟨b8, 0, none⟩ (.int .i64 3)).setCell ⟨b8, 1, none⟩ (.string p)).setCell ⟨b8, 2, none⟩ (.string (p2 ++ ⟨#[120]⟩))).setCell ⟨b8, 3, none⟩ (.string ⟨#[]⟩)) u3 k) := Lib.hid (HSET.out _ _ _ _)
          obtain ⟨hb4, hps4, l, hl, hsm, hown⟩ := HE.out
          have HO := Lib.hid hown
          have hs4 : w.heap.size ≤ w3.heap.size := by omega
          have HSM := Lib.hid hsm
          have hl2 : l.length < 2 := by omega
          have HL := Lib.hid hl
          clear hb4 hps4 hown hsm hl
          go_wp2_with (at_builtin; refine wpList_append_own _ rfl (.tmp 58) (.tmp 60) 28 rfl w.heap.size 66 t0 _ 4 56 Tryz.underlying28 hi hz0 hz1 hz2 rfl (by decide) u3 l.length (cellsOf l) rfl (HO.out.alloc _) ⟨w3.heap.size, 0, none⟩ 1 1 [.int .i64 3, .string p, .string (p2 ++ ⟨#[120]⟩), .string ⟨#[]⟩] rfl rfl ?q1 ?q2 ?q3 ?q4 ?q5 ?_)
          case q1 =>
            intro j u hj
            exact World.news_of_block (cs := #[.int .i64 3, .string p, .string (p2 ++ ⟨#[120]⟩), .string ⟨#[]⟩]) (t := 66) (fr := (0, 0)) (by have := heap_alloc_new ((((w3.setCell ⟨b8, 0, none⟩ (.int .i64 3)).setCell ⟨b8, 1, none⟩ (.string p)).setCell ⟨b8, 2, none⟩ (.string (p2 ++ ⟨#[120]⟩))).setCell ⟨b8, 3, none⟩ (.string ⟨#[]⟩)) (.cells #[.int .i64 3, .string p, .string (p2 ++ ⟨#[120]⟩), .string ⟨#[]⟩] 66); simpa using this) j u hj
          case q2 => intro u hu; simp at hu; rcases hu with rfl | rfl | rfl | rfl <;> rfl
          case q3 => unfold maxLen; omega
          case q4 => omega
          case q5 => simp; omega
          intro v' w5 hown' hgrow _
          have HN := Lib.hid (HE.out.next hx HL.out HSM.out HO.out hown' hgrow)
          clear hown' hgrow
          go_wp2
          go_roundw
          case rel => exact ⟨k + 1, by omega, by go_num, HN⟩
          case measure => simp [intOf]; omega
        · have h10' : ¬ (r0 : Int) = 10 := by omega
          have h11' : ¬ (r0 : Int) = 11 := by omega
          have hx : EdSmall ⟨1, p, ⟨#[]⟩, t⟩ := ⟨by show Codes.I64 1; unfold Codes.I64; omega, by show p.size ≤ 1000; omega, (show (0 : Nat) ≤ 1000 from Nat.zero_le _), ht⟩
          have HE : Hid (EdInv g ps w w3 u3 k) := Lib.hid (HQ3.out)
          obtain ⟨hb4, hps4, l, hl, hsm, hown⟩ := HE.out
          have HO := Lib.hid hown
          have hs4 : w.heap.size ≤ w3.heap.size := by omega
          have HSM := Lib.hid hsm
          have hl2 : l.length < 2 := by omega
          have HL := Lib.hid hl
          clear hb4 hps4 hown hsm hl
          go_wp2_with (at_builtin; refine wpList_append_own _ rfl (.tmp 58) (.tmp 60) 28 rfl w.heap.size 66 t0 _ 4 56 Tryz.underlying28 hi hz0 hz1 hz2 rfl (by decide) u3 l.length (cellsOf l) rfl (HO.out.alloc _) ⟨w3.heap.size, 0, none⟩ 1 1 [.int .i64 1, .string p, .string ⟨#[]⟩, .string t] rfl rfl ?q1 ?q2 ?q3 ?q4 ?q5 ?_)
          case q1 =>
            intro j u hj
            exact World.news_of_block (cs := #[.int .i64 1, .string p, .string ⟨#[]⟩, .string t]) (t := 66) (fr := (0, 0)) (by have := heap_alloc_new w3 (.cells #[.int .i64 1, .string p, .string ⟨#[]⟩, .string t] 66); simpa using this) j u hj
          case q2 => intro u hu; simp at hu; rcases hu with rfl | rfl | rfl | rfl <;> rfl
          case q3 => unfold maxLen; omega
          case q4 => omega
          case q5 => simp; omega
          intro v' w5 hown' hgrow _
          have HN := Lib.hid (HE.out.next hx HL.out HSM.out HO.out hown' hgrow)
          clear hown' hgrow
          go_wp2
          go_roundw
          case rel => exact ⟨k + 1, by omega, by go_num, HN⟩
          case measure => simp [intOf]; omega
    · have hk2 : k = 2 := by omega
      subst hk2
      obtain ⟨hb, _, l, hl, hsm, hown⟩ := HI.out
      obtain ⟨ao, cap', hv, hst, hnew⟩ := owns_eds hown
      subst hv
      have HB := Lib.hid hb
      have HST := Lib.hid hst
      have HNEW := Lib.hid hnew
      have HSM := Lib.hid hsm
      have HL := Lib.hid hl
      clear hb hown hst hsm hl hnew HI
      go_wp2
      go_ret
      exact ⟨HB.out, l, ao, cap', HL.out, HSM.out, rfl, HST.out, HNEW.out⟩
end Go.Proofs.YtpjkcfglojigmaaGreatDoor
