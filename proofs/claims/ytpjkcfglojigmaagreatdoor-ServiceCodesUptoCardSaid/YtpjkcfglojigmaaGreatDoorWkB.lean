/- codec.ReadNumber, walked. -/
import Derived.Test.YtpjkcfglojigmaaGreatDoorSpecs
import Derived.Laws.IdiomStrings
import Derived.Laws.Bits64b
namespace Go.Proofs.YtpjkcfglojigmaaGreatDoor
set_option linter.unusedVariables false
set_option linter.unusedSimpArgs false
open Go.RowKit
/-- what is known ahead of a round over the bytes -/
def RInv (L : Codes.B) (k : Nat) (X : Int) : Prop := ∃ acc : Nat, Codes.rd L = Codes.rdF k acc (L.drop k) ∧ acc < 128 ^ k ∧ (k ≤ 9 → X = (acc : Int))
theorem byte_cells (s : ByteArray) (w : World) (cap : Nat) (fr : Nat × Nat) (k : Nat) (h : k < s.size) :
    (w.alloc (.cells (bytesRow s cap) 5 fr)).drew.cell? ⟨w.heap.size, k, none⟩ = some (.int .u8 (((tb s).getD k 0).toNat : Int)) := by
  show (w.alloc _).cell? _ = _
  have h' : k < s.data.size := h
  rw [World.cell?_alloc_mark, bytesRow_at s _ k h']
  have h2 : k < s.data.toList.length := by simpa using h'
  have e : (tb s).getD k 0 = s.data[k] := by
    show s.data.toList.getD k 0 = _
    rw [List.getD_eq_getElem?_getD, List.getElem?_eq_getElem h2]
    simp
  rw [e]
theorem cut_cells (s : ByteArray) (w : World) (cap : Nat) (fr : Nat × Nat) (k : Nat) (h : k < 10) (hs : 10 ≤ s.size) :
    (w.alloc (.cells (bytesRow (s.extract 0 10) cap) 5 fr)).drew.cell? ⟨w.heap.size, k, none⟩ = some (.int .u8 (((tb s).getD k 0).toNat : Int)) := by
  have e : (s.extract 0 10).size = 10 := by rw [← tb_len, tb_ext, List.length_take, List.length_drop, tb_len]; omega
  rw [byte_cells (s.extract 0 10) w cap fr k (by omega)]
  have : (tb (s.extract 0 10)).getD k 0 = (tb s).getD k 0 := by
    rw [tb_ext, List.drop_zero]; simp [List.getD, List.getElem?_take, h]
  rw [this]
theorem or_add (a c k : Nat) (ha : a < 2 ^ k) (hk : a < 18446744073709551616) (hc : c * 2 ^ k < 18446744073709551616) : bits .or .u64 (a : Int) ((c * 2 ^ k : Nat) : Int) = ((a + c * 2 ^ k : Nat) : Int) := by
  have := bits_or_u64_nat a (c * 2 ^ k) hk hc
  rw [this, Nat.or_comm, Nat.mul_comm c, ← Nat.two_pow_add_eq_or_of_lt ha]
  congr 1; omega
theorem pow7 (k : Nat) : 2 ^ (7 * k) = 128 ^ k := by rw [Nat.pow_mul]
theorem or_step (acc c k : Nat) (X : Int) (hX : X = (acc : Int)) (ha : acc < 128 ^ k) (hk : k ≤ 9) (hc : c % 128 * 128 ^ k < 18446744073709551616) :
    bits .or .u64 X (IntKind.u64.wrap ((c : Int) % 128 * 2 ^ (7 * k))) = ((acc + c % 128 * 128 ^ k : Nat) : Int) := by
  have e1 : ((c : Int) % 128 * 2 ^ (7 * k)) = ((c % 128 * 128 ^ k : Nat) : Int) := by
    rw [← pow7]; simp
  have e2 : IntKind.u64.wrap ((c % 128 * 128 ^ k : Nat) : Int) = ((c % 128 * 128 ^ k : Nat) : Int) := by rw [IntKind.wrap_u64]; omega
  have h9 : 128 ^ k ≤ 128 ^ 9 := Nat.pow_le_pow_right (by decide) hk
  rw [e1, e2, hX, ← pow7]
  exact or_add acc (c % 128) (7 * k) (by rw [pow7]; exact ha) (by omega) (by rw [pow7]; exact hc)
theorem drop_at {L : Codes.B} {k : Nat} (h : k < L.length) : L.drop k = L.getD k 0 :: L.drop (k + 1) := by
  rw [List.drop_eq_getElem_cons h]; simp [List.getD, h]
theorem r_more {L : Codes.B} {k c : Nat} {X : Int} (h : RInv L k X) (hk : k < L.length) (hk9 : k ≤ 9) (hc : c = (L.getD k 0).toNat) (h1 : 128 ≤ c) : RInv L (k + 1) (bits .or .u64 X (IntKind.u64.wrap ((c : Int) % 128 * 2 ^ (7 * k)))) := by
  obtain ⟨acc, e1, e2, e3⟩ := h
  have hm : c % 128 * 128 ^ k ≤ 127 * 128 ^ k := Nat.mul_le_mul_right _ (by omega)
  refine ⟨acc + c % 128 * 128 ^ k, ?_, by rw [Nat.pow_succ]; omega, fun h9 => ?_⟩
  · rw [e1, drop_at hk, Codes.rdF, if_pos (by omega), if_pos (by rw [← hc]; exact h1), ← hc]
  · have h8 : 128 ^ k ≤ 128 ^ 8 := Nat.pow_le_pow_right (by decide) (by omega)
    exact or_step acc c k X (e3 hk9) e2 hk9 (by omega)
theorem r_bad {L : Codes.B} {k c : Nat} {X : Int} (h : RInv L k X) (hk : k < L.length) (hk9 : k ≤ 9) (hc : c = (L.getD k 0).toNat) (h1 : c < 128) (h2 : (0 < k ∧ c = 0) ∨ (k = 9 ∧ 1 < c)) : Codes.rd L = (0, 0, .form) := by
  obtain ⟨acc, e1, e2, e3⟩ := h
  rw [e1, drop_at hk, Codes.rdF, if_pos (by omega), if_neg (by rw [← hc]; omega), if_pos (by rw [← hc]; exact h2)]
theorem r_ok {L : Codes.B} {k c : Nat} {X : Int} (h : RInv L k X) (hk : k < L.length) (hk9 : k ≤ 9) (hc : c = (L.getD k 0).toNat) (h1 : c < 128) (h2 : ¬ ((0 < k ∧ c = 0) ∨ (k = 9 ∧ 1 < c))) :
    ∃ m : Nat, Codes.rd L = (m, k + 1, .ok) ∧ bits .or .u64 X (IntKind.u64.wrap ((c : Int) % 128 * 2 ^ (7 * k))) = (m : Int) := by
  obtain ⟨acc, e1, e2, e3⟩ := h
  refine ⟨acc + c % 128 * 128 ^ k, ?_, ?_⟩
  · rw [e1, drop_at hk, Codes.rdF, if_pos (by omega), if_neg (by rw [← hc]; omega), if_neg (by rw [← hc]; exact h2), ← hc]
  · refine or_step acc c k X (e3 hk9) e2 hk9 ?_
    by_cases h9 : k = 9
    · subst h9
      have : c % 128 * 128 ^ 9 ≤ 1 * 128 ^ 9 := Nat.mul_le_mul_right _ (by omega)
      omega
    · have h8 : 128 ^ k ≤ 128 ^ 8 := Nat.pow_le_pow_right (by decide) (by omega)
      have hm : c % 128 * 128 ^ k ≤ 127 * 128 ^ k := Nat.mul_le_mul_right _ (by omega)
      omega
theorem r_short {L : Codes.B} {X : Int} (h : RInv L L.length X) (hl : L.length < 10) : Codes.rd L = (0, 0, .short) := by
  obtain ⟨acc, e1, e2, e3⟩ := h
  rw [e1, List.drop_length, Codes.rdF, if_pos hl]
theorem r_long {L : Codes.B} {X : Int} (h : RInv L 10 X) : Codes.rd L = (0, 0, .form) := by
  obtain ⟨acc, e1, e2, e3⟩ := h
  rw [e1]
  cases L.drop 10 with
  | nil => rfl
  | cons b t => rfl
set_option maxHeartbeats 4000000 in
set_option maxRecDepth 100000 in
theorem read_w : ReadSpec := by
  intro s w n sz er hs hrd
  have hcv := fun w s => run_bytes_of_string (P := Tryz.prog) w 9 37 5 s Tryz.underlying9 Tryz.underlying37 Tryz.underlying5
  have HR := Lib.hid hrd
  have hL := tb_len s
  have HL := Lib.hid hL
  clear hrd hL
  by_cases h10 : s.size ≤ 10
  · have h10' : (s.size : Int) ≤ 10 := by omega
    go_enter Tryz.func30, Tryz.ntmps30
    go_wp2_with fail
    generalize grownCap w (s.size) 0 5 = cap
    have HB : Hid (Below w.heap.size w (w.alloc (Obj.cells (bytesRow s cap) 5 ((bytesRow s cap).size, (bytesRow s cap).size + 1))).drew) := Lib.hid (below_alloc _ _).drew
    have HC : Hid (∀ k, k < s.size → (w.alloc (Obj.cells (bytesRow s cap) 5 ((bytesRow s cap).size, (bytesRow s cap).size + 1))).drew.cell? ⟨w.heap.size, k, none⟩ = some (.int .u8 (((tb s).getD k 0).toNat : Int))) := Lib.hid (fun k h => byte_cells s w cap _ k h)
    clear hcv
    go_loop [5, 15] (fun x i => ∃ (k : Nat) (X : Int), k ≤ s.size ∧ i = .int .i64 k ∧ x = .int .u64 X ∧ Hid (RInv (tb s) k X)) (fun _ i => s.size - (intOf i).toNat)
    case atStart => exact ⟨0, 0, Nat.zero_le _, rfl, rfl, Lib.hid ⟨0, rfl, by decide, fun _ => rfl⟩⟩
    case round =>
      obtain ⟨k, X, hk, rfl, rfl, HI⟩ := hrel
      by_cases hlt : k < s.size
      · have hcell := HC.out k hlt
        have hk9 : k ≤ 9 := by omega
        have hkL : Hid (k < (tb s).length) := Lib.hid (by rw [HL.out]; omega)
        obtain ⟨c, hc⟩ : ∃ c : Nat, c = ((tb s).getD k 0).toNat := ⟨_, rfl⟩
        have hc256 : c < 256 := by rw [hc]; exact UInt8.toNat_lt _
        rw [← hc] at hcell
        have HCC := Lib.hid hc
        clear hc
        by_cases h128 : 128 ≤ c
        · have h128' : (128 : Int) ≤ (c : Int) := by omega
          go_wp2
          go_round
          case rel => exact ⟨k + 1, _, by omega, by go_num, rfl, Lib.hid (r_more HI.out hkL.out hk9 HCC.out h128)⟩
          case measure => simp [intOf]; omega
        · have h128' : ¬ (128 : Int) ≤ (c : Int) := by omega
          by_cases hbad : (0 < k ∧ c = 0) ∨ (k = 9 ∧ 1 < c)
          · have hv := r_bad HI.out hkL.out hk9 HCC.out (by omega) hbad
            rw [HR.out] at hv
            simp only [Prod.mk.injEq] at hv
            obtain ⟨rfl, rfl, rfl⟩ := hv
            rcases hbad with ⟨h0, rfl⟩ | ⟨rfl, h1⟩
            · have h0' : (0 : Int) < (k : Int) := by omega
              go_wp2
              go_ret3
              exact ⟨rfl, HB.out⟩
            · have h1' : (1 : Int) < (c : Int) := by omega
              have h2' : ¬ (c : Int) = 0 := by omega
              go_wp2
              go_ret3
              exact ⟨rfl, HB.out⟩
          · obtain ⟨m, hv, hm⟩ := r_ok HI.out hkL.out hk9 HCC.out (by omega) hbad
            have HM := Lib.hid hm
            rw [HR.out] at hv
            simp only [Prod.mk.injEq] at hv
            obtain ⟨rfl, rfl, rfl⟩ := hv
            clear hm
            rcases (show k = 0 ∨ (0 < k ∧ k < 9 ∧ 0 < c) ∨ (k = 9 ∧ c = 1) by omega) with rfl | ⟨h0, h9, hc0⟩ | ⟨rfl, rfl⟩
            · have e0 : (IntKind.u64.wrap ((c : Int) % 128 * 2 ^ (7 * 0))) = (c : Int) % 128 := by rw [IntKind.wrap_u64, Nat.mul_zero, Int.pow_zero, Int.mul_one]; omega
              have h2 := HM.out
              rw [e0] at h2
              have HM2 := Lib.hid h2
              clear h2 e0
              go_wp2
              go_ret3
              refine ⟨?_, HB.out⟩
              rw [← HM2.out]
              rfl
            · have h0' : (0 : Int) < (k : Int) := by omega
              have h9' : ¬ (k : Int) = 9 := by omega
              have hc' : ¬ (c : Int) = 0 := by omega
              go_wp2
              go_ret3
              refine ⟨?_, HB.out⟩
              rw [← HM.out]
              rfl
            · go_wp2
              go_ret3
              refine ⟨?_, HB.out⟩
              rw [← HM.out]
              rfl
      · have hke : k = s.size := by omega
        subst hke
        by_cases hlen : s.size < 10
        · have hlen' : (s.size : Int) < 10 := by omega
          have hv := r_short (X := X) (by rw [HL.out]; exact HI.out) (by rw [HL.out]; exact hlen)
          rw [HR.out] at hv
          simp only [Prod.mk.injEq] at hv
          obtain ⟨rfl, rfl, rfl⟩ := hv
          go_wp2
          go_ret3
          exact ⟨rfl, HB.out⟩
        · have hs10 : s.size = 10 := by omega
          have hlen' : ¬ (s.size : Int) < 10 := by omega
          have hv := r_long (X := X) (by rw [← hs10]; exact HI.out)
          rw [HR.out] at hv
          simp only [Prod.mk.injEq] at hv
          obtain ⟨rfl, rfl, rfl⟩ := hv
          clear hs10
          go_wp2
          go_ret3
          exact ⟨rfl, HB.out⟩
  · have h10' : ¬ (s.size : Int) ≤ 10 := by omega
    have hmin : min 10 s.size = 10 := by omega
    go_enter Tryz.func30, Tryz.ntmps30
    go_wp2_with fail
    generalize grownCap w (10) 0 5 = cap
    have HB : Hid (Below w.heap.size w (w.alloc (Obj.cells (bytesRow (s.extract 0 10) cap) 5 ((bytesRow (s.extract 0 10) cap).size, (bytesRow (s.extract 0 10) cap).size + 1))).drew) := Lib.hid (below_alloc _ _).drew
    have HC : Hid (∀ k, k < 10 → (w.alloc (Obj.cells (bytesRow (s.extract 0 10) cap) 5 ((bytesRow (s.extract 0 10) cap).size, (bytesRow (s.extract 0 10) cap).size + 1))).drew.cell? ⟨w.heap.size, k, none⟩ = some (.int .u8 (((tb s).getD k 0).toNat : Int))) := Lib.hid (fun k h => cut_cells s w cap _ k h (by omega))
    clear hcv
    go_loop [5, 15] (fun x i => ∃ (k : Nat) (X : Int), k ≤ 10 ∧ i = .int .i64 k ∧ x = .int .u64 X ∧ Hid (RInv (tb s) k X)) (fun _ i => 10 - (intOf i).toNat)
    case atStart => exact ⟨0, 0, Nat.zero_le _, rfl, rfl, Lib.hid ⟨0, rfl, by decide, fun _ => rfl⟩⟩
    case round =>
      obtain ⟨k, X, hk, rfl, rfl, HI⟩ := hrel
      by_cases hlt : k < 10
      · have hcell := HC.out k hlt
        have hk9 : k ≤ 9 := by omega
        have hkL : Hid (k < (tb s).length) := Lib.hid (by rw [HL.out]; omega)
        obtain ⟨c, hc⟩ : ∃ c : Nat, c = ((tb s).getD k 0).toNat := ⟨_, rfl⟩
        have hc256 : c < 256 := by rw [hc]; exact UInt8.toNat_lt _
        rw [← hc] at hcell
        have HCC := Lib.hid hc
        clear hc
        by_cases h128 : 128 ≤ c
        · have h128' : (128 : Int) ≤ (c : Int) := by omega
          go_wp2
          go_round
          case rel => exact ⟨k + 1, _, by omega, by go_num, rfl, Lib.hid (r_more HI.out hkL.out hk9 HCC.out h128)⟩
          case measure => simp [intOf]; omega
        · have h128' : ¬ (128 : Int) ≤ (c : Int) := by omega
          by_cases hbad : (0 < k ∧ c = 0) ∨ (k = 9 ∧ 1 < c)
          · have hv := r_bad HI.out hkL.out hk9 HCC.out (by omega) hbad
            rw [HR.out] at hv
            simp only [Prod.mk.injEq] at hv
            obtain ⟨rfl, rfl, rfl⟩ := hv
            rcases hbad with ⟨h0, rfl⟩ | ⟨rfl, h1⟩
            · have h0' : (0 : Int) < (k : Int) := by omega
              go_wp2
              go_ret3
              exact ⟨rfl, HB.out⟩
            · have h1' : (1 : Int) < (c : Int) := by omega
              have h2' : ¬ (c : Int) = 0 := by omega
              go_wp2
              go_ret3
              exact ⟨rfl, HB.out⟩
          · obtain ⟨m, hv, hm⟩ := r_ok HI.out hkL.out hk9 HCC.out (by omega) hbad
            have HM := Lib.hid hm
            rw [HR.out] at hv
            simp only [Prod.mk.injEq] at hv
            obtain ⟨rfl, rfl, rfl⟩ := hv
            clear hm
            rcases (show k = 0 ∨ (0 < k ∧ k < 9 ∧ 0 < c) ∨ (k = 9 ∧ c = 1) by omega) with rfl | ⟨h0, h9, hc0⟩ | ⟨rfl, rfl⟩
            · have e0 : (IntKind.u64.wrap ((c : Int) % 128 * 2 ^ (7 * 0))) = (c : Int) % 128 := by rw [IntKind.wrap_u64, Nat.mul_zero, Int.pow_zero, Int.mul_one]; omega
              have h2 := HM.out
              rw [e0] at h2
              have HM2 := Lib.hid h2
              clear h2 e0
              go_wp2
              go_ret3
              refine ⟨?_, HB.out⟩
              rw [← HM2.out]
              rfl
            · have h0' : (0 : Int) < (k : Int) := by omega
              have h9' : ¬ (k : Int) = 9 := by omega
              have hc' : ¬ (c : Int) = 0 := by omega
              go_wp2
              go_ret3
              refine ⟨?_, HB.out⟩
              rw [← HM.out]
              rfl
            · go_wp2
              go_ret3
              refine ⟨?_, HB.out⟩
              rw [← HM.out]
              rfl
      · have hke : k = 10 := by omega
        subst hke
        have hlen' : ¬ (s.size : Int) < 10 := by omega
        have hv := r_long HI.out
        rw [HR.out] at hv
        simp only [Prod.mk.injEq] at hv
        obtain ⟨rfl, rfl, rfl⟩ := hv
        go_wp2
        go_ret3
        exact ⟨rfl, HB.out⟩
end Go.Proofs.YtpjkcfglojigmaaGreatDoor
