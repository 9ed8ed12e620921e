/- Unsigned, Signed, a number taken, Mod, Equal and Same, walked. -/
import Derived.Test.YtpjkcfglojigmaaGreatDoorSpecs
import Derived.WalkKit
import Derived.WalkSpells
import Derived.WalkLawsBesides
import Derived.Test.YtpjkcfglojigmaaGreatDoorProg
import Derived.Deep.QuietTactic
import Derived.BigQuiet
namespace Go.Proofs.YtpjkcfglojigmaaGreatDoor
set_option linter.unusedVariables false
set_option linter.unusedSimpArgs false
open Go.RowKit
theorem xor_zero_i64 (a : Nat) (h : a < 9223372036854775808) : bits .xor .i64 (a : Int) 0 = (a : Int) := by
  unfold bits
  show IntKind.i64.wrap ((BitVec.ofInt 64 (a : Int) ^^^ BitVec.ofInt 64 0).toNat : Int) = _
  have : (BitVec.ofInt 64 (a : Int) ^^^ BitVec.ofInt 64 0) = BitVec.ofNat 64 a := by simp [BitVec.ofInt_natCast]
  rw [this, BitVec.toNat_ofNat, IntKind.wrap_i64]
  omega
theorem xor_ones_i64 (a : Nat) (h : a < 9223372036854775808) : bits .xor .i64 (a : Int) (-1) = -(a : Int) - 1 := by
  unfold bits
  show IntKind.i64.wrap ((BitVec.ofInt 64 (a : Int) ^^^ BitVec.ofInt 64 (-1)).toNat : Int) = _
  have : (BitVec.ofInt 64 (a : Int) ^^^ BitVec.ofInt 64 (-1)) = ~~~ (BitVec.ofNat 64 a) := by
    have e : BitVec.ofInt 64 (-1) = BitVec.allOnes 64 := by decide
    rw [e, BitVec.xor_allOnes, BitVec.ofInt_natCast]
  rw [this, BitVec.toNat_not, BitVec.toNat_ofNat, IntKind.wrap_i64]
  omega
theorem and_one_u64 (n : Nat) (h : n < 18446744073709551616) : bits .and .u64 (n : Int) 1 = ((n % 2 : Nat) : Int) := by
  have := bits_mask .u64 64 (by decide) (fun x h0 h1 => by rw [IntKind.wrap_u64]; omega) 1 (by decide) (n : Int) (by omega) (by omega)
  simpa using this
theorem zag_bits (n : Nat) (h : n < 18446744073709551616) (a c : Int) (ha : a = ((n / 2 : Nat) : Int)) (hc : c = -((n % 2 : Nat) : Int)) : bits .xor .i64 a c = Codes.zag n := by
  subst ha hc
  unfold Codes.zag
  rcases Nat.mod_two_eq_zero_or_one n with h0 | h0
  · rw [h0, if_pos rfl]
    exact xor_zero_i64 _ (by omega)
  · rw [h0, if_neg (by decide)]
    exact xor_ones_i64 _ (by omega)
set_option maxHeartbeats 1000000 in
set_option maxRecDepth 100000 in
theorem uns_w : UnsSpec := by
  intro n w hn
  go_enter Tryz.func31, Tryz.ntmps31
  go_wp2
  go_ret
  refine ⟨?_, rfl⟩
  have e1 := and_one_u64 n (by omega)
  have hm : n % 2 < 2 := Nat.mod_lt _ (by decide)
  have e2 : wrap64 (-wrap64 (bits BinOp.and IntKind.u64 (↑n) 1)) = -((n % 2 : Nat) : Int) := by
    rw [e1]
    have a1 : wrap64 ((n % 2 : Nat) : Int) = ((n % 2 : Nat) : Int) := by unfold wrap64; omega
    rw [a1]; unfold wrap64; omega
  have e3 := zag_bits n (by omega) ((n : Int) / 2) _ (by omega) e2
  show Ending.returned (.int .i64 _) = _
  rw [e3]
end Go.Proofs.YtpjkcfglojigmaaGreatDoor
namespace Go.Proofs.YtpjkcfglojigmaaGreatDoor
set_option linter.unusedVariables false
set_option linter.unusedSimpArgs false
open Go.RowKit
theorem u64_wrap (x : Int) : IntKind.u64.wrap x = x % 18446744073709551616 := by
  simp [IntKind.wrap, IntKind.bits, IntKind.signed]
theorem zig_bits (n : Int) (h : Codes.I64 n) : bits .xor .u64 (IntKind.u64.wrap (IntKind.u64.wrap n * 2)) (IntKind.u64.wrap (n / 9223372036854775808)) = (Codes.zig n : Int) := by
  obtain ⟨h1, h2⟩ := h
  by_cases hn : 0 ≤ n
  · have e1 : IntKind.u64.wrap (n / 9223372036854775808) = 0 := by rw [u64_wrap]; omega
    have e2 : IntKind.u64.wrap (IntKind.u64.wrap n * 2) = ((2 * n).toNat : Int) := by rw [u64_wrap, u64_wrap]; omega
    have e3 : Codes.zig n = (2 * n).toNat := by unfold Codes.zig; rw [if_pos hn]
    rw [e1, e2, e3]
    generalize hm : (2 * n).toNat = m
    have hm : m < 18446744073709551616 := by omega
    unfold bits
    simp only [u64_wrap]
    show ((BitVec.ofInt 64 (m : Int) ^^^ BitVec.ofInt 64 0).toNat : Int) % _ = _
    have : (BitVec.ofInt 64 (m : Int) ^^^ BitVec.ofInt 64 0) = BitVec.ofNat 64 m := by simp [BitVec.ofInt_natCast]
    rw [this, BitVec.toNat_ofNat]
    omega
  · have e1 : IntKind.u64.wrap (n / 9223372036854775808) = 18446744073709551615 := by rw [u64_wrap]; omega
    have e2 : IntKind.u64.wrap (IntKind.u64.wrap n * 2) = ((18446744073709551616 + 2 * n).toNat : Int) := by rw [u64_wrap, u64_wrap]; omega
    have e3 : Codes.zig n = (-2 * n - 1).toNat := by unfold Codes.zig; rw [if_neg hn]
    rw [e1, e2, e3]
    generalize hm : (18446744073709551616 + 2 * n).toNat = m
    have hm : m < 18446744073709551616 := by omega
    unfold bits
    simp only [u64_wrap]
    show ((BitVec.ofInt 64 (m : Int) ^^^ BitVec.ofInt 64 18446744073709551615).toNat : Int) % _ = _
    have : (BitVec.ofInt 64 (m : Int) ^^^ BitVec.ofInt 64 18446744073709551615) = ~~~ (BitVec.ofNat 64 m) := by
      have e : BitVec.ofInt 64 18446744073709551615 = BitVec.allOnes 64 := by decide
      rw [e, BitVec.xor_allOnes, BitVec.ofInt_natCast]
    rw [this, BitVec.toNat_not, BitVec.toNat_ofNat]
    omega
set_option maxHeartbeats 1000000 in
set_option maxRecDepth 100000 in
theorem signed_calls (n : Int) (h : Codes.I64 n) (w : World) :
    Calls Tryz.prog 26 #[.int .i64 n] w fun e w' => e = .returned (.int .u64 (Codes.zig n : Int)) ∧ w' = w := by
  go_enter Tryz.func26, Tryz.ntmps26
  go_wp2
  go_ret
  refine ⟨?_, rfl⟩
  have e := zig_bits n h
  rw [e]
  rfl
end Go.Proofs.YtpjkcfglojigmaaGreatDoor
namespace Go.Proofs.YtpjkcfglojigmaaGreatDoor
set_option linter.unusedVariables false
set_option linter.unusedSimpArgs false
open Go.RowKit
set_option maxHeartbeats 1000000 in
set_option maxRecDepth 100000 in
theorem inNum_w (hR : ReadSpec) : InNumSpec := by
  intro b s v w n sz er hb hs hrd
  have hlt := lt_of_block hb
  have hsz := (Codes.rd_size hrd).1
  rw [tb_len] at hsz
  have hi0 : (0 : Int) ≤ (sz : Int) := by omega
  have hi1 : (sz : Int) ≤ (s.size : Int) := by omega
  have c0 : w.cell? ⟨b, 0, none⟩ = some (.string s) := by rw [Lib.cell_of_heap hb]; rfl
  have c1 : w.cell? ⟨b, 1, none⟩ = some (.int .i64 0) := by rw [Lib.cell_of_heap hb]; rfl
  have HB := Lib.hid hb
  clear hb
  go_enter Tryz.func45, Tryz.ntmps45
  go_wp2_with fail
  refine (hR s _ n sz er hs hrd).mono ?_
  rintro e w1 ⟨rfl, hb1⟩
  have hb' : w1.heap[b]? = some (.cells #[.string s, .int .i64 0, v] 123 (0, 0)) := (hb1.block b hlt).trans HB.out
  have d0 : w1.cell? ⟨b, 0, none⟩ = some (.string s) := by rw [Lib.cell_of_heap hb']; rfl
  have d1 : w1.cell? ⟨b, 1, none⟩ = some (.int .i64 0) := by rw [Lib.cell_of_heap hb']; rfl
  have f0 : w1.frozen? ⟨b, 0, none⟩ = false := Lib.frozen_of_heap hb' 0
  have f1 : w1.frozen? ⟨b, 1, none⟩ = false := Lib.frozen_of_heap hb' 1
  have HB' := Lib.hid hb'
  have HBl := Lib.hid hb1
  clear c0 c1 hb' hb1
  go_wp2
  go_ret
  refine ⟨rfl, set_block (set_block HB'.out 0 _) 1 _, ((But.of_below HBl.out).set 0 _).set 1 _⟩
end Go.Proofs.YtpjkcfglojigmaaGreatDoor
namespace Go.Proofs.YtpjkcfglojigmaaGreatDoor
set_option linter.unusedVariables false
set_option linter.unusedSimpArgs false
open Go.RowKit
set_option maxHeartbeats 4000000 in
set_option maxRecDepth 100000 in
theorem mod_w : ModSpec := by
  intro n m w hn h0 h1
  have hm : ¬ ((m : Int) = 0) := by omega
  go_enter Tryz.func22, Tryz.ntmps22
  go_wp2
  go_ret
  have h1' : (n.tmod m).natAbs < m := by
    have := Int.natAbs_tmod n m
    rw [this, Int.natAbs_natCast]
    exact Nat.mod_lt _ h0
  have h2 : wrap64 (n.tmod ↑m + ↑m) = n.tmod ↑m + ↑m := by unfold wrap64; omega
  have h3 : 0 ≤ n.tmod ↑m + ↑m := by omega
  obtain ⟨p, hp⟩ := Int.eq_ofNat_of_zero_le h3
  refine ⟨⟨p % m, Nat.mod_lt _ h0, ?_⟩, rfl⟩
  show Ending.returned (.int .i64 ((wrap64 (n.tmod ↑m + ↑m)).tmod ↑m)) = _
  rw [h2, hp, Int.ofNat_tmod]
end Go.Proofs.YtpjkcfglojigmaaGreatDoor
namespace Go.Proofs.YtpjkcfglojigmaaGreatDoor
set_option linter.unusedVariables false
set_option linter.unusedSimpArgs false
open Go.RowKit
set_option maxHeartbeats 4000000 in
set_option maxRecDepth 100000 in
theorem equal_w : EqualSpec := by
  intro l ao ao' cap cap' w hl hA hB
  go_enter Tryz.func32, Tryz.ntmps32
  go_wp2_with fail
  go_loopw [5] (fun i wr => ∃ k : Nat, k ≤ l.length ∧ i = .int .i64 k ∧ Hid (Below w.heap.size w wr)) (fun i _ => l.length - (intOf i).toNat)
  case atStart => exact ⟨0, Nat.zero_le _, rfl, Lib.hid (Below.refl _ _)⟩
  case round =>
    obtain ⟨k, hk, rfl, HW⟩ := hrel
    by_cases hlt : k < l.length
    · rcases hA with h | ⟨blk, off, rfl, hblk, hcells⟩
      · rw [h] at hlt; cases hlt
      rcases hB with h | ⟨blk', off', rfl, hblk', hcells'⟩
      · rw [h] at hlt; cases hlt
      obtain ⟨x, hx⟩ : ∃ x, x = l[k] := ⟨_, rfl⟩
      obtain ⟨e0, e1, e2, e3⟩ := hcells k hlt
      obtain ⟨g0, g1, g2, g3⟩ := hcells' k hlt
      rw [← hx] at e0 e1 e2 e3 g0 g1 g2 g3
      have k0 := (HW.out.cell (p := ⟨blk, off + k * 4, none⟩) hblk).trans e0
      have k1 := (HW.out.cell (p := ⟨blk, off + k * 4 + 1, none⟩) hblk).trans e1
      have k2 := (HW.out.cell (p := ⟨blk, off + k * 4 + 2, none⟩) hblk).trans e2
      have k3 := (HW.out.cell (p := ⟨blk, off + k * 4 + 3, none⟩) hblk).trans e3
      have q0 := (HW.out.cell (p := ⟨blk', off' + k * 4, none⟩) hblk').trans g0
      have q1 := (HW.out.cell (p := ⟨blk', off' + k * 4 + 1, none⟩) hblk').trans g1
      have q2 := (HW.out.cell (p := ⟨blk', off' + k * 4 + 2, none⟩) hblk').trans g2
      have q3 := (HW.out.cell (p := ⟨blk', off' + k * 4 + 3, none⟩) hblk').trans g3
      clear e0 e1 e2 e3 g0 g1 g2 g3 hcells hcells' hx
      have i0 : (0 : Int) ≤ (k : Int) := by omega
      have i1 : (k : Int) < (l.length : Int) := by omega
      go_wp2_with fail
      go_quiet (fail)
      go_wp2
      go_roundw
      case rel => exact ⟨k + 1, by omega, by go_num, Lib.hid ⟨HW.out.os, HW.out.tape, HW.out.output, HW.out.size, HW.out.block⟩⟩
      case measure => simp [intOf]; omega
    · have hke : k = l.length := by omega
      subst hke
      go_wp2
      go_ret
      exact ⟨rfl, HW.out⟩
end Go.Proofs.YtpjkcfglojigmaaGreatDoor
namespace Go.Proofs.YtpjkcfglojigmaaGreatDoor
set_option linter.unusedVariables false
set_option linter.unusedSimpArgs false
open Go.RowKit
theorem alloc2 (w : World) (a b : Obj) : ((w.alloc a).alloc b).heap[w.heap.size + 1]? = some b := by
  have h := heap_alloc_new (w.alloc a) b
  have e : (w.alloc a).heap.size = w.heap.size + 1 := by simp
  rwa [e] at h
set_option maxHeartbeats 4000000 in
set_option maxRecDepth 100000 in
theorem same_w (hE : EqualSpec) : SameSpec := by
  intro c ao ao' cap cap' w hl hA hB
  unfold CmdB.v
  go_enter Tryz.func8, Tryz.ntmps8
  go_wp2_with fail
  have hb1 : ∀ o o' : Obj, Below w.heap.size w ((w.alloc o).alloc o') := fun o o' => (below_alloc w o).alloc (by simp) _
  refine (hE c.edits ao ao' cap cap' _ hl (hA.later (hb1 _ _)) (hB.later (hb1 _ _))).mono ?_
  rintro e w1 ⟨rfl, hbl⟩
  have k1 := (hbl.block w.heap.size (by simp; omega)).trans ((Below.heap_alloc (w.alloc _) _ w.heap.size (by simp)).trans (heap_alloc_new w _))
  have k2 := (hbl.block (w.heap.size + 1) (by simp)).trans (alloc2 w _ _)
  have HBL := Lib.hid ((hb1 _ _).trans (hbl.mono (hb1 _ _).size))
  have hc1 : ∀ j, w1.cell? ⟨w.heap.size, j, none⟩ = (#[.int .i64 c.kind, .string c.user, .string c.text, .int .i64 c.base, .int .i64 c.change, .int .i64 c.worker, .slice ao c.edits.length cap, .int .i64 c.key, .int .i64 c.attempt, .bool c.ok] : Array Value)[j]? := fun j => Lib.cell_of_heap k1 j
  have hc2 : ∀ j, w1.cell? ⟨w.heap.size + 1, j, none⟩ = (#[.int .i64 c.kind, .string c.user, .string c.text, .int .i64 c.base, .int .i64 c.change, .int .i64 c.worker, .slice ao' c.edits.length cap', .int .i64 c.key, .int .i64 c.attempt, .bool c.ok] : Array Value)[j]? := fun j => Lib.cell_of_heap k2 j
  have x0 := hc1 0
  have x1 := hc1 1
  have x2 := hc1 2
  have x3 := hc1 3
  have x4 := hc1 4
  have x5 := hc1 5
  have x7 := hc1 7
  have x8 := hc1 8
  have x9 := hc1 9
  have y0 := hc2 0
  have y1 := hc2 1
  have y2 := hc2 2
  have y3 := hc2 3
  have y4 := hc2 4
  have y5 := hc2 5
  have y7 := hc2 7
  have y8 := hc2 8
  have y9 := hc2 9
  simp at x0 x1 x2 x3 x4 x5 x7 x8 x9 y0 y1 y2 y3 y4 y5 y7 y8 y9
  clear hc1 hc2 k1 k2 hbl hb1 hA hB
  go_wp2_with fail
  go_ret
  exact ⟨rfl, HBL.out⟩
end Go.Proofs.YtpjkcfglojigmaaGreatDoor
