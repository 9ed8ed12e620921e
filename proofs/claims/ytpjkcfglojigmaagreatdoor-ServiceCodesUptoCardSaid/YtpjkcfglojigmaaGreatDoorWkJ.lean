/- The law, walked. -/
import Derived.Test.YtpjkcfglojigmaaGreatDoorSpecs
import Derived.Deep.RegionHeld3
import Derived.Test.YtpjkcfglojigmaaGreatDoorCodes
import Derived.Deep.Cut
import Derived.BigRegion
import Derived.Laws.IdiomStrings
import Derived.Test.YtpjkcfglojigmaaGreatDoorWkB
import Derived.Test.YtpjkcfglojigmaaGreatDoorWkA
import Derived.Test.YtpjkcfglojigmaaGreatDoorWkH
namespace Go.Proofs.YtpjkcfglojigmaaGreatDoor
set_option linter.unusedVariables false
set_option linter.unusedSimpArgs false
open Go.RowKit
/-- the arguments' cells -/
abbrev LawS (bn bt bq : Nat) (n0 n1 n2 n3 n4 n5 : Int) (t0 t1 : ByteArray) (q0 q1 q2 : Int) (w' : World) : Prop :=
  w'.cell? ⟨bn, 0, none⟩ = some (.int .i64 n0) ∧ w'.cell? ⟨bn, 1, none⟩ = some (.int .i64 n1) ∧ w'.cell? ⟨bn, 2, none⟩ = some (.int .i64 n2) ∧ w'.cell? ⟨bn, 3, none⟩ = some (.int .i64 n3) ∧ w'.cell? ⟨bn, 4, none⟩ = some (.int .i64 n4) ∧ w'.cell? ⟨bn, 5, none⟩ = some (.int .i64 n5) ∧ w'.cell? ⟨bt, 0, none⟩ = some (.string t0) ∧ w'.cell? ⟨bt, 1, none⟩ = some (.string t1) ∧ w'.cell? ⟨bq, 0, none⟩ = some (.int .i64 q0) ∧ w'.cell? ⟨bq, 1, none⟩ = some (.int .i64 q1) ∧ w'.cell? ⟨bq, 2, none⟩ = some (.int .i64 q2)
theorem LawS.later {bn bt bq : Nat} {n0 n1 n2 n3 n4 n5 : Int} {t0 t1 : ByteArray} {q0 q1 q2 : Int} {w w' : World} (h : LawS bn bt bq n0 n1 n2 n3 n4 n5 t0 t1 q0 q1 q2 w) (hb : Below w.heap.size w w') : LawS bn bt bq n0 n1 n2 n3 n4 n5 t0 t1 q0 q1 q2 w' := by
  obtain ⟨h1, h2, h3, h4, h5, h6, h7, h8, h9, h10, h11⟩ := h
  have f : ∀ {a : Addr} {v : Value}, w.cell? a = some v → w'.cell? a = some v := fun h => (hb.cell (World.block_lt_of_cell? w _ h)).trans h
  exact ⟨f h1, f h2, f h3, f h4, f h5, f h6, f h7, f h8, f h9, f h10, f h11⟩
theorem LawS.set {bn bt bq : Nat} {n0 n1 n2 n3 n4 n5 : Int} {t0 t1 : ByteArray} {q0 q1 q2 : Int} {w : World} {b : Nat} (h : LawS bn bt bq n0 n1 n2 n3 n4 n5 t0 t1 q0 q1 q2 w) (h1 : ¬ b = bn) (h2 : ¬ b = bt) (h3 : ¬ b = bq) (j : Nat) (u : Value) : LawS bn bt bq n0 n1 n2 n3 n4 n5 t0 t1 q0 q1 q2 (w.setCell ⟨b, j, none⟩ u) := by
  have f : ∀ {c o : Nat} {v : Value}, ¬ b = c → w.cell? ⟨c, o, none⟩ = some v → (w.setCell ⟨b, j, none⟩ u).cell? ⟨c, o, none⟩ = some v := fun hne h => (World.cell?_setCell_far _ _ _ _ hne).trans h
  obtain ⟨k1, k2, k3, k4, k5, k6, k7, k8, k9, k10, k11⟩ := h
  exact ⟨f h1 k1, f h1 k2, f h1 k3, f h1 k4, f h1 k5, f h1 k6, f h2 k7, f h2 k8, f h3 k9, f h3 k10, f h3 k11⟩
theorem LawS.set10 {bn bt bq : Nat} {n0 n1 n2 n3 n4 n5 : Int} {t0 t1 : ByteArray} {q0 q1 q2 : Int} {w : World} {b : Nat} (h : LawS bn bt bq n0 n1 n2 n3 n4 n5 t0 t1 q0 q1 q2 w) (h1 : ¬ b = bn) (h2 : ¬ b = bt) (h3 : ¬ b = bq) (v0 v1 v2 v3 v4 v5 v6 v7 v8 v9 : Value) :
    LawS bn bt bq n0 n1 n2 n3 n4 n5 t0 t1 q0 q1 q2 ((((((((((w.setCell ⟨b, 0, none⟩ v0).setCell ⟨b, 1, none⟩ v1).setCell ⟨b, 2, none⟩ v2).setCell ⟨b, 3, none⟩ v3).setCell ⟨b, 4, none⟩ v4).setCell ⟨b, 5, none⟩ v5).setCell ⟨b, 6, none⟩ v6).setCell ⟨b, 7, none⟩ v7).setCell ⟨b, 8, none⟩ v8).setCell ⟨b, 9, none⟩ v9) :=
  (((((((((h.set h1 h2 h3 0 v0).set h1 h2 h3 1 v1).set h1 h2 h3 2 v2).set h1 h2 h3 3 v3).set h1 h2 h3 4 v4).set h1 h2 h3 5 v5).set h1 h2 h3 6 v6).set h1 h2 h3 7 v7).set h1 h2 h3 8 v8).set h1 h2 h3 9 v9
theorem heap_set10 {w : World} {b : Nat} {T : TypeId} {u0 u1 u2 u3 u4 u5 u6 u7 u8 u9 : Value} (h : w.heap[b]? = some (.cells #[u0, u1, u2, u3, u4, u5, u6, u7, u8, u9] T (0, 0))) (v0 v1 v2 v3 v4 v5 v6 v7 v8 v9 : Value) :
    ((((((((((w.setCell ⟨b, 0, none⟩ v0).setCell ⟨b, 1, none⟩ v1).setCell ⟨b, 2, none⟩ v2).setCell ⟨b, 3, none⟩ v3).setCell ⟨b, 4, none⟩ v4).setCell ⟨b, 5, none⟩ v5).setCell ⟨b, 6, none⟩ v6).setCell ⟨b, 7, none⟩ v7).setCell ⟨b, 8, none⟩ v8).setCell ⟨b, 9, none⟩ v9).heap[b]? = some (.cells #[v0, v1, v2, v3, v4, v5, v6, v7, v8, v9] T (0, 0)) := by
  have e : (((((((((((#[u0, u1, u2, u3, u4, u5, u6, u7, u8, u9]).setIfInBounds 0 v0).setIfInBounds 1 v1).setIfInBounds 2 v2).setIfInBounds 3 v3).setIfInBounds 4 v4).setIfInBounds 5 v5).setIfInBounds 6 v6).setIfInBounds 7 v7).setIfInBounds 8 v8).setIfInBounds 9 v9 : Array Value) = #[v0, v1, v2, v3, v4, v5, v6, v7, v8, v9] := by simp
  rw [← e]
  exact set_block (set_block (set_block (set_block (set_block (set_block (set_block (set_block (set_block (set_block h 0 v0) 1 v1) 2 v2) 3 v3) 4 v4) 5 v5) 6 v6) 7 v7) 8 v8) 9 v9
/-- what is known behind the making of the command -/
def LawR (bn bt bq : Nat) (n0 n1 n2 n3 n4 n5 : Int) (t0 t1 : ByteArray) (q0 q1 q2 : Int) (w wx : World) (b8 : Nat) (ao5 : Option Addr) (cap5 : Nat) (l : List EdB) (okf : Bool) : Prop :=
  Below w.heap.size w wx ∧ LawS bn bt bq n0 n1 n2 n3 n4 n5 t0 t1 q0 q1 q2 wx ∧ EdsAt wx ao5 l ∧ l.length = 2 ∧ (∀ x ∈ l, EdSmall x) ∧
  wx.heap[b8]? = some (.cells #[.int .i64 n0, .string t0, .string t1, .int .i64 n1, .int .i64 n2, .int .i64 n3, .slice ao5 2 cap5, .int .i64 n4, .int .i64 n5, .bool okf] 32 (0, 0))
end Go.Proofs.YtpjkcfglojigmaaGreatDoor
namespace Go.Proofs.YtpjkcfglojigmaaGreatDoor
set_option linter.unusedVariables false
set_option linter.unusedSimpArgs false
open Go.RowKit
theorem edB_inj {x y : EdB} (h : x.ed = y.ed) : x = y := by
  cases x; cases y
  simp only [EdB.ed, Codes.Ed.mk.injEq] at h
  obtain ⟨h1, h2, h3, h4⟩ := h
  rw [h1, tb_inj h2, tb_inj h3, tb_inj h4]
theorem eds_inj : ∀ {l m : List EdB}, l.map EdB.ed = m.map EdB.ed → l = m
  | [], [], _ => rfl
  | [], _ :: _, h => by cases h
  | _ :: _, [], h => by cases h
  | x :: l, y :: m, h => by
    simp only [List.map_cons, List.cons.injEq] at h
    rw [edB_inj h.1, eds_inj h.2]
theorem cmd_inj {c d : CmdB} (h : c.cmd = d.cmd) : c = d := by
  cases c; cases d
  simp only [CmdB.cmd, Codes.Cmd.mk.injEq] at h
  obtain ⟨h1, h2, h3, h4, h5, h6, h7, h8, h9, h10⟩ := h
  rw [h1, tb_inj h2, tb_inj h3, h4, h5, h6, eds_inj h7, h8, h9, h10]
theorem encE_small {x : EdB} (h : EdSmall x) : (Codes.encE x.ed).length ≤ 4000 ∧ Codes.EdOK x.ed := by
  obtain ⟨h1, h2, h3, h4⟩ := h
  have hz := Codes.num_le _ (Codes.zig_lt h1)
  have e1 : (tb x.path).length = x.path.size := tb_len _
  have e2 : (tb x.to).length = x.to.size := tb_len _
  have e3 : (tb x.text).length = x.text.size := tb_len _
  have hp := Codes.pack_le [Codes.num (Codes.zig x.kind), tb x.path, tb x.to, tb x.text] (by simp) (by
    intro t ht
    simp only [List.mem_cons, List.not_mem_nil, or_false] at ht
    rcases ht with rfl | rfl | rfl | rfl <;> omega)
  simp only [List.length_cons, List.length_nil, Codes.tot_cons] at hp
  have h0 : Codes.tot [] = 0 := rfl
  refine ⟨?_, h1, ?_, ?_, ?_⟩
  · show (Codes.pack [Codes.num (Codes.zig x.kind), tb x.path, tb x.to, tb x.text]).length ≤ _
    omega
  · show (tb x.path).length < _; omega
  · show (tb x.to).length < _; omega
  · show (tb x.text).length < _; omega
theorem encEs_small {l : List EdB} (hl : l.length = 2) (h : ∀ x ∈ l, EdSmall x) : (Codes.encEs (l.map EdB.ed)).length ≤ 9000 := by
  rcases l with _ | ⟨x, _ | ⟨y, _ | ⟨z, l⟩⟩⟩ <;> simp at hl
  have h1 := (encE_small (h x (by simp))).1
  have h2 := (encE_small (h y (by simp))).1
  have hp := Codes.pack_le [Codes.encE x.ed, Codes.encE y.ed] (by simp) (by
    intro t ht
    simp only [List.mem_cons, List.not_mem_nil, or_false] at ht
    rcases ht with rfl | rfl <;> omega)
  simp only [List.length_cons, List.length_nil, Codes.tot_cons] at hp
  have h0 : Codes.tot [] = 0 := rfl
  show (Codes.pack [Codes.encE x.ed, Codes.encE y.ed]).length ≤ _
  omega
theorem law_ok {c : CmdB} (hn : ∀ n ∈ Codes.nums c.cmd, Codes.I64 n) (hu : c.user.size ≤ 2 ^ 24) (ht : c.text.size ≤ 2 ^ 24) (hl : c.edits.length = 2) (hs : ∀ x ∈ c.edits, EdSmall x) :
    Codes.EncOK c.cmd ∧ Codes.CmdOK c.cmd ∧ (Codes.enc c.cmd).length ≤ 2 ^ 26 := by
  have he := encEs_small hl hs
  have e1 : c.cmd.user.length = c.user.size := tb_len _
  have e2 : c.cmd.text.length = c.text.size := tb_len _
  have e3 : Codes.encEs c.cmd.edits = Codes.encEs (c.edits.map EdB.ed) := rfl
  have hlen := Codes.enc_le c.cmd hn (by omega) (by omega) (by rw [e3]; omega)
  rw [e3] at hlen
  have hmem : ∀ x ∈ c.cmd.edits, ∃ y ∈ c.edits, y.ed = x := fun x hx => List.mem_map.1 hx
  refine ⟨⟨hn, fun x hx => ?_, by omega⟩, ⟨hn, by omega, by omega, by show (c.edits.map EdB.ed).length < _; rw [List.length_map]; omega, fun x hx => ?_, fun x hx => ?_, by rw [e3]; omega⟩, by omega⟩
  · obtain ⟨y, hy, rfl⟩ := hmem x hx
    exact (hs y hy).1
  · obtain ⟨y, hy, rfl⟩ := hmem x hx
    exact (encE_small (hs y hy)).2
  · obtain ⟨y, hy, rfl⟩ := hmem x hx
    have := (encE_small (hs y hy)).1
    omega
theorem LawR.later {bn bt bq : Nat} {n0 n1 n2 n3 n4 n5 : Int} {t0 t1 : ByteArray} {q0 q1 q2 : Int} {w wx w' : World} {b8 : Nat} {ao5 : Option Addr} {cap5 : Nat} {l : List EdB} {okf : Bool} (h : LawR bn bt bq n0 n1 n2 n3 n4 n5 t0 t1 q0 q1 q2 w wx b8 ao5 cap5 l okf) (hb : Below wx.heap.size wx w') : LawR bn bt bq n0 n1 n2 n3 n4 n5 t0 t1 q0 q1 q2 w w' b8 ao5 cap5 l okf := by
  obtain ⟨h1, h2, h3, h4, h5, h6⟩ := h
  exact ⟨h1.trans (hb.mono h1.size), h2.later hb, h3.later hb, h4, h5, (hb.block b8 (lt_of_block h6)).trans h6⟩
theorem mask_i64 (q : Int) : ∃ m : Nat, bits .and .i64 q 65535 = (m : Int) ∧ m < 65536 := by
  refine ⟨(BitVec.ofInt 64 q &&& BitVec.ofInt 64 65535).toNat, ?_, ?_⟩
  · have h : (BitVec.ofInt 64 q &&& BitVec.ofInt 64 65535).toNat < 65536 := by
      rw [BitVec.toNat_and]
      exact Nat.and_lt_two_pow _ (n := 16) (by decide)
    unfold bits
    show IntKind.i64.wrap (((BitVec.ofInt 64 q &&& BitVec.ofInt 64 65535).toNat : Nat) : Int) = _
    rw [IntKind.wrap_i64]; omega
  · rw [BitVec.toNat_and]
    exact Nat.and_lt_two_pow _ (n := 16) (by decide)
theorem mask_mod (q : Int) (n : Nat) (hn : 0 < n) : ∃ k : Nat, (bits .and .i64 q 65535).tmod (n : Int) = (k : Int) ∧ k < n := by
  obtain ⟨m, hm, _⟩ := mask_i64 q
  exact ⟨m % n, by rw [hm, Int.ofNat_tmod], Nat.mod_lt _ hn⟩
theorem byte_of (x : Int) : ∃ m : UInt8, IntKind.u8.wrap x = (m.toNat : Int) := by
  refine ⟨UInt8.ofNat (x % 256).toNat, ?_⟩
  rw [IntKind.wrap_u8, UInt8.toNat_ofNat']
  omega
set_option maxHeartbeats 8000000 in
set_option maxRecDepth 100000 in
theorem law_w (Q : World → Prop) (hQ : ∀ w w', Q w → Below w.heap.size w w' → Q w') (hSan : ∀ w : World, Q w → Calls Tryz.prog 4 #[] w fun e w' => e = .returned (.bool true) ∧ Below w.heap.size w w')   (hEd : EditsSpec) (hC : EncSpec Q) (hD : DecSpec Q) (hSm : SameSpec) (hX : DecodedSpec Q) (n0 n1 n2 n3 n4 n5 : Int) (t0 t1 : ByteArray) (q0 q1 q2 : Int) (w : World) (hq : Q w) (hn0 : Codes.I64 n0) (hn1 : Codes.I64 n1) (hn2 : Codes.I64 n2) (hn3 : Codes.I64 n3) (hn4 : Codes.I64 n4) (hn5 : Codes.I64 n5)
    (ht0 : t0.size ≤ 2 ^ 24) (ht1 : t1.size ≤ 2 ^ 24) (hq0 : Codes.I64 q0) (hq1 : Codes.I64 q1) (hq2 : Codes.I64 q2) :
    Calls Tryz.prog 3 #[.agg #[.int .i64 n0, .int .i64 n1, .int .i64 n2, .int .i64 n3, .int .i64 n4, .int .i64 n5], .agg #[.string t0, .string t1], .agg #[.int .i64 q0, .int .i64 q1, .int .i64 q2]] w fun e w' => e = .returned (.bool true) ∧ Below w.heap.size w w' := by
  have HQ := Lib.hid hq
  have hb3 : ∀ a b c : Obj, Below w.heap.size w (((w.alloc a).alloc b).alloc c) := fun a b c => ((below_alloc w a).alloc (by simp) b).alloc (by simp; omega) c
  have HB3 := Lib.hid hb3
  clear hq hb3
  go_enter Tryz.func3, Tryz.ntmps3
  go_wp2_with fail
  refine (hSan _ (hQ _ _ HQ.out (HB3.out _ _ _))).mono ?_
  rintro e w1 ⟨rfl, hb1⟩
  have hN := (hb1.block w.heap.size (by simp; omega)).trans ((Below.heap_alloc _ _ w.heap.size (by simp; omega)).trans ((Below.heap_alloc _ _ w.heap.size (by simp)).trans (heap_alloc_new w (.cells #[.int .i64 n0, .int .i64 n1, .int .i64 n2, .int .i64 n3, .int .i64 n4, .int .i64 n5] 22))))
  have hT : w1.heap[w.heap.size + 1]? = some (.cells #[.string t0, .string t1] 23 (0, 0)) := by
    refine (hb1.block (w.heap.size + 1) (by simp)).trans ((Below.heap_alloc _ _ (w.heap.size + 1) (by simp)).trans ?_)
    have h := heap_alloc_new (w.alloc (.cells #[.int .i64 n0, .int .i64 n1, .int .i64 n2, .int .i64 n3, .int .i64 n4, .int .i64 n5] 22)) (.cells #[.string t0, .string t1] 23)
    have e : (w.alloc (.cells #[.int .i64 n0, .int .i64 n1, .int .i64 n2, .int .i64 n3, .int .i64 n4, .int .i64 n5] 22)).heap.size = w.heap.size + 1 := by simp
    rwa [e] at h
  have hG : w1.heap[w.heap.size + 1 + 1]? = some (.cells #[.int .i64 q0, .int .i64 q1, .int .i64 q2] 24 (0, 0)) := by
    refine (hb1.block (w.heap.size + 1 + 1) (by simp)).trans ?_
    have h := heap_alloc_new ((w.alloc (.cells #[.int .i64 n0, .int .i64 n1, .int .i64 n2, .int .i64 n3, .int .i64 n4, .int .i64 n5] 22)).alloc (.cells #[.string t0, .string t1] 23)) (.cells #[.int .i64 q0, .int .i64 q1, .int .i64 q2] 24)
    have e : ((w.alloc (.cells #[.int .i64 n0, .int .i64 n1, .int .i64 n2, .int .i64 n3, .int .i64 n4, .int .i64 n5] 22)).alloc (.cells #[.string t0, .string t1] 23)).heap.size = w.heap.size + 1 + 1 := by simp
    rwa [e] at h
  obtain ⟨bn, hbn⟩ : ∃ bn, bn = w.heap.size := ⟨_, rfl⟩
  obtain ⟨bt, hbt⟩ : ∃ bt, bt = w.heap.size + 1 := ⟨_, rfl⟩
  obtain ⟨bq, hbq⟩ : ∃ bq, bq = w.heap.size + 1 + 1 := ⟨_, rfl⟩
  have hbl := (HB3.out (.cells #[.int .i64 n0, .int .i64 n1, .int .i64 n2, .int .i64 n3, .int .i64 n4, .int .i64 n5] 22) (.cells #[.string t0, .string t1] 23) (.cells #[.int .i64 q0, .int .i64 q1, .int .i64 q2] 24)).trans (hb1.mono (HB3.out _ _ _).size)
  rw [← hbq] at hG
  rw [← hbt] at hT
  rw [← hbn] at hN
  simp only [← hbq]
  simp only [← hbt]
  simp only [← hbn]
  have hwn : w.heap.size ≤ bn := by omega
  have hltn := lt_of_block hN
  have hltt := lt_of_block hT
  have hltq := lt_of_block hG
  have a0 : w1.cell? ⟨bn, 0, none⟩ = some (.int .i64 n0) := by rw [Lib.cell_of_heap hN]; rfl
  have a1 : w1.cell? ⟨bn, 1, none⟩ = some (.int .i64 n1) := by rw [Lib.cell_of_heap hN]; rfl
  have a2 : w1.cell? ⟨bn, 2, none⟩ = some (.int .i64 n2) := by rw [Lib.cell_of_heap hN]; rfl
  have a3 : w1.cell? ⟨bn, 3, none⟩ = some (.int .i64 n3) := by rw [Lib.cell_of_heap hN]; rfl
  have a4 : w1.cell? ⟨bn, 4, none⟩ = some (.int .i64 n4) := by rw [Lib.cell_of_heap hN]; rfl
  have a5 : w1.cell? ⟨bn, 5, none⟩ = some (.int .i64 n5) := by rw [Lib.cell_of_heap hN]; rfl
  have c0 : w1.cell? ⟨bt, 0, none⟩ = some (.string t0) := by rw [Lib.cell_of_heap hT]; rfl
  have c1 : w1.cell? ⟨bt, 1, none⟩ = some (.string t1) := by rw [Lib.cell_of_heap hT]; rfl
  have g0 : w1.cell? ⟨bq, 0, none⟩ = some (.int .i64 q0) := by rw [Lib.cell_of_heap hG]; rfl
  have g1 : w1.cell? ⟨bq, 1, none⟩ = some (.int .i64 q1) := by rw [Lib.cell_of_heap hG]; rfl
  have g2 : w1.cell? ⟨bq, 2, none⟩ = some (.int .i64 q2) := by rw [Lib.cell_of_heap hG]; rfl
  have m0 := World.new_ne w1 ⟨bn, 0, none⟩ a0
  have m1 := World.new_ne w1 ⟨bt, 0, none⟩ c0
  have m2 := World.new_ne w1 ⟨bq, 0, none⟩ g0
  have hE5 : ∀ (wy : World) (blk : Nat), wy.heap[blk]? = some (.cells #[.int .i64 q0, .int .i64 q1, .int .i64 q2, .int .i64 q2, .int .i64 q0, .int .i64 q1] 24 (0, 0)) →
      Calls Tryz.prog 5 #[.slice (some ⟨blk, 0, none⟩) 2 2] wy fun e w' => Below wy.heap.size wy w' ∧ ∃ l ao cap', l.length = 2 ∧ (∀ x ∈ l, EdSmall x) ∧ e = .returned (.slice ao l.length cap') ∧ EdsAt w' ao l ∧ ∀ b o, ao = some ⟨b, o, none⟩ → wy.heap.size ≤ b := fun wy blk h => by
    refine hEd blk 2 (fun j => [q0, q1, q2, q2, q0, q1].getD j 0) wy (lt_of_block h) (fun j hj => ?_)
    rcases (show j = 0 ∨ j = 1 ∨ j = 2 ∨ j = 3 ∨ j = 4 ∨ j = 5 by omega) with rfl | rfl | rfl | rfl | rfl | rfl <;> exact ⟨by rw [Lib.cell_of_heap h]; rfl, by assumption⟩
  have HE5 := Lib.hid hE5
  have HBL := Lib.hid hbl
  have HN := Lib.hid hN
  have HT := Lib.hid hT
  have HG := Lib.hid hG
  have HBN := Lib.hid hbn
  clear hE5 hbl hN hT hG hb1 hbn hbt hbq HB3
  go_wp2_with fail
  go_cut [8] from 14 (fun t8 wx => ∃ (b8 : Nat) (ao5 : Option Addr) (cap5 : Nat) (l : List EdB), t8 = .pointer (some ⟨b8, 0, none⟩) ∧ Hid (LawR bn bt bq n0 n1 n2 n3 n4 n5 t0 t1 q0 q1 q2 w wx b8 ao5 cap5 l (bits BinOp.and IntKind.i64 q2 1 == 1)))
  case first =>
    have hBh : ∀ S Z : Obj, ((w1.alloc S).alloc Z).drew.heap[w1.heap.size + 1]? = some Z := fun S Z => alloc2 w1 S Z
    have hCh : ∀ S Z : Obj, ((w1.alloc Z).alloc S).drew.heap[w1.heap.size]? = some Z := fun S Z => (Below.heap_alloc _ S w1.heap.size (by simp)).trans (heap_alloc_new w1 Z)
    have hBs : ∀ S Z : Obj, w1.heap.size + 1 < ((w1.alloc S).alloc Z).drew.heap.size := fun S Z => by simp
    have hCs : ∀ S Z : Obj, w1.heap.size < ((w1.alloc Z).alloc S).drew.heap.size := fun S Z => by simp; omega
    have hDh : ∀ S : Obj, (w1.alloc S).drew.heap[w1.heap.size]? = some S := fun S => heap_alloc_new w1 S
    have hEh : ∀ Z S : Obj, ((w1.alloc S).alloc Z).drew.heap[w1.heap.size]? = some S := fun Z S => (Below.heap_alloc _ Z w1.heap.size (by simp)).trans (heap_alloc_new w1 S)
    have hFh : ∀ Z S : Obj, ((w1.alloc Z).alloc S).drew.heap[w1.heap.size + 1]? = some S := fun Z S => alloc2 w1 Z S
    have HBh := Lib.hid hBh
    have HCh := Lib.hid hCh
    have HBs := Lib.hid hBs
    have HCs := Lib.hid hCs
    have HDh := Lib.hid hDh
    have HEh := Lib.hid hEh
    have HFh := Lib.hid hFh
    have hsw1 := HBL.out.size
    have HM1 : Hid (∀ o : Obj, Below w.heap.size w (w1.alloc o).drew) := Lib.hid (fun o => (HBL.out.alloc hsw1 o).drew)
    have HM2 : Hid (∀ o p : Obj, Below w.heap.size w ((w1.alloc o).alloc p).drew) := Lib.hid (fun o p => ((HBL.out.alloc hsw1 o).alloc (by simp; omega) p).drew)
    clear hBh hCh hBs hCs hDh hEh hFh
    go_region_held3 (fun w' => w'.cell? ⟨bn, 0, none⟩ = some (.int .i64 n0) ∧ w'.cell? ⟨bn, 1, none⟩ = some (.int .i64 n1) ∧ w'.cell? ⟨bn, 2, none⟩ = some (.int .i64 n2) ∧ w'.cell? ⟨bn, 3, none⟩ = some (.int .i64 n3) ∧ w'.cell? ⟨bn, 4, none⟩ = some (.int .i64 n4) ∧ w'.cell? ⟨bn, 5, none⟩ = some (.int .i64 n5) ∧ w'.cell? ⟨bt, 0, none⟩ = some (.string t0) ∧ w'.cell? ⟨bt, 1, none⟩ = some (.string t1) ∧ w'.cell? ⟨bq, 0, none⟩ = some (.int .i64 q0) ∧ w'.cell? ⟨bq, 1, none⟩ = some (.int .i64 q1) ∧ w'.cell? ⟨bq, 2, none⟩ = some (.int .i64 q2))
      (first
        | with_reducible exact HS5.out
        | with_reducible exact LawS.set10 HS5.out p10 p11 p12 _ _ _ _ _ _ _ _ _ _
        | with_reducible exact LawS.later HS5.out (below_alloc _ _)
        | go_keep)
      (first
        | (go_at_call 5; refine (HE5.out _ _ ?_).mono ?_; (first | with_reducible exact HDh.out _ | with_reducible exact HEh.out _ _ | with_reducible exact HFh.out _ _); rintro e w5 ⟨hb5, l, ao5, cap5, hl2, hsm, rfl, hA5, hnew5⟩; have HS5 : Hid (LawS bn bt bq n0 n1 n2 n3 n4 n5 t0 t1 q0 q1 q2 w5) := LawS.later (by assumption) hb5;
           (first
             | (have HT8 : w5.heap[w1.heap.size + 1]? = some (.cells #[.int .i64 0, .string ⟨#[]⟩, .string ⟨#[]⟩, .int .i64 0, .int .i64 0, .int .i64 0, .slice none 0 0, .int .i64 0, .int .i64 0, .bool false] 32 (0, 0)) := (by with_reducible exact (hb5.block _ (HBs.out _ _)).trans (HBh.out _ _)); have p10 : ¬ w1.heap.size + 1 = bn := (by omega); have p11 : ¬ w1.heap.size + 1 = bt := (by omega); have p12 : ¬ w1.heap.size + 1 = bq := (by omega); obtain ⟨p0, p1, p2, p3, p4, p5, p6, p7, p8, p9, pf⟩ := ten_facts HT8; have HT9 := Lib.hid HT8; clear HT8; have HB5 := Lib.hid ((HM2.out _ _).trans (hb5.mono (HM2.out _ _).size)))
             | (have HT8 : w5.heap[w1.heap.size]? = some (.cells #[.int .i64 0, .string ⟨#[]⟩, .string ⟨#[]⟩, .int .i64 0, .int .i64 0, .int .i64 0, .slice none 0 0, .int .i64 0, .int .i64 0, .bool false] 32 (0, 0)) := (by with_reducible exact (hb5.block _ (HCs.out _ _)).trans (HCh.out _ _)); have p10 : ¬ w1.heap.size = bn := (by omega); have p11 : ¬ w1.heap.size = bt := (by omega); have p12 : ¬ w1.heap.size = bq := (by omega); obtain ⟨p0, p1, p2, p3, p4, p5, p6, p7, p8, p9, pf⟩ := ten_facts HT8; have HT9 := Lib.hid HT8; clear HT8; have HB5 := Lib.hid ((HM2.out _ _).trans (hb5.mono (HM2.out _ _).size)))
             | (have HB5 := Lib.hid ((HM1.out _).trans (hb5.mono (HM1.out _).size))))))
    all_goals go_wp2
    all_goals go_meet
    all_goals first
      | (have hp10 := p10; exact ⟨_, ao5, cap5, l, rfl, Lib.hid ⟨below_set10 (by omega) HB5.out _ _ _ _ _ _ _ _ _ _, LawS.set10 HS5.out p10 p11 p12 _ _ _ _ _ _ _ _ _ _, eds_set10 hA5 (fun bl o h => by have := hnew5 bl o h; simp at this; omega) _ _ _ _ _ _ _ _ _ _, hl2, hsm, heap_set10 HT9.out _ _ _ _ _ _ _ _ _ _⟩⟩)
      | exact ⟨_, ao5, cap5, l, rfl, Lib.hid ⟨HB5.out.alloc HB5.out.size _, LawS.later HS5.out (below_alloc _ _), hA5.later (below_alloc _ _), hl2, hsm, heap_alloc_new w5 _⟩⟩
  case rest =>
    obtain ⟨b8, ao5, cap5, l, rfl, HR⟩ := hcut
    obtain ⟨okf, hokf⟩ : ∃ okf : Bool, okf = (bits BinOp.and IntKind.i64 q2 1 == 1) := ⟨_, rfl⟩
    rw [← hokf] at HR
    obtain ⟨r1, r2, r3, r4, r5, r6⟩ := HR.out
    obtain ⟨ho1, ho2, ho3⟩ := law_ok (c := ⟨n0, t0, t1, n1, n2, n3, l, n4, n5, okf⟩) (by
      intro n hn
      simp only [Codes.nums, CmdB.cmd, List.mem_cons, List.not_mem_nil, or_false] at hn
      rcases hn with rfl | rfl | rfl | rfl | rfl | rfl <;> assumption) ht0 ht1 r4 r5
    have hc := hC ⟨n0, t0, t1, n1, n2, n3, l, n4, n5, okf⟩ ao5 cap5 wc (hQ _ _ HQ.out r1) r3 ho1
    obtain ⟨S, hS⟩ : ∃ S, S = bs (Codes.enc (CmdB.cmd ⟨n0, t0, t1, n1, n2, n3, l, n4, n5, okf⟩)) := ⟨_, rfl⟩
    have htS : tb S = Codes.enc (CmdB.cmd ⟨n0, t0, t1, n1, n2, n3, l, n4, n5, okf⟩) := by rw [hS, tb_bs]
    have hsz : S.size ≤ 2 ^ 26 := by rw [← tb_len, htS]; exact ho3
    have hpos : 0 < S.size := by
      rw [← tb_len, htS]
      have := Codes.pack_ge (Codes.parts (CmdB.cmd ⟨n0, t0, t1, n1, n2, n3, l, n4, n5, okf⟩))
      unfold Codes.enc; omega
    have hde : Codes.dec (tb S) = some (CmdB.cmd ⟨n0, t0, t1, n1, n2, n3, l, n4, n5, okf⟩) := by rw [htS]; exact Codes.dec_enc _ ho2
    rw [← hS] at hc
    have hc2 : Calls Tryz.prog 6 #[.agg #[.int .i64 n0, .string t0, .string t1, .int .i64 n1, .int .i64 n2, .int .i64 n3, .slice ao5 2 cap5, .int .i64 n4, .int .i64 n5, .bool okf]] wc fun e w' => e = .returned (.string S) ∧ Below wc.heap.size wc w' := by
      have h := hc
      unfold CmdB.v at h
      simp only [r4] at h
      exact h
    have HC2 := Lib.hid hc2
    have HDE := Lib.hid hde
    obtain ⟨x0, x1, x2, x3, x4, x5, x6, x7, x8, x9, xf⟩ := ten_facts r6
    clear hc hc2 hde htS hS ho1 ho2 ho3 hokf r1 r2 r3 r4 r5 r6
    go_wp2_with fail
    refine HC2.out.mono ?_
    rintro e w6 ⟨rfl, hb6⟩
    have HR6 := Lib.hid (HR.out.later hb6)
    have HL2 := Lib.hid HR.out.2.2.2.1
    clear hb6 HR x0 x1 x2 x3 x4 x5 x6 x7 x8 x9 xf
    go_wp2_with fail
    refine (hD S w6 (hQ _ _ HQ.out HR6.out.1) (by omega)).mono ?_
    rintro e w7 ⟨hb7, h⟩
    rcases h with ⟨hn, _⟩ | ⟨c', ao7, cap7, hc', rfl, hA7⟩
    · rw [HDE.out] at hn; cases hn
    have hcc := cmd_inj (Option.some.inj (HDE.out.symm.trans hc'))
    subst hcc
    have HR7 := Lib.hid (HR6.out.later hb7)
    have HA7 := Lib.hid hA7
    simp only [CmdB.v, HL2.out]
    have hlq : bq < w7.heap.size := World.block_lt_of_cell? w7 _ HR7.out.2.1.2.2.2.2.2.2.2.2.1
    have v0 : ∀ o p : Obj, ((w7.alloc o).alloc p).cell? ⟨bq, 0, none⟩ = some (.int .i64 q0) := fun o p => (World.cell?_alloc_lt _ _ _ (by simp; omega)).trans ((World.cell?_alloc_lt _ _ _ hlq).trans HR7.out.2.1.2.2.2.2.2.2.2.2.1)
    have v1 : ∀ o p : Obj, ((w7.alloc o).alloc p).cell? ⟨bq, 1, none⟩ = some (.int .i64 q1) := fun o p => (World.cell?_alloc_lt _ _ _ (by simp; omega)).trans ((World.cell?_alloc_lt _ _ _ hlq).trans HR7.out.2.1.2.2.2.2.2.2.2.2.2.1)
    obtain ⟨kk, hkk, hkn⟩ := mask_mod q0 S.size hpos
    have hpos' : (0 : Int) < (S.size : Int) := by omega
    have hk0 : (0 : Int) ≤ (kk : Int) := by omega
    have hk1 : (kk : Int) < (S.size : Int) := by omega
    have hcv := fun w s => run_bytes_of_string (P := Tryz.prog) w 9 37 5 s Tryz.underlying9 Tryz.underlying37 Tryz.underlying5
    clear hb7 hA7 hc' HR6
    go_wp2_with fail
    obtain ⟨w8, hw8⟩ : ∃ w8, w8 = w7.alloc (Obj.cells #[.int .i64 n0, .string t0, .string t1, .int .i64 n1, .int .i64 n2, .int .i64 n3, .slice ao7 2 cap7, .int .i64 n4, .int .i64 n5, .bool okf] 32) := ⟨_, rfl⟩
    rw [← hw8]
    generalize grownCap w8 S.size 0 5 = cap
    have h87 : w8.heap.size = w7.heap.size + 1 := by rw [hw8]; simp
    have hd8 : w8.heap[w7.heap.size]? = some (.cells #[.int .i64 n0, .string t0, .string t1, .int .i64 n1, .int .i64 n2, .int .i64 n3, .slice ao7 2 cap7, .int .i64 n4, .int .i64 n5, .bool okf] 32 (0, 0)) := by rw [hw8]; exact heap_alloc_new w7 _
    have hb78 : Below w7.heap.size w7 w8 := by rw [hw8]; exact below_alloc _ _
    obtain ⟨wB, hwB⟩ : ∃ wB, wB = (w8.alloc (Obj.cells (bytesRow S cap) 5 ((bytesRow S cap).size, (bytesRow S cap).size + 1))).drew := ⟨_, rfl⟩
    have hb8B : Below w8.heap.size w8 wB := by rw [hwB]; exact (below_alloc _ _).drew
    have hbyte : ∀ j, j < S.size → wB.cell? ⟨w8.heap.size, j, none⟩ = some (.int .u8 (((tb S).getD j 0).toNat : Int)) := fun j hj => by rw [hwB]; exact byte_cells S w8 cap _ j hj
    have hfroz : wB.frozen? ⟨w8.heap.size, kk, none⟩ = false := by
      rw [hwB]
      have h := heap_alloc_new w8 (Obj.cells (bytesRow S cap) 5 ((bytesRow S cap).size, (bytesRow S cap).size + 1))
      have hlen : kk < (bytesRow S cap).size := by
        have h1 := bytesRow_at S cap kk hkn
        exact (Array.getElem?_eq_some_iff.1 h1).1
      show (w8.alloc _).frozen? _ = false
      simp only [World.frozen?, h]
      simp
      omega
    rw [← hwB]
    rw [h87] at hbyte hfroz
    have hk := hbyte kk hkn
    have hsB := hb8B.size
    have HRB := Lib.hid ((HR7.out.later hb78).later hb8B)
    have HAB := Lib.hid ((HA7.out.later hb78).later hb8B)
    have hdB := (hb8B.block w7.heap.size (by omega)).trans hd8
    have HDB := Lib.hid hdB
    have HBY := Lib.hid hbyte
    have w1q := HRB.out.2.1.2.2.2.2.2.2.2.2.2.1
    obtain ⟨bb, hbb⟩ : ∃ bb, bb = w7.heap.size + 1 := ⟨_, rfl⟩
    rw [← hbb] at HBY hk hfroz ⊢
    have hq1 : ¬ bq = bb := by omega
    have hq2 : ¬ bb = bq := by omega
    have hbltB : bb < wB.heap.size := World.block_lt_of_cell? wB _ hk
    have HBB := Lib.hid hbb
    have h7B : Below w7.heap.size w7 wB := hb78.trans (hb8B.mono hb78.size)
    have HB7B := Lib.hid h7B
    clear h7B hbb hbyte hdB hd8 hb78 hb8B hw8 hwB v0 v1 hcv h87
    go_region
    all_goals (
      obtain ⟨V, hV⟩ : ∃ V, V = bits BinOp.xor IntKind.u8 (↑((tb S)[kk]?.getD 0).toNat) (wrap64 (1 + bits BinOp.and IntKind.i64 q1 127) % 256) := ⟨_, rfl⟩
      rw [← hV]
      obtain ⟨m, hm⟩ : ∃ m : UInt8, V = (m.toNat : Int) := by rw [hV]; exact byte_of _
      clear hV
      subst hm
      obtain ⟨wC, hwC⟩ : ∃ wC, wC = (wB.setCell ⟨bb, kk, none⟩ (.int .u8 (m.toNat : Int))).drew := ⟨_, rfl⟩
      have h7C : Below w7.heap.size w7 wC := by rw [hwC]; exact (HB7B.out.setCell (p := ⟨bb, kk, none⟩) (by have := HBB.out; show w7.heap.size ≤ bb; omega) _).drew
      have hdC : wC.heap[w7.heap.size]? = some (.cells #[.int .i64 n0, .string t0, .string t1, .int .i64 n1, .int .i64 n2, .int .i64 n3, .slice ao7 2 cap7, .int .i64 n4, .int .i64 n5, .bool okf] 32 (0, 0)) := by
        rw [hwC]
        exact (Below.heap_setCell _ ⟨bb, kk, none⟩ _ _ (by have := HBB.out; show ¬ w7.heap.size = bb; omega)).trans HDB.out
      have hLlen : ((tb S).set kk m).length = S.size := by rw [List.length_set, tb_len]
      have hbyC : ∀ j (hj : j < ((tb S).set kk m).length), wC.cell? ((⟨bb, 0, none⟩ : Addr).add j) = some (.int .u8 (((tb S).set kk m)[j].toNat : Int)) := by
        intro j hj
        rw [Addr.add_lit, Nat.zero_add, hwC]
        show (wB.setCell _ _).cell? _ = _
        have hj' : j < S.size := by rw [← hLlen]; exact hj
        by_cases hjk : j = kk
        · subst hjk
          rw [World.cell?_setCell_same _ _ _ hk]
          simp
        · rw [World.cell?_setCell_other _ _ _ _ (by intro e; simp only [Addr.mk.injEq] at e; omega), HBY.out j hj']
          have hj2 : j < (tb S).length := by rw [tb_len]; exact hj'
          rw [List.getElem_set_ne (by omega)]
          simp [List.getD, hj2]
      rw [← hwC]
      have HRC := Lib.hid (HR7.out.later h7C)
      have HAC := Lib.hid (HA7.out.later h7C)
      have HDC := Lib.hid hdC
      have HYC := Lib.hid hbyC
      have HLL := Lib.hid hLlen
      have hb7C := World.block_lt_of_cell? wC _ (hbyC 0 (by rw [hLlen]; exact hpos))
      obtain ⟨bd, hbd⟩ : ∃ bd, bd = w7.heap.size := ⟨_, rfl⟩
      rw [← hbd] at hdC ⊢
      obtain ⟨x0, x1, x2, x3, x4, x5, x6, x7, x8, x9, xf⟩ := ten_facts HRC.out.2.2.2.2.2
      obtain ⟨y0, y1, y2, y3, y4, y5, y6, y7, y8, y9, yf⟩ := ten_facts hdC
      have hsm := hSm ⟨n0, t0, t1, n1, n2, n3, l, n4, n5, okf⟩ ao5 ao7 cap5 cap7 wC (by show l.length < 2 ^ 40; rw [HL2.out]; decide) HRC.out.2.2.1 HAC.out
      simp only [CmdB.v, HL2.out] at hsm
      have HSM := Lib.hid hsm
      clear hsm hdC hbd hbyC hLlen hwC hk hfroz w1q h7C
      go_wp2_with fail
      refine HSM.out.mono ?_
      rintro e wD ⟨rfl, hbD⟩
      have HRD := Lib.hid (HRC.out.later hbD)
      have hcb : (convert 37 9 (.slice (some ⟨bb, 0, none⟩) S.size cap)).run Tryz.prog wD = .ok (.string (bs ((tb S).set kk m))) wD := by
        have h := run_convert_bytes_back (P := Tryz.prog) wD 37 9 5 ⟨bb, 0, none⟩ cap ((tb S).set kk m) Tryz.underlying37 Tryz.underlying5 Tryz.underlying9 (fun j hj => by
          have h1 := HYC.out j hj
          exact (hbD.cell (World.block_lt_of_cell? wC _ h1)).trans h1)
        rw [HLL.out] at h
        exact h
      clear hbD x0 x1 x2 x3 x4 x5 x6 x7 x8 x9 xf y0 y1 y2 y3 y4 y5 y6 y7 y8 y9 yf
      go_wp2_with fail
      have hx := hX (bs ((tb S).set kk m)) wD (hQ _ _ HQ.out HRD.out.1) (by rw [bs_size, HLL.out]; omega)
      with_reducible refine hx.mono ?_
      clear hx
      rintro e wE ⟨rfl, hbE⟩
      have HRE := Lib.hid (HRD.out.later hbE)
      have hdiv : wrap64 ((S.size : Int).tdiv 2) = ((S.size / 2 : Nat) : Int) := by
        have : (S.size : Int).tdiv 2 = ((S.size / 2 : Nat) : Int) := by rw [Int.ofNat_tdiv]; rfl
        rw [this]; unfold wrap64; omega
      have hd0 : (0 : Int) ≤ ((S.size / 2 : Nat) : Int) := by omega
      have hd1 : ((S.size / 2 : Nat) : Int) ≤ (S.size : Int) := by omega
      clear hbE hcb
      go_wp2_with fail
      have hxs : (S.extract 0 (S.size / 2)).size ≤ 2 ^ 32 := by rw [← tb_len, tb_ext, List.length_take, List.length_drop, tb_len]; omega
      have hx := hX (S.extract 0 (S.size / 2)) wE (hQ _ _ HQ.out HRE.out.1) hxs
      with_reducible refine hx.mono ?_
      clear hx
      rintro e wF ⟨rfl, hbF⟩
      have HRF := Lib.hid (HRE.out.later hbF)
      have hadd : S.size + 1 ≤ 9223372036854775807 := by omega
      clear hbF hxs hdiv hd0 hd1
      go_wp2_with fail
      have hxs : (S ++ ⟨#[120]⟩ : ByteArray).size ≤ 2 ^ 32 := by rw [ByteArray.size_append]; show S.size + 1 ≤ _; omega
      have hx := hX (S ++ ⟨#[120]⟩) wF (hQ _ _ HQ.out HRF.out.1) hxs
      with_reducible refine hx.mono ?_
      clear hx
      rintro e wG ⟨rfl, hbG⟩
      have HRG := Lib.hid (HRF.out.later hbG)
      have c0G : wG.cell? ⟨bt, 0, none⟩ = some (.string t0) := HRG.out.2.1.2.2.2.2.2.2.1
      clear hbG hxs
      go_wp2_with fail
      have hx := hX t0 wG (hQ _ _ HQ.out HRG.out.1) (by omega)
      with_reducible refine hx.mono ?_
      clear hx
      rintro e wH ⟨rfl, hbH⟩
      have HRH := Lib.hid (HRG.out.later hbH)
      clear hbH
      go_wp2
      go_ret
      exact ⟨rfl, HRH.out.1⟩)
end Go.Proofs.YtpjkcfglojigmaaGreatDoor
