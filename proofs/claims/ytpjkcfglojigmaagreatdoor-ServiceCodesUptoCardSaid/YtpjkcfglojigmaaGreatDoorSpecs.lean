/- What the functions of the codec, of edits and of the service's commands leave: stated. -/
import Derived.Test.YtpjkcfglojigmaaGreatDoorCodes
import Derived.WalkKit
import Derived.WalkSpells
import Derived.WalkLawsBesides
import Derived.Lib.Hide
import Derived.Lib.Strings
import Derived.Lib.IndexBytes
import Derived.Lib.Builder
import Derived.Test.YtpjkcfglojigmaaGreatDoorProg
namespace Go.Proofs.YtpjkcfglojigmaaGreatDoor
set_option linter.unusedVariables false
set_option linter.unusedSimpArgs false
open Go.RowKit
/-- the bytes of a string, and the string of bytes -/
def tb (s : ByteArray) : Codes.B := s.data.toList
def bs (l : Codes.B) : ByteArray := ⟨l.toArray⟩
theorem tb_bs (l : Codes.B) : tb (bs l) = l := by simp [tb, bs]
theorem bs_tb (s : ByteArray) : bs (tb s) = s := rfl
theorem tb_len (s : ByteArray) : (tb s).length = s.size := (Lib.size_eq s).symm
theorem bs_size (l : Codes.B) : (bs l).size = l.length := by rw [Lib.size_eq]; simp [bs]
theorem tb_inj {s t : ByteArray} (h : tb s = tb t) : s = t := by rw [← bs_tb s, ← bs_tb t, h]
theorem tb_cut (s : ByteArray) (a : Nat) : tb (s.extract a s.size) = (tb s).drop a := Lib.extract_to_end s a
theorem tb_ext (s : ByteArray) (a b : Nat) : tb (s.extract a b) = ((tb s).drop a).take (b - a) := Lib.extract_data s a b
def errN : Codes.E → Int | .ok => 0 | .short => 20 | .form => 22
/-! memory -/
/-- the strings that a slice holds -/
def StrsAt (w : World) (ao : Option Addr) (l : List ByteArray) : Prop :=
  l = [] ∨ ∃ blk off, ao = some ⟨blk, off, none⟩ ∧ blk < w.heap.size ∧ ∀ j (h : j < l.length), w.cell? ⟨blk, off + j, none⟩ = some (.string l[j])
theorem StrsAt.later {w w' : World} {ao : Option Addr} {l : List ByteArray} (h : StrsAt w ao l) (hb : Below w.heap.size w w') : StrsAt w' ao l := by
  rcases h with h | ⟨blk, off, h1, h2, h3⟩
  · exact .inl h
  · exact .inr ⟨blk, off, h1, Nat.lt_of_lt_of_le h2 hb.size, fun j hj => (hb.cell (p := ⟨blk, off + j, none⟩) h2).trans (h3 j hj)⟩
structure EdB where
  kind : Int
  path : ByteArray
  to : ByteArray
  text : ByteArray
def EdB.ed (x : EdB) : Codes.Ed := ⟨x.kind, tb x.path, tb x.to, tb x.text⟩
def EdB.v (x : EdB) : Value := .agg #[.int .i64 x.kind, .string x.path, .string x.to, .string x.text]
def EdB.cells (x : EdB) : List Value := [.int .i64 x.kind, .string x.path, .string x.to, .string x.text]
def edB (x : Codes.Ed) : EdB := ⟨x.kind, bs x.path, bs x.to, bs x.text⟩
theorem ed_edB (x : Codes.Ed) : (edB x).ed = x := by simp [edB, EdB.ed, tb_bs]
/-- the edits that a slice holds -/
def EdsAt (w : World) (ao : Option Addr) (l : List EdB) : Prop :=
  l = [] ∨ ∃ blk off, ao = some ⟨blk, off, none⟩ ∧ blk < w.heap.size ∧ ∀ j (h : j < l.length),
    w.cell? ⟨blk, off + j * 4, none⟩ = some (.int .i64 l[j].kind) ∧ w.cell? ⟨blk, off + j * 4 + 1, none⟩ = some (.string l[j].path) ∧
    w.cell? ⟨blk, off + j * 4 + 2, none⟩ = some (.string l[j].to) ∧ w.cell? ⟨blk, off + j * 4 + 3, none⟩ = some (.string l[j].text)
theorem EdsAt.later {w w' : World} {ao : Option Addr} {l : List EdB} (h : EdsAt w ao l) (hb : Below w.heap.size w w') : EdsAt w' ao l := by
  rcases h with h | ⟨blk, off, h1, h2, h3⟩
  · exact .inl h
  · refine .inr ⟨blk, off, h1, Nat.lt_of_lt_of_le h2 hb.size, fun j hj => ?_⟩
    obtain ⟨k0, k1, k2, k3⟩ := h3 j hj
    exact ⟨(hb.cell (p := ⟨blk, off + j * 4, none⟩) h2).trans k0, (hb.cell (p := ⟨blk, off + j * 4 + 1, none⟩) h2).trans k1, (hb.cell (p := ⟨blk, off + j * 4 + 2, none⟩) h2).trans k2, (hb.cell (p := ⟨blk, off + j * 4 + 3, none⟩) h2).trans k3⟩
/-- a block is as it was, but for a cell that is set -/
theorem set_block {w : World} {b : Nat} {cs : Array Value} {T : TypeId} {fr : Nat × Nat} (h : w.heap[b]? = some (.cells cs T fr)) (k : Nat) (u : Value) :
    (w.setCell ⟨b, k, none⟩ u).heap[b]? = some (.cells (cs.setIfInBounds k u) T fr) := by
  simp only [World.setCell, Array.getElem?_modify, h]
  rfl
/-- only block b is touched -/
abbrev But (b : Nat) (w w' : World) : Prop := w.grownBy w' (some b)
theorem But.of_below {b : Nat} {w w' : World} (h : Below w.heap.size w w') : But b w w' := ⟨h.os, h.tape, h.output, h.size, fun k hk _ => h.block k hk⟩
theorem But.set {b : Nat} {w w' : World} (h : But b w w') (k : Nat) (u : Value) : But b w (w'.setCell ⟨b, k, none⟩ u) :=
  ⟨h.os, h.tape, h.output, by simpa [World.setCell] using h.size, fun j hj hne => by
    rw [Below.heap_setCell _ _ _ _ (fun e => hne (by rw [e]))]; exact h.block j hj hne⟩
theorem But.below {b B : Nat} {w w' : World} (h : But b w w') (hB : B ≤ b) (hw : B ≤ w.heap.size) : Below B w w' :=
  ⟨h.os, h.tape, h.output, h.size, fun k hk => h.block k (by omega) (by simp; omega)⟩
/-- a value that owns strings is a slice that holds them -/
theorem owns_strs {w : World} {B : Nat} {v : Value} {l : List ByteArray} (h : w.ownsRow B 9 1 v l.length (l.map Value.string)) : ∃ ao cap, v = .slice ao l.length cap ∧ StrsAt w ao l := by
  rcases h.2 with ⟨h1, h2⟩ | ⟨g, cap, cur, h1, hB, hg, h3⟩
  · refine ⟨none, 0, ?_, .inl ?_⟩
    · rw [h1, h2]
    · exact List.eq_nil_of_length_eq_zero h2
  · refine ⟨some ⟨g, 0, none⟩, cap, h1, .inr ⟨g, 0, rfl, lt_of_block hg, fun j hj => ?_⟩⟩
    subst h1
    rw [Nat.zero_add, h.cellAt j (by omega)]
    simp [hj]
theorem owns_far {w : World} {B : Nat} {e T : TypeId} {size n b : Nat} {v : Value} {xs : List Value} {cs : Array Value} (h : w.ownsRow B e size v n xs) (hb : w.heap[b]? = some (.cells cs T (0, 0))) (hT : T ≠ e) : v.ownBlock ≠ some b := by
  intro hv
  rcases h.2 with ⟨h1, _⟩ | ⟨g, cap, cur, h1, hB, hg, _⟩
  · rw [h1] at hv; simp [Value.ownBlock] at hv
  · rw [h1] at hv
    simp [Value.ownBlock] at hv
    subst hv
    rw [hg] at hb
    simp at hb
    exact hT hb.2.symm
theorem owns_later {w w' : World} {B : Nat} {e : TypeId} {size n : Nat} {v : Value} {xs : List Value} (h : w.ownsRow B e size v n xs) (hb : Below w.heap.size w w') : w'.ownsRow B e size v n xs :=
  h.kept (row := none) ⟨hb.os, hb.tape, hb.output, hb.size, fun k hk _ => hb.block k hk⟩ (Classical.em _)
theorem below_alloc (w : World) (o : Obj) : Below w.heap.size w (w.alloc o) := (Below.refl _ _).alloc (Nat.le_refl _) _
theorem strs_new (w : World) (l : List ByteArray) : StrsAt (w.alloc (.cells (l.map Value.string).toArray 9)) (some ⟨w.heap.size, 0, none⟩) l := by
  refine .inr ⟨w.heap.size, 0, rfl, by simp, fun j hj => ?_⟩
  rw [Lib.cell_of_heap (heap_alloc_new w _)]
  simp [hj]
/-! what each function leaves -/
def ReadSpec : Prop := ∀ (s : ByteArray) (w : World) (n sz : Nat) (er : Codes.E), s.size < 2 ^ 40 → Codes.rd (tb s) = (n, sz, er) →
  Calls Tryz.prog 30 #[.string s] w fun e w' => e = .returned (.tuple #[.int .u64 (n : Int), .int .i64 (sz : Int), .int .i64 (errN er)]) ∧ Below w.heap.size w w'
def UnsSpec : Prop := ∀ (n : Nat) (w : World), n < 2 ^ 64 → Calls Tryz.prog 31 #[.int .u64 (n : Int)] w fun e w' => e = .returned (.int .i64 (Codes.zag n)) ∧ w' = w
def InNumSpec : Prop := ∀ (b : Nat) (s : ByteArray) (v : Value) (w : World) (n sz : Nat) (er : Codes.E), w.heap[b]? = some (.cells #[.string s, .int .i64 0, v] 123 (0, 0)) → s.size < 2 ^ 40 → Codes.rd (tb s) = (n, sz, er) →
  Calls Tryz.prog 45 #[.pointer (some ⟨b, 0, none⟩)] w fun e w' => e = .returned (.int .u64 (n : Int)) ∧ w'.heap[b]? = some (.cells #[.string (s.extract sz s.size), .int .i64 (errN er), v] 123 (0, 0)) ∧ But b w w'
/-- what a string taken leaves of the unpacker -/
def Took (s : ByteArray) (n sz : Nat) (er : Codes.E) (ls : List ByteArray) (s' : ByteArray) (e' : Int) (ls' : List ByteArray) : Prop :=
  (er ≠ .ok ∧ e' = errN er ∧ ls' = ls) ∨ (er = .ok ∧ s.size - sz < n ∧ e' = 20 ∧ ls' = ls) ∨
  (er = .ok ∧ n ≤ s.size - sz ∧ e' = 0 ∧ tb s' = ((tb s).drop sz).drop n ∧ ∃ x, tb x = ((tb s).drop sz).take n ∧ ls' = ls ++ [x])
def NextSpec : Prop := ∀ (b : Nat) (s : ByteArray) (v : Value) (ls : List ByteArray) (w : World) (n sz : Nat) (er : Codes.E), w.heap[b]? = some (.cells #[.string s, .int .i64 0, v] 123 (0, 0)) → w.ownsRow b 9 1 v ls.length (ls.map Value.string) →
  ls.length < 2 ^ 40 → s.size < 2 ^ 40 → Codes.rd (tb s) = (n, sz, er) →
  Calls Tryz.prog 46 #[.pointer (some ⟨b, 0, none⟩)] w fun e w' => e = .returned (.tuple #[]) ∧ ∃ s' e' v' ls', Took s n sz er ls s' e' ls' ∧ s'.size ≤ s.size ∧
    w'.heap[b]? = some (.cells #[.string s', .int .i64 e', v'] 123 (0, 0)) ∧ w'.ownsRow b 9 1 v' ls'.length (ls'.map Value.string) ∧ Below b w w'
def UnpackSpec : Prop := ∀ (s : ByteArray) (w : World), s.size < 2 ^ 40 → Calls Tryz.prog 28 #[.string s] w fun e w' => Below w.heap.size w w' ∧
  ((∃ er, Codes.unpack (tb s) = .error er ∧ er ≠ .ok ∧ e = .returned (.tuple #[.slice none 0 0, .int .i64 (errN er)])) ∨
   (∃ ls ao cap, Codes.unpack (tb s) = .ok (ls.map tb) ∧ e = .returned (.tuple #[.slice ao ls.length cap, .int .i64 0]) ∧ StrsAt w' ao ls))
def zeroEd : Value := .agg #[.int .i64 0, .string ⟨#[]⟩, .string ⟨#[]⟩, .string ⟨#[]⟩]
def DecESpec : Prop := ∀ (s : ByteArray) (w : World), s.size < 2 ^ 40 → Calls Tryz.prog 47 #[.string s] w fun e w' => Below w.heap.size w w' ∧
  ((∃ er, Codes.decE (tb s) = .error er ∧ er ≠ .ok ∧ e = .returned (.tuple #[zeroEd, .int .i64 (errN er)])) ∨
   (∃ x : EdB, Codes.decE (tb s) = .ok x.ed ∧ e = .returned (.tuple #[x.v, .int .i64 0])))
def DecEsSpec : Prop := ∀ (s : ByteArray) (w : World), s.size < 2 ^ 40 → Calls Tryz.prog 29 #[.string s] w fun e w' => Below w.heap.size w w' ∧
  ((∃ er, Codes.decEs (tb s) = .error er ∧ er ≠ .ok ∧ e = .returned (.tuple #[.slice none 0 0, .int .i64 (errN er)])) ∨
   (∃ l ao cap, Codes.decEs (tb s) = .ok (l.map EdB.ed) ∧ e = .returned (.tuple #[.slice ao l.length cap, .int .i64 0]) ∧ EdsAt w' ao l ∧ ∀ blk off, ao = some ⟨blk, off, none⟩ → w.heap.size ≤ blk))
def SignSpec : Prop := ∀ (n : Int) (_ : Codes.I64 n) (w : World), Calls Tryz.prog 26 #[.int .i64 n] w fun e w' => e = .returned (.int .u64 (Codes.zig n : Int)) ∧ w' = w
section
variable (Q : World → Prop)
def NumSpec : Prop := ∀ (n : Nat) (w : World), n < 2 ^ 64 → Q w → Calls Tryz.prog 25 #[.int .u64 (n : Int)] w fun e w' => e = .returned (.string ⟨(Codes.num n).toArray⟩) ∧ Below w.heap.size w w'
def PackSpec : Prop := ∀ (l : List ByteArray) (ao : Option Addr) (cap : Nat) (w : World), Q w → StrsAt w ao l → l.length < 2 ^ 62 → (Codes.pack (l.map tb)).length ≤ 70368744177664 →
  Calls Tryz.prog 27 #[.slice ao l.length cap] w fun e w' => e = .returned (.string (bs (Codes.pack (l.map tb)))) ∧ Below w.heap.size w w'
def EncEsSpec : Prop := ∀ (l : List EdB) (ao : Option Addr) (cap : Nat) (w : World), Q w → EdsAt w ao l → (∀ x ∈ l, Codes.I64 x.kind) → (Codes.encEs (l.map EdB.ed)).length ≤ 1099511627776 →
  Calls Tryz.prog 24 #[.slice ao l.length cap] w fun e w' => e = .returned (.string (bs (Codes.encEs (l.map EdB.ed)))) ∧ Below w.heap.size w w'
/-- a command as a value -/
structure CmdB where
  kind : Int
  user : ByteArray
  text : ByteArray
  base : Int
  change : Int
  worker : Int
  edits : List EdB
  key : Int
  attempt : Int
  ok : Bool
def CmdB.cmd (c : CmdB) : Codes.Cmd := ⟨c.kind, tb c.user, tb c.text, c.base, c.change, c.worker, c.edits.map EdB.ed, c.key, c.attempt, c.ok⟩
def CmdB.v (c : CmdB) (ao : Option Addr) (cap : Nat) : Value :=
  .agg #[.int .i64 c.kind, .string c.user, .string c.text, .int .i64 c.base, .int .i64 c.change, .int .i64 c.worker, .slice ao c.edits.length cap, .int .i64 c.key, .int .i64 c.attempt, .bool c.ok]
def zeroCmd : Value := .agg #[.int .i64 0, .string ⟨#[]⟩, .string ⟨#[]⟩, .int .i64 0, .int .i64 0, .int .i64 0, .slice none 0 0, .int .i64 0, .int .i64 0, .bool false]
def EncSpec : Prop := ∀ (c : CmdB) (ao : Option Addr) (cap : Nat) (w : World), Q w → EdsAt w ao c.edits → Codes.EncOK c.cmd →
  Calls Tryz.prog 6 #[c.v ao cap] w fun e w' => e = .returned (.string (bs (Codes.enc c.cmd))) ∧ Below w.heap.size w w'
def DecSpec : Prop := ∀ (s : ByteArray) (w : World), Q w → s.size ≤ 2 ^ 32 → Calls Tryz.prog 7 #[.string s] w fun e w' => Below w.heap.size w w' ∧
  ((Codes.dec (tb s) = none ∧ e = .returned (.tuple #[zeroCmd, .int .i64 22])) ∨
   (∃ (c : CmdB) (ao : Option Addr) (cap : Nat), Codes.dec (tb s) = some c.cmd ∧ e = .returned (.tuple #[c.v ao cap, .int .i64 0]) ∧ EdsAt w' ao c.edits))
def DecodedSpec : Prop := ∀ (s : ByteArray) (w : World), Q w → s.size ≤ 2 ^ 32 → Calls Tryz.prog 9 #[.string s] w fun e w' => e = .returned (.bool true) ∧ Below w.heap.size w w'
end
def EqualSpec : Prop := ∀ (l : List EdB) (ao ao' : Option Addr) (cap cap' : Nat) (w : World), l.length < 2 ^ 40 → EdsAt w ao l → EdsAt w ao' l → Calls Tryz.prog 32 #[.slice ao l.length cap, .slice ao' l.length cap'] w fun e w' => e = .returned (.bool true) ∧ Below w.heap.size w w'
def SameSpec : Prop := ∀ (c : CmdB) (ao ao' : Option Addr) (cap cap' : Nat) (w : World), c.edits.length < 2 ^ 40 → EdsAt w ao c.edits → EdsAt w ao' c.edits → Calls Tryz.prog 8 #[c.v ao cap, c.v ao' cap'] w fun e w' => e = .returned (.bool true) ∧ Below w.heap.size w w'
def ModSpec : Prop := ∀ (n : Int) (m : Nat) (w : World), Codes.I64 n → 0 < m → m ≤ 1000 → Calls Tryz.prog 22 #[.int .i64 n, .int .i64 (m : Int)] w fun e w' => (∃ r : Nat, r < m ∧ e = .returned (.int .i64 (r : Int))) ∧ w' = w
def TextSpec : Prop := ∀ (p : ByteArray) (n : Int) (w : World), Codes.I64 n → Calls Tryz.prog 23 #[.string p, .int .i64 n] w fun e w' => (∃ t : ByteArray, t.size ≤ 1000 ∧ e = .returned (.string t)) ∧ Below w.heap.size w w'
def EdSmall (x : EdB) : Prop := Codes.I64 x.kind ∧ x.path.size ≤ 1000 ∧ x.to.size ≤ 1000 ∧ x.text.size ≤ 1000
def EditsSpec : Prop := ∀ (blk cap : Nat) (z : Nat → Int) (w : World), blk < w.heap.size → (∀ j, j < 6 → w.cell? ⟨blk, j, none⟩ = some (.int .i64 (z j)) ∧ Codes.I64 (z j)) →
  Calls Tryz.prog 5 #[.slice (some ⟨blk, 0, none⟩) 2 cap] w fun e w' => Below w.heap.size w w' ∧ ∃ l ao cap', l.length = 2 ∧ (∀ x ∈ l, EdSmall x) ∧ e = .returned (.slice ao l.length cap') ∧ EdsAt w' ao l ∧ ∀ b o, ao = some ⟨b, o, none⟩ → w.heap.size ≤ b
end Go.Proofs.YtpjkcfglojigmaaGreatDoor
