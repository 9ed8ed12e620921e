/- An evaluator over abstract values and the proof that what it reckons is what the model's calls do: part 1 of 9. -/
import GoSem.Dispatch
namespace Go.Proofs.YtpjkcfglojigmaaGreatDoor.Ev
set_option linter.unusedVariables false
set_option linter.unusedSimpArgs false
open Go

/-! ## tries -/
inductive T (α : Type) where
  | nil : T α
  | node (v : Option α) (c0 c1 c2 c3 c4 c5 c6 c7 : T α) : T α
def T.val {α : Type} : T α → Option α
  | .nil => none
  | .node v _ _ _ _ _ _ _ _ => v
def T.ch0 {α : Type} : T α → T α
  | .nil => .nil
  | .node _ x _ _ _ _ _ _ _ => x
def T.ch1 {α : Type} : T α → T α
  | .nil => .nil
  | .node _ _ x _ _ _ _ _ _ => x
def T.ch2 {α : Type} : T α → T α
  | .nil => .nil
  | .node _ _ _ x _ _ _ _ _ => x
def T.ch3 {α : Type} : T α → T α
  | .nil => .nil
  | .node _ _ _ _ x _ _ _ _ => x
def T.ch4 {α : Type} : T α → T α
  | .nil => .nil
  | .node _ _ _ _ _ x _ _ _ => x
def T.ch5 {α : Type} : T α → T α
  | .nil => .nil
  | .node _ _ _ _ _ _ x _ _ => x
def T.ch6 {α : Type} : T α → T α
  | .nil => .nil
  | .node _ _ _ _ _ _ _ x _ => x
def T.ch7 {α : Type} : T α → T α
  | .nil => .nil
  | .node _ _ _ _ _ _ _ _ x => x
structure GK (α : Type) where
  get : T α → Option α
def gk0 {α : Type} (g : GK α) : GK α := ⟨fun t => g.get t.ch0⟩
def gk1 {α : Type} (g : GK α) : GK α := ⟨fun t => g.get t.ch1⟩
def gk2 {α : Type} (g : GK α) : GK α := ⟨fun t => g.get t.ch2⟩
def gk3 {α : Type} (g : GK α) : GK α := ⟨fun t => g.get t.ch3⟩
def gk4 {α : Type} (g : GK α) : GK α := ⟨fun t => g.get t.ch4⟩
def gk5 {α : Type} (g : GK α) : GK α := ⟨fun t => g.get t.ch5⟩
def gk6 {α : Type} (g : GK α) : GK α := ⟨fun t => g.get t.ch6⟩
def gk7 {α : Type} (g : GK α) : GK α := ⟨fun t => g.get t.ch7⟩
def gkSel {α : Type} (g : GK α) (k : Nat) : GK α := match k with
  | 0 => gk0 g
  | 1 => gk1 g
  | 2 => gk2 g
  | 3 => gk3 g
  | 4 => gk4 g
  | 5 => gk5 g
  | 6 => gk6 g
  | _ => gk7 g
def gk {α : Type} : Nat → Nat → GK α
  | 0, _ => ⟨fun _ => none⟩
  | d + 1, n => match n with
    | 0 => ⟨T.val⟩
    | k + 1 => gkSel (gk d (Nat.div k 8)) (Nat.mod k 8)
structure SK (α : Type) where
  set : Option α → T α → T α
def setHere {α : Type} (v : Option α) : T α → T α
  | .nil => .node v .nil .nil .nil .nil .nil .nil .nil .nil
  | .node _ c0 c1 c2 c3 c4 c5 c6 c7 => .node v c0 c1 c2 c3 c4 c5 c6 c7
def set0 {α : Type} (s : SK α) (x : Option α) : T α → T α
  | .nil => .node none (s.set x .nil) .nil .nil .nil .nil .nil .nil .nil
  | .node v c0 c1 c2 c3 c4 c5 c6 c7 => .node v (s.set x c0) c1 c2 c3 c4 c5 c6 c7
def set1 {α : Type} (s : SK α) (x : Option α) : T α → T α
  | .nil => .node none .nil (s.set x .nil) .nil .nil .nil .nil .nil .nil
  | .node v c0 c1 c2 c3 c4 c5 c6 c7 => .node v c0 (s.set x c1) c2 c3 c4 c5 c6 c7
def set2 {α : Type} (s : SK α) (x : Option α) : T α → T α
  | .nil => .node none .nil .nil (s.set x .nil) .nil .nil .nil .nil .nil
  | .node v c0 c1 c2 c3 c4 c5 c6 c7 => .node v c0 c1 (s.set x c2) c3 c4 c5 c6 c7
def set3 {α : Type} (s : SK α) (x : Option α) : T α → T α
  | .nil => .node none .nil .nil .nil (s.set x .nil) .nil .nil .nil .nil
  | .node v c0 c1 c2 c3 c4 c5 c6 c7 => .node v c0 c1 c2 (s.set x c3) c4 c5 c6 c7
def set4 {α : Type} (s : SK α) (x : Option α) : T α → T α
  | .nil => .node none .nil .nil .nil .nil (s.set x .nil) .nil .nil .nil
  | .node v c0 c1 c2 c3 c4 c5 c6 c7 => .node v c0 c1 c2 c3 (s.set x c4) c5 c6 c7
def set5 {α : Type} (s : SK α) (x : Option α) : T α → T α
  | .nil => .node none .nil .nil .nil .nil .nil (s.set x .nil) .nil .nil
  | .node v c0 c1 c2 c3 c4 c5 c6 c7 => .node v c0 c1 c2 c3 c4 (s.set x c5) c6 c7
def set6 {α : Type} (s : SK α) (x : Option α) : T α → T α
  | .nil => .node none .nil .nil .nil .nil .nil .nil (s.set x .nil) .nil
  | .node v c0 c1 c2 c3 c4 c5 c6 c7 => .node v c0 c1 c2 c3 c4 c5 (s.set x c6) c7
def set7 {α : Type} (s : SK α) (x : Option α) : T α → T α
  | .nil => .node none .nil .nil .nil .nil .nil .nil .nil (s.set x .nil)
  | .node v c0 c1 c2 c3 c4 c5 c6 c7 => .node v c0 c1 c2 c3 c4 c5 c6 (s.set x c7)
def skSel {α : Type} (s : SK α) (k : Nat) : SK α := match k with
  | 0 => ⟨set0 s⟩
  | 1 => ⟨set1 s⟩
  | 2 => ⟨set2 s⟩
  | 3 => ⟨set3 s⟩
  | 4 => ⟨set4 s⟩
  | 5 => ⟨set5 s⟩
  | 6 => ⟨set6 s⟩
  | _ => ⟨set7 s⟩
def sk {α : Type} : Nat → Nat → SK α
  | 0, _ => ⟨fun _ t => t⟩
  | d + 1, n => match n with
    | 0 => ⟨setHere⟩
    | k + 1 => skSel (sk d (Nat.div k 8)) (Nat.mod k 8)
/-- the greatest depth of a trie -/
def dep : Nat := 16
def T.get {α : Type} (t : T α) (n : Nat) : Option α := (gk dep n).get t
def T.put {α : Type} (t : T α) (n : Nat) (x : α) : T α := (sk dep n).set (some x) t
def T.del {α : Type} (t : T α) (n : Nat) : T α := (sk dep n).set none t
def seqN {α : Type} (n : Nat) (f : Nat → α) : α :=
  match n with
  | 0 => f 0
  | k + 1 => f (Nat.succ k)
def T.putList {α : Type} (n : Nat) : List α → T α → T α
  | [], t => t
  | a :: l, t => seqN (Nat.succ n) fun m => T.putList m l (t.put n a)
def T.ofList {α : Type} (l : List α) : T α := T.putList 0 l .nil

def notB : Bool → Bool
  | true => false
  | false => true
/-! ## packed strings -/
def sLen (s : Nat) : Nat := Nat.div (Nat.log2 s) 8
def sGet (s i : Nat) : Nat := Nat.mod (Nat.shiftRight s (Nat.mul 8 (Nat.sub (Nat.sub (sLen s) 1) i))) 256
def sApp (a b : Nat) : Nat := Nat.add (Nat.shiftLeft a (Nat.mul 8 (sLen b))) (Nat.sub b (Nat.shiftLeft 1 (Nat.mul 8 (sLen b))))
def sSub (s l h : Nat) : Nat := Nat.add (Nat.mod (Nat.shiftRight s (Nat.mul 8 (Nat.sub (sLen s) h))) (Nat.shiftLeft 1 (Nat.mul 8 (Nat.sub h l)))) (Nat.shiftLeft 1 (Nat.mul 8 (Nat.sub h l)))
def sKey (m a : Nat) : Nat := Nat.shiftLeft (Nat.sub a (Nat.shiftLeft 1 (Nat.mul 8 (sLen a)))) (Nat.mul 8 (Nat.sub m (sLen a)))
def maxN (a b : Nat) : Nat := match Nat.ble a b with | true => b | false => a
def minN (a b : Nat) : Nat := match Nat.ble a b with | true => a | false => b
def sLt2 (a b m : Nat) : Bool :=
  match Nat.beq (sKey m a) (sKey m b) with
  | true => Nat.blt (sLen a) (sLen b)
  | false => Nat.blt (sKey m a) (sKey m b)
def sLt (a b : Nat) : Bool := sLt2 a b (maxN (sLen a) (sLen b))
def sOf : Nat → List UInt8 → Nat
  | a, [] => a
  | a, b :: l => sOf (Nat.add (Nat.mul a 256) b.toNat) l
def sOfNats : Nat → List Nat → Nat
  | a, [] => a
  | a, b :: l => sOfNats (Nat.add (Nat.mul a 256) b) l
def sBytesFrom : Nat → Nat → List Nat → List Nat
  | 0, _, acc => acc
  | n + 1, s, acc => sBytesFrom n (Nat.div s 256) (Nat.mod s 256 :: acc)
def sBytes (s : Nat) : List Nat := sBytesFrom (sLen s) s []

/-! ## values, objects -/
inductive AVal where
  | bool (b : Bool)
  | int (k : IntKind) (n : Int)
  | str (n : Nat)
  | nilPtr
  | ptr (id off : Nat)
  | nilSlice
  | slice (id off len : Nat) (lim : Option Nat)
  | nilMap
  | map (r : Nat)
  | func (fn : Fn) (first captured : List AVal)
  | nilFunc
  | iface (t : TypeId) (v : AVal)
  | nilIface
  | agg (cells : List AVal)
  | tuple (vs : List AVal)
  | unk (k : IntKind)
  | unkBool
  | modv (k : IntKind) (m r : Nat)
  | rng (k : IntKind) (lo hi : Option Int)
  | ustr
  | uns (r c : Nat)
  | ulen (r : Nat)
  | umin (r : Nat)
  | cat (p c q : Nat)
  | gr (r j lo hi : Nat)
  | dg (k : IntKind) (r j : Nat) (c : Bool)
  | sdg (r : Nat) (l : List (Nat × Bool))
  | junk
deriving Inhabited
/-- the cells of a value; none where they are not known -/
def AVal.cells : AVal → Option (List AVal)
  | .agg cs => some cs
  | .tuple _ => none
  | .junk => none
  | v => some [v]
def undefA : AVal := .junk
/-- the order in which a region that draws is reckoned: the operations (each with behind how many effects it may stand), and an order for the other edges -/
structure Plan where
  ord : List (Nat × Nat)
  gc : List Nat
/-- what is known of a function: its global temporaries, how many temporaries it has, the plans of its regions that draw -/
structure FI where
  glob : Nat
  nt : Nat
  plans : T Plan
  rnd : Bool
  mks : Nat
structure ALoop where
  state : LoopState
  pending : Option Code
  fi : FI
  tmps : T AVal
  params : List Tmp
  assign : Code
  body : Code
abbrev Ent := AVal × AVal × Nat
/-- a row: cells, its capacity in cells (at least lo, at most hi), the type of its elements -/
inductive AObj where
  | cells (c : T AVal) (lo : Nat) (hi : Option Nat) (et : TypeId)
  | map (es : List Ent) (clock : Nat)
  | mapIter (m : Option Nat) (since : Nat) (seen : List Nat) (last : Nat)
  | strIter (s pos : Nat)
  | loop (l : ALoop)
structure Heap where
  next : Nat
  objs : T AObj
inductive TD where
  | bool | int (k : IntKind) | str
  | ptr (e : TypeId) | slice (e : TypeId) | arr (n : Nat) (e : TypeId) | map (k e : TypeId)
  | struct (fs : List (Nat × TypeId × Bool))
  | func | iface (empty : Bool) | uptr
  | other
structure TI where
  desc : TD
  size : Nat
  agg : Bool
  zero : AVal
  zc : List AVal      -- the zero value's cells
  cmp : Bool          -- comparable
  eqs : Bool          -- a struct whose values are compared field by field
  meths : List (String × List (Nat × Bool) × Option (FuncId × Bool))
inductive AExit where
  | normal | exit (id : Nat) | ret
inductive Callee' where
  | func (f : FuncId)
  | body (f : FuncId)
  | yield (l : Nat)

def isNilL {α : Type} : List α → Bool
  | [] => true
  | _ => false
/-! ## the monad: several outcomes, or none -/
abbrev M (α : Type) := Option (List (α × Heap))
def ret1 {α : Type} (a : α) (h : Heap) : M α := some [(a, h)]
def appO {α : Type} (a b : M α) : M α := match a with
  | none => none
  | some l => match b with
    | none => none
    | some r => some (l ++ r)
def bindMany {α β : Type} (f : α → Heap → M β) : List (α × Heap) → M β
  | [] => some []
  | x :: l => appO (f x.1 x.2) (bindMany f l)
def bind1 {α β : Type} (f : α → Heap → M β) (x : α × Heap) (l : List (α × Heap)) : M β :=
  match l with
  | [] => f x.1 x.2
  | _ :: _ => bindMany f (x :: l)
def bindL {α β : Type} (f : α → Heap → M β) (l : List (α × Heap)) : M β :=
  match l with
  | [] => some []
  | x :: l => bind1 f x l
def bindM {α β : Type} (m : M α) (f : α → Heap → M β) : M β :=
  match m with
  | none => none
  | some l => bindL f l
def ob {α β : Type} (x : Option α) (f : α → Option β) : Option β :=
  match x with
  | none => none
  | some a => f a
def when {α : Type} (b : Bool) (x : Option α) : Option α := match b with | true => x | false => none

def seqI {α : Type} (n : Int) (f : Int → α) : α :=
  match n with
  | .ofNat n => seqN n fun n => f (.ofNat n)
  | .negSucc n => seqN n fun n => f (.negSucc n)
def ofCell : Value → AVal
  | .bool b => .bool b
  | .int k n => .int k n
  | .string s => .str (sOf 1 s.data.toList)
  | .pointer none => .nilPtr
  | .slice none 0 0 => .nilSlice
  | .map none => .nilMap
  | .nilFunc => .nilFunc
  | .nilIface => .nilIface
  | _ => .junk
def allB {α : Type} (p : α → Bool) : List α → Bool
  | [] => true
  | a :: l => match p a with | true => allB p l | false => false
def flatV : Value → Bool
  | .agg _ => false
  | .tuple _ => false
  | _ => true
def mapL {α β : Type} (f : α → β) : List α → List β
  | [] => []
  | a :: l => f a :: mapL f l
def ofConst : Value → AVal
  | .agg cs => match allB flatV cs.toList with
    | true => .agg (mapL ofCell cs.toList)
    | false => .junk
  | v => ofCell v
structure Env where
  tmps : T AVal
  defers : List (AVal × List AVal)
/-- a read that may still stand behind effects: how it is asked, what it gave, behind how many effects it may stand -/
structure Pend where
  f : Heap → Option AVal
  v : AVal
  left : Nat
structure Rt where
  call : Callee' → List AVal → Heap → M AVal
  pend : List Pend

/-! ## operands -/
structure VK where
  get : List AVal → T AVal → AVal
def dflt : Option AVal → AVal
  | some v => v
  | none => .junk
def vTmp (g : GK AVal) : VK := ⟨fun _ ρ => dflt (g.get ρ)⟩
def vConst (v : AVal) : VK := ⟨fun _ _ => v⟩
/-- compile time: the global temporaries, and the stack of local ones -/
structure SL where
  glob : Nat
  st : List Tmp
  rnd : Bool
def hdA : List AVal → AVal
  | [] => .junk
  | v :: _ => v
def tlA : List AVal → List AVal
  | [] => []
  | _ :: l => l
def vHd : VK := ⟨fun vs _ => hdA vs⟩
def vTl (k : VK) : VK := ⟨fun vs ρ => k.get (tlA vs) ρ⟩
def vFail : VK := vConst .junk
def vLoc (i : Tmp) : List Tmp → VK
  | [] => vFail
  | t :: l => match Nat.beq t i with | true => vHd | false => vTl (vLoc i l)
def vTmpS (s : SL) (i : Tmp) : VK := match Nat.testBit s.glob i with
  | true => vTmp (gk dep i)
  | false => vLoc i s.st
def vk (s : SL) : Operand → VK
  | .tmp i => vTmpS s i
  | .const v => vConst (ofConst v)
  | .global _ => vConst .junk
  | .func f => vConst (.func (.func f) [] [])
structure LK where
  get : List AVal → T AVal → List AVal
def lkCons (x : VK) (l : LK) : LK := ⟨fun vs ρ => x.get vs ρ :: l.get vs ρ⟩
def lk (s : SL) : List Operand → LK
  | [] => ⟨fun _ _ => []⟩
  | x :: l => lkCons (vk s x) (lk s l)

/-! ## heap -/
def Heap.alloc (h : Heap) (o : AObj) : Heap := seqN (Nat.succ h.next) fun n => ⟨n, h.objs.put h.next o⟩
def Heap.upd (h : Heap) (id : Nat) (o : AObj) : Heap := ⟨h.next, h.objs.put id o⟩
def Heap.kill (h : Heap) (id : Nat) : Heap := ⟨h.next, h.objs.del id⟩
def rowOf : Option AObj → Option (T AVal)
  | some (.cells c _ _ _) => some c
  | _ => none
def Heap.row (h : Heap) (id : Nat) : Option (T AVal) := rowOf (h.objs.get id)
def rowObj (et : TypeId) (l : List AVal) : AObj := seqN l.length fun n => .cells (T.ofList l) n (some n) et
def rowObjU (et : TypeId) (l : List AVal) : AObj := seqN l.length fun n => .cells (T.ofList l) n none et
def loadN (c : T AVal) : Nat → Nat → Option (List AVal)
  | 0, _ => some []
  | n + 1, off => ob (c.get off) fun v => ob (seqN (Nat.succ off) (loadN c n)) fun l => some (v :: l)
def storeObj (id off : Nat) (l : List AVal) (h : Heap) : Option AObj → Option Heap
  | some (.cells c lo hi et) => when (Nat.ble (Nat.add off l.length) lo) (some (h.upd id (.cells (T.putList off l c) lo hi et)))
  | _ => none
def storeAt (id off : Nat) (l : List AVal) (h : Heap) : Option Heap := storeObj id off l h (h.objs.get id)

abbrev TT := T TI
def loadC (i : TI) (off : Nat) (c : T AVal) : Option AVal :=
  match i.agg with
  | true => ob (loadN c i.size off) fun l => some (.agg l)
  | false => c.get off
def loadV (i : TI) (h : Heap) : AVal → Option AVal
  | .ptr id off => ob (h.row id) (loadC i off)
  | _ => none
def nth {α : Type} : List α → Nat → Option α
  | [], _ => none
  | a :: l, n => match n with | 0 => some a | k + 1 => nth l k
def dropN {α : Type} : Nat → List α → List α
  | 0, l => l
  | n + 1, l => match l with | [] => [] | _ :: l => dropN n l
def takeN {α : Type} : Nat → List α → Option (List α)
  | 0, _ => some []
  | n + 1, l => match l with
    | [] => none
    | a :: l => ob (takeN n l) fun r => some (a :: r)
def partA (i : TI) (cs : List AVal) (off : Nat) : Option AVal :=
  match i.agg with
  | true => ob (takeN i.size (dropN off cs)) fun l => some (.agg l)
  | false => nth cs off
/-- cells over others from a place on -/
def setRg : List AVal → Nat → List AVal → List AVal
  | [], _, _ => []
  | c :: cs, off, l => match off with
    | k + 1 => c :: setRg cs k l
    | 0 => match l with
      | [] => c :: cs
      | v :: l => v :: setRg cs 0 l
def repl {α : Type} (l : List α) : Nat → List α → List α
  | 0, acc => acc
  | n + 1, acc => repl l n (l ++ acc)

/-! ## integers -/
def kindEq : IntKind → IntKind → Bool
  | .i8, .i8 | .i16, .i16 | .i32, .i32 | .i64, .i64 | .u8, .u8 | .u16, .u16 | .u32, .u32 | .u64, .u64 => true
  | _, _ => false
def bitsN : IntKind → Nat
  | .i8 => 8 | .i16 => 16 | .i32 => 32 | .i64 => 64 | .u8 => 8 | .u16 => 16 | .u32 => 32 | .u64 => 64
def signedK : IntKind → Bool
  | .i8 | .i16 | .i32 | .i64 => true
  | _ => false
def modN (k : IntKind) : Nat := Nat.shiftLeft 1 (bitsN k)
def halfN (k : IntKind) : Nat := Nat.shiftLeft 1 (Nat.sub (bitsN k) 1)
def ofBits (k : IntKind) (m : Nat) : Int := match signedK k with
  | true => match Nat.blt m (halfN k) with | true => .ofNat m | false => .negSucc (Nat.sub (Nat.sub (modN k) 1) m)
  | false => .ofNat m
def toBits (k : IntKind) : Int → Nat
  | .ofNat n => Nat.mod n (modN k)
  | .negSucc n => Nat.sub (Nat.sub (modN k) 1) (Nat.mod n (modN k))
def wrapA (k : IntKind) (n : Int) : Int := ofBits k (toBits k n)
def eqI : Int → Int → Bool
  | .ofNat a, .ofNat b => Nat.beq a b
  | .negSucc a, .negSucc b => Nat.beq a b
  | _, _ => false
def ltI : Int → Int → Bool
  | .ofNat a, .ofNat b => Nat.blt a b
  | .negSucc a, .negSucc b => Nat.blt b a
  | .negSucc _, .ofNat _ => true
  | .ofNat _, .negSucc _ => false
/-- a difference of naturals -/
def subNN (a b : Nat) : Int := match Nat.ble b a with
  | true => .ofNat (Nat.sub a b)
  | false => .negSucc (Nat.sub (Nat.sub b a) 1)
def addI : Int → Int → Int
  | .ofNat a, .ofNat b => .ofNat (Nat.add a b)
  | .ofNat a, .negSucc b => subNN a (Nat.succ b)
  | .negSucc a, .ofNat b => subNN b (Nat.succ a)
  | .negSucc a, .negSucc b => .negSucc (Nat.succ (Nat.add a b))
def negI : Int → Int
  | .ofNat 0 => .ofNat 0
  | .ofNat (n + 1) => .negSucc n
  | .negSucc n => .ofNat (Nat.succ n)
def mkI (k : IntKind) (n : Int) : Option AVal := seqI n fun n => some (.int k n)
structure IK where
  f : IntKind → Int → Int → Option AVal
def iAdd (k : IntKind) (a b : Int) : Option AVal := mkI k (wrapA k (addI a b))
def iSub (k : IntKind) (a b : Int) : Option AVal := mkI k (wrapA k (addI a (negI b)))
def iMul (k : IntKind) (a b : Int) : Option AVal := mkI k (wrapA k (a * b))
def iQuo (k : IntKind) (a b : Int) : Option AVal := match eqI b 0 with | true => none | false => mkI k (wrapA k (a.tdiv b))
def iRem (k : IntKind) (a b : Int) : Option AVal := match eqI b 0 with | true => none | false => mkI k (a.tmod b)
def iAnd (k : IntKind) (a b : Int) : Option AVal := mkI k (ofBits k (Nat.land (toBits k a) (toBits k b)))
def iOr (k : IntKind) (a b : Int) : Option AVal := mkI k (ofBits k (Nat.lor (toBits k a) (toBits k b)))
def iXor (k : IntKind) (a b : Int) : Option AVal := mkI k (ofBits k (Nat.xor (toBits k a) (toBits k b)))
def iAndNot (k : IntKind) (a b : Int) : Option AVal := mkI k (ofBits k (Nat.land (toBits k a) (Nat.xor (Nat.sub (modN k) 1) (toBits k b))))
def mkB (b : Bool) : Option AVal := match b with | true => some (.bool true) | false => some (.bool false)
def iEq (_ : IntKind) (a b : Int) : Option AVal := mkB (eqI a b)
def iNe (_ : IntKind) (a b : Int) : Option AVal := mkB (notB (eqI a b))
def iLt (_ : IntKind) (a b : Int) : Option AVal := mkB (ltI a b)
def iLe (_ : IntKind) (a b : Int) : Option AVal := mkB (notB (ltI b a))
def iGt (_ : IntKind) (a b : Int) : Option AVal := mkB (ltI b a)
def iGe (_ : IntKind) (a b : Int) : Option AVal := mkB (notB (ltI a b))
def ik : BinOp → IK
  | .add => ⟨iAdd⟩ | .sub => ⟨iSub⟩ | .mul => ⟨iMul⟩ | .quo => ⟨iQuo⟩ | .rem => ⟨iRem⟩
  | .and => ⟨iAnd⟩ | .or => ⟨iOr⟩ | .xor => ⟨iXor⟩ | .andNot => ⟨iAndNot⟩
  | .eql => ⟨iEq⟩ | .neq => ⟨iNe⟩ | .lss => ⟨iLt⟩ | .leq => ⟨iLe⟩ | .gtr => ⟨iGt⟩ | .geq => ⟨iGe⟩
  | .shl => ⟨fun _ _ _ => none⟩ | .shr => ⟨fun _ _ _ => none⟩
structure SOK where
  f : Nat → Nat → Option AVal
def sAdd (a b : Nat) : Option AVal := match Nat.ble (Nat.add (sLen a) (sLen b)) 1000000 with
  | true => seqN (sApp a b) fun n => some (.str n)
  | false => none
def sok : BinOp → SOK
  | .add => ⟨sAdd⟩
  | .eql => ⟨fun a b => mkB (Nat.beq a b)⟩
  | .neq => ⟨fun a b => mkB (notB (Nat.beq a b))⟩
  | .lss => ⟨fun a b => mkB (sLt a b)⟩
  | .leq => ⟨fun a b => mkB (notB (sLt b a))⟩
  | .gtr => ⟨fun a b => mkB (sLt b a)⟩
  | .geq => ⟨fun a b => mkB (notB (sLt a b))⟩
  | _ => ⟨fun _ _ => none⟩
def shiftN (k : IntKind) : Int → Option Nat
  | .ofNat n => some (minN n (bitsN k))
  | .negSucc _ => none
def shlV (k : IntKind) (a : Int) (n : Nat) : Option AVal := mkI k (wrapA k (a * .ofNat (Nat.shiftLeft 1 n)))
def shrV (k : IntKind) (a : Int) (n : Nat) : Option AVal := match a with
  | .ofNat a => mkI k (.ofNat (Nat.shiftRight a n))
  | .negSucc a => mkI k (.negSucc (Nat.shiftRight a n))

/-! strings that hold an unknown part of at most 20 bytes: what stands ahead of it, which it is, what stands behind it -/
def neLen (p q s : Nat) : Bool := match Nat.blt (sLen s) (Nat.add (sLen p) (sLen q)) with
  | true => true
  | false => Nat.blt (Nat.add 20 (Nat.add (sLen p) (sLen q))) (sLen s)
/-- both have a first byte, and these differ -/
def neFst (p s : Nat) : Bool := match Nat.beq (sLen p) 0 with
  | true => false
  | false => match Nat.beq (sLen s) 0 with
    | true => false
    | false => notB (Nat.beq (sGet p 0) (sGet s 0))
def neCS (p q s : Nat) : Bool := match neLen p q s with
  | true => true
  | false => neFst p s
/-- equal or not; none where it is not known -/
def eqCC (p c q p' c' q' : Nat) : Option Bool := match neFst p p' with
  | true => some false
  | false => match Nat.beq (sLen q) (sLen q') with
    | false => none
    | true => match Nat.beq q q' with
      | false => some false
      | true => match Nat.beq p p' with
        | false => none
        | true => match Nat.beq c c' with
          | true => some true
          | false => match Nat.blt c 2 with
            | false => none
            | true => match Nat.blt c' 2 with
              | false => none
              | true => some false
/-! an integer that has a least or a greatest value -/
def ltLo (b : Int) : Option Int → Bool
  | none => false
  | some l => ltI b l
def leLo (b : Int) : Option Int → Bool
  | none => false
  | some l => notB (ltI l b)
def hiLt (b : Int) : Option Int → Bool
  | none => false
  | some u => ltI u b
def hiLe (b : Int) : Option Int → Bool
  | none => false
  | some u => notB (ltI b u)
/-! ## equality -/
def eqBool : Bool → Bool → Bool
  | true, b => b
  | false, b => notB b
def isByteD : TD → Bool
  | .int k => kindEq k .u8
  | .other => true
  | _ => false
/-- the object of a pointer: a row, not of bytes -/
def plainRow (P : TT) : Option AObj → Option Unit
  | some (.cells _ _ _ et) => ob (P.get et) fun i => when (notB (isByteD i.desc)) (some ())
  | _ => none
def eqBoolV : AVal → AVal → Option Bool
  | .bool a, .bool b => some (eqBool a b)
  | _, _ => none
def eqIntV : AVal → AVal → Option Bool
  | .int k a, .int k' b => when (kindEq k k') (some (eqI a b))
  | .rng k lo hi, .int k' b => when (kindEq k k') (match ltLo b lo with
    | true => some false
    | false => match hiLt b hi with
      | true => some false
      | false => none)
  | _, _ => none
def eqStrV : AVal → AVal → Option Bool
  | .str a, .str b => some (Nat.beq a b)
  | .cat p _ q, .str b => when (neCS p q b) (some false)
  | .str a, .cat p _ q => when (neCS p q a) (some false)
  | .cat p c q, .cat p' c' q' => eqCC p c q p' c' q'
  | _, _ => none
def eqPtr (P : TT) (h : Heap) (a i b j : Nat) : Option Bool := match Nat.beq a b with
  | true => some (Nat.beq i j)
  | false => ob (plainRow P (h.objs.get a)) fun _ => ob (plainRow P (h.objs.get b)) fun _ => some false
def eqPtrV (P : TT) (h : Heap) (e : TypeId) : AVal → AVal → Option Bool
  | .nilPtr, .nilPtr => some true
  | .nilPtr, .ptr _ _ => some false
  | .ptr _ _, .nilPtr => some false
  | .ptr a i, .ptr b j => ob (P.get e) fun ei => match ei.size with
    | 0 => none
    | _ + 1 => eqPtr P h a i b j
  | _, _ => none
def eqIfV (P : TT) (eq : TI → AVal → AVal → Option Bool) : AVal → AVal → Option Bool
  | .nilIface, .iface _ _ => some false
  | .iface _ _, .nilIface => some false
  | .iface tx vx, .iface ty vy => match Nat.beq tx ty with
    | false => some false
    | true => ob (P.get tx) fun i => when i.cmp (eq i vx vy)
  | _, _ => none
def eqFlds (P : TT) (eq : TI → AVal → AVal → Option Bool) : List (Nat × TypeId × Bool) → List AVal → List AVal → Option Bool
  | [], _, _ => some true
  | f :: fs, xs, ys => match f.2.2 with
    | false => eqFlds P eq fs xs ys
    | true => ob (P.get f.2.1) fun i => ob (partA i xs f.1) fun a => ob (partA i ys f.1) fun b => ob (eq i a b) fun r => match r with
      | true => eqFlds P eq fs xs ys
      | false => some false
def eqAggV (P : TT) (eq : TI → AVal → AVal → Option Bool) (fs : List (Nat × TypeId × Bool)) : AVal → AVal → Option Bool
  | .agg xs, .agg ys => eqFlds P eq fs xs ys
  | _, _ => none
def eqElems (eq : AVal → AVal → Option Bool) (ie : TI) : Nat → Nat → List AVal → List AVal → Option Bool
  | 0, _, _, _ => some true
  | n + 1, k, xs, ys => ob (partA ie xs k) fun a => ob (partA ie ys k) fun b => ob (eq a b) fun r => match r with
    | true => seqN (Nat.add k ie.size) fun k => eqElems eq ie n k xs ys
    | false => some false
def eqArrV (P : TT) (eq : TI → AVal → AVal → Option Bool) (n : Nat) (e : TypeId) : AVal → AVal → Option Bool
  | .agg xs, .agg ys => ob (P.get e) fun ie => eqElems (eq ie) ie n 0 xs ys
  | _, _ => none
def eqSlV : AVal → AVal → Option Bool
  | .nilSlice, .nilSlice => some true
  | .nilSlice, .slice .. => some false
  | .slice .., .nilSlice => some false
  | _, _ => none
def eqMapV : AVal → AVal → Option Bool
  | .nilMap, .nilMap => some true
  | .nilMap, .map _ => some false
  | .map _, .nilMap => some false
  | _, _ => none
def eqFnV : AVal → AVal → Option Bool
  | .nilFunc, .nilFunc => some true
  | .nilFunc, .func .. => some false
  | .func .., .nilFunc => some false
  | _, _ => none
def eqA (P : TT) (h : Heap) : Nat → TI → AVal → AVal → Option Bool
  | 0, _, _, _ => none
  | d + 1, i, x, y => match i.desc with
    | .bool => eqBoolV x y
    | .int _ => eqIntV x y
    | .str => eqStrV x y
    | .ptr e => eqPtrV P h e x y
    | .iface _ => eqIfV P (eqA P h d) x y
    | .struct fs => when i.eqs (eqAggV P (eqA P h d) fs x y)
    | .arr n e => when i.eqs (eqArrV P (eqA P h d) n e x y)
    | .slice _ => eqSlV x y
    | .map _ _ => eqMapV x y
    | .func => eqFnV x y
    | _ => none
def eqDepth : Nat := 100
def eqV (P : TT) (h : Heap) (i : TI) (neg : Bool) (x y : AVal) : Option AVal :=
  ob (eqA P h eqDepth i x y) fun b => match neg with | true => mkB (notB b) | false => mkB b

/-! ## binary operations -/
def isCmp : BinOp → Bool
  | .eql | .neq | .lss | .leq | .gtr | .geq => true
  | _ => false
def unkBin (op : BinOp) (k k' : IntKind) : Option AVal :=
  match op with
  | .shr => some (.unk k)
  | .and => when (kindEq k k') (some (.unk k))
  | .eql | .neq | .lss | .leq | .gtr | .geq => when (kindEq k k') (some .unkBool)
  | _ => none
def modBin (op : BinOp) (k : IntKind) (m r : Nat) (k' : IntKind) (b : Int) : Option AVal :=
  match op with
  | .rem => when (kindEq k k') (when (eqI b (.ofNat m)) (when (Nat.blt 0 m) (some (.int k (.ofNat r)))))
  | _ => none
def two (t f : Bool) : Option AVal := match t with
  | true => some (.bool true)
  | false => match f with
    | true => some (.bool false)
    | false => none
def rB (op : BinOp) (lo hi : Option Int) (b : Int) : Option AVal := match op with
  | .eql => match ltLo b lo with | true => some (.bool false) | false => two false (hiLt b hi)
  | .neq => match ltLo b lo with | true => some (.bool true) | false => two (hiLt b hi) false
  | .lss => two (hiLt b hi) (leLo b lo)
  | .leq => two (hiLe b hi) (ltLo b lo)
  | .gtr => two (ltLo b lo) (hiLe b hi)
  | .geq => two (leLo b lo) (hiLt b hi)
  | _ => none
def swapB : BinOp → BinOp
  | .lss => .gtr
  | .leq => .geq
  | .gtr => .lss
  | .geq => .leq
  | .eql => .eql
  | .neq => .neq
  | _ => .add
def intBin (op : BinOp) (f : IK) (k : IntKind) (a : Int) : AVal → Option AVal
  | .int k' b => when (kindEq k k') (f.f k a b)
  | .rng k' lo hi => when (kindEq k k') (rB (swapB op) lo hi a)
  | _ => none
def mkS2 (p c q : Nat) : Option AVal := match Nat.ble (Nat.add (sLen p) (sLen q)) 1000000 with
  | true => seqN p fun p => seqN q fun q => some (.cat p c q)
  | false => none
def catBin (op : BinOp) (r : Option Bool) : Option AVal := match op with
  | .eql => ob r mkB
  | .neq => ob r fun b => mkB (notB b)
  | _ => none
def strCat (op : BinOp) (a p c q : Nat) : Option AVal := match op with
  | .add => mkS2 (sApp a p) c q
  | op => catBin op (when (neCS p q a) (some false))
def strBin (op : BinOp) (f : SOK) (a : Nat) : AVal → Option AVal
  | .str b => f.f a b
  | .cat p c q => strCat op a p c q
  | _ => none
def catL (op : BinOp) (p c q : Nat) : AVal → Option AVal
  | .str b => match op with
    | .add => mkS2 p c (sApp q b)
    | op => catBin op (when (neCS p q b) (some false))
  | .cat p' c' q' => catBin op (eqCC p c q p' c' q')
  | _ => none
/-! an unknown number (the size of an unknown string) by groups of seven bits: what is left of it behind j groups, a group, a string of groups -/
def grBin (op : BinOp) (r j lo hi : Nat) (k : IntKind) (b : Int) : Option AVal := match op with
  | .rem => when (kindEq .u64 k) (when (eqI b 128) (some (.dg .u64 r j false)))
  | .gtr => when (kindEq .u64 k) (when (eqI b 0) (two (Nat.blt 0 lo) (Nat.beq hi 0)))
  | .eql => when (kindEq .u64 k) (when (eqI b 0) (two (Nat.beq hi 0) (Nat.blt 0 lo)))
  | _ => none
def dgBin (op : BinOp) (k : IntKind) (r j : Nat) (c : Bool) (k' : IntKind) (b : Int) : Option AVal := match op with
  | .or => match c with
    | true => none
    | false => when (kindEq k .u8) (when (kindEq k' .u8) (when (eqI b 128) (some (.dg .u8 r j true))))
  | _ => none
def binV (op : BinOp) (f : IK) (g : SOK) (x y : AVal) : Option AVal :=
  match x with
  | .int k a => intBin op f k a y
  | .str a => strBin op g a y
  | .cat p c q => catL op p c q y
  | .unk k => match y with | .int k' _ => unkBin op k k' | _ => none
  | .modv k m r => match y with | .int k' b => modBin op k m r k' b | _ => none
  | .rng k lo hi => match y with | .int k' b => when (kindEq k k') (rB op lo hi b) | _ => none
  | .gr r j lo hi => match y with | .int k' b => grBin op r j lo hi k' b | _ => none
  | .dg k r j c => match y with | .int k' b => dgBin op k r j c k' b | _ => none
  | _ => none
/-- == and != of other values than numbers and strings -/
def eqBin (P : TT) (i : TI) (neg : Bool) (h : Heap) (x y : AVal) : Option AVal := eqV P h i neg x y
def shlB : AVal → AVal → Option AVal
  | .int k a, .int _ b => ob (shiftN k b) fun n => shlV k a n
  | _, _ => none
def shrB : AVal → AVal → Option AVal
  | .int k a, .int _ b => ob (shiftN k b) fun n => shrV k a n
  | .unk k, .int _ (.ofNat _) => some (.unk k)
  | .gr r j lo hi, .int _ (.ofNat m) => when (Nat.beq m 7) (some (.gr r (Nat.succ j) (Nat.div lo 128) (Nat.div hi 128)))
  | _, _ => none
/-- comparison with the literal nil -/
def isNilIface : AVal → Option Bool
  | .nilIface => some true
  | .iface _ _ => some false
  | _ => none
def unV (op : UnOp) (x : AVal) : Option AVal :=
  match op, x with
  | .neg, .int k n => mkI k (wrapA k (negI n))
  | .xor, .int k n => mkI k (ofBits k (Nat.xor (Nat.sub (modN k) 1) (toBits k n)))
  | .not, .bool b => mkB (notB b)
  | _, _ => none

/-! ## the same value -/
def eqVL (eq : AVal → AVal → Bool) : List AVal → List AVal → Bool
  | [], l => isNilL l
  | a :: l, m => match m with
    | [] => false
    | b :: m => match eq a b with | true => eqVL eq l m | false => false
def eqLim : Option Nat → Option Nat → Bool
  | none, none => true
  | some a, some b => Nat.beq a b
  | _, _ => false
def andB (a b : Bool) : Bool := match a with | true => b | false => false
def eqFnB : Fn → Fn → Bool
  | .func f, .func g => Nat.beq f g
  | .yield l, .yield m => Nat.beq l m
  | _, _ => false
def eqOI : Option Int → Option Int → Bool
  | none, none => true
  | some a, some b => eqI a b
  | _, _ => false
def eqDL : List (Nat × Bool) → List (Nat × Bool) → Bool
  | [], [] => true
  | a :: l, b :: m => andB (Nat.beq a.1 b.1) (andB (eqBool a.2 b.2) (eqDL l m))
  | _, _ => false
def beqV : Nat → AVal → AVal → Bool
  | 0, _, _ => false
  | d + 1, x, y => match x, y with
    | .bool a, .bool b => eqBool a b
    | .int k a, .int k' b => andB (kindEq k k') (eqI a b)
    | .str a, .str b => Nat.beq a b
    | .nilPtr, .nilPtr => true
    | .ptr a i, .ptr b j => andB (Nat.beq a b) (Nat.beq i j)
    | .nilSlice, .nilSlice => true
    | .slice a i n l, .slice b j m k => andB (Nat.beq a b) (andB (Nat.beq i j) (andB (Nat.beq n m) (eqLim l k)))
    | .nilMap, .nilMap => true
    | .map a, .map b => Nat.beq a b
    | .nilFunc, .nilFunc => true
    | .nilIface, .nilIface => true
    | .iface t v, .iface u w => andB (Nat.beq t u) (beqV d v w)
    | .agg l, .agg m => eqVL (beqV d) l m
    | .tuple l, .tuple m => eqVL (beqV d) l m
    | .func f a b, .func g l m => andB (eqFnB f g) (andB (eqVL (beqV d) a l) (eqVL (beqV d) b m))
    | .unk a, .unk b => kindEq a b
    | .modv a m r, .modv b n q => andB (kindEq a b) (andB (Nat.beq m n) (Nat.beq r q))
    | .rng a l u, .rng b m v => andB (kindEq a b) (andB (eqOI l m) (eqOI u v))
    | .ustr, .ustr => true
    | .uns a b, .uns l m => andB (Nat.beq a l) (Nat.beq b m)
    | .ulen a, .ulen b => Nat.beq a b
    | .umin a, .umin b => Nat.beq a b
    | .cat a b d, .cat l m n => andB (Nat.beq a l) (andB (Nat.beq b m) (Nat.beq d n))
    | .gr a b e f, .gr l m n o => andB (Nat.beq a l) (andB (Nat.beq b m) (andB (Nat.beq e n) (Nat.beq f o)))
    | .dg k a b e, .dg q l m n => andB (kindEq k q) (andB (Nat.beq a l) (andB (Nat.beq b m) (eqBool e n)))
    | .sdg a l, .sdg b m => andB (Nat.beq a b) (eqDL l m)
    | _, _ => false
/-! ## maps -/
def findA (P : TT) (h : Heap) (ki : TI) (k : AVal) : List Ent → Nat → Option (Option (Nat × AVal × Nat))
  | [], _ => some none
  | e :: es, i => ob (eqA P h eqDepth ki k e.1) fun b => match b with
    | true => some (some (i, e.2.1, e.2.2))
    | false => seqN (Nat.succ i) (findA P h ki k es)
def setNth {α : Type} : List α → Nat → α → List α
  | [], _, _ => []
  | a :: l, n, x => match n with | 0 => x :: l | k + 1 => a :: setNth l k x
def eraseNth {α : Type} : List α → Nat → List α
  | [], _ => []
  | a :: l, n => match n with | 0 => l | k + 1 => a :: eraseNth l k
def mapObj : Option AObj → Option (List Ent × Nat)
  | some (.map es c) => some (es, c)
  | _ => none
def mapOf (h : Heap) (r : Nat) : Option (List Ent × Nat) := mapObj (h.objs.get r)
def keyCell : AVal → Bool
  | .bool _ | .int _ _ | .str _ => true
  | .cat _ _ _ => true
  | _ => false
/-- types of keys: numbers, strings, bools, and structs of these -/
def scalarD : TD → Bool
  | .int _ => true
  | .str => true
  | .bool => true
  | _ => false
def keyF (P : TT) (n : Nat) (f : Nat × TypeId × Bool) : Bool := match P.get f.2.1 with
  | some ti => andB (scalarD ti.desc) (Nat.blt f.1 n)
  | none => false
def keyT (P : TT) (ki : TI) : Bool := match ki.desc with
  | .struct fs => allB (keyF P ki.size) fs
  | d => scalarD d
def keyOk (ki : TI) (v : AVal) : Bool := match ki.desc with
  | .struct _ => match v with
    | .agg cs => andB (Nat.beq cs.length ki.size) (allB keyCell cs)
    | _ => false
  | _ => keyCell v
/-- the key that is there is the very one -/
def sameKey (k : AVal) : Option Ent → Bool
  | some e => beqV 4 k e.1
  | none => false
def putEnt (h : Heap) (r : Nat) (k v : AVal) (es : List Ent) (c : Nat) : Option (Nat × AVal × Nat) → Option Heap
  | some x => when (sameKey k (nth es x.1)) (some (h.upd r (.map (setNth es x.1 (k, v, x.2.2)) c)))
  | none => seqN (Nat.succ c) fun c' => some (h.upd r (.map (es ++ [(k, v, c)]) c'))
def mapPut (P : TT) (ki : TI) (k v : AVal) (h : Heap) : AVal → Option Heap
  | .map r => when (keyOk ki k) (ob (mapOf h r) fun m => ob (findA P h ki k m.1 0) fun x => putEnt h r k v m.1 m.2 x)
  | _ => none
def entsOf (h : Heap) : AVal → Option (List Ent)
  | .nilMap => some []
  | .map r => ob (mapOf h r) fun m => some m.1
  | _ => none
def lookRes (z : AVal) (ok : Bool) : Option (Nat × AVal × Nat) → AVal
  | some x => match ok with | true => .tuple [x.2.1, .bool true] | false => x.2.1
  | none => match ok with | true => .tuple [z, .bool false] | false => z
def isRng : AVal → Bool
  | .rng _ _ _ => true
  | _ => false
/-- a key that may be looked up -/
def keyOkL (ki : TI) (v : AVal) : Bool := match keyOk ki v with
  | true => true
  | false => match ki.desc with
    | .int _ => isRng v
    | _ => false
def lookV (P : TT) (ki : TI) (z : AVal) (ok : Bool) (h : Heap) (k m : AVal) : Option AVal :=
  when (keyOkL ki k) (ob (entsOf h m) fun es => ob (findA P h ki k es 0) fun x => some (lookRes z ok x))

/-! ## operations: pure (p), reading (n), pure with an open result (u), allocating (a), all others (e), deferring (d) -/
inductive OpK where
  | p (f : List AVal → T AVal → Option AVal)
  | n (f : List AVal → T AVal → Heap → Option AVal)
  | u (f : List AVal → T AVal → Option AVal)
  | a (f : List AVal → T AVal → Nat → Option (AObj × AVal))
  | e (f : Rt → List AVal → T AVal → Heap → M AVal)
  | d (f : List AVal → T AVal → Option (AVal × List AVal))
def kFail : OpK := .p fun _ _ => none

def kMove (x : VK) : OpK := .p fun vs ρ => some (x.get vs ρ)
def pickV (a b : VK) (vs : List AVal) (ρ : T AVal) : AVal → Option AVal
  | .bool c => match c with | true => some (a.get vs ρ) | false => some (b.get vs ρ)
  | _ => none
def kPick (c a b : VK) : OpK := .p fun vs ρ => pickV a b vs ρ (c.get vs ρ)
def kLoad (a : VK) (i : TI) : OpK := .n fun vs ρ h => loadV i h (a.get vs ρ)
def nilV : AVal → Option AVal
  | .ptr id off => some (.ptr id off)
  | .func fn a b => match fn with | .func f => some (.func (.func f) a b) | _ => none
  | _ => none
def kNil (x : VK) : OpK := .p fun vs ρ => nilV (x.get vs ρ)
def kBin (op : BinOp) (f : IK) (g : SOK) (x y : VK) : OpK := .p fun vs ρ => binV op f g (x.get vs ρ) (y.get vs ρ)
def kCmp (op : BinOp) (f : IK) (g : SOK) (x y : VK) : OpK := .u fun vs ρ => binV op f g (x.get vs ρ) (y.get vs ρ)
def kEq (P : TT) (i : TI) (neg : Bool) (x y : VK) : OpK := .n fun vs ρ h => eqBin P i neg h (x.get vs ρ) (y.get vs ρ)
def kShl (x y : VK) : OpK := .p fun vs ρ => shlB (x.get vs ρ) (y.get vs ρ)
def kShr (x y : VK) : OpK := .p fun vs ρ => shrB (x.get vs ρ) (y.get vs ρ)
def kIsNil (neg : Bool) (x : VK) : OpK := .p fun vs ρ => ob (isNilIface (x.get vs ρ)) fun b => match neg with | true => mkB (notB b) | false => mkB b
def kUn (op : UnOp) (x : VK) : OpK := .p fun vs ρ => unV op (x.get vs ρ)
def kIface (t : TypeId) (x : VK) : OpK := .p fun vs ρ => some (.iface t (x.get vs ρ))
def kFunc (fn : Fn) (a b : LK) : OpK := .p fun vs ρ => some (.func fn (a.get vs ρ) (b.get vs ρ))
def natV {α : Type} (f : Nat → Option α) : AVal → Option α
  | .int _ (.ofNat n) => f n
  | _ => none
structure BK where   -- a bound of a slice expression
  get : List AVal → T AVal → Nat → Option Nat
def bkNone : BK := ⟨fun _ _ d => some d⟩
def bkSome (x : VK) : BK := ⟨fun vs ρ _ => natV some (x.get vs ρ)⟩
def bk (s : SL) : Option Operand → BK
  | none => bkNone
  | some x => bkSome (vk s x)
def mkStr (n : Nat) : Option AVal := seqN n fun n => some (.str n)
def subStr (s l hh : Nat) : Option AVal := when (Nat.ble l hh) (when (Nat.ble hh (sLen s)) (mkStr (sSub s l hh)))
def mkSlice (id off len : Nat) (lim : Option Nat) : Option AVal := seqN off fun off => seqN len fun len => some (.slice id off len lim)
def limSub (lim : Option Nat) (l : Nat) : Option Nat := match lim with
  | some k => seqN (Nat.sub k l) fun n => some n
  | none => none
def subSlice (id off : Nat) (lim : Option Nat) (sz cap l hh : Nat) : Option AVal :=
  when (Nat.ble l hh) (when (Nat.ble hh cap) (mkSlice id (Nat.add off (Nat.mul l sz)) (Nat.sub hh l) (limSub lim l)))
def subSlice3 (id off sz cap l hh m : Nat) : Option AVal :=
  when (Nat.ble l hh) (when (Nat.ble hh m) (when (Nat.ble m cap) (mkSlice id (Nat.add off (Nat.mul l sz)) (Nat.sub hh l) (some (Nat.sub m l)))))
/-- a lower bound of a slice's capacity -/
def capLo (off sz : Nat) (et : TypeId) (lim : Option Nat) (o : Option AObj) : Option Nat := match o with
  | some (.cells _ lo _ t) => when (Nat.beq t et) (match lim with | some k => some k | none => some (Nat.div (Nat.sub lo off) sz))
  | _ => none
def capHi (off sz : Nat) (lim : Option Nat) (o : Option AObj) : Option Nat := match lim with
  | some k => some k
  | none => match o with
    | some (.cells _ _ (some hi) _) => some (Nat.div (Nat.sub hi off) sz)
    | _ => none
def sliceStr (lo hi : BK) (vs : List AVal) (ρ : T AVal) : AVal → Option AVal
  | .str s => ob (hi.get vs ρ (sLen s)) fun hh => ob (lo.get vs ρ 0) fun l => subStr s l hh
  | _ => none
/-- an unknown string, cut to 20 bytes -/
def cutU (r c : Nat) : AVal → Option AVal
  | .umin r' => when (Nat.beq r r') (some (.cat 1 c 1))
  | _ => none
def cutK (lo : Option Operand) (hv : Option VK) (vs : List AVal) (ρ : T AVal) (lh : BK) (hh : BK) : AVal → Option AVal
  | .uns r c => match lo with
    | none => match hv with
      | some k => cutU r c (k.get vs ρ)
      | none => none
    | some _ => none
  | x => sliceStr lh hh vs ρ x
def vkO (s : SL) : Option Operand → Option VK
  | none => none
  | some x => some (vk s x)
def kSliceStr (lo : Option Operand) (hv : Option VK) (x : VK) (l hi : BK) : OpK := .p fun vs ρ => cutK lo hv vs ρ l hi (x.get vs ρ)
def sliceV (sz : Nat) (et : TypeId) (lo hi : BK) (vs : List AVal) (ρ : T AVal) (h : Heap) : AVal → Option AVal
  | .nilSlice => ob (hi.get vs ρ 0) fun hh => ob (lo.get vs ρ 0) fun l => when (Nat.ble hh 0) (when (Nat.ble l hh) (some .nilSlice))
  | .slice id off len lim => ob (capLo off sz et lim (h.objs.get id)) fun cap => ob (hi.get vs ρ len) fun hh => ob (lo.get vs ρ 0) fun l => subSlice id off lim sz cap l hh
  | _ => none
def kSlice (sz : Nat) (et : TypeId) (x : VK) (lo hi : BK) : OpK := .n fun vs ρ h => sliceV sz et lo hi vs ρ h (x.get vs ρ)
def sliceV3 (sz : Nat) (et : TypeId) (lo hi mx : BK) (vs : List AVal) (ρ : T AVal) (h : Heap) : AVal → Option AVal
  | .slice id off len lim => ob (capLo off sz et lim (h.objs.get id)) fun cap => ob (hi.get vs ρ len) fun hh => ob (lo.get vs ρ 0) fun l =>
    ob (mx.get vs ρ 0) fun m => subSlice3 id off sz cap l hh m
  | _ => none
def kSlice3 (sz : Nat) (et : TypeId) (x : VK) (lo hi mx : BK) : OpK := .n fun vs ρ h => sliceV3 sz et lo hi mx vs ρ h (x.get vs ρ)
def addPtr (d : Nat) : AVal → Option AVal
  | .ptr id o => seqN (Nat.add o d) fun o' => some (.ptr id o')
  | _ => none
def kFieldAddr (off : Nat) (x : VK) : OpK := .p fun vs ρ => addPtr off (x.get vs ρ)
def partV (i : TI) (off : Nat) : AVal → Option AVal
  | .agg cs => partA i cs off
  | _ => none
def kField (i : TI) (off : Nat) (x : VK) : OpK := .p fun vs ρ => partV i off (x.get vs ρ)
def idxSlice (sz : Nat) (x : AVal) (i : Nat) : Option AVal := match x with
  | .slice id off len _ => when (Nat.blt i len) (seqN (Nat.add off (Nat.mul i sz)) fun o => some (.ptr id o))
  | _ => none
def kIdxSlice (sz : Nat) (x ix : VK) : OpK := .p fun vs ρ => natV (idxSlice sz (x.get vs ρ)) (ix.get vs ρ)
def idxArr (n sz : Nat) (x : AVal) (i : Nat) : Option AVal := match x with
  | .ptr id off => when (Nat.blt i n) (seqN (Nat.add off (Nat.mul i sz)) fun o => some (.ptr id o))
  | _ => none
def kIdxArr (n sz : Nat) (x ix : VK) : OpK := .p fun vs ρ => natV (idxArr n sz (x.get vs ρ)) (ix.get vs ρ)
def atStr (x : AVal) (i : Nat) : Option AVal := match x with
  | .str s => when (Nat.blt i (sLen s)) (seqN (sGet s i) fun n => some (.int .u8 (.ofNat n)))
  | _ => none
def kAtStr (x ix : VK) : OpK := .p fun vs ρ => natV (atStr (x.get vs ρ)) (ix.get vs ρ)
def atArr (n : Nat) (ie : TI) (x : AVal) (i : Nat) : Option AVal := match x with
  | .agg cs => when (Nat.blt i n) (partA ie cs (Nat.mul i ie.size))
  | _ => none
def kAtArr (n : Nat) (ie : TI) (x ix : VK) : OpK := .p fun vs ρ => natV (atArr n ie (x.get vs ρ)) (ix.get vs ρ)
def kLookup (P : TT) (ki : TI) (z : AVal) (ok : Bool) (m k : VK) : OpK := .n fun vs ρ h => lookV P ki z ok h (k.get vs ρ) (m.get vs ρ)
def assertNo (z : AVal) (ok : Bool) : Option AVal := match ok with | true => some (.tuple [z, .bool false]) | false => none
def assertV (t' : TypeId) (z : AVal) (ok : Bool) : AVal → Option AVal
  | .nilIface => assertNo z ok
  | .iface t v => match Nat.beq t t' with
    | true => match ok with | true => some (.tuple [v, .bool true]) | false => some v
    | false => assertNo z ok
  | _ => none
def kAssert (t' : TypeId) (z : AVal) (ok : Bool) (x : VK) : OpK := .p fun vs ρ => assertV t' z ok (x.get vs ρ)
def extV (i : Nat) : AVal → Option AVal
  | .tuple vs => nth vs i
  | _ => none
def kExt (i : Nat) (x : VK) : OpK := .p fun vs ρ => extV i (x.get vs ρ)
def findEnt (s : Nat) : List Ent → Option AVal
  | [] => none
  | e :: es => match Nat.beq e.2.2 s with | true => some (.tuple [e.1, e.2.1]) | false => findEnt s es
def entryO (h : Heap) : Option AObj → Option AVal
  | some (.mapIter (some m) _ (s :: _) last) => ob (mapOf h m) fun x => when (Nat.beq x.2 last) (findEnt s x.1)
  | _ => none
def entryV (h : Heap) : AVal → Option AVal
  | .ptr r off => when (Nat.beq off 0) (entryO h (h.objs.get r))
  | _ => none
def kEntry (x : VK) : OpK := .n fun vs ρ h => entryV h (x.get vs ρ)
def lenStr : AVal → Option AVal
  | .str s => seqN (sLen s) fun n => some (.int .i64 (.ofNat n))
  | .uns r _ => some (.ulen r)
  | .cat p _ q => seqN (Nat.add (sLen p) (sLen q)) fun n => seqN (Nat.add n 20) fun m => some (.rng .i64 (some (.ofNat n)) (some (.ofNat m)))
  | _ => none
def lenSl : AVal → Option AVal
  | .nilSlice => some (.int .i64 (.ofNat 0))
  | .slice _ _ n _ => some (.int .i64 (.ofNat n))
  | _ => none
def lenMap (h : Heap) : AVal → Option AVal
  | .nilMap => some (.int .i64 (.ofNat 0))
  | .map r => ob (mapOf h r) fun m => seqN m.1.length fun n => some (.int .i64 (.ofNat n))
  | _ => none
def kLenStr (x : VK) : OpK := .p fun vs ρ => lenStr (x.get vs ρ)
def kLenSl (x : VK) : OpK := .p fun vs ρ => lenSl (x.get vs ρ)
def kLenMap (x : VK) : OpK := .n fun vs ρ h => lenMap h (x.get vs ρ)
def kConst (v : AVal) : OpK := .p fun _ _ => some v
def minI (a b : Int) : Int := match ltI b a with | true => b | false => a
def maxI (a b : Int) : Int := match ltI a b with | true => b | false => a
def is20 : Int → Bool
  | .ofNat n => Nat.beq n 20
  | _ => false
def mm2 (mx : Bool) : AVal → AVal → Option AVal
  | .int k a, .int k' b => when (kindEq k k') (match mx with | true => some (.int k (maxI a b)) | false => some (.int k (minI a b)))
  | .str a, .str b => match mx with
    | true => match sLt a b with | true => some (.str b) | false => some (.str a)
    | false => match sLt b a with | true => some (.str b) | false => some (.str a)
  | .ulen r, .int .i64 n => match mx with
    | false => when (is20 n) (some (.umin r))
    | true => none
  | _, _ => none
def mmL (mx : Bool) : AVal → List AVal → Option AVal
  | x, [] => some x
  | x, y :: l => ob (mm2 mx x y) fun z => mmL mx z l
def mmV (mx : Bool) : List AVal → Option AVal
  | [] => none
  | x :: l => mmL mx x l
def kMM (mx : Bool) (l : LK) : OpK := .p fun vs ρ => mmV mx (l.get vs ρ)
def dataV : AVal → Option AVal
  | .nilSlice => some .nilPtr
  | .slice id off (_ + 1) _ => some (.ptr id off)
  | _ => none
def kData (x : VK) : OpK := .p fun vs ρ => dataV (x.get vs ρ)

/-! parts of a struct, an array or a slice that is written out -/
structure PtK where
  fill : List AVal → T AVal → List AVal → Option (List AVal)
def ptOne (off n : Nat) (x : VK) (rest : PtK) (vs : List AVal) (ρ : T AVal) (cs : List AVal) : Option (List AVal) :=
  ob (x.get vs ρ).cells fun l => when (Nat.beq l.length n) (when (Nat.ble (Nat.add off n) cs.length) (rest.fill vs ρ (setRg cs off l)))
def ptCons (off n : Nat) (x : VK) (rest : PtK) : PtK := ⟨ptOne off n x rest⟩
def ptFail : PtK := ⟨fun _ _ _ => none⟩
def partsK (s : SL) (place : Nat → Option (Nat × Nat)) : List (Nat × Operand) → PtK
  | [] => ⟨fun _ _ cs => some cs⟩
  | p :: ps => match place p.1 with
    | some x => ptCons x.1 x.2 (vk s p.2) (partsK s place ps)
    | none => ptFail
def fieldPl (P : TT) (fs : List (Nat × TypeId × Bool)) (i : Nat) : Option (Nat × Nat) :=
  ob (nth fs i) fun f => ob (P.get f.2.1) fun ti => some (f.1, ti.size)
def elemPl (n : Nat) (i : Nat) : Option (Nat × Nat) := some (Nat.mul i n, n)
def kBuild (z : List AVal) (p : PtK) : OpK := .p fun vs ρ => ob (p.fill vs ρ z) fun cs => some (.agg cs)

/-! allocating -/
def kAlloc (et : TypeId) (z : List AVal) : OpK := .a fun _ _ id => some (rowObj et z, .ptr id 0)
def kBox (et : TypeId) (x : VK) : OpK := .a fun vs ρ id => ob (x.get vs ρ).cells fun l => some (rowObj et l, .ptr id 0)
def kBuildSlice (et : TypeId) (len : Nat) (z : List AVal) (p : PtK) : OpK := .a fun vs ρ id => ob (p.fill vs ρ z) fun cs => some (rowObj et cs, .slice id 0 len none)
def kMakeMap : OpK := .a fun _ _ id => some (.map [] 0, .map id)
def mkMapV (id : Nat) : AVal → Option (AObj × AVal)
  | .int _ _ => some (.map [] 0, .map id)
  | _ => none
def kMakeMapR (x : VK) : OpK := .a fun vs ρ id => mkMapV id (x.get vs ρ)
def mkRowV (et : TypeId) (z : List AVal) (id l c : Nat) : Option (AObj × AVal) :=
  when (Nat.ble l c) (when (Nat.ble c 100000) (some (rowObj et (repl z c []), .slice id 0 l none)))
def kMakeSlice (et : TypeId) (z : List AVal) (l c : VK) : OpK := .a fun vs ρ id => natV (fun c => natV (fun l => mkRowV et z id l c) (l.get vs ρ)) (c.get vs ρ)

/-! the others -/
def okH (v : AVal) (o : Option Heap) : M AVal := match o with
  | some h => ret1 v h
  | none => none
def storeV (n : Nat) (x : AVal) (h : Heap) : AVal → M AVal
  | .ptr id off => ob x.cells fun l => when (Nat.beq l.length n) (okH undefA (storeAt id off l h))
  | _ => none
def kStore (n : Nat) (a x : VK) : OpK := .e fun _ vs ρ h => storeV n (x.get vs ρ) h (a.get vs ρ)
def okV (h : Heap) (o : Option AVal) : M AVal := match o with
  | some v => ret1 v h
  | none => none
def kMapPut (P : TT) (ki : TI) (m k x : VK) : OpK := .e fun _ vs ρ h => okH undefA (mapPut P ki (k.get vs ρ) (x.get vs ρ) h (m.get vs ρ))
def entRes (h : Heap) (r : Nat) (k z : AVal) (es : List Ent) (c : Nat) : Option (Nat × AVal × Nat) → M AVal
  | some x => when (sameKey k (nth es x.1)) (ret1 (.tuple [x.2.1, .int .i64 (.ofNat x.2.2)]) (h.upd r (.map (setNth es x.1 (k, x.2.1, x.2.2)) c)))
  | none => seqN (Nat.succ c) fun c' => ret1 (.tuple [z, .int .i64 (.ofNat c)]) (h.upd r (.map (es ++ [(k, z, c)]) c'))
def mapEntV (P : TT) (ki : TI) (z k : AVal) (h : Heap) : AVal → M AVal
  | .map r => when (keyOk ki k) (ob (mapOf h r) fun m => ob (findA P h ki k m.1 0) fun x => entRes h r k z m.1 m.2 x)
  | _ => none
def kMapEnt (P : TT) (ki : TI) (z : AVal) (m k : VK) : OpK := .e fun _ vs ρ h => mapEntV P ki z (k.get vs ρ) h (m.get vs ρ)
def setBorn (b : Nat) (v : AVal) : List Ent → Option (List Ent)
  | [] => none
  | e :: es => match Nat.beq e.2.2 b with
    | true => some ((e.1, v, e.2.2) :: es)
    | false => ob (setBorn b v es) fun es => some (e :: es)
def entPutV (b v : AVal) (h : Heap) : AVal → M AVal
  | .map r => ob (mapOf h r) fun m => natV (fun b => ob (setBorn b v m.1) fun es => ret1 undefA (h.upd r (.map es m.2))) b
  | _ => none
def kEntPut (m s x : VK) : OpK := .e fun _ vs ρ h => entPutV (s.get vs ρ) (x.get vs ρ) h (m.get vs ρ)
def rangeStr (h : Heap) : AVal → M AVal
  | .str s => ret1 (.ptr h.next 0) (h.alloc (.strIter s 0))
  | _ => none
def rangeMap (h : Heap) : AVal → M AVal
  | .nilMap => ret1 (.ptr h.next 0) (h.alloc (.mapIter none 0 [] 0))
  | .map m => ob (mapOf h m) fun x => ret1 (.ptr h.next 0) (h.alloc (.mapIter (some m) x.2 [] x.2))
  | _ => none
def kRangeStr (x : VK) : OpK := .e fun _ vs ρ h => rangeStr h (x.get vs ρ)
def kRangeMap (x : VK) : OpK := .e fun _ vs ρ h => rangeMap h (x.get vs ρ)
def outs (m since clock r : Nat) (seen : List Nat) (h : Heap) : List Ent → Option (List (AVal × Heap))
  | [] => some []
  | e :: es => when (Nat.blt e.2.2 since) (ob (outs m since clock r seen h es) fun l =>
      some ((.tuple [.bool true, e.1, e.2.1], h.upd r (.mapIter (some m) since (e.2.2 :: seen) clock)) :: l))
def memN (n : Nat) : List Nat → Bool
  | [] => false
  | a :: l => match Nat.beq n a with | true => true | false => memN n l
def leftOf (seen : List Nat) : List Ent → List Ent
  | [] => []
  | e :: es => match memN e.2.2 seen with | true => leftOf seen es | false => e :: leftOf seen es
def nextMap (m since r : Nat) (seen : List Nat) (h : Heap) (clock : Nat) : List Ent → M AVal
  | [] => ret1 (.tuple [.bool false]) h
  | e :: es => when (Nat.ble since clock) (outs m since clock r seen h (e :: es))
def nextStr (s pos r : Nat) (h : Heap) : M AVal :=
  match Nat.blt pos (sLen s) with
  | false => ret1 (.tuple [.bool false]) h
  | true => seqN (sGet s pos) fun b => when (Nat.blt b 128) (seqN (Nat.succ pos) fun p => ret1 (.tuple [.bool true, .int .i64 (.ofNat pos), .int .i32 (.ofNat b)]) (h.upd r (.strIter s p)))
def nextSO (r : Nat) (h : Heap) : Option AObj → M AVal
  | some (.strIter s pos) => nextStr s pos r h
  | _ => none
def nextMO (r : Nat) (h : Heap) : Option AObj → M AVal
  | some (.mapIter none _ _ _) => ret1 (.tuple [.bool false]) h
  | some (.mapIter (some m) since seen _) => ob (mapOf h m) fun x => nextMap m since r seen h x.2 (leftOf seen x.1)
  | _ => none
def nextSV (h : Heap) : AVal → M AVal
  | .ptr r off => when (Nat.beq off 0) (nextSO r h (h.objs.get r))
  | _ => none
def nextMV (h : Heap) : AVal → M AVal
  | .ptr r off => when (Nat.beq off 0) (nextMO r h (h.objs.get r))
  | _ => none
def kNextS (x : VK) : OpK := .e fun _ vs ρ h => nextSV h (x.get vs ρ)
def kNextM (x : VK) : OpK := .e fun _ vs ρ h => nextMV h (x.get vs ρ)

/-! append, copy and the like -/
def lenA : AVal → Option Nat
  | .slice _ _ n _ => some n
  | .nilSlice => some 0
  | .str s => some (sLen s)
  | _ => none
def bytesV : List Nat → List AVal
  | [] => []
  | b :: l => .int .u8 (.ofNat b) :: bytesV l
def firstA (sz n : Nat) (h : Heap) : AVal → Option (List AVal)
  | .slice id off _ _ => ob (h.row id) fun c => loadN c (Nat.mul n sz) off
  | .nilSlice => some []
  | .str s => when (Nat.beq sz 1) (ob (takeN n (sBytes s)) fun l => some (bytesV l))
  | _ => none
def newRowU (et : TypeId) (l : List AVal) (n : Nat) (h : Heap) : M AVal := ret1 (.slice h.next 0 n none) (h.alloc (rowObjU et l))
def killUnless (grows : Option Nat) (id need : Nat) (h : Heap) : Heap := match grows with
  | some u => match Nat.blt u need with | true => h | false => h.kill id
  | none => h.kill id
def appSlice (sz : Nat) (et : TypeId) (id off n : Nat) (lim : Option Nat) (new : List AVal) (h : Heap) (o : Option AObj) (need : Nat) : M AVal :=
  ob (capLo off sz et lim o) fun cap => match Nat.ble need cap with
    | true => okH (.slice id off need lim) (storeAt id (Nat.add off (Nat.mul n sz)) new h)
    | false => when (Nat.beq (Nat.mod off sz) 0) <| ob (ob (rowOf o) fun c => loadN c (Nat.mul n sz) off) fun old =>
      when (Nat.ble need 100000) (newRowU et (old ++ new) need (killUnless (capHi off sz lim o) id need h))
def appendV (sz : Nat) (et : TypeId) (m : Nat) (new : List AVal) (h : Heap) : AVal → M AVal
  | .nilSlice => match m with
    | 0 => ret1 .nilSlice h
    | _ + 1 => when (Nat.ble m 100000) (newRowU et new m h)
  | .slice id off n lim => seqN (Nat.add n m) fun need => appSlice sz et id off n lim new h (h.objs.get id) need
  | _ => none
def kAppend (sz : Nat) (et : TypeId) (s x : VK) : OpK := .e fun _ vs ρ h => ob (lenA (x.get vs ρ)) fun m => ob (firstA sz m h (x.get vs ρ)) fun new => appendV sz et m new h (s.get vs ρ)
/-- append of so many zero elements -/
def kAppendZ (sz : Nat) (et : TypeId) (z : List AVal) (s x : VK) : OpK := .e fun _ vs ρ h => natV (fun m => when (Nat.ble m 100000) (appendV sz et m (repl z m []) h (s.get vs ρ))) (x.get vs ρ)
/-- a capacity that is not known: the least that it may be, or a greater one; what is known of the row is made sharper. (Where it is the least an append makes a row next: the other one leaves the number out.) -/
def capSplit (sz id off lo : Nat) (h : Heap) : Option AObj → M AVal
  | some (.cells c l hi et) => seqN lo fun n => some [(.int .i64 (.ofNat n), h.upd id (.cells c l (some (Nat.add off (Nat.mul n sz))) et)),
      (.rng .i64 (some (.ofNat (Nat.succ n))) none, seqN (Nat.succ h.next) fun x => seqN (Nat.add off (Nat.mul (Nat.succ n) sz)) fun m => ⟨x, h.objs.put id (.cells c m hi et)⟩)]
  | _ => none
def capV (sz : Nat) (et : TypeId) (h : Heap) : AVal → M AVal
  | .nilSlice => ret1 (.int .i64 (.ofNat 0)) h
  | .slice id off _ lim => ob (capLo off sz et lim (h.objs.get id)) fun lo => match capHi off sz lim (h.objs.get id) with
    | some hi => match Nat.beq lo hi with
      | true => seqN lo fun n => ret1 (.int .i64 (.ofNat n)) h
      | false => capSplit sz id off lo h (h.objs.get id)
    | none => capSplit sz id off lo h (h.objs.get id)
  | _ => none
def kCap (sz : Nat) (et : TypeId) (x : VK) : OpK := .e fun _ vs ρ h => capV sz et h (x.get vs ρ)
def copyV (sz m : Nat) (src : AVal) (h : Heap) : AVal → M AVal
  | .nilSlice => ret1 (.int .i64 (.ofNat 0)) h
  | .slice id off n _ => seqN (minN m n) fun k => ob (firstA sz k h src) fun cs => okH (.int .i64 (.ofNat k)) (storeAt id off cs h)
  | _ => none
def kCopy (sz : Nat) (d x : VK) : OpK := .e fun _ vs ρ h => ob (lenA (x.get vs ρ)) fun m => copyV sz m (x.get vs ρ) h (d.get vs ρ)
def clearMap (h : Heap) : AVal → M AVal
  | .nilMap => ret1 undefA h
  | .map r => ob (mapOf h r) fun m => ret1 undefA (h.upd r (.map [] m.2))
  | _ => none
def clearSl (z : List AVal) (h : Heap) : AVal → M AVal
  | .nilSlice => ret1 undefA h
  | .slice id off n _ => okH undefA (storeAt id off (repl z n []) h)
  | _ => none
def kClearMap (x : VK) : OpK := .e fun _ vs ρ h => clearMap h (x.get vs ρ)
def kClearSl (z : List AVal) (x : VK) : OpK := .e fun _ vs ρ h => clearSl z h (x.get vs ρ)
def delEnt (h : Heap) (r : Nat) (es : List Ent) (c : Nat) : Option (Nat × AVal × Nat) → M AVal
  | some x => ret1 undefA (h.upd r (.map (eraseNth es x.1) c))
  | none => ret1 undefA h
def deleteV (P : TT) (ki : TI) (k : AVal) (h : Heap) : AVal → M AVal
  | .nilMap => when (keyOk ki k) (ret1 undefA h)
  | .map r => when (keyOk ki k) (ob (mapOf h r) fun m => ob (findA P h ki k m.1 0) fun x => delEnt h r m.1 m.2 x)
  | _ => none
def kDelete (P : TT) (ki : TI) (m k : VK) : OpK := .e fun _ vs ρ h => deleteV P ki (k.get vs ρ) h (m.get vs ρ)
def natsOf : List AVal → Option (List Nat)
  | [] => some []
  | v :: l => match v with
    | .int .u8 (.ofNat n) => when (Nat.blt n 256) (ob (natsOf l) fun r => some (n :: r))
    | _ => none
def strOf (c : T AVal) (off n : Nat) : Option Nat := ob (loadN c n off) fun l => ob (natsOf l) fun l => seqN (sOfNats 1 l) some
def byteRow (u : TypeId) : Option AObj → Option (T AVal)
  | some (.cells c _ _ et) => when (Nat.beq et u) (some c)
  | _ => none
def unsafeV (u : TypeId) (h : Heap) (p : AVal) (n : Nat) : M AVal := match n with
  | 0 => match p with
    | .ptr _ _ => ret1 (.str 1) h
    | .nilPtr => ret1 (.str 1) h
    | _ => none
  | n + 1 => match p with
    | .ptr id off => when (Nat.ble n 1000000) (ob (byteRow u (h.objs.get id)) fun c => ob (strOf c off (Nat.succ n)) fun s => ret1 (.str s) (h.kill id))
    | _ => none
def kUnsafe (u : TypeId) (p n : VK) : OpK := .e fun _ vs ρ h => natV (unsafeV u h (p.get vs ρ)) (n.get vs ρ)

/-! conversions -/
def convInt (k : IntKind) : AVal → Option AVal
  | .int _ n => mkI k (wrapA k n)
  | .dg _ r j c => when (kindEq k .u8) (some (.dg .u8 r j c))
  | _ => none
def kConvInt (k : IntKind) (x : VK) : OpK := .p fun vs ρ => convInt k (x.get vs ρ)
def convRune : AVal → Option AVal
  | .int _ (.ofNat n) => when (Nat.blt n 128) (some (.str (Nat.add 256 n)))
  | _ => none
def kConvRune (x : VK) : OpK := .p fun vs ρ => convRune (x.get vs ρ)
def isStr : AVal → Option AVal
  | .str s => some (.str s)
  | _ => none
def kConvStr (x : VK) : OpK := .p fun vs ρ => isStr (x.get vs ρ)
def bytesA (et : TypeId) (h : Heap) : AVal → M AVal
  | .str s => seqN (sLen s) fun n => newRowU et (bytesV (sBytes s)) n h
  | _ => none
def kToBytes (et : TypeId) (x : VK) : OpK := .e fun _ vs ρ h => bytesA et h (x.get vs ρ)
/-- groups of one number, one behind the other -/
def dgsOf (r : Nat) : List AVal → Option (List (Nat × Bool))
  | [] => some []
  | v :: l => match v with
    | .dg k r' j c => when (kindEq k .u8) (when (Nat.beq r r') (ob (dgsOf r l) fun m => some ((j, c) :: m)))
    | _ => none
def dgsAll : List AVal → Option AVal
  | .dg k r j c :: l => ob (dgsOf r (.dg k r j c :: l)) fun m => some (.sdg r m)
  | _ => none
def strD (c : T AVal) (off n : Nat) : Option AVal := match strOf c off n with
  | some s => some (.str s)
  | none => ob (loadN c n off) dgsAll
def ofBytes (h : Heap) : AVal → Option AVal
  | .nilSlice => some (.str 1)
  | .slice id off n _ => ob (h.row id) fun c => strD c off n
  | _ => none
def kOfBytes (x : VK) : OpK := .n fun vs ρ h => ofBytes h (x.get vs ρ)
/-- a pointer to a variable of the type and back again -/
def ptrAt (id off : Nat) (u : TypeId) (sz : Nat) : Option AObj → Option AVal
  | some (.cells _ lo _ et) => when (Nat.beq off 0) (when (Nat.beq et u) (when (Nat.ble sz lo) (when (Nat.blt 0 sz) (some (.ptr id off)))))
  | _ => none
def convPtr (u : TypeId) (sz : Nat) (h : Heap) : AVal → Option AVal
  | .ptr id off => ptrAt id off u sz (h.objs.get id)
  | .nilPtr => some .nilPtr
  | _ => none
def kConvPtr (u : TypeId) (sz : Nat) (x : VK) : OpK := .n fun vs ρ h => convPtr u sz h (x.get vs ρ)

/-! calls -/
def applyF (r : Rt) (args : List AVal) (h : Heap) (first captured : List AVal) : Fn → M AVal
  | .func f => r.call (.func f) (first ++ (args ++ captured)) h
  | .yield l => r.call (.yield l) (first ++ args) h
  | _ => none
def viaV (P : TT) (r : Rt) (h : Heap) (t : TypeId) (f : FuncId) (p : Bool) : List AVal → M AVal
  | [] => none
  | x :: rest => ob (P.get t) fun ti => match ti.desc, p with
    | .ptr _, true => r.call (.func f) (x :: rest) h
    | .ptr _, false => none
    | _, false => r.call (.func f) (x :: rest) h
    | _, true => none
def applyV (P : TT) (r : Rt) (args : List AVal) (h : Heap) : AVal → M AVal
  | .func fn first captured => match fn with
    | .via t path f p => when (isNilL path.toList) (viaV P r h t f p (first ++ args))
    | fn => applyF r args h first captured fn
  | _ => none
def kCall (f : FuncId) (l : LK) : OpK := .e fun r vs ρ h => r.call (.func f) (l.get vs ρ) h
def kApply (P : TT) (f : VK) (l : LK) : OpK := .e fun r vs ρ h => applyV P r (l.get vs ρ) h (f.get vs ρ)
def findM (name : String) : List (String × List (Nat × Bool) × Option (FuncId × Bool)) → Option (List (Nat × Bool) × Option (FuncId × Bool))
  | [] => none
  | x :: l => match decide (x.1 = name) with | true => some x.2 | false => findM name l
structure MK where
  run : Rt → List AVal → Heap → AVal → M AVal
def mCall (f : FuncId) : MK := ⟨fun r args h v => r.call (.func f) (v :: args) h⟩
def mLoad (f : FuncId) (i : TI) : MK := ⟨fun r args h v => ob (loadV i h v) fun w => r.call (.func f) (w :: args) h⟩
def mFail : MK := ⟨fun _ _ _ _ => none⟩
def mkM (P : TT) (d : TD) (f : FuncId) (p : Bool) : MK := match d with
  | .ptr e => match p with
    | true => mCall f
    | false => match P.get e with | some i => mLoad f i | none => mFail
  | _ => match p with
    | true => mFail
    | false => mCall f
def methK (P : TT) (name : String) (t : TypeId) : MK :=
  match P.get t with
  | none => mFail
  | some i => match findM name i.meths with
    | some ([], some x) => mkM P i.desc x.1 x.2
    | _ => mFail
def invokeV (P : TT) (name : String) (r : Rt) (args : List AVal) (h : Heap) : AVal → M AVal
  | .iface t v => (methK P name t).run r args h v
  | _ => none
def kInvoke (P : TT) (name : String) (x : VK) (l : LK) : OpK := .e fun r vs ρ h => invokeV P name r (l.get vs ρ) h (x.get vs ρ)
def deferV (l : List AVal) : AVal → Option (AVal × List AVal)
  | .func fn a b => some (.func fn a b, l)
  | _ => none
def kDefer (f : VK) (l : LK) : OpK := .d fun vs ρ => deferV (l.get vs ρ) (f.get vs ρ)

/-! the compiler of operations -/
def isConst : Operand → Bool
  | .const _ => true
  | _ => false
def isNilC : Operand → Bool
  | .const .nilIface => true
  | _ => false
def withT (P : TT) (t : TypeId) (f : TI → OpK) : OpK := match P.get t with
  | some i => f i
  | none => kFail
def withK (P : TT) (t : TypeId) (f : TI → OpK) : OpK := withT P t fun ki => match keyT P ki with
  | true => f ki
  | false => kFail
def cEq (sl : SL) (P : TT) (op : BinOp) (neg : Bool) (i : TI) (x y : Operand) : OpK := match i.desc with
  | .int _ => kCmp op (ik op) (sok op) (vk sl x) (vk sl y)
  | .str => kCmp op (ik op) (sok op) (vk sl x) (vk sl y)
  | .iface _ => match isNilC y with
    | true => kIsNil neg (vk sl x)
    | false => kEq P i neg (vk sl x) (vk sl y)
  | _ => kEq P i neg (vk sl x) (vk sl y)
def cBin (sl : SL) (P : TT) (op : BinOp) (t : TypeId) (x y : Operand) : OpK := match op with
  | .shl => kShl (vk sl x) (vk sl y)
  | .shr => kShr (vk sl x) (vk sl y)
  | .eql => withT P t fun i => cEq sl P .eql false i x y
  | .neq => withT P t fun i => cEq sl P .neq true i x y
  | op => match isCmp op with
    | false => kBin op (ik op) (sok op) (vk sl x) (vk sl y)
    | true => kCmp op (ik op) (sok op) (vk sl x) (vk sl y)
def szPos (i : TI) (k : OpK) : OpK := match i.size with
  | 0 => kFail
  | _ + 1 => k
def cSlice2 (sl : SL) (P : TT) (i : TI) (x : Operand) (lo hi : Option Operand) : OpK := match i.desc with
  | .str => kSliceStr lo (vkO sl hi) (vk sl x) (bk sl lo) (bk sl hi)
  | .slice e => withT P e fun ei => szPos ei (kSlice ei.size e (vk sl x) (bk sl lo) (bk sl hi))
  | _ => kFail
def cSlice3 (sl : SL) (P : TT) (i : TI) (x : Operand) (lo : Option Operand) (hi mx : Operand) : OpK := match i.desc with
  | .slice e => withT P e fun ei => szPos ei (kSlice3 ei.size e (vk sl x) (bk sl lo) (bkSome (vk sl hi)) (bkSome (vk sl mx)))
  | _ => kFail
def cSlice (sl : SL) (P : TT) (t : TypeId) (x : Operand) (lo hi mx : Option Operand) : OpK := withT P t fun i => match mx with
  | none => cSlice2 sl P i x lo hi
  | some m => match hi with
    | some hh => cSlice3 sl P i x lo hh m
    | none => kFail
def cFieldAddr (sl : SL) (P : TT) (s : TypeId) (x : Operand) (f : Nat) : OpK := withT P s fun i => match i.desc with
  | .struct fs => match nth fs f with
    | some fd => withT P fd.2.1 fun ti => szPos ti (kFieldAddr fd.1 (vk sl x))
    | none => kFail
  | _ => kFail
def cField (sl : SL) (P : TT) (s : TypeId) (x : Operand) (f : Nat) : OpK := withT P s fun i => match i.desc with
  | .struct fs => match nth fs f with
    | some fd => withT P fd.2.1 fun ti => kField ti fd.1 (vk sl x)
    | none => kFail
  | _ => kFail
def cIndexAddr (sl : SL) (P : TT) (t : TypeId) (x ix : Operand) : OpK := withT P t fun i => match i.desc with
  | .slice e => withT P e fun ei => kIdxSlice ei.size (vk sl x) (vk sl ix)
  | .arr n e => withT P e fun ei => kIdxArr n ei.size (vk sl x) (vk sl ix)
  | _ => kFail
def cIndex (sl : SL) (P : TT) (t : TypeId) (x ix : Operand) : OpK := withT P t fun i => match i.desc with
  | .str => kAtStr (vk sl x) (vk sl ix)
  | .arr n e => withT P e fun ei => kAtArr n ei (vk sl x) (vk sl ix)
  | _ => kFail
def cLookup (sl : SL) (P : TT) (t : TypeId) (x k : Operand) (ok : Bool) : OpK := withT P t fun i => match i.desc with
  | .map kt e => withK P kt fun ki => withT P e fun ei => kLookup P ki ei.zero ok (vk sl x) (vk sl k)
  | _ => kFail
def cMapPut (sl : SL) (P : TT) (t : TypeId) (m k x : Operand) : OpK := withT P t fun i => match i.desc with
  | .map kt _ => withK P kt fun ki => kMapPut P ki (vk sl m) (vk sl k) (vk sl x)
  | _ => kFail
def cMapEnt (sl : SL) (P : TT) (t : TypeId) (m k : Operand) : OpK := withT P t fun i => match i.desc with
  | .map kt e => withK P kt fun ki => withT P e fun ei => kMapEnt P ki ei.zero (vk sl m) (vk sl k)
  | _ => kFail
def cAssert (sl : SL) (P : TT) (x : Operand) (t : TypeId) (ok : Bool) : OpK := withT P t fun i => match i.desc with
  | .iface _ => kFail
  | .other => kFail
  | _ => kAssert t i.zero ok (vk sl x)
def cBuild (sl : SL) (P : TT) (t : TypeId) (parts : List (Nat × Operand)) : OpK := withT P t fun i => match i.desc with
  | .struct fs => kBuild i.zc (partsK sl (fieldPl P fs) parts)
  | .arr _ e => withT P e fun ei => kBuild i.zc (partsK sl (elemPl ei.size) parts)
  | _ => kFail
def cBuildSlice (sl : SL) (P : TT) (t : TypeId) (len : Nat) (parts : List (Nat × Operand)) : OpK := withT P t fun i => match i.desc with
  | .slice e => withT P e fun ei => szPos ei (match Nat.ble (Nat.mul len ei.size) 100000 with
    | true => kBuildSlice e len (repl ei.zc len []) (partsK sl (elemPl ei.size) parts)
    | false => kFail)
  | _ => kFail
def cMakeSlice (sl : SL) (P : TT) (t : TypeId) (l c : Operand) : OpK := withT P t fun i => match i.desc with
  | .slice e => withT P e fun ei => szPos ei (kMakeSlice e ei.zc (vk sl l) (vk sl c))
  | _ => kFail
def cFromStr (sl : SL) (P : TT) (d : TI) (x : Operand) : OpK := match d.desc with
  | .str => kConvStr (vk sl x)
  | .slice e => withT P e fun ei => match ei.desc with
    | .int .u8 => match ei.size with
      | 1 => kToBytes e (vk sl x)
      | _ => kFail
    | _ => kFail
  | _ => kFail
def cFromSlice (sl : SL) (P : TT) (e : TypeId) (d : TI) (x : Operand) : OpK := match d.desc with
  | .str => withT P e fun ei => match ei.desc with
    | .int .u8 => kOfBytes (vk sl x)
    | _ => kFail
  | _ => kFail
def cFromInt (sl : SL) (d : TI) (x : Operand) : OpK := match d.desc with
  | .int k => kConvInt k (vk sl x)
  | .str => kConvRune (vk sl x)
  | _ => kFail
def cConvert (sl : SL) (P : TT) (s d : TypeId) (x : Operand) : OpK := withT P s fun si => withT P d fun di => match si.desc with
  | .int _ => cFromInt sl di x
  | .str => cFromStr sl P di x
  | .slice e => cFromSlice sl P e di x
  | .uptr => match di.desc with | .ptr e => withT P e fun ei => kConvPtr e ei.size (vk sl x) | _ => kFail
  | .ptr e => match di.desc with | .uptr => withT P e fun ei => kConvPtr e ei.size (vk sl x) | _ => kFail
  | _ => kFail
def cLen (sl : SL) (P : TT) (x : Operand) (t : TypeId) : OpK := withT P t fun i => match i.desc with
  | .arr n _ => kConst (.int .i64 (.ofNat n))
  | .ptr a => withT P a fun ai => match ai.desc with
    | .arr n _ => kConst (.int .i64 (.ofNat n))
    | _ => kFail
  | .str => kLenStr (vk sl x)
  | .slice _ => kLenSl (vk sl x)
  | .map _ _ => kLenMap (vk sl x)
  | _ => kFail
def withElem (P : TT) (t : TypeId) (f : TypeId → TI → OpK) : OpK := withT P t fun i => match i.desc with
  | .slice e => withT P e fun ei => szPos ei (f e ei)
  | _ => kFail
def cAppend (sl : SL) (P : TT) (s x : Operand) (ats : List TypeId) : OpK := match ats with
  | [t] => withElem P t fun e ei => kAppend ei.size e (vk sl s) (vk sl x)
  | [t, xt] => withElem P t fun e ei => withT P xt fun xi => match xi.desc with
    | .int _ => kAppendZ ei.size e ei.zc (vk sl s) (vk sl x)
    | _ => kAppend ei.size e (vk sl s) (vk sl x)
  | _ => kFail
def cClear (sl : SL) (P : TT) (x : Operand) (t : TypeId) : OpK := withT P t fun i => match i.desc with
  | .slice e => withT P e fun ei => szPos ei (kClearSl ei.zc (vk sl x))
  | .map _ _ => kClearMap (vk sl x)
  | _ => kFail
def cDelete (sl : SL) (P : TT) (m k : Operand) (t : TypeId) : OpK := withT P t fun i => match i.desc with
  | .map kt _ => withK P kt fun ki => kDelete P ki (vk sl m) (vk sl k)
  | _ => kFail
def cUnsafe (sl : SL) (P : TT) (p n : Operand) (t : TypeId) : OpK := withT P t fun i => match i.desc with
  | .ptr e => withT P e fun ei => match ei.desc with
    | .int .u8 => match ei.size with
      | 1 => kUnsafe e (vk sl p) (vk sl n)
      | _ => kFail
    | _ => kFail
  | _ => kFail
def cBuiltin (sl : SL) (P : TT) (ats : List TypeId) (args : List Operand) (b : Builtin) : OpK :=
  match b, args, ats with
  | .append, [s, x], ats => cAppend sl P s x ats
  | .len, [x], t :: _ => cLen sl P x t
  | .cap, [x], t :: _ => withElem P t fun e ei => kCap ei.size e (vk sl x)
  | .copy, [d, x], t :: _ => withElem P t fun _ ei => kCopy ei.size (vk sl d) (vk sl x)
  | .clear, [x], t :: _ => cClear sl P x t
  | .delete, [m, k], t :: _ => cDelete sl P m k t
  | .min, args, _ => kMM false (lk sl args)
  | .max, args, _ => kMM true (lk sl args)
  | .unsafeSliceData, [x], _ => kData (vk sl x)
  | .unsafeString, [p, n], t :: _ => cUnsafe sl P p n t
  | _, _, _ => kFail
def cCall (sl : SL) (P : TT) (c : Call) : OpK := match c.callee with
  | .builtin b => cBuiltin sl P c.argTypes.toList c.args.toList b
  | .invoke recv name => kInvoke P name (vk sl recv) (lk sl c.args.toList)
  | .value f => match f with
    | .func f => kCall f (lk sl c.args.toList)
    | f => kApply P (vk sl f) (lk sl c.args.toList)
def cDefer (sl : SL) (c : Call) : OpK := match sl.rnd with
 | true => kFail
 | false => match c.callee with
  | .value f => kDefer (vk sl f) (lk sl c.args.toList)
  | _ => kFail
def cIface (sl : SL) (P : TT) (t : TypeId) (x : Operand) : OpK := withT P t fun i => match i.desc with
  | .iface _ => kFail
  | .other => kFail
  | _ => kIface t (vk sl x)
def cFunc (fn : Fn) (a b : LK) : OpK := match fn with
  | .yield _ => kFail
  | fn => kFunc fn a b
def cMakeMap (sl : SL) (P : TT) (t : TypeId) (x : Operand) : OpK := withT P t fun i => match i.desc with
  | .map _ _ => kMakeMapR (vk sl x)
  | _ => kFail
def cRng (sl : SL) (P : TT) (t : TypeId) (x : Operand) : OpK := withT P t fun i => match i.desc with
  | .str => kRangeStr (vk sl x)
  | .map _ _ => kRangeMap (vk sl x)
  | _ => kFail
def opK (sl : SL) (P : TT) : Op → OpK
  | .move x => kMove (vk sl x)
  | .assign x => kMove (vk sl x)
  | .pick c a b => kPick (vk sl c) (vk sl a) (vk sl b)
  | .alloc e => withT P e fun i => kAlloc e i.zc
  | .box e x => kBox e (vk sl x)
  | .build t parts => cBuild sl P t parts.toList
  | .buildSlice t len parts => cBuildSlice sl P t len parts.toList
  | .insert t m k x => cMapPut sl P t m k x
  | .load t a => withT P t (kLoad (vk sl a))
  | .store t a x => withT P t fun i => kStore i.size (vk sl a) (vk sl x)
  | .nilCheck x => kNil (vk sl x)
  | .binOp op t x y _ => cBin sl P op t x y
  | .unOp op _ x => kUn op (vk sl x)
  | .convert s d x => cConvert sl P s d x
  | .makeInterface t x => cIface sl P t x
  | .makeFunc fn a b => cFunc fn (lk sl a.toList) (lk sl b.toList)
  | .makeMap t r => match r with | none => kMakeMap | some x => cMakeMap sl P t x
  | .makeSlice t l c => cMakeSlice sl P t l c
  | .slice t x lo hi mx => cSlice sl P t x lo hi mx
  | .fieldAddr s x f => cFieldAddr sl P s x f
  | .field s x f => cField sl P s x f
  | .indexAddr t x ix => cIndexAddr sl P t x ix
  | .index t x ix => cIndex sl P t x ix
  | .lookup t x k ok => cLookup sl P t x k ok
  | .mapUpdate t m k x => cMapPut sl P t m k x
  | .mapEntry t m k => cMapEnt sl P t m k
  | .entryStore _ m s x => kEntPut (vk sl m) (vk sl s) (vk sl x)
  | .range t x => cRng sl P t x
  | .next it s => match s with | true => kNextS (vk sl it) | false => kNextM (vk sl it)
  | .entry it => kEntry (vk sl it)
  | .typeAssert x _ t ok => cAssert sl P x t ok
  | .extract x i => kExt i (vk sl x)
  | .call c => cCall sl P c
  | .defer c => cDefer sl c
  | _ => kFail

/-! ## regions -/
structure StK where
  run : Rt → List AVal → Env → Heap → M Env
/-- what becomes of a result: a global temporary, a local one, none -/
inductive DK where
  | glob (s : SK AVal)
  | loc
  | none
  | bad
def nextG (s : SK AVal) (next : StK) (r : Rt) (vs : List AVal) (e : Env) (h : Heap) (v : AVal) : M Env := next.run r vs ⟨s.set (some v) e.tmps, e.defers⟩ h
structure NK where   -- go on with a result
  go : Rt → List AVal → Env → Heap → AVal → M Env
def goG (s : SK AVal) (next : StK) : NK := ⟨fun r vs e h v => next.run r vs ⟨s.set (some v) e.tmps, e.defers⟩ h⟩
def goL (next : StK) : NK := ⟨fun r vs e h v => next.run r (v :: vs) e h⟩
def goN (next : StK) : NK := ⟨fun r vs e h _ => next.run r vs e h⟩
def goK (next : StK) : DK → NK
  | .glob s => goG s next
  | .loc => goL next
  | .none => goN next
  | .bad => ⟨fun _ _ _ _ _ => none⟩
def nStep (k : NK) (r : Rt) (vs : List AVal) (e : Env) (h : Heap) : Option AVal → M Env
  | none => none
  | some v => k.go r vs e h v
def uStep (k : NK) (r : Rt) (vs : List AVal) (e : Env) (h : Heap) : Option AVal → M Env
  | none => none
  | some v => match v with
    | .unkBool => appO (k.go r vs e h (.bool true)) (k.go r vs e h (.bool false))
    | v => k.go r vs e h v
def aStep (k : NK) (r : Rt) (vs : List AVal) (e : Env) (h : Heap) : Option (AObj × AVal) → M Env
  | none => none
  | some x => k.go r vs e (h.alloc x.1) x.2
def dStep (k : NK) (r : Rt) (vs : List AVal) (e : Env) (h : Heap) : Option (AVal × List AVal) → M Env
  | none => none
  | some x => k.go r vs ⟨e.tmps, x :: e.defers⟩ h undefA
def stepK (k : NK) : OpK → StK
  | .p f => ⟨fun r vs e h => nStep k r vs e h (f vs e.tmps)⟩
  | .n f => ⟨fun r vs e h => nStep k r vs e h (f vs e.tmps h)⟩
  | .u f => ⟨fun r vs e h => uStep k r vs e h (f vs e.tmps)⟩
  | .a f => ⟨fun r vs e h => aStep k r vs e h (f vs e.tmps h.next)⟩
  | .e f => ⟨fun r vs e h => bindM (f r vs e.tmps h) fun v h' => k.go r vs e h' v⟩
  | .d f => ⟨fun r vs e h => dStep k r vs e h (f vs e.tmps)⟩
def dkOf (fi : FI) : Option Tmp → DK
  | none => .none
  | some d => match Nat.blt d fi.nt with
    | false => .bad
    | true => match Nat.testBit fi.glob d with
      | true => .glob (sk dep d)
      | false => .loc
def pushT (glob : Nat) (st : List Tmp) : Option Tmp → List Tmp
  | none => st
  | some d => match Nat.testBit glob d with
    | true => st
    | false => d :: st
/-- what stands in the place of an operation that is not wanted -/
def skipA : AVal := .tuple []
def guardRun (want : Bool) (no : NK) (k : StK) (r : Rt) (vs : List AVal) (e : Env) (h : Heap) (v : AVal) : M Env :=
  match v with
  | .bool b => match eqBool b want with
    | true => k.run r vs e h
    | false => no.go r vs e h skipA
  | .tuple l => match l with
    | [] => no.go r vs e h skipA
    | _ => none
  | _ => none
def guardK (g : VK) (want : Bool) (no : NK) (k : StK) : StK :=
  ⟨fun r vs e h => guardRun want no k r vs e h (g.get vs e.tmps)⟩
def stFail : StK := ⟨fun _ _ _ _ => none⟩
def dstOf (ops : List Oper) (j : Nat) : Option Tmp := ob (nth ops j) fun o => o.dst
def guardO (sl : SL) (ops : List Oper) (g : Nat × Bool) (no : NK) (k : StK) : StK := match dstOf ops g.1 with
  | some d => guardK (vTmpS sl d) g.2 no k
  | none => stFail
def operK (sl : SL) (P : TT) (ops : List Oper) (o : Oper) (k : NK) : StK :=
  match o.guard with
  | none => stepK k (opK sl P o.op)
  | some g => guardO sl ops g k (stepK k (opK sl P o.op))
def stEnd : StK := ⟨fun _ _ e h => ret1 e h⟩
def opsK (fi : FI) (P : TT) (ops : List Oper) : List Oper → List Tmp → StK
  | [], _ => stEnd
  | o :: l, st => operK ⟨fi.glob, st, fi.rnd⟩ P ops o (goK (opsK fi P ops l (pushT fi.glob st o.dst)) (dkOf fi o.dst))

/-! regions that draw their order: the operations in the order of a plan, each as early as may be. A read that may stand behind
  effects is asked again after so many of them -/
def recheck (f : Heap → Option AVal) (v : AVal) (h : Heap) : Bool := match f h with
  | none => false
  | some w => beqV 8 v w
def recheckL (h : Heap) : List Pend → Option (List Pend)
  | [] => some []
  | p :: l => match p.left with
    | 0 => recheckL h l
    | k + 1 => when (recheck p.f p.v h) (ob (recheckL h l) fun l => some (⟨p.f, p.v, k⟩ :: l))
def skipL : List Pend → List Pend
  | [] => []
  | p :: l => match p.left with
    | 0 => skipL l
    | k + 1 => ⟨p.f, p.v, k⟩ :: skipL l
/-- after an effect -/
def goE (k : NK) : NK := ⟨fun r vs e h v => ob (recheckL h r.pend) fun l => k.go ⟨r.call, l⟩ vs e h v⟩
def goSkip (k : NK) : NK := ⟨fun r vs e h v => k.go ⟨r.call, skipL r.pend⟩ vs e h v⟩
def nStepD (d : Nat) (k : NK) (r : Rt) (vs : List AVal) (e : Env) (h : Heap) (f : Heap → Option AVal) : Option AVal → M Env
  | none => none
  | some v => k.go ⟨r.call, ⟨f, v, d⟩ :: r.pend⟩ vs e h v
def noOpen : AVal → Option AVal
  | .unkBool => none
  | v => some v
def stepD (d : Nat) (k : NK) : OpK → StK
  | .p f => ⟨fun r vs e h => nStep k r vs e h (f vs e.tmps)⟩
  | .n f => match d with
    | 0 => ⟨fun r vs e h => nStep k r vs e h (f vs e.tmps h)⟩
    | d + 1 => ⟨fun r vs e h => nStepD (Nat.succ d) k r vs e h (f vs e.tmps) (f vs e.tmps h)⟩
  | .u f => ⟨fun r vs e h => nStep k r vs e h (ob (f vs e.tmps) noOpen)⟩
  | .a f => ⟨fun r vs e h => aStep k r vs e h (f vs e.tmps h.next)⟩
  | .e f => ⟨fun r vs e h => bindM (f r vs e.tmps h) fun v h' => (goE k).go r vs e h' v⟩
  | .d _ => stFail
def isE : OpK → Bool
  | .e _ => true
  | _ => false
def noD (e : Bool) (k : NK) : NK := match e with
  | true => goSkip k
  | false => k
def operD2 (sl : SL) (ops : List Oper) (o : Oper) (d : Nat) (ef : Bool) (k : NK) (K : OpK) : StK :=
  match eqBool ef (isE K) with
  | false => stFail
  | true => match o.guard with
    | none => stepD d k K
    | some g => guardO sl ops g (noD ef k) (stepD d k K)
def operD (sl : SL) (P : TT) (ops : List Oper) (o : Oper) (d : Nat) (ef : Bool) (k : NK) : StK := operD2 sl ops o d ef k (opK sl P o.op)
def effO (fi : FI) (P : TT) (o : Oper) : Bool := isE (opK ⟨fi.glob, [], fi.rnd⟩ P o.op)
def planK (fi : FI) (P : TT) (ops : List Oper) : List (Nat × Nat) → List Tmp → StK
  | [], _ => stEnd
  | p :: l, st => match nth ops p.1 with
    | none => stFail
    | some o => operD ⟨fi.glob, st, fi.rnd⟩ P ops o p.2 (effO fi P o) (goK (planK fi P ops l (pushT fi.glob st o.dst)) (dkOf fi o.dst))
/-! what a plan must meet -/
def bit1 (i : Nat) : Nat := Nat.shiftLeft 1 i
def bAny : Ground → Bool
  | .textOnly _ => false
  | .gcOnly _ => false
  | _ => true
def bText : Ground → Bool
  | .gcOnly _ => false
  | _ => true
def bGc : Ground → Bool
  | .textOnly _ => false
  | _ => true
/-- the operations that an operation stands behind in every order -/
def preds : List Edge → Nat
  | [] => 0
  | e :: l => match bAny e.ground with
    | true => Nat.lor (bit1 e.on) (preds l)
    | false => preds l
def subM (a b : Nat) : Bool := Nat.beq (Nat.land a b) a
def hasM (m i : Nat) : Bool := Nat.testBit m i
/-- the first operation that writes a temporary -/
def wrOf (t : Tmp) : List Oper → Nat → Option Nat
  | [], _ => none
  | o :: l, i => match o.dst with
    | some d => match Nat.beq d t with | true => some i | false => wrOf t l (Nat.succ i)
    | none => wrOf t l (Nat.succ i)
def orB (a b : Bool) : Bool := match a with | true => true | false => b
def predsO : Option Oper → Nat
  | none => 0
  | some o => preds o.after.toList
/-- a temporary that an operation reads: nothing here writes it, or what writes it stands ahead of the operation, or behind it -/
def inM (ops : List Oper) (i m : Nat) : Option Nat → Bool
  | none => true
  | some j => orB (hasM m j) (hasM (predsO (nth ops j)) i)
def opndOk (ops : List Oper) (i m : Nat) : Operand → Bool
  | .tmp t => inM ops i m (wrOf t ops 0)
  | _ => true
def isJust (i : Nat) : Option Nat → Bool
  | none => false
  | some j => Nat.beq i j
def dstOk (ops : List Oper) (i : Nat) : Option Tmp → Bool
  | none => true
  | some d => isJust i (wrOf d ops 0)
def guardOk (m : Nat) : Option (Nat × Bool) → Bool
  | none => true
  | some g => hasM m g.1
/-- reads and behind how many effects more they may stand -/
def dropR (m : Nat) : List (Nat × Nat) → Option (List (Nat × Nat))
  | [] => some []
  | x :: l => match x.2 with
    | 0 => match hasM m x.1 with | true => dropR m l | false => none
    | k + 1 => ob (dropR m l) fun l => some ((x.1, k) :: l)
def opOk (ops : List Oper) (i D L : Nat) (m : Nat) (o : Oper) : Bool :=
  andB (notB (hasM D i)) (andB (subM m D) (andB (match L with | 0 => true | L => notB (Nat.beq (Nat.land m L) 0))
    (andB (allB (opndOk ops i m) o.op.operands.toList) (andB (dstOk ops i o.dst) (guardOk m o.guard)))))
def lateM (b : Nat) : Nat → Nat
  | 0 => 0
  | n + 1 => Nat.lor b (n + 1)
/-- D: the operations that have been reckoned; L: those since the last effect (0 where there has been none) -/
def planWalk (ops : List Oper) (eff : Oper → Bool) : List (Nat × Nat) → Nat → Nat → List (Nat × Nat) → Bool
  | [], D, _, _ => Nat.beq D (Nat.sub (bit1 ops.length) 1)
  | p :: l, D, L, R => match nth ops p.1 with
    | none => false
    | some o => match opOk ops p.1 D L (preds o.after.toList) o with
      | false => false
      | true => match eff o with
        | true => match dropR (preds o.after.toList) R with
          | none => false
          | some R' => planWalk ops eff l (Nat.lor (bit1 p.1) D) (bit1 p.1) R'
        | false => planWalk ops eff l (Nat.lor (bit1 p.1) D) (lateM (bit1 p.1) L) ((p.1, p.2) :: R)
def edgesIn (b : Ground → Bool) (D : Nat) : List Edge → Bool
  | [] => true
  | e :: l => match b e.ground with
    | true => andB (hasM D e.on) (edgesIn b D l)
    | false => edgesIn b D l
/-- an order in which the operations may come -/
def topoOk (b : Ground → Bool) (ops : List Oper) : List Nat → Nat → Bool
  | [], D => Nat.beq D (Nat.sub (bit1 ops.length) 1)
  | i :: l, D => match nth ops i with
    | none => false
    | some o => andB (edgesIn b D o.after.toList) (topoOk b ops l (Nat.lor (bit1 i) D))
def upTo : Nat → List Nat → List Nat
  | 0, acc => acc
  | n + 1, acc => upTo n (n :: acc)
def gcOrd (n : Nat) : List Nat → List Nat
  | [] => upTo n []
  | l => l
def planOk (ops : List Oper) (eff : Oper → Bool) (p : Plan) : Bool :=
  andB (topoOk bText ops (upTo ops.length []) 0) (andB (topoOk bGc ops (gcOrd ops.length p.gc) 0) (andB (Nat.ble p.ord.length ops.length) (planWalk ops eff p.ord 0 0 [])))
def drawK (fi : FI) (P : TT) (ops : List Oper) : Option Plan → StK
  | none => stFail
  | some p => match planOk ops (effO fi P) p with
    | true => ⟨fun r vs e h => (planK fi P ops p.ord []).run ⟨r.call, []⟩ vs e h⟩
    | false => stFail

/-! ## merging of branches: of those with the same value ONE is kept, with the objects that are the same in all of them -/
def eqEnts (d : Nat) : List Ent → List Ent → Bool
  | [], l => isNilL l
  | e :: es, m => match m with
    | [] => false
    | f :: fs => match Nat.beq e.2.2 f.2.2 with
      | false => false
      | true => match beqV d e.1 f.1 with
        | false => false
        | true => match beqV d e.2.1 f.2.1 with
          | false => false
          | true => eqEnts d es fs
def eqNats : List Nat → List Nat → Bool
  | [], l => isNilL l
  | a :: l, m => match m with
    | [] => false
    | b :: m => match Nat.beq a b with | true => eqNats l m | false => false
def eqOV (d : Nat) : Option AVal → Option AVal → Bool
  | none, none => true
  | some a, some b => beqV d a b
  | _, _ => false
def eqRow (d : Nat) : Nat → T AVal → T AVal → Bool
  | 0, _, _ => false
  | n + 1, x, y => match x with
    | .nil => match y with
      | .nil => true
      | .node .. => false
    | .node v a0 a1 a2 a3 a4 a5 a6 a7 => match y with
      | .nil => false
      | .node w b0 b1 b2 b3 b4 b5 b6 b7 => match eqOV d v w with
        | false => false
        | true => match eqRow d n a0 b0 with
          | false => false
          | true => match eqRow d n a1 b1 with
            | false => false
            | true => match eqRow d n a2 b2 with
              | false => false
              | true => match eqRow d n a3 b3 with
                | false => false
                | true => match eqRow d n a4 b4 with
                  | false => false
                  | true => match eqRow d n a5 b5 with
                    | false => false
                    | true => match eqRow d n a6 b6 with
                      | false => false
                      | true => eqRow d n a7 b7
def beqO : AObj → AObj → Bool
  | .cells c lo hi et, .cells c' lo' hi' et' => match Nat.beq lo lo' with
    | false => false
    | true => match eqLim hi hi' with
      | false => false
      | true => match Nat.beq et et' with
        | false => false
        | true => eqRow 8 dep c c'
  | .map es c, .map es' c' => match Nat.beq c c' with
    | false => false
    | true => eqEnts 8 es es'
  | .mapIter m s l a, .mapIter m' s' l' a' => match eqLim m m' with
    | false => false
    | true => match Nat.beq s s' with
      | false => false
      | true => match Nat.beq a a' with
        | false => false
        | true => eqNats l l'
  | .strIter s p, .strIter s' p' => match Nat.beq s s' with
    | false => false
    | true => Nat.beq p p'
  | _, _ => false
def interV {α : Type} (p : α → α → Bool) (x y : Option α) : Option α := match x with
  | none => none
  | some a => match y with
    | none => none
    | some b => match p a b with | true => some a | false => none
def seqT {α β : Type} (t : T α) (f : T α → β) : β := match t with
  | .nil => f .nil
  | .node v a0 a1 a2 a3 a4 a5 a6 a7 => f (.node v a0 a1 a2 a3 a4 a5 a6 a7)
def seqO {α β : Type} (t : Option α) (f : Option α → β) : β := match t with
  | none => f none
  | some v => f (some v)
def interN {α : Type} (p : α → α → Bool) : Nat → T α → T α → T α
  | 0, _, _ => .nil
  | n + 1, x, y => match x with
    | .nil => .nil
    | .node v a0 a1 a2 a3 a4 a5 a6 a7 => match y with
      | .nil => .nil
      | .node w b0 b1 b2 b3 b4 b5 b6 b7 => seqO (interV p v w) fun u =>
        seqT (interN p n a0 b0) fun c0 => seqT (interN p n a1 b1) fun c1 => seqT (interN p n a2 b2) fun c2 => seqT (interN p n a3 b3) fun c3 =>
        seqT (interN p n a4 b4) fun c4 => seqT (interN p n a5 b5) fun c5 => seqT (interN p n a6 b6) fun c6 => seqT (interN p n a7 b7) fun c7 =>
        .node u c0 c1 c2 c3 c4 c5 c6 c7
def interH (a b : Heap) : Heap := seqN (maxN a.next b.next) fun n => seqT (interN beqO dep a.objs b.objs) fun t => ⟨n, t⟩
def insM (x : AVal × Heap) : List (AVal × Heap) → List (AVal × Heap)
  | [] => [x]
  | y :: l => match beqV 8 x.1 y.1 with
    | true => (y.1, interH y.2 x.2) :: l
    | false => y :: insM x l
def mergeL : List (AVal × Heap) → List (AVal × Heap)
  | [] => []
  | x :: l => insM x (mergeL l)
def many {α : Type} (f : List α → List α) : List α → List α
  | [] => []
  | x :: l => match l with
    | [] => [x]
    | y :: l => f (x :: y :: l)
def mergeM (m : M AVal) : M AVal := match m with
  | none => none
  | some l => some (many mergeL l)
def mergeIf (b : Bool) (m : M AVal) : M AVal := match b with
  | false => m
  | true => mergeM m
/-! the same behind a statement -/
def eqEx : AExit → AExit → Bool
  | .normal, .normal => true
  | .exit a, .exit b => Nat.beq a b
  | .ret, .ret => true
  | _, _ => false
def sameE (x y : AExit × Env) : Bool := match eqEx x.1 y.1 with
  | false => false
  | true => match isNilL x.2.defers with
    | false => false
    | true => isNilL y.2.defers
/-! the same objects, but for iterators, loops, and boxes of one cell -/
def softO (a b : AObj) : Bool := match a with
  | .mapIter _ _ _ _ => match b with
    | .mapIter _ _ _ _ => true
    | _ => false
  | .cells c lo hi et => match b with
    | .cells c' lo' hi' et' => match Nat.ble lo 1 with
      | true => Nat.ble lo' 1
      | false => beqO (.cells c lo hi et) (.cells c' lo' hi' et')
    | _ => false
  | .loop _ => match b with
    | .loop _ => true
    | _ => false
  | a => beqO a b
/-- (what is not there is the same as anything: behind a merging it is not there) -/
def softV (x y : Option AObj) : Bool := match x with
  | none => true
  | some a => match y with
    | none => true
    | some b => softO a b
def softN : Nat → T AObj → T AObj → Bool
  | 0, _, _ => false
  | n + 1, x, y => match x with
    | .nil => true
    | .node v a0 a1 a2 a3 a4 a5 a6 a7 => match y with
      | .nil => true
      | .node w b0 b1 b2 b3 b4 b5 b6 b7 => match softV v w with
        | false => false
        | true => match softN n a0 b0 with
          | false => false
          | true => match softN n a1 b1 with
            | false => false
            | true => match softN n a2 b2 with
              | false => false
              | true => match softN n a3 b3 with
                | false => false
                | true => match softN n a4 b4 with
                  | false => false
                  | true => match softN n a5 b5 with
                    | false => false
                    | true => match softN n a6 b6 with
                      | false => false
                      | true => softN n a7 b7
def interE (x y : (AExit × Env) × Heap) : (AExit × Env) × Heap := seqT (interN (beqV 8) dep x.1.2.tmps y.1.2.tmps) fun t => ((x.1.1, ⟨t, x.1.2.defers⟩), interH x.2 y.2)
/-- soft: only where all objects are the same, but for iterators -/
def maySoft (soft : Bool) (x y : Heap) : Bool := match soft with
  | false => true
  | true => softN dep x.objs y.objs
def insE (soft : Bool) (x : (AExit × Env) × Heap) : List ((AExit × Env) × Heap) → List ((AExit × Env) × Heap)
  | [] => [x]
  | y :: l => match sameE x.1 y.1 with
    | true => match maySoft soft x.2 y.2 with
      | true => interE y x :: l
      | false => y :: insE soft x l
    | false => y :: insE soft x l
def mergeEL (soft : Bool) : List ((AExit × Env) × Heap) → List ((AExit × Env) × Heap)
  | [] => []
  | x :: l => insE soft x (mergeEL soft l)
def mergeE (soft : Bool) (m : M (AExit × Env)) : M (AExit × Env) := match m with
  | none => none
  | some l => some (many (mergeEL soft) l)

/-! ## statements -/
structure CK where
  run : Rt → Env → Heap → M (AExit × Env)
def seqC (b : CK) (r : Rt) (x : AExit × Env) (h : Heap) : M (AExit × Env) := match x.1 with
  | .normal => b.run r x.2 h
  | _ => ret1 x h
def cSeq (a b : CK) : CK := ⟨fun r e h => bindM (a.run r e h) (seqC b r)⟩
def condC (a b : CK) (r : Rt) (e : Env) (h : Heap) : AVal → M (AExit × Env)
  | .bool c => match c with | true => a.run r e h | false => b.run r e h
  | _ => none
def cCond (c : VK) (a b : CK) : CK := ⟨fun r e h => condC a b r e h (c.get [] e.tmps)⟩
def blockC (id : Nat) (x : AExit × Env) (h : Heap) : M (AExit × Env) := match x.1 with
  | .exit id' => match Nat.beq id' id with | true => ret1 (.normal, x.2) h | false => ret1 x h
  | _ => ret1 x h
def cBlock (id : Nat) (b : CK) : CK := ⟨fun r e h => bindM (b.run r e h) (blockC id)⟩
def iterC (rec : Env → Heap → M (AExit × Env)) (x : AExit × Env) (h : Heap) : M (AExit × Env) := match x.1 with
  | .normal => rec x.2 h
  | _ => ret1 x h
def iterK (body : Env → Heap → M (AExit × Env)) : Nat → Env → Heap → M (AExit × Env)
  | 0, _, _ => none
  | n + 1, e, h => bindM (body e h) (iterC (iterK body n))
def cLoop (b : CK) : CK := ⟨fun r e h => iterK (b.run r) 10000 e h⟩
def cExit (x : AExit) : CK := ⟨fun _ e h => ret1 (x, e) h⟩
def cFail : CK := ⟨fun _ _ _ => none⟩
def cRegion (s : StK) : CK := ⟨fun r e h => bindM (s.run r [] e h) fun e h => ret1 (.normal, e) h⟩
def pendC (e : Env) (h : Heap) : Option Code → M (AExit × Env)
  | none => ret1 (.normal, e) h
  | some .ret => ret1 (.ret, e) h
  | some (.exit id) => ret1 (.exit id, e) h
  | _ => none
def afterO (l : Nat) (e : Env) (h : Heap) : Option AObj → M (AExit × Env)
  | some (.loop r) => match r.state with
    | .busy => none
    | _ => pendC e (h.upd l (.loop { r with state := .exhausted })) r.pending
  | _ => none
def afterLoop (l : Nat) (e : Env) (h : Heap) : M (AExit × Env) := afterO l e h (h.objs.get l)
def loopObj (fi : FI) (ps : List Tmp) (assign body : Code) (e : Env) : AObj := .loop ⟨.ready, none, fi, e.tmps, ps, assign, body⟩
/-- the function that is ranged over is called: one that has a body -/
def rangeV (r : Rt) (l : Nat) (h : Heap) : AVal → M AVal
  | .func fn first captured => match fn with
    | .func f => r.call (.body f) (first ++ (.func (.yield l) [] [] :: captured)) h
    | _ => none
  | _ => none
def rangeC (mk : Env → AObj) (f : VK) (r : Rt) (e : Env) (h : Heap) (l : Nat) : M (AExit × Env) :=
  bindM (rangeV r l (h.alloc (mk e)) (f.get [] e.tmps)) fun _ h' => afterLoop l e h'
def rndOf (fi : FI) : FI := ⟨fi.glob, fi.nt, fi.plans, true, 0⟩
def cRange (mk : Env → AObj) (f : VK) : CK := ⟨fun r e h => rangeC mk f r e h h.next⟩
def regionK (fi : FI) (P : TT) (id : Nat) (ops : List Oper) (draw : Bool) : CK := match draw with
  | false => cRegion (opsK fi P ops ops [])
  | true => cRegion (drawK fi P ops (fi.plans.get id))
def thenK (k : Option CK) (b : CK) : CK := match k with
  | none => b
  | some a => cSeq a b
def mergeC (b s : Bool) (k : CK) : CK := match b with
  | false => match s with
    | false => k
    | true => ⟨fun r e h => mergeE true (k.run r e h)⟩
  | true => ⟨fun r e h => mergeE false (k.run r e h)⟩
/-- a statement behind what stands ahead of it -/
def codeQ (fi : FI) (P : TT) : Code → Option CK → CK
  | .skip, k => thenK k (cExit .normal)
  | .label _, k => thenK k (cExit .normal)
  | .region id ops draw, k => mergeC (Nat.testBit fi.mks (Nat.succ (Nat.mul 2 id))) (Nat.testBit fi.mks (Nat.succ (Nat.succ (Nat.mul 2 id)))) (thenK k (regionK fi P id ops.toList draw))
  | .seq a b, k => codeQ fi P b (some (codeQ fi P a k))
  | .cond c a b, k => thenK k (cCond (vk ⟨fi.glob, [], fi.rnd⟩ c) (codeQ fi P a none) (codeQ fi P b none))
  | .block id b, k => thenK k (cBlock id (codeQ fi P b none))
  | .loop b, k => thenK k (cLoop (codeQ fi P b none))
  | .scope b, k => thenK k (codeQ fi P b none)
  | .exit id, k => thenK k (cExit (.exit id))
  | .ret, k => thenK k (cExit .ret)
  | .rangeFunc f ps assign body, k => thenK k (match fi.rnd with
    | true => cFail
    | false => cRange (loopObj (rndOf fi) ps.toList assign body) (vk ⟨fi.glob, [], fi.rnd⟩ f))
  | .goto _, k => thenK k cFail
  | .refuse _, k => thenK k cFail
def codeK (fi : FI) (P : TT) (c : Code) : CK := codeQ fi P c none

/-! ## functions -/
structure RK where
  get : T AVal → Heap → Option AVal
def rk (g : Nat) (P : TT) : ResultVar → RK
  | .tmp t => ⟨fun ρ _ => some ((vTmpS ⟨g, [], false⟩ t).get [] ρ)⟩
  | .cell a t => match P.get t with
    | some i => ⟨fun ρ h => loadV i h ((vTmpS ⟨g, [], false⟩ a).get [] ρ)⟩
    | none => ⟨fun _ _ => none⟩
def resL (g : Nat) (P : TT) (ρ : T AVal) (h : Heap) : List ResultVar → Option (List AVal)
  | [] => some []
  | r :: rs => ob ((rk g P r).get ρ h) fun v => ob (resL g P ρ h rs) fun vs => some (v :: vs)
def packR (vs : List AVal) : AVal := match vs with
  | [v] => v
  | vs => .tuple vs
/-- deferred calls of functions that are known to change nothing -/
def deferOk (dn : T Unit) : AVal → Option Unit
  | .func fn _ _ => match fn with
    | .func f => dn.get f
    | _ => none
  | _ => none
def defersOk (dn : T Unit) : List (AVal × List AVal) → Option Unit
  | [] => some ()
  | d :: ds => ob (deferOk dn d.1) fun _ => defersOk dn ds
def resOf (g : Nat) (P : TT) (rs : List ResultVar) (e : Env) (h : Heap) : M AVal := match resL g P e.tmps h rs with
  | some vs => ret1 (packR vs) h
  | none => none
def finish (dn : T Unit) (g : Nat) (P : TT) (rs : List ResultVar) (x : AExit × Env) (h : Heap) : M AVal :=
  match x.1 with
  | .exit _ => none
  | _ => ob (defersOk dn x.2.defers) fun _ => resOf g P rs x.2 h
def bindParams (nt : Nat) : List Tmp → List AVal → T AVal → Option (T AVal)
  | [], [], t => some t
  | p :: ps, a :: as, t => when (Nat.blt p nt) (bindParams nt ps as (t.put p a))
  | _, _, _ => none
def indexByteA (c : Nat) : List Nat → Nat → Int
  | [], _ => .negSucc 0
  | b :: l, i => match Nat.beq b c with | true => .ofNat i | false => seqN (Nat.succ i) (indexByteA c l)
def countA (c : Nat) : List Nat → Nat → Nat
  | [], n => n
  | b :: l, n => match Nat.beq b c with | true => seqN (Nat.succ n) (countA c l) | false => countA c l n
inductive Ext where
  | noEscape | indexByte | count | makeNoZero (et : TypeId) | overlaps (e sz : Nat)
def extId (h : Heap) : List AVal → M AVal
  | [] => none
  | x :: l => match l with | [] => ret1 x h | _ => none
def extStr (g : Nat → Nat → M AVal) : List AVal → M AVal
  | [.str s, .int .u8 (.ofNat c)] => when (Nat.blt c 256) (g s c)
  | _ => none
def extRow (et : TypeId) (h : Heap) : List AVal → M AVal
  | [.int .i64 (.ofNat n)] => when (Nat.ble n 100000) (ret1 (.slice h.next 0 n none) (h.alloc (.cells .nil n none et)))
  | _ => none
def ovlRow (e : Nat) : Option AObj → Bool
  | some (.cells _ _ _ et) => Nat.beq et e
  | _ => false
def ovlIn (sz oi li oj lj : Nat) : Bool := match Nat.blt oi (Nat.add oj (Nat.mul lj sz)) with
  | true => Nat.blt oj (Nat.add oi (Nat.mul li sz))
  | false => false
def ovlS (e sz : Nat) (h : Heap) (i oi li j oj lj : Nat) : M AVal := match Nat.beq li 0 with
  | true => ret1 (.bool false) h
  | false => match Nat.beq lj 0 with
    | true => ret1 (.bool false) h
    | false => match Nat.beq i j with
      | true => ret1 (.bool (ovlIn sz oi li oj lj)) h
      | false => when (ovlRow e (h.objs.get i)) (when (ovlRow e (h.objs.get j)) (ret1 (.bool false) h))
def ovl2 (e sz : Nat) (h : Heap) : AVal → AVal → M AVal
  | .nilSlice, .nilSlice => ret1 (.bool false) h
  | .nilSlice, .slice _ _ _ _ => ret1 (.bool false) h
  | .slice _ _ _ _, .nilSlice => ret1 (.bool false) h
  | .slice i oi li _, .slice j oj lj _ => ovlS e sz h i oi li j oj lj
  | _, _ => none
def ovl (e sz : Nat) (h : Heap) : List AVal → M AVal
  | [a, b] => ovl2 e sz h a b
  | _ => none
def externA (x : Ext) (args : List AVal) (h : Heap) : M AVal :=
  match x with
  | .noEscape => extId h args
  | .indexByte => extStr (fun s c => seqI (indexByteA c (sBytes s) 0) fun i => ret1 (.int .i64 i) h) args
  | .count => extStr (fun s c => seqN (countA c (sBytes s) 0) fun i => ret1 (.int .i64 (.ofNat i)) h) args
  | .makeNoZero et => extRow et h args
  | .overlaps e sz => ovl e sz h args
structure FK where
  run : Rt → List AVal → Heap → M AVal
def fBody (dn : T Unit) (g : Nat) (P : TT) (c : CK) (rs : List ResultVar) : FK := ⟨fun r args h => bindM (c.run r ⟨T.ofList args, []⟩ h) (finish dn g P rs)⟩
def fExt (x : Ext) : FK := ⟨fun _ args h => externA x args h⟩
def fFail : FK := ⟨fun _ _ _ => none⟩
def fnK (dn : T Unit) (fi : FI) (P : TT) (f : Func) (e : Option Ext) : FK :=
  match f.body with
  | some body => fBody dn fi.glob P (codeK fi P body) f.results.toList
  | none => match e with
    | some x => fExt x
    | none => fFail
/-! calls that are known: the arguments, the objects that they need, the result, the objects that are left -/
structure CP where
  args : List AVal
  hin : Heap
  v : AVal
  hout : Heap
def subV (x y : Option AObj) : Bool := match x with
  | none => true
  | some a => match y with
    | none => false
    | some b => beqO a b
def subN : Nat → T AObj → T AObj → Bool
  | 0, _, _ => false
  | n + 1, x, y => match x with
    | .nil => true
    | .node v a0 a1 a2 a3 a4 a5 a6 a7 => match y with
      | .nil => false
      | .node w b0 b1 b2 b3 b4 b5 b6 b7 => match subV v w with
        | false => false
        | true => match subN n a0 b0 with
          | false => false
          | true => match subN n a1 b1 with
            | false => false
            | true => match subN n a2 b2 with
              | false => false
              | true => match subN n a3 b3 with
                | false => false
                | true => match subN n a4 b4 with
                  | false => false
                  | true => match subN n a5 b5 with
                    | false => false
                    | true => match subN n a6 b6 with
                      | false => false
                      | true => subN n a7 b7
/-- every object of a heap is in the other -/
def lessB (a h : Heap) : Bool := match Nat.ble h.next a.next with
  | false => false
  | true => subN dep a.objs h.objs
def cpFind : List CP → List AVal → Heap → Option CP
  | [], _, _ => none
  | c :: l, args, h => match eqVL (beqV 8) c.args args with
    | false => cpFind l args h
    | true => match lessB c.hin h with
      | true => some c
      | false => cpFind l args h
def cpRun (m : M AVal) : Option CP → M AVal
  | none => m
  | some c => ret1 c.v c.hout
def withCP (args : List AVal) (h : Heap) (m : M AVal) : Option (List CP) → M AVal
  | none => m
  | some l => cpRun m (cpFind l args h)
def covB (v : AVal) (h : Heap) (x : AVal × Heap) : Bool := match beqV 8 x.1 v with
  | true => lessB h x.2
  | false => false
/-- all that a run comes to is one value, and has these objects -/
def runCov (v : AVal) (h : Heap) : M AVal → Bool
  | none => false
  | some l => allB (covB v h) l
/-! the same where all other objects stay as they are: the objects that the call needs go, those that it leaves come -/
def frV (a b c : Option AObj) : Option AObj := match b with
  | some o => some o
  | none => match a with
    | some _ => none
    | none => c
def nil2 (a b : T AObj) : Bool := match a with
  | .nil => match b with
    | .nil => true
    | .node _ _ _ _ _ _ _ _ _ => false
  | .node _ _ _ _ _ _ _ _ _ => false
def frN : Nat → T AObj → T AObj → T AObj → T AObj
  | 0, _, _, c => c
  | n + 1, a, b, c => match nil2 a b with
    | true => c
    | false => .node (frV a.val b.val c.val) (frN n a.ch0 b.ch0 c.ch0) (frN n a.ch1 b.ch1 c.ch1) (frN n a.ch2 b.ch2 c.ch2) (frN n a.ch3 b.ch3 c.ch3) (frN n a.ch4 b.ch4 c.ch4) (frN n a.ch5 b.ch5 c.ch5) (frN n a.ch6 b.ch6 c.ch6) (frN n a.ch7 b.ch7 c.ch7)
def frH (a b h : Heap) : Heap := ⟨b.next, frN dep a.objs b.objs h.objs⟩
def frRun (h : Heap) (m : M AVal) : Option CP → M AVal
  | none => m
  | some c => ret1 c.v (frH c.hin c.hout h)
def withFr (args : List AVal) (h : Heap) (m : M AVal) : Option (List CP) → M AVal
  | none => m
  | some l => frRun h m (cpFind l args h)
/-- known calls that are found by what they read -/
structure PickK where
  f : List AVal → Heap → Option CP
def pickRun (args : List AVal) (h : Heap) (m : M AVal) : Option CP → M AVal
  | none => m
  | some c => match eqVL (beqV 8) c.args args with
    | false => m
    | true => match lessB c.hin h with
      | false => m
      | true => ret1 c.v (frH c.hin c.hout h)
def withPick (args : List AVal) (h : Heap) (m : M AVal) : Option PickK → M AVal
  | none => m
  | some k => pickRun args h m (k.f args h)
/-! a call whose new objects begin at a multiple of a number -/
def alignN (k n : Nat) : Nat := maxN n (Nat.mul k (Nat.succ (Nat.div n k)))
def alignH (h : Heap) : Option Nat → Heap
  | none => h
  | some k => seqN (alignN k h.next) fun m => ⟨m, h.objs⟩
/-- a function that is known: the result at some arguments -/
structure SumK where
  f : List AVal → Option AVal
structure Pg where
  types : TT
  infos : T (Nat × T Plan)
  sums : T SumK
  dnop : T Unit
  funcs : T Func
  exts : T Ext
  marks : T Nat := .nil
  cps : T (List CP) := .nil
  pads : T Nat := .nil
  frs : T (List CP) := .nil
  aligns : T Nat := .nil
  picks : T PickK := .nil
structure FT where
  get : FuncId → FK
def markOf : Option Nat → Nat
  | none => 0
  | some m => m
def fiOf (nt : Nat) (m : Option Nat) : Option (Nat × T Plan) → FI
  | some x => ⟨x.1, nt, x.2, false, markOf m⟩
  | none => ⟨0, nt, .nil, false, 0⟩
def sumRun (s : SumK) (k : FK) (r : Rt) (args : List AVal) (h : Heap) : M AVal := match s.f args with
  | some v => ret1 v h
  | none => k.run r args h
def withSum (k : FK) : Option SumK → FK
  | none => k
  | some s => ⟨sumRun s k⟩
def fkOf (P : Pg) (f : FuncId) (o : Option Func) : FK := match o with
  | some fn => withSum (fnK P.dnop (fiOf fn.ntmps (P.marks.get f) (P.infos.get f)) P.types fn (P.exts.get f)) (P.sums.get f)
  | none => fFail
def Pg.fk (P : Pg) (f : FuncId) : FK := fkOf P f (P.funcs.get f)
def endRound (l : Nat) (x : AExit) (h : Heap) : Option AObj → M AVal
  | some (.loop r) => match x with
    | .normal => ret1 (.bool true) (h.upd l (.loop { r with state := .ready, pending := none }))
    | .ret => ret1 (.bool false) (h.upd l (.loop { r with state := .done, pending := some .ret }))
    | .exit id => ret1 (.bool false) (h.upd l (.loop { r with state := .done, pending := some (.exit id) }))
  | _ => none
def afterBody (l : Nat) (y : AExit × Env) (h : Heap) : M AVal := match y.2.defers with
  | [] => endRound l y.1 h (h.objs.get l)
  | _ => none
def beginBody (b : CK) (l : Nat) (r : Rt) (e : Env) (h : Heap) : Option AObj → M AVal
  | some (.loop a) => match a.state with
    | .ready => bindM (b.run r e (h.upd l (.loop { a with state := .busy }))) (afterBody l)
    | _ => none
  | _ => none
def afterAssign (b : CK) (l : Nat) (r : Rt) (x : AExit × Env) (h : Heap) : M AVal := match x.1 with
  | .normal => beginBody b l r x.2 h (h.objs.get l)
  | _ => none
def roundA (P : TT) (l : Nat) (r : Rt) (args : List AVal) (h : Heap) : Option AObj → M AVal
  | some (.loop a) => ob (bindParams a.fi.nt a.params args a.tmps) fun tm => bindM ((codeK a.fi P a.assign).run r ⟨tm, []⟩ h) (afterAssign (codeK a.fi P a.body) l r)
  | _ => none
def hasBody : Option Func → Bool
  | some f => match f.body with | some _ => true | none => false
  | none => false
/-! numbers that are left out behind a call, so that branches go on with the same ones -/
def padL (n : Nat) : List (AVal × Heap) → List (AVal × Heap)
  | [] => []
  | x :: l => (x.1, seqN (maxN n x.2.next) fun m => ⟨m, x.2.objs⟩) :: padL n l
def padM (k : Option Nat) (n : Nat) (m : M AVal) : M AVal := match k with
  | none => m
  | some k => match m with
    | none => none
    | some l => some (padL (Nat.add n k) l)
def callee (P : Pg) (r : Rt) : Callee' → List AVal → Heap → M AVal
  | .func f, args, h => withPick args h (withFr args h (withCP args h (mergeIf (Nat.testBit (markOf (P.marks.get f)) 0) (padM (P.pads.get f) h.next ((P.fk f).run r args (alignH h (P.aligns.get f))))) (P.cps.get f)) (P.frs.get f)) (P.picks.get f)
  | .body f, args, h => when (hasBody (P.funcs.get f)) ((P.fk f).run r args h)
  | .yield l, args, h => roundA P.types l r args h (h.objs.get l)
def call (P : Pg) : Nat → Callee' → List AVal → Heap → M AVal
  | 0, _, _, _ => none
  | n + 1, c, args, h => callee P ⟨call P n, []⟩ c args h
/-! ## runs, and what is known of functions -/
def puts {α : Type} : List (Nat × α) → T α
  | [] => .nil
  | p :: l => (puts l).put p.1 p.2
def h0 : Heap := ⟨0, .nil⟩
/-- all that a run comes to is one value -/
def runIs (m : M AVal) (v : AVal) : Bool := match m with
  | some l => allB (fun x => beqV 8 x.1 v) l
  | none => false
def sum0 (v : AVal) : SumK := ⟨fun args => match args with | [] => some v | _ => none⟩
def beqA : List AVal → List AVal → Bool
  | [], [] => true
  | a :: l, b :: m => match beqV 2 a b with | true => beqA l m | false => false
  | _, _ => false
def knownA : List (List AVal × AVal) → List AVal → Option AVal
  | [], _ => none
  | x :: l, args => match beqA x.1 args with | true => some x.2 | false => knownA l args
def sumL (l : List (List AVal × AVal)) : SumK := ⟨fun args => knownA l args⟩
/-! strings.Contains -/
def prefN : List Nat → List Nat → Bool
  | [], _ => true
  | a :: t, l => match l with
    | [] => false
    | b :: l => match Nat.beq a b with
      | true => prefN t l
      | false => false
def contN (sub : List Nat) : List Nat → Bool
  | [] => isNilL sub
  | b :: l => match prefN sub (b :: l) with
    | true => true
    | false => contN sub l
def contA : List AVal → Option AVal
  | [.str a, .str b] => when (Nat.ble (sLen a) 1000000) (mkB (contN (sBytes b) (sBytes a)))
  | _ => none
end Go.Proofs.YtpjkcfglojigmaaGreatDoor.Ev
