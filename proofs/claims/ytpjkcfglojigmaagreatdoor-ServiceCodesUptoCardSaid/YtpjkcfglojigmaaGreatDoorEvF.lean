/- An evaluator over abstract values and the proof that what it reckons is what the model's calls do: part 6 of 9. -/
import Derived.Test.YtpjkcfglojigmaaGreatDoorEvE
import Derived.Lib.UnsafeStr
import Derived.CallsIn
import Derived.RangeFuncLeaves
import Derived.OrdersIn
namespace Go.Proofs.YtpjkcfglojigmaaGreatDoor.Ev
set_option linter.unusedVariables false
set_option linter.unusedSimpArgs false
open Go
section
variable {P : Program} {tt : TT} {sl : SL} {o : Oper}

/-- bytes become a string: the row is dead -/
theorem eToBytes {s d e : TypeId} {x : Operand} (ho : o.op = .convert s d x) {si di ei : TI} (ks : TIok P s si) (kd : TIok P d di) (ke : TIok P e ei) (hs : si.desc = .str) (hd : di.desc = .slice e) (he : ei.desc = .int .u8) (hz1 : ei.size = 1) :
    EOK P sl o (fun vs ρ h => bytesA e h ((vk sl x).get vs ρ)) := by
  intro φ h vs ρ a w outs hl H hf
  have hx := hl.at ho (x := x) (by simp [Op.operands])
  have hf : bytesA _ _ _ = _ := hf
  have hss := ks.hdesc
  rw [hs] at hss
  have hss : ks.desc = .string := hss
  have hdd := kd.hdesc
  rw [hd] at hdd
  have hdd : kd.desc = .slice e := hdd
  have hee := ke.hdesc
  rw [he] at hee
  have hee : ke.desc = .int .u8 := hee
  generalize (vk sl x).get vs ρ = xv at hx hf
  generalize hxe : a.eval x = xe at hx
  cases hx <;> try (cases hf; done)
  rename_i st
  have hf : (seqN (sLen (enc st.data.toList)) fun n => newRowU e (bytesV (sBytes (enc st.data.toList))) n h) = some outs := hf
  rw [seqN_eq, sBytes_enc, enc_len] at hf
  have hf : some [(AVal.slice h.next 0 st.data.toList.length none, h.alloc (rowObjU e (bytesV (st.data.toList.map UInt8.toNat))))] = some outs := hf
  injection hf with hf
  have hge : st.size ≤ grownCap w st.size 0 e := grown_ge w st.size 0 e
  have hch : (choose (.appendCap st.size 0 e)).run P w = .ok (grownCap w st.size 0 e) w.drew := by
    simp [Question.forced, grownCap]
  generalize grownCap w st.size 0 e = gc at hge hch
  generalize hrow : ((st.data.map fun b => Value.int .u8 b.toNat) ++ Array.replicate (gc - st.size) (Value.int .u8 0) : Array Value) = row
  have hrsz : row.size = gc := by
    rw [← hrow]; have := ba_size st; simp at this ⊢; omega
  have hfr : (w.drew.alloc (.cells row e)).freeze ⟨w.heap.size, gc, none⟩ 1 = { w.drew with heap := w.heap.push (.cells row e (gc, gc + 1)) } := by
    simp only [World.freeze, World.alloc]
    rw [if_neg (by decide)]
    congr 1
    apply Array.ext_getElem?
    intro j
    rw [Array.getElem?_modify]
    by_cases hj : w.heap.size = j
    · subst hj
      simp [drew_heap]
    · rw [if_neg hj]
      simp only [Array.getElem?_push, drew_heap]
      rw [if_neg (fun c => hj c.symm), if_neg (fun c => hj c.symm)]
  have A := H.alloc (cap := gc) (sz := P.cellsOf e) (ob := rowObjU e (bytesV (st.data.toList.map UInt8.toNat))) (o' := .cells row e (gc, gc + 1)) (by
    rw [rowObjU_eq]
    refine row_objP H.fresh (bytesV_rel st.data.toList) (fun y hy => ?_) (.inr ⟨by rw [ke.hund, hee], by rw [hrsz]; exact Nat.le_refl _⟩) (by omega) ?_ (Nat.zero_mod _) (fun k y hy => ?_)
    · obtain ⟨b, _, rfl⟩ := List.mem_map.1 hy; rfl
    · rw [(bytesV_rel (φ := φ) st.data.toList).length, List.length_map, ← ba_size]; exact hge
    · rw [Nat.zero_add, ← Array.getElem?_toList, ← hrow, Array.toList_append, Array.toList_map, List.getElem?_append_left (List.getElem?_eq_some_iff.1 hy).1]
      exact hy)
  refine ⟨_, { w.drew with heap := w.heap.push (.cells row e (gc, gc + 1)) }, .slice (some ⟨w.heap.size, 0, none⟩) st.size gc, _, _, ?_, .inl rfl, by rw [← hf]; exact List.mem_singleton.2 rfl, A.1, A.2, ?_, ⟨rfl, rfl, rfl⟩⟩
  · have hmk : (markStringish ⟨w.heap.size, 0, none⟩).run P (w.drew.alloc (.cells row e)) = .ok () { w.drew with heap := w.heap.push (.cells row e (gc, gc + 1)) } := by
      have hsh : (w.drew.alloc (.cells row e)).shape? w.heap.size = some (e, gc) := by
        simp [World.shape?, World.alloc, drew_heap, hrsz]
      simp only [markStringish, Sem.run_bind, run_shape, hsh, Result.andThen_ok, run_freeze, hfr]
    have hnr : (newRow e row).run P w.drew = .ok ⟨w.heap.size, 0, none⟩ (w.drew.alloc (.cells row e)) := by
      simp [newRow, drew_heap]
    simp only [execOp, ho, hxe, convert, Sem.run_bind, ks.rUnd, kd.rUnd, ke.rUnd, hss, hdd, hee, Result.andThen_ok, Conv.stringToBytes, hch, hrow, hnr, hmk, Sem.run_pure]
  · rw [ke.cells, hz1, ← ba_size]
    exact new_slice (by omega) rfl gc (by omega) hge
end
end Go.Proofs.YtpjkcfglojigmaaGreatDoor.Ev
namespace Go.Proofs.YtpjkcfglojigmaaGreatDoor.Ev
set_option linter.unusedVariables false
set_option linter.unusedSimpArgs false
open Go
section
variable {P : Program} {tt : TT} {sl : SL} {o : Oper}

theorem exec_unsafe {c : Call} {p n : Operand} (ho : o.op = .call c) (hc : c.callee = .builtin .unsafeString) (ha : c.args.toList = [p, n]) {a : Act} {w w' : World} {z : Value}
    (h : (Builtin.unsafeString_ c.argTypes o.type #[a.eval p, a.eval n]).run P w = .ok z w') : (execOp a.eval o).run P w = .ok (.value z) w' := by
  rw [exec_builtin ho hc, args_of ha]
  have : ∀ (k : Value → Sem Next), ((Builtin.unsafeString_ c.argTypes o.type #[a.eval p, a.eval n]) >>= k).run P w = (k z).run P w' := by intro k; rw [Sem.run_bind, h]; rfl
  exact this _
theorem freeze_upd {w : World} {a : Addr} {n : Nat} {cc : Array Value} {e : TypeId} {fz : Nat × Nat} (hb : w.heap[a.block]? = some (.cells cc e fz)) (hn : n ≠ 0) :
    ∃ o', Upd w.heap (w.freeze a n).heap a.block o' := by
  have hlt := (Array.getElem?_eq_some_iff.1 hb).1
  unfold World.freeze
  rw [if_neg hn]
  refine ⟨_, ⟨by simp, by simp only [Array.getElem?_modify, if_true, hb, Option.map_some]; rfl, fun k hk => ?_⟩⟩
  simp only [Array.getElem?_modify]; rw [if_neg (fun e => hk e.symm)]
theorem freeze_still (w : World) (a : Addr) (n : Nat) : Still w (w.freeze a n) := by
  unfold World.freeze; split <;> exact ⟨rfl, rfl, rfl⟩
/-- a block of a living object changes; the object is dead -/
theorem HRel.killUpd {φ : Ren} {h : Heap} {hp hq : Array Obj} (H : HRel P φ h hp) {id : Nat} {ob : AObj} {o' : Obj} (hd : φ.dom id) (hid : h.objs.get id = some ob) (U : Upd hp hq (φ.blk id) o') :
    HRel P φ (h.kill id) hq ∧ Tr φ h hp φ (h.kill id) hq := by
  refine ⟨(H.kill id).other (b := φ.blk id) (Nat.le_of_eq U.size.symm) (fun k hk _ => U.other k hk) (fun i hi e => ?_) (fun hc => (H.fix _ hc).2 id ob hd hid rfl), .refl _, Nat.le_refl _, fun _ h => .inl h, Nat.le_of_eq U.size.symm, fun b _ hno => U.other b (fun e => hno id ⟨hd, ob, hid⟩ e.symm), fun i hi => .inl ⟨hi.1, hi.2.choose, (T.get_del hi.2.choose_spec).2⟩, fun i o _ _ ho => (T.get_del ho).2⟩
  obtain ⟨di, oi, ho⟩ := hi
  obtain ⟨hne, ho⟩ := T.get_del ho
  exact hne (H.inj i id oi ob di hd ho hid e)
theorem eUnsafe {c : Call} {p n : Operand} (ho : o.op = .call c) (hc : c.callee = .builtin .unsafeString) (ha : c.args.toList = [p, n]) {t : TypeId} {ts : List TypeId} (ht : c.argTypes.toList = t :: ts) {i : TI} (k : TIok P t i) {e : TypeId} (hd : i.desc = .ptr e) {ei : TI} (ke : TIok P e ei) (hz1 : ei.size = 1) :
    EOK P sl o (fun vs ρ h => natV (unsafeV e h ((vk sl p).get vs ρ)) ((vk sl n).get vs ρ)) := by
  intro φ h vs ρ a w outs hl H hf
  have hp := hl.at ho (x := p) (arg_mem hc (by rw [ha]; simp))
  have hn := hl.at ho (x := n) (arg_mem hc (by rw [ha]; simp))
  obtain ⟨kk, m, h1, h2⟩ := natV_some hf
  rw [h1] at hn
  have hdd := k.hdesc
  rw [hd] at hdd
  have hdd : k.desc = .pointer e := hdd
  have ex := fun {w'} {z} => exec_unsafe (P := P) (w := w) (w' := w') (z := z) ho hc ha (a := a)
  generalize (vk sl p).get vs ρ = pv at hp h2
  generalize hpe : a.eval p = pe at hp ex
  generalize hne : a.eval n = ne at hn ex
  cases hn
  have e0 : VRel φ (.str 1) (.string .empty) := .str ByteArray.empty
  have hmax : IntKind.i64.max = 9223372036854775807 := rfl
  have red : ∀ (q : Option Addr), (Builtin.unsafeString_ c.argTypes o.type #[.pointer q, .int kk (Int.ofNat m)]) = (do
      let n ← asInt (.int kk (Int.ofNat m))
      let some pt := c.argTypes[0]? | stuck "unsafe.String: no argument types"
      if n < 0 then runtimePanic (.error "unsafe.String: len out of range")
      if n > IntKind.i64.max then unsupported (.unsafePointer "String: a length above the largest int")
      match q with
      | none =>
        if n = 0 then pure (.string .empty)
        else runtimePanic (.error "unsafe.String: ptr is nil and len is not zero")
      | some a =>
        if n = 0 then pure (.string .empty)
        else if ← variablesAt a (← elemOf pt) n.toNat then do
          let s ← loadBytes a .empty n.toNat
          freeze a n.toNat
          pure (.string s)
        else unsupported (.unsafePointer "String: not so many bytes at ptr")) := fun q => rfl
  cases m with
  | zero =>
    have hv : ∀ (q : Option Addr), (Builtin.unsafeString_ c.argTypes o.type #[.pointer q, .int kk (Int.ofNat 0)]).run P w = .ok (.string .empty) w := by
      intro q
      rw [red]
      cases q <;> simp [asInt, asIntOf, argTy ht, hmax]
    cases hp <;> try (cases h2; done)
    case nilPtr =>
      cases h2
      exact ⟨_, w, _, φ, _, ex (hv _), .inl rfl, List.mem_singleton.2 rfl, H, .refl _ _ _, e0, .refl _⟩
    case ptr =>
      cases h2
      exact ⟨_, w, _, φ, _, ex (hv _), .inl rfl, List.mem_singleton.2 rfl, H, .refl _ _ _, e0, .refl _⟩
  | succ m =>
    cases hp <;> try (cases h2; done)
    rename_i id off hdom
    obtain ⟨h3, h4⟩ := when_some (show when (Nat.ble m 1000000) (ob (byteRow e (h.objs.get id)) fun c => ob (strOf c off (Nat.succ m)) fun s => ret1 (.str s) (h.kill id)) = some outs from h2)
    rw [ble_dec] at h3
    have h3 := of_decide_eq_true h3
    obtain ⟨cr, h5, h6⟩ := ob_some h4
    obtain ⟨s, h7, h8⟩ := ob_some h6
    have h8 : some [(AVal.str s, h.kill id)] = some outs := h8
    injection h8 with h8
    unfold byteRow at h5
    split at h5
    case h_2 => cases h5
    rename_i cr' lo hi et hg
    obtain ⟨h9, h10⟩ := when_some h5
    injection h10 with h10; subst h10
    rw [beq_dec] at h9
    have h9 : et = e := of_decide_eq_true h9
    subst h9
    obtain ⟨o', g1, cc, fz, g2, R⟩ := H.obj id _ hdom hg
    subst g2
    obtain ⟨ns, q1, q2, q3, q4, q5⟩ := strOf_ok g1 R h7
    have hb : w.heap[(baseOf φ id off).block]? = some (.cells cc et fz) := g1
    obtain ⟨o2, U⟩ := freeze_upd (a := baseOf φ id off) (n := m + 1) hb (by omega)
    have K := H.killUpd hdom hg U
    have hs : s = enc (ByteArray.mk (ns.map UInt8.ofNat).toArray).data.toList := by rw [q4]
    refine ⟨_, w.freeze (baseOf φ id off) (m + 1), .string ⟨(ns.map UInt8.ofNat).toArray⟩, φ, _, ex ?_, .inl rfl, by rw [← h8]; exact List.mem_singleton.2 rfl, K.1, K.2, by rw [hs]; exact .str _, freeze_still _ _ _⟩
    have hc1 : P.cellsOf et = 1 := by rw [ke.cells, hz1]
    have hlen : (ns.map UInt8.ofNat).length = m + 1 := by simpa using q2
    have hcell : ∀ j x, (ns.map UInt8.ofNat)[j]? = some x → w.cell? ((baseOf φ id off).add j) = some (.int .u8 x.toNat) := by
      intro j x hj
      rw [add_base]
      apply q5
      simp only [List.getElem?_map, Option.map_eq_some_iff] at hj ⊢
      obtain ⟨y, hy, hx⟩ := hj
      refine ⟨y, hy, ?_⟩
      subst hx
      have := q1 y (List.mem_of_getElem? hy)
      simp; omega
    have hld := Lib.run_loadBytes (P := P) w (ns.map UInt8.ofNat) (baseOf φ id off) .empty hcell
    rw [hlen] at hld
    have hfit : φ.off id + off + (m + 1) ≤ cc.size := by
      have hl : m < (ns.map fun n => Value.int .u8 (Int.ofNat n)).length := by simp [q2]
      have := q5 m _ (List.getElem?_eq_getElem hl)
      simp only [World.cell?, baseOf, g1] at this
      have := (Array.getElem?_eq_some_iff.1 this).1
      omega
    have hlies : liesAt P P.depth et (cc.size / P.cellsOf et) (baseOf φ id off).off et (m + 1) = true := by
      obtain ⟨dp, hdp⟩ := depth_succ P
      have hdq : P.depth = (2 * (P.types.size + Made.depth) + 1) + 1 := rfl
      rw [hdq]
      simp only [liesAt, Bool.or_eq_true]
      left
      rw [hdq]
      simp [rowAt, hc1, sameLayout, baseOf]
      left
      omega
    have hsh : w.shape? (baseOf φ id off).block = some (et, cc.size) := by simp [World.shape?, baseOf, g1]
    have hvar : (variablesAt (baseOf φ id off) et (m + 1)).run P w = .ok true w := by
      simp only [variablesAt, Sem.run_bind, run_program, run_shape, hsh, Result.andThen_ok, hlies, Sem.run_pure]
    have hel : (elemOf t).run P w = .ok et w := by
      simp only [elemOf, Sem.run_bind, k.rUnd, hdd, Result.andThen_ok]; rfl
    have hto : (Int.ofNat (m + 1)).toNat = m + 1 := rfl
    have hi1 : ¬ (Int.ofNat (m + 1) < 0) := by omega
    have hi2 : ¬ (Int.ofNat (m + 1) > IntKind.i64.max) := by rw [hmax]; simp; omega
    have hi3 : ¬ (Int.ofNat (m + 1) = 0) := by simp; omega
    have hai : (asInt (.int kk (Int.ofNat (m + 1)))).run P w = .ok (Int.ofNat (m + 1)) w := by simp [asInt, asIntOf]
    rw [red]
    simp only [Sem.run_bind, hai, argTy ht, Result.andThen_ok, hi1, hi2, hi3, if_false, Sem.run_pure, hel, hto, hvar, if_true, hld, run_freeze]
    simp [ByteArray.empty, ByteArray.emptyWithCapacity]
    rfl
end
end Go.Proofs.YtpjkcfglojigmaaGreatDoor.Ev
namespace Go.Proofs.YtpjkcfglojigmaaGreatDoor.Ev
set_option linter.unusedVariables false
set_option linter.unusedSimpArgs false
open Go

/-! ## fences, results of operations -/
def W (ro : Option Nat) : Fence := { fn := fun _ => True, depth := none, alive := false, round := ro }
theorem W_room (ro : Option Nat) (n : Nat) : (W ro).room n := fun _ h => by simp [W] at h
theorem callsIn_W {ro ro' : Option Nat} {n n' : Nat} {P : Program} {f : FuncId} {args : Array Value} {w : World} {R : Ending → World → Prop} (h : CallsIn (W ro) n P f args w R) : CallsIn (W ro') n' P f args w R :=
  ⟨trivial, fun cs _ => h.2 cs (W_room _ _)⟩
theorem roundIn_W {ro ro' : Option Nat} {n n' : Nat} {P : Program} {l : Nat} {f : FuncId} {tmps : Array Value} {assign body : Code} {w : World} {R : Ending → World → Prop} (h : RoundIn (W ro) n P l f tmps assign body w R) :
    RoundIn (W ro') n' P l f tmps assign body w R :=
  ⟨trivial, fun c cs _ => h.2 c cs (W_room _ _)⟩

def Good (P : Program) (φ : Ren) (h : Heap) (w : World) (outs : List (AVal × Heap)) (x : Value) (w' : World) : Prop :=
  ∃ ψ vh, vh ∈ outs ∧ HRel P ψ vh.2 w'.heap ∧ Tr φ h w.heap ψ vh.2 w'.heap ∧ VRel ψ vh.1 x ∧ Still w w'
def endR (R : Value → World → Prop) : Ending → World → Prop
  | .returned v, w => R v w
  | _, _ => False
theorem endR_mono {R R' : Value → World → Prop} (h : ∀ v w, R v w → R' v w) : ∀ e w, endR R e w → endR R' e w
  | .returned _, _, k => h _ _ k
  | .panicked _, _, k => k
  | .outgrown, _, k => k
def Res (P : Program) (R : Value → World → Prop) : Result Next → Prop
  | .ok (.value v) w => R v w
  | .ok .skip w => R undef w
  | .ok (.enter f args) w => CallsIn (W none) 0 P f args w (endR R)
  | .ok (.round l f tmps assign body) w => RoundIn (W none) 0 P l f tmps assign body w (endR R)
  | _ => False
theorem Res.mono {P : Program} {R R' : Value → World → Prop} (k : ∀ v w, R v w → R' v w) {res : Result Next} (h : Res P R res) : Res P R' res := by
  cases res with
  | halt x w => exact h.elim
  | ok x w => cases x <;> first
    | exact k _ _ h
    | exact CallsIn.mono h (endR_mono k)
    | exact RoundIn.mono h (endR_mono k)
    | exact h.elim
theorem Res.upon {P : Program} {R : Value → World → Prop} {res : Result Next} (h : Res P R res) {o : Oper} {a : Act} {next : Act → World → Prop} (Q : Exit → Act → World → Prop) (ro : Option Nat) (n : Nat)
    (k : ∀ v w', R v w' → next (a.put o.dst v) w') : o.uponIn (W ro) n P a next Q res := by
  have e1 : (W ro).depth.isSome = true → 1 ≤ n := by intro h; cases h
  cases res with
  | halt x w => exact h.elim
  | ok x w => cases x <;> first
    | exact k _ _ h
    | exact ⟨e1, callsIn_W (CallsIn.mono h fun e w' he => by cases e <;> first | exact k _ _ he | exact he.elim)⟩
    | exact ⟨e1, roundIn_W (RoundIn.mono h fun e w' he => by cases e <;> first | exact k _ _ he | exact he.elim)⟩
    | exact h.elim

/-- what is known of the calls -/
structure RtOK (P : Program) (call : Callee' → List AVal → Heap → M AVal) : Prop where
  fn : ∀ (f : FuncId) (φ : Ren) (h : Heap) (w : World) (args : List AVal) (args' : Array Value) (outs : List (AVal × Heap)), call (.func f) args h = some outs → VRelL φ args args'.toList → HRel P φ h w.heap →
    Res P (Good P φ h w outs) ((callFunc f args').run P w)
  yield : ∀ (l : Nat) (φ : Ren) (h : Heap) (w : World) (args : List AVal) (args' : Array Value) (outs : List (AVal × Heap)), φ.dom l → call (.yield l) args h = some outs → VRelL φ args args'.toList → HRel P φ h w.heap →
    Res P (Good P φ h w outs) ((Instr.yield (φ.blk l) args').run P w)
/-- what is asked of an effect -/
def COK (P : Program) (sl : SL) (o : Oper) (f : Rt → List AVal → T AVal → Heap → M AVal) : Prop :=
  ∀ (r : Rt), RtOK P r.call → ∀ (φ : Ren) (h : Heap) (vs : List AVal) (ρ : T AVal) (a : Act) (w : World) (outs : List (AVal × Heap)), ORel φ sl vs ρ a o → HRel P φ h w.heap → f r vs ρ h = some outs →
    Res P (Good P φ h w outs) ((execOp a.eval o).run P w)
section
variable {P : Program} {tt : TT} {sl : SL} {o : Oper}
theorem EOK.cok {f : List AVal → T AVal → Heap → M AVal} (h : EOK P sl o f) : COK P sl o (fun _ => f) := by
  intro r _ φ hp vs ρ a w outs hl H hf
  obtain ⟨nx, w', x, ψ, vh, h1, h2, h3, h4, h5, h6, h7⟩ := h φ hp vs ρ a w outs hl H hf
  rw [h1]
  rcases h2 with rfl | ⟨rfl, rfl⟩
  · exact ⟨ψ, vh, h3, h4, h5, h6, h7⟩
  · exact ⟨ψ, vh, h3, h4, h5, h6, h7⟩
theorem VRelL.app {φ : Ren} {l m : List AVal} {l' m' : Array Value} (h : VRelL φ l l'.toList) (k : VRelL φ m m'.toList) : VRelL φ (l ++ m) (l' ++ m').toList := by
  rw [Array.toList_append]; exact h.append k
theorem exec_call {c : Call} (ho : o.op = .call c) (a : Act) : execOp a.eval o = (do let d ← resolve a.eval c o.type; invoke d.target d.args) := by
  simp only [execOp, ho]
theorem args_rel {φ : Ren} {vs : List AVal} {ρ : T AVal} {a : Act} {c : Call} (ho : o.op = .call c) (hl : ORel φ sl vs ρ a o) : VRelL φ ((lk sl c.args.toList).get vs ρ) (c.args.map a.eval).toList := by
  rw [Array.toList_map]
  exact hl.list ho (fun x hx => by simp [Op.operands, Call.operands]; right; simpa using hx)
theorem cCallF {c : Call} {f : FuncId} (ho : o.op = .call c) (hc : c.callee = .value (.func f)) : COK P sl o (fun r vs ρ h => r.call (.func f) ((lk sl c.args.toList).get vs ρ) h) := by
  intro r hr φ h vs ρ a w outs hl H hf
  have : execOp a.eval o = callFunc f (c.args.map a.eval) := by
    rw [exec_call ho]
    simp only [resolve, hc]
    show invoke (.fn (.func f) #[]) (#[] ++ Array.map a.eval c.args) = _
    simp only [invoke, Array.empty_append, Array.append_empty]
  rw [this]
  exact hr.fn f φ h w _ _ outs hf (args_rel ho hl) H
def viaOk : TD → Bool → Bool
  | .ptr _, p => p
  | _, p => !p
theorem viaV_some {r : Rt} {h : Heap} {t : TypeId} {f : FuncId} {p : Bool} {x : AVal} {rest : List AVal} {outs : List (AVal × Heap)} (h1 : viaV tt r h t f p (x :: rest) = some outs) :
    ∃ ti, tt.get t = some ti ∧ viaOk ti.desc p = true ∧ r.call (.func f) (x :: rest) h = some outs := by
  obtain ⟨ti, g3, g4⟩ := ob_some (show ob (tt.get t) (fun ti => match ti.desc, p with
    | .ptr _, true => r.call (.func f) (x :: rest) h
    | .ptr _, false => none
    | _, false => r.call (.func f) (x :: rest) h
    | _, true => none) = some outs from h1)
  refine ⟨ti, g3, ?_⟩
  revert g4
  cases ti.desc <;> cases p <;> simp [viaOk]
/-- a method expression's receiver -/
theorem rVia {t : TypeId} {path : Array FieldStep} {p : Bool} {x : Value} {w : World} {i : TI} (k : TIok P t i) (hp : isNilL path.toList = true)
    (hk : viaOk i.desc p = true) : (receiverVia t x path p).run P w = .ok x w := by
  have hn : path.toList = [] := by
    cases h : path.toList with
    | nil => rfl
    | cons a l => rw [h] at hp; cases hp
  have hd := k.hdesc
  simp only [receiverVia, hn, follow, receiverAt, Sem.run_bind, Sem.run_pure, Result.andThen_ok, k.rUnd]
  revert hk hd
  cases p <;> cases i.desc <;> simp only [TDRel, viaOk] <;> intro hk hd <;> first
    | (cases hk; done)
    | (rw [hd]; rfl)
    | (obtain ⟨_, hd, _⟩ := hd; rw [hd]; rfl)
    | (obtain ⟨_, _, _, hd⟩ := hd; rw [hd]; rfl)
    | skip
  · revert hd
    cases k.desc <;> intro hd <;> first | rfl | exact absurd rfl (hd.2 _)
theorem apply_ok (hT : TTok P tt) {r : Rt} (hr : RtOK P r.call) {φ : Ren} {h : Heap} {w : World} (H : HRel P φ h w.heap) {fv : AVal} {fx : Value} (hf : VRel φ fv fx) {args : List AVal} {args' : Array Value} (ha : VRelL φ args args'.toList)
    {outs : List (AVal × Heap)} (h1 : applyV tt r args h fv = some outs) : Res P (Good P φ h w outs) ((do let d ← Deferred.ofValue fx args'; invoke d.target d.args : Sem Next).run P w) := by
  cases hf <;> try (cases h1; done)
  rename_i fn fn' fs cs fs' cs' hfn hfs hcs
  have key : (do let d ← Deferred.ofValue (.func fn' fs' cs') args'; invoke d.target d.args : Sem Next) = invoke (.fn fn' cs') (fs' ++ args') := rfl
  rw [key]
  cases fn with
  | func f =>
    have : fn' = _ := hfn.symm
    subst this
    have h1 : r.call (.func f) (fs ++ (args ++ cs)) h = some outs := h1
    simp only [invoke]
    rw [Array.append_assoc]
    exact hr.fn f φ h w _ _ outs h1 (hfs.app (ha.app hcs)) H
  | yield l =>
    obtain ⟨hd, rfl⟩ := hfn
    have h1 : r.call (.yield l) (fs ++ args) h = some outs := h1
    simp only [invoke]
    exact hr.yield l φ h w _ _ outs hd h1 (hfs.app ha) H
  | via t path f p =>
    have : fn' = _ := hfn.symm
    subst this
    obtain ⟨g1, g2⟩ := when_some (show when (isNilL path.toList) (viaV tt r h t f p (fs ++ args)) = some outs from h1)
    have hrel := hfs.app ha
    generalize hal : fs ++ args = al at g2 hrel
    generalize hal' : fs' ++ args' = al' at hrel
    cases al with
    | nil => cases g2
    | cons x rest =>
      obtain ⟨ti, g3, hk, hcall⟩ := viaV_some g2
      obtain ⟨k⟩ := hT t ti g3
      obtain ⟨xs⟩ := al'
      cases hrel
      rename_i x' rest' hx hrest
      have hr0 : ((⟨x' :: rest'⟩ : Array Value)[0]?) = some x' := rfl
      have hex : #[x'] ++ (⟨x' :: rest'⟩ : Array Value).extract 1 (⟨x' :: rest'⟩ : Array Value).size = ⟨x' :: rest'⟩ := by
        apply Array.toList_inj.1
        simp
      have hinv : invoke (.fn (.via t path f p) cs') ⟨x' :: rest'⟩ = (do callFunc f (#[← receiverVia t x' path p] ++ (⟨x' :: rest'⟩ : Array Value).extract 1 (⟨x' :: rest'⟩ : Array Value).size)) := rfl
      rw [hinv]
      have hv := rVia (x := x') (w := w) k g1 hk
      rw [Sem.run_bind, hv, Result.andThen_ok, hex]
      exact hr.fn f φ h w _ _ outs hcall (.cons _ _ _ _ hx hrest) H
  | _ => cases h1
theorem cApply (hT : TTok P tt) {c : Call} {x : Operand} (ho : o.op = .call c) (hc : c.callee = .value x) : COK P sl o (fun r vs ρ h => applyV tt r ((lk sl c.args.toList).get vs ρ) h ((vk sl x).get vs ρ)) := by
  intro r hr φ h vs ρ a w outs hl H hf
  rw [exec_call ho]
  simp only [resolve, hc]
  exact apply_ok hT hr H (hl.at ho (x := x) (by simp [Op.operands, Call.operands, hc])) (args_rel ho hl) hf
end
end Go.Proofs.YtpjkcfglojigmaaGreatDoor.Ev
namespace Go.Proofs.YtpjkcfglojigmaaGreatDoor.Ev
set_option linter.unusedVariables false
set_option linter.unusedSimpArgs false
open Go
section
variable {P : Program} {tt : TT} {sl : SL} {o : Oper}
theorem when_def {α : Type} (b : Bool) (x : Option α) : when b x = if b then x else none := by cases b <;> rfl
/-- a method of an interface value -/
theorem method_ok (hT : TTok P tt) {r : Rt} (hr : RtOK P r.call) {φ : Ren} {h : Heap} {w : World} (H : HRel P φ h w.heap) {name : String} {t : TypeId} {v : AVal} {v' : Value} (hv : VRel φ v v') {args : List AVal} {args' : Array Value} (ha : VRelL φ args args'.toList)
    {outs : List (AVal × Heap)} (h1 : (methK tt name t).run r args h v = some outs) : Res P (Good P φ h w outs) ((callMethod (.iface t v') name args').run P w) := by
  unfold methK at h1
  split at h1
  · cases h1
  · rename_i i hi
    obtain ⟨k⟩ := hT t i hi
    split at h1
    · rename_i fp hm
      obtain ⟨f, p⟩ := fp
      obtain ⟨m, g1, g2, g3⟩ := k.hmeth name f p hm
      have hpe : m.path.toList = [] := by rw [g2]
      have hemp : m.path.isEmpty = true := by rw [g2]; rfl
      have hd := k.hdesc
      have fin : ∀ (u : AVal) (u' : Value), VRel φ u u' → r.call (.func f) (u :: args) h = some outs → Res P (Good P φ h w outs) ((callFunc f (#[u'] ++ args')).run P w) := by
        intro u u' hu hc
        exact hr.fn f φ h w _ _ outs hc (by rw [Array.toList_append]; exact .cons _ _ _ _ hu ha) H
      have hmd : 0 < Made.depth := by decide
      have hdepth : ∃ n, P.types.size + Made.depth = n + 1 := ⟨P.types.size + (Made.depth - 1), by omega⟩
      obtain ⟨n, hn⟩ := hdepth
      have rcv : ∀ u', (receiverAt t (.val v') p (some ((name.splitOn ".").getLastD name))).run P w = .ok u' w → ((callMethod (.iface t v') name args').run P w) = ((callFunc f (#[u'] ++ args')).run P w) := by
        intro u' hu
        have hm : (method (n + 1) t v' name).run P w = .ok (f, u') w := by
          rw [method]
          simp only [Sem.run_bind, k.rInfo, Result.andThen_ok, g1, hpe, follow, Sem.run_pure, g3, hemp, if_true, hu]
        simp only [callMethod, Sem.run_bind, run_program, Result.andThen_ok, hn, hm]
      unfold mkM at h1
      split at h1
      · rename_i e hde
        rw [hde] at hd
        have hd : k.desc = .pointer e := hd
        cases p with
        | true =>
          have h1 : r.call (.func f) (v :: args) h = some outs := h1
          rw [rcv v' (by simp only [receiverAt, Sem.run_bind, k.rUnd, hd, Result.andThen_ok]; rfl)]
          exact fin v v' hv h1
        | false =>
          have h1 : (match tt.get e with | some i => mLoad f i | none => mFail).run r args h v = some outs := h1
          cases he : tt.get e with
          | none => rw [he] at h1; cases h1
          | some ei =>
            rw [he] at h1
            obtain ⟨ke⟩ := hT e ei he
            obtain ⟨u, g4, g5⟩ := ob_some (show ob (loadV ei h v) (fun u => r.call (.func f) (u :: args) h) = some outs from h1)
            obtain ⟨ad, u', g6, g7, g8⟩ := loadV_ok ke H.toHRelR hv g4
            subst g6
            rw [rcv u' (by
              have hw : (Builtin.ssaWrapNilChk_ #[t] t #[.pointer (some ad), strVal "", strVal ((name.splitOn ".").getLastD name)]).run P w = .ok (.pointer (some ad)) w := rfl
              have hg : (Place.get t (.val (.pointer (some ad)))).run P w = .ok (.pointer (some ad)) w := rfl
              have has : (asAddr (.pointer (some ad))).run P w = .ok ad w := rfl
              simp only [receiverAt, Sem.run_bind, k.rUnd, hd, Result.andThen_ok, hg, hw, has, g7])]
            exact fin u u' g8 g5
      · rename_i hnp
        cases p with
        | true => cases h1
        | false =>
          have h1 : r.call (.func f) (v :: args) h = some outs := h1
          rw [rcv v' (by
            simp only [receiverAt, Sem.run_bind, k.rUnd, Result.andThen_ok]
            have hnd : ∀ e, k.desc ≠ .pointer e := by
              intro e he
              revert hd hnp
              rw [he]
              cases i.desc <;> simp [TDRel]
            revert hnd
            cases k.desc <;> intro hnd <;> first | rfl | exact absurd rfl (hnd _))]
          exact fin v v' hv h1
    · cases h1
theorem cInvoke (hT : TTok P tt) {c : Call} {x : Operand} {name : String} (ho : o.op = .call c) (hc : c.callee = .invoke x name) : COK P sl o (fun r vs ρ h => invokeV tt name r ((lk sl c.args.toList).get vs ρ) h ((vk sl x).get vs ρ)) := by
  intro r hr φ h vs ρ a w outs hl H hf
  have hx := hl.at ho (x := x) (by simp [Op.operands, Call.operands, hc])
  have hf : invokeV _ _ _ _ _ _ = _ := hf
  generalize (vk sl x).get vs ρ = xv at hx hf
  have hex : (#[a.eval x] ++ c.args.map a.eval).extract 1 (#[a.eval x] ++ c.args.map a.eval).size = c.args.map a.eval := by
    generalize c.args.map a.eval = al
    obtain ⟨l⟩ := al
    apply Array.toList_inj.1
    simp
  have hrun : (execOp a.eval o).run P w = (callMethod (a.eval x) name (c.args.map a.eval)).run P w := by
    rw [exec_call ho]
    have h0 : ((#[a.eval x] ++ c.args.map a.eval : Array Value)[0]?) = some (a.eval x) := by rw [Array.getElem?_append_left (by simp)]; rfl
    have hres : resolve a.eval c o.type = pure { target := .fn (.method name) #[], args := #[a.eval x] ++ c.args.map a.eval } := by
      simp only [resolve, hc]
    rw [hres]
    show (invoke (.fn (.method name) #[]) (#[a.eval x] ++ c.args.map a.eval)).run P w = _
    simp only [invoke, h0, hex]
  rw [hrun]
  generalize a.eval x = xe at hx
  cases hx <;> try (cases hf; done)
  rename_i t v v' hv
  exact method_ok hT hr H hv (args_rel ho hl) hf
end
end Go.Proofs.YtpjkcfglojigmaaGreatDoor.Ev
namespace Go.Proofs.YtpjkcfglojigmaaGreatDoor.Ev
set_option linter.unusedVariables false
set_option linter.unusedSimpArgs false
open Go

def NotDefer (o : Oper) : Prop := ∀ c, o.op ≠ .defer c
/-- what is asked of a deferring closure -/
def DEnt (x : AVal × List AVal) (d : Deferred) : Prop := ∀ f a b, x.1 = .func (.func f) a b → ∃ cap, d.target = .fn (.func f) cap
def DOK (P : Program) (sl : SL) (o : Oper) (f : List AVal → T AVal → Option (AVal × List AVal)) : Prop :=
  sl.rnd = false ∧ ∀ (φ : Ren) (vs : List AVal) (ρ : T AVal) (a : Act) (w : World) (x : AVal × List AVal), ORel φ sl vs ρ a o → f vs ρ = some x →
    ∃ d, (execOp a.eval o).run P w = .ok (.defer d) w ∧ DEnt x d ∧ ∃ fv cap, d.target = .fn fv cap
/-- what is asked of a compiled operation -/
def KOK (P : Program) (sl : SL) (o : Oper) : OpK → Prop
  | .p f => (∀ vs ρ, f vs ρ = none) ∨ (NotDefer o ∧ POK P sl o f)
  | .n f => NotDefer o ∧ NOK P sl o f
  | .u f => NotDefer o ∧ POK P sl o f
  | .a f => NotDefer o ∧ AOK P sl o f
  | .e f => NotDefer o ∧ COK P sl o f
  | .d f => DOK P sl o f
section
variable {P : Program} {tt : TT} {sl : SL} {o : Oper}
theorem notDefer {op : Op} (ho : o.op = op) (h : (match op with | .defer _ => false | _ => true) = true) : NotDefer o := by
  intro c e
  rw [ho] at e; subst e; cases h
theorem kFail_ok : KOK P sl o kFail := .inl fun _ _ => rfl
theorem withT_ok (hT : TTok P tt) {t : TypeId} {f : TI → OpK} (h : ∀ i, TIok P t i → KOK P sl o (f i)) : KOK P sl o (withT tt t f) := by
  unfold withT
  split
  · rename_i i hi
    obtain ⟨k⟩ := hT t i hi
    exact h i k
  · exact kFail_ok
theorem withK_ok (hT : TTok P tt) {t : TypeId} {f : TI → OpK} (h : ∀ i, TIok P t i → keyT tt i = true → KOK P sl o (f i)) : KOK P sl o (withK tt t f) := by
  unfold withK
  refine withT_ok hT fun i k => ?_
  split
  · rename_i hk; exact h i k hk
  · exact kFail_ok
theorem szPos_ok {i : TI} {k : OpK} (h : i.size ≠ 0 → KOK P sl o k) : KOK P sl o (szPos i k) := by
  unfold szPos
  split
  · exact kFail_ok
  · rename_i n hn; exact h (by omega)
theorem withElem_ok (hT : TTok P tt) {t : TypeId} {f : TypeId → TI → OpK} (h : ∀ i e ei, TIok P t i → i.desc = .slice e → TIok P e ei → ei.size ≠ 0 → KOK P sl o (f e ei)) : KOK P sl o (withElem tt t f) := by
  unfold withElem
  refine withT_ok hT fun i k => ?_
  split
  · rename_i e hd
    exact withT_ok hT fun ei ke => szPos_ok fun hs => h i e ei k hd ke hs
  · exact kFail_ok
theorem isDefer_call {c : Call} : (match Op.call c with | .defer _ => false | _ => true) = true := rfl
theorem cBuiltin_ok (hT : TTok P tt) {c : Call} {b : Builtin} (ho : o.op = .call c) (hc : c.callee = .builtin b) : KOK P sl o (cBuiltin sl tt c.argTypes.toList c.args.toList b) := by
  have nd : NotDefer o := notDefer ho rfl
  generalize hat : c.argTypes.toList = ats
  generalize hag : c.args.toList = args
  unfold cBuiltin
  split
  · -- append
    rename_i s x
    unfold cAppend
    split
    · rename_i t
      refine withElem_ok hT fun i e ei k hd ke hs => ⟨nd, (eAppend ho hc hag hat (.inl (argTy1n hat)) k hd ke hs).cok⟩
    · rename_i t xt
      refine withElem_ok hT fun i e ei k hd ke hs => withT_ok hT fun xi kx => ?_
      split
      · rename_i q hq
        exact ⟨nd, (eAppendZ ho hc hag hat k hd kx hq ke hs).cok⟩
      · rename_i hni
        exact ⟨nd, (eAppend ho hc hag hat (noZeros_of hat kx (fun q => hni q)) k hd ke hs).cok⟩
    · exact kFail_ok
  · -- len
    rename_i x t ts
    unfold cLen
    refine withT_ok hT fun i k => ?_
    split
    · rename_i n e hd; exact .inr ⟨nd, pLenArr ho hc hag hat k hd⟩
    · rename_i a hd
      refine withT_ok hT fun ai ka => ?_
      split
      · rename_i n e hd2; exact .inr ⟨nd, pLenPtr ho hc hag hat k hd ka hd2⟩
      · exact kFail_ok
    · rename_i hd; exact .inr ⟨nd, pLenStr ho hc hag hat k hd⟩
    · rename_i e hd; exact .inr ⟨nd, pLenSl ho hc hag hat k hd⟩
    · rename_i ka e hd; exact ⟨nd, nLenMap ho hc hag hat k hd⟩
    · exact kFail_ok
  · -- cap
    rename_i x t ts
    exact withElem_ok hT fun i e ei k hd ke hs => ⟨nd, (eCap ho hc hag hat k hd ke hs).cok⟩
  · -- copy
    rename_i d x t ts
    exact withElem_ok hT fun i e ei k hd ke hs => ⟨nd, (eCopy ho hc hag hat k hd ke).cok⟩
  · -- clear
    rename_i x t ts
    unfold cClear
    refine withT_ok hT fun i k => ?_
    split
    · rename_i e hd; exact withT_ok hT fun ei ke => szPos_ok fun hs => ⟨nd, (eClearSl ho hc hag hat k hd ke hs).cok⟩
    · rename_i ka e hd; exact ⟨nd, (eClearMap ho hc hag hat k hd).cok⟩
    · exact kFail_ok
  · -- delete
    rename_i m y t ts
    unfold cDelete
    refine withT_ok hT fun i k => ?_
    split
    · rename_i kt e hd; exact withK_ok hT fun ki kk hk => ⟨nd, (eDelete hT ho hc hag hat k hd kk hk).cok⟩
    · exact kFail_ok
  · refine .inr ⟨nd, ?_⟩
    rw [← hag]; exact pMM (mx := false) ho hc
  · refine .inr ⟨nd, ?_⟩
    rw [← hag]; exact pMM (mx := true) ho hc
  · exact .inr ⟨nd, pData ho hc hag⟩
  · -- unsafe.String
    rename_i p n t ts
    unfold cUnsafe
    refine withT_ok hT fun i k => ?_
    split
    · rename_i e hd
      refine withT_ok hT fun ei ke => ?_
      split
      · split
        · rename_i hz; exact ⟨nd, (eUnsafe ho hc hag hat k hd ke hz).cok⟩
        · exact kFail_ok
      · exact kFail_ok
    · exact kFail_ok
  · exact kFail_ok
theorem cCall_ok (hT : TTok P tt) {c : Call} (ho : o.op = .call c) : KOK P sl o (cCall sl tt c) := by
  have nd : NotDefer o := notDefer ho rfl
  unfold cCall
  split
  · rename_i b hc; exact cBuiltin_ok hT ho hc
  · rename_i recv name hc; exact ⟨nd, cInvoke hT ho hc⟩
  · rename_i f hc
    split
    · exact ⟨nd, cCallF ho hc⟩
    · exact ⟨nd, cApply hT ho hc⟩
theorem cDefer_ok {c : Call} (ho : o.op = .defer c) : KOK P sl o (cDefer sl c) := by
  unfold cDefer
  split
  · exact kFail_ok
  · rename_i hr
    split
    · rename_i f hc
      refine ⟨hr, fun φ vs ρ a w x hl hf => ?_⟩
      have hx := hl.at ho (x := f) (by simp [Op.operands, Call.operands, hc])
      have hf : deferV _ ((vk sl f).get vs ρ) = some x := hf
      generalize (vk sl f).get vs ρ = fv at hx hf
      generalize he : a.eval f = fe at hx
      cases hx <;> try (cases hf; done)
      rename_i fn fn' fs cs fs' cs' hfn hfs hcs
      cases hf
      refine ⟨{ target := .fn fn' cs', args := fs' ++ c.args.map a.eval }, ?_, ?_, fn', cs', rfl⟩
      · simp only [execOp, ho, resolve, hc, he, Deferred.ofValue]
        rfl
      · intro g p q e
        injection e with e1 e2 e3
        subst e1
        exact ⟨cs', by rw [show fn' = _ from hfn.symm]⟩
    · exact kFail_ok
end
end Go.Proofs.YtpjkcfglojigmaaGreatDoor.Ev
namespace Go.Proofs.YtpjkcfglojigmaaGreatDoor.Ev
set_option linter.unusedVariables false
set_option linter.unusedSimpArgs false
open Go
section
variable {P : Program} {tt : TT} {sl : SL} {o : Oper}
theorem pUK {f : List AVal → T AVal → Option AVal} (h : POK P sl o f) : POK P sl o f := h
theorem opK_ok (hT : TTok P tt) {op : Op} (ho : o.op = op) : KOK P sl o (opK sl tt op) := by
  cases op with
  | move x => exact .inr ⟨notDefer ho rfl, pMove ho⟩
  | assign x => exact .inr ⟨notDefer ho rfl, pAssign ho⟩
  | pick c a b => exact .inr ⟨notDefer ho rfl, pPick ho⟩
  | alloc e => exact withT_ok hT fun i k => ⟨notDefer ho rfl, aAlloc ho k⟩
  | box e x => exact ⟨notDefer ho rfl, aBox ho⟩
  | build t parts =>
    refine withT_ok hT fun i k => ?_
    split
    · rename_i fs hd; exact .inr ⟨notDefer ho rfl, pBuildS hT ho k hd⟩
    · rename_i n e hd; exact withT_ok hT fun ei ke => .inr ⟨notDefer ho rfl, pBuildA ho k hd ke⟩
    · exact kFail_ok
  | buildSlice t len parts =>
    refine withT_ok hT fun i k => ?_
    split
    · rename_i e hd
      refine withT_ok hT fun ei ke => szPos_ok fun hs => ?_
      split
      · rename_i hb; exact ⟨notDefer ho rfl, aBuildSlice ho k hd ke hs (Nat.le_of_ble_eq_true hb)⟩
      · exact kFail_ok
    · exact kFail_ok
  | insert t m k x =>
    refine withT_ok hT fun i ki => ?_
    split
    · rename_i kt e hd; exact withK_ok hT fun kk h1 h2 => ⟨notDefer ho rfl, (eMapPut hT (.inr ho) ki hd h1 h2).cok⟩
    · exact kFail_ok
  | load t p => exact withT_ok hT fun i k => ⟨notDefer ho rfl, nLoad ho k⟩
  | store t p x => exact withT_ok hT fun i k => ⟨notDefer ho rfl, (eStore ho k).cok⟩
  | ready g => exact kFail_ok
  | waits g => exact kFail_ok
  | nilCheck x => exact .inr ⟨notDefer ho rfl, pNil ho⟩
  | binOp op t x y yt =>
    have eqc : ∀ (neg : Bool), o.op = .binOp (eqOp neg) t x y yt → KOK P sl o (withT tt t fun i => cEq sl tt (eqOp neg) neg i x y) := by
      intro neg ho
      refine withT_ok hT fun i k => ?_
      unfold cEq
      split
      · refine ⟨notDefer ho rfl, pBin ho ?_ ?_⟩ <;> cases neg <;> simp [eqOp]
      · refine ⟨notDefer ho rfl, pBin ho ?_ ?_⟩ <;> cases neg <;> simp [eqOp]
      · rename_i e hd
        split
        · rename_i hy
          cases neg
          · exact .inr ⟨notDefer ho rfl, pIsNil (neg := false) ho k hd hy⟩
          · exact .inr ⟨notDefer ho rfl, pIsNil (neg := true) ho k hd hy⟩
        · exact ⟨notDefer ho rfl, nEq hT ho k (by rw [hd]; simp) (by rw [hd]; simp)⟩
      · rename_i h1 h2 h3; exact ⟨notDefer ho rfl, nEq hT ho k (fun q => h1 q) h2⟩
    show KOK P sl o (cBin sl tt op t x y)
    unfold cBin
    split
    · exact .inr ⟨notDefer ho rfl, pShl ho⟩
    · exact .inr ⟨notDefer ho rfl, pShr ho⟩
    · exact eqc false ho
    · exact eqc true ho
    · rename_i h1 h2 h3 h4
      split
      · exact .inr ⟨notDefer ho rfl, pBin ho (by simpa using h1) (by simpa using h2)⟩
      · exact ⟨notDefer ho rfl, pBin ho (by simpa using h1) (by simpa using h2)⟩
  | unOp op t x => exact .inr ⟨notDefer ho rfl, pUn ho⟩
  | convert s d x =>
    refine withT_ok hT fun si ks => withT_ok hT fun di kd => ?_
    split
    · rename_i q hs
      unfold cFromInt
      split
      · rename_i k2 hd; exact .inr ⟨notDefer ho rfl, pConvInt ho ks kd hd⟩
      · rename_i hd; exact .inr ⟨notDefer ho rfl, pConvRune ho ks kd hd⟩
      · exact kFail_ok
    · rename_i hs
      unfold cFromStr
      split
      · rename_i hd; exact .inr ⟨notDefer ho rfl, pConvStr ho ks kd hs hd⟩
      · rename_i e hd
        refine withT_ok hT fun ei ke => ?_
        split
        · rename_i he
          split
          · rename_i hz; exact ⟨notDefer ho rfl, (eToBytes ho ks kd ke hs hd he hz).cok⟩
          · exact kFail_ok
        · exact kFail_ok
      · exact kFail_ok
    · rename_i e hs
      unfold cFromSlice
      split
      · rename_i hd
        refine withT_ok hT fun ei ke => ?_
        split
        · rename_i he; exact ⟨notDefer ho rfl, nOfBytes ho ks kd ke hs hd he⟩
        · exact kFail_ok
      · exact kFail_ok
    · rename_i hs
      split
      · rename_i e hd; exact withT_ok hT fun ei ke => ⟨notDefer ho rfl, nConvUP ho ks kd ke hs hd⟩
      · exact kFail_ok
    · rename_i e hs
      split
      · rename_i hd; exact withT_ok hT fun ei ke => ⟨notDefer ho rfl, nConvPU ho ks kd ke hs hd⟩
      · exact kFail_ok
    · exact kFail_ok
  | sliceToArrayPointer => exact kFail_ok
  | makeInterface t x =>
    refine withT_ok hT fun i k => ?_
    split
    · exact kFail_ok
    · exact kFail_ok
    · rename_i h1 h2
      refine .inr ⟨notDefer ho rfl, pIface ho k ?_⟩
      split
      · rename_i b hb; exact absurd hb (h1 b)
      · rename_i hb; exact absurd hb h2
      · rfl
  | makeFunc fn a b =>
    show KOK P sl o (cFunc fn (lk sl a.toList) (lk sl b.toList))
    unfold cFunc
    split
    · exact kFail_ok
    · rename_i h; exact .inr ⟨notDefer ho rfl, pFunc ho (fun l => h l)⟩
  | makeMap t r =>
    cases r with
    | none => exact ⟨notDefer ho rfl, aMakeMap ho⟩
    | some x =>
      refine withT_ok hT fun i k => ?_
      split
      · rename_i ka e hd; exact ⟨notDefer ho rfl, aMakeMapR ho k hd⟩
      · exact kFail_ok
  | makeChan => exact kFail_ok
  | makeSlice t l c =>
    refine withT_ok hT fun i k => ?_
    split
    · rename_i e hd; exact withT_ok hT fun ei ke => szPos_ok fun hs => ⟨notDefer ho rfl, aMakeSlice ho k hd ke hs⟩
    · exact kFail_ok
  | slice t x lo hi mx =>
    refine withT_ok hT fun i k => ?_
    cases mx with
    | none =>
      show KOK P sl o (cSlice2 sl tt i x lo hi)
      unfold cSlice2
      split
      · rename_i hd; exact .inr ⟨notDefer ho rfl, pSliceStr ho k hd⟩
      · rename_i e hd; exact withT_ok hT fun ei ke => szPos_ok fun hs => ⟨notDefer ho rfl, nSlice ho k hd ke hs⟩
      · exact kFail_ok
    | some m =>
      cases hi with
      | none => exact kFail_ok
      | some hh =>
        show KOK P sl o (cSlice3 sl tt i x lo hh m)
        unfold cSlice3
        split
        · rename_i e hd; exact withT_ok hT fun ei ke => szPos_ok fun hs => ⟨notDefer ho rfl, nSlice3 ho k hd ke hs⟩
        · exact kFail_ok
  | fieldAddr s x f =>
    refine withT_ok hT fun i k => ?_
    split
    · rename_i fs hd
      split
      · rename_i fd hf; exact withT_ok hT fun ti kt => szPos_ok fun hs => .inr ⟨notDefer ho rfl, pFieldAddr ho k hd hf kt hs⟩
      · exact kFail_ok
    · exact kFail_ok
  | field s x f =>
    refine withT_ok hT fun i k => ?_
    split
    · rename_i fs hd
      split
      · rename_i fd hf; exact withT_ok hT fun ti kt => .inr ⟨notDefer ho rfl, pField ho k hd hf kt⟩
      · exact kFail_ok
    · exact kFail_ok
  | indexAddr t x ix =>
    refine withT_ok hT fun i k => ?_
    split
    · rename_i e hd; exact withT_ok hT fun ei ke => .inr ⟨notDefer ho rfl, pIdxSlice ho k hd ke⟩
    · rename_i n e hd; exact withT_ok hT fun ei ke => .inr ⟨notDefer ho rfl, pIdxArr ho k hd ke⟩
    · exact kFail_ok
  | index t x ix =>
    refine withT_ok hT fun i k => ?_
    split
    · rename_i hd; exact .inr ⟨notDefer ho rfl, pAtStr ho k hd⟩
    · rename_i n e hd; exact withT_ok hT fun ei ke => .inr ⟨notDefer ho rfl, pAtArr ho k hd ke⟩
    · exact kFail_ok
  | lookup t x k ok =>
    refine withT_ok hT fun i ki => ?_
    split
    · rename_i kt e hd; exact withK_ok hT fun kk h1 h2 => withT_ok hT fun ei ke => ⟨notDefer ho rfl, nLookup hT ho ki hd h1 h2 ke⟩
    · exact kFail_ok
  | mapUpdate t m k x =>
    refine withT_ok hT fun i ki => ?_
    split
    · rename_i kt e hd; exact withK_ok hT fun kk h1 h2 => ⟨notDefer ho rfl, (eMapPut hT (.inl ho) ki hd h1 h2).cok⟩
    · exact kFail_ok
  | mapEntry t m k =>
    refine withT_ok hT fun i ki => ?_
    split
    · rename_i kt e hd; exact withK_ok hT fun kk h1 h2 => withT_ok hT fun ei ke => ⟨notDefer ho rfl, (eMapEnt hT ho ki hd h1 h2 ke).cok⟩
    · exact kFail_ok
  | entryStore t m s x => exact ⟨notDefer ho rfl, (eEntPut ho).cok⟩
  | range t x =>
    refine withT_ok hT fun i k => ?_
    split
    · rename_i hd; exact ⟨notDefer ho rfl, (eRangeStr ho k hd).cok⟩
    · rename_i ka e hd; exact ⟨notDefer ho rfl, (eRangeMap ho k hd).cok⟩
    · exact kFail_ok
  | next it s =>
    cases s with
    | true => exact ⟨notDefer ho rfl, (eNextS ho).cok⟩
    | false => exact ⟨notDefer ho rfl, (eNextM ho).cok⟩
  | entry it => exact ⟨notDefer ho rfl, nEntry ho⟩
  | typeAssert x xt t ok =>
    refine withT_ok hT fun i k => ?_
    split
    · exact kFail_ok
    · exact kFail_ok
    · rename_i h1 h2
      refine .inr ⟨notDefer ho rfl, pAssert ho k ?_⟩
      split
      · rename_i b hb; exact absurd hb (h1 b)
      · rename_i hb; exact absurd hb h2
      · rfl
  | extract x i => exact .inr ⟨notDefer ho rfl, pExt ho⟩
  | call c => exact cCall_ok hT ho
  | go c => exact kFail_ok
  | defer c => exact cDefer_ok ho
  | panic x => exact kFail_ok
  | send ch x => exact kFail_ok
  | recv t ch ok => exact kFail_ok
  | select cs b => exact kFail_ok
end
end Go.Proofs.YtpjkcfglojigmaaGreatDoor.Ev
namespace Go.Proofs.YtpjkcfglojigmaaGreatDoor.Ev
set_option linter.unusedVariables false
set_option linter.unusedSimpArgs false
open Go

/-! ## deferred calls -/
def MarkOK (n₀ : Nat) (φ : Ren) (h : Heap) (hp : Array Obj) (r : Nat) : Prop := n₀ ≤ r ∧ hp[r]? = some (.deferred (some [])) ∧ ∀ id, Live φ h id → φ.blk id ≠ r
def DRel (n₀ : Nat) (φ : Ren) (h : Heap) (hp : Array Obj) : List (AVal × List AVal) → List Deferred → Prop
  | eds, [] => eds = []
  | eds, d :: ds => (∃ r, d.target = .collected r ∧ MarkOK n₀ φ h hp r ∧ (∀ d' ∈ ds, d'.target ≠ .collected r) ∧ DRel n₀ φ h hp eds ds) ∨
      (∃ x eds', eds = x :: eds' ∧ DEnt x d ∧ (∃ fv cap, d.target = .fn fv cap) ∧ DRel n₀ φ h hp eds' ds)
theorem MarkOK.tr {n₀ : Nat} {φ ψ : Ren} {h h' : Heap} {hp hq : Array Obj} {r : Nat} (m : MarkOK n₀ φ h hp r) (t : Tr φ h hp ψ h' hq) : MarkOK n₀ ψ h' hq r := by
  have hlt : r < hp.size := (Array.getElem?_eq_some_iff.1 m.2.1).1
  refine ⟨m.1, (t.keep r hlt m.2.2).trans m.2.1, fun id hid => ?_⟩
  rcases t.new id hid with h1 | h1 | ⟨j, hj, h1⟩
  · rw [t.le.blk _ h1.1]; exact m.2.2 id h1
  · omega
  · rw [h1]; exact m.2.2 j hj
theorem DRel.tr {n₀ : Nat} {φ ψ : Ren} {h h' : Heap} {hp hq : Array Obj} (t : Tr φ h hp ψ h' hq) : ∀ {eds : List (AVal × List AVal)} {ds : List Deferred}, DRel n₀ φ h hp eds ds → DRel n₀ ψ h' hq eds ds
  | _, [], d => d
  | _, _ :: ds, .inl ⟨r, h1, h2, h3, h4⟩ => .inl ⟨r, h1, h2.tr t, h3, DRel.tr t h4⟩
  | _, _ :: ds, .inr ⟨x, e, h1, h2, h3, h4⟩ => .inr ⟨x, e, h1, h2, h3, DRel.tr t h4⟩

/-! ## states -/
structure SRel (P : Program) (n₀ : Nat) (φ : Ren) (glob nt : Nat) (e : Env) (h : Heap) (a : Act) (w : World) : Prop where
  tm : TmRel φ glob e.tmps a.tmps
  nt : nt ≤ a.tmps.size
  df : DRel n₀ φ h w.heap e.defers a.defers
  hp : HRel P φ h w.heap
/-- within a region -/
structure LSt (P : Program) (n₀ : Nat) (φ : Ren) (sl : SL) (nt : Nat) (vs : List AVal) (e : Env) (h : Heap) (a : Act) (w : World) : Prop where
  tm : LRel φ sl vs e.tmps a.tmps
  nt : nt ≤ a.tmps.size
  df : DRel n₀ φ h w.heap e.defers a.defers
  hp : HRel P φ h w.heap
theorem LSt.srel {P : Program} {n₀ : Nat} {φ : Ren} {sl : SL} {nt : Nat} {vs : List AVal} {e : Env} {h : Heap} {a : Act} {w : World} (L : LSt P n₀ φ sl nt vs e h a w) : SRel P n₀ φ sl.glob nt e h a w := ⟨L.tm.tm, L.nt, L.df, L.hp⟩
theorem LSt.move {P : Program} {n₀ : Nat} {φ ψ : Ren} {sl : SL} {nt : Nat} {vs : List AVal} {e : Env} {h h' : Heap} {a : Act} {w w' : World} (L : LSt P n₀ φ sl nt vs e h a w) (H : HRel P ψ h' w'.heap) (t : Tr φ h w.heap ψ h' w'.heap) : LSt P n₀ ψ sl nt vs e h' a w' :=
  ⟨L.tm.mono t.le, L.nt, L.df.tr t, H⟩

/-! ## the monad -/
theorem appO_some {α : Type} {a b : M α} {l : List (α × Heap)} (h : appO a b = some l) : ∃ l1 l2, a = some l1 ∧ b = some l2 ∧ l = l1 ++ l2 := by
  unfold appO at h
  split at h
  · cases h
  · split at h
    · cases h
    · rename_i l1 _ l2; injection h with h; exact ⟨l1, l2, rfl, rfl, h.symm⟩
theorem bindMany_some {α β : Type} {f : α → Heap → M β} : ∀ {l : List (α × Heap)} {outs : List (β × Heap)}, bindMany f l = some outs → ∀ x ∈ l, ∃ o, f x.1 x.2 = some o ∧ ∀ y ∈ o, y ∈ outs
  | [], _, _, x, hx => by cases hx
  | z :: l, outs, h, x, hx => by
    obtain ⟨l1, l2, h1, h2, rfl⟩ := appO_some (show appO (f z.1 z.2) (bindMany f l) = some outs from h)
    rcases List.mem_cons.1 hx with rfl | hx
    · exact ⟨l1, h1, fun y hy => List.mem_append_left _ hy⟩
    · obtain ⟨o, h3, h4⟩ := bindMany_some h2 x hx
      exact ⟨o, h3, fun y hy => List.mem_append_right _ (h4 y hy)⟩
theorem bindM_some {α β : Type} {m : M α} {f : α → Heap → M β} {outs : List (β × Heap)} (h : bindM m f = some outs) : ∃ l, m = some l ∧ ∀ x ∈ l, ∃ o, f x.1 x.2 = some o ∧ ∀ y ∈ o, y ∈ outs := by
  unfold bindM at h
  split at h
  · cases h
  · rename_i l
    refine ⟨l, rfl, ?_⟩
    match l, h with
    | [], _ => intro x hx; cases hx
    | [z], h =>
      intro x hx
      simp only [List.mem_singleton] at hx
      subst hx
      exact ⟨outs, h, fun y hy => hy⟩
    | z :: z' :: l, h => exact bindMany_some (show bindMany f (z :: z' :: l) = some outs from h)
section
variable {P : Program} {n₀ : Nat} {tt : TT} {o : Oper}

/-- an operation, and what comes behind it -/
theorem stepK_ok {sl : SL} {ro : Option Nat} (hro : ro = none ∨ sl.rnd = true) {k : NK} {K : OpK} (hk : KOK P sl o K) {r : Rt} (hr : RtOK P r.call) {nt : Nat} {φ : Ren} {vs : List AVal} {e : Env} {h : Heap} {a : Act} {w : World} {outs : List (Env × Heap)}
    (hrun : (stepK k K).run r vs e h = some outs) (L : LSt P n₀ φ sl nt vs e h a w) (next : Act → World → Prop) (Q : Exit → Act → World → Prop)
    (hn : ∀ ψ h' e' a' w' v x outs', k.go r vs e' h' v = some outs' → (∀ y ∈ outs', y ∈ outs) → LSt P n₀ ψ sl nt vs e' h' a' w' → Tr φ h w.heap ψ h' w'.heap → Still w w' → VRel ψ v x → next (a'.put o.dst x) w') :
    o.wpIn (W ro) 0 P a w next Q := by
  refine ⟨fun _ _ => trivial, ?_⟩
  have semE : NotDefer o → o.semAt (W ro).round a.eval = execOp a.eval o := fun nd => Oper.semAt_eq _ _ _ nd
  have pure_ : ∀ {f : List AVal → T AVal → Option AVal} {v : AVal} {outs' : List (Env × Heap)}, NotDefer o → POK P sl o f → f vs e.tmps = some v → (∀ u, (∃ φ' x, VRel φ' v x ∧ (u = v ∨ VRel φ' u x)) → True) →
      (∀ x, VRel φ v x → ∃ u outs', VRel φ u x ∧ k.go r vs e h u = some outs' ∧ ∀ y ∈ outs', y ∈ outs) → o.uponIn (W ro) 0 P a next Q ((o.semAt (W ro).round a.eval).run P w) := by
    intro f v _ nd hp hf _ hg
    obtain ⟨x, h1, h2⟩ := hp φ vs e.tmps a w v (L.tm.ops o) hf
    rw [semE nd, h1]
    obtain ⟨u, outs', g1, g2, g3⟩ := hg x h2
    exact hn φ h e a w u x outs' g2 g3 L (.refl _ _ _) (.refl _) g1
  cases K with
  | p f =>
    have hrun : nStep k r vs e h (f vs e.tmps) = some outs := hrun
    cases hf : f vs e.tmps with
    | none => rw [hf] at hrun; cases hrun
    | some v =>
      rw [hf] at hrun
      rcases hk with hk | ⟨nd, hk⟩
      · rw [hk] at hf; cases hf
      · exact pure_ (outs' := outs) nd hk hf (fun _ _ => trivial) (fun x hx => ⟨v, outs, hx, hrun, fun y hy => hy⟩)
  | n f =>
    have hrun : nStep k r vs e h (f vs e.tmps h) = some outs := hrun
    cases hf : f vs e.tmps h with
    | none => rw [hf] at hrun; cases hrun
    | some v =>
      rw [hf] at hrun
      obtain ⟨nd, hk⟩ := hk
      obtain ⟨x, h1, h2⟩ := hk φ h vs e.tmps a w v (L.tm.ops o) L.hp.toHRelR hf
      rw [semE nd, h1]
      exact hn φ h e a w v x outs hrun (fun y hy => hy) L (.refl _ _ _) (.refl _) h2
  | u f =>
    have hrun : uStep k r vs e h (f vs e.tmps) = some outs := hrun
    cases hf : f vs e.tmps with
    | none => rw [hf] at hrun; cases hrun
    | some v =>
      rw [hf] at hrun
      obtain ⟨nd, hk⟩ := hk
      refine pure_ (outs' := outs) nd hk hf (fun _ _ => trivial) (fun x hx => ?_)
      by_cases hv : v = .unkBool
      · subst hv
        obtain ⟨l1, l2, h1, h2, rfl⟩ := appO_some (show appO (k.go r vs e h (.bool true)) (k.go r vs e h (.bool false)) = some outs from hrun)
        cases hx with
        | unkBool b =>
          cases b
          · exact ⟨_, l2, .bool false, h2, fun y hy => List.mem_append_right _ hy⟩
          · exact ⟨_, l1, .bool true, h1, fun y hy => List.mem_append_left _ hy⟩
      · have : uStep k r vs e h (some v) = k.go r vs e h v := by
          cases v <;> first | rfl | exact absurd rfl hv
        rw [this] at hrun
        exact ⟨v, outs, hx, hrun, fun y hy => hy⟩
  | a f =>
    have hrun : aStep k r vs e h (f vs e.tmps h.next) = some outs := hrun
    cases hf : f vs e.tmps h.next with
    | none => rw [hf] at hrun; cases hrun
    | some x =>
      rw [hf] at hrun
      obtain ⟨ob, v⟩ := x
      obtain ⟨nd, hk⟩ := hk
      obtain ⟨x, o', w', cap, sz, h1, h2, h3, h4, h5⟩ := hk φ vs e.tmps a w h.next ob v (L.tm.ops o) L.hp.fresh hf
      rw [semE nd, h1]
      have A := L.hp.alloc h4
      rw [← h2] at A
      exact hn _ (h.alloc ob) e a w' v x outs hrun (fun y hy => hy) (L.move A.1 A.2) A.2 h5 h3
  | e f =>
    obtain ⟨l, h1, h2⟩ := bindM_some (show bindM (f r vs e.tmps h) (fun v h' => k.go r vs e h' v) = some outs from hrun)
    obtain ⟨nd, hk⟩ := hk
    have R := hk r hr φ h vs e.tmps a w l (L.tm.ops o) L.hp h1
    rw [semE nd]
    refine R.upon Q ro 0 fun x w' ⟨ψ, vh, g1, g2, g3, g4, g5⟩ => ?_
    obtain ⟨o2, g6, g7⟩ := h2 vh g1
    exact hn ψ vh.2 e a w' vh.1 x o2 g6 g7 (L.move g2 g3) g3 g5 g4
  | d f =>
    have hrun : dStep k r vs e h (f vs e.tmps) = some outs := hrun
    obtain ⟨hrnd, hk⟩ := hk
    have hro : ro = none := hro.resolve_right (by rw [hrnd]; simp)
    subst hro
    cases hf : f vs e.tmps with
    | none => rw [hf] at hrun; cases hrun
    | some x =>
      rw [hf] at hrun
      obtain ⟨d, h1, h2, h3⟩ := hk φ vs e.tmps a w x (L.tm.ops o) hf
      show o.uponIn (W none) 0 P a next Q ((execOp a.eval o).run P w)
      rw [h1]
      have hrun : k.go r vs ⟨e.tmps, x :: e.defers⟩ h undefA = some outs := hrun
      exact hn φ h ⟨e.tmps, x :: e.defers⟩ { a with defers := d :: a.defers } w undefA undef outs hrun (fun y hy => hy) ⟨L.tm, L.nt, .inr ⟨x, e.defers, rfl, h2, h3, L.df⟩, L.hp⟩ (.refl _ _ _) (.refl _) (.junk _)
end
end Go.Proofs.YtpjkcfglojigmaaGreatDoor.Ev
namespace Go.Proofs.YtpjkcfglojigmaaGreatDoor.Ev
set_option linter.unusedVariables false
set_option linter.unusedSimpArgs false
open Go
section
variable {P : Program} {n₀ : Nat} {tt : TT} {o : Oper}
theorem dst_lt {tmps : Array Value} {d nt : Nat} (h : d < nt) (k : nt ≤ tmps.size) : d < tmps.size := Nat.lt_of_lt_of_le h k
theorem testBit_eq (a b : Nat) : Nat.testBit a b = a.testBit b := rfl
/-- the result goes to its destination -/
theorem goK_ok {fi : FI} {dst : Option Tmp} {st : List Tmp} {next : StK} {r : Rt} {vs : List AVal} {e : Env} {h : Heap} {v : AVal} {outs : List (Env × Heap)} (hrun : (goK next (dkOf fi dst)).go r vs e h v = some outs)
    {φ : Ren} {a : Act} {w : World} (L : LSt P n₀ φ ⟨fi.glob, st, fi.rnd⟩ fi.nt vs e h a w) {x : Value} (hv : VRel φ v x) :
    ∃ vs' e', next.run r vs' e' h = some outs ∧ LSt P n₀ φ ⟨fi.glob, pushT fi.glob st dst, fi.rnd⟩ fi.nt vs' e' h (a.put dst x) w := by
  cases dst with
  | none => exact ⟨vs, e, hrun, L⟩
  | some d =>
    unfold dkOf at hrun
    simp only at hrun
    rw [blt_dec] at hrun
    by_cases hd : d < fi.nt
    · rw [decide_eq_true hd] at hrun
      simp only at hrun
      have hsz : d < a.tmps.size := dst_lt hd L.nt
      have hnt : fi.nt ≤ (a.put (some d) x).tmps.size := by simpa [Act.put] using L.nt
      cases hg : Nat.testBit fi.glob d with
      | true =>
        rw [hg] at hrun
        rw [show pushT fi.glob st (some d) = st from by simp only [pushT, hg]]
        exact ⟨vs, ⟨(sk dep d).set (some v) e.tmps, e.defers⟩, hrun, ⟨L.tm.putG hg hsz hv, hnt, L.df, L.hp⟩⟩
      | false =>
        rw [hg] at hrun
        rw [show pushT fi.glob st (some d) = d :: st from by simp only [pushT, hg]]
        exact ⟨v :: vs, e, hrun, ⟨L.tm.putL hg hsz hv, hnt, L.df, L.hp⟩⟩
    · rw [decide_eq_false hd] at hrun
      cases hrun
/-- an operation that may not be wanted -/
theorem dstOf_some {ops : Array Oper} {j d : Nat} (h : dstOf ops.toList j = some d) : (ops[j]?).bind (·.dst) = some d := by
  obtain ⟨o, h1, h2⟩ := ob_some h
  rw [nth_eq] at h1
  have : ops[j]? = some o := by simpa using h1
  rw [this]; exact h2
theorem yielded_of {ops : Array Oper} {tmps : Array Value} {j d : Nat} (h : (ops[j]?).bind (·.dst) = some d) : yielded ops tmps j = match tmps[d]? with | some (.bool b) => some b | _ => none := by
  unfold yielded; rw [h]; rfl
theorem eqBool_dec (a b : Bool) : eqBool a b = decide (a = b) := by cases a <;> cases b <;> rfl
/-- what a guard's value says -/
theorem guard_ok {φ : Ren} {tmps : Array Value} {ops : Array Oper} {j d : Nat} {want : Bool} (hd : dstOf ops.toList j = some d) {v : AVal} (hv : VRel φ v (tmps.getD d undef)) (hg : o.guard = some (j, want)) :
    (∀ b, v = .bool b → Region.wanted o (yielded ops tmps) = decide (b = want)) ∧ (v = .tuple [] → Region.wanted o (yielded ops tmps) = false) := by
  have hy := yielded_of (tmps := tmps) (dstOf_some hd)
  have hw : Region.wanted o (yielded ops tmps) = (yielded ops tmps j == some want) := by simp [Region.wanted, hg]
  rw [hw, hy]
  constructor
  · rintro b rfl
    generalize hx : tmps.getD d undef = x at hv
    cases hv
    have : tmps[d]? = some (.bool b) := by
      rw [Array.getD_eq_getD_getElem?] at hx
      cases hq : tmps[d]? with
      | none => rw [hq] at hx; simp [undef] at hx
      | some y => rw [hq] at hx; simpa using hx
    rw [this]
    cases b <;> cases want <;> rfl
  · rintro rfl
    generalize hx : tmps.getD d undef = x at hv
    cases hv
    rename_i l' hl
    have : tmps[d]? = none ∨ ∃ z, tmps[d]? = some (.tuple z) := by
      rw [Array.getD_eq_getD_getElem?] at hx
      cases hq : tmps[d]? with
      | none => exact .inl rfl
      | some y => rw [hq] at hx; exact .inr ⟨l', by simpa using hx⟩
    rcases this with h | ⟨z, h⟩ <;> rw [h] <;> cases want <;> rfl
theorem skip_rel (φ : Ren) : VRel φ skipA undef := .tuple [] #[] .nil
/-- the operations of a region in their order -/
theorem opsK_ok (hT : TTok P tt) {fi : FI} {ro : Option Nat} (hro : ro = none ∨ fi.rnd = true) {ops : Array Oper} {r : Rt} (hr : RtOK P r.call) (Q : Exit → Act → World → Prop) :
    ∀ (l : List Oper) (i : Nat) (_ : ops.toList.drop i = l) (st : List Tmp) (vs : List AVal) (e : Env) (h : Heap) (φ : Ren) (a : Act) (w : World) (outs : List (Env × Heap)),
      (opsK fi tt ops.toList l st).run r vs e h = some outs → LSt P n₀ φ ⟨fi.glob, st, fi.rnd⟩ fi.nt vs e h a w →
      (∀ ψ x a' w', x ∈ outs → SRel P n₀ ψ fi.glob fi.nt x.1 x.2 a' w' → Tr φ h w.heap ψ x.2 w'.heap → Still w w' → Q .normal a' w') → wpOpsIn (W ro) 0 P ops Q (List.range' i l.length) a w := by
  intro l
  induction l with
  | nil =>
    intro i _ st vs e h φ a w outs hrun L hq
    have hrun : some [(e, h)] = some outs := hrun
    injection hrun with hrun
    exact hq φ (e, h) a w (by rw [← hrun]; exact List.mem_singleton.2 rfl) L.srel (.refl _ _ _) (.refl _)
  | cons o l ih =>
    intro i hi st vs e h φ a w outs hrun L hq
    have hlt : i < ops.toList.length := by
      rcases Nat.lt_or_ge i ops.toList.length with h1 | h1
      · exact h1
      · rw [List.drop_eq_nil_of_le h1] at hi; cases hi
    have hoi : ops[i]? = some o := by
      have : (ops.toList.drop i)[0]? = some o := by rw [hi]; rfl
      rw [List.getElem?_drop] at this
      simpa using this
    have hdrop : ops.toList.drop (i + 1) = l := by
      rw [← List.drop_drop, hi]; rfl
    rw [show (o :: l).length = l.length + 1 from rfl, List.range'_succ]
    simp only [wpOpsIn, hoi]
    -- what comes behind the operation
    have behind : ∀ ψ h' e' a' w' v x outs', (goK (opsK fi tt ops.toList l (pushT fi.glob st o.dst)) (dkOf fi o.dst)).go r vs e' h' v = some outs' → (∀ y ∈ outs', y ∈ outs) → LSt P n₀ ψ ⟨fi.glob, st, fi.rnd⟩ fi.nt vs e' h' a' w' →
        Tr φ h w.heap ψ h' w'.heap → Still w w' → VRel ψ v x → wpOpsIn (W ro) 0 P ops Q (List.range' (i + 1) l.length) (a'.put o.dst x) w' := by
      intro ψ h' e' a' w' v x outs' hgo hsub L' t s hv
      obtain ⟨vs2, e2, h1, h2⟩ := goK_ok hgo L' hv
      exact ih (i + 1) hdrop _ vs2 e2 h' ψ _ w' outs' h1 h2 fun χ y a2 w2 hy hs t2 s2 => hq χ y a2 w2 (hsub y hy) hs (t.trans t2) (s.trans s2)
    have hrun : (operK ⟨fi.glob, st, fi.rnd⟩ tt ops.toList o (goK (opsK fi tt ops.toList l (pushT fi.glob st o.dst)) (dkOf fi o.dst))).run r vs e h = some outs := hrun
    unfold operK at hrun
    split at hrun
    · rename_i hg
      have hwant : Region.wanted o (yielded ops a.tmps) = true := by simp [Region.wanted, hg]
      rw [if_pos hwant]
      exact stepK_ok hro (opK_ok hT rfl) hr hrun L _ Q behind
    · rename_i g hg
      obtain ⟨j, want⟩ := g
      unfold guardO at hrun
      split at hrun
      · rename_i d hd
        have hv := vTmpS_rel L.tm d
        obtain ⟨g1, g2⟩ := guard_ok (want := want) hd hv hg
        have hrun : guardRun want _ _ r vs e h ((vTmpS ⟨fi.glob, st, fi.rnd⟩ d).get vs e.tmps) = some outs := hrun
        generalize (vTmpS ⟨fi.glob, st, fi.rnd⟩ d).get vs e.tmps = gv at hrun g1 g2
        unfold guardRun at hrun
        split at hrun
        · rename_i b
          rw [eqBool_dec] at hrun
          have hwant := g1 b rfl
          by_cases hb : b = want
          · rw [decide_eq_true hb] at hrun hwant
            rw [if_pos hwant]
            exact stepK_ok hro (opK_ok hT rfl) hr hrun L _ Q behind
          · rw [decide_eq_false hb] at hrun hwant
            rw [if_neg (by rw [hwant]; simp)]
            exact ⟨fun _ _ => trivial, behind φ h e a w skipA undef outs hrun (fun y hy => hy) L (.refl _ _ _) (.refl _) (skip_rel φ)⟩
        · split at hrun
          · rw [if_neg (by rw [g2 rfl]; simp)]
            exact ⟨fun _ _ => trivial, behind φ h e a w skipA undef outs hrun (fun y hy => hy) L (.refl _ _ _) (.refl _) (skip_rel φ)⟩
          · cases hrun
        · cases hrun
      · cases hrun
theorem region_ok (hT : TTok P tt) {fi : FI} {ro : Option Nat} (hro : ro = none ∨ fi.rnd = true) {id : Nat} {ops : Array Oper} {r : Rt} (hr : RtOK P r.call) {Q : Exit → Act → World → Prop} {e : Env} {h : Heap} {φ : Ren} {a : Act} {w : World} {outs : List (Env × Heap)}
    (hrun : (opsK fi tt ops.toList ops.toList []).run r [] e h = some outs) (S : SRel P n₀ φ fi.glob fi.nt e h a w)
    (hq : ∀ ψ x a' w', x ∈ outs → SRel P n₀ ψ fi.glob fi.nt x.1 x.2 a' w' → Tr φ h w.heap ψ x.2 w'.heap → Still w w' → Q .normal a' w') : (Code.region id ops false).wpIn (W ro) 0 P Q a w := by
  refine wpIn_region ?_
  have := opsK_ok hT hro (ops := ops) hr Q ops.toList 0 rfl [] [] e h φ a w outs hrun ⟨LRel.start S.tm, S.nt, S.df, S.hp⟩ hq
  rw [List.range_eq_range']
  simpa using this
end
end Go.Proofs.YtpjkcfglojigmaaGreatDoor.Ev
namespace Go.Proofs.YtpjkcfglojigmaaGreatDoor.Ev
set_option linter.unusedVariables false
set_option linter.unusedSimpArgs false
open Go

/-! ## masks -/
theorem bit1_test (i j : Nat) : (bit1 i).testBit j = decide (i = j) := by
  have : bit1 i = 2 ^ i := by
    show 1 <<< i = 2 ^ i
    rw [Nat.shiftLeft_eq, Nat.one_mul]
  rw [this, Nat.testBit_two_pow]
theorem lor_test (a b j : Nat) : (Nat.lor a b).testBit j = (a.testBit j || b.testBit j) := Nat.testBit_or a b j
theorem land_test (a b j : Nat) : (Nat.land a b).testBit j = (a.testBit j && b.testBit j) := Nat.testBit_and a b j
theorem full_test (n j : Nat) : (Nat.sub (bit1 n) 1).testBit j = decide (j < n) := by
  have : bit1 n = 2 ^ n := by
    show 1 <<< n = 2 ^ n
    rw [Nat.shiftLeft_eq, Nat.one_mul]
  rw [this]; exact Nat.testBit_two_pow_sub_one n j
theorem beq_true {a b : Nat} (h : Nat.beq a b = true) : a = b := Nat.eq_of_beq_eq_true h
theorem subM_test {a b : Nat} (h : subM a b = true) {j : Nat} (hj : a.testBit j = true) : b.testBit j = true := by
  have h : Nat.land a b = a := beq_true h
  have h2 := land_test a b j
  rw [h, hj] at h2
  simpa using h2.symm
theorem land_ne {a b : Nat} (h : Nat.land a b ≠ 0) : ∃ j, a.testBit j = true ∧ b.testBit j = true := by
  obtain ⟨j, hj⟩ := Nat.exists_testBit_of_ne_zero h
  rw [land_test] at hj
  exact ⟨j, by simpa using hj⟩
theorem andB_eq (a b : Bool) : andB a b = (a && b) := by cases a <;> rfl
theorem orB_eq (a b : Bool) : orB a b = (a || b) := by cases a <;> rfl
theorem andB_true {a b : Bool} (h : andB a b = true) : a = true ∧ b = true := by rw [andB_eq] at h; simpa using h

/-! ## edges -/
theorem bAny_eq (e : Edge) : bAny e.ground = Region.binds .any e := by
  unfold bAny Region.binds; cases e.ground <;> rfl
theorem bText_eq (e : Edge) : bText e.ground = Region.binds .text e := by
  unfold bText Region.binds; cases e.ground <;> rfl
theorem bGc_eq (e : Edge) : bGc e.ground = Region.binds .gc e := by
  unfold bGc Region.binds; cases e.ground <;> rfl
theorem binds_any {md : Region.Mode} {e : Edge} (h : Region.binds .any e = true) : Region.binds md e = true := by
  revert h; unfold Region.binds; cases e.ground <;> simp
theorem preds_test : ∀ {l : List Edge} {j : Nat}, (preds l).testBit j = true → ∃ e ∈ l, Region.binds .any e = true ∧ e.on = j
  | [], j, h => by simp [preds] at h
  | e :: l, j, h => by
    unfold preds at h
    cases hb : bAny e.ground with
    | true =>
      rw [hb] at h
      have h : (Nat.lor (bit1 e.on) (preds l)).testBit j = true := h
      rw [lor_test, bit1_test] at h
      rcases Bool.or_eq_true_iff.1 h with h | h
      · exact ⟨e, by simp, by rw [← bAny_eq]; exact hb, of_decide_eq_true h⟩
      · obtain ⟨e', h1, h2⟩ := preds_test h
        exact ⟨e', by simp [h1], h2⟩
    | false =>
      rw [hb] at h
      obtain ⟨e', h1, h2⟩ := preds_test h
      exact ⟨e', by simp [h1], h2⟩
theorem edgesIn_mem {b : Ground → Bool} {D : Nat} : ∀ {l : List Edge}, edgesIn b D l = true → ∀ e ∈ l, b e.ground = true → D.testBit e.on = true
  | [], _, e, he, _ => by cases he
  | x :: l, h, e, he, hb => by
    unfold edgesIn at h
    cases hx : b x.ground with
    | true =>
      rw [hx] at h
      obtain ⟨h1, h2⟩ := andB_true h
      rcases List.mem_cons.1 he with rfl | he
      · exact h1
      · exact edgesIn_mem h2 e he hb
    | false =>
      rw [hx] at h
      rcases List.mem_cons.1 he with rfl | he
      · rw [hx] at hb; cases hb
      · exact edgesIn_mem h e he hb

/-! ## which operations are done -/
def Lst (listed : Array Bool) (j : Nat) : Prop := listed.getD j false = true
theorem mem_ready {md : Region.Mode} {ops : Array Oper} {listed : Array Bool} {i : Nat} : i ∈ Region.ready md ops listed ↔
    i < ops.size ∧ listed.getD i true = false ∧ ∃ o, ops[i]? = some o ∧ ∀ e ∈ o.after.toList, Region.binds md e = true → Lst listed e.on := by
  unfold Region.ready Lst
  rw [List.mem_filter, List.mem_range]
  constructor
  · rintro ⟨h1, h2⟩
    simp only [Bool.and_eq_true, Bool.not_eq_true'] at h2
    obtain ⟨h2, h3⟩ := h2
    refine ⟨h1, h2, ?_⟩
    cases ho : ops[i]? with
    | none => rw [ho] at h3; cases h3
    | some o =>
      rw [ho] at h3
      simp only [Option.map_some, Option.getD_some, Array.all_eq_true_iff_forall_mem, Bool.or_eq_true, Bool.not_eq_true'] at h3
      refine ⟨o, rfl, fun e he hb => ?_⟩
      rcases h3 e (by simpa using he) with h | h
      · rw [hb] at h; cases h
      · exact h
  · rintro ⟨h1, h2, o, ho, h3⟩
    refine ⟨h1, ?_⟩
    simp only [h2, ho, Option.map_some, Option.getD_some, Bool.not_false, Bool.true_and, Array.all_eq_true_iff_forall_mem, Bool.or_eq_true, Bool.not_eq_true']
    intro e he
    cases hb : Region.binds md e with
    | false => exact .inl rfl
    | true => exact .inr (h3 e (by simpa using he) hb)
theorem topo_all {md : Region.Mode} {b : Ground → Bool} (hb : ∀ e : Edge, Region.binds md e = true → b e.ground = true) {ops : Array Oper} {listed : Array Bool} (hsz : listed.size = ops.size) (hr : Region.ready md ops listed = []) :
    ∀ (l : List Nat) (D : Nat), topoOk b ops.toList l D = true → (∀ j, D.testBit j = true → Lst listed j) → ∀ i, i < ops.size → Lst listed i
  | [], D, h, hD, i, hi => by
    have h : D = Nat.sub (bit1 ops.toList.length) 1 := beq_true h
    refine hD i ?_
    rw [h, full_test]
    exact decide_eq_true (by simpa using hi)
  | k :: l, D, h, hD, i, hi => by
    unfold topoOk at h
    split at h
    · cases h
    · rename_i o ho
      obtain ⟨h1, h2⟩ := andB_true h
      rw [nth_eq] at ho
      have hok : ops[k]? = some o := by simpa using ho
      have hk : k < ops.size := (Array.getElem?_eq_some_iff.1 hok).1
      refine topo_all hb hsz hr l _ h2 (fun j hj => ?_) i hi
      rw [lor_test, bit1_test] at hj
      rcases Bool.or_eq_true_iff.1 hj with hj | hj
      · have hj := of_decide_eq_true hj
        subst hj
        by_cases hl : Lst listed k
        · exact hl
        · exfalso
          have : k ∈ Region.ready md ops listed := mem_ready.2 ⟨hk, by
            unfold Lst at hl
            rw [Array.getD_eq_getD_getElem?] at hl ⊢
            rw [Array.getElem?_eq_getElem (by omega)] at hl ⊢
            simpa using hl, o, hok, fun e he hbe => hD _ (edgesIn_mem h1 e he (hb e hbe))⟩
          rw [hr] at this; cases this
      · exact hD j hj

/-! ## the plan -/
theorem wrOf_spec {t : Tmp} : ∀ {l : List Oper} {k j : Nat}, wrOf t l k = some j → k ≤ j ∧ ∃ o, l[j - k]? = some o ∧ o.dst = some t
  | [], k, j, h => by cases h
  | o :: l, k, j, h => by
    unfold wrOf at h
    have go : wrOf t l (Nat.succ k) = some j → k ≤ j ∧ ∃ o', (o :: l)[j - k]? = some o' ∧ o'.dst = some t := by
      intro h
      obtain ⟨h1, o', h2, h3⟩ := wrOf_spec h
      have h1 : k + 1 ≤ j := h1
      refine ⟨by omega, o', ?_, h3⟩
      have : j - k = (j - (k + 1)) + 1 := by omega
      rw [this]; simpa using h2
    split at h
    · rename_i d hd
      split at h
      · rename_i hb
        injection h with h; subst h
        exact ⟨Nat.le_refl _, o, by simp, by rw [hd, beq_true hb]⟩
      · exact go h
    · exact go h
def Sub (u v : AVal) : Prop := u = .junk ∨ u = v
theorem Sub.refl (v : AVal) : Sub v v := .inr rfl
theorem Sub.trans {a b c : AVal} (h : Sub a b) (k : Sub b c) : Sub a c := by
  rcases h with h | rfl
  · exact .inl h
  · exact k
theorem Sub.rel {φ : Ren} {u v : AVal} {x : Value} (h : Sub u v) (k : VRel φ v x) : VRel φ u x := by
  rcases h with rfl | rfl
  · exact .junk x
  · exact k
structure OpOk (ops : List Oper) (i D L m : Nat) (o : Oper) : Prop where
  new : D.testBit i = false
  pre : ∀ j, m.testBit j = true → D.testBit j = true
  late : L ≠ 0 → ∃ j, m.testBit j = true ∧ L.testBit j = true
  opnd : ∀ t, Operand.tmp t ∈ o.op.operands.toList → ∀ j, wrOf t ops 0 = some j → m.testBit j = true ∨ (predsO (nth ops j)).testBit i = true
  dst : ∀ d, o.dst = some d → wrOf d ops 0 = some i
  guard : ∀ g, o.guard = some g → m.testBit g.1 = true
theorem opOk_some {ops : List Oper} {i D L m : Nat} {o : Oper} (h : opOk ops i D L m o = true) : OpOk ops i D L m o := by
  unfold opOk at h
  obtain ⟨h1, h⟩ := andB_true h
  obtain ⟨h2, h⟩ := andB_true h
  obtain ⟨h3, h⟩ := andB_true h
  obtain ⟨h4, h⟩ := andB_true h
  obtain ⟨h5, h6⟩ := andB_true h
  refine ⟨?_, fun j hj => subM_test h2 hj, fun hL => ?_, fun t ht j hj => ?_, fun d hd => ?_, fun g hg => ?_⟩
  · rw [notB_eq] at h1; simpa [hasM] using h1
  · split at h3
    · exact absurd rfl hL
    · rw [notB_eq] at h3
      refine land_ne (fun e => ?_)
      rw [e] at h3; cases h3
  · have := allB_iff.1 h4 _ ht
    have : inM ops i m (wrOf t ops 0) = true := this
    rw [hj] at this
    have : orB (hasM m j) (hasM (predsO (nth ops j)) i) = true := this
    rw [orB_eq] at this
    simpa [hasM] using this
  · rw [hd] at h5
    have h5 : isJust i (wrOf d ops 0) = true := h5
    unfold isJust at h5
    split at h5
    · cases h5
    · rename_i j hj; rw [hj, beq_true h5]
  · rw [hg] at h6; exact h6
/-- one step of the walk over a plan -/
theorem walk_cons {ops : List Oper} {eff : Oper → Bool} {p : Nat × Nat} {l : List (Nat × Nat)} {D L : Nat} {R : List (Nat × Nat)} (h : planWalk ops eff (p :: l) D L R = true) :
    ∃ o, ops[p.1]? = some o ∧ OpOk ops p.1 D L (preds o.after.toList) o ∧
      ((eff o = true ∧ ∃ R', dropR (preds o.after.toList) R = some R' ∧ planWalk ops eff l (Nat.lor (bit1 p.1) D) (bit1 p.1) R' = true) ∨
       (eff o = false ∧ planWalk ops eff l (Nat.lor (bit1 p.1) D) (lateM (bit1 p.1) L) ((p.1, p.2) :: R) = true)) := by
  unfold planWalk at h
  split at h
  · cases h
  · rename_i o ho
    rw [nth_eq] at ho
    split at h
    · cases h
    · rename_i hok
      refine ⟨o, ho, opOk_some hok, ?_⟩
      split at h
      · rename_i he
        split at h
        · cases h
        · rename_i R' hR; exact .inl ⟨he, R', hR, h⟩
      · rename_i he; exact .inr ⟨he, h⟩
theorem walk_all {ops : List Oper} {eff : Oper → Bool} : ∀ {l : List (Nat × Nat)} {D L : Nat} {R : List (Nat × Nat)}, planWalk ops eff l D L R = true → ∀ i, i < ops.length → D.testBit i = true ∨ ∃ p ∈ l, p.1 = i
  | [], D, L, R, h, i, hi => by
    have h : D = Nat.sub (bit1 ops.length) 1 := beq_true h
    left; rw [h, full_test]; exact decide_eq_true hi
  | p :: l, D, L, R, h, i, hi => by
    obtain ⟨o, _, _, h⟩ := walk_cons h
    have : (Nat.lor (bit1 p.1) D).testBit i = true ∨ ∃ q ∈ l, q.1 = i := by
      rcases h with ⟨_, R', _, h⟩ | ⟨_, h⟩ <;> exact walk_all h i hi
    rcases this with h | ⟨q, h1, h2⟩
    · rw [lor_test, bit1_test] at h
      rcases Bool.or_eq_true_iff.1 h with h | h
      · exact .inr ⟨p, by simp, of_decide_eq_true h⟩
      · exact .inl h
    · exact .inr ⟨q, by simp [h1], h2⟩
theorem walk_dst {ops : List Oper} {eff : Oper → Bool} : ∀ {l : List (Nat × Nat)} {D L : Nat} {R : List (Nat × Nat)}, planWalk ops eff l D L R = true → ∀ p ∈ l, ∀ o d, ops[p.1]? = some o → o.dst = some d → wrOf d ops 0 = some p.1
  | [], _, _, _, _, p, hp, _, _, _, _ => by cases hp
  | q :: l, D, L, R, h, p, hp, o, d, ho, hd => by
    obtain ⟨o', ho', hk, h⟩ := walk_cons h
    rcases List.mem_cons.1 hp with rfl | hp
    · rw [ho'] at ho; injection ho with ho; subst ho
      exact hk.dst d hd
    · rcases h with ⟨_, R', _, h⟩ | ⟨_, h⟩ <;> exact walk_dst h p hp o d ho hd
/-- what stands behind an effect in the plan waits for it -/
theorem walk_wait {ops : List Oper} {eff : Oper → Bool} {S : Nat} : ∀ {l : List (Nat × Nat)} {D L : Nat} {R : List (Nat × Nat)}, planWalk ops eff l D L R = true → L ≠ 0 → (∀ j, L.testBit j = true → S.testBit j = false) → (∀ j, S.testBit j = true → D.testBit j = true) →
    ∀ p ∈ l, ∃ o j, ops[p.1]? = some o ∧ (preds o.after.toList).testBit j = true ∧ S.testBit j = false
  | [], _, _, _, _, _, _, _, p, hp => by cases hp
  | q :: l, D, L, R, h, hL, hLS, hSD, p, hp => by
    obtain ⟨o', ho', hk, h⟩ := walk_cons h
    rcases List.mem_cons.1 hp with rfl | hp
    · obtain ⟨j, h1, h2⟩ := hk.late hL
      exact ⟨o', j, ho', h1, hLS j h2⟩
    · have hq : S.testBit q.1 = false := by
        cases hs : S.testBit q.1 with
        | false => rfl
        | true => exact absurd (hSD _ hs) (by rw [hk.new]; simp)
      have hSD' : ∀ j, S.testBit j = true → (Nat.lor (bit1 q.1) D).testBit j = true := fun j hj => by rw [lor_test, hSD j hj]; simp
      have b1 : ∀ j, (bit1 q.1).testBit j = true → S.testBit j = false := fun j hj => by
        rw [bit1_test] at hj; rw [← of_decide_eq_true hj]; exact hq
      have bne : bit1 q.1 ≠ 0 := fun e => by
        have := bit1_test q.1 q.1
        rw [e] at this; simp at this
      rcases h with ⟨_, R', _, h⟩ | ⟨_, h⟩
      · exact walk_wait h bne b1 hSD' p hp
      · obtain ⟨L', rfl⟩ : ∃ L', L = L' + 1 := ⟨L - 1, by omega⟩
        have h : planWalk ops eff l (Nat.lor (bit1 q.1) D) (Nat.lor (bit1 q.1) (L' + 1)) ((q.1, q.2) :: R) = true := h
        refine walk_wait h (fun e => bne ?_) (fun j hj => ?_) hSD' p hp
        · have := lor_test (bit1 q.1) (L' + 1) q.1
          rw [e, bit1_test] at this; simp at this
        · rw [lor_test] at hj
          rcases Bool.or_eq_true_iff.1 hj with hj | hj
          · exact b1 j hj
          · exact hLS j hj
end Go.Proofs.YtpjkcfglojigmaaGreatDoor.Ev
namespace Go.Proofs.YtpjkcfglojigmaaGreatDoor.Ev
set_option linter.unusedVariables false
set_option linter.unusedSimpArgs false
open Go

/-! ## memory that grows -/
theorem sk_get_ne {α : Type} (x : Option α) : ∀ (d n m : Nat) (t : T α), m ≠ n → (gk d m).get ((sk d n).set x t) = (gk d m).get t
  | 0, n, m, t, h => rfl
  | d + 1, n, m, t, h => by
    cases m with
    | zero =>
      cases n with
      | zero => exact absurd rfl h
      | succ n => simp only [gk, sk, skSel_val]
    | succ m =>
      cases n with
      | zero =>
        simp only [gk, sk, gkSel_get]
        have : (setHere x t).ch (Nat.mod m 8) = t.ch (Nat.mod m 8) := by
          unfold T.ch; split <;> (cases t <;> rfl)
        rw [this]
      | succ n =>
        have hm : Nat.mod m 8 < 8 := Nat.mod_lt _ (by omega)
        have hn : Nat.mod n 8 < 8 := Nat.mod_lt _ (by omega)
        simp only [gk, sk, gkSel_get]
        rw [skSel_ch _ _ _ _ _ hn hm]
        split
        · rename_i e
          have a1 : m % 8 = n % 8 := e
          rw [sk_get_ne x d _ _ _ (fun e2 => h (by have a2 : m / 8 = n / 8 := e2
                                                   omega)), e]
        · rfl
theorem T.get_put_ne {α : Type} {t : T α} {n m : Nat} {x : α} (h : m ≠ n) : (t.put n x).get m = t.get m := sk_get_ne (some x) dep n m t h
def Grw (k h : Heap) : Prop := ∀ id o, k.objs.get id = some o → h.objs.get id = some o
theorem Grw.refl (h : Heap) : Grw h h := fun _ _ h => h
theorem Grw.trans {a b c : Heap} (h : Grw a b) (k : Grw b c) : Grw a c := fun i o e => k i o (h i o e)
theorem Grw.alloc {h : Heap} (top : ∀ id o, h.objs.get id = some o → id < h.next) (ob : AObj) : Grw h (h.alloc ob) := by
  intro id o ho
  rw [Heap.alloc_objs, T.get_put_ne (Nat.ne_of_lt (top id o ho))]
  exact ho
theorem HRelR.ext {P : Program} {φ : Ren} {k h : Heap} {hp : Array Obj} (H : HRelR P φ h hp) (e : Grw k h) : HRelR P φ k hp :=
  ⟨fun i o d ho => H.obj i o d (e i o ho), fun i j oi oj di dj hi hj => H.inj i j oi oj di dj (e i oi hi) (e j oj hj), H.bd, fun c hc => ⟨(H.fix c hc).1, fun i oi di hi => (H.fix c hc).2 i oi di (e i oi hi)⟩⟩

/-! ## operations that the evaluator has done and the machine has not -/
inductive TK where
  | pure
  | read (f : Heap → Option AVal)
  | own (id : Nat) (ob : AObj)
  | skip
structure TE where
  i : Nat
  o : Oper
  v : AVal
  val : Operand → AVal
  k : TK
def OV (φ : Ren) (val : Operand → AVal) (a : Act) (o : Oper) : Prop := ∀ x ∈ o.op.operands, VRel φ (val x) (a.eval x)
def KF (P : Program) (h : Heap) (pend : List Pend) (R : List (Nat × Nat)) (x : TE) : Prop := match x.k with
  | .pure => NotDefer x.o ∧ ∀ φ a w, OV φ x.val a x.o → ∃ y, (execOp a.eval x.o).run P w = .ok (.value y) w ∧ VRel φ x.v y
  | .read f => NotDefer x.o ∧ (∀ φ hh a w u, OV φ x.val a x.o → HRelR P φ hh w.heap → f hh = some u → ∃ y, (execOp a.eval x.o).run P w = .ok (.value y) w ∧ VRel φ u y) ∧
      ∃ left k, f k = some x.v ∧ Grw k h ∧ (x.i, left) ∈ R ∧ (left = 0 ∨ ⟨f, x.v, left⟩ ∈ pend)
  | .own id ob => NotDefer x.o ∧ (∀ φ a w, OV φ x.val a x.o → ¬ φ.dom id → ∃ y o' w' cap sz, (execOp a.eval x.o).run P w = .ok (.value y) w' ∧ w'.heap = w.heap.push o' ∧
      VRel (φ.add id w.heap.size 0 cap sz) x.v y ∧ OObj P (φ.add id w.heap.size 0 cap sz) id ob o' ∧ Still w w') ∧ ∀ ob', h.objs.get id = some ob' → ob' = ob
  | .skip => x.v = skipA
def OpndF (ops : List Oper) (base V : Nat → AVal) (D i m : Nat) (val : Operand → AVal) : Operand → Prop
  | .tmp t => (∃ j, wrOf t ops 0 = some j ∧ m.testBit j = true ∧ D.testBit j = true ∧ Sub (val (.tmp t)) (V j)) ∨
      (Sub (val (.tmp t)) (base t) ∧ ∀ j, wrOf t ops 0 = some j → (predsO (nth ops j)).testBit i = true)
  | y => ∀ (φ : Ren) (a : Act), VRel φ (val y) (a.eval y)
structure TF (fi : FI) (ops : Array Oper) (base V : Nat → AVal) (D : Nat) (x : TE) : Prop where
  op : ops[x.i]? = some x.o
  val : V x.i = x.v
  inD : D.testBit x.i = true
  dlt : ∀ d, x.o.dst = some d → d < fi.nt
  guard : ∀ g, x.o.guard = some g → (preds x.o.after.toList).testBit g.1 = true ∧ D.testBit g.1 = true ∧ ∃ d, dstOf ops.toList g.1 = some d ∧
    ((x.k = .skip ∧ (V g.1 = .tuple [] ∨ ∃ b, V g.1 = .bool b ∧ b ≠ g.2)) ∨ (x.k ≠ .skip ∧ V g.1 = .bool g.2))
  noguard : x.o.guard = none → x.k ≠ .skip
  opnd : x.k ≠ .skip → ∀ y ∈ x.o.op.operands, OpndF ops.toList base V D x.i (preds x.o.after.toList) x.val y
theorem OpndF.mono {ops : List Oper} {base V V' : Nat → AVal} {D D' i m : Nat} {val : Operand → AVal} (hD : ∀ j, D.testBit j = true → D'.testBit j = true) (hV : ∀ j, D.testBit j = true → V' j = V j) {y : Operand} (h : OpndF ops base V D i m val y) :
    OpndF ops base V' D' i m val y := by
  cases y with
  | tmp t =>
    rcases h with ⟨j, h1, h2, h3, h4⟩ | h
    · exact .inl ⟨j, h1, h2, hD j h3, by rw [hV j h3]; exact h4⟩
    · exact .inr h
  | const v => exact h
  | global g => exact h
  | func f => exact h
theorem TF.mono {fi : FI} {ops : Array Oper} {base V V' : Nat → AVal} {D D' : Nat} {x : TE} (hD : ∀ j, D.testBit j = true → D'.testBit j = true) (hV : ∀ j, D.testBit j = true → V' j = V j) (h : TF fi ops base V D x) : TF fi ops base V' D' x := by
  refine ⟨h.op, by rw [hV _ h.inD]; exact h.val, hD _ h.inD, h.dlt, fun g hg => ?_, h.noguard, fun hk y hy => (h.opnd hk y hy).mono hD hV⟩
  obtain ⟨h1, h2, d, h3, h4⟩ := h.guard g hg
  exact ⟨h1, hD _ h2, d, h3, by rw [hV _ h2]; exact h4⟩

/-- the machine stands at S, the evaluator at D -/
structure Inv (P : Program) (fi : FI) (ops : Array Oper) (base : Nat → AVal) (φ₀ : Ren) (h₀ : Heap) (w₀ : World) (ed : List (AVal × List AVal)) (ad : List Deferred)
    (S D : Nat) (R : List (Nat × Nat)) (V : Nat → AVal) (T : List TE) (st : List Tmp) (vs : List AVal) (e : Env) (h : Heap) (pend : List Pend) (φ : Ren) (a : Act) (w : World) : Prop where
  hp : HRel P φ h w.heap
  tr : Tr φ₀ h₀ w₀.heap φ h w.heap
  still : Still w₀ w
  nt : fi.nt ≤ a.tmps.size
  ed : e.defers = ed
  ad : a.defers = ad
  mfW : ∀ t j, wrOf t ops.toList 0 = some j → S.testBit j = true → VRel φ (V j) (a.tmps.getD t undef)
  mfB : ∀ t, (∀ j, wrOf t ops.toList 0 = some j → S.testBit j = false) → VRel φ (base t) (a.tmps.getD t undef)
  enW : ∀ t j, wrOf t ops.toList 0 = some j → D.testBit j = true → Sub ((vTmpS ⟨fi.glob, st, fi.rnd⟩ t).get vs e.tmps) (V j)
  enB : ∀ t, (∀ j, wrOf t ops.toList 0 = some j → D.testBit j = false) → Sub ((vTmpS ⟨fi.glob, st, fi.rnd⟩ t).get vs e.tmps) (base t)
  tf : ∀ x ∈ T, TF fi ops base V D x
  kf : ∀ x ∈ T, KF P h pend R x
  tS : ∀ x ∈ T, S.testBit x.i = false
  tnd : T.Pairwise fun x y => x.i ≠ y.i
  own : ∀ x ∈ T, ∀ id ob, x.k = .own id ob → ¬ φ.dom id ∧ h₀.next ≤ id ∧ id < h.next
  ond : T.Pairwise fun x y => ∀ id ob id' ob', x.k = .own id ob → y.k = .own id' ob' → id ≠ id'
  dS : ∀ i, D.testBit i = true ↔ (S.testBit i = true ∨ ∃ x ∈ T, x.i = i)
  cl : ∀ i o j, S.testBit i = true → ops[i]? = some o → (preds o.after.toList).testBit j = true → S.testBit j = true
  dcl : ∀ i o j, D.testBit i = true → ops[i]? = some o → (preds o.after.toList).testBit j = true → D.testBit j = true

section
variable {P : Program} {n₀ : Nat} {tt : TT} {fi : FI} {ops : Array Oper} {base : Nat → AVal} {φ₀ : Ren} {h₀ : Heap} {w₀ : World} {ed : List (AVal × List AVal)} {ad : List Deferred}
  {S D : Nat} {R : List (Nat × Nat)} {V : Nat → AVal} {T : List TE} {st : List Tmp} {vs : List AVal} {e : Env} {h : Heap} {pend : List Pend} {φ : Ren} {a : Act} {w : World}
theorem wrOf_dst {t j : Nat} (hw : wrOf t ops.toList 0 = some j) : ∃ o, ops[j]? = some o ∧ o.dst = some t := by
  obtain ⟨_, o, h1, h2⟩ := wrOf_spec hw
  exact ⟨o, by simpa using h1, h2⟩
/-- the operands of a pending operation, at the machine -/
theorem Inv.ov (I : Inv P fi ops base φ₀ h₀ w₀ ed ad S D R V T st vs e h pend φ a w) {i : Nat} {o : Oper} (ho : ops[i]? = some o) (hi : S.testBit i = false) (hp : ∀ j, (preds o.after.toList).testBit j = true → S.testBit j = true)
    {val : Operand → AVal} (hf : ∀ y ∈ o.op.operands, OpndF ops.toList base V D i (preds o.after.toList) val y) : OV φ val a o := by
  intro y hy
  have hf := hf y hy
  cases y with
  | tmp t =>
    rcases hf with ⟨j, h1, h2, _, h4⟩ | ⟨h1, h2⟩
    · exact h4.rel (I.mfW t j h1 (hp j h2))
    · refine h1.rel (I.mfB t fun j hj => ?_)
      cases hs : S.testBit j with
      | false => rfl
      | true =>
        obtain ⟨oj, h3, _⟩ := wrOf_dst hj
        have h4 := h2 j hj
        rw [nth_eq] at h4
        have h5 : ops.toList[j]? = some oj := by simpa using h3
        rw [h5] at h4
        have := I.cl j oj i hs h3 h4
        rw [hi] at this; cases this
  | const v => exact hf φ a
  | global g => exact hf φ a
  | func f => exact hf φ a
/-- the machine has done one more -/
theorem put_mf (hdst : ∀ j o d, ops[j]? = some o → o.dst = some d → wrOf d ops.toList 0 = some j) {i : Nat} {o : Oper} (ho : ops[i]? = some o) (hlt : ∀ d, o.dst = some d → d < fi.nt) (hnt : fi.nt ≤ a.tmps.size) {y : Value} (hv : VRel φ (V i) y)
    (mfW : ∀ t j, wrOf t ops.toList 0 = some j → S.testBit j = true → VRel φ (V j) (a.tmps.getD t undef)) (mfB : ∀ t, (∀ j, wrOf t ops.toList 0 = some j → S.testBit j = false) → VRel φ (base t) (a.tmps.getD t undef)) :
    (∀ t j, wrOf t ops.toList 0 = some j → (Nat.lor (bit1 i) S).testBit j = true → VRel φ (V j) ((a.put o.dst y).tmps.getD t undef)) ∧
    (∀ t, (∀ j, wrOf t ops.toList 0 = some j → (Nat.lor (bit1 i) S).testBit j = false) → VRel φ (base t) ((a.put o.dst y).tmps.getD t undef)) ∧ fi.nt ≤ (a.put o.dst y).tmps.size ∧ (a.put o.dst y).defers = a.defers := by
  have bt : ∀ j, (Nat.lor (bit1 i) S).testBit j = true ↔ (i = j ∨ S.testBit j = true) := fun j => by rw [lor_test, bit1_test]; simp
  have bf : ∀ j, (Nat.lor (bit1 i) S).testBit j = false ↔ (i ≠ j ∧ S.testBit j = false) := fun j => by rw [lor_test, bit1_test]; simp
  cases hd : o.dst with
  | none =>
    refine ⟨fun t j hj hb => ?_, fun t hb => mfB t fun j hj => ((bf j).1 (hb j hj)).2, hnt, rfl⟩
    rcases (bt j).1 hb with rfl | hb
    · obtain ⟨o', h1, h2⟩ := wrOf_dst hj
      rw [ho] at h1; injection h1 with h1; subst h1
      rw [hd] at h2; cases h2
    · exact mfW t j hj hb
  | some d =>
    have hw := hdst i o d ho hd
    have hsz : d < a.tmps.size := Nat.lt_of_lt_of_le (hlt d hd) hnt
    have hget : ∀ t, (a.put (some d) y).tmps.getD t undef = if t = d then y else a.tmps.getD t undef := fun t => getD_set hsz
    refine ⟨fun t j hj hb => ?_, fun t hb => ?_, by simpa [Act.put] using hnt, rfl⟩
    · rw [hget]
      by_cases ht : t = d
      · rw [if_pos ht]; subst ht
        rw [hw] at hj; injection hj with hj; subst hj
        exact hv
      · rw [if_neg ht]
        rcases (bt j).1 hb with rfl | hb
        · obtain ⟨o', h1, h2⟩ := wrOf_dst hj
          rw [ho] at h1; injection h1 with h1; subst h1
          rw [hd] at h2; injection h2 with h2; exact absurd h2.symm ht
        · exact mfW t j hj hb
    · rw [hget]
      by_cases ht : t = d
      · subst ht
        have := ((bf i).1 (hb i hw)).1
        exact absurd rfl this
      · rw [if_neg ht]
        exact mfB t fun j hj => ((bf j).1 (hb j hj)).2
end
end Go.Proofs.YtpjkcfglojigmaaGreatDoor.Ev
