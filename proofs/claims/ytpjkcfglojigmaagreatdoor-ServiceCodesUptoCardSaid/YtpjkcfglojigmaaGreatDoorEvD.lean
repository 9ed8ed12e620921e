/- An evaluator over abstract values and the proof that what it reckons is what the model's calls do: part 4 of 9. -/
import Derived.Test.YtpjkcfglojigmaaGreatDoorEvC
import Derived.Laws.BytesArg
import Derived.Great.BuildSlice
import Derived.Laws.MakeOwn
import Derived.Laws.IdiomCopy
import Derived.Laws.Append
namespace Go.Proofs.YtpjkcfglojigmaaGreatDoor.Ev
set_option linter.unusedVariables false
set_option linter.unusedSimpArgs false
open Go
section
variable {P : Program} {tt : TT} {sl : SL} {o : Oper}

theorem exec_builtin {c : Call} {b : Builtin} (ho : o.op = .call c) (hc : c.callee = .builtin b) (a : Act) :
    execOp a.eval o = builtin b c.argTypes o.type (c.args.map fun | .const _ => true | _ => false) (c.args.map a.eval) := by
  simp only [execOp, ho, resolve, hc]
  rfl
theorem args_of {c : Call} {l : List Operand} (h : c.args.toList = l) (a : Act) : (c.args.map a.eval) = (l.map a.eval).toArray := by
  rw [← h]; exact Array.toList_inj.1 (by rw [Array.toList_map])
theorem arg_mem {c : Call} {b : Builtin} (hc : c.callee = .builtin b) {x : Operand} (h : x ∈ c.args.toList) : x ∈ (Op.call c).operands := by
  simp [Op.operands, Call.operands, hc]; simpa using h
theorem argTy {c : Call} {t : TypeId} {ts : List TypeId} (h : c.argTypes.toList = t :: ts) : c.argTypes[0]? = some t := by
  have : c.argTypes.toList[0]? = some t := by rw [h]; rfl
  simpa using this
theorem argTy1 {c : Call} {t u : TypeId} {ts : List TypeId} (h : c.argTypes.toList = t :: u :: ts) : c.argTypes[1]? = some u := by
  have : c.argTypes.toList[1]? = some u := by rw [h]; rfl
  simpa using this
theorem argTy1n {c : Call} {t : TypeId} (h : c.argTypes.toList = [t]) : c.argTypes[1]? = none := by
  have : c.argTypes.toList[1]? = none := by rw [h]; rfl
  simpa using this

/-! min, max -/
theorem ltI_dec (a b : Int) : ltI a b = decide (a < b) := ltI_eq a b
theorem minI_eq (a b : Int) : minI a b = if b < a then b else a := by
  unfold minI; rw [ltI_dec]; by_cases h : b < a <;> simp [h]
theorem maxI_eq (a b : Int) : maxI a b = if b > a then b else a := by
  unfold maxI; rw [ltI_dec]; by_cases h : a < b <;> simp [h]
theorem mm2_ok {mx : Bool} {φ : Ren} {u v r : AVal} {x y : Value} (hu : VRel φ u x) (hv : VRel φ v y) (h : mm2 mx u v = some r) (w : World) :
    ∃ z, ((match mx with | true => Builtin.max2 x y | false => Builtin.min2 x y).run P w) = .ok z w ∧ VRel φ r z := by
  unfold mm2 at h
  split at h
  · cases hu; cases hv
    obtain ⟨h1, h2⟩ := when_some h
    have := kindEq_iff.1 h1; subst this
    cases mx
    · cases h2
      refine ⟨_, rfl, ?_⟩
      rw [minI_eq]; exact .int _ _
    · cases h2
      refine ⟨_, rfl, ?_⟩
      rw [maxI_eq]; exact .int _ _
  · cases hu with | str a =>
    cases hv with | str b =>
    cases mx
    · obtain ⟨z, h1, h2⟩ := sok_ok (P := P) (w := w) .leq a b (.bool (!(sLt (enc b.data.toList) (enc a.data.toList)))) (by show mkB _ = _; rw [mkB_eq, notB_eq]) φ
      cases h2
      have h : (match sLt (enc b.data.toList) (enc a.data.toList) with | true => some (AVal.str (enc b.data.toList)) | false => some (.str (enc a.data.toList))) = some r := h
      simp only [Builtin.min2, Sem.run_bind, h1, Result.andThen_ok, asBool, Sem.run_pure]
      cases hs : sLt (enc b.data.toList) (enc a.data.toList) <;> rw [hs] at h <;> cases h
      · exact ⟨_, rfl, .str a⟩
      · exact ⟨_, rfl, .str b⟩
    · obtain ⟨z, h1, h2⟩ := sok_ok (P := P) (w := w) .geq a b (.bool (!(sLt (enc a.data.toList) (enc b.data.toList)))) (by show mkB _ = _; rw [mkB_eq, notB_eq]) φ
      cases h2
      have h : (match sLt (enc a.data.toList) (enc b.data.toList) with | true => some (AVal.str (enc b.data.toList)) | false => some (.str (enc a.data.toList))) = some r := h
      simp only [Builtin.max2, Sem.run_bind, h1, Result.andThen_ok, asBool, Sem.run_pure]
      cases hs : sLt (enc a.data.toList) (enc b.data.toList) <;> rw [hs] at h <;> cases h
      · exact ⟨_, rfl, .str a⟩
      · exact ⟨_, rfl, .str b⟩
  · rename_i r0 n
    cases mx with
    | true => cases h
    | false =>
      obtain ⟨h1, h2⟩ := when_some (show when (is20 n) (some (AVal.umin r0)) = some r from h)
      cases h2
      cases hu
      cases hv
      have hn : n = 20 := by
        cases n with
        | ofNat m => rw [Nat.eq_of_beq_eq_true (show Nat.beq m 20 = true from h1)]; rfl
        | negSucc m => cases h1
      subst hn
      have e : (Builtin.min2 (.int .i64 ((φ.raw r0).size : Int)) (.int .i64 20)).run P w = .ok (.int .i64 (if (20 : Int) < ((φ.raw r0).size : Int) then 20 else ((φ.raw r0).size : Int))) w := rfl
      refine ⟨_, e, ?_⟩
      have e2 : (if (20 : Int) < ((φ.raw r0).size : Int) then 20 else ((φ.raw r0).size : Int)) = ((min (φ.raw r0).size 20 : Nat) : Int) := by
        split <;> omega
      rw [e2]; exact .umin r0
  · cases h
theorem mmL_ok {mx : Bool} {φ : Ren} : ∀ {l : List AVal} {xs : List Value} {u r : AVal} {x : Value}, VRel φ u x → VRelL φ l xs → mmL mx u l = some r → ∀ (w : World),
    ∃ z, ((xs.foldlM (match mx with | true => Builtin.max2 | false => Builtin.min2) x).run P w) = .ok z w ∧ VRel φ r z
  | [], _, u, r, x, hu, .nil, h, w => by cases h; exact ⟨x, rfl, hu⟩
  | v :: l, _, u, r, x, hu, .cons _ y _ ys hv hl, h, w => by
    obtain ⟨z, h1, h2⟩ := ob_some h
    obtain ⟨z', hz, hr⟩ := mm2_ok (P := P) hu hv h1 w
    obtain ⟨z2, hz2, hr2⟩ := mmL_ok hr hl h2 w
    refine ⟨z2, ?_, hr2⟩
    cases mx <;> simp only [List.foldlM_cons, Sem.run_bind] at hz hz2 ⊢ <;> rw [hz, Result.andThen_ok, hz2]
theorem pMM {mx : Bool} {c : Call} (ho : o.op = .call c) (hc : c.callee = .builtin (match mx with | true => .max | false => .min)) : POK P sl o (fun vs ρ => mmV mx ((lk sl c.args.toList).get vs ρ)) := by
  intro φ vs ρ a w v hl hf
  have hr : VRelL φ ((lk sl c.args.toList).get vs ρ) (c.args.toList.map a.eval) := hl.list ho (fun x hx => arg_mem hc hx)
  rw [exec_builtin ho hc, args_of rfl]
  have hf : mmV mx _ = some v := hf
  generalize (lk sl c.args.toList).get vs ρ = l at hr hf
  generalize c.args.toList.map a.eval = xs at hr
  cases hr with
  | nil => cases hf
  | cons u x l xs hu hl' =>
    obtain ⟨z, hz, hv⟩ := mmL_ok (P := P) hu hl' hf w
    refine ⟨z, ?_, hv⟩
    cases mx
    · have hz : (xs.foldlM Builtin.min2 x).run P w = .ok z w := hz
      simp only [builtin, Builtin.min_, Sem.run_bind, hz]; rfl
    · have hz : (xs.foldlM Builtin.max2 x).run P w = .ok z w := hz
      simp only [builtin, Builtin.max_, Sem.run_bind, hz]; rfl
theorem pData {c : Call} {x : Operand} (ho : o.op = .call c) (hc : c.callee = .builtin .unsafeSliceData) (ha : c.args.toList = [x]) : POK P sl o (fun vs ρ => dataV ((vk sl x).get vs ρ)) := by
  intro φ vs ρ a w v hl hf
  have hr := hl.at ho (x := x) (arg_mem hc (by rw [ha]; simp))
  rw [exec_builtin ho hc, args_of ha]
  have hf : dataV _ = _ := hf
  generalize (vk sl x).get vs ρ = u at hr hf
  simp only [List.map_cons, List.map_nil]
  generalize a.eval x = y at hr
  cases hr <;> try (cases hf; done)
  case nilSlice => cases hf; exact ⟨_, rfl, .nilPtr⟩
  case slice id off len lim ad cap h hl1 ha1 hc1 h0 hk =>
    cases len with
    | zero => cases hf
    | succ n =>
      cases hf
      have : cap ≠ 0 := by omega
      refine ⟨.pointer (some ad), ?_, ?_⟩
      · show (Sem.bind (if cap ≠ 0 then pure (Value.pointer (some ad)) else _) _).run P w = _
        rw [if_pos this]; rfl
      · rw [ha1 this]; exact .ptr _ _ h

/-! len -/
theorem rGetObj {w : World} {r : Nat} {ob : Obj} (h : w.heap[r]? = some ob) (hn : ∀ c e f, ob ≠ .cells c e f) : (getObj r).run P w = .ok ob w := by
  simp only [getObj, Sem.run, h]
theorem mapOf_ok {φ : Ren} {h : Heap} {hp : Array Obj} (H : HRelR P φ h hp) {r : Nat} (hd : φ.dom r) {es : List Ent} {c : Nat} (hm : mapOf h r = some (es, c)) :
    h.objs.get r = some (.map es c) ∧ ∃ es' : Array MapEntry, hp[φ.blk r]? = some (.map es' c) ∧ EntsRel φ es es'.toList := by
  unfold mapOf at hm
  cases hg : h.objs.get r with
  | none => rw [hg] at hm; cases hm
  | some ob =>
    rw [hg] at hm
    cases ob <;> try (cases hm; done)
    cases hm
    obtain ⟨o', h1, es', h2, h3⟩ := H.obj r _ hd hg
    exact ⟨rfl, es', by rw [h1, h2], h3⟩
theorem exec_len {c : Call} {x : Operand} (ho : o.op = .call c) (hc : c.callee = .builtin .len) (ha : c.args.toList = [x]) {a : Act} {w w' : World} {z : Value}
    (h : (Builtin.len_ c.argTypes o.type #[a.eval x]).run P w = .ok z w') : (execOp a.eval o).run P w = .ok (.value z) w' := by
  rw [exec_builtin ho hc, args_of ha]
  show (Sem.bind (Builtin.len_ c.argTypes o.type #[a.eval x]) _).run P w = _
  have : ∀ (k : Value → Sem Next), ((Builtin.len_ c.argTypes o.type #[a.eval x]) >>= k).run P w = (k z).run P w' := by intro k; rw [Sem.run_bind, h]; rfl
  exact this _
theorem len_red {ats : Array TypeId} {ty t : TypeId} {y : Value} (ht : ats[0]? = some t) {d : TypeDesc} (hd : P.underlying t = some d) {w : World} :
    (d = .string → ∀ s, y = .string s → (Builtin.len_ ats ty #[y]).run P w = .ok (goInt s.size) w) ∧
    (∀ e, d = .slice e → ∀ b n m, y = .slice b n m → (Builtin.len_ ats ty #[y]).run P w = .ok (goInt n) w) ∧
    (∀ n e, d = .array n e → (Builtin.len_ ats ty #[y]).run P w = .ok (goInt n) w) ∧
    (∀ k e, d = .map k e → y = .map none → (Builtin.len_ ats ty #[y]).run P w = .ok (goInt 0) w) ∧
    (∀ k e, d = .map k e → ∀ r es cl, y = .map (some r) → w.heap[r]? = some (.map es cl) → (Builtin.len_ ats ty #[y]).run P w = .ok (goInt es.size) w) ∧
    (∀ u, d = .pointer u → ∀ n e, P.underlying u = some (.array n e) → (Builtin.len_ ats ty #[y]).run P w = .ok (goInt n) w) := by
  have e0 : ((#[y] : Array Value)[0]?) = some y := rfl
  simp only [Builtin.len_, ht, e0, Sem.run_bind, rUnd hd, Result.andThen_ok]
  refine ⟨fun hd s hy => ?_, fun e hd b n m hy => ?_, fun n e hd => ?_, fun k e hd hy => ?_, fun k e hd r es cl hy hr => ?_, fun u hd n e hu => ?_⟩
  · subst hd; subst hy; rfl
  · subst hd; subst hy; rfl
  · subst hd; cases y <;> rfl
  · subst hd; subst hy; rfl
  · subst hd; subst hy
    simp only [Sem.run_bind, rGetObj hr (by intro _ _ _ e; cases e), Result.andThen_ok]; rfl
  · subst hd
    have : ((do
      let __x ← underlying u
      match __x with
        | TypeDesc.array n elem => pure (goInt ↑n)
        | x => stuck "len: pointer to array expected" : Sem Value)).run P w = .ok (goInt n) w := by
      rw [Sem.run_bind, rUnd hu]; rfl
    cases y <;> exact this
theorem pLenStr {c : Call} {x : Operand} (ho : o.op = .call c) (hc : c.callee = .builtin .len) (ha : c.args.toList = [x]) {t : TypeId} {ts : List TypeId} (ht : c.argTypes.toList = t :: ts) {i : TI} (k : TIok P t i)
    (hd : i.desc = .str) : POK P sl o (fun vs ρ => lenStr ((vk sl x).get vs ρ)) := by
  intro φ vs ρ a w v hl hf
  have hr := hl.at ho (x := x) (arg_mem hc (by rw [ha]; simp))
  have hf : lenStr _ = _ := hf
  generalize (vk sl x).get vs ρ = u at hr hf
  have hdd := k.hdesc
  rw [hd] at hdd
  have hdd : k.desc = .string := hdd
  generalize he : a.eval x = y at hr
  cases hr <;> try (cases hf; done)
  · rename_i s
    simp only [lenStr, seqN_eq, enc_len] at hf
    cases hf
    exact ⟨_, exec_len ho hc ha (by rw [he]; exact (len_red (argTy ht) k.hund).1 hdd _ rfl), by rw [← ba_size]; exact .int _ _⟩
  · rename_i r c hc'
    cases hf
    exact ⟨_, exec_len ho hc ha (by rw [he]; exact (len_red (argTy ht) k.hund).1 hdd _ rfl), .ulen r⟩
  · rename_i p q c s hs
    have hf : (seqN (Nat.add (sLen (enc p)) (sLen (enc q))) fun n => seqN (Nat.add n 20) fun m => some (AVal.rng .i64 (some (.ofNat n)) (some (.ofNat m)))) = some v := hf
    rw [seqN_eq, seqN_eq, enc_len, enc_len] at hf
    cases hf
    have hl := congrArg List.length hs
    rw [List.length_append, List.length_append] at hl
    have hu := cy_len φ c
    refine ⟨_, exec_len ho hc ha (by rw [he]; exact (len_red (argTy ht) k.hund).1 hdd _ rfl), VRel.rng .i64 _ _ (s.size : Int) (fun l h => ?_) (fun u h => ?_)⟩
    · injection h with h
      have h : ((p.length + q.length : Nat) : Int) = l := h
      rw [ba_size]; omega
    · injection h with h
      have h : ((p.length + q.length + 20 : Nat) : Int) = u := h
      rw [ba_size]; omega
theorem pLenSl {c : Call} {x : Operand} (ho : o.op = .call c) (hc : c.callee = .builtin .len) (ha : c.args.toList = [x]) {t : TypeId} {ts : List TypeId} (ht : c.argTypes.toList = t :: ts) {i : TI} (k : TIok P t i)
    {e : TypeId} (hd : i.desc = .slice e) : POK P sl o (fun vs ρ => lenSl ((vk sl x).get vs ρ)) := by
  intro φ vs ρ a w v hl hf
  have hr := hl.at ho (x := x) (arg_mem hc (by rw [ha]; simp))
  have hf : lenSl _ = _ := hf
  generalize (vk sl x).get vs ρ = u at hr hf
  have hdd := k.hdesc
  rw [hd] at hdd
  have hdd : k.desc = .slice e := hdd
  generalize he : a.eval x = y at hr
  cases hr <;> try (cases hf; done)
  · cases hf; exact ⟨_, exec_len ho hc ha (by rw [he]; exact (len_red (argTy ht) k.hund).2.1 _ hdd _ _ _ rfl), .int _ _⟩
  · cases hf; exact ⟨_, exec_len ho hc ha (by rw [he]; exact (len_red (argTy ht) k.hund).2.1 _ hdd _ _ _ rfl), .int _ _⟩
theorem nLenMap {c : Call} {x : Operand} (ho : o.op = .call c) (hc : c.callee = .builtin .len) (ha : c.args.toList = [x]) {t : TypeId} {ts : List TypeId} (ht : c.argTypes.toList = t :: ts) {i : TI} (k : TIok P t i)
    {ka e : TypeId} (hd : i.desc = .map ka e) : NOK P sl o (fun vs ρ h => lenMap h ((vk sl x).get vs ρ)) := by
  intro φ h vs ρ a w v hl H hf
  have hr := hl.at ho (x := x) (arg_mem hc (by rw [ha]; simp))
  have hf : lenMap _ _ = _ := hf
  generalize (vk sl x).get vs ρ = u at hr hf
  have hdd := k.hdesc
  rw [hd] at hdd
  have hdd : k.desc = .map ka e := hdd
  generalize he : a.eval x = y at hr
  cases hr <;> try (cases hf; done)
  · cases hf; exact ⟨_, exec_len ho hc ha (by rw [he]; exact (len_red (argTy ht) k.hund).2.2.2.1 _ _ hdd rfl), .int _ _⟩
  · rename_i r hdr
    obtain ⟨⟨es, cl⟩, h1, h2⟩ := ob_some (show ob (mapOf h r) (fun m => seqN m.1.length fun n => some (.int .i64 (.ofNat n))) = some v from hf)
    rw [seqN_eq] at h2
    cases h2
    obtain ⟨_, es', h3, h4⟩ := mapOf_ok H hdr h1
    refine ⟨_, exec_len ho hc ha (z := goInt es'.size) (by rw [he]; exact (len_red (argTy ht) k.hund).2.2.2.2.1 _ _ hdd _ _ _ rfl h3), ?_⟩
    rw [← Array.length_toList, ← h4.length]; exact .int _ _
theorem pLenArr {c : Call} {x : Operand} (ho : o.op = .call c) (hc : c.callee = .builtin .len) (ha : c.args.toList = [x]) {t : TypeId} {ts : List TypeId} (ht : c.argTypes.toList = t :: ts) {i : TI} (k : TIok P t i)
    {n : Nat} {e : TypeId} (hd : i.desc = .arr n e) : POK P sl o (fun _ _ => some (.int .i64 (.ofNat n))) := by
  intro φ vs ρ a w v hl hf
  have hdd := k.hdesc
  rw [hd] at hdd
  have hdd : k.desc = .array n e := hdd
  cases hf
  exact ⟨_, exec_len ho hc ha ((len_red (argTy ht) k.hund).2.2.1 _ _ hdd), .int _ _⟩
theorem pLenPtr {c : Call} {x : Operand} (ho : o.op = .call c) (hc : c.callee = .builtin .len) (ha : c.args.toList = [x]) {t : TypeId} {ts : List TypeId} (ht : c.argTypes.toList = t :: ts) {i : TI} (k : TIok P t i)
    {n : Nat} {e u : TypeId} (hd : i.desc = .ptr u) {j : TI} (ku : TIok P u j) (hu : j.desc = .arr n e) : POK P sl o (fun _ _ => some (.int .i64 (.ofNat n))) := by
  intro φ vs ρ a w v hl hf
  have hdd := k.hdesc
  rw [hd] at hdd
  have hdd : k.desc = .pointer u := hdd
  have huu := ku.hdesc
  rw [hu] at huu
  have huu : ku.desc = .array n e := huu
  cases hf
  exact ⟨_, exec_len ho hc ha ((len_red (argTy ht) k.hund).2.2.2.2.2 _ hdd _ _ (by rw [ku.hund, huu])), .int _ _⟩
end
end Go.Proofs.YtpjkcfglojigmaaGreatDoor.Ev
namespace Go.Proofs.YtpjkcfglojigmaaGreatDoor.Ev
set_option linter.unusedVariables false
set_option linter.unusedSimpArgs false
open Go
section
variable {P : Program} {tt : TT} {sl : SL} {o : Oper}

theorem depth_succ (P : Program) : ∃ d, P.depth = d + 1 := ⟨2 * (P.types.size + Made.depth) + 1, rfl⟩
/-- a pointer to a whole variable at the beginning of a row -/
theorem ptrAt_ok {φ : Ren} {h : Heap} {hp : Array Obj} (H : HRelR P φ h hp) {id off : Nat} (hd : φ.dom id) {u : TypeId} {i : TI} (k : TIok P u i) {v : AVal} (hv : ptrAt id off u i.size (h.objs.get id) = some v) :
    v = .ptr id off ∧ off = 0 ∧ 0 < i.size ∧ ∃ cc fz, hp[φ.blk id]? = some (.cells cc u fz) ∧ φ.off id + i.size ≤ cc.size ∧ φ.off id % i.size = 0 := by
  unfold ptrAt at hv
  split at hv
  · rename_i c lo hi et hg
    obtain ⟨h1, hv1⟩ := when_some hv
    obtain ⟨h2, hv2⟩ := when_some hv1
    obtain ⟨h3, hv3⟩ := when_some hv2
    obtain ⟨h4, hv4⟩ := when_some hv3
    clear hv hv1 hv2 hv3
    rw [beq_dec] at h1 h2
    rw [ble_dec] at h3
    rw [blt_dec] at h4
    have h1 := of_decide_eq_true h1
    have h2 := of_decide_eq_true h2
    have h3 := of_decide_eq_true h3
    have h4 := of_decide_eq_true h4
    subst h2
    cases hv4
    obtain ⟨o', h5, cc, fz, h6, R⟩ := H.obj id _ hd hg
    have hs : φ.sz id = i.size := by rw [← R.sz, k.cells]
    refine ⟨rfl, h1, h4, cc, fz, by rw [h5, h6], ?_, by rw [← hs]; exact R.al⟩
    have := R.fit
    have := R.lo
    omega
  · cases hv
theorem rSeenAt {w : World} {a : Addr} {cc : Array Value} {et : TypeId} {fz : Nat × Nat} (hb : w.heap[a.block]? = some (.cells cc et fz)) : (Conv.seenAt a).run P w = .ok a w := by
  simp [Conv.seenAt, viewAt, World.shape?, hb]
theorem nConvPU {s d e : TypeId} {x : Operand} (ho : o.op = .convert s d x) {si di ei : TI} (ks : TIok P s si) (kd : TIok P d di) (ke : TIok P e ei) (hs : si.desc = .ptr e) (hd : di.desc = .uptr) :
    NOK P sl o (fun vs ρ h => convPtr e ei.size h ((vk sl x).get vs ρ)) := by
  intro φ h vs ρ a w v hl H hf
  have hr := hl.at ho (x := x) (by simp [Op.operands])
  have hf : convPtr _ _ _ _ = _ := hf
  generalize (vk sl x).get vs ρ = u at hr hf
  have hss := ks.hdesc
  rw [hs] at hss
  have hss : ks.desc = .pointer e := hss
  have hdd := kd.hdesc
  rw [hd] at hdd
  have hdd : kd.desc = .unsafePointer := hdd
  generalize he : a.eval x = y at hr
  cases hr <;> try (cases hf; done)
  · cases hf
    exact ⟨_, by simp only [execOp, ho, he, convert, Sem.run_bind, ks.rUnd, kd.rUnd, hss, hdd, Result.andThen_ok, Conv.unsafePointer, Sem.run_pure], .nilPtr⟩
  · rename_i id off hdom
    obtain ⟨h1, h2, h3, cc, fz, h4, h5, _⟩ := ptrAt_ok H hdom ke hf
    subst h1; subst h2
    refine ⟨.pointer (some (baseOf φ id 0)), ?_, .ptr _ _ hdom⟩
    have hne : ei.size ≠ 0 := by omega
    have hnl : ¬ cc.size ≤ φ.off id := by omega
    have hsz : (sizeOf e).run P w = .ok ei.size w := ke.rSize
    have hseen := rSeenAt (P := P) (a := baseOf φ id 0) h4
    have hcells : (cellsIn (baseOf φ id 0).block).run P w = .ok (some cc.size) w := by
      simp [cellsIn, World.shape?, baseOf, h4]
    simp only [execOp, ho, he, convert, Sem.run_bind, ks.rUnd, kd.rUnd, hss, hdd, Result.andThen_ok, Conv.unsafePointer, hseen, hcells, hsz]
    simp [hne, baseOf, hnl]
theorem nConvUP {s d e : TypeId} {x : Operand} (ho : o.op = .convert s d x) {si di ei : TI} (ks : TIok P s si) (kd : TIok P d di) (ke : TIok P e ei) (hs : si.desc = .uptr) (hd : di.desc = .ptr e) :
    NOK P sl o (fun vs ρ h => convPtr e ei.size h ((vk sl x).get vs ρ)) := by
  intro φ h vs ρ a w v hl H hf
  have hr := hl.at ho (x := x) (by simp [Op.operands])
  have hf : convPtr _ _ _ _ = _ := hf
  generalize (vk sl x).get vs ρ = u at hr hf
  have hss := ks.hdesc
  rw [hs] at hss
  have hss : ks.desc = .unsafePointer := hss
  have hdd := kd.hdesc
  rw [hd] at hdd
  have hdd : kd.desc = .pointer e := hdd
  generalize he : a.eval x = y at hr
  cases hr <;> try (cases hf; done)
  · cases hf
    exact ⟨_, by simp only [execOp, ho, he, convert, Sem.run_bind, ks.rUnd, kd.rUnd, hss, hdd, Result.andThen_ok, Conv.unsafePointer, Sem.run_pure], .nilPtr⟩
  · rename_i id off hdom
    obtain ⟨h1, h2, h3, cc, fz, h4, h5, h6⟩ := ptrAt_ok H hdom ke hf
    subst h1; subst h2
    refine ⟨.pointer (some (baseOf φ id 0)), ?_, .ptr _ _ hdom⟩
    have hne : ei.size ≠ 0 := by omega
    have hsz : (sizeOf e).run P w = .ok ei.size w := ke.rSize
    have hseen := rSeenAt (P := P) (a := baseOf φ id 0) h4
    obtain ⟨dp, hdp⟩ := depth_succ P
    have hlie : liesAt P P.depth e (cc.size / P.cellsOf e) (baseOf φ id 0).off e 1 = true := by
      rw [hdp, liesAt, hdp, rowAt, ke.cells]
      have h7 : sameLayout P (dp + 1) e e = true := by rw [sameLayout]; simp
      have h8 : φ.off id / ei.size + 1 ≤ cc.size / ei.size := by
        have hq : φ.off id / ei.size + 1 = (φ.off id + ei.size) / ei.size := by rw [Nat.add_div_right _ h3]
        rw [hq]; exact Nat.div_le_div_right h5
      simp [hne, baseOf, h6, h7, h8]
    have hvar : (variablesAt (baseOf φ id 0) e 1).run P w = .ok true w := by
      have hsh : w.shape? (baseOf φ id 0).block = some (e, cc.size) := by simp [World.shape?, baseOf, h4]
      simp only [variablesAt, Sem.run_bind, run_program, run_shape, hsh, Result.andThen_ok, hlie, Sem.run_pure]
    simp only [execOp, ho, he, convert, Sem.run_bind, ks.rUnd, kd.rUnd, hss, hdd, Result.andThen_ok, Conv.unsafePointer, hseen, hsz, hvar]
    simp
end
end Go.Proofs.YtpjkcfglojigmaaGreatDoor.Ev
namespace Go.Proofs.YtpjkcfglojigmaaGreatDoor.Ev
set_option linter.unusedVariables false
set_option linter.unusedSimpArgs false
open Go
section
variable {P : Program} {tt : TT} {sl : SL} {o : Oper}

theorem natV_id {v : AVal} {n : Nat} (h : natV some v = some n) : ∃ k, v = .int k (.ofNat n) := by
  obtain ⟨k, m, h1, h2⟩ := natV_some h
  injection h2 with h2; subst h2
  exact ⟨k, h1⟩
theorem bk_ok {φ : Ren} {vs : List AVal} {ρ : T AVal} {a : Act} {lo : Option Operand} (hl : ∀ x, lo = some x → VRel φ ((vk sl x).get vs ρ) (a.eval x)) {d n : Nat} (h : (bk sl lo).get vs ρ d = some n) :
    (lo = none ∧ n = d) ∨ ∃ x k, lo = some x ∧ a.eval x = .int k (.ofNat n) := by
  cases lo with
  | none => left; have h : some d = some n := h; injection h with h; exact ⟨rfl, h.symm⟩
  | some x =>
    right
    obtain ⟨k, hk⟩ := natV_id (show natV some ((vk sl x).get vs ρ) = some n from h)
    have := hl x rfl
    rw [hk] at this
    generalize hy : a.eval x = y at this
    cases this
    exact ⟨x, k, rfl, hy⟩
theorem rBound {w : World} {k : IntKind} {n y : Nat} {c : BoundsCode} (h : n ≤ y) : (Instr.sliceBound (.int k (.ofNat n)) y c).run P w = .ok n w := by
  have h0 : (0 : Int) ≤ (n : Int) := by omega
  have h1 : (n : Int) ≤ (y : Int) := by omega
  simp [Instr.sliceBound, asIntOf, h]
theorem rBounds {w : World} {b : Bool} {len cap l hh : Nat} {a : Act} {lo hi : Option Operand} (hlo : (lo = none ∧ l = 0) ∨ ∃ x k, lo = some x ∧ a.eval x = .int k (.ofNat l))
    (hhi : (hi = none ∧ hh = len) ∨ ∃ x k, hi = some x ∧ a.eval x = .int k (.ofNat hh)) (h1 : l ≤ hh) (h2 : hh ≤ cap) :
    (Instr.sliceBounds b len cap (lo.map a.eval) (hi.map a.eval) none).run P w = .ok (l, hh, cap) w := by
  rcases hlo with ⟨rfl, rfl⟩ | ⟨x, k, rfl, e2⟩ <;> rcases hhi with ⟨rfl, rfl⟩ | ⟨y, k', rfl, e4⟩
  · simp only [Instr.sliceBounds, Option.map_none, Sem.run_bind, Sem.run_pure, Result.andThen_ok, Option.isSome_none]
  · simp only [Instr.sliceBounds, Option.map_none, Option.map_some, Sem.run_bind, Sem.run_pure, Result.andThen_ok, Option.isSome_none, e4, rBound h2]
  · simp only [Instr.sliceBounds, Option.map_none, Option.map_some, Sem.run_bind, Sem.run_pure, Result.andThen_ok, Option.isSome_none, e2, rBound h1]
  · simp only [Instr.sliceBounds, Option.map_none, Option.map_some, Sem.run_bind, Sem.run_pure, Result.andThen_ok, Option.isSome_none, e2, e4, rBound h1, rBound h2]
theorem rBounds3 {w : World} {b : Bool} {len cap l hh m : Nat} {a : Act} {lo : Option Operand} {hi mx : Operand} {k1 k2 : IntKind} (hlo : (lo = none ∧ l = 0) ∨ ∃ x k, lo = some x ∧ a.eval x = .int k (.ofNat l))
    (hhi : a.eval hi = .int k1 (.ofNat hh)) (hmx : a.eval mx = .int k2 (.ofNat m)) (h1 : l ≤ hh) (h2 : hh ≤ m) (h3 : m ≤ cap) :
    (Instr.sliceBounds b len cap (lo.map a.eval) (some (a.eval hi)) (some (a.eval mx))).run P w = .ok (l, hh, m) w := by
  rcases hlo with ⟨rfl, rfl⟩ | ⟨x, k, rfl, e2⟩
  · simp only [Instr.sliceBounds, Option.map_none, Sem.run_bind, Sem.run_pure, Result.andThen_ok, hhi, hmx, rBound h2, rBound h3]
  · simp only [Instr.sliceBounds, Option.map_some, Sem.run_bind, Sem.run_pure, Result.andThen_ok, e2, hhi, hmx, rBound h1, rBound h2, rBound h3]
theorem pSliceStr {t : TypeId} {x : Operand} {lo hi : Option Operand} (ho : o.op = .slice t x lo hi none) {i : TI} (k : TIok P t i) (hd : i.desc = .str) :
    POK P sl o (fun vs ρ => cutK lo (vkO sl hi) vs ρ (bk sl lo) (bk sl hi) ((vk sl x).get vs ρ)) := by
  intro φ vs ρ a w v hl hf
  have hr := hl.at ho (x := x) (by simp [Op.operands])
  have hlo : ∀ y, lo = some y → VRel φ ((vk sl y).get vs ρ) (a.eval y) := fun y e => hl.at ho (by simp [Op.operands, e])
  have hhi : ∀ y, hi = some y → VRel φ ((vk sl y).get vs ρ) (a.eval y) := fun y e => hl.at ho (by simp [Op.operands, e])
  have hf : cutK _ _ _ _ _ _ _ = _ := hf
  generalize (vk sl x).get vs ρ = u at hr hf
  have hdd := k.hdesc
  rw [hd] at hdd
  have hdd : k.desc = .string := hdd
  generalize he : a.eval x = y at hr
  cases hr <;> try (cases hf; done)
  rotate_left
  · rename_i r c hcy
    cases lo with
    | some _ => cases hf
    | none => cases hi with
      | none => cases hf
      | some y =>
        have hf : cutU r c ((vk sl y).get vs ρ) = some v := hf
        have hy := hhi y rfl
        generalize (vk sl y).get vs ρ = yv at hf hy
        unfold cutU at hf
        split at hf
        case h_2 => cases hf
        rename_i r'
        obtain ⟨h1, h2⟩ := when_some hf
        have := Nat.eq_of_beq_eq_true h1
        subst this
        cases h2
        generalize hye : a.eval y = ye at hy
        cases hy
        have hb := rBounds (P := P) (w := w) (b := false) (len := (φ.raw r).size) (cap := (φ.raw r).size) (l := 0) (hh := min (φ.raw r).size 20) (a := a) (lo := none) (hi := some y) (.inl ⟨rfl, rfl⟩) (.inr ⟨y, .i64, rfl, hye⟩) (Nat.zero_le _) (Nat.min_le_left _ _)
        simp only [Option.map_none, Option.map_some] at hb
        refine ⟨.string ((φ.raw r).extract 0 (min (φ.raw r).size 20)), ?_, ?_⟩
        · simp only [execOp, ho, he, Instr.sliceAt, Instr.slice, Sem.run_bind, k.rUnd, hdd, Result.andThen_ok, Option.map_none, Option.map_some, Option.isSome_none, Bool.false_eq_true, if_false, hb, Sem.run_pure]
        · refine VRel.cat [] [] c _ ?_
          rw [List.nil_append, List.append_nil, ← hcy, ba_extract]
          have hl : (φ.raw r).data.toList.length = (φ.raw r).size := (ba_size _).symm
          rw [List.drop_zero]
          rcases Nat.le_total (φ.raw r).size 20 with h | h
          · rw [Nat.min_eq_left h, ← hl, List.take_length, List.take_of_length_le (by omega)]
          · rw [Nat.min_eq_right h]
  rename_i s
  obtain ⟨hh, h1, h2⟩ := ob_some (show ob ((bk sl hi).get vs ρ (sLen (enc s.data.toList))) (fun hh => ob ((bk sl lo).get vs ρ 0) fun l => subStr (enc s.data.toList) l hh) = some v from hf)
  obtain ⟨l, h3, h4⟩ := ob_some h2
  obtain ⟨h5, h6⟩ := when_some h4
  obtain ⟨h7, h8⟩ := when_some h6
  rw [ble_dec] at h5 h7
  have h5 : l ≤ hh := of_decide_eq_true h5
  have h7 := of_decide_eq_true h7
  rw [enc_len] at h7 h1
  rw [mkStr, seqN_eq, sSub_enc _ _ _ h5 h7] at h8
  cases h8
  refine ⟨.string (s.extract l hh), ?_, by rw [← ba_extract]; exact .str _⟩
  have hb := rBounds (P := P) (w := w) (b := false) (len := s.size) (cap := s.size) (bk_ok hlo h3) (by rw [ba_size]; exact bk_ok hhi h1) h5 (by rw [ba_size]; exact h7)
  simp only [execOp, ho, he, Instr.sliceAt, Instr.slice, Sem.run_bind, k.rUnd, hdd, Result.andThen_ok, Option.map_none, Option.isSome_none, Bool.false_eq_true, if_false, hb, Sem.run_pure]
/-- a lower bound of the capacity -/
theorem capLo_ok {φ : Ren} {h : Heap} {hp : Array Obj} (H : HRelR P φ h hp) {id off : Nat} (hd : φ.dom id) {et : TypeId} {i : TI} (k : TIok P et i) {lim : Option Nat} {cap c : Nat}
    (h0 : lim = none → off + cap * φ.sz id = φ.cap id) (hk : ∀ k, lim = some k → cap = k) (hs : 0 < i.size) (hc : capLo off i.size et lim (h.objs.get id) = some c) :
    c ≤ cap ∧ φ.sz id = i.size ∧ ∃ r lo hi cc fz, h.objs.get id = some (.cells r lo hi et) ∧ hp[φ.blk id]? = some (.cells cc et fz) ∧ RowOk P φ id r lo hi et cc fz := by
  unfold capLo at hc
  split at hc
  · rename_i r lo hi t hg
    obtain ⟨h1, h2⟩ := when_some hc
    rw [beq_dec] at h1
    have h1 := of_decide_eq_true h1
    subst h1
    obtain ⟨o', h5, cc, fz, h6, R⟩ := H.obj id _ hd hg
    have hz : φ.sz id = i.size := by rw [← R.sz, k.cells]
    refine ⟨?_, hz, r, lo, hi, cc, fz, hg, by rw [h5, h6], R⟩
    cases lim with
    | some m =>
      injection h2 with h2
      rw [hk m rfl, h2]; exact Nat.le_refl _
    | none =>
      injection h2 with h2
      have h3 := h0 rfl
      rw [hz] at h3
      have h4 := R.lo
      have h2 : c = (lo - off) / i.size := h2.symm
      rw [h2]
      apply Nat.div_le_of_le_mul
      rw [Nat.mul_comm]
      omega
  · cases hc
theorem sub_slice {φ : Ren} {id off : Nat} {lim : Option Nat} {ad : Addr} {cap : Nat} (hd : φ.dom id) (ha : cap ≠ 0 → ad = baseOf φ id off) (hc : off + cap * φ.sz id ≤ φ.cap id) (h0 : lim = none → off + cap * φ.sz id = φ.cap id)
    (hk : ∀ k, lim = some k → cap = k) {l hh m : Nat} (h1 : l ≤ hh) (h2 : hh ≤ m) (h3 : m ≤ cap) {lim' : Option Nat} (hl' : (m = cap ∧ lim' = limSub lim l) ∨ lim' = some (m - l)) :
    VRel φ (.slice id (off + l * φ.sz id) (hh - l) lim') (.slice (if m = l then some ad else (some ad).map (·.add (l * φ.sz id))) (hh - l) (m - l)) := by
  have hm : l * φ.sz id + (m - l) * φ.sz id = m * φ.sz id := by rw [← Nat.add_mul]; congr 1; omega
  have hm2 : m * φ.sz id ≤ cap * φ.sz id := Nat.mul_le_mul_right _ h3
  have key : ∀ ad', ((m - l ≠ 0) → ad' = baseOf φ id (off + l * φ.sz id)) → VRel φ (.slice id (off + l * φ.sz id) (hh - l) lim') (.slice (some ad') (hh - l) (m - l)) := by
    intro ad' h'
    refine .slice id _ _ _ ad' _ hd (by omega) h' (by omega) (fun e => ?_) (fun k e => ?_)
    · rcases hl' with ⟨e1, e2⟩ | e2
      · rw [e2] at e
        cases lim with
        | none => have := h0 rfl; rw [e1] at hm ⊢; omega
        | some q =>
          have e : (seqN (Nat.sub q l) fun n => some n) = none := e
          rw [seqN_eq] at e; cases e
      · rw [e2] at e; cases e
    · rcases hl' with ⟨e1, e2⟩ | e2
      · rw [e2] at e
        cases lim with
        | none => cases e
        | some q =>
          have e : (seqN (Nat.sub q l) fun n => some n) = some k := e
          rw [seqN_eq] at e
          injection e with e
          rw [← e, e1, hk q rfl]; rfl
      · rw [e2] at e; injection e
  by_cases hml : m = l
  · rw [if_pos hml]; exact key ad (fun c => by omega)
  · rw [if_neg hml]
    refine key _ (fun _ => ?_)
    rw [ha (by omega)]; exact add_base _ _ _ _
theorem nSlice {t : TypeId} {x : Operand} {lo hi : Option Operand} (ho : o.op = .slice t x lo hi none) {i : TI} (k : TIok P t i) {e : TypeId} (hd : i.desc = .slice e) {ei : TI} (ke : TIok P e ei) (hs : ei.size ≠ 0) :
    NOK P sl o (fun vs ρ h => sliceV ei.size e (bk sl lo) (bk sl hi) vs ρ h ((vk sl x).get vs ρ)) := by
  intro φ h vs ρ a w v hl H hf
  have hr := hl.at ho (x := x) (by simp [Op.operands])
  have hlo : ∀ y, lo = some y → VRel φ ((vk sl y).get vs ρ) (a.eval y) := fun y e => hl.at ho (by simp [Op.operands, e])
  have hhi : ∀ y, hi = some y → VRel φ ((vk sl y).get vs ρ) (a.eval y) := fun y e => hl.at ho (by simp [Op.operands, e])
  have hf : sliceV _ _ _ _ _ _ _ _ = _ := hf
  generalize (vk sl x).get vs ρ = u at hr hf
  have hdd := k.hdesc
  rw [hd] at hdd
  have hdd : k.desc = .slice e := hdd
  generalize he : a.eval x = y at hr
  cases hr <;> try (cases hf; done)
  case nilSlice =>
    obtain ⟨hh, h1, h2⟩ := ob_some (show ob ((bk sl hi).get vs ρ 0) (fun hh => ob ((bk sl lo).get vs ρ 0) fun l => when (Nat.ble hh 0) (when (Nat.ble l hh) (some .nilSlice))) = some v from hf)
    obtain ⟨l, h3, h4⟩ := ob_some h2
    obtain ⟨h5, h6⟩ := when_some h4
    obtain ⟨h7, h8⟩ := when_some h6
    rw [ble_dec] at h5 h7
    have h5 := of_decide_eq_true h5
    have h7 := of_decide_eq_true h7
    cases h8
    have hb := rBounds (P := P) (w := w) (b := true) (len := 0) (cap := 0) (bk_ok hlo h3) (bk_ok hhi h1) h7 h5
    have e1 : hh = 0 := by omega
    have e2 : l = 0 := by omega
    refine ⟨.slice none 0 0, ?_, .nilSlice⟩
    simp only [execOp, ho, he, Instr.sliceAt, Instr.slice, Sem.run_bind, k.rUnd, hdd, Result.andThen_ok, Option.map_none, hb, ke.rSize, Sem.run_pure]
    subst e1; subst e2; rfl
  case slice id off len lim ad cap hdom hlc ha hc h0 hk =>
    obtain ⟨c, g1, g2⟩ := ob_some (show ob (capLo off ei.size e lim (h.objs.get id)) (fun cap => ob ((bk sl hi).get vs ρ len) fun hh => ob ((bk sl lo).get vs ρ 0) fun l => subSlice id off lim ei.size cap l hh) = some v from hf)
    obtain ⟨hh, h1, h2⟩ := ob_some g2
    obtain ⟨l, h3, h4⟩ := ob_some h2
    obtain ⟨h5, h6⟩ := when_some h4
    obtain ⟨h7, h8⟩ := when_some h6
    rw [ble_dec] at h5 h7
    have h5 := of_decide_eq_true h5
    have h7 := of_decide_eq_true h7
    rw [mkSlice, seqN_eq, seqN_eq] at h8
    cases h8
    obtain ⟨g3, g4, _⟩ := capLo_ok H hdom ke h0 hk (by omega) g1
    have hb := rBounds (P := P) (w := w) (b := true) (len := len) (cap := cap) (bk_ok hlo h3) (bk_ok hhi h1) h5 (by omega)
    have hv := sub_slice hdom ha hc h0 hk h5 (show hh ≤ cap by omega) (Nat.le_refl _) (lim' := limSub lim l) (.inl ⟨rfl, rfl⟩)
    rw [g4] at hv
    refine ⟨_, ?_, hv⟩
    · simp only [execOp, ho, he, Instr.sliceAt, Instr.slice, Sem.run_bind, k.rUnd, hdd, Result.andThen_ok, Option.map_none, hb, ke.rSize, Sem.run_pure]
theorem nSlice3 {t : TypeId} {x : Operand} {lo : Option Operand} {hi mx : Operand} (ho : o.op = .slice t x lo (some hi) (some mx)) {i : TI} (k : TIok P t i) {e : TypeId} (hd : i.desc = .slice e) {ei : TI} (ke : TIok P e ei) (hs : ei.size ≠ 0) :
    NOK P sl o (fun vs ρ h => sliceV3 ei.size e (bk sl lo) (bkSome (vk sl hi)) (bkSome (vk sl mx)) vs ρ h ((vk sl x).get vs ρ)) := by
  intro φ h vs ρ a w v hl H hf
  have hr := hl.at ho (x := x) (by simp [Op.operands])
  have hlo : ∀ y, lo = some y → VRel φ ((vk sl y).get vs ρ) (a.eval y) := fun y e => hl.at ho (by simp [Op.operands, e])
  have hhi := hl.at ho (x := hi) (by simp [Op.operands])
  have hmx := hl.at ho (x := mx) (by simp [Op.operands])
  have hf : sliceV3 _ _ _ _ _ _ _ _ _ = _ := hf
  generalize (vk sl x).get vs ρ = u at hr hf
  have hdd := k.hdesc
  rw [hd] at hdd
  have hdd : k.desc = .slice e := hdd
  generalize he : a.eval x = y at hr
  cases hr <;> try (cases hf; done)
  case slice id off len lim ad cap hdom hlc ha hc h0 hk =>
    obtain ⟨c, g1, g2⟩ := ob_some (show ob (capLo off ei.size e lim (h.objs.get id)) (fun cap => ob ((bkSome (vk sl hi)).get vs ρ len) fun hh => ob ((bk sl lo).get vs ρ 0) fun l => ob ((bkSome (vk sl mx)).get vs ρ 0) fun m => subSlice3 id off ei.size cap l hh m) = some v from hf)
    obtain ⟨hh, h1, h2⟩ := ob_some g2
    obtain ⟨l, h3, h4⟩ := ob_some h2
    obtain ⟨m, q1, q2⟩ := ob_some h4
    obtain ⟨h5, h6⟩ := when_some q2
    obtain ⟨h7, h8⟩ := when_some h6
    obtain ⟨h9, h10⟩ := when_some h8
    rw [ble_dec] at h5 h7 h9
    have h5 := of_decide_eq_true h5
    have h7 := of_decide_eq_true h7
    have h9 := of_decide_eq_true h9
    rw [mkSlice, seqN_eq, seqN_eq] at h10
    cases h10
    obtain ⟨k1, e1⟩ := natV_id (show natV some ((vk sl hi).get vs ρ) = some hh from h1)
    obtain ⟨k2, e2⟩ := natV_id (show natV some ((vk sl mx).get vs ρ) = some m from q1)
    rw [e1] at hhi
    rw [e2] at hmx
    generalize hhe : a.eval hi = hv at hhi
    generalize hme : a.eval mx = mv at hmx
    cases hhi
    cases hmx
    obtain ⟨g3, g4, _⟩ := capLo_ok H hdom ke h0 hk (by omega) g1
    have hb := rBounds3 (P := P) (w := w) (b := true) (len := len) (cap := cap) (bk_ok hlo h3) hhe hme h5 h7 (by omega)
    rw [hhe, hme] at hb
    have hv := sub_slice hdom ha hc h0 hk h5 h7 (show m ≤ cap by omega) (lim' := some (m - l)) (.inr rfl)
    rw [g4] at hv
    refine ⟨_, ?_, hv⟩
    · simp only [execOp, ho, he, Instr.sliceAt, Instr.slice, Sem.run_bind, k.rUnd, hdd, Result.andThen_ok, Option.map_some, hhe, hme, hb, ke.rSize, Sem.run_pure]
end
end Go.Proofs.YtpjkcfglojigmaaGreatDoor.Ev
namespace Go.Proofs.YtpjkcfglojigmaaGreatDoor.Ev
set_option linter.unusedVariables false
set_option linter.unusedSimpArgs false
open Go
section
variable {P : Program} {tt : TT} {sl : SL} {o : Oper}

theorem entsOf_ok {φ : Ren} {h : Heap} {w : World} (H : HRelR P φ h w.heap) {v : AVal} {x : Value} (hx : VRel φ v x) {es : List Ent} (he : entsOf h v = some es) :
    (x = .map none ∧ es = []) ∨ ∃ r es' cl, x = .map (some r) ∧ w.heap[r]? = some (.map es' cl) ∧ EntsRel φ es es'.toList := by
  unfold entsOf at he
  split at he
  · cases hx; injection he with he; exact .inl ⟨rfl, he.symm⟩
  · rename_i r
    cases hx with | map _ hd =>
    obtain ⟨⟨es1, cl⟩, h1, h2⟩ := ob_some he
    cases h2
    obtain ⟨_, es', h3, h4⟩ := mapOf_ok H hd h1
    exact .inr ⟨_, es', cl, rfl, h3, h4⟩
  · cases he
theorem nLookup (hT : TTok P tt) {t : TypeId} {x y : Operand} {ok : Bool} (ho : o.op = .lookup t x y ok) {i : TI} (k : TIok P t i) {kt e : TypeId} (hd : i.desc = .map kt e) {ki ei : TI} (kk : TIok P kt ki) (hkt : keyT tt ki = true) (ke : TIok P e ei) :
    NOK P sl o (fun vs ρ h => lookV tt ki ei.zero ok h ((vk sl y).get vs ρ) ((vk sl x).get vs ρ)) := by
  intro φ h vs ρ a w v hl H hf
  have hx := hl.at ho (x := x) (by simp [Op.operands])
  have hy := hl.at ho (x := y) (by simp [Op.operands])
  have hf : lookV _ _ _ _ _ _ _ = _ := hf
  generalize (vk sl x).get vs ρ = u at hx hf
  generalize (vk sl y).get vs ρ = q at hy hf
  have hdd := k.hdesc
  rw [hd] at hdd
  have hdd : k.desc = .map kt e := hdd
  obtain ⟨h1, h2⟩ := when_some hf
  obtain ⟨es, h3, h4⟩ := ob_some h2
  obtain ⟨r, h5, h6⟩ := ob_some h4
  injection h6 with h6
  have fin : ∀ (es' : Array MapEntry), EntsRel φ es es'.toList → ∀ (m : Sem (Array MapEntry)), m.run P w = .ok es' w → ∃ z, ((m >>= fun es => do
      Instr.checkKey es.isEmpty 10000 kt (a.eval y)
      let (v, ok') ← match ← Instr.findKey kt (a.eval y) es.toList with
        | some (_, v) => pure (v, true)
        | none => pure (← zeroValue e, false)
      pure (if ok then .tuple #[v, .bool ok'] else v) : Sem Value)).run P w = .ok z w ∧ VRel φ v z := by
    intro es' hes m hm
    obtain ⟨r', hr', hR⟩ := findA_ok hT H kk hy es es'.toList 0 r hes h5
    have hc := checkKeyL_ok hT (empty := es'.isEmpty) kk hkt h1 hy (w := w)
    have hk := findKey_run kk.hund (a.eval y) es'.toList w
    rw [hr'] at hk
    simp only [Sem.run_bind, hm, hc, hk, Result.andThen_ok]
    cases r with
    | none =>
      cases r' with
      | some _ => exact hR.elim
      | none =>
        have hz := ke.rZero (w := w)
        cases ok
        · refine ⟨ke.zero, ?_, ?_⟩
          · simp [hz]
          · rw [← h6]; exact ke.hz φ
        · refine ⟨.tuple #[ke.zero, .bool false], ?_, ?_⟩
          · simp [hz]
          · rw [← h6]; exact .tuple _ _ (.cons _ _ _ _ (ke.hz φ) (.cons _ _ _ _ (.bool _) .nil))
    | some q =>
      cases r' with
      | none => exact hR.elim
      | some q' =>
        obtain ⟨qi, qv, qb⟩ := q
        obtain ⟨qj, qx⟩ := q'
        obtain ⟨_, _, g3, _⟩ := hR
        cases ok
        · exact ⟨qx, by simp, by rw [← h6]; exact g3⟩
        · exact ⟨.tuple #[qx, .bool true], by simp, by rw [← h6]; exact .tuple _ _ (.cons _ _ _ _ g3 (.cons _ _ _ _ (.bool _) .nil))⟩
  have go : ∃ z, (Instr.lookup t (a.eval x) (a.eval y) ok).run P w = .ok z w ∧ VRel φ v z := by
    unfold Instr.lookup
    simp only [Sem.run_bind, k.rUnd, hdd, Result.andThen_ok]
    rcases entsOf_ok H hx h3 with ⟨e1, e2⟩ | ⟨r1, es', cl, e1, e2, e3⟩
    · subst e2
      rw [e1]
      exact fin #[] .nil (pure #[]) rfl
    · rw [e1]
      obtain ⟨z, hz, hv⟩ := fin es' e3 (pure es') rfl
      refine ⟨z, ?_, hv⟩
      show (getObj r1 >>= _).run P w = _
      rw [Sem.run_bind, rGetObj e2 (by intro _ _ _ e; cases e), Result.andThen_ok]
      exact hz
  obtain ⟨z, hz, hv⟩ := go
  exact ⟨z, by simp only [execOp, ho, Sem.run_bind, hz]; rfl, hv⟩
/-! the entry of a step -/
theorem findEnt_ok {φ : Ren} {s : Nat} : ∀ {es : List Ent} {ms : List MapEntry} {v : AVal}, EntsRel φ es ms → findEnt s es = some v → ∃ m, ms.find? (·.born == s) = some m ∧ VRel φ v (.tuple #[m.key, m.val])
  | [], _, v, .nil, h => by cases h
  | e :: es, _, v, .cons _ m _ ms hk hv hb hr, h => by
    simp only [findEnt] at h
    rw [beq_dec] at h
    by_cases hs : e.2.2 = s
    · simp only [hs, decide_true] at h
      cases h
      exact ⟨m, by simp [List.find?, ← hb, hs], .tuple _ _ (.cons _ _ _ _ hk (.cons _ _ _ _ hv .nil))⟩
    · simp only [hs, decide_false] at h
      obtain ⟨m', h1, h2⟩ := findEnt_ok hr h
      exact ⟨m', by rw [List.find?_cons_of_neg (by simp [← hb, hs])]; exact h1, h2⟩
theorem nEntry {x : Operand} (ho : o.op = .entry x) : NOK P sl o (fun vs ρ h => entryV h ((vk sl x).get vs ρ)) := by
  intro φ h vs ρ a w v hl H hf
  have hx := hl.at ho (x := x) (by simp [Op.operands])
  have hf : entryV _ _ = _ := hf
  generalize (vk sl x).get vs ρ = u at hx hf
  generalize he : a.eval x = y at hx
  cases hx <;> try (cases hf; done)
  rename_i r off hd
  obtain ⟨h1, h2⟩ := when_some hf
  rw [beq_dec] at h1
  have h1 := of_decide_eq_true h1
  subst h1
  unfold entryO at h2
  split at h2
  · rename_i m since s seen last hg
    obtain ⟨⟨es, cl⟩, h3, h4⟩ := ob_some h2
    obtain ⟨h5, h6⟩ := when_some h4
    rw [beq_dec] at h5
    have h5 : cl = last := of_decide_eq_true h5
    obtain ⟨o', g1, g2, seen', g3, g4, g5, _⟩ := H.obj r _ hd hg
    obtain ⟨_, es', g6, g7⟩ := mapOf_ok H (g5 m rfl) h3
    obtain ⟨me, h7, h8⟩ := findEnt_ok g7 h6
    refine ⟨_, ?_, h8⟩
    have hb : seen'.back? = some s := by
      have : seen'.toList = seen.reverse ++ [s] := by rw [← List.reverse_reverse seen'.toList, g4]; simp
      rw [← Array.getLast?_toList, this]; simp
    rw [g3] at g1
    have hfind : es'.find? (·.born == s) = some me := by rw [← Array.find?_toList]; exact h7
    have hp : baseOf φ r 0 = ⟨φ.blk r, 0, none⟩ := by simp [baseOf, g2]
    simp only [execOp, ho, he, hp, Instr.entry, Sem.run_bind, rGetObj g1 (by intro _ _ _ e; cases e), Result.andThen_ok, Option.map_some, hb, rGetObj g6 (by intro _ _ _ e; cases e), h5, bne_self_eq_false, Bool.false_eq_true, if_false, hfind, Sem.run_pure]
  · cases h2

/-! bytes -/
theorem natsOf_ok {φ : Ren} : ∀ {l : List AVal} {xs : List Value} {ns : List Nat}, VRelL φ l xs → natsOf l = some ns → xs = (ns.map fun n => Value.int .u8 (Int.ofNat n)) ∧ ∀ n ∈ ns, n < 256
  | [], _, ns, .nil, h => by cases h; exact ⟨rfl, by simp⟩
  | v :: l, _, ns, .cons _ x _ xs hv hl, h => by
    unfold natsOf at h
    split at h
    · cases hv
      obtain ⟨h1, h2⟩ := when_some h
      obtain ⟨r, h3, h4⟩ := ob_some h2
      cases h4
      rw [blt_dec] at h1
      obtain ⟨e1, e2⟩ := natsOf_ok hl h3
      refine ⟨by simp [e1], ?_⟩
      intro n hn
      rcases List.mem_cons.1 hn with rfl | hn
      · exact of_decide_eq_true h1
      · exact e2 n hn
    · cases h
theorem strOf_ok {φ : Ren} {id : Nat} {c : T AVal} {lo : Nat} {hi : Option Nat} {et : TypeId} {cc : Array Value} {fz : Nat × Nat} {w : World} (hb : w.heap[φ.blk id]? = some (.cells cc et fz)) (R : RowOk P φ id c lo hi et cc fz)
    {off n s : Nat} (h : strOf c off n = some s) : ∃ ns : List Nat, (∀ m ∈ ns, m < 256) ∧ ns.length = n ∧ (loadCells (baseOf φ id off) n).run P w = .ok ((ns.map fun n => Value.int .u8 (Int.ofNat n)).toArray) w ∧
      s = enc (ns.map UInt8.ofNat) ∧ ∀ j v, (ns.map fun n => Value.int .u8 (Int.ofNat n))[j]? = some v → w.cell? (baseOf φ id (off + j)) = some v := by
  obtain ⟨l, h1, h2⟩ := ob_some h
  obtain ⟨ns, h3, h4⟩ := ob_some h2
  rw [seqN_eq] at h4
  cases h4
  obtain ⟨l', g1, _, g2, _, g3⟩ := loadN_ok hb R n off l h1
  obtain ⟨e1, e2⟩ := natsOf_ok g2 h3
  subst e1
  refine ⟨ns, e2, by simpa using g1, rLoadCells g1 g3, ?_, g3⟩
  have : ns = (ns.map UInt8.ofNat).map UInt8.toNat := by
    rw [List.map_map]
    conv => lhs; rw [← List.map_id ns]
    apply List.map_congr_left
    intro m hm
    have := e2 m hm
    simp; omega
  conv => lhs; rw [this, sOfNats_enc]
theorem dgsOf_ok {φ : Ren} {r : Nat} : ∀ {l : List AVal} {xs : List Value} {m : List (Nat × Bool)}, VRelL φ l xs → dgsOf r l = some m → xs = m.map fun p => Value.int .u8 ((dgN (φ.raw r).size p.1 p.2 : Nat) : Int)
  | [], _, m, .nil, h => by cases h; rfl
  | v :: l, _, m, .cons _ x _ xs hv hl, h => by
    unfold dgsOf at h
    split at h
    · obtain ⟨h1, h2⟩ := when_some h
      obtain ⟨h3, h4⟩ := when_some h2
      obtain ⟨m', h5, h6⟩ := ob_some h4
      have := kindEq_iff.1 h1; subst this
      have := Nat.eq_of_beq_eq_true h3; subst this
      injection h6 with h6; subst h6
      cases hv
      rw [dgsOf_ok hl h5]; rfl
    · cases h
theorem dgsAll_some {l : List AVal} {v : AVal} (h : dgsAll l = some v) : ∃ r m, v = .sdg r m ∧ dgsOf r l = some m := by
  unfold dgsAll at h
  split at h
  · obtain ⟨m, h1, h2⟩ := ob_some h
    injection h2 with h2
    exact ⟨_, m, h2.symm, h1⟩
  · cases h
theorem nOfBytes {s d e : TypeId} {x : Operand} (ho : o.op = .convert s d x) {si di ei : TI} (ks : TIok P s si) (kd : TIok P d di) (ke : TIok P e ei) (hs : si.desc = .slice e) (hd : di.desc = .str) (he : ei.desc = .int .u8) :
    NOK P sl o (fun vs ρ h => ofBytes h ((vk sl x).get vs ρ)) := by
  intro φ h vs ρ a w v hl H hf
  have hx := hl.at ho (x := x) (by simp [Op.operands])
  have hf : ofBytes _ _ = _ := hf
  generalize (vk sl x).get vs ρ = u at hx hf
  have hss := ks.hdesc
  rw [hs] at hss
  have hss : ks.desc = .slice e := hss
  have hdd := kd.hdesc
  rw [hd] at hdd
  have hdd : kd.desc = .string := hdd
  have hee := ke.hdesc
  rw [he] at hee
  have hee : ke.desc = .int .u8 := hee
  generalize hce : a.eval x = y at hx
  cases hx <;> try (cases hf; done)
  case nilSlice =>
    cases hf
    have he0 : ByteArray.empty.data.toList = [] := by simp
    refine ⟨.string .empty, ?_, by have := VRel.str (φ := φ) ByteArray.empty; rw [he0] at this; exact this⟩
    simp only [execOp, ho, hce, Sem.run_bind]
    rw [run_convert_bytes_string w s d e none 0 0 (by rw [ks.hund, hss]) (by rw [ke.hund, hee]) (by rw [kd.hund, hdd])]
    simp [Conv.bytesToString]
  case slice id off len lim ad cap hdom hlc ha hc h0 hk =>
    obtain ⟨c, h1, h2⟩ := ob_some (show ob (h.row id) (fun c => strD c off len) = some v from hf)
    obtain ⟨lo, hi, et, cc, fz, _, hb, R⟩ := row_ok H hdom h1
    have h2 : strD c off len = some v := h2
    unfold strD at h2
    split at h2
    · rename_i st h3
      cases h2
      obtain ⟨ns, g1, g2, g3, g4, _⟩ := strOf_ok hb R h3
      have hlc' : (loadCells ad len).run P w = .ok (((ns.map Int.ofNat).map (Value.int .u8)).toArray) w := by
        rw [List.map_map]
        by_cases hz : cap = 0
        · have : len = 0 := by omega
          subst this
          have : ns = [] := List.length_eq_zero_iff.1 g2
          subst this; rfl
        · rw [ha hz]; exact g3
      subst g4
      refine ⟨.string ⟨(ns.map UInt8.ofNat).toArray⟩, ?_, .str ⟨(ns.map UInt8.ofNat).toArray⟩⟩
      simp only [execOp, ho, hce, Sem.run_bind]
      rw [run_convert_bytes_string w s d e _ len cap (by rw [ks.hund, hss]) (by rw [ke.hund, hee]) (by rw [kd.hund, hdd]), run_bytesToString w ad len cap _ hlc', foldl_push_bytes]
      simp [ByteArray.empty, ByteArray.emptyWithCapacity]
      rfl
    · obtain ⟨l, h3, h4⟩ := ob_some h2
      obtain ⟨r, m, rfl, hm⟩ := dgsAll_some h4
      obtain ⟨l', g1, _, g2, _, g3⟩ := loadN_ok hb R len off l h3
      have e1 := dgsOf_ok g2 hm
      have hlen : (m.map fun p => dgN (φ.raw r).size p.1 p.2).length = len := by
        have : l'.length = len := by simpa using g1
        rw [← this, e1]; simp
      have hlc' : (loadCells ad len).run P w = .ok ((((m.map fun p => dgN (φ.raw r).size p.1 p.2).map Int.ofNat).map (Value.int .u8)).toArray) w := by
        have h5 : (loadCells (baseOf φ id off) len).run P w = .ok l'.toArray w := rLoadCells g1 g3
        rw [e1] at h5
        by_cases hz : cap = 0
        · have : len = 0 := by omega
          subst this
          have : m = [] := by
            have := List.length_eq_zero_iff.1 hlen
            simpa using this
          subst this; rfl
        · rw [ha hz, h5]; simp [Function.comp_def]
      refine ⟨.string ⟨((m.map fun p => dgN (φ.raw r).size p.1 p.2).map UInt8.ofNat).toArray⟩, ?_, .sdg r m _ (by simp [Function.comp_def])⟩
      simp only [execOp, ho, hce, Sem.run_bind]
      rw [run_convert_bytes_string w s d e _ len cap (by rw [ks.hund, hss]) (by rw [ke.hund, hee]) (by rw [kd.hund, hdd]), run_bytesToString w ad len cap _ hlc', foldl_push_bytes]
      simp [ByteArray.empty, ByteArray.emptyWithCapacity]
      rfl
end
end Go.Proofs.YtpjkcfglojigmaaGreatDoor.Ev
namespace Go.Proofs.YtpjkcfglojigmaaGreatDoor.Ev
set_option linter.unusedVariables false
set_option linter.unusedSimpArgs false
open Go
section
variable {P : Program} {tt : TT} {sl : SL} {o : Oper}

/-- cells over others, for any cells -/
def setR {α : Type} : List α → Nat → List α → List α
  | [], _, _ => []
  | c :: cs, off, l => match off with
    | k + 1 => c :: setR cs k l
    | 0 => match l with
      | [] => c :: cs
      | v :: l => v :: setR cs 0 l
theorem setRg_eq : ∀ (cs : List AVal) (off : Nat) (l : List AVal), setRg cs off l = setR cs off l
  | [], _, _ => rfl
  | c :: cs, k + 1, l => by simp only [setRg, setR, setRg_eq cs k l]
  | c :: cs, 0, [] => rfl
  | c :: cs, 0, v :: l => by simp only [setRg, setR, setRg_eq cs 0 l]
theorem setR_nil {α : Type} : ∀ (cs : List α) (off : Nat), setR cs off [] = cs
  | [], _ => rfl
  | c :: cs, k + 1 => by simp only [setR, setR_nil cs k]
  | c :: cs, 0 => rfl
theorem setR_cons {α : Type} : ∀ (cs : List α) (off : Nat) (v : α) (l : List α), setR cs off (v :: l) = setR (cs.set off v) (off + 1) l
  | [], _, _, _ => rfl
  | c :: cs, 0, v, l => by simp [setR]
  | c :: cs, k + 1, v, l => by simp only [setR, List.set_cons_succ, setR_cons cs k v l]
theorem setR_rel {φ : Ren} : ∀ {cs : List AVal} {cs' : List Value} (off : Nat) {l : List AVal} {l' : List Value}, VRelL φ cs cs' → VRelL φ l l' → VRelL φ (setR cs off l) (setR cs' off l')
  | [], _, _, _, _, .nil, _ => .nil
  | c :: cs, _, k + 1, l, l', .cons _ x _ xs hx hxs, hl => .cons _ _ _ _ hx (setR_rel k hxs hl)
  | c :: cs, _, 0, _, _, .cons _ x _ xs hx hxs, .nil => .cons _ _ _ _ hx hxs
  | c :: cs, _, 0, _, _, .cons _ x _ xs hx hxs, .cons v y l l' hv hl => .cons _ _ _ _ hv (setR_rel 0 hxs hl)
theorem setR_mem {α : Type} {p : α → Prop} : ∀ {cs : List α} (off : Nat) {l : List α}, (∀ x ∈ cs, p x) → (∀ x ∈ l, p x) → ∀ x ∈ setR cs off l, p x
  | [], _, _, _, _, x, hx => by cases hx
  | c :: cs, k + 1, l, h1, h2, x, hx => by
    rcases List.mem_cons.1 hx with rfl | hx
    · exact h1 _ (by simp)
    · exact setR_mem k (fun y hy => h1 y (by simp [hy])) h2 x hx
  | c :: cs, 0, [], h1, h2, x, hx => h1 x hx
  | c :: cs, 0, v :: l, h1, h2, x, hx => by
    rcases List.mem_cons.1 hx with rfl | hx
    · exact h2 _ (by simp)
    · exact setR_mem 0 (fun y hy => h1 y (by simp [hy])) (fun y hy => h2 y (by simp [hy])) x hx
theorem setR_length {α : Type} : ∀ (cs : List α) (off : Nat) (l : List α), (setR cs off l).length = cs.length
  | [], _, _ => rfl
  | c :: cs, k + 1, l => by simp [setR, setR_length cs k l]
  | c :: cs, 0, [] => rfl
  | c :: cs, 0, v :: l => by simp [setR, setR_length cs 0 l]
theorem fold_set (off : Nat) : ∀ (l : List Value) (k : Nat) (cs : Array Value), ((l.zipIdx k).foldl (fun cs (c : Value × Nat) => cs.setIfInBounds (off + c.2) c.1) cs).toList = setR cs.toList (off + k) l
  | [], k, cs => by simp [setR_nil]
  | c :: l, k, cs => by
    simp only [List.zipIdx_cons, List.foldl_cons]
    rw [fold_set off l (k + 1)]
    rw [Array.toList_setIfInBounds, setR_cons]; rfl
theorem fill_ok {φ : Ren} {vs : List AVal} {ρ : T AVal} {a : Act} {place place' : Nat → Option (Nat × Nat)} (hpl : ∀ i q, place i = some q → place' i = some q) :
    ∀ (ps : List (Nat × Operand)) (cs : List AVal) (cs' : Array Value) (r : List AVal), (∀ p ∈ ps, VRel φ ((vk sl p.2).get vs ρ) (a.eval p.2)) → VRelL φ cs cs'.toList → (∀ x ∈ cs'.toList, x.oneCell' = true) →
      (partsK sl place ps).fill vs ρ cs = some r → ∃ r', Instr.fill place' cs' (ps.map fun p => (p.1, a.eval p.2)) = some r' ∧ VRelL φ r r'.toList ∧ (∀ x ∈ r'.toList, x.oneCell' = true) ∧ r.length = cs.length
  | [], cs, cs', r, _, hc, h1, h => by cases h; exact ⟨cs', rfl, hc, h1, rfl⟩
  | p :: ps, cs, cs', r, hp, hc, h1, h => by
    simp only [partsK] at h
    cases hq : place p.1 with
    | none => rw [hq] at h; cases h
    | some q =>
      rw [hq] at h
      obtain ⟨l, h2, h3⟩ := ob_some (show ob ((vk sl p.2).get vs ρ).cells (fun l => when (Nat.beq l.length q.2) (when (Nat.ble (Nat.add q.1 q.2) cs.length) ((partsK sl place ps).fill vs ρ (setRg cs q.1 l)))) = some r from h)
      obtain ⟨h4, h5⟩ := when_some h3
      obtain ⟨h6, h7⟩ := when_some h5
      rw [beq_dec] at h4
      rw [ble_dec] at h6
      have h4 : l.length = q.2 := of_decide_eq_true h4
      have h6 : q.1 + q.2 ≤ cs.length := of_decide_eq_true h6
      obtain ⟨g1, g2⟩ := cells_rel (hp p (by simp)) h2
      have hl : l.length = (a.eval p.2).cells.size := by rw [g1.length]; simp
      have hcl : cs.length = cs'.size := by rw [hc.length]; simp
      rw [setRg_eq] at h7
      have hfold : ((a.eval p.2).cells.zipIdx.foldl (fun cs (c, j) => cs.setIfInBounds (q.1 + j) c) cs').toList = setR cs'.toList q.1 (a.eval p.2).cells.toList := by
        have := fold_set q.1 (a.eval p.2).cells.toList 0 cs'
        rw [Nat.add_zero] at this
        rw [← this, ← Array.foldl_toList, Array.toList_zipIdx]
      obtain ⟨r', e1, e2, e3, e4⟩ := fill_ok hpl ps (setR cs q.1 l) ((a.eval p.2).cells.zipIdx.foldl (fun cs (c, j) => cs.setIfInBounds (q.1 + j) c) cs') r
        (fun p' hp' => hp p' (by simp [hp'])) (by rw [hfold]; exact setR_rel q.1 hc g1) (by rw [hfold]; exact setR_mem q.1 h1 g2) h7
      refine ⟨r', ?_, e2, e3, by rw [e4, setR_length]⟩
      simp only [List.map_cons, Instr.fill, hpl _ _ hq]
      rw [if_neg (by simp; omega)]
      exact e1
theorem parts_eq (ps : Array (Nat × Operand)) (a : Act) : (ps.map fun (i, x) => (i, a.eval x)).toList = ps.toList.map fun p => (p.1, a.eval p.2) := by
  rw [Array.toList_map]
theorem places_ok : ∀ (fs : List Field), (∀ f ∈ fs, (P.info? f.type).isSome = true) → ∃ places : List (Nat × Nat), fs.mapM (fun f => (P.info? f.type).map fun i => (f.offset, i.size)) = some places ∧
    ∀ (i : Nat) (f : Field) (inf : TypeInfo), fs[i]? = some f → P.info? f.type = some inf → places[i]? = some (f.offset, inf.size)
  | [], _ => ⟨[], rfl, by simp⟩
  | f :: fs, h => by
    obtain ⟨inf, h1⟩ := Option.isSome_iff_exists.1 (h f (by simp))
    obtain ⟨pl, h2, h3⟩ := places_ok fs (fun g hg => h g (by simp [hg]))
    refine ⟨(f.offset, inf.size) :: pl, by simp [List.mapM_cons, h1, h2], fun i g inf' hg hi => ?_⟩
    cases i with
    | zero =>
      simp at hg; subst hg
      rw [h1] at hi; injection hi with hi; subst hi; simp
    | succ i => simpa using h3 i g inf' (by simpa using hg) hi
theorem pBuildS (hT : TTok P tt) {t : TypeId} {ps : Array (Nat × Operand)} (ho : o.op = .build t ps) {i : TI} (k : TIok P t i) {fs : List (Nat × TypeId × Bool)} (hd : i.desc = .struct fs) :
    POK P sl o (fun vs ρ => ob ((partsK sl (fieldPl tt fs) ps.toList).fill vs ρ i.zc) fun cs => some (.agg cs)) := by
  intro φ vs ρ a w v hl hf
  obtain ⟨cs, h1, h2⟩ := ob_some hf
  injection h2 with h2; subst h2
  have hdd := k.hdesc
  rw [hd] at hdd
  obtain ⟨fields, hdd, hfs⟩ := hdd
  obtain ⟨pl, g1, g2⟩ := places_ok (P := P) fields.toList (k.hfld fields hdd)
  have hpl : ∀ j q, fieldPl tt fs j = some q → pl.toArray[j]? = some q := by
    intro j q hq
    obtain ⟨f, e1, e2⟩ := ob_some hq
    obtain ⟨ti, e3, e4⟩ := ob_some e2
    cases e4
    rw [nth_eq, hfs] at e1
    simp only [List.getElem?_map, Option.map_eq_some_iff] at e1
    obtain ⟨fd, e5, e6⟩ := e1
    subst e6
    obtain ⟨kt⟩ := hT _ _ e3
    have := g2 j fd kt.inf e5 kt.hinfo
    rw [kt.hsize] at this
    simpa using this
  obtain ⟨r', e1, e2, e3, _⟩ := fill_ok (sl := sl) (φ := φ) (a := a) hpl ps.toList i.zc k.zero.cells cs (fun p hp => hl.at ho (by simp [Op.operands]; exact ⟨p.1, by simpa using hp⟩)) (k.hzc φ) k.hz1 h1
  refine ⟨.agg r', ?_, .agg _ _ e2 e3⟩
  have hb : P.built t (ps.map fun (i, x) => (i, a.eval x)).toList = some r' := by
    rw [parts_eq]
    simp only [Program.built, k.hinfo, k.hund, hdd, k.hzero, g1]
    exact e1
  simp only [execOp, ho, Sem.run_bind, run_build w t _ r' hb]; rfl
theorem pBuildA {t : TypeId} {ps : Array (Nat × Operand)} (ho : o.op = .build t ps) {i : TI} (k : TIok P t i) {n : Nat} {e : TypeId} (hd : i.desc = .arr n e) {ei : TI} (ke : TIok P e ei) :
    POK P sl o (fun vs ρ => ob ((partsK sl (elemPl ei.size) ps.toList).fill vs ρ i.zc) fun cs => some (.agg cs)) := by
  intro φ vs ρ a w v hl hf
  obtain ⟨cs, h1, h2⟩ := ob_some hf
  injection h2 with h2; subst h2
  have hdd := k.hdesc
  rw [hd] at hdd
  have hdd : k.desc = .array n e := hdd
  obtain ⟨r', e1, e2, e3, _⟩ := fill_ok (sl := sl) (φ := φ) (a := a) (place' := fun i => some (i * ei.size, ei.size)) (fun i q h => h) ps.toList i.zc k.zero.cells cs
    (fun p hp => hl.at ho (by simp [Op.operands]; exact ⟨p.1, by simpa using hp⟩)) (k.hzc φ) k.hz1 h1
  refine ⟨.agg r', ?_, .agg _ _ e2 e3⟩
  have hb : P.built t (ps.map fun (i, x) => (i, a.eval x)).toList = some r' := by
    rw [parts_eq]
    simp only [Program.built, k.hinfo, k.hund, hdd, k.hzero, ke.hinfo, ke.hsize]
    exact e1
  simp only [execOp, ho, Sem.run_bind, run_build w t _ r' hb]; rfl
end
end Go.Proofs.YtpjkcfglojigmaaGreatDoor.Ev
namespace Go.Proofs.YtpjkcfglojigmaaGreatDoor.Ev
set_option linter.unusedVariables false
set_option linter.unusedSimpArgs false
open Go
section
variable {P : Program} {tt : TT} {sl : SL} {o : Oper}

/-- what is asked of an allocating closure -/
def AOK (P : Program) (sl : SL) (o : Oper) (f : List AVal → T AVal → Nat → Option (AObj × AVal)) : Prop :=
  ∀ (φ : Ren) (vs : List AVal) (ρ : T AVal) (a : Act) (w : World) (id : Nat) (ob : AObj) (v : AVal), ORel φ sl vs ρ a o → ¬ φ.dom id → f vs ρ id = some (ob, v) →
    ∃ x o' w' cap sz, (execOp a.eval o).run P w = .ok (.value x) w' ∧ w'.heap = w.heap.push o' ∧ VRel (φ.add id w.heap.size 0 cap sz) v x ∧ OObj P (φ.add id w.heap.size 0 cap sz) id ob o' ∧ Still w w'
section
variable {φ : Ren} {id b cap sz : Nat}
theorem add_blk : (φ.add id b 0 cap sz).blk id = b := by simp [Ren.add]
theorem add_off : (φ.add id b 0 cap sz).off id = 0 := by simp [Ren.add]
theorem add_cap : (φ.add id b 0 cap sz).cap id = cap := by simp [Ren.add]
theorem add_sz : (φ.add id b 0 cap sz).sz id = sz := by simp [Ren.add]
theorem add_dom : (φ.add id b 0 cap sz).dom id := .inl rfl
theorem add_base0 {k : Nat} : baseOf (φ.add id b 0 cap sz) id k = ⟨b, k, none⟩ := by simp [baseOf, Ren.add]
end
/-- a new row -/
theorem row_obj {φ : Ren} {id b cap : Nat} {et : TypeId} {l : List AVal} {cc : Array Value} (hd : ¬ φ.dom id) (hl : VRelL φ l cc.toList) (h1 : ∀ x ∈ cc.toList, x.oneCell' = true) (hc : cap = l.length) (hi : Option Nat) (hhi : ∀ u, hi = some u → cap ≤ u) :
    OObj P (φ.add id b 0 cap (P.cellsOf et)) id (.cells (T.ofList l) l.length hi et) (.cells cc et (0, 0)) := by
  have hs : cc.size = l.length := by rw [hl.length]; simp
  refine ⟨cc, (0, 0), rfl, .inl rfl, ?_, ?_, ?_, ?_, ?_, ?_⟩
  · rw [add_off, add_cap]; omega
  · rw [add_cap]; omega
  · intro u hu; rw [add_cap]; exact hhi u hu
  · rw [add_sz]
  · rw [add_off]; exact Nat.zero_mod _
  · intro k v hk
    have := T.get_ofList hk
    obtain ⟨x, hx, hr⟩ := hl.get k v this
    have hlt : k < l.length := (List.getElem?_eq_some_iff.1 this).1
    refine ⟨by rw [add_cap]; omega, x, by rw [add_off, Nat.zero_add]; simpa using hx, hr.mono (φ.le_add _ _ _ _ _ hd), h1 x (List.mem_of_getElem? hx)⟩
theorem rowObj_eq (et : TypeId) (l : List AVal) : rowObj et l = .cells (T.ofList l) l.length (some l.length) et := by simp [rowObj, seqN_eq]
theorem rowObjU_eq (et : TypeId) (l : List AVal) : rowObjU et l = .cells (T.ofList l) l.length none et := by simp [rowObjU, seqN_eq]
theorem aAlloc {e : TypeId} (ho : o.op = .alloc e) {i : TI} (k : TIok P e i) : AOK P sl o (fun _ _ id => some (rowObj e i.zc, .ptr id 0)) := by
  intro φ vs ρ a w id ob v hl hd hf
  cases hf
  refine ⟨.pointer (some ⟨w.heap.size, 0, none⟩), .cells k.zero.cells e (0, 0), { w with heap := w.heap.push (.cells k.zero.cells e (0, 0)) }, i.zc.length, P.cellsOf e, ?_, rfl, ?_, ?_, ⟨rfl, rfl, rfl⟩⟩
  · have hz := k.rZero (w := w)
    simp only [execOp, ho, Instr.alloc, Sem.run_bind, hz, Result.andThen_ok]
    rfl
  · rw [← add_base0 (φ := φ) (id := id)]; exact .ptr _ _ add_dom
  · rw [rowObj_eq]
    exact row_obj hd (k.hzc φ) k.hz1 rfl _ (fun u hu => by injection hu with hu; omega)
theorem aBox {e : TypeId} {x : Operand} (ho : o.op = .box e x) : AOK P sl o (fun vs ρ id => Ev.ob ((vk sl x).get vs ρ).cells fun l => some (rowObj e l, .ptr id 0)) := by
  intro φ vs ρ a w id ob v hl hd hf
  obtain ⟨l, h1, h2⟩ := ob_some hf
  cases h2
  obtain ⟨g1, g2⟩ := cells_rel (hl.at ho (x := x) (by simp [Op.operands])) h1
  refine ⟨.pointer (some ⟨w.heap.size, 0, none⟩), .cells (a.eval x).cells e (0, 0), { w with heap := w.heap.push (.cells (a.eval x).cells e (0, 0)) }, l.length, P.cellsOf e, ?_, rfl, ?_, ?_, ⟨rfl, rfl, rfl⟩⟩
  · simp only [execOp, ho, Instr.box, Sem.run_bind]
    rfl
  · rw [← add_base0 (φ := φ) (id := id)]; exact .ptr _ _ add_dom
  · rw [rowObj_eq]
    exact row_obj hd g1 g2 rfl _ (fun u hu => by injection hu with hu; omega)
theorem aMakeMap {t : TypeId} (ho : o.op = .makeMap t none) : AOK P sl o (fun _ _ id => some (.map [] 0, .map id)) := by
  intro φ vs ρ a w id ob v hl hd hf
  cases hf
  refine ⟨.map (some w.heap.size), .map #[] 0, { w with heap := w.heap.push (.map #[] 0) }, 0, 0, ?_, rfl, ?_, ⟨#[], rfl, .nil⟩, ⟨rfl, rfl, rfl⟩⟩
  · simp only [execOp, ho, Instr.makeMap, Sem.run_bind, Option.map_none]
    rfl
  · have : VRel (φ.add id w.heap.size 0 0 0) (.map id) (.map (some ((φ.add id w.heap.size 0 0 0).blk id))) := .map _ add_dom
    rw [add_blk] at this; exact this
theorem aMakeMapR {t : TypeId} {x : Operand} (ho : o.op = .makeMap t (some x)) {i : TI} (k : TIok P t i) {ka e : TypeId} (hd : i.desc = .map ka e) : AOK P sl o (fun vs ρ id => mkMapV id ((vk sl x).get vs ρ)) := by
  intro φ vs ρ a w id ob v hl hdm hf
  have hx := hl.at ho (x := x) (by simp [Op.operands])
  have hf : mkMapV _ _ = _ := hf
  generalize (vk sl x).get vs ρ = u at hx hf
  generalize he : a.eval x = y at hx
  have hdd := k.hdesc
  rw [hd] at hdd
  have hdd : k.desc = .map ka e := hdd
  cases hx <;> try (cases hf; done)
  cases hf
  refine ⟨.map (some w.heap.size), .map #[] 0, { w with heap := w.heap.push (.map #[] 0) }, 0, 0, ?_, rfl, ?_, ⟨#[], rfl, .nil⟩, ⟨rfl, rfl, rfl⟩⟩
  · simp only [execOp, ho, Instr.makeMap, Sem.run_bind, Option.map_some, he, k.rUnd, hdd, Result.andThen_ok]
    rfl
  · have : VRel (φ.add id w.heap.size 0 0 0) (.map id) (.map (some ((φ.add id w.heap.size 0 0 0).blk id))) := .map _ add_dom
    rw [add_blk] at this; exact this
end
end Go.Proofs.YtpjkcfglojigmaaGreatDoor.Ev
namespace Go.Proofs.YtpjkcfglojigmaaGreatDoor.Ev
set_option linter.unusedVariables false
set_option linter.unusedSimpArgs false
open Go
section
variable {P : Program} {tt : TT} {sl : SL} {o : Oper}

theorem repl_rel {φ : Ren} {l : List AVal} {l' : List Value} (h : VRelL φ l l') : ∀ (n : Nat) {acc : List AVal} {acc' : List Value}, VRelL φ acc acc' → VRelL φ (repl l n acc) (repl l' n acc')
  | 0, _, _, ha => ha
  | n + 1, _, _, ha => repl_rel h n (h.append ha)
theorem repl_length {α : Type} (l : List α) : ∀ (n : Nat) (acc : List α), (repl l n acc).length = n * l.length + acc.length
  | 0, acc => by simp [repl]
  | n + 1, acc => by
    simp only [repl]
    rw [repl_length l n, List.length_append, Nat.add_mul]; omega
theorem repl_mem {α : Type} {l : List α} {p : α → Prop} (h : ∀ x ∈ l, p x) : ∀ (n : Nat) {acc : List α}, (∀ x ∈ acc, p x) → ∀ x ∈ repl l n acc, p x
  | 0, _, ha, x, hx => ha x hx
  | n + 1, acc, ha, x, hx => repl_mem h n (acc := l ++ acc) (fun y hy => by
      rcases List.mem_append.1 hy with hy | hy
      · exact h y hy
      · exact ha y hy) x hx
theorem repl_flat {α : Type} (l : List α) : ∀ (n : Nat) (acc : List α), repl l n acc = (List.replicate n l).flatten ++ acc
  | 0, acc => by simp [repl]
  | n + 1, acc => by
    rw [repl, repl_flat l n, List.replicate_succ', List.flatten_append]; simp
theorem range_mod (z : Array Value) (hz : 0 < z.size) : ∀ n : Nat, (List.range (n * z.size)).map (fun i => z[i % z.size]!) = (List.replicate n z.toList).flatten
  | 0 => by simp
  | n + 1 => by
    rw [Nat.add_mul, Nat.one_mul, List.range_add, List.map_append, range_mod z hz n, List.replicate_succ', List.flatten_append, List.map_map]
    congr 1
    simp only [List.flatten_cons, List.flatten_nil, List.append_nil]
    apply List.ext_getElem
    · simp
    · intro i h1 h2
      have hi : i < z.size := by simpa using h1
      simp [Nat.mul_add_mod_self_right, Nat.mod_eq_of_lt hi, hi]
theorem repl_range (z : Array Value) (hz : 0 < z.size) (n : Nat) : ((Array.range (n * z.size)).map (z[· % z.size]!)).toList = repl z.toList n [] := by
  rw [repl_flat, List.append_nil, ← range_mod z hz n, Array.toList_map, Array.toList_range]
theorem zero_size {t : TypeId} {i : TI} (k : TIok P t i) : k.zero.cells.size = i.size := by
  have := (k.hzc Ren.none).length
  rw [k.hzn] at this
  rw [this]; simp
/-- a slice over a whole new row -/
theorem new_slice {φ : Ren} {id b cap sz len : Nat} {lim : Option Nat} (hl : len * sz ≤ cap) (hlim : lim = none) (c : Nat) (hc : c * sz = cap) (hlc : len ≤ c) :
    VRel (φ.add id b 0 cap sz) (.slice id 0 len lim) (.slice (some ⟨b, 0, none⟩) len c) := by
  refine .slice _ _ _ _ _ _ add_dom hlc (fun _ => by rw [add_base0]) (by rw [add_sz, add_cap]; omega) (fun _ => by rw [add_sz, add_cap]; omega) (fun k hk => by rw [hlim] at hk; cases hk)
theorem aBuildSlice {t : TypeId} {len : Nat} {ps : Array (Nat × Operand)} (ho : o.op = .buildSlice t len ps) {i : TI} (k : TIok P t i) {e : TypeId} (hd : i.desc = .slice e) {ei : TI} (ke : TIok P e ei) (hs : ei.size ≠ 0) (hb : Nat.mul len ei.size ≤ 100000) :
    AOK P sl o (fun vs ρ id => Ev.ob ((partsK sl (elemPl ei.size) ps.toList).fill vs ρ (repl ei.zc len [])) fun cs => some (rowObj e cs, .slice id 0 len none)) := by
  intro φ vs ρ a w id ob v hl hdm hf
  obtain ⟨cs, h1, h2⟩ := ob_some hf
  cases h2
  have hdd := k.hdesc
  rw [hd] at hdd
  have hdd : k.desc = .slice e := hdd
  have hzs := zero_size ke
  have hb : len * ei.size ≤ 100000 := hb
  have hrep : ((Array.range (len * ei.size)).map (ke.zero.cells[· % ke.zero.cells.size]!)).toList = repl ke.zero.cells.toList len [] := by
    rw [← hzs]; exact repl_range _ (by omega) len
  obtain ⟨r', e1, e2, e3, e4⟩ := fill_ok (sl := sl) (φ := φ) (a := a) (place' := fun i => some (i * ei.size, ei.size)) (fun i q h => h) ps.toList (repl ei.zc len []) ((Array.range (len * ei.size)).map (ke.zero.cells[· % ke.zero.cells.size]!)) cs
    (fun p hp => hl.at ho (by simp [Op.operands]; exact ⟨p.1, by simpa using hp⟩)) (by rw [hrep]; exact repl_rel (ke.hzc φ) len .nil) (by rw [hrep]; exact repl_mem ke.hz1 len (by simp)) h1
  have hlen : cs.length = len * ei.size := by rw [e4, repl_length, ke.hzn]; simp
  refine ⟨.slice (some ⟨w.heap.size, 0, none⟩) len len, .cells r' e (0, 0), w.alloc (.cells r' e), len * ei.size, P.cellsOf e, ?_, rfl, ?_, ?_, ⟨rfl, rfl, rfl⟩⟩
  · rw [← parts_eq] at e1
    by_cases h0 : len * ei.size = 0
    · have hl0 : len = 0 := by
        rcases Nat.mul_eq_zero.1 h0 with h | h
        · exact h
        · exact absurd h hs
      have hz := ke.rSize (w := w)
      simp only [execOp, ho, Instr.buildSlice, Sem.run_bind, k.rUnd, hdd, Result.andThen_ok, hz, h0]
      rw [h0] at e1
      have e1' : Instr.fill (fun i => some (i * ei.size, ei.size)) ((Array.range 0).map ((#[] : Array Value)[· % (#[] : Array Value).size]!)) (ps.map fun (i, x) => (i, a.eval x)).toList = some r' := by
        have : (Array.range 0).map ((#[] : Array Value)[· % (#[] : Array Value).size]!) = (Array.range 0).map (ke.zero.cells[· % ke.zero.cells.size]!) := by simp
        rw [this]; exact e1
      simp only [show ¬ ((0 : Nat) > 2 ^ 24) from by decide, if_false, if_true, Sem.run_bind, Sem.run_pure, Result.andThen_ok, e1', newRow]
      rfl
    · have := run_buildSlice (P := P) w t e len _ r' ke.inf ke.zero (by rw [k.hund, hdd]) ke.hinfo ke.hzero (by rw [ke.hsize]; omega) (by rw [ke.hsize]; exact h0) (by rw [ke.hsize]; exact e1)
      simp only [execOp, ho, Sem.run_bind, this]; rfl
  · rw [ke.cells]; exact new_slice (Nat.le_refl _) rfl len rfl (Nat.le_refl _)
  · rw [rowObj_eq]
    exact row_obj hdm e2 e3 hlen.symm _ (fun u hu => by injection hu with hu; omega)
theorem aMakeSlice {t : TypeId} {l c : Operand} (ho : o.op = .makeSlice t l c) {i : TI} (k : TIok P t i) {e : TypeId} (hd : i.desc = .slice e) {ei : TI} (ke : TIok P e ei) (hs : ei.size ≠ 0) :
    AOK P sl o (fun vs ρ id => natV (fun c => natV (fun l => mkRowV e ei.zc id l c) ((vk sl l).get vs ρ)) ((vk sl c).get vs ρ)) := by
  intro φ vs ρ a w id ob v hl hdm hf
  obtain ⟨kc, nc, h1, h2⟩ := natV_some hf
  obtain ⟨kl, nl, h3, h4⟩ := natV_some h2
  have hc := hl.at ho (x := c) (by simp [Op.operands])
  have hll := hl.at ho (x := l) (by simp [Op.operands])
  rw [h1] at hc
  rw [h3] at hll
  generalize hce : a.eval c = cv at hc
  generalize hle : a.eval l = lv at hll
  cases hc; cases hll
  obtain ⟨h5, h6⟩ := when_some h4
  obtain ⟨h7, h8⟩ := when_some h6
  cases h8
  rw [ble_dec] at h5 h7
  have h5 := of_decide_eq_true h5
  have h7 := of_decide_eq_true h7
  have hdd := k.hdesc
  rw [hd] at hdd
  have hdd : k.desc = .slice e := hdd
  have hzs := zero_size ke
  have hrep : ((Array.range (nc * ei.size)).map (ke.zero.cells[· % ke.zero.cells.size]!)).toList = repl ke.zero.cells.toList nc [] := by
    rw [← hzs]; exact repl_range _ (by omega) nc
  generalize hrow : ((Array.range (nc * ei.size)).map (ke.zero.cells[· % ke.zero.cells.size]!)) = row at hrep
  have hlen : (repl ei.zc nc []).length = nc * ei.size := by rw [repl_length, ke.hzn]; simp
  refine ⟨.slice (some ⟨w.heap.size, 0, none⟩) nl nc, .cells row e (0, 0), w.alloc (.cells row e), nc * ei.size, P.cellsOf e, ?_, rfl, ?_, ?_, ⟨rfl, rfl, rfl⟩⟩
  · have hby : ke.inf.bytes * nc ≤ 100000000000 := by
      calc ke.inf.bytes * nc ≤ 1000000 * 100000 := Nat.mul_le_mul ke.hbytes h7
        _ = _ := rfl
    have hby' : (ke.inf.bytes : Int) * (nc : Int) ≤ 281474976710656 := by
      have : ((ke.inf.bytes * nc : Nat) : Int) ≤ 281474976710656 := by omega
      rwa [Int.natCast_mul] at this
    have := run_make (P := P) w t e ke.inf ke.zero (by rw [k.hund, hdd]) ke.hinfo ke.hzero kl kc (nl : Int) (nc : Int) (by omega) (by omega) hby' (by omega)
    simp only [Int.toNat_natCast, ke.hsize] at this
    simp only [execOp, ho, Sem.run_bind, hce, hle, Int.ofNat_eq_natCast, this, Result.andThen_ok, Sem.run_pure, madeCells, hrow]
  · rw [ke.cells]; exact new_slice (Nat.mul_le_mul_right _ h5) rfl nc rfl h5
  · rw [rowObj_eq]
    rw [← hrow] at hrep ⊢
    exact row_obj hdm (by rw [hrep]; exact repl_rel (ke.hzc φ) nc .nil) (by rw [hrep]; exact repl_mem ke.hz1 nc (by simp)) hlen.symm _ (fun u hu => by injection hu with hu; omega)
end
end Go.Proofs.YtpjkcfglojigmaaGreatDoor.Ev
namespace Go.Proofs.YtpjkcfglojigmaaGreatDoor.Ev
set_option linter.unusedVariables false
set_option linter.unusedSimpArgs false
open Go
section
variable {P : Program} {tt : TT} {sl : SL} {o : Oper}

/-- what is asked of an effect that makes no call -/
def EOK (P : Program) (sl : SL) (o : Oper) (f : List AVal → T AVal → Heap → M AVal) : Prop :=
  ∀ (φ : Ren) (h : Heap) (vs : List AVal) (ρ : T AVal) (a : Act) (w : World) (outs : List (AVal × Heap)), ORel φ sl vs ρ a o → HRel P φ h w.heap → f vs ρ h = some outs →
    ∃ nx w' x ψ vh, (execOp a.eval o).run P w = .ok nx w' ∧ (nx = .value x ∨ (nx = .skip ∧ x = undef)) ∧ vh ∈ outs ∧ HRel P ψ vh.2 w'.heap ∧ Tr φ h w.heap ψ vh.2 w'.heap ∧ VRel ψ vh.1 x ∧ Still w w'
theorem setR_in {α : Type} {x : α} : ∀ (cs : List α) (o : Nat) (l : List α) (j : Nat), o ≤ j → j < cs.length → l[j - o]? = some x → (setR cs o l)[j]? = some x
  | [], _, _, j, _, h, _ => by simp at h
  | c :: cs, k + 1, l, j, h1, h2, h3 => by
    cases j with
    | zero => omega
    | succ j =>
      simp only [setR, List.getElem?_cons_succ]
      exact setR_in cs k l j (by omega) (by simpa using h2) (by rw [show j - k = j + 1 - (k + 1) from by omega]; exact h3)
  | c :: cs, 0, [], j, _, _, h3 => by simp at h3
  | c :: cs, 0, v :: l, 0, _, _, h3 => by simpa [setR] using h3
  | c :: cs, 0, v :: l, j + 1, _, h2, h3 => by
    simp only [setR, List.getElem?_cons_succ]
    exact setR_in cs 0 l j (by omega) (by simpa using h2) (by simpa using h3)
theorem setR_out {α : Type} : ∀ (cs : List α) (o : Nat) (l : List α) (j : Nat), (j < o ∨ o + l.length ≤ j) → (setR cs o l)[j]? = cs[j]?
  | [], _, _, j, _ => rfl
  | c :: cs, k + 1, l, j, h => by
    cases j with
    | zero => rfl
    | succ j => simp only [setR, List.getElem?_cons_succ]; exact setR_out cs k l j (by omega)
  | c :: cs, 0, [], j, _ => rfl
  | c :: cs, 0, v :: l, 0, h => by simp at h
  | c :: cs, 0, v :: l, j + 1, h => by
    simp only [setR, List.getElem?_cons_succ]
    exact setR_out cs 0 l j (by simp at h; omega)
theorem setCell_heap {w : World} {b o : Nat} {v : Value} {cc : Array Value} {et : TypeId} {fz : Nat × Nat} (hb : w.heap[b]? = some (.cells cc et fz)) :
    Upd w.heap (w.setCell ⟨b, o, none⟩ v).heap b (.cells (cc.setIfInBounds o v) et fz) := by
  have hlt := (Array.getElem?_eq_some_iff.1 hb).1
  refine ⟨by simp [World.setCell], ?_, fun k hk => ?_⟩
  · simp only [World.setCell, Array.getElem?_modify]; simp [hb]
  · simp only [World.setCell, Array.getElem?_modify]; rw [if_neg (fun e => hk e.symm)]
theorem setCells_heap {b : Nat} : ∀ (vs : List Value) (o : Nat) (w : World) (cc : Array Value) {et : TypeId} {fz : Nat × Nat}, w.heap[b]? = some (.cells cc et fz) →
    ∃ cc' : Array Value, Upd w.heap (w.setCells b o vs).heap b (.cells cc' et fz) ∧ cc'.toList = setR cc.toList o vs
  | [], o, w, cc, et, fz, hb => ⟨cc, ⟨rfl, hb, fun _ _ => rfl⟩, (setR_nil _ _).symm⟩
  | v :: vs, o, w, cc, et, fz, hb => by
    have U := setCell_heap (o := o) (v := v) hb
    obtain ⟨cc', U', e⟩ := setCells_heap vs (o + 1) (w.setCell ⟨b, o, none⟩ v) _ U.at_
    refine ⟨cc', ⟨U'.size.trans U.size, U'.at_, fun k hk => (U'.other k hk).trans (U.other k hk)⟩, ?_⟩
    rw [e, Array.toList_setIfInBounds, setR_cons]
theorem not_frozen {w : World} {et : TypeId} {cc : Array Value} {fz : Nat × Nat} {b k : Nat} (hb : w.heap[b]? = some (.cells cc et fz)) (hf : FzOk P et cc.size fz) (hk : k < cc.size) : w.frozen? ⟨b, k, none⟩ = false := by
  simp only [World.frozen?, hb]
  rcases hf with rfl | ⟨_, h⟩
  · simp
  · obtain ⟨lo, hi⟩ := fz
    simp at h ⊢; omega
theorem setCells_still {b : Nat} : ∀ (vs : List Value) (o : Nat) (w : World), Still w (w.setCells b o vs)
  | [], _, w => .refl w
  | v :: vs, o, w => (⟨rfl, rfl, rfl⟩ : Still w (w.setCell ⟨b, o, none⟩ v)).trans (setCells_still vs (o + 1) _)
/-- cells are written -/
theorem store_ok {φ : Ren} {h : Heap} {w : World} (H : HRel P φ h w.heap) {id off : Nat} (hd : φ.dom id) {l : List AVal} {l' : List Value} (hl : VRelL φ l l') (h1 : ∀ x ∈ l', x.oneCell' = true) {h' : Heap} (hs : storeAt id off l h = some h') :
    ∃ w', (storeCells (baseOf φ id off) l').run P w = .ok () w' ∧ HRel P φ h' w'.heap ∧ Tr φ h w.heap φ h' w'.heap ∧ Still w w' := by
  unfold storeAt storeObj at hs
  split at hs
  · rename_i c lo hi et hg
    obtain ⟨h2, h3⟩ := when_some hs
    rw [ble_dec] at h2
    have h2 : off + l.length ≤ lo := of_decide_eq_true h2
    injection h3 with h3; subst h3
    obtain ⟨o', g1, cc, fz, g2, R⟩ := H.obj id _ hd hg
    subst g2
    have hlen := hl.length
    have hfit := R.fit
    have hlo := R.lo
    have hin : ∀ j, j < l'.length → φ.off id + off + j < cc.size := fun j hj => by omega
    have hrun := run_storeCells_cells (P := P) (φ.blk id) (φ.off id + off) l' 0 w (fun j hj => by
        have := hin j hj
        simp [World.cell?, g1, this]) (fun j hj => not_frozen g1 R.fz (by have := hin j hj; simpa using this)) h1
    obtain ⟨cc', U, e⟩ := setCells_heap l' (φ.off id + off) w cc g1
    refine ⟨w.setCells (φ.blk id) (φ.off id + off) l', by simpa [baseOf] using hrun, ?_⟩
    have hsz : cc'.size = cc.size := by rw [← Array.length_toList, e, setR_length]; simp
    have HU := H.upd (ob' := .cells (T.putList off l c) lo hi et) hd hg U ?_
    · exact ⟨HU.1, HU.2, setCells_still _ _ _⟩
    refine ⟨cc', fz, rfl, by rw [hsz]; exact R.fz, by rw [hsz]; exact R.fit, R.lo, R.hi, R.sz, R.al, fun k v hk => ?_⟩
    rcases T.get_putList l off k c v hk with ⟨q1, q2⟩ | ⟨q1, q2⟩
    · obtain ⟨x, hx, hr⟩ := hl.get _ _ q2
      have hlt : k - off < l.length := (List.getElem?_eq_some_iff.1 q2).1
      refine ⟨by omega, x, ?_, hr, h1 x (List.mem_of_getElem? hx)⟩
      rw [← Array.getElem?_toList, e]
      exact setR_in _ _ _ _ (by omega) (by simp; omega) (by rw [show φ.off id + k - (φ.off id + off) = k - off from by omega]; exact hx)
    · obtain ⟨p1, x, p2, p3, p4⟩ := R.cell k v q2
      refine ⟨p1, x, ?_, p3, p4⟩
      rw [← Array.getElem?_toList, e, setR_out _ _ _ _ (by omega)]
      simpa using p2
  · cases hs
theorem okH_some {v : AVal} {oh : Option Heap} {outs : List (AVal × Heap)} (h : okH v oh = some outs) : ∃ h', oh = some h' ∧ outs = [(v, h')] := by
  unfold okH at h
  split at h
  · cases h; exact ⟨_, rfl, rfl⟩
  · cases h
theorem eStore {t : TypeId} {p x : Operand} (ho : o.op = .store t p x) {i : TI} (k : TIok P t i) : EOK P sl o (fun vs ρ h => storeV i.size ((vk sl x).get vs ρ) h ((vk sl p).get vs ρ)) := by
  intro φ h vs ρ a w outs hl H hf
  have hp := hl.at ho (x := p) (by simp [Op.operands])
  have hx := hl.at ho (x := x) (by simp [Op.operands])
  have hf : storeV _ _ _ _ = _ := hf
  generalize (vk sl p).get vs ρ = pv at hp hf
  generalize he : a.eval p = pe at hp
  cases hp <;> try (cases hf; done)
  rename_i id off hd
  obtain ⟨l, h1, h2⟩ := ob_some (show Ev.ob ((vk sl x).get vs ρ).cells (fun l => when (Nat.beq l.length i.size) (okH undefA (storeAt id off l h))) = some outs from hf)
  obtain ⟨h3, h4⟩ := when_some h2
  obtain ⟨h', h5, h6⟩ := okH_some h4
  rw [beq_dec] at h3
  have h3 := of_decide_eq_true h3
  obtain ⟨g1, g2⟩ := cells_rel hx h1
  obtain ⟨w', h7, h8, h9, h10⟩ := store_ok H hd g1 g2 h5
  refine ⟨.skip, w', undef, φ, (undefA, h'), ?_, .inr ⟨rfl, rfl⟩, by rw [h6]; simp, h8, h9, .junk _, h10⟩
  have hsz : (a.eval x).cells.size = i.size := by rw [← h3, g1.length]; simp
  have hz := k.rSize (w := w)
  simp only [execOp, ho, Instr.storeAt, he, Instr.sureAddr, Sem.run_bind, Sem.run_pure, Result.andThen_ok, storeVar, hz, hsz, ne_eq, not_true_eq_false, if_false, h7]
end
end Go.Proofs.YtpjkcfglojigmaaGreatDoor.Ev
namespace Go.Proofs.YtpjkcfglojigmaaGreatDoor.Ev
set_option linter.unusedVariables false
set_option linter.unusedSimpArgs false
open Go
section
variable {P : Program} {tt : TT} {sl : SL} {o : Oper}

/-- what is appended or copied -/
theorem bytesV_rel {φ : Ren} : ∀ l : List UInt8, VRelL φ (bytesV (l.map UInt8.toNat)) (l.map fun b => Value.int .u8 (b.toNat : Int))
  | [] => .nil
  | b :: l => .cons _ _ _ _ (.int _ _) (bytesV_rel l)
theorem first_ok {φ : Ren} {h : Heap} {w : World} (H : HRelR P φ h w.heap) {sz k m : Nat} {v : AVal} {x : Value} (hx : VRel φ v x) (hm : lenA v = some m) (hk : k ≤ m) {cs : List AVal} (hf : firstA sz k h v = some cs) :
    (Builtin.lenOf x).run P w = .ok m w ∧ ∃ cs' : Array Value, ((Builtin.firstCells sz k x).run P w = .ok cs' w ∧ (Builtin.firstCells sz k x).run P w.drew = .ok cs' w.drew) ∧ VRelL φ cs cs'.toList ∧ (∀ y ∈ cs'.toList, y.oneCell' = true) ∧ cs'.size = k * sz := by
  cases hx <;> try (cases hm; done)
  case nilSlice =>
    cases hm
    cases hf
    have : k = 0 := by omega
    subst this
    exact ⟨rfl, #[], ⟨rfl, rfl⟩, .nil, by simp, by simp⟩
  case slice id off len lim ad cap hd hlc ha hc h0 hk' =>
    injection hm with hm; subst hm
    obtain ⟨c, h1, h2⟩ := ob_some (show Ev.ob (h.row id) (fun c => loadN c (Nat.mul k sz) off) = some cs from hf)
    obtain ⟨lo, hi, et, cc, fz, _, hb, R⟩ := row_ok H hd h1
    obtain ⟨l', g1, _, g2, g3, g4⟩ := loadN_ok hb R _ off cs h2
    refine ⟨rfl, l'.toArray, ?_, by simpa using g2, by simpa using g3, by simpa using g1⟩
    by_cases hz : cap = 0
    · have h0 : k = 0 := by omega
      subst h0
      have g1 : l'.length = 0 * sz := g1
      have : l' = [] := List.length_eq_zero_iff.1 (by rw [g1]; simp)
      subst this
      exact ⟨by simp [Builtin.firstCells, loadCells, loadCellsFrom], by simp [Builtin.firstCells, loadCells, loadCellsFrom]⟩
    · rw [ha hz]
      exact ⟨rLoadCells g1 g4, rLoadCells (w := w.drew) g1 g4⟩
  case str s =>
    obtain ⟨hsz, hf⟩ := when_some (show when (Nat.beq sz 1) (Ev.ob (takeN k (sBytes (enc s.data.toList))) fun l => some (bytesV l)) = some cs from hf)
    rw [beq_dec] at hsz
    have hsz := of_decide_eq_true hsz
    subst hsz
    obtain ⟨l, h1, h2⟩ := ob_some hf
    cases h2
    rw [sBytes_enc] at h1
    obtain ⟨e1, e2⟩ := takeN_eq _ _ _ h1
    have hm : sLen (enc s.data.toList) = m := by injection hm
    rw [enc_len] at hm
    refine ⟨by rw [← hm, ← ba_size]; rfl, ((s.extract 0 k).data.map fun b => .int .u8 b.toNat), ⟨rfl, rfl⟩, ?_, ?_, ?_⟩
    · subst e1
      rw [Array.toList_map, ba_extract, ← List.map_take]
      exact bytesV_rel _
    · intro y hy
      rw [Array.toList_map] at hy
      obtain ⟨b, _, rfl⟩ := List.mem_map.1 hy
      rfl
    · have : ((s.extract 0 k).data.map fun b => (Value.int .u8 b.toNat)).size = (s.extract 0 k).data.toList.length := by simp
      rw [this, ba_extract]
      simp at hm ⊢; omega
theorem eCopy {c : Call} {d x : Operand} (ho : o.op = .call c) (hc : c.callee = .builtin .copy) (ha : c.args.toList = [d, x]) {t : TypeId} {ts : List TypeId} (ht : c.argTypes.toList = t :: ts) {i : TI} (k : TIok P t i) {e : TypeId} (hd : i.desc = .slice e) {ei : TI} (ke : TIok P e ei) :
    EOK P sl o (fun vs ρ h => Ev.ob (lenA ((vk sl x).get vs ρ)) fun m => copyV ei.size m ((vk sl x).get vs ρ) h ((vk sl d).get vs ρ)) := by
  intro φ h vs ρ a w outs hl H hf
  have hx := hl.at ho (x := x) (arg_mem hc (by rw [ha]; simp))
  have hdv := hl.at ho (x := d) (arg_mem hc (by rw [ha]; simp))
  obtain ⟨m, h1, h2⟩ := ob_some hf
  have hdd := k.hdesc
  rw [hd] at hdd
  have hdd : k.desc = .slice e := hdd
  have ex : ∀ {w' : World} {z : Value}, (Builtin.copy_ c.argTypes o.type #[a.eval d, a.eval x]).run P w = .ok z w' → (execOp a.eval o).run P w = .ok (.value z) w' := by
    intro w' z hz
    rw [exec_builtin ho hc, args_of ha]
    have : ∀ (k : Value → Sem Next), ((Builtin.copy_ c.argTypes o.type #[a.eval d, a.eval x]) >>= k).run P w = (k z).run P w' := by intro k; rw [Sem.run_bind, hz]; rfl
    exact this _
  have e0 : ((#[a.eval d, a.eval x] : Array Value)[0]?) = some (a.eval d) := rfl
  have e1 : ((#[a.eval d, a.eval x] : Array Value)[1]?) = some (a.eval x) := rfl
  have hsz := ke.rSize (w := w)
  generalize (vk sl d).get vs ρ = dv at hdv h2
  generalize hde : a.eval d = de at hdv
  generalize (vk sl x).get vs ρ = xv at hx h1 h2
  cases hdv <;> try (cases h2; done)
  case nilSlice =>
    cases h2
    have hlen : (Builtin.lenOf (a.eval x)).run P w = .ok m w ∧ (Builtin.firstCells ei.size 0 (a.eval x)).run P w = .ok #[] w := by
      generalize a.eval x = xe at hx
      cases hx <;> try (cases h1; done)
      case nilSlice => cases h1; exact ⟨rfl, rfl⟩
      case slice => injection h1 with h1; subst h1; exact ⟨rfl, by simp [Builtin.firstCells, loadCells, loadCellsFrom]⟩
      case str s =>
        have hm : sLen (enc s.data.toList) = m := by injection h1
        rw [enc_len, ← ba_size] at hm
        refine ⟨by rw [← hm]; rfl, ?_⟩
        have : (s.extract 0 0).data.map (fun b => Value.int .u8 b.toNat) = #[] := by
          apply Array.toList_inj.1
          rw [Array.toList_map, ba_extract]; simp
        simp only [Builtin.firstCells, this]; rfl
    refine ⟨_, w, _, φ, _, ex (z := goInt 0) ?_, .inl rfl, List.mem_singleton.2 rfl, H, .refl _ _ _, .int _ _, .refl _⟩
    rw [hde]
    have e0 : ((#[Value.slice none 0 0, a.eval x] : Array Value)[0]?) = some (.slice none 0 0) := rfl
    have e1 : ((#[Value.slice none 0 0, a.eval x] : Array Value)[1]?) = some (a.eval x) := rfl
    simp only [Builtin.copy_, argTy ht, e0, e1, Sem.run_bind, k.rUnd, hdd, Result.andThen_ok, hlen.1, hsz, Nat.min_zero, hlen.2]
    rfl
  case slice id off len lim ad cap hdom hlc had hcc h0 hk =>
    have h2 : seqN (minN m len) (fun k => Ev.ob (firstA ei.size k h xv) fun cs => okH (.int .i64 (.ofNat k)) (storeAt id off cs h)) = some outs := h2
    rw [seqN_eq, minN_eq] at h2
    obtain ⟨cs, h3, h4⟩ := ob_some h2
    obtain ⟨h', h5, h6⟩ := okH_some h4
    obtain ⟨g1, cs', g2, g3, g4, g5⟩ := first_ok H.toHRelR hx h1 (Nat.min_le_left m len) h3
    obtain ⟨w', g6, g7, g8, g9⟩ := store_ok H hdom g3 g4 h5
    refine ⟨_, w', _, φ, _, ex (z := goInt (Nat.min m len)) ?_, .inl rfl, by rw [h6]; exact List.mem_singleton.2 rfl, g7, g8, .int _ _, g9⟩
    rw [hde]
    have e0 : ((#[Value.slice (some ad) len cap, a.eval x] : Array Value)[0]?) = some (.slice (some ad) len cap) := rfl
    have e1 : ((#[Value.slice (some ad) len cap, a.eval x] : Array Value)[1]?) = some (a.eval x) := rfl
    have hst : (storeCells ad cs'.toList).run P w = .ok () w' := by
      by_cases hz : cap = 0
      · have hmin : min m len = 0 := by have : len = 0 := by omega
                                        rw [this]; simp
        rw [hmin, Nat.zero_mul] at g5
        have : cs' = #[] := Array.size_eq_zero_iff.1 g5
        subst this
        exact g6
      · rw [had hz]; exact g6
    have g2 : (Builtin.firstCells ei.size (Nat.min m len) (a.eval x)).run P w = .ok cs' w := g2.1
    simp only [Builtin.copy_, argTy ht, e0, e1, Sem.run_bind, k.rUnd, hdd, Result.andThen_ok, g1, hsz, g2, hst, Sem.run_pure]
end
end Go.Proofs.YtpjkcfglojigmaaGreatDoor.Ev
