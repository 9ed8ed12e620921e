/- An evaluator over abstract values and the proof that what it reckons is what the model's calls do: part 3 of 10. -/
import Derived.Test.YtcbacbfjjahcbaaGreatDoorEvB
import Derived.Laws.Strings
import Derived.Laws.Cells
import Derived.Laws.StructEq
namespace Go.Proofs.YtcbacbfjjahcbaaGreatDoor.Ev
set_option linter.unusedVariables false
set_option linter.unusedSimpArgs false
open Go
section
variable {P : Program} {sl : SL} {o : Oper}
theorem natV_some {α : Type} {f : Nat → Option α} {v : AVal} {r : α} (h : natV f v = some r) : ∃ k n, v = .int k (.ofNat n) ∧ f n = some r := by
  unfold natV at h
  split at h
  · exact ⟨_, _, rfl, h⟩
  · cases h
theorem nth_eq {α : Type} : ∀ (l : List α) (n : Nat), nth l n = l[n]?
  | [], n => by simp [nth]
  | a :: l, 0 => by simp [nth]
  | a :: l, n + 1 => by simp [nth, nth_eq l n]
theorem add_base (φ : Ren) (id off n : Nat) : (baseOf φ id off).add n = baseOf φ id (off + n) := by
  unfold baseOf Addr.add
  split
  · rename_i h; subst h; rfl
  · simp [Nat.add_assoc]
theorem pExt {x : Operand} {i : Nat} (ho : o.op = .extract x i) : POK P sl o (fun vs ρ => extV i ((vk sl x).get vs ρ)) := by
  intro φ vs ρ a w v hl hf
  have hf : extV _ _ = _ := hf
  have hc := hl.at ho (x := x) (by simp [Op.operands])
  generalize (vk sl x).get vs ρ = cv at hc hf
  generalize hce : a.eval x = ce at hc
  cases hc <;> try (cases hf; done)
  rename_i l l' h
  have hf : nth l i = some v := hf
  rw [nth_eq] at hf
  obtain ⟨y, hy, hr⟩ := h.get i v hf
  have hy : l'[i]? = some y := by simpa using hy
  exact ⟨y, by simp [execOp, ho, hce, Instr.extract, hy], hr⟩
theorem pAssert {x : Operand} {xt t' : TypeId} {ok : Bool} (ho : o.op = .typeAssert x xt t' ok) {i : TI} (k : TIok P t' i) (hni : (match i.desc with | .iface _ => false | .other => false | _ => true) = true) :
    POK P sl o (fun vs ρ => assertV t' i.zero ok ((vk sl x).get vs ρ)) := by
  intro φ vs ρ a w v hl hf
  have hf : assertV _ _ _ _ = _ := hf
  have hc := hl.at ho (x := x) (by simp [Op.operands])
  generalize (vk sl x).get vs ρ = cv at hc hf
  generalize hce : a.eval x = ce at hc
  have hd : ∀ ms, k.desc ≠ .interface ms := by
    intro ms e
    have hd := k.hdesc
    revert hd hni
    rw [e]
    cases i.desc <;> simp [TDRel]
  have key : ∀ (y : Value), (Instr.typeAssert y xt t' ok).run P w = (match k.desc, y with
      | .interface _, .nilIface => (Instr.typeAssert y xt t' ok).run P w
      | .interface _, .iface _ _ => (Instr.typeAssert y xt t' ok).run P w
      | _, .nilIface => (Instr.typeAssert y xt t' ok).run P w
      | _, .iface t u => (Instr.typeAssert y xt t' ok).run P w
      | _, _ => (Instr.typeAssert y xt t' ok).run P w) := by intro y; split <;> rfl
  clear key
  have no : assertNo i.zero ok = some v → ∀ (u : Sem Value), u.run P w = .ok (if ok then .tuple #[k.zero, .bool false] else .nilIface) w → ok = true → ∃ x, u.run P w = .ok x w ∧ VRel φ v x := by
    intro h u hu hok
    subst hok
    cases h
    exact ⟨_, hu, .tuple _ _ (.cons _ _ _ _ (k.hz φ) (.cons _ _ _ _ (.bool _) .nil))⟩
  cases hc <;> try (cases hf; done)
  case nilIface =>
    cases ok with
    | false => cases hf
    | true =>
      cases hf
      refine ⟨.tuple #[k.zero, .bool false], ?_, .tuple _ _ (.cons _ _ _ _ (k.hz φ) (.cons _ _ _ _ (.bool _) .nil))⟩
      simp only [execOp, ho, hce, Instr.typeAssert, Sem.run_bind, k.rUnd, Result.andThen_ok]
      revert hd
      cases k.desc <;> intro hd <;> first | exact absurd rfl (hd _) | simp [k.rZero]
  case iface t u u' h =>
    simp only [assertV] at hf
    rw [beq_dec] at hf
    by_cases ht : t = t'
    · subst ht
      simp only [decide_true] at hf
      cases ok with
      | true =>
        cases hf
        refine ⟨.tuple #[u', .bool true], ?_, .tuple _ _ (.cons _ _ _ _ h (.cons _ _ _ _ (.bool _) .nil))⟩
        simp only [execOp, ho, hce, Instr.typeAssert, Sem.run_bind, k.rUnd, Result.andThen_ok]
        revert hd
        cases k.desc <;> intro hd <;> first | exact absurd rfl (hd _) | simp
      | false =>
        cases hf
        refine ⟨u', ?_, h⟩
        simp only [execOp, ho, hce, Instr.typeAssert, Sem.run_bind, k.rUnd, Result.andThen_ok]
        revert hd
        cases k.desc <;> intro hd <;> first | exact absurd rfl (hd _) | simp
    · simp only [ht, decide_false] at hf
      cases ok with
      | false => cases hf
      | true =>
        cases hf
        refine ⟨.tuple #[k.zero, .bool false], ?_, .tuple _ _ (.cons _ _ _ _ (k.hz φ) (.cons _ _ _ _ (.bool _) .nil))⟩
        simp only [execOp, ho, hce, Instr.typeAssert, Sem.run_bind, k.rUnd, Result.andThen_ok]
        revert hd
        cases k.desc <;> intro hd <;> first | exact absurd rfl (hd _) | simp [ht, k.rZero]
theorem pUn {op : UnOp} {t : TypeId} {x : Operand} (ho : o.op = .unOp op t x) : POK P sl o (fun vs ρ => unV op ((vk sl x).get vs ρ)) := by
  intro φ vs ρ a w v hl hf
  have hf : unV _ _ = _ := hf
  have hc := hl.at ho (x := x) (by simp [Op.operands])
  generalize (vk sl x).get vs ρ = cv at hc hf
  generalize hce : a.eval x = ce at hc
  cases op <;> cases hc <;> try (cases hf; done)
  case neg.int k n =>
    simp only [unV, mkI_eq, wrapA_eq, negI_eq] at hf
    cases hf
    refine ⟨.int k (k.wrap (-n)), ?_, .int _ _⟩
    simp [execOp, ho, hce, Op.unary, Op.intArith]
  case xor.int k n =>
    have hx : Nat.xor (Nat.sub (modN k) 1) (toBits k n) = (BitVec.ofInt k.bits (if k.signed then -1 else k.max) ^^^ BitVec.ofInt k.bits n).toNat := by
      have : (BitVec.ofInt k.bits (if k.signed then -1 else k.max)).toNat = modN k - 1 := by cases k <;> rfl
      rw [BitVec.toNat_xor, this, toBits_bv]; rfl
    simp only [unV, mkI_eq] at hf
    rw [ofBits_eq k _ (by rw [hx]; exact (BitVec.ofInt k.bits _ ^^^ _).isLt), hx] at hf
    cases hf
    exact ⟨_, by simp [execOp, ho, hce, Op.unary, Op.intBits], .int _ _⟩
  case not.bool b =>
    simp only [unV, mkB_eq, notB_eq] at hf
    cases hf
    exact ⟨.bool (!b), by simp [execOp, ho, hce, Op.unary], .bool _⟩
theorem field_at {P : Program} {s : TypeId} {i : TI} (k : TIok P s i) {fs : List (Nat × TypeId × Bool)} (hd : i.desc = .struct fs) {f off : Nat} {t : TypeId} {c : Bool} (hf : nth fs f = some (off, t, c)) :
    ∃ fields : Array Field, k.desc = .struct fields ∧ ∃ fd, fields[f]? = some fd ∧ fd.offset = off ∧ fd.type = t := by
  have hr := k.hdesc
  rw [hd] at hr
  obtain ⟨fields, he, hfs⟩ := hr
  refine ⟨fields, he, ?_⟩
  rw [nth_eq, hfs] at hf
  simp only [List.getElem?_map, Array.getElem?_toList, Option.map_eq_some_iff] at hf
  obtain ⟨fd, h1, h2⟩ := hf
  exact ⟨fd, h1, by cases h2; rfl, by cases h2; rfl⟩
theorem pFieldAddr {s : TypeId} {x : Operand} {f : Nat} (ho : o.op = .fieldAddr s x f) {i : TI} (k : TIok P s i) {fs : List (Nat × TypeId × Bool)} (hd : i.desc = .struct fs) {off : Nat} {t : TypeId} {c : Bool}
    (hfd : nth fs f = some (off, t, c)) {ti : TI} (kt : TIok P t ti) (hs : ti.size ≠ 0) : POK P sl o (fun vs ρ => addPtr off ((vk sl x).get vs ρ)) := by
  intro φ vs ρ a w v hl hf
  have hf : addPtr _ _ = _ := hf
  have hc := hl.at ho (x := x) (by simp [Op.operands])
  generalize (vk sl x).get vs ρ = cv at hc hf
  generalize hce : a.eval x = ce at hc
  cases hc <;> try (cases hf; done)
  rename_i id of' h
  simp only [addPtr, seqN_eq] at hf
  cases hf
  obtain ⟨fields, he, fd, h1, h2, h3⟩ := field_at k hd hfd
  refine ⟨.pointer (some (baseOf φ id (of' + off))), ?_, .ptr _ _ h⟩
  have hz : (sizeOf fd.type).run P w = .ok ti.size w := by rw [h3]; exact kt.rSize
  simp [execOp, ho, hce, Instr.fieldAt, k.rUnd, he, h1, Instr.sureAddr, fieldPlace, hz, hs, h2, add_base]
/-- a part of an aggregate -/
theorem takeN_eq {α : Type} : ∀ (n : Nat) (l r : List α), takeN n l = some r → r = l.take n ∧ n ≤ l.length
  | 0, l, r, h => by cases h; simp
  | n + 1, [], r, h => by cases h
  | n + 1, a :: l, r, h => by
    obtain ⟨r', h1, h2⟩ := ob_some h
    cases h2
    obtain ⟨e, hl⟩ := takeN_eq n l r' h1
    exact ⟨by simp [e], by simpa using hl⟩
theorem dropN_eq {α : Type} : ∀ (n : Nat) (l : List α), dropN n l = l.drop n
  | 0, l => rfl
  | n + 1, [] => rfl
  | n + 1, a :: l => by simp [dropN, dropN_eq n l]
theorem VRelL.drop {φ : Ren} : ∀ (n : Nat) {l : List AVal} {l' : List Value}, VRelL φ l l' → VRelL φ (l.drop n) (l'.drop n)
  | 0, _, _, h => h
  | n + 1, _, _, .nil => .nil
  | n + 1, _, _, .cons _ _ _ _ _ h => h.drop n
theorem VRelL.take {φ : Ren} : ∀ (n : Nat) {l : List AVal} {l' : List Value}, VRelL φ l l' → VRelL φ (l.take n) (l'.take n)
  | 0, _, _, h => .nil
  | n + 1, _, _, .nil => .nil
  | n + 1, _, _, .cons _ _ _ _ h hl => .cons _ _ _ _ h (hl.take n)
theorem partA_ok {φ : Ren} {t : TypeId} {i : TI} (k : TIok P t i) {cs : List AVal} {cs' : Array Value} (h : VRelL φ cs cs'.toList) (h1 : ∀ x ∈ cs'.toList, x.oneCell' = true) {off : Nat} {v : AVal} (hv : partA i cs off = some v) {w : World} :
    ∃ x, (part t cs' off).run P w = .ok x w ∧ VRel φ v x := by
  unfold partA at hv
  simp only [part, Sem.run_bind, k.rAgg, Result.andThen_ok]
  cases ha : i.agg with
  | true =>
    rw [ha] at hv
    obtain ⟨l, h2, h3⟩ := ob_some hv
    cases h3
    rw [dropN_eq] at h2
    obtain ⟨e, hlen⟩ := takeN_eq _ _ _ h2
    refine ⟨.agg (cs'.extract off (off + i.size)), by simp [k.rSize], .agg _ _ ?_ ?_⟩
    · rw [e, Array.toList_extract]
      have := (h.drop off).take i.size
      simpa [List.extract_eq_take_drop] using this
    · intro x hx
      rw [Array.toList_extract] at hx
      apply h1
      simp only [List.extract_eq_take_drop] at hx
      exact List.mem_of_mem_drop (List.mem_of_mem_take hx)
  | false =>
    rw [ha] at hv
    have hv : nth cs off = some v := hv
    rw [nth_eq] at hv
    obtain ⟨x, hx, hr⟩ := h.get off v hv
    have hx : cs'[off]? = some x := by simpa using hx
    exact ⟨x, by simp [hx], hr⟩
theorem pField {s : TypeId} {x : Operand} {f : Nat} (ho : o.op = .field s x f) {i : TI} (k : TIok P s i) {fs : List (Nat × TypeId × Bool)} (hd : i.desc = .struct fs) {off : Nat} {t : TypeId} {c : Bool}
    (hfd : nth fs f = some (off, t, c)) {ti : TI} (kt : TIok P t ti) : POK P sl o (fun vs ρ => partV ti off ((vk sl x).get vs ρ)) := by
  intro φ vs ρ a w v hl hf
  have hf : partV _ _ _ = _ := hf
  have hc := hl.at ho (x := x) (by simp [Op.operands])
  generalize (vk sl x).get vs ρ = cv at hc hf
  generalize hce : a.eval x = ce at hc
  cases hc <;> try (cases hf; done)
  rename_i l l' h h1
  have hf : partA ti l off = some v := hf
  obtain ⟨fields, he, fd, g1, g2, g3⟩ := field_at k hd hfd
  obtain ⟨y, hy, hr⟩ := partA_ok kt h h1 hf (w := w)
  refine ⟨y, ?_, hr⟩
  simp [execOp, ho, hce, Instr.field, k.rUnd, he, g1, asAgg, g2, g3, hy]
theorem pIdxSlice {t : TypeId} {x ix : Operand} (ho : o.op = .indexAddr t x ix) {i : TI} (k : TIok P t i) {e : TypeId} (hd : i.desc = .slice e) {ei : TI} (ke : TIok P e ei) :
    POK P sl o (fun vs ρ => natV (idxSlice ei.size ((vk sl x).get vs ρ)) ((vk sl ix).get vs ρ)) := by
  intro φ vs ρ a w v hl hf
  obtain ⟨kk, n, h1, h2⟩ := natV_some hf
  have hi := hl.at ho (x := ix) (by simp [Op.operands])
  rw [h1] at hi
  generalize hie : a.eval ix = ie at hi
  cases hi
  have hc := hl.at ho (x := x) (by simp [Op.operands])
  generalize (vk sl x).get vs ρ = cv at hc h2
  generalize hce : a.eval x = ce at hc
  have hdd := k.hdesc
  rw [hd] at hdd
  cases hc <;> try (cases h2; done)
  rename_i id off len lim ad cap h hlc ha hcc h0 hk
  simp only [idxSlice, blt_dec, seqN_eq] at h2
  obtain ⟨h3, h4⟩ := when_some h2
  have h3 : n < len := of_decide_eq_true h3
  cases h4
  have had := ha (by omega)
  refine ⟨.pointer (some (baseOf φ id (off + n * ei.size))), ?_, .ptr _ _ h⟩
  have hdd : k.desc = .slice e := hdd
  have hn : (n : Int) < (len : Int) := by omega
  simp [execOp, ho, hce, hie, Instr.indexAt, asIntOf, k.rUnd, hdd, hn, ke.rSize, had, add_base]
  intro hle; omega
theorem pIdxArr {t : TypeId} {x ix : Operand} (ho : o.op = .indexAddr t x ix) {i : TI} (k : TIok P t i) {m : Nat} {e : TypeId} (hd : i.desc = .arr m e) {ei : TI} (ke : TIok P e ei) :
    POK P sl o (fun vs ρ => natV (idxArr m ei.size ((vk sl x).get vs ρ)) ((vk sl ix).get vs ρ)) := by
  intro φ vs ρ a w v hl hf
  obtain ⟨kk, n, h1, h2⟩ := natV_some hf
  have hi := hl.at ho (x := ix) (by simp [Op.operands])
  rw [h1] at hi
  generalize hie : a.eval ix = ie at hi
  cases hi
  have hc := hl.at ho (x := x) (by simp [Op.operands])
  generalize (vk sl x).get vs ρ = cv at hc h2
  generalize hce : a.eval x = ce at hc
  have hdd := k.hdesc
  rw [hd] at hdd
  cases hc <;> try (cases h2; done)
  rename_i id off h
  simp only [idxArr, blt_dec, seqN_eq] at h2
  obtain ⟨h3, h4⟩ := when_some h2
  have h3 : n < m := of_decide_eq_true h3
  cases h4
  refine ⟨.pointer (some (baseOf φ id (off + n * ei.size))), ?_, .ptr _ _ h⟩
  have hdd : k.desc = .array m e := hdd
  have hn : (n : Int) < (m : Int) := by omega
  simp [execOp, ho, hce, hie, Instr.indexAt, asIntOf, k.rUnd, hdd, hn, ke.rSize, Instr.sureAddr, add_base]
  intro hle; omega
end
end Go.Proofs.YtcbacbfjjahcbaaGreatDoor.Ev
namespace Go.Proofs.YtcbacbfjjahcbaaGreatDoor.Ev
set_option linter.unusedVariables false
set_option linter.unusedSimpArgs false
open Go
section
variable {P : Program} {sl : SL} {o : Oper}
theorem drop_take {α : Type} (l : List α) (i j : Nat) : (l.drop i).take (j - i) = (l.take j).drop i := by
  rw [List.drop_take]
theorem ba_extract (s : ByteArray) (i j : Nat) : (s.extract i j).data.toList = (s.data.toList.take j).drop i := by
  simp [ByteArray.data_extract, List.extract_eq_take_drop, drop_take]
theorem ba_append (a b : ByteArray) : (a ++ b).data.toList = a.data.toList ++ b.data.toList := by simp
theorem ba_get (s : ByteArray) (i : Nat) : s[i]? = s.data.toList[i]? := by
  simp only [Array.getElem?_toList]; rfl
theorem ba_size (s : ByteArray) : s.size = s.data.toList.length := by simp
theorem sok_ok {w : World} (op : BinOp) (a b : ByteArray) (v : AVal) (h : (sok op).f (enc a.data.toList) (enc b.data.toList) = some v) (φ : Ren) :
    ∃ x, (Op.stringOp op a b).run P w = .ok x w ∧ VRel φ v x := by
  have heq : (a.data.toList == b.data.toList) = Nat.beq (enc a.data.toList) (enc b.data.toList) := by
    rw [beq_dec, Bool.eq_iff_iff, beq_iff_eq, decide_eq_true_iff]
    exact ⟨fun e => by rw [e], enc_inj⟩
  have hle : ∀ p q : List UInt8, (Op.bytesLess p q || p == q) = !Op.bytesLess q p := by
    intro p q
    rw [bytesLess_key p q (max p.length q.length) (by omega) (by omega), bytesLess_key q p (max p.length q.length) (by omega) (by omega)]
    have hpq : (p == q) = (decide (val p * 256 ^ (max p.length q.length - p.length) = val q * 256 ^ (max p.length q.length - q.length)) && decide (p.length = q.length)) := by
      rw [Bool.eq_iff_iff, beq_iff_eq, Bool.and_eq_true, decide_eq_true_iff, decide_eq_true_iff]
      constructor
      · intro e; subst e; exact ⟨rfl, rfl⟩
      · intro ⟨e, hl⟩
        rw [hl] at e
        exact val_inj p q hl (Nat.eq_of_mul_eq_mul_right (p256pos _) e)
    rw [hpq]
    generalize val p * 256 ^ (max p.length q.length - p.length) = A
    generalize val q * 256 ^ (max p.length q.length - q.length) = B
    rcases Nat.lt_trichotomy A B with h1 | h1 | h1
    · simp [h1, Nat.lt_asymm h1, Nat.ne_of_lt h1, (Nat.ne_of_lt h1).symm]
    · subst h1
      rcases Nat.lt_trichotomy p.length q.length with h2 | h2 | h2
      · simp [h2, Nat.lt_asymm h2]
      · simp [h2]
      · simp [h2, Nat.lt_asymm h2, (Nat.ne_of_lt h2).symm]
    · simp [h1, Nat.lt_asymm h1, Nat.ne_of_lt h1, (Nat.ne_of_lt h1).symm]
  cases op <;> simp only [sok] at h <;> try (cases h; done)
  case add =>
    rw [sAdd, enc_len, enc_len, ble_dec] at h
    by_cases hs : Nat.add a.data.toList.length b.data.toList.length ≤ 1000000
    · simp only [hs, decide_true, seqN_eq] at h
      cases h
      refine ⟨.string (a ++ b), ?_, ?_⟩
      · have hs : a.data.toList.length + b.data.toList.length ≤ 1000000 := hs
        have h1 : ¬ (((a.size + b.size : Nat) : Int) > IntKind.i64.max) := by
          rw [ba_size, ba_size]
          have : IntKind.i64.max = 9223372036854775807 := by rfl
          rw [this]; omega
        simp only [Op.stringOp]
        rw [if_neg h1]; rfl
      · rw [sApp_enc, ← ba_append]; exact .str _
    · simp only [hs, decide_false] at h; cases h
  case eql => rw [mkB_eq, ← heq] at h; cases h; exact ⟨_, by simp [Op.stringOp, ByteArray.toList_eq], .bool _⟩
  case neq => rw [mkB_eq, notB_eq, ← heq] at h; cases h; exact ⟨_, by simp [Op.stringOp, ByteArray.toList_eq], .bool _⟩
  case lss => rw [mkB_eq, sLt_enc] at h; cases h; exact ⟨_, by simp [Op.stringOp, ByteArray.toList_eq], .bool _⟩
  case leq => rw [mkB_eq, notB_eq, sLt_enc, ← hle] at h; cases h; exact ⟨_, by simp [Op.stringOp, ByteArray.toList_eq], .bool _⟩
  case gtr =>
    rw [mkB_eq, sLt_enc] at h; cases h
    refine ⟨.bool (Op.bytesLess b.data.toList a.data.toList), ?_, .bool _⟩
    simp only [Op.stringOp, ByteArray.toList_eq]
    rw [hle]; simp
  case geq => rw [mkB_eq, notB_eq, sLt_enc] at h; cases h; exact ⟨_, by simp [Op.stringOp, ByteArray.toList_eq], .bool _⟩
theorem rGuard_int {op : BinOp} {t : TypeId} {x y : Operand} {k : IntKind} {a : Int} {b : Value} {w : World} : (eqGuard op t x y (.int k a) b).run P w = .ok () w := by
  unfold eqGuard; cases op <;> rfl
theorem rGuard_str {op : BinOp} {t : TypeId} {x y : Operand} {a : ByteArray} {b : Value} {w : World} : (eqGuard op t x y (.string a) b).run P w = .ok () w := by
  unfold eqGuard; cases op <;> rfl
theorem binOp_int {op : BinOp} {t : TypeId} {k : IntKind} {a b : Int} (h1 : op ≠ .shl) (h2 : op ≠ .shr) : binOp op t (.int k a) (.int k b) = intDo op k a b := by
  cases op <;> first | exact absurd rfl h1 | exact absurd rfl h2 | simp [binOp, intDo]
theorem binOp_str {op : BinOp} {t : TypeId} {a b : ByteArray} : binOp op t (.string a) (.string b) = Op.stringOp op a b := by
  cases op <;> rfl
theorem two_some {t f : Bool} {v : AVal} (h : two t f = some v) : (t = true ∧ v = .bool true) ∨ (f = true ∧ v = .bool false) := by
  unfold two at h
  split at h
  · injection h with h; exact .inl ⟨rfl, h.symm⟩
  · split at h
    · injection h with h; exact .inr ⟨rfl, h.symm⟩
    · cases h
theorem rB_ok {op : BinOp} {k : IntKind} {lo hi : Option Int} {b n : Int} {v : AVal} (h1 : ∀ l, lo = some l → l ≤ n) (h2 : ∀ u, hi = some u → n ≤ u) (h : rB op lo hi b = some v) : (ik op).f k n b = some v := by
  cases op <;> try (cases h; done)
  case eql =>
    show mkB (eqI n b) = _
    rw [mkB_eq, eqI_eq]
    unfold rB at h
    dsimp only at h
    split at h
    · rename_i g
      injection h with h; subst h
      have := ltLo_ok g h1
      rw [show (n == b) = false by simp; omega]
    · rcases two_some h with ⟨g, _⟩ | ⟨g, rfl⟩
      · cases g
      · have := hiLt_ok g h2
        rw [show (n == b) = false by simp; omega]
  case neq =>
    show mkB (notB (eqI n b)) = _
    rw [mkB_eq, notB_eq, eqI_eq]
    unfold rB at h
    dsimp only at h
    split at h
    · rename_i g
      injection h with h; subst h
      have := ltLo_ok g h1
      rw [show (n == b) = false by simp; omega]; rfl
    · rcases two_some h with ⟨g, rfl⟩ | ⟨g, _⟩
      · have := hiLt_ok g h2
        rw [show (n == b) = false by simp; omega]; rfl
      · cases g
  case lss =>
    show mkB (ltI n b) = _
    rw [mkB_eq, ltI_eq]
    rcases two_some h with ⟨g, rfl⟩ | ⟨g, rfl⟩
    · have := hiLt_ok g h2; rw [show decide (n < b) = true by simp; omega]
    · have := leLo_ok g h1; rw [show decide (n < b) = false by simp; omega]
  case leq =>
    show mkB (notB (ltI b n)) = _
    rw [mkB_eq, notB_eq, ltI_eq]
    rcases two_some h with ⟨g, rfl⟩ | ⟨g, rfl⟩
    · have := hiLe_ok g h2; rw [show decide (b < n) = false by simp; omega]; rfl
    · have := ltLo_ok g h1; rw [show decide (b < n) = true by simp; omega]; rfl
  case gtr =>
    show mkB (ltI b n) = _
    rw [mkB_eq, ltI_eq]
    rcases two_some h with ⟨g, rfl⟩ | ⟨g, rfl⟩
    · have := ltLo_ok g h1; rw [show decide (b < n) = true by simp; omega]
    · have := hiLe_ok g h2; rw [show decide (b < n) = false by simp; omega]
  case geq =>
    show mkB (notB (ltI n b)) = _
    rw [mkB_eq, notB_eq, ltI_eq]
    rcases two_some h with ⟨g, rfl⟩ | ⟨g, rfl⟩
    · have := leLo_ok g h1; rw [show decide (n < b) = false by simp; omega]; rfl
    · have := hiLt_ok g h2; rw [show decide (n < b) = true by simp; omega]; rfl
theorem swap_ok {op : BinOp} {k : IntKind} {a n : Int} {v : AVal} (h : (ik (swapB op)).f k n a = some v) (hs : swapB op ≠ .add) : (ik op).f k a n = some v := by
  cases op <;> try (exact absurd rfl hs)
  case eql => exact (show mkB (eqI a n) = mkB (eqI n a) by rw [eqI_eq, eqI_eq, Bool.beq_comm]).trans h
  case neq => exact (show mkB (notB (eqI a n)) = mkB (notB (eqI n a)) by rw [eqI_eq, eqI_eq, Bool.beq_comm]).trans h
  all_goals exact h
/-! strings that hold an unknown part -/
theorem neFst_ok {p s r r' : List UInt8} (h : neFst (enc p) (enc s) = true) : s ++ r' ≠ p ++ r := by
  unfold neFst at h
  rw [enc_len, enc_len, beq_dec, beq_dec] at h
  cases p with
  | nil => cases h
  | cons a p => cases s with
    | nil => cases h
    | cons b s =>
      rw [sGet_enc _ 0 (by simp), sGet_enc _ 0 (by simp), beq_dec] at h
      intro e
      simp only [List.cons_append] at e
      injection e with e1 e2
      subst e1
      simp [notB] at h
theorem neLen_ok {p q s u : List UInt8} (hu : u.length ≤ 20) (h : neLen (enc p) (enc q) (enc s) = true) : s ≠ p ++ u ++ q := by
  unfold neLen at h
  rw [enc_len, enc_len, enc_len] at h
  intro e
  have hl : s.length = p.length + u.length + q.length := by rw [e, List.length_append, List.length_append]
  split at h
  · rename_i g
    rw [blt_dec] at g
    have g := of_decide_eq_true g
    have g : s.length < p.length + q.length := g
    omega
  · rw [blt_dec] at h
    have h := of_decide_eq_true h
    have h : 20 + (p.length + q.length) < s.length := h
    omega
theorem neCS_ok {p q s u : List UInt8} (hu : u.length ≤ 20) (h : neCS (enc p) (enc q) (enc s) = true) : s ≠ p ++ u ++ q := by
  unfold neCS at h
  split at h
  · rename_i g; exact neLen_ok hu g
  · have := neFst_ok (r := u ++ q) (r' := []) h
    rw [List.append_nil, ← List.append_assoc] at this
    exact this
theorem cy_len (φ : Ren) (c : Nat) : (φ.cy c).data.toList.length ≤ 20 := by
  have := φ.cyL c
  rw [ba_size] at this
  exact this
theorem ba_eq {a b : ByteArray} (h : a.data.toList = b.data.toList) : a = b := by
  obtain ⟨⟨a⟩⟩ := a
  obtain ⟨⟨b⟩⟩ := b
  simp at h; subst h; rfl
theorem eqCC_ok {φ : Ren} {p q p' q' : List UInt8} {c c' : Nat} {b : Bool} (h : eqCC (enc p) c (enc q) (enc p') c' (enc q') = some b) :
    (p ++ (φ.cy c).data.toList ++ q == p' ++ (φ.cy c').data.toList ++ q') = b := by
  unfold eqCC at h
  split at h
  · rename_i g
    injection h with h; subst h
    have := neFst_ok (r := (φ.cy c).data.toList ++ q) (r' := (φ.cy c').data.toList ++ q') g
    rw [← List.append_assoc, ← List.append_assoc] at this
    exact beq_eq_false_iff_ne.2 fun e => this e.symm
  · rw [enc_len, enc_len, beq_dec] at h
    split at h
    · cases h
    · rename_i g
      have hq := of_decide_eq_true g
      split at h
      · rename_i g2
        injection h with h; subst h
        refine beq_eq_false_iff_ne.2 fun e => ?_
        have := (List.append_inj' e hq).2
        subst this
        rw [beq_dec] at g2
        exact absurd rfl (of_decide_eq_false g2)
      · rename_i g2
        have hqq := enc_inj (Nat.eq_of_beq_eq_true g2)
        subst hqq
        split at h
        · cases h
        · rename_i g3
          have hpp := enc_inj (Nat.eq_of_beq_eq_true g3)
          subst hpp
          split at h
          · rename_i g4
            injection h with h; subst h
            rw [Nat.eq_of_beq_eq_true g4]
            exact beq_self_eq_true _
          · rename_i g4
            split at h
            · cases h
            · rename_i g5
              split at h
              · cases h
              · rename_i g6
                injection h with h; subst h
                rw [blt_dec] at g5 g6
                rw [beq_dec] at g4
                refine beq_eq_false_iff_ne.2 fun e => ?_
                have e1 := List.append_cancel_left (List.append_cancel_right e)
                exact of_decide_eq_false g4 (φ.cyI c c' (of_decide_eq_true g5) (of_decide_eq_true g6) (ba_eq e1))
theorem strEq_run {P : Program} {w : World} (a b : ByteArray) : (Op.stringOp .eql a b).run P w = .ok (.bool (a.data.toList == b.data.toList)) w := by
  simp [Op.stringOp, ByteArray.toList_eq]
theorem strNe_run {P : Program} {w : World} (a b : ByteArray) : (Op.stringOp .neq a b).run P w = .ok (.bool (!(a.data.toList == b.data.toList))) w := by
  simp [Op.stringOp, ByteArray.toList_eq]
theorem catBin_ok {P : Program} {w : World} {φ : Ren} {op : BinOp} {r : Option Bool} {v : AVal} {a b : ByteArray} (h : catBin op r = some v) (hr : ∀ x, r = some x → (a.data.toList == b.data.toList) = x) :
    ∃ z, (Op.stringOp op a b).run P w = .ok z w ∧ VRel φ v z := by
  cases op <;> try (cases h; done)
  case eql =>
    obtain ⟨x, h1, h2⟩ := ob_some (show ob r mkB = some v from h)
    rw [mkB_eq] at h2; cases h2
    exact ⟨_, strEq_run a b, by rw [hr x h1]; exact .bool x⟩
  case neq =>
    obtain ⟨x, h1, h2⟩ := ob_some (show ob r (fun b => mkB (notB b)) = some v from h)
    rw [mkB_eq, notB_eq] at h2; cases h2
    exact ⟨_, strNe_run a b, by rw [hr x h1]; exact .bool _⟩
theorem mkS2_ok {P : Program} {w : World} {φ : Ren} {p q : List UInt8} {c : Nat} {v : AVal} {a b : ByteArray} (h : mkS2 (enc p) c (enc q) = some v) (hs : a.data.toList ++ b.data.toList = p ++ (φ.cy c).data.toList ++ q) :
    ∃ z, (Op.stringOp .add a b).run P w = .ok z w ∧ VRel φ v z := by
  unfold mkS2 at h
  rw [enc_len, enc_len, ble_dec] at h
  by_cases hl : Nat.add p.length q.length ≤ 1000000
  · simp only [hl, decide_true, seqN_eq] at h
    cases h
    refine ⟨.string (a ++ b), ?_, .cat p q c _ (by rw [ba_append]; exact hs)⟩
    have hl : p.length + q.length ≤ 1000000 := hl
    have hu := cy_len φ c
    have hz : a.data.toList.length + b.data.toList.length = p.length + (φ.cy c).data.toList.length + q.length := by
      have := congrArg List.length hs
      rw [List.length_append, List.length_append, List.length_append] at this
      exact this
    have h1 : ¬ (((a.size + b.size : Nat) : Int) > IntKind.i64.max) := by
      rw [ba_size, ba_size]
      have : IntKind.i64.max = 9223372036854775807 := by rfl
      rw [this]; omega
    simp only [Op.stringOp]
    rw [if_neg h1]; rfl
  · simp only [hl, decide_false] at h; cases h
theorem ne_beq {a b : List UInt8} (h : a ≠ b) : (a == b) = false := beq_eq_false_iff_ne.2 h
theorem binV_ok {op : BinOp} {t : TypeId} {x y : Operand} {cx cy v : AVal} {xv yv : Value} {φ : Ren} {w : World} (h1 : op ≠ .shl) (h2 : op ≠ .shr) (hx : VRel φ cx xv) (hy : VRel φ cy yv) (h : binV op (ik op) (sok op) cx cy = some v) :
    ∃ r, ((eqGuard op t x y xv yv >>= fun _ => binOp op t xv yv).run P w) = .ok r w ∧ VRel φ v r := by
  cases hx <;> try (cases h; done)
  case int k a =>
    cases hy <;> try (cases h; done)
    case int k' b =>
      obtain ⟨hk, h'⟩ := when_some (show when (kindEq k k') ((ik op).f k a b) = some v from h)
      have := kindEq_iff.1 hk; subst this
      simp only [Sem.run_bind, rGuard_int, Result.andThen_ok, binOp_int h1 h2]
      exact ik_ok op k a b v h' φ
    case rng k' lo hi n g1 g2 =>
      obtain ⟨hk, h'⟩ := when_some (show when (kindEq k k') (rB (swapB op) lo hi a) = some v from h)
      have := kindEq_iff.1 hk; subst this
      simp only [Sem.run_bind, rGuard_int, Result.andThen_ok, binOp_int h1 h2]
      have hs : swapB op ≠ .add := fun e => by rw [e] at h'; cases h'
      exact ik_ok op k a n v (swap_ok (rB_ok g1 g2 h') hs) φ
  case rng k lo hi n g1 g2 =>
    cases hy <;> try (cases h; done)
    case int k' b =>
      obtain ⟨hk, h'⟩ := when_some (show when (kindEq k k') (rB op lo hi b) = some v from h)
      have := kindEq_iff.1 hk; subst this
      simp only [Sem.run_bind, rGuard_int, Result.andThen_ok, binOp_int h1 h2]
      exact ik_ok op k n b v (rB_ok g1 g2 h') φ
  case str s =>
    cases hy <;> try (cases h; done)
    case str u =>
      simp only [Sem.run_bind, rGuard_str, Result.andThen_ok, binOp_str]
      exact sok_ok op s u v h φ
    case cat p q c u hu =>
      have h : strCat op (enc s.data.toList) (enc p) c (enc q) = some v := h
      simp only [Sem.run_bind, rGuard_str, Result.andThen_ok, binOp_str]
      have key : ∀ x, when (neCS (enc p) (enc q) (enc s.data.toList)) (some false) = some x → (s.data.toList == u.data.toList) = x := by
        intro x hx
        obtain ⟨g1, g2⟩ := when_some hx
        injection g2 with g2
        rw [← g2, hu]; exact ne_beq (neCS_ok (cy_len φ c) g1)
      cases op <;> try (exact catBin_ok h key)
      exact mkS2_ok (p := s.data.toList ++ p) (q := q) (c := c) (by rw [← sApp_enc]; exact h) (by rw [hu]; simp)
  case cat p q c s hs =>
    cases hy <;> try (cases h; done)
    case str u =>
      simp only [Sem.run_bind, rGuard_str, Result.andThen_ok, binOp_str]
      have h : catL op (enc p) c (enc q) (.str (enc u.data.toList)) = some v := h
      have key : ∀ x, when (neCS (enc p) (enc q) (enc u.data.toList)) (some false) = some x → (s.data.toList == u.data.toList) = x := by
        intro x hx
        obtain ⟨g1, g2⟩ := when_some hx
        injection g2 with g2
        rw [← g2, hs]; exact ne_beq fun e => neCS_ok (cy_len φ c) g1 e.symm
      cases op <;> try (exact catBin_ok h key)
      exact mkS2_ok (p := p) (q := q ++ u.data.toList) (c := c) (by rw [← sApp_enc]; exact h) (by rw [hs]; simp)
    case cat p' q' c' u hu =>
      simp only [Sem.run_bind, rGuard_str, Result.andThen_ok, binOp_str]
      have h : catBin op (eqCC (enc p) c (enc q) (enc p') c' (enc q')) = some v := h
      exact catBin_ok h fun x hx => by rw [hs, hu]; exact eqCC_ok hx
  case unk k n =>
    cases hy <;> try (cases h; done)
    case int k' b =>
      have h : unkBin op k k' = some v := h
      simp only [Sem.run_bind, rGuard_int, Result.andThen_ok]
      cases op <;> simp only [unkBin] at h <;> try (cases h; done)
      case shr => exact absurd rfl h2
      case and =>
        obtain ⟨hk, h'⟩ := when_some h
        have := kindEq_iff.1 hk; subst this
        injection h' with h'; subst h'
        exact ⟨_, by rw [binOp_int (by simp) (by simp)]; rfl, .unk _ _⟩
      all_goals
        obtain ⟨hk, h'⟩ := when_some h
        have := kindEq_iff.1 hk; subst this
        injection h' with h'; subst h'
        exact ⟨_, by rw [binOp_int (by simp) (by simp)]; rfl, .unkBool _⟩
  case modv k m r n h0 hm =>
    cases hy <;> try (cases h; done)
    case int k' b =>
      have h : modBin op k m r k' b = some v := h
      cases op <;> simp only [modBin] at h <;> try (cases h; done)
      obtain ⟨hk, h'⟩ := when_some h
      obtain ⟨hb, h'⟩ := when_some h'
      obtain ⟨hp, h'⟩ := when_some h'
      have := kindEq_iff.1 hk; subst this
      rw [eqI_eq] at hb
      have hb := eq_of_beq hb
      have hb : b = (m : Int) := hb
      rw [blt_dec] at hp
      have hp := of_decide_eq_true hp
      injection h' with h'; subst h'
      simp only [Sem.run_bind, rGuard_int, Result.andThen_ok]
      refine ⟨.int k (n.tmod b), ?_, ?_⟩
      · rw [binOp_int (by simp) (by simp)]
        have : b ≠ 0 := by omega
        simp [intDo, Op.intDiv, this]
      · rw [hb, Int.tmod_eq_emod_of_nonneg h0, hm]; exact .int _ _
theorem exec_bin {op : BinOp} {t : TypeId} {x y : Operand} {yt : TypeId} (ho : o.op = .binOp op t x y yt) {a : Act} {w : World} {r : Value} (h : ((eqGuard op t x y (a.eval x) (a.eval y) >>= fun _ => binOp op t (a.eval x) (a.eval y)).run P w) = .ok r w) :
    (execOp a.eval o).run P w = .ok (.value r) w := by
  simp only [execOp, ho]
  simp only [Sem.run_bind] at h ⊢
  rw [h]; rfl
theorem pBin {op : BinOp} {t : TypeId} {x y : Operand} {yt : TypeId} (ho : o.op = .binOp op t x y yt) (h1 : op ≠ .shl) (h2 : op ≠ .shr) :
    POK P sl o (fun vs ρ => binV op (ik op) (sok op) ((vk sl x).get vs ρ) ((vk sl y).get vs ρ)) := by
  intro φ vs ρ a w v hl hf
  obtain ⟨r, hr, hv⟩ := binV_ok (P := P) (t := t) (x := x) (y := y) (w := w) h1 h2 (hl.at ho (x := x) (by simp [Op.operands])) (hl.at ho (x := y) (by simp [Op.operands])) hf
  exact ⟨r, exec_bin ho hr, hv⟩
theorem pShl {t : TypeId} {x y : Operand} {yt : TypeId} (ho : o.op = .binOp .shl t x y yt) : POK P sl o (fun vs ρ => shlB ((vk sl x).get vs ρ) ((vk sl y).get vs ρ)) := by
  intro φ vs ρ a w v hl hf
  have hf : shlB _ _ = _ := hf
  have hx := hl.at ho (x := x) (by simp [Op.operands])
  have hy := hl.at ho (x := y) (by simp [Op.operands])
  generalize (vk sl x).get vs ρ = cx at hx hf
  generalize (vk sl y).get vs ρ = cy at hy hf
  have key : ∀ {xv yv : Value}, VRel φ cx xv → VRel φ cy yv → ∃ r, ((eqGuard .shl t x y xv yv >>= fun _ => binOp .shl t xv yv).run P w) = .ok r w ∧ VRel φ v r := by
    intro xv yv hx hy
    cases hx <;> cases hy <;> try (cases hf; done)
    case int.int k n k' m =>
      obtain ⟨s, h1, h2⟩ := ob_some (show ob (shiftN k m) (fun n' => shlV k n n') = some v from hf)
      cases m with
      | negSucc m => cases h1
      | ofNat m =>
        cases h1
        rw [shlV, mkI_eq, wrapA_eq, minN_eq, bitsN_eq, shl_eq, Nat.one_mul] at h2
        cases h2
        simp only [Sem.run_bind, rGuard_int, Result.andThen_ok]
        refine ⟨_, ?_, .int _ _⟩
        have h3 : ¬ ((m : Int) < 0) := by omega
        simp [binOp, Op.shift, h3]
  obtain ⟨r, hr, hv⟩ := key hx hy
  exact ⟨r, exec_bin ho hr, hv⟩
theorem pShr {t : TypeId} {x y : Operand} {yt : TypeId} (ho : o.op = .binOp .shr t x y yt) : POK P sl o (fun vs ρ => shrB ((vk sl x).get vs ρ) ((vk sl y).get vs ρ)) := by
  intro φ vs ρ a w v hl hf
  have hf : shrB _ _ = _ := hf
  have hx := hl.at ho (x := x) (by simp [Op.operands])
  have hy := hl.at ho (x := y) (by simp [Op.operands])
  generalize (vk sl x).get vs ρ = cx at hx hf
  generalize (vk sl y).get vs ρ = cy at hy hf
  have key : ∀ {xv yv : Value}, VRel φ cx xv → VRel φ cy yv → ∃ r, ((eqGuard .shr t x y xv yv >>= fun _ => binOp .shr t xv yv).run P w) = .ok r w ∧ VRel φ v r := by
    intro xv yv hx hy
    cases hx <;> cases hy <;> try (cases hf; done)
    case int.int k n k' m =>
      obtain ⟨s, h1, h2⟩ := ob_some (show ob (shiftN k m) (fun n' => shrV k n n') = some v from hf)
      cases m with
      | negSucc m => cases h1
      | ofNat m =>
        cases h1
        simp only [Sem.run_bind, rGuard_int, Result.andThen_ok]
        have h3 : ¬ ((m : Int) < 0) := by omega
        rw [minN_eq, bitsN_eq] at h2
        have hv : v = .int k (n.fdiv (2 ^ (min m k.bits))) := by
          cases n with
          | ofNat n =>
            rw [shrV, mkI_eq, shr_eq] at h2
            cases h2
            congr 1
            rw [Int.fdiv_eq_ediv_of_nonneg _ (by exact_mod_cast Nat.zero_le (2 ^ (min m k.bits)))]
            simp
          | negSucc n =>
            rw [shrV, mkI_eq, shr_eq] at h2
            cases h2
            congr 1
            rw [Int.fdiv_eq_ediv_of_nonneg _ (by exact_mod_cast Nat.zero_le (2 ^ (min m k.bits)))]
            have e2 : (2 ^ (min m k.bits) : Int) = ((2 ^ (min m k.bits) : Nat) : Int) := by simp
            rw [e2, Int.negSucc_ediv _ (by exact_mod_cast Nat.two_pow_pos _)]
            rw [Int.negSucc_eq]
            simp
            rfl
        rw [hv]
        refine ⟨_, ?_, .int _ _⟩
        simp [binOp, Op.shift, h3]
    case unk.int k n k' m =>
      cases m with
      | negSucc m => cases hf
      | ofNat m =>
        cases hf
        simp only [Sem.run_bind, rGuard_int, Result.andThen_ok]
        have h3 : ¬ ((m : Int) < 0) := by omega
        exact ⟨_, by simp [binOp, Op.shift, h3]; rfl, .unk _ _⟩
  obtain ⟨r, hr, hv⟩ := key hx hy
  exact ⟨r, exec_bin ho hr, hv⟩
end
end Go.Proofs.YtcbacbfjjahcbaaGreatDoor.Ev
namespace Go.Proofs.YtcbacbfjjahcbaaGreatDoor.Ev
set_option linter.unusedVariables false
set_option linter.unusedSimpArgs false
open Go
section
variable {P : Program} {sl : SL} {o : Oper}
theorem row_ok {φ : Ren} {h : Heap} {hp : Array Obj} (H : HRelR P φ h hp) {id : Nat} (hd : φ.dom id) {c : T AVal} (hr : h.row id = some c) :
    ∃ lo hi et cc fz, h.objs.get id = some (.cells c lo hi et) ∧ hp[φ.blk id]? = some (.cells cc et fz) ∧ RowOk P φ id c lo hi et cc fz := by
  unfold Heap.row at hr
  cases hg : h.objs.get id with
  | none => rw [hg] at hr; cases hr
  | some ob =>
    rw [hg] at hr
    cases ob <;> try (cases hr; done)
    rename_i c' lo hi et
    cases hr
    obtain ⟨o', ho, cc, fz, e, hrow⟩ := H.obj id _ hd hg
    exact ⟨lo, hi, et, cc, fz, rfl, by rw [ho, e], hrow⟩
theorem cell_ok {φ : Ren} {id : Nat} {c : T AVal} {lo : Nat} {hi : Option Nat} {et : TypeId} {cc : Array Value} {fz : Nat × Nat} {w : World} (hb : w.heap[φ.blk id]? = some (.cells cc et fz)) (R : RowOk P φ id c lo hi et cc fz)
    {k : Nat} {v : AVal} (hv : c.get k = some v) : ∃ x, w.cell? (baseOf φ id k) = some x ∧ VRel φ v x ∧ x.oneCell' = true := by
  obtain ⟨_, x, hx, hr, h1⟩ := R.cell k v hv
  exact ⟨x, by simp [World.cell?, baseOf, hb, hx], hr, h1⟩
theorem loadN_ok {φ : Ren} {id : Nat} {c : T AVal} {lo : Nat} {hi : Option Nat} {et : TypeId} {cc : Array Value} {fz : Nat × Nat} {w : World} (hb : w.heap[φ.blk id]? = some (.cells cc et fz)) (R : RowOk P φ id c lo hi et cc fz) :
    ∀ (n off : Nat) (l : List AVal), loadN c n off = some l → ∃ l' : List Value, l'.length = n ∧ l.length = n ∧ VRelL φ l l' ∧ (∀ x ∈ l', x.oneCell' = true) ∧ ∀ j v, l'[j]? = some v → w.cell? (baseOf φ id (off + j)) = some v
  | 0, off, l, h => by cases h; exact ⟨[], rfl, rfl, .nil, by simp, by simp⟩
  | n + 1, off, l, h => by
    obtain ⟨v, h1, h2⟩ := ob_some h
    obtain ⟨r, h3, h4⟩ := ob_some h2
    cases h4
    rw [seqN_eq] at h3
    obtain ⟨l', hl, hl2, hr, ho, hc⟩ := loadN_ok hb R n (off + 1) r h3
    obtain ⟨x, hx, hxr, hx1⟩ := cell_ok hb R h1
    refine ⟨x :: l', by simp [hl], by simp [hl2], .cons _ _ _ _ hxr hr, by simp [hx1]; exact ho, fun j u hj => ?_⟩
    cases j with
    | zero => simp at hj; subst hj; exact hx
    | succ j =>
      have := hc j u (by simpa using hj)
      rw [show off + (j + 1) = off + 1 + j from by omega]; exact this
theorem rLoadCells {φ : Ren} {id off n : Nat} {w : World} {l' : List Value} (hl : l'.length = n) (hc : ∀ j v, l'[j]? = some v → w.cell? (baseOf φ id (off + j)) = some v) :
    (loadCells (baseOf φ id off) n).run P w = .ok l'.toArray w := by
  rw [← hl]
  exact run_loadCells_list w _ l' (fun j v hj => by rw [add_base]; exact hc j v hj)
/-- a variable is read -/
theorem loadC_ok {φ : Ren} {t : TypeId} {i : TI} (k : TIok P t i) {id off : Nat} {c : T AVal} {lo : Nat} {hi : Option Nat} {et : TypeId} {cc : Array Value} {fz : Nat × Nat} {w : World} (hb : w.heap[φ.blk id]? = some (.cells cc et fz))
    (R : RowOk P φ id c lo hi et cc fz) {v : AVal} (hv : loadC i off c = some v) : ∃ x, (loadVar t (baseOf φ id off)).run P w = .ok x w ∧ VRel φ v x := by
  unfold loadC at hv
  simp only [loadVar, Sem.run_bind, k.rAgg, Result.andThen_ok]
  cases ha : i.agg with
  | true =>
    rw [ha] at hv
    obtain ⟨l, h1, h2⟩ := ob_some hv
    cases h2
    obtain ⟨l', hl, _, hr, ho, hc⟩ := loadN_ok hb R _ _ _ h1
    refine ⟨.agg l'.toArray, ?_, .agg _ _ (by simpa using hr) (by simpa using ho)⟩
    simp [k.rSize, rLoadCells hl hc]
  | false =>
    rw [ha] at hv
    obtain ⟨x, hx, hr, _⟩ := cell_ok hb R hv
    exact ⟨x, by simp [run_load, hx], hr⟩
theorem loadV_ok {φ : Ren} {h : Heap} {t : TypeId} {i : TI} (k : TIok P t i) {w : World} (H : HRelR P φ h w.heap) {pv : AVal} {px : Value} (hp : VRel φ pv px) {v : AVal} (hv : loadV i h pv = some v) :
    ∃ ad x, px = .pointer (some ad) ∧ (loadVar t ad).run P w = .ok x w ∧ VRel φ v x := by
  cases hp <;> try (cases hv; done)
  rename_i id off hd
  obtain ⟨c, h1, h2⟩ := ob_some (show ob (h.row id) (loadC i off) = some v from hv)
  obtain ⟨lo, hi, et, cc, fz, _, hb, R⟩ := row_ok H hd h1
  obtain ⟨x, hx, hr⟩ := loadC_ok k hb R h2
  exact ⟨_, x, rfl, hx, hr⟩
theorem nLoad {t : TypeId} {x : Operand} (ho : o.op = .load t x) {i : TI} (k : TIok P t i) : NOK P sl o (fun vs ρ h => loadV i h ((vk sl x).get vs ρ)) := by
  intro φ h vs ρ a w v hl H hf
  obtain ⟨ad, y, he, hy, hr⟩ := loadV_ok k H (hl.at ho (x := x) (by simp [Op.operands])) hf
  exact ⟨y, by simp [execOp, ho, Instr.loadAt, he, Instr.sureAddr, hy], hr⟩
theorem pAtStr {t : TypeId} {x ix : Operand} (ho : o.op = .index t x ix) {i : TI} (k : TIok P t i) (hd : i.desc = .str) : POK P sl o (fun vs ρ => natV (atStr ((vk sl x).get vs ρ)) ((vk sl ix).get vs ρ)) := by
  intro φ vs ρ a w v hl hf
  obtain ⟨kk, n, h1, h2⟩ := natV_some hf
  have hi := hl.at ho (x := ix) (by simp [Op.operands])
  rw [h1] at hi
  generalize hie : a.eval ix = ie at hi
  cases hi
  have hc := hl.at ho (x := x) (by simp [Op.operands])
  generalize (vk sl x).get vs ρ = cv at hc h2
  generalize hce : a.eval x = ce at hc
  have hdd := k.hdesc
  rw [hd] at hdd
  have hdd : k.desc = .string := hdd
  cases hc <;> try (cases h2; done)
  rename_i s
  simp only [atStr, blt_dec, seqN_eq, enc_len] at h2
  obtain ⟨h3, h4⟩ := when_some h2
  have h3 : n < s.data.toList.length := of_decide_eq_true h3
  cases h4
  refine ⟨.int .u8 (s.data.toList[n].toNat : Int), ?_, ?_⟩
  · have hb : s[n]? = some s.data.toList[n] := by rw [ba_get]; exact List.getElem?_eq_getElem h3
    have h0 : (0 : Int) ≤ (n : Int) := by omega
    simp only [execOp, ho, hce, hie, Instr.index, asIntOf, Sem.run_bind, Sem.run_pure, k.rUnd, hdd, Result.andThen_ok]
    simp only [Int.ofNat_eq_natCast, h0, if_true, Int.toNat_natCast, hb]
    rfl
  · rw [sGet_enc _ _ h3]; exact .int _ _
theorem pAtArr {t : TypeId} {x ix : Operand} (ho : o.op = .index t x ix) {i : TI} (k : TIok P t i) {m : Nat} {e : TypeId} (hd : i.desc = .arr m e) {ei : TI} (ke : TIok P e ei) :
    POK P sl o (fun vs ρ => natV (atArr m ei ((vk sl x).get vs ρ)) ((vk sl ix).get vs ρ)) := by
  intro φ vs ρ a w v hl hf
  obtain ⟨kk, n, h1, h2⟩ := natV_some hf
  have hi := hl.at ho (x := ix) (by simp [Op.operands])
  rw [h1] at hi
  generalize hie : a.eval ix = ie at hi
  cases hi
  have hc := hl.at ho (x := x) (by simp [Op.operands])
  generalize (vk sl x).get vs ρ = cv at hc h2
  generalize hce : a.eval x = ce at hc
  have hdd := k.hdesc
  rw [hd] at hdd
  have hdd : k.desc = .array m e := hdd
  cases hc <;> try (cases h2; done)
  rename_i l l' h h1'
  simp only [atArr, blt_dec] at h2
  obtain ⟨h3, h4⟩ := when_some h2
  have h3 : n < m := of_decide_eq_true h3
  obtain ⟨y, hy, hr⟩ := partA_ok ke h h1' h4 (w := w)
  refine ⟨y, ?_, hr⟩
  have h0 : (0 : Int) ≤ (n : Int) := by omega
  have h5 : (n : Int) < (m : Int) := by omega
  simp only [execOp, ho, hce, hie, Instr.index, asIntOf, Sem.run_bind, Sem.run_pure, k.rUnd, hdd, Result.andThen_ok]
  simp only [Int.ofNat_eq_natCast, h0, h5, and_self, if_true, Sem.run_bind, ke.rSize, Result.andThen_ok, Int.toNat_natCast]
  rw [show n * ei.size = Nat.mul n ei.size from rfl, hy]; rfl
theorem pConvInt {s d : TypeId} {x : Operand} (ho : o.op = .convert s d x) {si di : TI} (ks : TIok P s si) (kd : TIok P d di) {k : IntKind} (hd : di.desc = .int k) :
    POK P sl o (fun vs ρ => convInt k ((vk sl x).get vs ρ)) := by
  intro φ vs ρ a w v hl hf
  have hf : convInt _ _ = _ := hf
  have hc := hl.at ho (x := x) (by simp [Op.operands])
  generalize (vk sl x).get vs ρ = cv at hc hf
  generalize hce : a.eval x = ce at hc
  have hdd := kd.hdesc
  rw [hd] at hdd
  have hdd : kd.desc = .int k := hdd
  cases hc <;> try (cases hf; done)
  rename_i k' n
  simp only [convInt, mkI_eq, wrapA_eq] at hf
  cases hf
  refine ⟨.int k (k.wrap n), ?_, .int _ _⟩
  simp [execOp, ho, hce, convert, ks.rUnd, kd.rUnd, hdd, Conv.intToInt]
theorem pConvRune {s d : TypeId} {x : Operand} (ho : o.op = .convert s d x) {si di : TI} (ks : TIok P s si) (kd : TIok P d di) (hd : di.desc = .str) :
    POK P sl o (fun vs ρ => convRune ((vk sl x).get vs ρ)) := by
  intro φ vs ρ a w v hl hf
  have hf : convRune _ = _ := hf
  have hc := hl.at ho (x := x) (by simp [Op.operands])
  generalize (vk sl x).get vs ρ = cv at hc hf
  generalize hce : a.eval x = ce at hc
  have hdd := kd.hdesc
  rw [hd] at hdd
  have hdd : kd.desc = .string := hdd
  cases hc <;> try (cases hf; done)
  rename_i k' n
  cases n with
  | negSucc n => cases hf
  | ofNat n =>
    simp only [convRune, blt_dec] at hf
    obtain ⟨h1, h2⟩ := when_some hf
    have h1 : n < 128 := of_decide_eq_true h1
    cases h2
    refine ⟨.string (Utf8.encode n), by simp [execOp, ho, hce, convert, ks.rUnd, kd.rUnd, hdd, Conv.intToString], ?_⟩
    have hval : Utf8.valid (n : Int) = true := by
      unfold Utf8.valid
      simp only [Bool.and_eq_true, Bool.or_eq_true, decide_eq_true_iff, Bool.not_eq_true']
      first | omega | (refine ⟨by omega, ?_⟩; simp; omega) | (simp; omega)
    have he : Utf8.encode (n : Int) = ⟨#[UInt8.ofNat n]⟩ := by
      unfold Utf8.encode
      simp [hval, show n < 128 from h1]
    have h3 : Nat.add 256 n = enc (Utf8.encode (n : Int)).data.toList := by
      rw [he]
      show 256 + n = 1 * 256 + (UInt8.ofNat n).toNat
      simp; omega
    rw [h3]; exact .str _
theorem pConvStr {s d : TypeId} {x : Operand} (ho : o.op = .convert s d x) {si di : TI} (ks : TIok P s si) (kd : TIok P d di) (hs : si.desc = .str) (hd : di.desc = .str) :
    POK P sl o (fun vs ρ => isStr ((vk sl x).get vs ρ)) := by
  intro φ vs ρ a w v hl hf
  have hf : isStr _ = _ := hf
  have hc := hl.at ho (x := x) (by simp [Op.operands])
  generalize (vk sl x).get vs ρ = cv at hc hf
  generalize hce : a.eval x = ce at hc
  have hdd := kd.hdesc
  rw [hd] at hdd
  have hdd : kd.desc = .string := hdd
  have hss := ks.hdesc
  rw [hs] at hss
  have hss : ks.desc = .string := hss
  cases hc <;> try (cases hf; done)
  cases hf
  exact ⟨_, by simp [execOp, ho, hce, convert, ks.rUnd, kd.rUnd, hdd, hss], .str _⟩
end
end Go.Proofs.YtcbacbfjjahcbaaGreatDoor.Ev
namespace Go.Proofs.YtcbacbfjjahcbaaGreatDoor.Ev
set_option linter.unusedVariables false
set_option linter.unusedSimpArgs false
open Go
section
variable {P : Program} {tt : TT}

theorem plainRow_ok (hT : TTok P tt) {φ : Ren} {h : Heap} {hp : Array Obj} (H : HRelR P φ h hp) {id : Nat} (hd : φ.dom id) (hr : plainRow tt (h.objs.get id) = some ()) :
    (∃ o, h.objs.get id = some o) ∧ ∃ cc et, hp[φ.blk id]? = some (.cells cc et (0, 0)) := by
  cases hg : h.objs.get id with
  | none => rw [hg] at hr; cases hr
  | some ob =>
    rw [hg] at hr
    cases ob <;> try (cases hr; done)
    rename_i c lo hi et
    obtain ⟨i, h1, h2⟩ := ob_some (show ob (tt.get et) (fun i => when (notB (isByteD i.desc)) (some ())) = some () from hr)
    obtain ⟨h3, _⟩ := when_some h2
    obtain ⟨k⟩ := hT et i h1
    obtain ⟨o', ho, cc, fz, e, R⟩ := H.obj id _ hd hg
    refine ⟨⟨_, rfl⟩, cc, et, ?_⟩
    rw [ho, e]
    rcases R.fz with h4 | ⟨h4, _⟩
    · rw [h4]
    · exfalso
      have hdd := k.hdesc
      rw [k.hund] at h4
      injection h4 with h4
      rw [h4] at hdd
      rw [notB_eq] at h3
      revert h3 hdd
      cases i.desc <;> simp [TDRel, isByteD]
      intro h5 h6
      subst h6; simp [kindEq] at h5
theorem rStringish_plain {w : World} {a : Addr} {cc : Array Value} {et : TypeId} (hb : w.heap[a.block]? = some (.cells cc et (0, 0))) : (stringish a).run P w = .ok false w := by
  simp [stringish, World.frozen?, hb, World.shape?]
theorem rNoView {w : World} {a : Addr} {cc : Array Value} {et : TypeId} {fz : Nat × Nat} (hb : w.heap[a.block]? = some (.cells cc et fz)) : (noView a).run P w = .ok () w := by
  simp [noView, viewAt, World.shape?, hb]
theorem rSameAddr_ne {w : World} {a b : Addr} (hne : a.block ≠ b.block) {cc dd : Array Value} {et ft : TypeId} (ha : w.heap[a.block]? = some (.cells cc et (0, 0))) (hb : w.heap[b.block]? = some (.cells dd ft (0, 0))) :
    (sameAddr a b).run P w = .ok false w := by
  have h1 : (a.block == b.block) = false := by simpa using hne
  have fa : w.frozen? a = false := by simp [World.frozen?, ha]
  simp [sameAddr, h1, fa, rNoView ha, rNoView hb, mayBeOne, rStringish_plain ha, rStringish_plain hb]
theorem rSameAddr_eq {w : World} {a b : Addr} (he : a.block = b.block) : (sameAddr a b).run P w = .ok (a == b) w := by
  simp [sameAddr, he]

/-- the elements of two arrays, one after the other -/
def eqElemsS (P : Program) (d : Nat) (e : TypeId) (xs ys : Array Value) (s : Nat) : Nat → Nat → Sem Bool
  | 0, _ => pure true
  | n + 1, k => do
    let a ← part e xs (k * s)
    let b ← part e ys (k * s)
    let r ← Op.equalIn d e a b
    if (!r) = true then pure false else eqElemsS P d e xs ys s n (k + 1)
theorem run_equalIn_arr {d : Nat} {t e : TypeId} {n s : Nat} {xs ys : Array Value} {w : World} (ht : P.underlying t = some (.array n e)) (hs : ∀ w, (sizeOf e).run P w = .ok s w) :
    (Op.equalIn (d + 1) t (.agg xs) (.agg ys)).run P w = (eqElemsS P d e xs ys s n 0).run P w := by
  simp only [Op.equalIn, Sem.run_bind, rUnd ht, hs, Result.andThen_ok, Std.Legacy.Range.forIn_eq_forIn_range', Std.Legacy.Range.size, Nat.sub_zero, Nat.add_one_sub_one, Nat.div_one]
  generalize 0 = k0
  clear ht
  induction n generalizing w k0 with
  | zero => simp [eqElemsS]
  | succ n ih =>
    simp only [List.range'_succ, List.forIn_cons, eqElemsS, Sem.run_bind]
    generalize (part e xs (k0 * s)).run P w = r1
    cases r1 with
    | ok a w1 =>
      simp only [Result.andThen_ok]
      generalize (part e ys (k0 * s)).run P w1 = r2
      cases r2 with
      | ok b w2 =>
        simp only [Result.andThen_ok]
        generalize (Op.equalIn d e a b).run P w2 = r3
        cases r3 with
        | ok r w3 =>
          cases r
          · simp only [Result.andThen_ok, Bool.not_false, if_true, Sem.run_pure]
          · simp only [Result.andThen_ok, Bool.not_true, Bool.false_eq_true, if_false, Sem.run_pure]
            exact ih (k0 := k0 + 1)
        | halt x w3 => simp [Result.andThen]
      | halt x w2 => simp [Result.andThen]
    | halt x w1 => simp [Result.andThen]

theorem eqFlds_ok (hT : TTok P tt) {φ : Ren} {w : World} {m : Nat} {eq : TI → AVal → AVal → Option Bool}
    (hE : ∀ t i, TIok P t i → ∀ x y x' y' b, VRel φ x x' → VRel φ y y' → eq i x y = some b → (Op.equalIn m t x' y').run P w = .ok b w)
    {xs ys : List AVal} {xs' ys' : Array Value} (hx : VRelL φ xs xs'.toList) (hx1 : ∀ x ∈ xs'.toList, x.oneCell' = true) (hy : VRelL φ ys ys'.toList) (hy1 : ∀ x ∈ ys'.toList, x.oneCell' = true) :
    ∀ (fields : List Field) (b : Bool), eqFlds tt eq (fields.map fun f => (f.offset, f.type, decide (f.name ≠ "_"))) xs ys = some b → (Op.eqFields m xs' ys' fields).run P w = .ok b w
  | [], b, h => by cases h; rfl
  | f :: fs, b, h => by
    simp only [List.map_cons, eqFlds] at h
    simp only [Op.eqFields]
    by_cases hn : f.name ≠ "_"
    · rw [if_pos hn]
      simp only [hn, ne_eq, not_false_eq_true, decide_true] at h
      obtain ⟨i, h1, h⟩ := ob_some h
      obtain ⟨a, h2, h⟩ := ob_some h
      obtain ⟨c, h3, h⟩ := ob_some h
      obtain ⟨r, h4, h⟩ := ob_some h
      obtain ⟨k⟩ := hT _ _ h1
      obtain ⟨a', ha, hra⟩ := partA_ok k hx hx1 h2 (w := w)
      obtain ⟨c', hc, hrc⟩ := partA_ok k hy hy1 h3 (w := w)
      have he := hE _ _ k _ _ _ _ _ hra hrc h4
      simp only [Sem.run_bind, ha, hc, he, Result.andThen_ok]
      cases r with
      | false => cases h; simp
      | true => simp only [Bool.not_true, Bool.false_eq_true, if_false]; exact eqFlds_ok hT hE hx hx1 hy hy1 fs b h
    · rw [if_neg hn]
      simp only [hn, decide_false] at h
      exact eqFlds_ok hT hE hx hx1 hy hy1 fs b h
theorem eqElems_ok {φ : Ren} {w : World} {m : Nat} {eq : AVal → AVal → Option Bool} {e : TypeId} {ie : TI} (k : TIok P e ie)
    (hE : ∀ x y x' y' b, VRel φ x x' → VRel φ y y' → eq x y = some b → (Op.equalIn m e x' y').run P w = .ok b w)
    {xs ys : List AVal} {xs' ys' : Array Value} (hx : VRelL φ xs xs'.toList) (hx1 : ∀ x ∈ xs'.toList, x.oneCell' = true) (hy : VRelL φ ys ys'.toList) (hy1 : ∀ x ∈ ys'.toList, x.oneCell' = true) :
    ∀ (n j : Nat) (b : Bool), eqElems eq ie n (j * ie.size) xs ys = some b → (eqElemsS P m e xs' ys' ie.size n j).run P w = .ok b w
  | 0, j, b, h => by cases h; rfl
  | n + 1, j, b, h => by
    simp only [eqElems] at h
    obtain ⟨a, h2, h⟩ := ob_some h
    obtain ⟨c, h3, h⟩ := ob_some h
    obtain ⟨r, h4, h⟩ := ob_some h
    obtain ⟨a', ha, hra⟩ := partA_ok k hx hx1 h2 (w := w)
    obtain ⟨c', hc, hrc⟩ := partA_ok k hy hy1 h3 (w := w)
    have he := hE _ _ _ _ _ hra hrc h4
    simp only [eqElemsS, Sem.run_bind, ha, hc, he, Result.andThen_ok]
    cases r with
    | false => cases h; simp
    | true =>
      simp only [Bool.not_true, Bool.false_eq_true, if_false]
      simp only [seqN_eq] at h
      refine eqElems_ok k hE hx hx1 hy hy1 n (j + 1) b ?_
      rw [show (j + 1) * ie.size = Nat.add (j * ie.size) ie.size from by rw [Nat.add_mul, Nat.one_mul]; rfl]
      exact h
set_option maxHeartbeats 1000000 in
theorem eqA_ok (hT : TTok P tt) {φ : Ren} {h : Heap} {w : World} (H : HRelR P φ h w.heap) : ∀ (d m : Nat) (_ : d ≤ m) (t : TypeId) (i : TI) (_ : TIok P t i) (x y : AVal) (x' y' : Value) (b : Bool),
    VRel φ x x' → VRel φ y y' → eqA tt h d i x y = some b → (Op.equalIn m t x' y').run P w = .ok b w
  | 0, _, _, _, _, _, _, _, _, _, _, _, _, hb => by cases hb
  | d + 1, 0, hm, _, _, _, _, _, _, _, _, _, _, _ => absurd hm (by omega)
  | d + 1, m + 1, hm, t, i, k, x, y, x', y', b, hx, hy, hb => by
    have IH := eqA_ok hT H d m (by omega)
    have hdd := k.hdesc
    unfold eqA at hb
    cases hd : i.desc <;> rw [hd] at hb hdd <;> try (cases hb; done)
    case bool =>
      have hdd : k.desc = .bool := hdd
      cases x <;> try (cases hb; done)
      cases y <;> try (cases hb; done)
      cases hx; cases hy
      simp only [eqBoolV, eqBool_eq] at hb
      cases hb
      simp [Op.equalIn, k.rUnd, hdd]
    case int kk =>
      have hdd : k.desc = .int kk := hdd
      cases x <;> try (cases hb; done)
      · cases y <;> try (cases hb; done)
        cases hx; cases hy
        simp only [eqIntV, eqI_eq] at hb
        obtain ⟨h1, h2⟩ := when_some hb
        have := kindEq_iff.1 h1; subst this
        cases h2
        simp [Op.equalIn, k.rUnd, hdd]
      · cases y <;> try (cases hb; done)
        cases hx with | rng _ _ _ n g1 g2 =>
        cases hy
        obtain ⟨h1, h2⟩ := when_some (show when _ _ = some b from hb)
        have := kindEq_iff.1 h1; subst this
        split at h2
        · rename_i g
          have := ltLo_ok g g1
          cases h2
          simp [Op.equalIn, k.rUnd, hdd]
          omega
        · split at h2
          · rename_i g
            have := hiLt_ok g g2
            cases h2
            simp [Op.equalIn, k.rUnd, hdd]
            omega
          · cases h2
    case str =>
      have hdd : k.desc = .string := hdd
      cases x <;> try (cases hb; done)
      · cases y <;> try (cases hb; done)
        · cases hx with | str s =>
          cases hy with | str u =>
          simp only [eqStrV, beq_dec] at hb
          cases hb
          simp only [Op.equalIn, Sem.run_bind, k.rUnd, hdd, Result.andThen_ok, Sem.run_pure]
          rw [beq_toListBytes, ByteArray.toList_eq, ByteArray.toList_eq]
          congr 1
          rw [Bool.eq_iff_iff, beq_iff_eq, decide_eq_true_iff]
          exact ⟨fun e => by rw [e], enc_inj⟩
        · cases hx with | str s =>
          cases hy with | cat p q c u hu =>
          obtain ⟨g1, g2⟩ := when_some (show when (neCS (enc p) (enc q) (enc s.data.toList)) (some false) = some b from hb)
          injection g2 with g2
          simp only [Op.equalIn, Sem.run_bind, k.rUnd, hdd, Result.andThen_ok, Sem.run_pure]
          rw [beq_toListBytes, ByteArray.toList_eq, ByteArray.toList_eq, hu, ← g2, ne_beq (neCS_ok (cy_len φ _) g1)]
      · cases y <;> try (cases hb; done)
        · cases hx with | cat p q c s hs =>
          cases hy with | str u =>
          obtain ⟨g1, g2⟩ := when_some (show when (neCS (enc p) (enc q) (enc u.data.toList)) (some false) = some b from hb)
          injection g2 with g2
          simp only [Op.equalIn, Sem.run_bind, k.rUnd, hdd, Result.andThen_ok, Sem.run_pure]
          rw [beq_toListBytes, ByteArray.toList_eq, ByteArray.toList_eq, hs, ← g2, ne_beq fun e => neCS_ok (cy_len φ _) g1 e.symm]
        · cases hx with | cat p q c s hs =>
          cases hy with | cat p' q' c' u hu =>
          have hb : eqCC (enc p) _ (enc q) (enc p') _ (enc q') = some b := hb
          simp only [Op.equalIn, Sem.run_bind, k.rUnd, hdd, Result.andThen_ok, Sem.run_pure]
          rw [beq_toListBytes, ByteArray.toList_eq, ByteArray.toList_eq, hs, hu, eqCC_ok hb]
    case ptr e =>
      have hdd : k.desc = .pointer e := hdd
      cases x <;> try (cases hb; done)
      · cases y <;> try (cases hb; done)
        · cases hx; cases hy; cases hb; simp [Op.equalIn, k.rUnd, hdd]
        · cases hx; cases hy; cases hb; simp [Op.equalIn, k.rUnd, hdd]
      · cases y <;> try (cases hb; done)
        · cases hx; cases hy; cases hb; simp [Op.equalIn, k.rUnd, hdd]
        · rename_i id off jd joff
          cases hx with | ptr _ _ hid =>
          cases hy with | ptr _ _ hjd =>
          obtain ⟨ei, h1, h2⟩ := ob_some (show ob (tt.get e) (fun ei => match ei.size with | 0 => none | _ + 1 => eqPtr tt h id off jd joff) = some b from hb)
          obtain ⟨ke⟩ := hT e ei h1
          cases hs : ei.size with
          | zero => rw [hs] at h2; cases h2
          | succ s =>
            rw [hs] at h2
            have h2 : eqPtr tt h id off jd joff = some b := h2
            have hz : ∀ w, (sizeOf e).run P w = .ok (s + 1) w := fun w => by rw [ke.rSize, hs]
            simp only [Op.equalIn, Sem.run_bind, k.rUnd, hdd, Result.andThen_ok, hz]
            simp only [ne_eq, Nat.add_eq_zero_iff, Nat.succ_ne_self, and_false, not_false_eq_true, if_true]
            unfold eqPtr at h2
            rw [beq_dec] at h2
            by_cases hij : id = jd
            · subst hij
              simp only [decide_true, beq_dec] at h2
              cases h2
              rw [rSameAddr_eq (by simp [baseOf])]
              congr 1
              rw [Bool.eq_iff_iff, beq_iff_eq, decide_eq_true_iff]
              simp [baseOf]
            · simp only [hij, decide_false] at h2
              obtain ⟨_, h3, h4⟩ := ob_some h2
              obtain ⟨_, h5, h6⟩ := ob_some h4
              cases h6
              obtain ⟨l1, cc, et, hb1⟩ := plainRow_ok hT H hid h3
              obtain ⟨l2, dd, ft, hb2⟩ := plainRow_ok hT H hjd h5
              obtain ⟨o1, ho1⟩ := l1
              obtain ⟨o2, ho2⟩ := l2
              exact rSameAddr_ne (fun e => hij (H.inj _ _ _ _ hid hjd ho1 ho2 e)) hb1 hb2
    case slice e =>
      have hdd : k.desc = .slice e := hdd
      cases x <;> try (cases hb; done)
      all_goals (cases y <;> try (cases hb; done))
      all_goals (cases hx; cases hy; cases hb; simp [Op.equalIn, k.rUnd, hdd])
    case arr n e =>
      have hdd : k.desc = .array n e := hdd
      replace hb := (when_some hb).2
      cases x <;> try (cases hb; done)
      cases y <;> try (cases hb; done)
      rename_i xs ys
      cases hx with | agg _ xs' hx hx1 =>
      cases hy with | agg _ ys' hy hy1 =>
      obtain ⟨ie, h1, h2⟩ := ob_some (show ob (tt.get e) (fun ie => eqElems (eqA tt h d ie) ie n 0 xs ys) = some b from hb)
      obtain ⟨ke⟩ := hT e ie h1
      rw [run_equalIn_arr (by rw [k.hund, hdd]) (fun w => ke.rSize)]
      exact eqElems_ok ke (fun a c a' c' r ha hc hr => IH e ie ke a c a' c' r ha hc hr) hx hx1 hy hy1 n 0 b (by simpa using h2)
    case map kt e =>
      have hdd : k.desc = .map kt e := hdd
      cases x <;> try (cases hb; done)
      all_goals (cases y <;> try (cases hb; done))
      all_goals (cases hx; cases hy; cases hb; simp [Op.equalIn, k.rUnd, hdd])
    case struct fs =>
      obtain ⟨fields, hdd, hfs⟩ := hdd
      have he := (when_some hb).1
      replace hb := (when_some hb).2
      cases x <;> try (cases hb; done)
      cases y <;> try (cases hb; done)
      rename_i xs ys
      cases hx with | agg _ xs' hx hx1 =>
      cases hy with | agg _ ys' hy hy1 =>
      have hfo : P.fieldsOf t = fields := by simp [Program.fieldsOf, k.hund, hdd]
      rw [run_equalIn_struct w m t xs' ys' (by rw [hfo, k.hund, hdd]) (k.heqs he).1, hfo]
      have hb : eqFlds tt (eqA tt h d) fs xs ys = some b := hb
      rw [hfs] at hb
      exact eqFlds_ok hT (fun t i k a c a' c' r ha hc hr => IH t i k a c a' c' r ha hc hr) hx hx1 hy hy1 fields.toList b hb
    case func =>
      obtain ⟨ps, rs, vv, hdd⟩ := hdd
      cases x <;> try (cases hb; done)
      all_goals (cases y <;> try (cases hb; done))
      all_goals (cases hx; cases hy; cases hb; simp [Op.equalIn, k.rUnd, hdd])
    case iface e =>
      obtain ⟨ms, hdd, _⟩ := hdd
      cases x <;> try (cases hb; done)
      · rename_i tx vx
        cases y <;> try (cases hb; done)
        · rename_i ty vy
          cases hx with | iface _ _ vx' hx =>
          cases hy with | iface _ _ vy' hy =>
          have hb : (match Nat.beq tx ty with | false => some false | true => ob (tt.get tx) fun i => when i.cmp (eqA tt h d i vx vy)) = some b := hb
          rw [beq_dec] at hb
          by_cases ht : tx = ty
          · subst ht
            simp only [decide_true] at hb
            obtain ⟨ix, h1, h2⟩ := ob_some hb
            obtain ⟨h3, h4⟩ := when_some h2
            obtain ⟨kx⟩ := hT tx ix h1
            simp only [Op.equalIn, Sem.run_bind, k.rUnd, hdd, Result.andThen_ok, ne_eq, not_true_eq_false, if_false, kx.rInfo, kx.hcmp h3, Bool.not_true, Bool.false_eq_true]
            exact IH tx ix kx vx vy vx' vy' b hx hy h4
          · simp only [ht, decide_false] at hb
            cases hb
            simp [Op.equalIn, k.rUnd, hdd, ht]
        · cases hx; cases hy; cases hb; simp [Op.equalIn, k.rUnd, hdd]
      · cases y <;> try (cases hb; done)
        cases hx; cases hy; cases hb; simp [Op.equalIn, k.rUnd, hdd]
end
end Go.Proofs.YtcbacbfjjahcbaaGreatDoor.Ev
