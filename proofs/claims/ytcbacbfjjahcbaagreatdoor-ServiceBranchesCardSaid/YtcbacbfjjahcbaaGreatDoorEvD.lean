/- An evaluator over abstract values and the proof that what it reckons is what the model's calls do: part 4 of 10. -/
import Derived.Test.YtcbacbfjjahcbaaGreatDoorEvC
import Derived.Laws.BytesArg
import Derived.Great.BuildSlice
namespace Go.Proofs.YtcbacbfjjahcbaaGreatDoor.Ev
set_option linter.unusedVariables false
set_option linter.unusedSimpArgs false
open Go
section
variable {P : Program} {tt : TT}

theorem andB_iff {a b : Bool} : andB a b = true ↔ a = true ∧ b = true := by cases a <;> cases b <;> simp [andB]
/-- the same abstract value of scalars: the same value -/
theorem keyCell_eq {φ : Ren} {v : AVal} (hk : keyCell v = true) {x y : Value} (hx : VRel φ v x) (hy : VRel φ v y) : x = y := by
  cases v <;> try (cases hk; done)
  · cases hx; cases hy; rfl
  · cases hx; cases hy; rfl
  · cases hx with | str s =>
    generalize he : sOf 1 s.data.toList = n at hy
    cases hy with | str u =>
    have := enc_inj he
    congr 1
    obtain ⟨⟨s⟩⟩ := s
    obtain ⟨⟨u⟩⟩ := u
    simp at this; subst this; rfl
  · rename_i p0 c q0
    cases hx with | cat p q _ s hs =>
    generalize he : sOf 1 p = p1 at hy
    generalize he2 : sOf 1 q = q1 at hy
    cases hy with | cat p' q' _ u hu =>
    have h1 := enc_inj he
    have h2 := enc_inj he2
    subst h1; subst h2
    exact congrArg Value.string (ba_eq (hs.trans hu.symm))
theorem keyCells_eq {φ : Ren} : ∀ {l : List AVal} {xs ys : List Value}, allB keyCell l = true → VRelL φ l xs → VRelL φ l ys → xs = ys
  | [], _, _, _, .nil, .nil => rfl
  | v :: l, _, _, hk, .cons _ x _ xs hx hxs, .cons _ y _ ys hy hys => by
    have hk := allB_iff.1 hk
    rw [keyCell_eq (hk v (by simp)) hx hy, keyCells_eq (l := l) (allB_iff.2 fun u hu => hk u (by simp [hu])) hxs hys]
theorem keyOk_eq {φ : Ren} {ki : TI} {v : AVal} (hk : keyOk ki v = true) {x y : Value} (hx : VRel φ v x) (hy : VRel φ v y) : x = y := by
  unfold keyOk at hk
  have sc : keyCell v = true → x = y := fun h => keyCell_eq h hx hy
  revert hk
  cases ki.desc <;> intro hk <;> try (exact sc hk)
  cases v <;> try (cases hk; done)
  rename_i l
  cases hx with | agg _ xs hxs _ =>
  cases hy with | agg _ ys hys _ =>
  congr 1
  have := keyCells_eq (andB_iff.1 hk).2 hxs hys
  obtain ⟨xs⟩ := xs
  obtain ⟨ys⟩ := ys
  simp at this; rw [this]
theorem sameBits_cell {x : Value} (h : ∃ φ v, keyCell v = true ∧ VRel φ v x) : ∀ n, Instr.sameBits n x x = true := by
  obtain ⟨φ, v, hk, hx⟩ := h
  intro n
  cases v <;> try (cases hk; done)
  · cases hx; cases n <;> simp [Instr.sameBits]
  · cases hx; cases n <;> simp [Instr.sameBits]
  · cases hx with | str s =>
    have : (s == s) = true := by rw [beq_toListBytes]; simp
    cases n <;> simpa [Instr.sameBits] using this
  · cases hx with | cat p q _ s hs =>
    have : (s == s) = true := by rw [beq_toListBytes]; simp
    cases n <;> simpa [Instr.sameBits] using this
theorem sameBits_cells {φ : Ren} : ∀ {l : List AVal} {xs : List Value}, allB keyCell l = true → VRelL φ l xs → ∀ n, ((xs.zip xs).all fun p => Instr.sameBits n p.1 p.2) = true
  | [], _, _, .nil, n => rfl
  | v :: l, _, hk, .cons _ x _ xs hx hxs, n => by
    have hk := allB_iff.1 hk
    simp only [List.zip_cons_cons, List.all_cons, Bool.and_eq_true]
    exact ⟨sameBits_cell ⟨φ, v, hk v (by simp), hx⟩ n, sameBits_cells (l := l) (allB_iff.2 fun u hu => hk u (by simp [hu])) hxs n⟩
theorem sameBits_refl {φ : Ren} {ki : TI} {v : AVal} (hk : keyOk ki v = true) {x : Value} (hx : VRel φ v x) : Instr.sameBits 10000 x x = true := by
  unfold keyOk at hk
  have sc : keyCell v = true → Instr.sameBits 10000 x x = true := fun h => sameBits_cell ⟨φ, v, h, hx⟩ _
  revert hk
  cases ki.desc <;> intro hk <;> try (exact sc hk)
  cases v <;> try (cases hk; done)
  rename_i l
  cases hx with | agg _ xs hxs _ =>
  have := sameBits_cells (andB_iff.1 hk).2 hxs 9999
  simp only [Instr.sameBits, beq_self_eq_true, Bool.true_and]
  exact this

/-! the same abstract value -/
theorem eqLim_eq {a b : Option Nat} (h : eqLim a b = true) : a = b := by
  cases a <;> cases b <;> simp [eqLim] at h ⊢; exact h
theorem eqVL_eq {eq : AVal → AVal → Bool} (he : ∀ a b, eq a b = true → a = b) : ∀ (l m : List AVal), eqVL eq l m = true → l = m
  | [], [], _ => rfl
  | [], _ :: _, h => by cases h
  | _ :: _, [], h => by cases h
  | a :: l, b :: m, h => by
    simp only [eqVL] at h
    cases hab : eq a b with
    | false => rw [hab] at h; cases h
    | true => rw [hab] at h; rw [he a b hab, eqVL_eq he l m h]
theorem eqOI_eq {a b : Option Int} (h : eqOI a b = true) : a = b := by
  cases a <;> cases b <;> simp [eqOI, eqI_eq] at h ⊢; exact h
theorem beqV_eq : ∀ (d : Nat) (a b : AVal), beqV d a b = true → a = b
  | 0, _, _, h => by cases h
  | d + 1, a, b, h => by
    have nb : ∀ {x y : Nat}, Nat.beq x y = true → x = y := fun h => Nat.eq_of_beq_eq_true h
    cases a <;> (cases b <;> try (cases h; done)) <;> try rfl
    · simp only [beqV, eqBool_eq, beq_iff_eq] at h; rw [h]
    · simp only [beqV, andB_iff, eqI_eq, beq_iff_eq] at h; rw [kindEq_iff.1 h.1, h.2]
    · exact congrArg _ (nb h)
    · simp only [beqV, andB_iff] at h; rw [nb h.1, nb h.2]
    · simp only [beqV, andB_iff] at h; rw [nb h.1, nb h.2.1, nb h.2.2.1, eqLim_eq h.2.2.2]
    · exact congrArg _ (nb h)
    · rename_i f a1 b1 g a2 b2
      simp only [beqV, andB_iff] at h
      have e1 : f = g := by
        have h1 := h.1
        cases f <;> (cases g <;> try (cases h1; done))
        · exact congrArg _ (nb h1)
        · exact congrArg _ (nb h1)
      rw [e1, eqVL_eq (beqV_eq d) _ _ h.2.1, eqVL_eq (beqV_eq d) _ _ h.2.2]
    · simp only [beqV, andB_iff] at h; rw [nb h.1, beqV_eq d _ _ h.2]
    · exact congrArg _ (eqVL_eq (beqV_eq d) _ _ h)
    · exact congrArg _ (eqVL_eq (beqV_eq d) _ _ h)
    · exact congrArg _ (kindEq_iff.1 h)
    · simp only [beqV, andB_iff] at h; rw [kindEq_iff.1 h.1, nb h.2.1, nb h.2.2]
    · simp only [beqV, andB_iff] at h; rw [kindEq_iff.1 h.1, eqOI_eq h.2.1, eqOI_eq h.2.2]
    · simp only [beqV, andB_iff] at h; rw [nb h.1, nb h.2]
    · exact congrArg _ (nb h)
    · exact congrArg _ (nb h)
    · simp only [beqV, andB_iff] at h; rw [nb h.1, nb h.2.1, nb h.2.2]

/-! finding a key -/
theorem sameNow_ok {kt : TypeId} {d : TypeDesc} (hd : P.underlying kt = some d) {x y : Value} {c : Bool} (h : Instr.sameNow d x y = some c) (w : World) : (Op.equal kt x y).run P w = .ok c w := by
  unfold Instr.sameNow at h
  split at h
  · split at h
    · rename_i hk; subst hk; cases h; exact run_equalIn_int w 9999 kt _ _ _ _ hd
    · cases h
  · cases h
    simp only [Op.equal, Op.maxDepth]
    rw [run_equalIn_string w 9999 kt _ _ hd, beq_toListBytes]
  · cases h; exact run_equalIn_bool w 9999 kt _ _ hd
  · cases h
theorem findNow_ok {kt : TypeId} {d : TypeDesc} (hd : P.underlying kt = some d) {k : Value} (w : World) : ∀ (es : List MapEntry) (i : Nat) (r : Option (Nat × Value)), Instr.findNow d k es i = some r → (Instr.findAsking kt k es i).run P w = .ok r w
  | [], i, r, h => by cases h; rfl
  | e :: es, i, r, h => by
    simp only [Instr.findNow] at h
    simp only [Instr.findAsking, Sem.run_bind]
    split at h
    · rename_i hs; cases h; rw [sameNow_ok hd hs w]; simp
    · rename_i hs; rw [sameNow_ok hd hs w]; simp; exact findNow_ok hd w es (i + 1) r h
    · cases h
theorem findKey_run {kt : TypeId} {d : TypeDesc} (hd : P.underlying kt = some d) (k : Value) (es : List MapEntry) (w : World) : (Instr.findKey kt k es).run P w = (Instr.findAsking kt k es).run P w := by
  simp only [Instr.findKey, Sem.run_bind, rUnd hd, Result.andThen_ok]
  cases h : Instr.findNow d k es 0 with
  | none => rfl
  | some r => rw [findNow_ok hd w es 0 r h]; rfl
/-- what has been found: the entry's number, its value, its birth -/
def FindRel (φ : Ren) (es : List Ent) (ms : List MapEntry) (i0 : Nat) : Option (Nat × AVal × Nat) → Option (Nat × Value) → Prop
  | none, none => True
  | some (i, v, b), some (j, x) => i = j ∧ i0 ≤ i ∧ VRel φ v x ∧ ∃ e m, es[i - i0]? = some e ∧ ms[i - i0]? = some m ∧ e.2.1 = v ∧ e.2.2 = b ∧ m.val = x ∧ m.born = b ∧ VRel φ e.1 m.key
  | _, _ => False
theorem findA_ok (hT : TTok P tt) {φ : Ren} {h : Heap} {w : World} (H : HRelR P φ h w.heap) {kt : TypeId} {ki : TI} (k : TIok P kt ki) {key : AVal} {key' : Value} (hk : VRel φ key key') :
    ∀ (es : List Ent) (ms : List MapEntry) (i : Nat) (r : Option (Nat × AVal × Nat)), EntsRel φ es ms → findA tt h ki key es i = some r →
      ∃ r', (Instr.findAsking kt key' ms i).run P w = .ok r' w ∧ FindRel φ es ms i r r'
  | [], _, i, r, .nil, hf => by cases hf; exact ⟨none, rfl, trivial⟩
  | e :: es, _, i, r, .cons _ m _ ms h1 h2 h3 h4, hf => by
    obtain ⟨b, hb, hf⟩ := ob_some hf
    have he := eqA_ok hT H eqDepth 10000 (by decide) kt ki k key e.1 key' m.key b hk h1 hb
    simp only [Instr.findAsking, Sem.run_bind, Op.equal, Op.maxDepth]
    rw [he]
    cases b with
    | true =>
      cases hf
      exact ⟨some (i, m.val), by simp, rfl, Nat.le_refl _, h2, e, m, by simp, by simp, rfl, rfl, rfl, h3.symm, h1⟩
    | false =>
      simp only [seqN_eq] at hf
      obtain ⟨r', hr', hR⟩ := findA_ok hT H k hk es ms (i + 1) r h4 hf
      refine ⟨r', by simpa using hr', ?_⟩
      cases r with
      | none => cases r' with
        | none => trivial
        | some _ => exact hR.elim
      | some q => cases r' with
        | none => exact hR.elim
        | some q' =>
          obtain ⟨qi, qv, qb⟩ := q
          obtain ⟨qj, qx⟩ := q'
          obtain ⟨g1, g2, g3, e', m', g4, g5, g6⟩ := hR
          refine ⟨g1, by omega, g3, e', m', ?_, ?_, g6⟩
          · rw [show qi - i = (qi - (i + 1)) + 1 from by omega]; simpa using g4
          · rw [show qi - i = (qi - (i + 1)) + 1 from by omega]; simpa using g5
/-! the check of a key -/
theorem checkKey_scalar {empty : Bool} {n : Nat} {t : TypeId} {i : TI} (k : TIok P t i) (hs : scalarD i.desc = true) (v : Value) {w : World} : (Instr.checkKey empty (n + 1) t v).run P w = .ok () w := by
  have hd := k.hdesc
  simp only [Instr.checkKey, Sem.run_bind, k.rUnd, Result.andThen_ok]
  revert hd hs
  cases i.desc <;> intro hs hd <;> try (cases hs; done)
  all_goals (simp only [TDRel] at hd; rw [hd]; rfl)
theorem checkKey_fields (hT : TTok P tt) {empty : Bool} {n size : Nat} {cs : Array Value} (hn : cs.size = size) {w : World} : ∀ (fs : List Field), (∀ f ∈ fs, keyF tt size (f.offset, f.type, decide (f.name ≠ "_")) = true) →
    (forIn fs PUnit.unit fun f _ => (if f.name ≠ "_" then do Instr.checkKey empty (n + 1) f.type (← part f.type cs f.offset); pure (ForInStep.yield PUnit.unit) else pure (ForInStep.yield PUnit.unit) : Sem _)).run P w = .ok PUnit.unit w
  | [], _ => rfl
  | f :: fs, h => by
    have hf := h f (by simp)
    have ih := checkKey_fields hT (empty := empty) (n := n) hn (w := w) fs (fun g hg => h g (by simp [hg]))
    unfold keyF at hf
    cases hg : tt.get f.type with
    | none => rw [hg] at hf; cases hf
    | some ti =>
      rw [hg] at hf
      obtain ⟨h1, h2⟩ := andB_iff.1 hf
      obtain ⟨k⟩ := hT _ _ hg
      rw [blt_dec] at h2
      have h2 : f.offset < size := of_decide_eq_true h2
      have hagg : ti.agg = false := by
        rw [k.hagg]
        have hd := k.hdesc
        revert h1 hd
        cases ti.desc <;> intro h1 hd <;> try (cases h1; done)
        all_goals (simp only [TDRel] at hd; rw [hd]; rfl)
      have hp : (part f.type cs f.offset).run P w = .ok cs[f.offset] w := by
        simp [part, k.rAgg, hagg, Array.getElem?_eq_getElem (show f.offset < cs.size by omega)]
      rw [List.forIn_cons]
      by_cases hn : f.name ≠ "_"
      · rw [if_pos hn]
        simp only [Sem.run_bind, hp, Result.andThen_ok, checkKey_scalar k h1, Sem.run_pure]
        exact ih
      · rw [if_neg hn]
        simp only [Sem.run_bind, Sem.run_pure, Result.andThen_ok]
        exact ih
theorem checkKey_ok (hT : TTok P tt) {φ : Ren} {empty : Bool} {t : TypeId} {ki : TI} (k : TIok P t ki) (hs : keyT tt ki = true) {v : AVal} (hv : keyOk ki v = true) {x : Value} (hx : VRel φ v x) {w : World} :
    (Instr.checkKey empty 10000 t x).run P w = .ok () w := by
  have hd := k.hdesc
  unfold keyT at hs
  unfold keyOk at hv
  cases hdd : ki.desc <;> rw [hdd] at hs hv hd <;> try (cases hs; done)
  · exact checkKey_scalar k (by rw [hdd]; exact hs) x
  · exact checkKey_scalar k (by rw [hdd]; exact hs) x
  · exact checkKey_scalar k (by rw [hdd]; exact hs) x
  · obtain ⟨fields, he, hfs⟩ := hd
    cases v <;> try (cases hv; done)
    rename_i l
    cases hx with | agg _ xs hxs h1 =>
    have hl := hxs.length
    have hv := (andB_iff.1 hv).1
    rw [beq_dec] at hv
    have hv := of_decide_eq_true hv
    have hsize : xs.size = ki.size := by
      have : xs.toList.length = xs.size := Array.length_toList
      omega
    have := checkKey_fields hT (empty := empty) (n := 9998) hsize (w := w) fields.toList (fun f hf => by
      rw [hfs] at hs
      exact allB_iff.1 hs _ (List.mem_map_of_mem hf))
    rw [Instr.checkKey]
    simp only [Sem.run_bind, k.rUnd, he, Result.andThen_ok]
    rw [← Array.forIn_toList]
    erw [this]
    rfl
theorem checkKeyL_ok (hT : TTok P tt) {φ : Ren} {empty : Bool} {t : TypeId} {ki : TI} (k : TIok P t ki) (hs : keyT tt ki = true) {v : AVal} (hv : keyOkL ki v = true) {x : Value} (hx : VRel φ v x) {w : World} :
    (Instr.checkKey empty 10000 t x).run P w = .ok () w := by
  unfold keyOkL at hv
  split at hv
  · rename_i h; exact checkKey_ok hT k hs h hx
  · split at hv
    · rename_i q hq
      exact checkKey_scalar k (by rw [hq]; rfl) x
    · cases hv
end
end Go.Proofs.YtcbacbfjjahcbaaGreatDoor.Ev
namespace Go.Proofs.YtcbacbfjjahcbaaGreatDoor.Ev
set_option linter.unusedVariables false
set_option linter.unusedSimpArgs false
open Go
section
variable {P : Program} {tt : TT} {sl : SL} {o : Oper}

theorem isNilC_eq {y : Operand} (h : isNilC y = true) : y = .const .nilIface := by
  unfold isNilC at h
  split at h
  · rfl
  · cases h
def eqOp (neg : Bool) : BinOp := match neg with | true => .neq | false => .eql
theorem equal_succ (t : TypeId) (x y : Value) : Op.equal t x y = Op.equalIn (9999 + 1) t x y := rfl
theorem pIsNil {neg : Bool} {t : TypeId} {x y : Operand} {yt : TypeId} (ho : o.op = .binOp (eqOp neg) t x y yt) {i : TI} (k : TIok P t i) {e : Bool} (hd : i.desc = .iface e) (hy : isNilC y = true) :
    POK P sl o (fun vs ρ => ob (isNilIface ((vk sl x).get vs ρ)) fun b => match neg with | true => mkB (notB b) | false => mkB b) := by
  intro φ vs ρ a w v hl hf
  have hy := isNilC_eq hy; subst hy
  obtain ⟨b, h1, h2⟩ := ob_some hf
  have hc := hl.at ho (x := x) (by simp [Op.operands])
  generalize (vk sl x).get vs ρ = cv at hc h1
  have hdd := k.hdesc
  rw [hd] at hdd
  obtain ⟨ms, hdd, _⟩ := hdd
  generalize hce : a.eval x = ce at hc
  have he : a.eval (.const .nilIface) = .nilIface := rfl
  have key : ∃ r, ((eqGuard (eqOp neg) t x (.const .nilIface) (a.eval x) (a.eval (.const .nilIface)) >>= fun _ => binOp (eqOp neg) t (a.eval x) (a.eval (.const .nilIface))).run P w) = .ok r w ∧ VRel φ v r := by
    rw [hce, he]
    cases hc <;> try (cases h1; done)
    case nilIface =>
      cases h1
      have q : (Op.equal t .nilIface .nilIface).run P w = .ok true w := by
        rw [equal_succ, Op.equalIn]; simp only [Sem.run_bind, k.rUnd, hdd, Result.andThen_ok]; rfl
      have g : ∀ op, (eqGuard op t x (.const .nilIface) .nilIface .nilIface).run P w = .ok () w := by
        intro op; unfold eqGuard; cases op <;> cases x <;> rfl
      cases neg
      · cases h2
        exact ⟨.bool true, by simp only [Sem.run_bind, g, Result.andThen_ok, eqOp, binOp, q, Sem.run_pure], .bool _⟩
      · cases h2
        exact ⟨.bool false, by simp only [Sem.run_bind, g, Result.andThen_ok, eqOp, binOp, q, Sem.run_pure]; rfl, .bool _⟩
    case iface ty u u' hu =>
      cases h1
      have q : (Op.equal t (.iface ty u') .nilIface).run P w = .ok false w := by
        rw [equal_succ, Op.equalIn]; simp only [Sem.run_bind, k.rUnd, hdd, Result.andThen_ok]; rfl
      have g : ∀ op, (eqGuard op t x (.const .nilIface) (.iface ty u') .nilIface).run P w = .ok () w := by
        intro op; unfold eqGuard; cases op <;> rfl
      cases neg
      · cases h2
        exact ⟨.bool false, by simp only [Sem.run_bind, g, Result.andThen_ok, eqOp, binOp, q, Sem.run_pure], .bool _⟩
      · cases h2
        exact ⟨.bool true, by simp only [Sem.run_bind, g, Result.andThen_ok, eqOp, binOp, q, Sem.run_pure]; rfl, .bool _⟩
  obtain ⟨r, hr, hv⟩ := key
  exact ⟨r, exec_bin ho hr, hv⟩
/-- values that the model's general comparison is for -/
def plainV : Value → Bool
  | .int _ _ => false
  | .string _ => false
  | .float _ _ => false
  | .complex _ _ _ => false
  | .nilIface => false
  | .agg _ => false
  | _ => true
theorem eqGuard_plain {op : BinOp} {t : TypeId} {x y : Operand} {a b : Value} {w : World} (h : plainV a = true ∨ plainV b = true) : (eqGuard op t x y a b).run P w = .ok () w := by
  unfold eqGuard
  cases op <;> try rfl
  all_goals (
    rcases h with h | h
    · cases a <;> first | (cases h; done) | rfl
    · cases a <;> first | rfl | (cases b <;> first | (cases h; done) | rfl))
theorem eqGuard_agg {op : BinOp} {t : TypeId} {x y : Operand} {a b : Array Value} {w : World} (h : P.eqGuardType P.depth t = false) : (eqGuard op t x y (.agg a) (.agg b)).run P w = .ok () w := by
  unfold eqGuard
  cases op <;> try rfl
  all_goals (
    simp only [Bool.not_true, Bool.false_eq_true, if_false, Sem.run_bind, run_program, Result.andThen_ok, h, Bool.not_false, if_true]; rfl)
theorem bin_eq {neg : Bool} {t : TypeId} {a b : Value} {w : World} {r : Bool} (h : plainV a = true ∨ plainV b = true ∨ (∃ xs ys, a = .agg xs ∧ b = .agg ys)) (hr : (Op.equal t a b).run P w = .ok r w) :
    (binOp (eqOp neg) t a b).run P w = .ok (.bool (match neg with | true => !r | false => r)) w := by
  have e1 : binOp .eql t a b = (do pure (.bool (← Op.equal t a b))) := by
    rcases h with h | h | ⟨xs, ys, rfl, rfl⟩
    · cases a <;> first | (cases h; done) | rfl
    · cases a <;> cases b <;> first | (cases h; done) | rfl
    · rfl
  have e2 : binOp .neq t a b = (do pure (.bool (!(← Op.equal t a b)))) := by
    rcases h with h | h | ⟨xs, ys, rfl, rfl⟩
    · cases a <;> first | (cases h; done) | rfl
    · cases a <;> cases b <;> first | (cases h; done) | rfl
    · rfl
  cases neg
  · simp only [eqOp, e1, Sem.run_bind, hr, Result.andThen_ok, Sem.run_pure]
  · simp only [eqOp, e2, Sem.run_bind, hr, Result.andThen_ok, Sem.run_pure]
theorem eq_shape {tt : TT} {h : Heap} {t : TypeId} {i : TI} (k : TIok P t i) {cx cy : AVal} {xv yv : Value} {φ : Ren} {b : Bool} {d : Nat} (hx : VRel φ cx xv) (hy : VRel φ cy yv) (hb : eqA tt h (d + 1) i cx cy = some b)
    (h1 : ∀ k, i.desc ≠ .int k) (h2 : i.desc ≠ .str) : (plainV xv = true ∨ plainV yv = true) ∨ ∃ xs ys, xv = .agg xs ∧ yv = .agg ys ∧ P.eqGuardType P.depth t = false := by
  unfold eqA at hb
  cases hd : i.desc <;> rw [hd] at hb <;> simp only [] at hb
  case int k => exact absurd hd (h1 k)
  case str => exact absurd hd h2
  case bool => unfold eqBoolV at hb; split at hb <;> first | (cases hb; done) | (cases hx; exact .inl (.inl rfl))
  case ptr e => unfold eqPtrV at hb; split at hb <;> first | (cases hb; done) | (cases hx; exact .inl (.inl rfl))
  case slice e => unfold eqSlV at hb; split at hb <;> first | (cases hb; done) | (cases hx; exact .inl (.inl rfl))
  case map e => unfold eqMapV at hb; split at hb <;> first | (cases hb; done) | (cases hx; exact .inl (.inl rfl))
  case func => unfold eqFnV at hb; split at hb <;> first | (cases hb; done) | (cases hx; exact .inl (.inl rfl))
  case iface e => unfold eqIfV at hb; split at hb <;> first | (cases hb; done) | (cases hy; exact .inl (.inr rfl)) | (cases hx; exact .inl (.inl rfl))
  case arr n e =>
    obtain ⟨h3, hb⟩ := when_some hb
    unfold eqArrV at hb; split at hb
    · cases hx; cases hy; exact .inr ⟨_, _, rfl, rfl, (k.heqs h3).2⟩
    · cases hb
  case struct fs =>
    obtain ⟨h3, hb⟩ := when_some hb
    unfold eqAggV at hb; split at hb
    · cases hx; cases hy; exact .inr ⟨_, _, rfl, rfl, (k.heqs h3).2⟩
    · cases hb
  all_goals cases hb
theorem nEq (hT : TTok P tt) {neg : Bool} {t : TypeId} {x y : Operand} {yt : TypeId} (ho : o.op = .binOp (eqOp neg) t x y yt) {i : TI} (k : TIok P t i) (h1 : ∀ k, i.desc ≠ .int k) (h2 : i.desc ≠ .str) :
    NOK P sl o (fun vs ρ h => eqBin tt i neg h ((vk sl x).get vs ρ) ((vk sl y).get vs ρ)) := by
  intro φ h vs ρ a w v hl H hf
  obtain ⟨b, h3, h4⟩ := ob_some hf
  have hx := hl.at ho (x := x) (by simp [Op.operands])
  have hy := hl.at ho (x := y) (by simp [Op.operands])
  have he := eqA_ok hT H eqDepth 10000 (by decide) t i k _ _ _ _ b hx hy h3
  have hs := eq_shape (d := 99) k hx hy h3 h1 h2
  have g : (eqGuard (eqOp neg) t x y (a.eval x) (a.eval y)).run P w = .ok () w := by
    rcases hs with hs | ⟨xs, ys, e1, e2, hg⟩
    · exact eqGuard_plain hs
    · rw [e1, e2]; exact eqGuard_agg hg
  have bb := bin_eq (neg := neg) (t := t) (a := a.eval x) (b := a.eval y) (w := w) (r := b) (by
    rcases hs with hs | ⟨xs, ys, e1, e2, _⟩
    · rcases hs with hs | hs
      · exact .inl hs
      · exact .inr (.inl hs)
    · exact .inr (.inr ⟨xs, ys, e1, e2⟩)) he
  refine ⟨_, exec_bin ho (by rw [Sem.run_bind, g, Result.andThen_ok, bb]), ?_⟩
  cases neg
  · cases b <;> cases h4 <;> exact .bool _
  · cases b <;> cases h4 <;> exact .bool _
end
end Go.Proofs.YtcbacbfjjahcbaaGreatDoor.Ev
namespace Go.Proofs.YtcbacbfjjahcbaaGreatDoor.Ev
set_option linter.unusedVariables false
set_option linter.unusedSimpArgs false
open Go
section
variable {P : Program} {tt : TT} {sl : SL} {o : Oper}

theorem exec_builtin {c : Call} {b : Builtin} (ho : o.op = .call c) (hc : c.callee = .builtin b) (a : Act) :
    execOp a.eval o = builtin b c.argTypes o.type (c.args.map fun | .const _ => true | _ => false) (c.args.map a.eval) := by
  simp only [execOp, ho, resolve, hc]
  rfl
theorem args_of {c : Call} {l : List Operand} (h : c.args.toList = l) (a : Act) : (c.args.map a.eval) = (l.map a.eval).toArray := by
  rw [← h]; exact Array.toList_inj.1 (by rw [Array.toList_map])
theorem arg_mem {c : Call} {b : Builtin} (hc : c.callee = .builtin b) {x : Operand} (h : x ∈ c.args.toList) : x ∈ (Op.call c).operands := by
  simp [Op.operands, Call.operands, hc]; simpa using h
theorem argTy {c : Call} {t : TypeId} {ts : List TypeId} (h : c.argTypes.toList = t :: ts) : c.argTypes[0]? = some t := by
  have : c.argTypes.toList[0]? = some t := by rw [h]; rfl
  simpa using this
theorem argTy1 {c : Call} {t u : TypeId} {ts : List TypeId} (h : c.argTypes.toList = t :: u :: ts) : c.argTypes[1]? = some u := by
  have : c.argTypes.toList[1]? = some u := by rw [h]; rfl
  simpa using this
theorem argTy1n {c : Call} {t : TypeId} (h : c.argTypes.toList = [t]) : c.argTypes[1]? = none := by
  have : c.argTypes.toList[1]? = none := by rw [h]; rfl
  simpa using this

/-! min, max -/
theorem ltI_dec (a b : Int) : ltI a b = decide (a < b) := ltI_eq a b
theorem minI_eq (a b : Int) : minI a b = if b < a then b else a := by
  unfold minI; rw [ltI_dec]; by_cases h : b < a <;> simp [h]
theorem maxI_eq (a b : Int) : maxI a b = if b > a then b else a := by
  unfold maxI; rw [ltI_dec]; by_cases h : a < b <;> simp [h]
theorem mm2_ok {mx : Bool} {φ : Ren} {u v r : AVal} {x y : Value} (hu : VRel φ u x) (hv : VRel φ v y) (h : mm2 mx u v = some r) (w : World) :
    ∃ z, ((match mx with | true => Builtin.max2 x y | false => Builtin.min2 x y).run P w) = .ok z w ∧ VRel φ r z := by
  unfold mm2 at h
  split at h
  · cases hu; cases hv
    obtain ⟨h1, h2⟩ := when_some h
    have := kindEq_iff.1 h1; subst this
    cases mx
    · cases h2
      refine ⟨_, rfl, ?_⟩
      rw [minI_eq]; exact .int _ _
    · cases h2
      refine ⟨_, rfl, ?_⟩
      rw [maxI_eq]; exact .int _ _
  · cases hu with | str a =>
    cases hv with | str b =>
    cases mx
    · obtain ⟨z, h1, h2⟩ := sok_ok (P := P) (w := w) .leq a b (.bool (!(sLt (enc b.data.toList) (enc a.data.toList)))) (by show mkB _ = _; rw [mkB_eq, notB_eq]) φ
      cases h2
      have h : (match sLt (enc b.data.toList) (enc a.data.toList) with | true => some (AVal.str (enc b.data.toList)) | false => some (.str (enc a.data.toList))) = some r := h
      simp only [Builtin.min2, Sem.run_bind, h1, Result.andThen_ok, asBool, Sem.run_pure]
      cases hs : sLt (enc b.data.toList) (enc a.data.toList) <;> rw [hs] at h <;> cases h
      · exact ⟨_, rfl, .str a⟩
      · exact ⟨_, rfl, .str b⟩
    · obtain ⟨z, h1, h2⟩ := sok_ok (P := P) (w := w) .geq a b (.bool (!(sLt (enc a.data.toList) (enc b.data.toList)))) (by show mkB _ = _; rw [mkB_eq, notB_eq]) φ
      cases h2
      have h : (match sLt (enc a.data.toList) (enc b.data.toList) with | true => some (AVal.str (enc b.data.toList)) | false => some (.str (enc a.data.toList))) = some r := h
      simp only [Builtin.max2, Sem.run_bind, h1, Result.andThen_ok, asBool, Sem.run_pure]
      cases hs : sLt (enc a.data.toList) (enc b.data.toList) <;> rw [hs] at h <;> cases h
      · exact ⟨_, rfl, .str a⟩
      · exact ⟨_, rfl, .str b⟩
  · rename_i r0 n
    cases mx with
    | true => cases h
    | false =>
      obtain ⟨h1, h2⟩ := when_some (show when (is20 n) (some (AVal.umin r0)) = some r from h)
      cases h2
      cases hu
      cases hv
      have hn : n = 20 := by
        cases n with
        | ofNat m => rw [Nat.eq_of_beq_eq_true (show Nat.beq m 20 = true from h1)]; rfl
        | negSucc m => cases h1
      subst hn
      have e : (Builtin.min2 (.int .i64 ((φ.raw r0).size : Int)) (.int .i64 20)).run P w = .ok (.int .i64 (if (20 : Int) < ((φ.raw r0).size : Int) then 20 else ((φ.raw r0).size : Int))) w := rfl
      refine ⟨_, e, ?_⟩
      have e2 : (if (20 : Int) < ((φ.raw r0).size : Int) then 20 else ((φ.raw r0).size : Int)) = ((min (φ.raw r0).size 20 : Nat) : Int) := by
        split <;> omega
      rw [e2]; exact .umin r0
  · cases h
theorem mmL_ok {mx : Bool} {φ : Ren} : ∀ {l : List AVal} {xs : List Value} {u r : AVal} {x : Value}, VRel φ u x → VRelL φ l xs → mmL mx u l = some r → ∀ (w : World),
    ∃ z, ((xs.foldlM (match mx with | true => Builtin.max2 | false => Builtin.min2) x).run P w) = .ok z w ∧ VRel φ r z
  | [], _, u, r, x, hu, .nil, h, w => by cases h; exact ⟨x, rfl, hu⟩
  | v :: l, _, u, r, x, hu, .cons _ y _ ys hv hl, h, w => by
    obtain ⟨z, h1, h2⟩ := ob_some h
    obtain ⟨z', hz, hr⟩ := mm2_ok (P := P) hu hv h1 w
    obtain ⟨z2, hz2, hr2⟩ := mmL_ok hr hl h2 w
    refine ⟨z2, ?_, hr2⟩
    cases mx <;> simp only [List.foldlM_cons, Sem.run_bind] at hz hz2 ⊢ <;> rw [hz, Result.andThen_ok, hz2]
theorem pMM {mx : Bool} {c : Call} (ho : o.op = .call c) (hc : c.callee = .builtin (match mx with | true => .max | false => .min)) : POK P sl o (fun vs ρ => mmV mx ((lk sl c.args.toList).get vs ρ)) := by
  intro φ vs ρ a w v hl hf
  have hr : VRelL φ ((lk sl c.args.toList).get vs ρ) (c.args.toList.map a.eval) := hl.list ho (fun x hx => arg_mem hc hx)
  rw [exec_builtin ho hc, args_of rfl]
  have hf : mmV mx _ = some v := hf
  generalize (lk sl c.args.toList).get vs ρ = l at hr hf
  generalize c.args.toList.map a.eval = xs at hr
  cases hr with
  | nil => cases hf
  | cons u x l xs hu hl' =>
    obtain ⟨z, hz, hv⟩ := mmL_ok (P := P) hu hl' hf w
    refine ⟨z, ?_, hv⟩
    cases mx
    · have hz : (xs.foldlM Builtin.min2 x).run P w = .ok z w := hz
      simp only [builtin, Builtin.min_, Sem.run_bind, hz]; rfl
    · have hz : (xs.foldlM Builtin.max2 x).run P w = .ok z w := hz
      simp only [builtin, Builtin.max_, Sem.run_bind, hz]; rfl
theorem pData {c : Call} {x : Operand} (ho : o.op = .call c) (hc : c.callee = .builtin .unsafeSliceData) (ha : c.args.toList = [x]) : POK P sl o (fun vs ρ => dataV ((vk sl x).get vs ρ)) := by
  intro φ vs ρ a w v hl hf
  have hr := hl.at ho (x := x) (arg_mem hc (by rw [ha]; simp))
  rw [exec_builtin ho hc, args_of ha]
  have hf : dataV _ = _ := hf
  generalize (vk sl x).get vs ρ = u at hr hf
  simp only [List.map_cons, List.map_nil]
  generalize a.eval x = y at hr
  cases hr <;> try (cases hf; done)
  case nilSlice => cases hf; exact ⟨_, rfl, .nilPtr⟩
  case slice id off len lim ad cap h hl1 ha1 hc1 h0 hk =>
    cases len with
    | zero => cases hf
    | succ n =>
      cases hf
      have : cap ≠ 0 := by omega
      refine ⟨.pointer (some ad), ?_, ?_⟩
      · show (Sem.bind (if cap ≠ 0 then pure (Value.pointer (some ad)) else _) _).run P w = _
        rw [if_pos this]; rfl
      · rw [ha1 this]; exact .ptr _ _ h

/-! len -/
theorem rGetObj {w : World} {r : Nat} {ob : Obj} (h : w.heap[r]? = some ob) (hn : ∀ c e f, ob ≠ .cells c e f) : (getObj r).run P w = .ok ob w := by
  simp only [getObj, Sem.run, h]
theorem mapOf_ok {φ : Ren} {h : Heap} {hp : Array Obj} (H : HRelR P φ h hp) {r : Nat} (hd : φ.dom r) {es : List Ent} {c : Nat} (hm : mapOf h r = some (es, c)) :
    h.objs.get r = some (.map es c) ∧ ∃ es' : Array MapEntry, hp[φ.blk r]? = some (.map es' c) ∧ EntsRel φ es es'.toList := by
  unfold mapOf at hm
  cases hg : h.objs.get r with
  | none => rw [hg] at hm; cases hm
  | some ob =>
    rw [hg] at hm
    cases ob <;> try (cases hm; done)
    cases hm
    obtain ⟨o', h1, es', h2, h3⟩ := H.obj r _ hd hg
    exact ⟨rfl, es', by rw [h1, h2], h3⟩
theorem exec_len {c : Call} {x : Operand} (ho : o.op = .call c) (hc : c.callee = .builtin .len) (ha : c.args.toList = [x]) {a : Act} {w w' : World} {z : Value}
    (h : (Builtin.len_ c.argTypes o.type #[a.eval x]).run P w = .ok z w') : (execOp a.eval o).run P w = .ok (.value z) w' := by
  rw [exec_builtin ho hc, args_of ha]
  show (Sem.bind (Builtin.len_ c.argTypes o.type #[a.eval x]) _).run P w = _
  have : ∀ (k : Value → Sem Next), ((Builtin.len_ c.argTypes o.type #[a.eval x]) >>= k).run P w = (k z).run P w' := by intro k; rw [Sem.run_bind, h]; rfl
  exact this _
theorem len_red {ats : Array TypeId} {ty t : TypeId} {y : Value} (ht : ats[0]? = some t) {d : TypeDesc} (hd : P.underlying t = some d) {w : World} :
    (d = .string → ∀ s, y = .string s → (Builtin.len_ ats ty #[y]).run P w = .ok (goInt s.size) w) ∧
    (∀ e, d = .slice e → ∀ b n m, y = .slice b n m → (Builtin.len_ ats ty #[y]).run P w = .ok (goInt n) w) ∧
    (∀ n e, d = .array n e → (Builtin.len_ ats ty #[y]).run P w = .ok (goInt n) w) ∧
    (∀ k e, d = .map k e → y = .map none → (Builtin.len_ ats ty #[y]).run P w = .ok (goInt 0) w) ∧
    (∀ k e, d = .map k e → ∀ r es cl, y = .map (some r) → w.heap[r]? = some (.map es cl) → (Builtin.len_ ats ty #[y]).run P w = .ok (goInt es.size) w) ∧
    (∀ u, d = .pointer u → ∀ n e, P.underlying u = some (.array n e) → (Builtin.len_ ats ty #[y]).run P w = .ok (goInt n) w) := by
  have e0 : ((#[y] : Array Value)[0]?) = some y := rfl
  simp only [Builtin.len_, ht, e0, Sem.run_bind, rUnd hd, Result.andThen_ok]
  refine ⟨fun hd s hy => ?_, fun e hd b n m hy => ?_, fun n e hd => ?_, fun k e hd hy => ?_, fun k e hd r es cl hy hr => ?_, fun u hd n e hu => ?_⟩
  · subst hd; subst hy; rfl
  · subst hd; subst hy; rfl
  · subst hd; cases y <;> rfl
  · subst hd; subst hy; rfl
  · subst hd; subst hy
    simp only [Sem.run_bind, rGetObj hr (by intro _ _ _ e; cases e), Result.andThen_ok]; rfl
  · subst hd
    have : ((do
      let __x ← underlying u
      match __x with
        | TypeDesc.array n elem => pure (goInt ↑n)
        | x => stuck "len: pointer to array expected" : Sem Value)).run P w = .ok (goInt n) w := by
      rw [Sem.run_bind, rUnd hu]; rfl
    cases y <;> exact this
theorem pLenStr {c : Call} {x : Operand} (ho : o.op = .call c) (hc : c.callee = .builtin .len) (ha : c.args.toList = [x]) {t : TypeId} {ts : List TypeId} (ht : c.argTypes.toList = t :: ts) {i : TI} (k : TIok P t i)
    (hd : i.desc = .str) : POK P sl o (fun vs ρ => lenStr ((vk sl x).get vs ρ)) := by
  intro φ vs ρ a w v hl hf
  have hr := hl.at ho (x := x) (arg_mem hc (by rw [ha]; simp))
  have hf : lenStr _ = _ := hf
  generalize (vk sl x).get vs ρ = u at hr hf
  have hdd := k.hdesc
  rw [hd] at hdd
  have hdd : k.desc = .string := hdd
  generalize he : a.eval x = y at hr
  cases hr <;> try (cases hf; done)
  · rename_i s
    simp only [lenStr, seqN_eq, enc_len] at hf
    cases hf
    exact ⟨_, exec_len ho hc ha (by rw [he]; exact (len_red (argTy ht) k.hund).1 hdd _ rfl), by rw [← ba_size]; exact .int _ _⟩
  · rename_i r c hc'
    cases hf
    exact ⟨_, exec_len ho hc ha (by rw [he]; exact (len_red (argTy ht) k.hund).1 hdd _ rfl), .ulen r⟩
  · rename_i p q c s hs
    have hf : (seqN (Nat.add (sLen (enc p)) (sLen (enc q))) fun n => seqN (Nat.add n 20) fun m => some (AVal.rng .i64 (some (.ofNat n)) (some (.ofNat m)))) = some v := hf
    rw [seqN_eq, seqN_eq, enc_len, enc_len] at hf
    cases hf
    have hl := congrArg List.length hs
    rw [List.length_append, List.length_append] at hl
    have hu := cy_len φ c
    refine ⟨_, exec_len ho hc ha (by rw [he]; exact (len_red (argTy ht) k.hund).1 hdd _ rfl), VRel.rng .i64 _ _ (s.size : Int) (fun l h => ?_) (fun u h => ?_)⟩
    · injection h with h
      have h : ((p.length + q.length : Nat) : Int) = l := h
      rw [ba_size]; omega
    · injection h with h
      have h : ((p.length + q.length + 20 : Nat) : Int) = u := h
      rw [ba_size]; omega
theorem pLenSl {c : Call} {x : Operand} (ho : o.op = .call c) (hc : c.callee = .builtin .len) (ha : c.args.toList = [x]) {t : TypeId} {ts : List TypeId} (ht : c.argTypes.toList = t :: ts) {i : TI} (k : TIok P t i)
    {e : TypeId} (hd : i.desc = .slice e) : POK P sl o (fun vs ρ => lenSl ((vk sl x).get vs ρ)) := by
  intro φ vs ρ a w v hl hf
  have hr := hl.at ho (x := x) (arg_mem hc (by rw [ha]; simp))
  have hf : lenSl _ = _ := hf
  generalize (vk sl x).get vs ρ = u at hr hf
  have hdd := k.hdesc
  rw [hd] at hdd
  have hdd : k.desc = .slice e := hdd
  generalize he : a.eval x = y at hr
  cases hr <;> try (cases hf; done)
  · cases hf; exact ⟨_, exec_len ho hc ha (by rw [he]; exact (len_red (argTy ht) k.hund).2.1 _ hdd _ _ _ rfl), .int _ _⟩
  · cases hf; exact ⟨_, exec_len ho hc ha (by rw [he]; exact (len_red (argTy ht) k.hund).2.1 _ hdd _ _ _ rfl), .int _ _⟩
theorem nLenMap {c : Call} {x : Operand} (ho : o.op = .call c) (hc : c.callee = .builtin .len) (ha : c.args.toList = [x]) {t : TypeId} {ts : List TypeId} (ht : c.argTypes.toList = t :: ts) {i : TI} (k : TIok P t i)
    {ka e : TypeId} (hd : i.desc = .map ka e) : NOK P sl o (fun vs ρ h => lenMap h ((vk sl x).get vs ρ)) := by
  intro φ h vs ρ a w v hl H hf
  have hr := hl.at ho (x := x) (arg_mem hc (by rw [ha]; simp))
  have hf : lenMap _ _ = _ := hf
  generalize (vk sl x).get vs ρ = u at hr hf
  have hdd := k.hdesc
  rw [hd] at hdd
  have hdd : k.desc = .map ka e := hdd
  generalize he : a.eval x = y at hr
  cases hr <;> try (cases hf; done)
  · cases hf; exact ⟨_, exec_len ho hc ha (by rw [he]; exact (len_red (argTy ht) k.hund).2.2.2.1 _ _ hdd rfl), .int _ _⟩
  · rename_i r hdr
    obtain ⟨⟨es, cl⟩, h1, h2⟩ := ob_some (show ob (mapOf h r) (fun m => seqN m.1.length fun n => some (.int .i64 (.ofNat n))) = some v from hf)
    rw [seqN_eq] at h2
    cases h2
    obtain ⟨_, es', h3, h4⟩ := mapOf_ok H hdr h1
    refine ⟨_, exec_len ho hc ha (z := goInt es'.size) (by rw [he]; exact (len_red (argTy ht) k.hund).2.2.2.2.1 _ _ hdd _ _ _ rfl h3), ?_⟩
    rw [← Array.length_toList, ← h4.length]; exact .int _ _
theorem pLenArr {c : Call} {x : Operand} (ho : o.op = .call c) (hc : c.callee = .builtin .len) (ha : c.args.toList = [x]) {t : TypeId} {ts : List TypeId} (ht : c.argTypes.toList = t :: ts) {i : TI} (k : TIok P t i)
    {n : Nat} {e : TypeId} (hd : i.desc = .arr n e) : POK P sl o (fun _ _ => some (.int .i64 (.ofNat n))) := by
  intro φ vs ρ a w v hl hf
  have hdd := k.hdesc
  rw [hd] at hdd
  have hdd : k.desc = .array n e := hdd
  cases hf
  exact ⟨_, exec_len ho hc ha ((len_red (argTy ht) k.hund).2.2.1 _ _ hdd), .int _ _⟩
theorem pLenPtr {c : Call} {x : Operand} (ho : o.op = .call c) (hc : c.callee = .builtin .len) (ha : c.args.toList = [x]) {t : TypeId} {ts : List TypeId} (ht : c.argTypes.toList = t :: ts) {i : TI} (k : TIok P t i)
    {n : Nat} {e u : TypeId} (hd : i.desc = .ptr u) {j : TI} (ku : TIok P u j) (hu : j.desc = .arr n e) : POK P sl o (fun _ _ => some (.int .i64 (.ofNat n))) := by
  intro φ vs ρ a w v hl hf
  have hdd := k.hdesc
  rw [hd] at hdd
  have hdd : k.desc = .pointer u := hdd
  have huu := ku.hdesc
  rw [hu] at huu
  have huu : ku.desc = .array n e := huu
  cases hf
  exact ⟨_, exec_len ho hc ha ((len_red (argTy ht) k.hund).2.2.2.2.2 _ hdd _ _ (by rw [ku.hund, huu])), .int _ _⟩
end
end Go.Proofs.YtcbacbfjjahcbaaGreatDoor.Ev
namespace Go.Proofs.YtcbacbfjjahcbaaGreatDoor.Ev
set_option linter.unusedVariables false
set_option linter.unusedSimpArgs false
open Go
section
variable {P : Program} {tt : TT} {sl : SL} {o : Oper}

theorem depth_succ (P : Program) : ∃ d, P.depth = d + 1 := ⟨2 * (P.types.size + Made.depth) + 1, rfl⟩
/-- a pointer to a whole variable at the beginning of a row -/
theorem ptrAt_ok {φ : Ren} {h : Heap} {hp : Array Obj} (H : HRelR P φ h hp) {id off : Nat} (hd : φ.dom id) {u : TypeId} {i : TI} (k : TIok P u i) {v : AVal} (hv : ptrAt id off u i.size (h.objs.get id) = some v) :
    v = .ptr id off ∧ off = 0 ∧ 0 < i.size ∧ ∃ cc fz, hp[φ.blk id]? = some (.cells cc u fz) ∧ φ.off id + i.size ≤ cc.size ∧ φ.off id % i.size = 0 := by
  unfold ptrAt at hv
  split at hv
  · rename_i c lo hi et hg
    obtain ⟨h1, hv1⟩ := when_some hv
    obtain ⟨h2, hv2⟩ := when_some hv1
    obtain ⟨h3, hv3⟩ := when_some hv2
    obtain ⟨h4, hv4⟩ := when_some hv3
    clear hv hv1 hv2 hv3
    rw [beq_dec] at h1 h2
    rw [ble_dec] at h3
    rw [blt_dec] at h4
    have h1 := of_decide_eq_true h1
    have h2 := of_decide_eq_true h2
    have h3 := of_decide_eq_true h3
    have h4 := of_decide_eq_true h4
    subst h2
    cases hv4
    obtain ⟨o', h5, cc, fz, h6, R⟩ := H.obj id _ hd hg
    have hs : φ.sz id = i.size := by rw [← R.sz, k.cells]
    refine ⟨rfl, h1, h4, cc, fz, by rw [h5, h6], ?_, by rw [← hs]; exact R.al⟩
    have := R.fit
    have := R.lo
    omega
  · cases hv
theorem rSeenAt {w : World} {a : Addr} {cc : Array Value} {et : TypeId} {fz : Nat × Nat} (hb : w.heap[a.block]? = some (.cells cc et fz)) : (Conv.seenAt a).run P w = .ok a w := by
  simp [Conv.seenAt, viewAt, World.shape?, hb]
theorem nConvPU {s d e : TypeId} {x : Operand} (ho : o.op = .convert s d x) {si di ei : TI} (ks : TIok P s si) (kd : TIok P d di) (ke : TIok P e ei) (hs : si.desc = .ptr e) (hd : di.desc = .uptr) :
    NOK P sl o (fun vs ρ h => convPtr e ei.size h ((vk sl x).get vs ρ)) := by
  intro φ h vs ρ a w v hl H hf
  have hr := hl.at ho (x := x) (by simp [Op.operands])
  have hf : convPtr _ _ _ _ = _ := hf
  generalize (vk sl x).get vs ρ = u at hr hf
  have hss := ks.hdesc
  rw [hs] at hss
  have hss : ks.desc = .pointer e := hss
  have hdd := kd.hdesc
  rw [hd] at hdd
  have hdd : kd.desc = .unsafePointer := hdd
  generalize he : a.eval x = y at hr
  cases hr <;> try (cases hf; done)
  · cases hf
    exact ⟨_, by simp only [execOp, ho, he, convert, Sem.run_bind, ks.rUnd, kd.rUnd, hss, hdd, Result.andThen_ok, Conv.unsafePointer, Sem.run_pure], .nilPtr⟩
  · rename_i id off hdom
    obtain ⟨h1, h2, h3, cc, fz, h4, h5, _⟩ := ptrAt_ok H hdom ke hf
    subst h1; subst h2
    refine ⟨.pointer (some (baseOf φ id 0)), ?_, .ptr _ _ hdom⟩
    have hne : ei.size ≠ 0 := by omega
    have hnl : ¬ cc.size ≤ φ.off id := by omega
    have hsz : (sizeOf e).run P w = .ok ei.size w := ke.rSize
    have hseen := rSeenAt (P := P) (a := baseOf φ id 0) h4
    have hcells : (cellsIn (baseOf φ id 0).block).run P w = .ok (some cc.size) w := by
      simp [cellsIn, World.shape?, baseOf, h4]
    simp only [execOp, ho, he, convert, Sem.run_bind, ks.rUnd, kd.rUnd, hss, hdd, Result.andThen_ok, Conv.unsafePointer, hseen, hcells, hsz]
    simp [hne, baseOf, hnl]
theorem nConvUP {s d e : TypeId} {x : Operand} (ho : o.op = .convert s d x) {si di ei : TI} (ks : TIok P s si) (kd : TIok P d di) (ke : TIok P e ei) (hs : si.desc = .uptr) (hd : di.desc = .ptr e) :
    NOK P sl o (fun vs ρ h => convPtr e ei.size h ((vk sl x).get vs ρ)) := by
  intro φ h vs ρ a w v hl H hf
  have hr := hl.at ho (x := x) (by simp [Op.operands])
  have hf : convPtr _ _ _ _ = _ := hf
  generalize (vk sl x).get vs ρ = u at hr hf
  have hss := ks.hdesc
  rw [hs] at hss
  have hss : ks.desc = .unsafePointer := hss
  have hdd := kd.hdesc
  rw [hd] at hdd
  have hdd : kd.desc = .pointer e := hdd
  generalize he : a.eval x = y at hr
  cases hr <;> try (cases hf; done)
  · cases hf
    exact ⟨_, by simp only [execOp, ho, he, convert, Sem.run_bind, ks.rUnd, kd.rUnd, hss, hdd, Result.andThen_ok, Conv.unsafePointer, Sem.run_pure], .nilPtr⟩
  · rename_i id off hdom
    obtain ⟨h1, h2, h3, cc, fz, h4, h5, h6⟩ := ptrAt_ok H hdom ke hf
    subst h1; subst h2
    refine ⟨.pointer (some (baseOf φ id 0)), ?_, .ptr _ _ hdom⟩
    have hne : ei.size ≠ 0 := by omega
    have hsz : (sizeOf e).run P w = .ok ei.size w := ke.rSize
    have hseen := rSeenAt (P := P) (a := baseOf φ id 0) h4
    obtain ⟨dp, hdp⟩ := depth_succ P
    have hlie : liesAt P P.depth e (cc.size / P.cellsOf e) (baseOf φ id 0).off e 1 = true := by
      rw [hdp, liesAt, hdp, rowAt, ke.cells]
      have h7 : sameLayout P (dp + 1) e e = true := by rw [sameLayout]; simp
      have h8 : φ.off id / ei.size + 1 ≤ cc.size / ei.size := by
        have hq : φ.off id / ei.size + 1 = (φ.off id + ei.size) / ei.size := by rw [Nat.add_div_right _ h3]
        rw [hq]; exact Nat.div_le_div_right h5
      simp [hne, baseOf, h6, h7, h8]
    have hvar : (variablesAt (baseOf φ id 0) e 1).run P w = .ok true w := by
      have hsh : w.shape? (baseOf φ id 0).block = some (e, cc.size) := by simp [World.shape?, baseOf, h4]
      simp only [variablesAt, Sem.run_bind, run_program, run_shape, hsh, Result.andThen_ok, hlie, Sem.run_pure]
    simp only [execOp, ho, he, convert, Sem.run_bind, ks.rUnd, kd.rUnd, hss, hdd, Result.andThen_ok, Conv.unsafePointer, hseen, hsz, hvar]
    simp
end
end Go.Proofs.YtcbacbfjjahcbaaGreatDoor.Ev
namespace Go.Proofs.YtcbacbfjjahcbaaGreatDoor.Ev
set_option linter.unusedVariables false
set_option linter.unusedSimpArgs false
open Go
section
variable {P : Program} {tt : TT} {sl : SL} {o : Oper}

theorem natV_id {v : AVal} {n : Nat} (h : natV some v = some n) : ∃ k, v = .int k (.ofNat n) := by
  obtain ⟨k, m, h1, h2⟩ := natV_some h
  injection h2 with h2; subst h2
  exact ⟨k, h1⟩
theorem bk_ok {φ : Ren} {vs : List AVal} {ρ : T AVal} {a : Act} {lo : Option Operand} (hl : ∀ x, lo = some x → VRel φ ((vk sl x).get vs ρ) (a.eval x)) {d n : Nat} (h : (bk sl lo).get vs ρ d = some n) :
    (lo = none ∧ n = d) ∨ ∃ x k, lo = some x ∧ a.eval x = .int k (.ofNat n) := by
  cases lo with
  | none => left; have h : some d = some n := h; injection h with h; exact ⟨rfl, h.symm⟩
  | some x =>
    right
    obtain ⟨k, hk⟩ := natV_id (show natV some ((vk sl x).get vs ρ) = some n from h)
    have := hl x rfl
    rw [hk] at this
    generalize hy : a.eval x = y at this
    cases this
    exact ⟨x, k, rfl, hy⟩
theorem rBound {w : World} {k : IntKind} {n y : Nat} {c : BoundsCode} (h : n ≤ y) : (Instr.sliceBound (.int k (.ofNat n)) y c).run P w = .ok n w := by
  have h0 : (0 : Int) ≤ (n : Int) := by omega
  have h1 : (n : Int) ≤ (y : Int) := by omega
  simp [Instr.sliceBound, asIntOf, h]
theorem rBounds {w : World} {b : Bool} {len cap l hh : Nat} {a : Act} {lo hi : Option Operand} (hlo : (lo = none ∧ l = 0) ∨ ∃ x k, lo = some x ∧ a.eval x = .int k (.ofNat l))
    (hhi : (hi = none ∧ hh = len) ∨ ∃ x k, hi = some x ∧ a.eval x = .int k (.ofNat hh)) (h1 : l ≤ hh) (h2 : hh ≤ cap) :
    (Instr.sliceBounds b len cap (lo.map a.eval) (hi.map a.eval) none).run P w = .ok (l, hh, cap) w := by
  rcases hlo with ⟨rfl, rfl⟩ | ⟨x, k, rfl, e2⟩ <;> rcases hhi with ⟨rfl, rfl⟩ | ⟨y, k', rfl, e4⟩
  · simp only [Instr.sliceBounds, Option.map_none, Sem.run_bind, Sem.run_pure, Result.andThen_ok, Option.isSome_none]
  · simp only [Instr.sliceBounds, Option.map_none, Option.map_some, Sem.run_bind, Sem.run_pure, Result.andThen_ok, Option.isSome_none, e4, rBound h2]
  · simp only [Instr.sliceBounds, Option.map_none, Option.map_some, Sem.run_bind, Sem.run_pure, Result.andThen_ok, Option.isSome_none, e2, rBound h1]
  · simp only [Instr.sliceBounds, Option.map_none, Option.map_some, Sem.run_bind, Sem.run_pure, Result.andThen_ok, Option.isSome_none, e2, e4, rBound h1, rBound h2]
theorem rBounds3 {w : World} {b : Bool} {len cap l hh m : Nat} {a : Act} {lo : Option Operand} {hi mx : Operand} {k1 k2 : IntKind} (hlo : (lo = none ∧ l = 0) ∨ ∃ x k, lo = some x ∧ a.eval x = .int k (.ofNat l))
    (hhi : a.eval hi = .int k1 (.ofNat hh)) (hmx : a.eval mx = .int k2 (.ofNat m)) (h1 : l ≤ hh) (h2 : hh ≤ m) (h3 : m ≤ cap) :
    (Instr.sliceBounds b len cap (lo.map a.eval) (some (a.eval hi)) (some (a.eval mx))).run P w = .ok (l, hh, m) w := by
  rcases hlo with ⟨rfl, rfl⟩ | ⟨x, k, rfl, e2⟩
  · simp only [Instr.sliceBounds, Option.map_none, Sem.run_bind, Sem.run_pure, Result.andThen_ok, hhi, hmx, rBound h2, rBound h3]
  · simp only [Instr.sliceBounds, Option.map_some, Sem.run_bind, Sem.run_pure, Result.andThen_ok, e2, hhi, hmx, rBound h1, rBound h2, rBound h3]
theorem pSliceStr {t : TypeId} {x : Operand} {lo hi : Option Operand} (ho : o.op = .slice t x lo hi none) {i : TI} (k : TIok P t i) (hd : i.desc = .str) :
    POK P sl o (fun vs ρ => cutK lo (vkO sl hi) vs ρ (bk sl lo) (bk sl hi) ((vk sl x).get vs ρ)) := by
  intro φ vs ρ a w v hl hf
  have hr := hl.at ho (x := x) (by simp [Op.operands])
  have hlo : ∀ y, lo = some y → VRel φ ((vk sl y).get vs ρ) (a.eval y) := fun y e => hl.at ho (by simp [Op.operands, e])
  have hhi : ∀ y, hi = some y → VRel φ ((vk sl y).get vs ρ) (a.eval y) := fun y e => hl.at ho (by simp [Op.operands, e])
  have hf : cutK _ _ _ _ _ _ _ = _ := hf
  generalize (vk sl x).get vs ρ = u at hr hf
  have hdd := k.hdesc
  rw [hd] at hdd
  have hdd : k.desc = .string := hdd
  generalize he : a.eval x = y at hr
  cases hr <;> try (cases hf; done)
  rotate_left
  · rename_i r c hcy
    cases lo with
    | some _ => cases hf
    | none => cases hi with
      | none => cases hf
      | some y =>
        have hf : cutU r c ((vk sl y).get vs ρ) = some v := hf
        have hy := hhi y rfl
        generalize (vk sl y).get vs ρ = yv at hf hy
        unfold cutU at hf
        split at hf
        case h_2 => cases hf
        rename_i r'
        obtain ⟨h1, h2⟩ := when_some hf
        have := Nat.eq_of_beq_eq_true h1
        subst this
        cases h2
        generalize hye : a.eval y = ye at hy
        cases hy
        have hb := rBounds (P := P) (w := w) (b := false) (len := (φ.raw r).size) (cap := (φ.raw r).size) (l := 0) (hh := min (φ.raw r).size 20) (a := a) (lo := none) (hi := some y) (.inl ⟨rfl, rfl⟩) (.inr ⟨y, .i64, rfl, hye⟩) (Nat.zero_le _) (Nat.min_le_left _ _)
        simp only [Option.map_none, Option.map_some] at hb
        refine ⟨.string ((φ.raw r).extract 0 (min (φ.raw r).size 20)), ?_, ?_⟩
        · simp only [execOp, ho, he, Instr.sliceAt, Instr.slice, Sem.run_bind, k.rUnd, hdd, Result.andThen_ok, Option.map_none, Option.map_some, Option.isSome_none, Bool.false_eq_true, if_false, hb, Sem.run_pure]
        · refine VRel.cat [] [] c _ ?_
          rw [List.nil_append, List.append_nil, ← hcy, ba_extract]
          have hl : (φ.raw r).data.toList.length = (φ.raw r).size := (ba_size _).symm
          rw [List.drop_zero]
          rcases Nat.le_total (φ.raw r).size 20 with h | h
          · rw [Nat.min_eq_left h, ← hl, List.take_length, List.take_of_length_le (by omega)]
          · rw [Nat.min_eq_right h]
  rename_i s
  obtain ⟨hh, h1, h2⟩ := ob_some (show ob ((bk sl hi).get vs ρ (sLen (enc s.data.toList))) (fun hh => ob ((bk sl lo).get vs ρ 0) fun l => subStr (enc s.data.toList) l hh) = some v from hf)
  obtain ⟨l, h3, h4⟩ := ob_some h2
  obtain ⟨h5, h6⟩ := when_some h4
  obtain ⟨h7, h8⟩ := when_some h6
  rw [ble_dec] at h5 h7
  have h5 : l ≤ hh := of_decide_eq_true h5
  have h7 := of_decide_eq_true h7
  rw [enc_len] at h7 h1
  rw [mkStr, seqN_eq, sSub_enc _ _ _ h5 h7] at h8
  cases h8
  refine ⟨.string (s.extract l hh), ?_, by rw [← ba_extract]; exact .str _⟩
  have hb := rBounds (P := P) (w := w) (b := false) (len := s.size) (cap := s.size) (bk_ok hlo h3) (by rw [ba_size]; exact bk_ok hhi h1) h5 (by rw [ba_size]; exact h7)
  simp only [execOp, ho, he, Instr.sliceAt, Instr.slice, Sem.run_bind, k.rUnd, hdd, Result.andThen_ok, Option.map_none, Option.isSome_none, Bool.false_eq_true, if_false, hb, Sem.run_pure]
/-- a lower bound of the capacity -/
theorem capLo_ok {φ : Ren} {h : Heap} {hp : Array Obj} (H : HRelR P φ h hp) {id off : Nat} (hd : φ.dom id) {et : TypeId} {i : TI} (k : TIok P et i) {lim : Option Nat} {cap c : Nat}
    (h0 : lim = none → off + cap * φ.sz id = φ.cap id) (hk : ∀ k, lim = some k → cap = k) (hs : 0 < i.size) (hc : capLo off i.size et lim (h.objs.get id) = some c) :
    c ≤ cap ∧ φ.sz id = i.size ∧ ∃ r lo hi cc fz, h.objs.get id = some (.cells r lo hi et) ∧ hp[φ.blk id]? = some (.cells cc et fz) ∧ RowOk P φ id r lo hi et cc fz := by
  unfold capLo at hc
  split at hc
  · rename_i r lo hi t hg
    obtain ⟨h1, h2⟩ := when_some hc
    rw [beq_dec] at h1
    have h1 := of_decide_eq_true h1
    subst h1
    obtain ⟨o', h5, cc, fz, h6, R⟩ := H.obj id _ hd hg
    have hz : φ.sz id = i.size := by rw [← R.sz, k.cells]
    refine ⟨?_, hz, r, lo, hi, cc, fz, hg, by rw [h5, h6], R⟩
    cases lim with
    | some m =>
      injection h2 with h2
      rw [hk m rfl, h2]; exact Nat.le_refl _
    | none =>
      injection h2 with h2
      have h3 := h0 rfl
      rw [hz] at h3
      have h4 := R.lo
      have h2 : c = (lo - off) / i.size := h2.symm
      rw [h2]
      apply Nat.div_le_of_le_mul
      rw [Nat.mul_comm]
      omega
  · cases hc
theorem sub_slice {φ : Ren} {id off : Nat} {lim : Option Nat} {ad : Addr} {cap : Nat} (hd : φ.dom id) (ha : cap ≠ 0 → ad = baseOf φ id off) (hc : off + cap * φ.sz id ≤ φ.cap id) (h0 : lim = none → off + cap * φ.sz id = φ.cap id)
    (hk : ∀ k, lim = some k → cap = k) {l hh m : Nat} (h1 : l ≤ hh) (h2 : hh ≤ m) (h3 : m ≤ cap) {lim' : Option Nat} (hl' : (m = cap ∧ lim' = limSub lim l) ∨ lim' = some (m - l)) :
    VRel φ (.slice id (off + l * φ.sz id) (hh - l) lim') (.slice (if m = l then some ad else (some ad).map (·.add (l * φ.sz id))) (hh - l) (m - l)) := by
  have hm : l * φ.sz id + (m - l) * φ.sz id = m * φ.sz id := by rw [← Nat.add_mul]; congr 1; omega
  have hm2 : m * φ.sz id ≤ cap * φ.sz id := Nat.mul_le_mul_right _ h3
  have key : ∀ ad', ((m - l ≠ 0) → ad' = baseOf φ id (off + l * φ.sz id)) → VRel φ (.slice id (off + l * φ.sz id) (hh - l) lim') (.slice (some ad') (hh - l) (m - l)) := by
    intro ad' h'
    refine .slice id _ _ _ ad' _ hd (by omega) h' (by omega) (fun e => ?_) (fun k e => ?_)
    · rcases hl' with ⟨e1, e2⟩ | e2
      · rw [e2] at e
        cases lim with
        | none => have := h0 rfl; rw [e1] at hm ⊢; omega
        | some q =>
          have e : (seqN (Nat.sub q l) fun n => some n) = none := e
          rw [seqN_eq] at e; cases e
      · rw [e2] at e; cases e
    · rcases hl' with ⟨e1, e2⟩ | e2
      · rw [e2] at e
        cases lim with
        | none => cases e
        | some q =>
          have e : (seqN (Nat.sub q l) fun n => some n) = some k := e
          rw [seqN_eq] at e
          injection e with e
          rw [← e, e1, hk q rfl]; rfl
      · rw [e2] at e; injection e
  by_cases hml : m = l
  · rw [if_pos hml]; exact key ad (fun c => by omega)
  · rw [if_neg hml]
    refine key _ (fun _ => ?_)
    rw [ha (by omega)]; exact add_base _ _ _ _
theorem nSlice {t : TypeId} {x : Operand} {lo hi : Option Operand} (ho : o.op = .slice t x lo hi none) {i : TI} (k : TIok P t i) {e : TypeId} (hd : i.desc = .slice e) {ei : TI} (ke : TIok P e ei) (hs : ei.size ≠ 0) :
    NOK P sl o (fun vs ρ h => sliceV ei.size e (bk sl lo) (bk sl hi) vs ρ h ((vk sl x).get vs ρ)) := by
  intro φ h vs ρ a w v hl H hf
  have hr := hl.at ho (x := x) (by simp [Op.operands])
  have hlo : ∀ y, lo = some y → VRel φ ((vk sl y).get vs ρ) (a.eval y) := fun y e => hl.at ho (by simp [Op.operands, e])
  have hhi : ∀ y, hi = some y → VRel φ ((vk sl y).get vs ρ) (a.eval y) := fun y e => hl.at ho (by simp [Op.operands, e])
  have hf : sliceV _ _ _ _ _ _ _ _ = _ := hf
  generalize (vk sl x).get vs ρ = u at hr hf
  have hdd := k.hdesc
  rw [hd] at hdd
  have hdd : k.desc = .slice e := hdd
  generalize he : a.eval x = y at hr
  cases hr <;> try (cases hf; done)
  case nilSlice =>
    obtain ⟨hh, h1, h2⟩ := ob_some (show ob ((bk sl hi).get vs ρ 0) (fun hh => ob ((bk sl lo).get vs ρ 0) fun l => when (Nat.ble hh 0) (when (Nat.ble l hh) (some .nilSlice))) = some v from hf)
    obtain ⟨l, h3, h4⟩ := ob_some h2
    obtain ⟨h5, h6⟩ := when_some h4
    obtain ⟨h7, h8⟩ := when_some h6
    rw [ble_dec] at h5 h7
    have h5 := of_decide_eq_true h5
    have h7 := of_decide_eq_true h7
    cases h8
    have hb := rBounds (P := P) (w := w) (b := true) (len := 0) (cap := 0) (bk_ok hlo h3) (bk_ok hhi h1) h7 h5
    have e1 : hh = 0 := by omega
    have e2 : l = 0 := by omega
    refine ⟨.slice none 0 0, ?_, .nilSlice⟩
    simp only [execOp, ho, he, Instr.sliceAt, Instr.slice, Sem.run_bind, k.rUnd, hdd, Result.andThen_ok, Option.map_none, hb, ke.rSize, Sem.run_pure]
    subst e1; subst e2; rfl
  case slice id off len lim ad cap hdom hlc ha hc h0 hk =>
    obtain ⟨c, g1, g2⟩ := ob_some (show ob (capLo off ei.size e lim (h.objs.get id)) (fun cap => ob ((bk sl hi).get vs ρ len) fun hh => ob ((bk sl lo).get vs ρ 0) fun l => subSlice id off lim ei.size cap l hh) = some v from hf)
    obtain ⟨hh, h1, h2⟩ := ob_some g2
    obtain ⟨l, h3, h4⟩ := ob_some h2
    obtain ⟨h5, h6⟩ := when_some h4
    obtain ⟨h7, h8⟩ := when_some h6
    rw [ble_dec] at h5 h7
    have h5 := of_decide_eq_true h5
    have h7 := of_decide_eq_true h7
    rw [mkSlice, seqN_eq, seqN_eq] at h8
    cases h8
    obtain ⟨g3, g4, _⟩ := capLo_ok H hdom ke h0 hk (by omega) g1
    have hb := rBounds (P := P) (w := w) (b := true) (len := len) (cap := cap) (bk_ok hlo h3) (bk_ok hhi h1) h5 (by omega)
    have hv := sub_slice hdom ha hc h0 hk h5 (show hh ≤ cap by omega) (Nat.le_refl _) (lim' := limSub lim l) (.inl ⟨rfl, rfl⟩)
    rw [g4] at hv
    refine ⟨_, ?_, hv⟩
    · simp only [execOp, ho, he, Instr.sliceAt, Instr.slice, Sem.run_bind, k.rUnd, hdd, Result.andThen_ok, Option.map_none, hb, ke.rSize, Sem.run_pure]
theorem nSlice3 {t : TypeId} {x : Operand} {lo : Option Operand} {hi mx : Operand} (ho : o.op = .slice t x lo (some hi) (some mx)) {i : TI} (k : TIok P t i) {e : TypeId} (hd : i.desc = .slice e) {ei : TI} (ke : TIok P e ei) (hs : ei.size ≠ 0) :
    NOK P sl o (fun vs ρ h => sliceV3 ei.size e (bk sl lo) (bkSome (vk sl hi)) (bkSome (vk sl mx)) vs ρ h ((vk sl x).get vs ρ)) := by
  intro φ h vs ρ a w v hl H hf
  have hr := hl.at ho (x := x) (by simp [Op.operands])
  have hlo : ∀ y, lo = some y → VRel φ ((vk sl y).get vs ρ) (a.eval y) := fun y e => hl.at ho (by simp [Op.operands, e])
  have hhi := hl.at ho (x := hi) (by simp [Op.operands])
  have hmx := hl.at ho (x := mx) (by simp [Op.operands])
  have hf : sliceV3 _ _ _ _ _ _ _ _ _ = _ := hf
  generalize (vk sl x).get vs ρ = u at hr hf
  have hdd := k.hdesc
  rw [hd] at hdd
  have hdd : k.desc = .slice e := hdd
  generalize he : a.eval x = y at hr
  cases hr <;> try (cases hf; done)
  case slice id off len lim ad cap hdom hlc ha hc h0 hk =>
    obtain ⟨c, g1, g2⟩ := ob_some (show ob (capLo off ei.size e lim (h.objs.get id)) (fun cap => ob ((bkSome (vk sl hi)).get vs ρ len) fun hh => ob ((bk sl lo).get vs ρ 0) fun l => ob ((bkSome (vk sl mx)).get vs ρ 0) fun m => subSlice3 id off ei.size cap l hh m) = some v from hf)
    obtain ⟨hh, h1, h2⟩ := ob_some g2
    obtain ⟨l, h3, h4⟩ := ob_some h2
    obtain ⟨m, q1, q2⟩ := ob_some h4
    obtain ⟨h5, h6⟩ := when_some q2
    obtain ⟨h7, h8⟩ := when_some h6
    obtain ⟨h9, h10⟩ := when_some h8
    rw [ble_dec] at h5 h7 h9
    have h5 := of_decide_eq_true h5
    have h7 := of_decide_eq_true h7
    have h9 := of_decide_eq_true h9
    rw [mkSlice, seqN_eq, seqN_eq] at h10
    cases h10
    obtain ⟨k1, e1⟩ := natV_id (show natV some ((vk sl hi).get vs ρ) = some hh from h1)
    obtain ⟨k2, e2⟩ := natV_id (show natV some ((vk sl mx).get vs ρ) = some m from q1)
    rw [e1] at hhi
    rw [e2] at hmx
    generalize hhe : a.eval hi = hv at hhi
    generalize hme : a.eval mx = mv at hmx
    cases hhi
    cases hmx
    obtain ⟨g3, g4, _⟩ := capLo_ok H hdom ke h0 hk (by omega) g1
    have hb := rBounds3 (P := P) (w := w) (b := true) (len := len) (cap := cap) (bk_ok hlo h3) hhe hme h5 h7 (by omega)
    rw [hhe, hme] at hb
    have hv := sub_slice hdom ha hc h0 hk h5 h7 (show m ≤ cap by omega) (lim' := some (m - l)) (.inr rfl)
    rw [g4] at hv
    refine ⟨_, ?_, hv⟩
    · simp only [execOp, ho, he, Instr.sliceAt, Instr.slice, Sem.run_bind, k.rUnd, hdd, Result.andThen_ok, Option.map_some, hhe, hme, hb, ke.rSize, Sem.run_pure]
end
end Go.Proofs.YtcbacbfjjahcbaaGreatDoor.Ev
namespace Go.Proofs.YtcbacbfjjahcbaaGreatDoor.Ev
set_option linter.unusedVariables false
set_option linter.unusedSimpArgs false
open Go
section
variable {P : Program} {tt : TT} {sl : SL} {o : Oper}

theorem entsOf_ok {φ : Ren} {h : Heap} {w : World} (H : HRelR P φ h w.heap) {v : AVal} {x : Value} (hx : VRel φ v x) {es : List Ent} (he : entsOf h v = some es) :
    (x = .map none ∧ es = []) ∨ ∃ r es' cl, x = .map (some r) ∧ w.heap[r]? = some (.map es' cl) ∧ EntsRel φ es es'.toList := by
  unfold entsOf at he
  split at he
  · cases hx; injection he with he; exact .inl ⟨rfl, he.symm⟩
  · rename_i r
    cases hx with | map _ hd =>
    obtain ⟨⟨es1, cl⟩, h1, h2⟩ := ob_some he
    cases h2
    obtain ⟨_, es', h3, h4⟩ := mapOf_ok H hd h1
    exact .inr ⟨_, es', cl, rfl, h3, h4⟩
  · cases he
theorem nLookup (hT : TTok P tt) {t : TypeId} {x y : Operand} {ok : Bool} (ho : o.op = .lookup t x y ok) {i : TI} (k : TIok P t i) {kt e : TypeId} (hd : i.desc = .map kt e) {ki ei : TI} (kk : TIok P kt ki) (hkt : keyT tt ki = true) (ke : TIok P e ei) :
    NOK P sl o (fun vs ρ h => lookV tt ki ei.zero ok h ((vk sl y).get vs ρ) ((vk sl x).get vs ρ)) := by
  intro φ h vs ρ a w v hl H hf
  have hx := hl.at ho (x := x) (by simp [Op.operands])
  have hy := hl.at ho (x := y) (by simp [Op.operands])
  have hf : lookV _ _ _ _ _ _ _ = _ := hf
  generalize (vk sl x).get vs ρ = u at hx hf
  generalize (vk sl y).get vs ρ = q at hy hf
  have hdd := k.hdesc
  rw [hd] at hdd
  have hdd : k.desc = .map kt e := hdd
  obtain ⟨h1, h2⟩ := when_some hf
  obtain ⟨es, h3, h4⟩ := ob_some h2
  obtain ⟨r, h5, h6⟩ := ob_some h4
  injection h6 with h6
  have fin : ∀ (es' : Array MapEntry), EntsRel φ es es'.toList → ∀ (m : Sem (Array MapEntry)), m.run P w = .ok es' w → ∃ z, ((m >>= fun es => do
      Instr.checkKey es.isEmpty 10000 kt (a.eval y)
      let (v, ok') ← match ← Instr.findKey kt (a.eval y) es.toList with
        | some (_, v) => pure (v, true)
        | none => pure (← zeroValue e, false)
      pure (if ok then .tuple #[v, .bool ok'] else v) : Sem Value)).run P w = .ok z w ∧ VRel φ v z := by
    intro es' hes m hm
    obtain ⟨r', hr', hR⟩ := findA_ok hT H kk hy es es'.toList 0 r hes h5
    have hc := checkKeyL_ok hT (empty := es'.isEmpty) kk hkt h1 hy (w := w)
    have hk := findKey_run kk.hund (a.eval y) es'.toList w
    rw [hr'] at hk
    simp only [Sem.run_bind, hm, hc, hk, Result.andThen_ok]
    cases r with
    | none =>
      cases r' with
      | some _ => exact hR.elim
      | none =>
        have hz := ke.rZero (w := w)
        cases ok
        · refine ⟨ke.zero, ?_, ?_⟩
          · simp [hz]
          · rw [← h6]; exact ke.hz φ
        · refine ⟨.tuple #[ke.zero, .bool false], ?_, ?_⟩
          · simp [hz]
          · rw [← h6]; exact .tuple _ _ (.cons _ _ _ _ (ke.hz φ) (.cons _ _ _ _ (.bool _) .nil))
    | some q =>
      cases r' with
      | none => exact hR.elim
      | some q' =>
        obtain ⟨qi, qv, qb⟩ := q
        obtain ⟨qj, qx⟩ := q'
        obtain ⟨_, _, g3, _⟩ := hR
        cases ok
        · exact ⟨qx, by simp, by rw [← h6]; exact g3⟩
        · exact ⟨.tuple #[qx, .bool true], by simp, by rw [← h6]; exact .tuple _ _ (.cons _ _ _ _ g3 (.cons _ _ _ _ (.bool _) .nil))⟩
  have go : ∃ z, (Instr.lookup t (a.eval x) (a.eval y) ok).run P w = .ok z w ∧ VRel φ v z := by
    unfold Instr.lookup
    simp only [Sem.run_bind, k.rUnd, hdd, Result.andThen_ok]
    rcases entsOf_ok H hx h3 with ⟨e1, e2⟩ | ⟨r1, es', cl, e1, e2, e3⟩
    · subst e2
      rw [e1]
      exact fin #[] .nil (pure #[]) rfl
    · rw [e1]
      obtain ⟨z, hz, hv⟩ := fin es' e3 (pure es') rfl
      refine ⟨z, ?_, hv⟩
      show (getObj r1 >>= _).run P w = _
      rw [Sem.run_bind, rGetObj e2 (by intro _ _ _ e; cases e), Result.andThen_ok]
      exact hz
  obtain ⟨z, hz, hv⟩ := go
  exact ⟨z, by simp only [execOp, ho, Sem.run_bind, hz]; rfl, hv⟩
/-! the entry of a step -/
theorem findEnt_ok {φ : Ren} {s : Nat} : ∀ {es : List Ent} {ms : List MapEntry} {v : AVal}, EntsRel φ es ms → findEnt s es = some v → ∃ m, ms.find? (·.born == s) = some m ∧ VRel φ v (.tuple #[m.key, m.val])
  | [], _, v, .nil, h => by cases h
  | e :: es, _, v, .cons _ m _ ms hk hv hb hr, h => by
    simp only [findEnt] at h
    rw [beq_dec] at h
    by_cases hs : e.2.2 = s
    · simp only [hs, decide_true] at h
      cases h
      exact ⟨m, by simp [List.find?, ← hb, hs], .tuple _ _ (.cons _ _ _ _ hk (.cons _ _ _ _ hv .nil))⟩
    · simp only [hs, decide_false] at h
      obtain ⟨m', h1, h2⟩ := findEnt_ok hr h
      exact ⟨m', by rw [List.find?_cons_of_neg (by simp [← hb, hs])]; exact h1, h2⟩
theorem nEntry {x : Operand} (ho : o.op = .entry x) : NOK P sl o (fun vs ρ h => entryV h ((vk sl x).get vs ρ)) := by
  intro φ h vs ρ a w v hl H hf
  have hx := hl.at ho (x := x) (by simp [Op.operands])
  have hf : entryV _ _ = _ := hf
  generalize (vk sl x).get vs ρ = u at hx hf
  generalize he : a.eval x = y at hx
  cases hx <;> try (cases hf; done)
  rename_i r off hd
  obtain ⟨h1, h2⟩ := when_some hf
  rw [beq_dec] at h1
  have h1 := of_decide_eq_true h1
  subst h1
  unfold entryO at h2
  split at h2
  · rename_i m since s seen last hg
    obtain ⟨⟨es, cl⟩, h3, h4⟩ := ob_some h2
    obtain ⟨h5, h6⟩ := when_some h4
    rw [beq_dec] at h5
    have h5 : cl = last := of_decide_eq_true h5
    obtain ⟨o', g1, g2, seen', g3, g4, g5, _⟩ := H.obj r _ hd hg
    obtain ⟨_, es', g6, g7⟩ := mapOf_ok H (g5 m rfl) h3
    obtain ⟨me, h7, h8⟩ := findEnt_ok g7 h6
    refine ⟨_, ?_, h8⟩
    have hb : seen'.back? = some s := by
      have : seen'.toList = seen.reverse ++ [s] := by rw [← List.reverse_reverse seen'.toList, g4]; simp
      rw [← Array.getLast?_toList, this]; simp
    rw [g3] at g1
    have hfind : es'.find? (·.born == s) = some me := by rw [← Array.find?_toList]; exact h7
    have hp : baseOf φ r 0 = ⟨φ.blk r, 0, none⟩ := by simp [baseOf, g2]
    simp only [execOp, ho, he, hp, Instr.entry, Sem.run_bind, rGetObj g1 (by intro _ _ _ e; cases e), Result.andThen_ok, Option.map_some, hb, rGetObj g6 (by intro _ _ _ e; cases e), h5, bne_self_eq_false, Bool.false_eq_true, if_false, hfind, Sem.run_pure]
  · cases h2

/-! bytes -/
theorem natsOf_ok {φ : Ren} : ∀ {l : List AVal} {xs : List Value} {ns : List Nat}, VRelL φ l xs → natsOf l = some ns → xs = (ns.map fun n => Value.int .u8 (Int.ofNat n)) ∧ ∀ n ∈ ns, n < 256
  | [], _, ns, .nil, h => by cases h; exact ⟨rfl, by simp⟩
  | v :: l, _, ns, .cons _ x _ xs hv hl, h => by
    unfold natsOf at h
    split at h
    · cases hv
      obtain ⟨h1, h2⟩ := when_some h
      obtain ⟨r, h3, h4⟩ := ob_some h2
      cases h4
      rw [blt_dec] at h1
      obtain ⟨e1, e2⟩ := natsOf_ok hl h3
      refine ⟨by simp [e1], ?_⟩
      intro n hn
      rcases List.mem_cons.1 hn with rfl | hn
      · exact of_decide_eq_true h1
      · exact e2 n hn
    · cases h
theorem strOf_ok {φ : Ren} {id : Nat} {c : T AVal} {lo : Nat} {hi : Option Nat} {et : TypeId} {cc : Array Value} {fz : Nat × Nat} {w : World} (hb : w.heap[φ.blk id]? = some (.cells cc et fz)) (R : RowOk P φ id c lo hi et cc fz)
    {off n s : Nat} (h : strOf c off n = some s) : ∃ ns : List Nat, (∀ m ∈ ns, m < 256) ∧ ns.length = n ∧ (loadCells (baseOf φ id off) n).run P w = .ok ((ns.map fun n => Value.int .u8 (Int.ofNat n)).toArray) w ∧
      s = enc (ns.map UInt8.ofNat) ∧ ∀ j v, (ns.map fun n => Value.int .u8 (Int.ofNat n))[j]? = some v → w.cell? (baseOf φ id (off + j)) = some v := by
  obtain ⟨l, h1, h2⟩ := ob_some h
  obtain ⟨ns, h3, h4⟩ := ob_some h2
  rw [seqN_eq] at h4
  cases h4
  obtain ⟨l', g1, _, g2, _, g3⟩ := loadN_ok hb R n off l h1
  obtain ⟨e1, e2⟩ := natsOf_ok g2 h3
  subst e1
  refine ⟨ns, e2, by simpa using g1, rLoadCells g1 g3, ?_, g3⟩
  have : ns = (ns.map UInt8.ofNat).map UInt8.toNat := by
    rw [List.map_map]
    conv => lhs; rw [← List.map_id ns]
    apply List.map_congr_left
    intro m hm
    have := e2 m hm
    simp; omega
  conv => lhs; rw [this, sOfNats_enc]
theorem nOfBytes {s d e : TypeId} {x : Operand} (ho : o.op = .convert s d x) {si di ei : TI} (ks : TIok P s si) (kd : TIok P d di) (ke : TIok P e ei) (hs : si.desc = .slice e) (hd : di.desc = .str) (he : ei.desc = .int .u8) :
    NOK P sl o (fun vs ρ h => ofBytes h ((vk sl x).get vs ρ)) := by
  intro φ h vs ρ a w v hl H hf
  have hx := hl.at ho (x := x) (by simp [Op.operands])
  have hf : ofBytes _ _ = _ := hf
  generalize (vk sl x).get vs ρ = u at hx hf
  have hss := ks.hdesc
  rw [hs] at hss
  have hss : ks.desc = .slice e := hss
  have hdd := kd.hdesc
  rw [hd] at hdd
  have hdd : kd.desc = .string := hdd
  have hee := ke.hdesc
  rw [he] at hee
  have hee : ke.desc = .int .u8 := hee
  generalize hce : a.eval x = y at hx
  cases hx <;> try (cases hf; done)
  case nilSlice =>
    cases hf
    have he0 : ByteArray.empty.data.toList = [] := by simp
    refine ⟨.string .empty, ?_, by have := VRel.str (φ := φ) ByteArray.empty; rw [he0] at this; exact this⟩
    simp only [execOp, ho, hce, Sem.run_bind]
    rw [run_convert_bytes_string w s d e none 0 0 (by rw [ks.hund, hss]) (by rw [ke.hund, hee]) (by rw [kd.hund, hdd])]
    simp [Conv.bytesToString]
  case slice id off len lim ad cap hdom hlc ha hc h0 hk =>
    obtain ⟨c, h1, h2⟩ := ob_some (show ob (h.row id) (fun c => ob (strOf c off len) fun s => some (.str s)) = some v from hf)
    obtain ⟨st, h3, h4⟩ := ob_some h2
    cases h4
    obtain ⟨lo, hi, et, cc, fz, _, hb, R⟩ := row_ok H hdom h1
    obtain ⟨ns, g1, g2, g3, g4, _⟩ := strOf_ok hb R h3
    have hlc' : (loadCells ad len).run P w = .ok (((ns.map Int.ofNat).map (Value.int .u8)).toArray) w := by
      rw [List.map_map]
      by_cases hz : cap = 0
      · have : len = 0 := by omega
        subst this
        have : ns = [] := List.length_eq_zero_iff.1 g2
        subst this; rfl
      · rw [ha hz]; exact g3
    subst g4
    refine ⟨.string ⟨(ns.map UInt8.ofNat).toArray⟩, ?_, .str ⟨(ns.map UInt8.ofNat).toArray⟩⟩
    simp only [execOp, ho, hce, Sem.run_bind]
    rw [run_convert_bytes_string w s d e _ len cap (by rw [ks.hund, hss]) (by rw [ke.hund, hee]) (by rw [kd.hund, hdd]), run_bytesToString w ad len cap _ hlc', foldl_push_bytes]
    simp [ByteArray.empty, ByteArray.emptyWithCapacity]
    rfl
end
end Go.Proofs.YtcbacbfjjahcbaaGreatDoor.Ev
