/- An evaluator over abstract values and the proof that what it reckons is what the model's calls do: part 3 of 9. -/
import Derived.Test.YtpjkcfglojigmaaGreatDoorEvB
import Derived.Laws.Strings
import Derived.Laws.Cells
import Derived.Laws.StructEq
namespace Go.Proofs.YtpjkcfglojigmaaGreatDoor.Ev
set_option linter.unusedVariables false
set_option linter.unusedSimpArgs false
open Go
section
variable {P : Program} {sl : SL} {o : Oper}
theorem drop_take {α : Type} (l : List α) (i j : Nat) : (l.drop i).take (j - i) = (l.take j).drop i := by
  rw [List.drop_take]
theorem ba_extract (s : ByteArray) (i j : Nat) : (s.extract i j).data.toList = (s.data.toList.take j).drop i := by
  simp [ByteArray.data_extract, List.extract_eq_take_drop, drop_take]
theorem ba_append (a b : ByteArray) : (a ++ b).data.toList = a.data.toList ++ b.data.toList := by simp
theorem ba_get (s : ByteArray) (i : Nat) : s[i]? = s.data.toList[i]? := by
  simp only [Array.getElem?_toList]; rfl
theorem ba_size (s : ByteArray) : s.size = s.data.toList.length := by simp
theorem sok_ok {w : World} (op : BinOp) (a b : ByteArray) (v : AVal) (h : (sok op).f (enc a.data.toList) (enc b.data.toList) = some v) (φ : Ren) :
    ∃ x, (Op.stringOp op a b).run P w = .ok x w ∧ VRel φ v x := by
  have heq : (a.data.toList == b.data.toList) = Nat.beq (enc a.data.toList) (enc b.data.toList) := by
    rw [beq_dec, Bool.eq_iff_iff, beq_iff_eq, decide_eq_true_iff]
    exact ⟨fun e => by rw [e], enc_inj⟩
  have hle : ∀ p q : List UInt8, (Op.bytesLess p q || p == q) = !Op.bytesLess q p := by
    intro p q
    rw [bytesLess_key p q (max p.length q.length) (by omega) (by omega), bytesLess_key q p (max p.length q.length) (by omega) (by omega)]
    have hpq : (p == q) = (decide (val p * 256 ^ (max p.length q.length - p.length) = val q * 256 ^ (max p.length q.length - q.length)) && decide (p.length = q.length)) := by
      rw [Bool.eq_iff_iff, beq_iff_eq, Bool.and_eq_true, decide_eq_true_iff, decide_eq_true_iff]
      constructor
      · intro e; subst e; exact ⟨rfl, rfl⟩
      · intro ⟨e, hl⟩
        rw [hl] at e
        exact val_inj p q hl (Nat.eq_of_mul_eq_mul_right (p256pos _) e)
    rw [hpq]
    generalize val p * 256 ^ (max p.length q.length - p.length) = A
    generalize val q * 256 ^ (max p.length q.length - q.length) = B
    rcases Nat.lt_trichotomy A B with h1 | h1 | h1
    · simp [h1, Nat.lt_asymm h1, Nat.ne_of_lt h1, (Nat.ne_of_lt h1).symm]
    · subst h1
      rcases Nat.lt_trichotomy p.length q.length with h2 | h2 | h2
      · simp [h2, Nat.lt_asymm h2]
      · simp [h2]
      · simp [h2, Nat.lt_asymm h2, (Nat.ne_of_lt h2).symm]
    · simp [h1, Nat.lt_asymm h1, Nat.ne_of_lt h1, (Nat.ne_of_lt h1).symm]
  cases op <;> simp only [sok] at h <;> try (cases h; done)
  case add =>
    rw [sAdd, enc_len, enc_len, ble_dec] at h
    by_cases hs : Nat.add a.data.toList.length b.data.toList.length ≤ 1000000
    · simp only [hs, decide_true, seqN_eq] at h
      cases h
      refine ⟨.string (a ++ b), ?_, ?_⟩
      · have hs : a.data.toList.length + b.data.toList.length ≤ 1000000 := hs
        have h1 : ¬ (((a.size + b.size : Nat) : Int) > IntKind.i64.max) := by
          rw [ba_size, ba_size]
          have : IntKind.i64.max = 9223372036854775807 := by rfl
          rw [this]; omega
        simp only [Op.stringOp]
        rw [if_neg h1]; rfl
      · rw [sApp_enc, ← ba_append]; exact .str _
    · simp only [hs, decide_false] at h; cases h
  case eql => rw [mkB_eq, ← heq] at h; cases h; exact ⟨_, by simp [Op.stringOp, ByteArray.toList_eq], .bool _⟩
  case neq => rw [mkB_eq, notB_eq, ← heq] at h; cases h; exact ⟨_, by simp [Op.stringOp, ByteArray.toList_eq], .bool _⟩
  case lss => rw [mkB_eq, sLt_enc] at h; cases h; exact ⟨_, by simp [Op.stringOp, ByteArray.toList_eq], .bool _⟩
  case leq => rw [mkB_eq, notB_eq, sLt_enc, ← hle] at h; cases h; exact ⟨_, by simp [Op.stringOp, ByteArray.toList_eq], .bool _⟩
  case gtr =>
    rw [mkB_eq, sLt_enc] at h; cases h
    refine ⟨.bool (Op.bytesLess b.data.toList a.data.toList), ?_, .bool _⟩
    simp only [Op.stringOp, ByteArray.toList_eq]
    rw [hle]; simp
  case geq => rw [mkB_eq, notB_eq, sLt_enc] at h; cases h; exact ⟨_, by simp [Op.stringOp, ByteArray.toList_eq], .bool _⟩
theorem rGuard_int {op : BinOp} {t : TypeId} {x y : Operand} {k : IntKind} {a : Int} {b : Value} {w : World} : (eqGuard op t x y (.int k a) b).run P w = .ok () w := by
  unfold eqGuard; cases op <;> rfl
theorem rGuard_str {op : BinOp} {t : TypeId} {x y : Operand} {a : ByteArray} {b : Value} {w : World} : (eqGuard op t x y (.string a) b).run P w = .ok () w := by
  unfold eqGuard; cases op <;> rfl
theorem binOp_int {op : BinOp} {t : TypeId} {k : IntKind} {a b : Int} (h1 : op ≠ .shl) (h2 : op ≠ .shr) : binOp op t (.int k a) (.int k b) = intDo op k a b := by
  cases op <;> first | exact absurd rfl h1 | exact absurd rfl h2 | simp [binOp, intDo]
theorem binOp_str {op : BinOp} {t : TypeId} {a b : ByteArray} : binOp op t (.string a) (.string b) = Op.stringOp op a b := by
  cases op <;> rfl
theorem two_some {t f : Bool} {v : AVal} (h : two t f = some v) : (t = true ∧ v = .bool true) ∨ (f = true ∧ v = .bool false) := by
  unfold two at h
  split at h
  · injection h with h; exact .inl ⟨rfl, h.symm⟩
  · split at h
    · injection h with h; exact .inr ⟨rfl, h.symm⟩
    · cases h
theorem rB_ok {op : BinOp} {k : IntKind} {lo hi : Option Int} {b n : Int} {v : AVal} (h1 : ∀ l, lo = some l → l ≤ n) (h2 : ∀ u, hi = some u → n ≤ u) (h : rB op lo hi b = some v) : (ik op).f k n b = some v := by
  cases op <;> try (cases h; done)
  case eql =>
    show mkB (eqI n b) = _
    rw [mkB_eq, eqI_eq]
    unfold rB at h
    dsimp only at h
    split at h
    · rename_i g
      injection h with h; subst h
      have := ltLo_ok g h1
      rw [show (n == b) = false by simp; omega]
    · rcases two_some h with ⟨g, _⟩ | ⟨g, rfl⟩
      · cases g
      · have := hiLt_ok g h2
        rw [show (n == b) = false by simp; omega]
  case neq =>
    show mkB (notB (eqI n b)) = _
    rw [mkB_eq, notB_eq, eqI_eq]
    unfold rB at h
    dsimp only at h
    split at h
    · rename_i g
      injection h with h; subst h
      have := ltLo_ok g h1
      rw [show (n == b) = false by simp; omega]; rfl
    · rcases two_some h with ⟨g, rfl⟩ | ⟨g, _⟩
      · have := hiLt_ok g h2
        rw [show (n == b) = false by simp; omega]; rfl
      · cases g
  case lss =>
    show mkB (ltI n b) = _
    rw [mkB_eq, ltI_eq]
    rcases two_some h with ⟨g, rfl⟩ | ⟨g, rfl⟩
    · have := hiLt_ok g h2; rw [show decide (n < b) = true by simp; omega]
    · have := leLo_ok g h1; rw [show decide (n < b) = false by simp; omega]
  case leq =>
    show mkB (notB (ltI b n)) = _
    rw [mkB_eq, notB_eq, ltI_eq]
    rcases two_some h with ⟨g, rfl⟩ | ⟨g, rfl⟩
    · have := hiLe_ok g h2; rw [show decide (b < n) = false by simp; omega]; rfl
    · have := ltLo_ok g h1; rw [show decide (b < n) = true by simp; omega]; rfl
  case gtr =>
    show mkB (ltI b n) = _
    rw [mkB_eq, ltI_eq]
    rcases two_some h with ⟨g, rfl⟩ | ⟨g, rfl⟩
    · have := ltLo_ok g h1; rw [show decide (b < n) = true by simp; omega]
    · have := hiLe_ok g h2; rw [show decide (b < n) = false by simp; omega]
  case geq =>
    show mkB (notB (ltI n b)) = _
    rw [mkB_eq, notB_eq, ltI_eq]
    rcases two_some h with ⟨g, rfl⟩ | ⟨g, rfl⟩
    · have := leLo_ok g h1; rw [show decide (n < b) = false by simp; omega]; rfl
    · have := hiLt_ok g h2; rw [show decide (n < b) = true by simp; omega]; rfl
theorem swap_ok {op : BinOp} {k : IntKind} {a n : Int} {v : AVal} (h : (ik (swapB op)).f k n a = some v) (hs : swapB op ≠ .add) : (ik op).f k a n = some v := by
  cases op <;> try (exact absurd rfl hs)
  case eql => exact (show mkB (eqI a n) = mkB (eqI n a) by rw [eqI_eq, eqI_eq, Bool.beq_comm]).trans h
  case neq => exact (show mkB (notB (eqI a n)) = mkB (notB (eqI n a)) by rw [eqI_eq, eqI_eq, Bool.beq_comm]).trans h
  all_goals exact h
/-! strings that hold an unknown part -/
theorem neFst_ok {p s r r' : List UInt8} (h : neFst (enc p) (enc s) = true) : s ++ r' ≠ p ++ r := by
  unfold neFst at h
  rw [enc_len, enc_len, beq_dec, beq_dec] at h
  cases p with
  | nil => cases h
  | cons a p => cases s with
    | nil => cases h
    | cons b s =>
      rw [sGet_enc _ 0 (by simp), sGet_enc _ 0 (by simp), beq_dec] at h
      intro e
      simp only [List.cons_append] at e
      injection e with e1 e2
      subst e1
      simp [notB] at h
theorem neLen_ok {p q s u : List UInt8} (hu : u.length ≤ 20) (h : neLen (enc p) (enc q) (enc s) = true) : s ≠ p ++ u ++ q := by
  unfold neLen at h
  rw [enc_len, enc_len, enc_len] at h
  intro e
  have hl : s.length = p.length + u.length + q.length := by rw [e, List.length_append, List.length_append]
  split at h
  · rename_i g
    rw [blt_dec] at g
    have g := of_decide_eq_true g
    have g : s.length < p.length + q.length := g
    omega
  · rw [blt_dec] at h
    have h := of_decide_eq_true h
    have h : 20 + (p.length + q.length) < s.length := h
    omega
theorem neCS_ok {p q s u : List UInt8} (hu : u.length ≤ 20) (h : neCS (enc p) (enc q) (enc s) = true) : s ≠ p ++ u ++ q := by
  unfold neCS at h
  split at h
  · rename_i g; exact neLen_ok hu g
  · have := neFst_ok (r := u ++ q) (r' := []) h
    rw [List.append_nil, ← List.append_assoc] at this
    exact this
theorem cy_len (φ : Ren) (c : Nat) : (φ.cy c).data.toList.length ≤ 20 := by
  have := φ.cyL c
  rw [ba_size] at this
  exact this
theorem ba_eq {a b : ByteArray} (h : a.data.toList = b.data.toList) : a = b := by
  obtain ⟨⟨a⟩⟩ := a
  obtain ⟨⟨b⟩⟩ := b
  simp at h; subst h; rfl
theorem eqCC_ok {φ : Ren} {p q p' q' : List UInt8} {c c' : Nat} {b : Bool} (h : eqCC (enc p) c (enc q) (enc p') c' (enc q') = some b) :
    (p ++ (φ.cy c).data.toList ++ q == p' ++ (φ.cy c').data.toList ++ q') = b := by
  unfold eqCC at h
  split at h
  · rename_i g
    injection h with h; subst h
    have := neFst_ok (r := (φ.cy c).data.toList ++ q) (r' := (φ.cy c').data.toList ++ q') g
    rw [← List.append_assoc, ← List.append_assoc] at this
    exact beq_eq_false_iff_ne.2 fun e => this e.symm
  · rw [enc_len, enc_len, beq_dec] at h
    split at h
    · cases h
    · rename_i g
      have hq := of_decide_eq_true g
      split at h
      · rename_i g2
        injection h with h; subst h
        refine beq_eq_false_iff_ne.2 fun e => ?_
        have := (List.append_inj' e hq).2
        subst this
        rw [beq_dec] at g2
        exact absurd rfl (of_decide_eq_false g2)
      · rename_i g2
        have hqq := enc_inj (Nat.eq_of_beq_eq_true g2)
        subst hqq
        split at h
        · cases h
        · rename_i g3
          have hpp := enc_inj (Nat.eq_of_beq_eq_true g3)
          subst hpp
          split at h
          · rename_i g4
            injection h with h; subst h
            rw [Nat.eq_of_beq_eq_true g4]
            exact beq_self_eq_true _
          · rename_i g4
            split at h
            · cases h
            · rename_i g5
              split at h
              · cases h
              · rename_i g6
                injection h with h; subst h
                rw [blt_dec] at g5 g6
                rw [beq_dec] at g4
                refine beq_eq_false_iff_ne.2 fun e => ?_
                have e1 := List.append_cancel_left (List.append_cancel_right e)
                exact of_decide_eq_false g4 (φ.cyI c c' (of_decide_eq_true g5) (of_decide_eq_true g6) (ba_eq e1))
theorem strEq_run {P : Program} {w : World} (a b : ByteArray) : (Op.stringOp .eql a b).run P w = .ok (.bool (a.data.toList == b.data.toList)) w := by
  simp [Op.stringOp, ByteArray.toList_eq]
theorem strNe_run {P : Program} {w : World} (a b : ByteArray) : (Op.stringOp .neq a b).run P w = .ok (.bool (!(a.data.toList == b.data.toList))) w := by
  simp [Op.stringOp, ByteArray.toList_eq]
theorem catBin_ok {P : Program} {w : World} {φ : Ren} {op : BinOp} {r : Option Bool} {v : AVal} {a b : ByteArray} (h : catBin op r = some v) (hr : ∀ x, r = some x → (a.data.toList == b.data.toList) = x) :
    ∃ z, (Op.stringOp op a b).run P w = .ok z w ∧ VRel φ v z := by
  cases op <;> try (cases h; done)
  case eql =>
    obtain ⟨x, h1, h2⟩ := ob_some (show ob r mkB = some v from h)
    rw [mkB_eq] at h2; cases h2
    exact ⟨_, strEq_run a b, by rw [hr x h1]; exact .bool x⟩
  case neq =>
    obtain ⟨x, h1, h2⟩ := ob_some (show ob r (fun b => mkB (notB b)) = some v from h)
    rw [mkB_eq, notB_eq] at h2; cases h2
    exact ⟨_, strNe_run a b, by rw [hr x h1]; exact .bool _⟩
theorem mkS2_ok {P : Program} {w : World} {φ : Ren} {p q : List UInt8} {c : Nat} {v : AVal} {a b : ByteArray} (h : mkS2 (enc p) c (enc q) = some v) (hs : a.data.toList ++ b.data.toList = p ++ (φ.cy c).data.toList ++ q) :
    ∃ z, (Op.stringOp .add a b).run P w = .ok z w ∧ VRel φ v z := by
  unfold mkS2 at h
  rw [enc_len, enc_len, ble_dec] at h
  by_cases hl : Nat.add p.length q.length ≤ 1000000
  · simp only [hl, decide_true, seqN_eq] at h
    cases h
    refine ⟨.string (a ++ b), ?_, .cat p q c _ (by rw [ba_append]; exact hs)⟩
    have hl : p.length + q.length ≤ 1000000 := hl
    have hu := cy_len φ c
    have hz : a.data.toList.length + b.data.toList.length = p.length + (φ.cy c).data.toList.length + q.length := by
      have := congrArg List.length hs
      rw [List.length_append, List.length_append, List.length_append] at this
      exact this
    have h1 : ¬ (((a.size + b.size : Nat) : Int) > IntKind.i64.max) := by
      rw [ba_size, ba_size]
      have : IntKind.i64.max = 9223372036854775807 := by rfl
      rw [this]; omega
    simp only [Op.stringOp]
    rw [if_neg h1]; rfl
  · simp only [hl, decide_false] at h; cases h
theorem ne_beq {a b : List UInt8} (h : a ≠ b) : (a == b) = false := beq_eq_false_iff_ne.2 h
theorem binV_ok {op : BinOp} {t : TypeId} {x y : Operand} {cx cy v : AVal} {xv yv : Value} {φ : Ren} {w : World} (h1 : op ≠ .shl) (h2 : op ≠ .shr) (hx : VRel φ cx xv) (hy : VRel φ cy yv) (h : binV op (ik op) (sok op) cx cy = some v) :
    ∃ r, ((eqGuard op t x y xv yv >>= fun _ => binOp op t xv yv).run P w) = .ok r w ∧ VRel φ v r := by
  cases hx <;> try (cases h; done)
  case int k a =>
    cases hy <;> try (cases h; done)
    case int k' b =>
      obtain ⟨hk, h'⟩ := when_some (show when (kindEq k k') ((ik op).f k a b) = some v from h)
      have := kindEq_iff.1 hk; subst this
      simp only [Sem.run_bind, rGuard_int, Result.andThen_ok, binOp_int h1 h2]
      exact ik_ok op k a b v h' φ
    case rng k' lo hi n g1 g2 =>
      obtain ⟨hk, h'⟩ := when_some (show when (kindEq k k') (rB (swapB op) lo hi a) = some v from h)
      have := kindEq_iff.1 hk; subst this
      simp only [Sem.run_bind, rGuard_int, Result.andThen_ok, binOp_int h1 h2]
      have hs : swapB op ≠ .add := fun e => by rw [e] at h'; cases h'
      exact ik_ok op k a n v (swap_ok (rB_ok g1 g2 h') hs) φ
  case rng k lo hi n g1 g2 =>
    cases hy <;> try (cases h; done)
    case int k' b =>
      obtain ⟨hk, h'⟩ := when_some (show when (kindEq k k') (rB op lo hi b) = some v from h)
      have := kindEq_iff.1 hk; subst this
      simp only [Sem.run_bind, rGuard_int, Result.andThen_ok, binOp_int h1 h2]
      exact ik_ok op k n b v (rB_ok g1 g2 h') φ
  case str s =>
    cases hy <;> try (cases h; done)
    case str u =>
      simp only [Sem.run_bind, rGuard_str, Result.andThen_ok, binOp_str]
      exact sok_ok op s u v h φ
    case cat p q c u hu =>
      have h : strCat op (enc s.data.toList) (enc p) c (enc q) = some v := h
      simp only [Sem.run_bind, rGuard_str, Result.andThen_ok, binOp_str]
      have key : ∀ x, when (neCS (enc p) (enc q) (enc s.data.toList)) (some false) = some x → (s.data.toList == u.data.toList) = x := by
        intro x hx
        obtain ⟨g1, g2⟩ := when_some hx
        injection g2 with g2
        rw [← g2, hu]; exact ne_beq (neCS_ok (cy_len φ c) g1)
      cases op <;> try (exact catBin_ok h key)
      exact mkS2_ok (p := s.data.toList ++ p) (q := q) (c := c) (by rw [← sApp_enc]; exact h) (by rw [hu]; simp)
  case cat p q c s hs =>
    cases hy <;> try (cases h; done)
    case str u =>
      simp only [Sem.run_bind, rGuard_str, Result.andThen_ok, binOp_str]
      have h : catL op (enc p) c (enc q) (.str (enc u.data.toList)) = some v := h
      have key : ∀ x, when (neCS (enc p) (enc q) (enc u.data.toList)) (some false) = some x → (s.data.toList == u.data.toList) = x := by
        intro x hx
        obtain ⟨g1, g2⟩ := when_some hx
        injection g2 with g2
        rw [← g2, hs]; exact ne_beq fun e => neCS_ok (cy_len φ c) g1 e.symm
      cases op <;> try (exact catBin_ok h key)
      exact mkS2_ok (p := p) (q := q ++ u.data.toList) (c := c) (by rw [← sApp_enc]; exact h) (by rw [hs]; simp)
    case cat p' q' c' u hu =>
      simp only [Sem.run_bind, rGuard_str, Result.andThen_ok, binOp_str]
      have h : catBin op (eqCC (enc p) c (enc q) (enc p') c' (enc q')) = some v := h
      exact catBin_ok h fun x hx => by rw [hs, hu]; exact eqCC_ok hx
  case unk k n =>
    cases hy <;> try (cases h; done)
    case int k' b =>
      have h : unkBin op k k' = some v := h
      simp only [Sem.run_bind, rGuard_int, Result.andThen_ok]
      cases op <;> simp only [unkBin] at h <;> try (cases h; done)
      case shr => exact absurd rfl h2
      case and =>
        obtain ⟨hk, h'⟩ := when_some h
        have := kindEq_iff.1 hk; subst this
        injection h' with h'; subst h'
        exact ⟨_, by rw [binOp_int (by simp) (by simp)]; rfl, .unk _ _⟩
      all_goals
        obtain ⟨hk, h'⟩ := when_some h
        have := kindEq_iff.1 hk; subst this
        injection h' with h'; subst h'
        exact ⟨_, by rw [binOp_int (by simp) (by simp)]; rfl, .unkBool _⟩
  case modv k m r n h0 hm =>
    cases hy <;> try (cases h; done)
    case int k' b =>
      have h : modBin op k m r k' b = some v := h
      cases op <;> simp only [modBin] at h <;> try (cases h; done)
      obtain ⟨hk, h'⟩ := when_some h
      obtain ⟨hb, h'⟩ := when_some h'
      obtain ⟨hp, h'⟩ := when_some h'
      have := kindEq_iff.1 hk; subst this
      rw [eqI_eq] at hb
      have hb := eq_of_beq hb
      have hb : b = (m : Int) := hb
      rw [blt_dec] at hp
      have hp := of_decide_eq_true hp
      injection h' with h'; subst h'
      simp only [Sem.run_bind, rGuard_int, Result.andThen_ok]
      refine ⟨.int k (n.tmod b), ?_, ?_⟩
      · rw [binOp_int (by simp) (by simp)]
        have : b ≠ 0 := by omega
        simp [intDo, Op.intDiv, this]
      · rw [hb, Int.tmod_eq_emod_of_nonneg h0, hm]; exact .int _ _
  case gr r j lo hi g1 g2 =>
    cases hy <;> try (cases h; done)
    case int k' b =>
      have h : grBin op r j lo hi k' b = some v := h
      cases op <;> simp only [grBin] at h <;> try (cases h; done)
      case rem =>
        obtain ⟨hk, h'⟩ := when_some h
        obtain ⟨hb, h'⟩ := when_some h'
        have := kindEq_iff.1 hk; subst this
        rw [eqI_eq] at hb
        have hb : b = 128 := eq_of_beq hb
        subst hb
        injection h' with h'; subst h'
        simp only [Sem.run_bind, rGuard_int, Result.andThen_ok]
        refine ⟨.int .u64 ((((φ.raw r).size / 128 ^ j : Nat) : Int).tmod 128), ?_, ?_⟩
        · rw [binOp_int (by simp) (by simp)]
          simp [intDo, Op.intDiv]
        · rw [Int.tmod_eq_emod_of_nonneg (by omega)]
          exact VRel.dg .u64 r j false
      case gtr =>
        obtain ⟨hk, h'⟩ := when_some h
        obtain ⟨hb, h'⟩ := when_some h'
        have := kindEq_iff.1 hk; subst this
        rw [eqI_eq] at hb
        have hb : b = 0 := eq_of_beq hb
        subst hb
        simp only [Sem.run_bind, rGuard_int, Result.andThen_ok]
        refine ⟨.bool (decide ((((φ.raw r).size / 128 ^ j : Nat) : Int) > 0)), by rw [binOp_int (by simp) (by simp)]; rfl, ?_⟩
        unfold two at h'
        split at h'
        · rename_i e
          rw [blt_dec] at e
          have e := of_decide_eq_true e
          injection h' with h'; subst h'
          have : decide ((((φ.raw r).size / 128 ^ j : Nat) : Int) > 0) = true := decide_eq_true (by omega)
          rw [this]; exact .bool true
        · split at h'
          · rename_i e
            have e := Nat.eq_of_beq_eq_true e
            injection h' with h'; subst h'
            have : decide ((((φ.raw r).size / 128 ^ j : Nat) : Int) > 0) = false := decide_eq_false (by omega)
            rw [this]; exact .bool false
          · cases h'
      case eql =>
        obtain ⟨hk, h'⟩ := when_some h
        obtain ⟨hb, h'⟩ := when_some h'
        have := kindEq_iff.1 hk; subst this
        rw [eqI_eq] at hb
        have hb : b = 0 := eq_of_beq hb
        subst hb
        simp only [Sem.run_bind, rGuard_int, Result.andThen_ok]
        refine ⟨.bool ((((φ.raw r).size / 128 ^ j : Nat) : Int) == 0), by rw [binOp_int (by simp) (by simp)]; rfl, ?_⟩
        unfold two at h'
        split at h'
        · rename_i e
          have e := Nat.eq_of_beq_eq_true e
          injection h' with h'; subst h'
          have : ((((φ.raw r).size / 128 ^ j : Nat) : Int) == 0) = true := beq_iff_eq.2 (by omega)
          rw [this]; exact .bool true
        · split at h'
          · rename_i e
            rw [blt_dec] at e
            have e := of_decide_eq_true e
            injection h' with h'; subst h'
            have : ((((φ.raw r).size / 128 ^ j : Nat) : Int) == 0) = false := beq_eq_false_iff_ne.2 (by omega)
            rw [this]; exact .bool false
          · cases h'
  case dg k r j c =>
    cases hy <;> try (cases h; done)
    case int k' b =>
      have h : dgBin op k r j c k' b = some v := h
      cases op <;> simp only [dgBin] at h <;> try (cases h; done)
      case or =>
        cases c with
        | true => cases h
        | false =>
          obtain ⟨hk, h'⟩ := when_some (show when (kindEq k .u8) (when (kindEq k' .u8) (when (eqI b 128) (some (.dg .u8 r j true)))) = some v from h)
          obtain ⟨hk', h'⟩ := when_some h'
          obtain ⟨hb, h'⟩ := when_some h'
          have := kindEq_iff.1 hk; subst this
          have := kindEq_iff.1 hk'; subst this
          rw [eqI_eq] at hb
          have hb : b = 128 := eq_of_beq hb
          subst hb
          injection h' with h'; subst h'
          simp only [Sem.run_bind, rGuard_int, Result.andThen_ok]
          have hlt : dgN (φ.raw r).size j false < 128 := by unfold dgN; simp; omega
          have e2 : dgN (φ.raw r).size j true = dgN (φ.raw r).size j false + 128 := by unfold dgN; simp
          have key : ∀ d : Nat, d < 128 → ofBits .u8 (Nat.lor (toBits .u8 (Int.ofNat d)) (toBits .u8 128)) = Int.ofNat (d + 128) := by decide
          have kk : (ik .or).f .u8 (Int.ofNat (dgN (φ.raw r).size j false)) 128 = some (.int .u8 (Int.ofNat (dgN (φ.raw r).size j false + 128))) := by
            show iOr .u8 _ _ = _
            rw [iOr, mkI_eq, key _ hlt]
          obtain ⟨z, z1, z2⟩ := ik_ok (P := P) (w := w) .or .u8 _ _ _ kk φ
          cases z2
          refine ⟨_, by rw [binOp_int (by simp) (by simp)]; exact z1, ?_⟩
          rw [← e2]
          exact VRel.dg .u8 r j true
theorem exec_bin {op : BinOp} {t : TypeId} {x y : Operand} {yt : TypeId} (ho : o.op = .binOp op t x y yt) {a : Act} {w : World} {r : Value} (h : ((eqGuard op t x y (a.eval x) (a.eval y) >>= fun _ => binOp op t (a.eval x) (a.eval y)).run P w) = .ok r w) :
    (execOp a.eval o).run P w = .ok (.value r) w := by
  simp only [execOp, ho]
  simp only [Sem.run_bind] at h ⊢
  rw [h]; rfl
theorem pBin {op : BinOp} {t : TypeId} {x y : Operand} {yt : TypeId} (ho : o.op = .binOp op t x y yt) (h1 : op ≠ .shl) (h2 : op ≠ .shr) :
    POK P sl o (fun vs ρ => binV op (ik op) (sok op) ((vk sl x).get vs ρ) ((vk sl y).get vs ρ)) := by
  intro φ vs ρ a w v hl hf
  obtain ⟨r, hr, hv⟩ := binV_ok (P := P) (t := t) (x := x) (y := y) (w := w) h1 h2 (hl.at ho (x := x) (by simp [Op.operands])) (hl.at ho (x := y) (by simp [Op.operands])) hf
  exact ⟨r, exec_bin ho hr, hv⟩
theorem pShl {t : TypeId} {x y : Operand} {yt : TypeId} (ho : o.op = .binOp .shl t x y yt) : POK P sl o (fun vs ρ => shlB ((vk sl x).get vs ρ) ((vk sl y).get vs ρ)) := by
  intro φ vs ρ a w v hl hf
  have hf : shlB _ _ = _ := hf
  have hx := hl.at ho (x := x) (by simp [Op.operands])
  have hy := hl.at ho (x := y) (by simp [Op.operands])
  generalize (vk sl x).get vs ρ = cx at hx hf
  generalize (vk sl y).get vs ρ = cy at hy hf
  have key : ∀ {xv yv : Value}, VRel φ cx xv → VRel φ cy yv → ∃ r, ((eqGuard .shl t x y xv yv >>= fun _ => binOp .shl t xv yv).run P w) = .ok r w ∧ VRel φ v r := by
    intro xv yv hx hy
    cases hx <;> cases hy <;> try (cases hf; done)
    case int.int k n k' m =>
      obtain ⟨s, h1, h2⟩ := ob_some (show ob (shiftN k m) (fun n' => shlV k n n') = some v from hf)
      cases m with
      | negSucc m => cases h1
      | ofNat m =>
        cases h1
        rw [shlV, mkI_eq, wrapA_eq, minN_eq, bitsN_eq, shl_eq, Nat.one_mul] at h2
        cases h2
        simp only [Sem.run_bind, rGuard_int, Result.andThen_ok]
        refine ⟨_, ?_, .int _ _⟩
        have h3 : ¬ ((m : Int) < 0) := by omega
        simp [binOp, Op.shift, h3]
  obtain ⟨r, hr, hv⟩ := key hx hy
  exact ⟨r, exec_bin ho hr, hv⟩
theorem pShr {t : TypeId} {x y : Operand} {yt : TypeId} (ho : o.op = .binOp .shr t x y yt) : POK P sl o (fun vs ρ => shrB ((vk sl x).get vs ρ) ((vk sl y).get vs ρ)) := by
  intro φ vs ρ a w v hl hf
  have hf : shrB _ _ = _ := hf
  have hx := hl.at ho (x := x) (by simp [Op.operands])
  have hy := hl.at ho (x := y) (by simp [Op.operands])
  generalize (vk sl x).get vs ρ = cx at hx hf
  generalize (vk sl y).get vs ρ = cy at hy hf
  have key : ∀ {xv yv : Value}, VRel φ cx xv → VRel φ cy yv → ∃ r, ((eqGuard .shr t x y xv yv >>= fun _ => binOp .shr t xv yv).run P w) = .ok r w ∧ VRel φ v r := by
    intro xv yv hx hy
    cases hx <;> cases hy <;> try (cases hf; done)
    case int.int k n k' m =>
      obtain ⟨s, h1, h2⟩ := ob_some (show ob (shiftN k m) (fun n' => shrV k n n') = some v from hf)
      cases m with
      | negSucc m => cases h1
      | ofNat m =>
        cases h1
        simp only [Sem.run_bind, rGuard_int, Result.andThen_ok]
        have h3 : ¬ ((m : Int) < 0) := by omega
        rw [minN_eq, bitsN_eq] at h2
        have hv : v = .int k (n.fdiv (2 ^ (min m k.bits))) := by
          cases n with
          | ofNat n =>
            rw [shrV, mkI_eq, shr_eq] at h2
            cases h2
            congr 1
            rw [Int.fdiv_eq_ediv_of_nonneg _ (by exact_mod_cast Nat.zero_le (2 ^ (min m k.bits)))]
            simp
          | negSucc n =>
            rw [shrV, mkI_eq, shr_eq] at h2
            cases h2
            congr 1
            rw [Int.fdiv_eq_ediv_of_nonneg _ (by exact_mod_cast Nat.zero_le (2 ^ (min m k.bits)))]
            have e2 : (2 ^ (min m k.bits) : Int) = ((2 ^ (min m k.bits) : Nat) : Int) := by simp
            rw [e2, Int.negSucc_ediv _ (by exact_mod_cast Nat.two_pow_pos _)]
            rw [Int.negSucc_eq]
            simp
            rfl
        rw [hv]
        refine ⟨_, ?_, .int _ _⟩
        simp [binOp, Op.shift, h3]
    case gr.int r j lo hi g1 g2 k' m =>
      cases m with
      | negSucc m => cases hf
      | ofNat m =>
        obtain ⟨e1, e2⟩ := when_some (show when (Nat.beq m 7) (some (.gr r (Nat.succ j) (Nat.div lo 128) (Nat.div hi 128))) = some v from hf)
        have e1 := Nat.eq_of_beq_eq_true e1
        subst e1
        injection e2 with e2; subst e2
        simp only [Sem.run_bind, rGuard_int, Result.andThen_ok]
        have hd : (φ.raw r).size / 128 ^ (j + 1) = (φ.raw r).size / 128 ^ j / 128 := by rw [Nat.pow_succ, Nat.div_div_eq_div_mul]
        have hv : ((((φ.raw r).size / 128 ^ j : Nat) : Int)).fdiv 128 = (((φ.raw r).size / 128 ^ (j + 1) : Nat) : Int) := by
          rw [hd, Int.fdiv_eq_ediv_of_nonneg _ (by omega)]
          exact (Int.natCast_ediv _ _).symm
        refine ⟨.int .u64 (((φ.raw r).size / 128 ^ (j + 1) : Nat) : Int), ?_, .gr r (j + 1) _ _ ?_ ?_⟩
        · rw [← hv]
          simp [binOp, Op.shift, IntKind.bits]
        · rw [hd]; exact Nat.div_le_div_right g1
        · rw [hd]; exact Nat.div_le_div_right g2
    case unk.int k n k' m =>
      cases m with
      | negSucc m => cases hf
      | ofNat m =>
        cases hf
        simp only [Sem.run_bind, rGuard_int, Result.andThen_ok]
        have h3 : ¬ ((m : Int) < 0) := by omega
        exact ⟨_, by simp [binOp, Op.shift, h3]; rfl, .unk _ _⟩
  obtain ⟨r, hr, hv⟩ := key hx hy
  exact ⟨r, exec_bin ho hr, hv⟩
end
end Go.Proofs.YtpjkcfglojigmaaGreatDoor.Ev
namespace Go.Proofs.YtpjkcfglojigmaaGreatDoor.Ev
set_option linter.unusedVariables false
set_option linter.unusedSimpArgs false
open Go
section
variable {P : Program} {sl : SL} {o : Oper}
theorem row_ok {φ : Ren} {h : Heap} {hp : Array Obj} (H : HRelR P φ h hp) {id : Nat} (hd : φ.dom id) {c : T AVal} (hr : h.row id = some c) :
    ∃ lo hi et cc fz, h.objs.get id = some (.cells c lo hi et) ∧ hp[φ.blk id]? = some (.cells cc et fz) ∧ RowOk P φ id c lo hi et cc fz := by
  unfold Heap.row at hr
  cases hg : h.objs.get id with
  | none => rw [hg] at hr; cases hr
  | some ob =>
    rw [hg] at hr
    cases ob <;> try (cases hr; done)
    rename_i c' lo hi et
    cases hr
    obtain ⟨o', ho, cc, fz, e, hrow⟩ := H.obj id _ hd hg
    exact ⟨lo, hi, et, cc, fz, rfl, by rw [ho, e], hrow⟩
theorem cell_ok {φ : Ren} {id : Nat} {c : T AVal} {lo : Nat} {hi : Option Nat} {et : TypeId} {cc : Array Value} {fz : Nat × Nat} {w : World} (hb : w.heap[φ.blk id]? = some (.cells cc et fz)) (R : RowOk P φ id c lo hi et cc fz)
    {k : Nat} {v : AVal} (hv : c.get k = some v) : ∃ x, w.cell? (baseOf φ id k) = some x ∧ VRel φ v x ∧ x.oneCell' = true := by
  obtain ⟨_, x, hx, hr, h1⟩ := R.cell k v hv
  exact ⟨x, by simp [World.cell?, baseOf, hb, hx], hr, h1⟩
theorem loadN_ok {φ : Ren} {id : Nat} {c : T AVal} {lo : Nat} {hi : Option Nat} {et : TypeId} {cc : Array Value} {fz : Nat × Nat} {w : World} (hb : w.heap[φ.blk id]? = some (.cells cc et fz)) (R : RowOk P φ id c lo hi et cc fz) :
    ∀ (n off : Nat) (l : List AVal), loadN c n off = some l → ∃ l' : List Value, l'.length = n ∧ l.length = n ∧ VRelL φ l l' ∧ (∀ x ∈ l', x.oneCell' = true) ∧ ∀ j v, l'[j]? = some v → w.cell? (baseOf φ id (off + j)) = some v
  | 0, off, l, h => by cases h; exact ⟨[], rfl, rfl, .nil, by simp, by simp⟩
  | n + 1, off, l, h => by
    obtain ⟨v, h1, h2⟩ := ob_some h
    obtain ⟨r, h3, h4⟩ := ob_some h2
    cases h4
    rw [seqN_eq] at h3
    obtain ⟨l', hl, hl2, hr, ho, hc⟩ := loadN_ok hb R n (off + 1) r h3
    obtain ⟨x, hx, hxr, hx1⟩ := cell_ok hb R h1
    refine ⟨x :: l', by simp [hl], by simp [hl2], .cons _ _ _ _ hxr hr, by simp [hx1]; exact ho, fun j u hj => ?_⟩
    cases j with
    | zero => simp at hj; subst hj; exact hx
    | succ j =>
      have := hc j u (by simpa using hj)
      rw [show off + (j + 1) = off + 1 + j from by omega]; exact this
theorem rLoadCells {φ : Ren} {id off n : Nat} {w : World} {l' : List Value} (hl : l'.length = n) (hc : ∀ j v, l'[j]? = some v → w.cell? (baseOf φ id (off + j)) = some v) :
    (loadCells (baseOf φ id off) n).run P w = .ok l'.toArray w := by
  rw [← hl]
  exact run_loadCells_list w _ l' (fun j v hj => by rw [add_base]; exact hc j v hj)
/-- a variable is read -/
theorem loadC_ok {φ : Ren} {t : TypeId} {i : TI} (k : TIok P t i) {id off : Nat} {c : T AVal} {lo : Nat} {hi : Option Nat} {et : TypeId} {cc : Array Value} {fz : Nat × Nat} {w : World} (hb : w.heap[φ.blk id]? = some (.cells cc et fz))
    (R : RowOk P φ id c lo hi et cc fz) {v : AVal} (hv : loadC i off c = some v) : ∃ x, (loadVar t (baseOf φ id off)).run P w = .ok x w ∧ VRel φ v x := by
  unfold loadC at hv
  simp only [loadVar, Sem.run_bind, k.rAgg, Result.andThen_ok]
  cases ha : i.agg with
  | true =>
    rw [ha] at hv
    obtain ⟨l, h1, h2⟩ := ob_some hv
    cases h2
    obtain ⟨l', hl, _, hr, ho, hc⟩ := loadN_ok hb R _ _ _ h1
    refine ⟨.agg l'.toArray, ?_, .agg _ _ (by simpa using hr) (by simpa using ho)⟩
    simp [k.rSize, rLoadCells hl hc]
  | false =>
    rw [ha] at hv
    obtain ⟨x, hx, hr, _⟩ := cell_ok hb R hv
    exact ⟨x, by simp [run_load, hx], hr⟩
theorem loadV_ok {φ : Ren} {h : Heap} {t : TypeId} {i : TI} (k : TIok P t i) {w : World} (H : HRelR P φ h w.heap) {pv : AVal} {px : Value} (hp : VRel φ pv px) {v : AVal} (hv : loadV i h pv = some v) :
    ∃ ad x, px = .pointer (some ad) ∧ (loadVar t ad).run P w = .ok x w ∧ VRel φ v x := by
  cases hp <;> try (cases hv; done)
  rename_i id off hd
  obtain ⟨c, h1, h2⟩ := ob_some (show ob (h.row id) (loadC i off) = some v from hv)
  obtain ⟨lo, hi, et, cc, fz, _, hb, R⟩ := row_ok H hd h1
  obtain ⟨x, hx, hr⟩ := loadC_ok k hb R h2
  exact ⟨_, x, rfl, hx, hr⟩
theorem nLoad {t : TypeId} {x : Operand} (ho : o.op = .load t x) {i : TI} (k : TIok P t i) : NOK P sl o (fun vs ρ h => loadV i h ((vk sl x).get vs ρ)) := by
  intro φ h vs ρ a w v hl H hf
  obtain ⟨ad, y, he, hy, hr⟩ := loadV_ok k H (hl.at ho (x := x) (by simp [Op.operands])) hf
  exact ⟨y, by simp [execOp, ho, Instr.loadAt, he, Instr.sureAddr, hy], hr⟩
theorem pAtStr {t : TypeId} {x ix : Operand} (ho : o.op = .index t x ix) {i : TI} (k : TIok P t i) (hd : i.desc = .str) : POK P sl o (fun vs ρ => natV (atStr ((vk sl x).get vs ρ)) ((vk sl ix).get vs ρ)) := by
  intro φ vs ρ a w v hl hf
  obtain ⟨kk, n, h1, h2⟩ := natV_some hf
  have hi := hl.at ho (x := ix) (by simp [Op.operands])
  rw [h1] at hi
  generalize hie : a.eval ix = ie at hi
  cases hi
  have hc := hl.at ho (x := x) (by simp [Op.operands])
  generalize (vk sl x).get vs ρ = cv at hc h2
  generalize hce : a.eval x = ce at hc
  have hdd := k.hdesc
  rw [hd] at hdd
  have hdd : k.desc = .string := hdd
  cases hc <;> try (cases h2; done)
  rename_i s
  simp only [atStr, blt_dec, seqN_eq, enc_len] at h2
  obtain ⟨h3, h4⟩ := when_some h2
  have h3 : n < s.data.toList.length := of_decide_eq_true h3
  cases h4
  refine ⟨.int .u8 (s.data.toList[n].toNat : Int), ?_, ?_⟩
  · have hb : s[n]? = some s.data.toList[n] := by rw [ba_get]; exact List.getElem?_eq_getElem h3
    have h0 : (0 : Int) ≤ (n : Int) := by omega
    simp only [execOp, ho, hce, hie, Instr.index, asIntOf, Sem.run_bind, Sem.run_pure, k.rUnd, hdd, Result.andThen_ok]
    simp only [Int.ofNat_eq_natCast, h0, if_true, Int.toNat_natCast, hb]
    rfl
  · rw [sGet_enc _ _ h3]; exact .int _ _
theorem pAtArr {t : TypeId} {x ix : Operand} (ho : o.op = .index t x ix) {i : TI} (k : TIok P t i) {m : Nat} {e : TypeId} (hd : i.desc = .arr m e) {ei : TI} (ke : TIok P e ei) :
    POK P sl o (fun vs ρ => natV (atArr m ei ((vk sl x).get vs ρ)) ((vk sl ix).get vs ρ)) := by
  intro φ vs ρ a w v hl hf
  obtain ⟨kk, n, h1, h2⟩ := natV_some hf
  have hi := hl.at ho (x := ix) (by simp [Op.operands])
  rw [h1] at hi
  generalize hie : a.eval ix = ie at hi
  cases hi
  have hc := hl.at ho (x := x) (by simp [Op.operands])
  generalize (vk sl x).get vs ρ = cv at hc h2
  generalize hce : a.eval x = ce at hc
  have hdd := k.hdesc
  rw [hd] at hdd
  have hdd : k.desc = .array m e := hdd
  cases hc <;> try (cases h2; done)
  rename_i l l' h h1'
  simp only [atArr, blt_dec] at h2
  obtain ⟨h3, h4⟩ := when_some h2
  have h3 : n < m := of_decide_eq_true h3
  obtain ⟨y, hy, hr⟩ := partA_ok ke h h1' h4 (w := w)
  refine ⟨y, ?_, hr⟩
  have h0 : (0 : Int) ≤ (n : Int) := by omega
  have h5 : (n : Int) < (m : Int) := by omega
  simp only [execOp, ho, hce, hie, Instr.index, asIntOf, Sem.run_bind, Sem.run_pure, k.rUnd, hdd, Result.andThen_ok]
  simp only [Int.ofNat_eq_natCast, h0, h5, and_self, if_true, Sem.run_bind, ke.rSize, Result.andThen_ok, Int.toNat_natCast]
  rw [show n * ei.size = Nat.mul n ei.size from rfl, hy]; rfl
theorem pConvInt {s d : TypeId} {x : Operand} (ho : o.op = .convert s d x) {si di : TI} (ks : TIok P s si) (kd : TIok P d di) {k : IntKind} (hd : di.desc = .int k) :
    POK P sl o (fun vs ρ => convInt k ((vk sl x).get vs ρ)) := by
  intro φ vs ρ a w v hl hf
  have hf : convInt _ _ = _ := hf
  have hc := hl.at ho (x := x) (by simp [Op.operands])
  generalize (vk sl x).get vs ρ = cv at hc hf
  generalize hce : a.eval x = ce at hc
  have hdd := kd.hdesc
  rw [hd] at hdd
  have hdd : kd.desc = .int k := hdd
  cases hc <;> try (cases hf; done)
  case int k' n =>
    simp only [convInt, mkI_eq, wrapA_eq] at hf
    cases hf
    refine ⟨.int k (k.wrap n), ?_, .int _ _⟩
    simp [execOp, ho, hce, convert, ks.rUnd, kd.rUnd, hdd, Conv.intToInt]
  case dg k' r j c =>
    obtain ⟨h1, h2⟩ := when_some (show when (kindEq k .u8) (some (.dg .u8 r j c)) = some v from hf)
    have := kindEq_iff.1 h1; subst this
    injection h2 with h2; subst h2
    have hlt : dgN (φ.raw r).size j c < 256 := by unfold dgN; split <;> omega
    have key : ∀ d : Nat, d < 256 → IntKind.u8.wrap (d : Int) = (d : Int) := by
      set_option maxRecDepth 100000 in decide
    refine ⟨.int .u8 (IntKind.u8.wrap ((dgN (φ.raw r).size j c : Nat) : Int)), ?_, by rw [key _ hlt]; exact .dg .u8 r j c⟩
    simp [execOp, ho, hce, convert, ks.rUnd, kd.rUnd, hdd, Conv.intToInt]
theorem pConvRune {s d : TypeId} {x : Operand} (ho : o.op = .convert s d x) {si di : TI} (ks : TIok P s si) (kd : TIok P d di) (hd : di.desc = .str) :
    POK P sl o (fun vs ρ => convRune ((vk sl x).get vs ρ)) := by
  intro φ vs ρ a w v hl hf
  have hf : convRune _ = _ := hf
  have hc := hl.at ho (x := x) (by simp [Op.operands])
  generalize (vk sl x).get vs ρ = cv at hc hf
  generalize hce : a.eval x = ce at hc
  have hdd := kd.hdesc
  rw [hd] at hdd
  have hdd : kd.desc = .string := hdd
  cases hc <;> try (cases hf; done)
  rename_i k' n
  cases n with
  | negSucc n => cases hf
  | ofNat n =>
    simp only [convRune, blt_dec] at hf
    obtain ⟨h1, h2⟩ := when_some hf
    have h1 : n < 128 := of_decide_eq_true h1
    cases h2
    refine ⟨.string (Utf8.encode n), by simp [execOp, ho, hce, convert, ks.rUnd, kd.rUnd, hdd, Conv.intToString], ?_⟩
    have hval : Utf8.valid (n : Int) = true := by
      unfold Utf8.valid
      simp only [Bool.and_eq_true, Bool.or_eq_true, decide_eq_true_iff, Bool.not_eq_true']
      first | omega | (refine ⟨by omega, ?_⟩; simp; omega) | (simp; omega)
    have he : Utf8.encode (n : Int) = ⟨#[UInt8.ofNat n]⟩ := by
      unfold Utf8.encode
      simp [hval, show n < 128 from h1]
    have h3 : Nat.add 256 n = enc (Utf8.encode (n : Int)).data.toList := by
      rw [he]
      show 256 + n = 1 * 256 + (UInt8.ofNat n).toNat
      simp; omega
    rw [h3]; exact .str _
theorem pConvStr {s d : TypeId} {x : Operand} (ho : o.op = .convert s d x) {si di : TI} (ks : TIok P s si) (kd : TIok P d di) (hs : si.desc = .str) (hd : di.desc = .str) :
    POK P sl o (fun vs ρ => isStr ((vk sl x).get vs ρ)) := by
  intro φ vs ρ a w v hl hf
  have hf : isStr _ = _ := hf
  have hc := hl.at ho (x := x) (by simp [Op.operands])
  generalize (vk sl x).get vs ρ = cv at hc hf
  generalize hce : a.eval x = ce at hc
  have hdd := kd.hdesc
  rw [hd] at hdd
  have hdd : kd.desc = .string := hdd
  have hss := ks.hdesc
  rw [hs] at hss
  have hss : ks.desc = .string := hss
  cases hc <;> try (cases hf; done)
  cases hf
  exact ⟨_, by simp [execOp, ho, hce, convert, ks.rUnd, kd.rUnd, hdd, hss], .str _⟩
end
end Go.Proofs.YtpjkcfglojigmaaGreatDoor.Ev
namespace Go.Proofs.YtpjkcfglojigmaaGreatDoor.Ev
set_option linter.unusedVariables false
set_option linter.unusedSimpArgs false
open Go
section
variable {P : Program} {tt : TT}

theorem plainRow_ok (hT : TTok P tt) {φ : Ren} {h : Heap} {hp : Array Obj} (H : HRelR P φ h hp) {id : Nat} (hd : φ.dom id) (hr : plainRow tt (h.objs.get id) = some ()) :
    (∃ o, h.objs.get id = some o) ∧ ∃ cc et, hp[φ.blk id]? = some (.cells cc et (0, 0)) := by
  cases hg : h.objs.get id with
  | none => rw [hg] at hr; cases hr
  | some ob =>
    rw [hg] at hr
    cases ob <;> try (cases hr; done)
    rename_i c lo hi et
    obtain ⟨i, h1, h2⟩ := ob_some (show ob (tt.get et) (fun i => when (notB (isByteD i.desc)) (some ())) = some () from hr)
    obtain ⟨h3, _⟩ := when_some h2
    obtain ⟨k⟩ := hT et i h1
    obtain ⟨o', ho, cc, fz, e, R⟩ := H.obj id _ hd hg
    refine ⟨⟨_, rfl⟩, cc, et, ?_⟩
    rw [ho, e]
    rcases R.fz with h4 | ⟨h4, _⟩
    · rw [h4]
    · exfalso
      have hdd := k.hdesc
      rw [k.hund] at h4
      injection h4 with h4
      rw [h4] at hdd
      rw [notB_eq] at h3
      revert h3 hdd
      cases i.desc <;> simp [TDRel, isByteD]
      intro h5 h6
      subst h6; simp [kindEq] at h5
theorem rStringish_plain {w : World} {a : Addr} {cc : Array Value} {et : TypeId} (hb : w.heap[a.block]? = some (.cells cc et (0, 0))) : (stringish a).run P w = .ok false w := by
  simp [stringish, World.frozen?, hb, World.shape?]
theorem rNoView {w : World} {a : Addr} {cc : Array Value} {et : TypeId} {fz : Nat × Nat} (hb : w.heap[a.block]? = some (.cells cc et fz)) : (noView a).run P w = .ok () w := by
  simp [noView, viewAt, World.shape?, hb]
theorem rSameAddr_ne {w : World} {a b : Addr} (hne : a.block ≠ b.block) {cc dd : Array Value} {et ft : TypeId} (ha : w.heap[a.block]? = some (.cells cc et (0, 0))) (hb : w.heap[b.block]? = some (.cells dd ft (0, 0))) :
    (sameAddr a b).run P w = .ok false w := by
  have h1 : (a.block == b.block) = false := by simpa using hne
  have fa : w.frozen? a = false := by simp [World.frozen?, ha]
  simp [sameAddr, h1, fa, rNoView ha, rNoView hb, mayBeOne, rStringish_plain ha, rStringish_plain hb]
theorem rSameAddr_eq {w : World} {a b : Addr} (he : a.block = b.block) : (sameAddr a b).run P w = .ok (a == b) w := by
  simp [sameAddr, he]

/-- the elements of two arrays, one after the other -/
def eqElemsS (P : Program) (d : Nat) (e : TypeId) (xs ys : Array Value) (s : Nat) : Nat → Nat → Sem Bool
  | 0, _ => pure true
  | n + 1, k => do
    let a ← part e xs (k * s)
    let b ← part e ys (k * s)
    let r ← Op.equalIn d e a b
    if (!r) = true then pure false else eqElemsS P d e xs ys s n (k + 1)
theorem run_equalIn_arr {d : Nat} {t e : TypeId} {n s : Nat} {xs ys : Array Value} {w : World} (ht : P.underlying t = some (.array n e)) (hs : ∀ w, (sizeOf e).run P w = .ok s w) :
    (Op.equalIn (d + 1) t (.agg xs) (.agg ys)).run P w = (eqElemsS P d e xs ys s n 0).run P w := by
  simp only [Op.equalIn, Sem.run_bind, rUnd ht, hs, Result.andThen_ok, Std.Legacy.Range.forIn_eq_forIn_range', Std.Legacy.Range.size, Nat.sub_zero, Nat.add_one_sub_one, Nat.div_one]
  generalize 0 = k0
  clear ht
  induction n generalizing w k0 with
  | zero => simp [eqElemsS]
  | succ n ih =>
    simp only [List.range'_succ, List.forIn_cons, eqElemsS, Sem.run_bind]
    generalize (part e xs (k0 * s)).run P w = r1
    cases r1 with
    | ok a w1 =>
      simp only [Result.andThen_ok]
      generalize (part e ys (k0 * s)).run P w1 = r2
      cases r2 with
      | ok b w2 =>
        simp only [Result.andThen_ok]
        generalize (Op.equalIn d e a b).run P w2 = r3
        cases r3 with
        | ok r w3 =>
          cases r
          · simp only [Result.andThen_ok, Bool.not_false, if_true, Sem.run_pure]
          · simp only [Result.andThen_ok, Bool.not_true, Bool.false_eq_true, if_false, Sem.run_pure]
            exact ih (k0 := k0 + 1)
        | halt x w3 => simp [Result.andThen]
      | halt x w2 => simp [Result.andThen]
    | halt x w1 => simp [Result.andThen]

theorem eqFlds_ok (hT : TTok P tt) {φ : Ren} {w : World} {m : Nat} {eq : TI → AVal → AVal → Option Bool}
    (hE : ∀ t i, TIok P t i → ∀ x y x' y' b, VRel φ x x' → VRel φ y y' → eq i x y = some b → (Op.equalIn m t x' y').run P w = .ok b w)
    {xs ys : List AVal} {xs' ys' : Array Value} (hx : VRelL φ xs xs'.toList) (hx1 : ∀ x ∈ xs'.toList, x.oneCell' = true) (hy : VRelL φ ys ys'.toList) (hy1 : ∀ x ∈ ys'.toList, x.oneCell' = true) :
    ∀ (fields : List Field) (b : Bool), eqFlds tt eq (fields.map fun f => (f.offset, f.type, decide (f.name ≠ "_"))) xs ys = some b → (Op.eqFields m xs' ys' fields).run P w = .ok b w
  | [], b, h => by cases h; rfl
  | f :: fs, b, h => by
    simp only [List.map_cons, eqFlds] at h
    simp only [Op.eqFields]
    by_cases hn : f.name ≠ "_"
    · rw [if_pos hn]
      simp only [hn, ne_eq, not_false_eq_true, decide_true] at h
      obtain ⟨i, h1, h⟩ := ob_some h
      obtain ⟨a, h2, h⟩ := ob_some h
      obtain ⟨c, h3, h⟩ := ob_some h
      obtain ⟨r, h4, h⟩ := ob_some h
      obtain ⟨k⟩ := hT _ _ h1
      obtain ⟨a', ha, hra⟩ := partA_ok k hx hx1 h2 (w := w)
      obtain ⟨c', hc, hrc⟩ := partA_ok k hy hy1 h3 (w := w)
      have he := hE _ _ k _ _ _ _ _ hra hrc h4
      simp only [Sem.run_bind, ha, hc, he, Result.andThen_ok]
      cases r with
      | false => cases h; simp
      | true => simp only [Bool.not_true, Bool.false_eq_true, if_false]; exact eqFlds_ok hT hE hx hx1 hy hy1 fs b h
    · rw [if_neg hn]
      simp only [hn, decide_false] at h
      exact eqFlds_ok hT hE hx hx1 hy hy1 fs b h
theorem eqElems_ok {φ : Ren} {w : World} {m : Nat} {eq : AVal → AVal → Option Bool} {e : TypeId} {ie : TI} (k : TIok P e ie)
    (hE : ∀ x y x' y' b, VRel φ x x' → VRel φ y y' → eq x y = some b → (Op.equalIn m e x' y').run P w = .ok b w)
    {xs ys : List AVal} {xs' ys' : Array Value} (hx : VRelL φ xs xs'.toList) (hx1 : ∀ x ∈ xs'.toList, x.oneCell' = true) (hy : VRelL φ ys ys'.toList) (hy1 : ∀ x ∈ ys'.toList, x.oneCell' = true) :
    ∀ (n j : Nat) (b : Bool), eqElems eq ie n (j * ie.size) xs ys = some b → (eqElemsS P m e xs' ys' ie.size n j).run P w = .ok b w
  | 0, j, b, h => by cases h; rfl
  | n + 1, j, b, h => by
    simp only [eqElems] at h
    obtain ⟨a, h2, h⟩ := ob_some h
    obtain ⟨c, h3, h⟩ := ob_some h
    obtain ⟨r, h4, h⟩ := ob_some h
    obtain ⟨a', ha, hra⟩ := partA_ok k hx hx1 h2 (w := w)
    obtain ⟨c', hc, hrc⟩ := partA_ok k hy hy1 h3 (w := w)
    have he := hE _ _ _ _ _ hra hrc h4
    simp only [eqElemsS, Sem.run_bind, ha, hc, he, Result.andThen_ok]
    cases r with
    | false => cases h; simp
    | true =>
      simp only [Bool.not_true, Bool.false_eq_true, if_false]
      simp only [seqN_eq] at h
      refine eqElems_ok k hE hx hx1 hy hy1 n (j + 1) b ?_
      rw [show (j + 1) * ie.size = Nat.add (j * ie.size) ie.size from by rw [Nat.add_mul, Nat.one_mul]; rfl]
      exact h
set_option maxHeartbeats 1000000 in
theorem eqA_ok (hT : TTok P tt) {φ : Ren} {h : Heap} {w : World} (H : HRelR P φ h w.heap) : ∀ (d m : Nat) (_ : d ≤ m) (t : TypeId) (i : TI) (_ : TIok P t i) (x y : AVal) (x' y' : Value) (b : Bool),
    VRel φ x x' → VRel φ y y' → eqA tt h d i x y = some b → (Op.equalIn m t x' y').run P w = .ok b w
  | 0, _, _, _, _, _, _, _, _, _, _, _, _, hb => by cases hb
  | d + 1, 0, hm, _, _, _, _, _, _, _, _, _, _, _ => absurd hm (by omega)
  | d + 1, m + 1, hm, t, i, k, x, y, x', y', b, hx, hy, hb => by
    have IH := eqA_ok hT H d m (by omega)
    have hdd := k.hdesc
    unfold eqA at hb
    cases hd : i.desc <;> rw [hd] at hb hdd <;> try (cases hb; done)
    case bool =>
      have hdd : k.desc = .bool := hdd
      cases x <;> try (cases hb; done)
      cases y <;> try (cases hb; done)
      cases hx; cases hy
      simp only [eqBoolV, eqBool_eq] at hb
      cases hb
      simp [Op.equalIn, k.rUnd, hdd]
    case int kk =>
      have hdd : k.desc = .int kk := hdd
      cases x <;> try (cases hb; done)
      · cases y <;> try (cases hb; done)
        cases hx; cases hy
        simp only [eqIntV, eqI_eq] at hb
        obtain ⟨h1, h2⟩ := when_some hb
        have := kindEq_iff.1 h1; subst this
        cases h2
        simp [Op.equalIn, k.rUnd, hdd]
      · cases y <;> try (cases hb; done)
        cases hx with | rng _ _ _ n g1 g2 =>
        cases hy
        obtain ⟨h1, h2⟩ := when_some (show when _ _ = some b from hb)
        have := kindEq_iff.1 h1; subst this
        split at h2
        · rename_i g
          have := ltLo_ok g g1
          cases h2
          simp [Op.equalIn, k.rUnd, hdd]
          omega
        · split at h2
          · rename_i g
            have := hiLt_ok g g2
            cases h2
            simp [Op.equalIn, k.rUnd, hdd]
            omega
          · cases h2
    case str =>
      have hdd : k.desc = .string := hdd
      cases x <;> try (cases hb; done)
      · cases y <;> try (cases hb; done)
        · cases hx with | str s =>
          cases hy with | str u =>
          simp only [eqStrV, beq_dec] at hb
          cases hb
          simp only [Op.equalIn, Sem.run_bind, k.rUnd, hdd, Result.andThen_ok, Sem.run_pure]
          rw [beq_toListBytes, ByteArray.toList_eq, ByteArray.toList_eq]
          congr 1
          rw [Bool.eq_iff_iff, beq_iff_eq, decide_eq_true_iff]
          exact ⟨fun e => by rw [e], enc_inj⟩
        · cases hx with | str s =>
          cases hy with | cat p q c u hu =>
          obtain ⟨g1, g2⟩ := when_some (show when (neCS (enc p) (enc q) (enc s.data.toList)) (some false) = some b from hb)
          injection g2 with g2
          simp only [Op.equalIn, Sem.run_bind, k.rUnd, hdd, Result.andThen_ok, Sem.run_pure]
          rw [beq_toListBytes, ByteArray.toList_eq, ByteArray.toList_eq, hu, ← g2, ne_beq (neCS_ok (cy_len φ _) g1)]
      · cases y <;> try (cases hb; done)
        · cases hx with | cat p q c s hs =>
          cases hy with | str u =>
          obtain ⟨g1, g2⟩ := when_some (show when (neCS (enc p) (enc q) (enc u.data.toList)) (some false) = some b from hb)
          injection g2 with g2
          simp only [Op.equalIn, Sem.run_bind, k.rUnd, hdd, Result.andThen_ok, Sem.run_pure]
          rw [beq_toListBytes, ByteArray.toList_eq, ByteArray.toList_eq, hs, ← g2, ne_beq fun e => neCS_ok (cy_len φ _) g1 e.symm]
        · cases hx with | cat p q c s hs =>
          cases hy with | cat p' q' c' u hu =>
          have hb : eqCC (enc p) _ (enc q) (enc p') _ (enc q') = some b := hb
          simp only [Op.equalIn, Sem.run_bind, k.rUnd, hdd, Result.andThen_ok, Sem.run_pure]
          rw [beq_toListBytes, ByteArray.toList_eq, ByteArray.toList_eq, hs, hu, eqCC_ok hb]
    case ptr e =>
      have hdd : k.desc = .pointer e := hdd
      cases x <;> try (cases hb; done)
      · cases y <;> try (cases hb; done)
        · cases hx; cases hy; cases hb; simp [Op.equalIn, k.rUnd, hdd]
        · cases hx; cases hy; cases hb; simp [Op.equalIn, k.rUnd, hdd]
      · cases y <;> try (cases hb; done)
        · cases hx; cases hy; cases hb; simp [Op.equalIn, k.rUnd, hdd]
        · rename_i id off jd joff
          cases hx with | ptr _ _ hid =>
          cases hy with | ptr _ _ hjd =>
          obtain ⟨ei, h1, h2⟩ := ob_some (show ob (tt.get e) (fun ei => match ei.size with | 0 => none | _ + 1 => eqPtr tt h id off jd joff) = some b from hb)
          obtain ⟨ke⟩ := hT e ei h1
          cases hs : ei.size with
          | zero => rw [hs] at h2; cases h2
          | succ s =>
            rw [hs] at h2
            have h2 : eqPtr tt h id off jd joff = some b := h2
            have hz : ∀ w, (sizeOf e).run P w = .ok (s + 1) w := fun w => by rw [ke.rSize, hs]
            simp only [Op.equalIn, Sem.run_bind, k.rUnd, hdd, Result.andThen_ok, hz]
            simp only [ne_eq, Nat.add_eq_zero_iff, Nat.succ_ne_self, and_false, not_false_eq_true, if_true]
            unfold eqPtr at h2
            rw [beq_dec] at h2
            by_cases hij : id = jd
            · subst hij
              simp only [decide_true, beq_dec] at h2
              cases h2
              rw [rSameAddr_eq (by simp [baseOf])]
              congr 1
              rw [Bool.eq_iff_iff, beq_iff_eq, decide_eq_true_iff]
              simp [baseOf]
            · simp only [hij, decide_false] at h2
              obtain ⟨_, h3, h4⟩ := ob_some h2
              obtain ⟨_, h5, h6⟩ := ob_some h4
              cases h6
              obtain ⟨l1, cc, et, hb1⟩ := plainRow_ok hT H hid h3
              obtain ⟨l2, dd, ft, hb2⟩ := plainRow_ok hT H hjd h5
              obtain ⟨o1, ho1⟩ := l1
              obtain ⟨o2, ho2⟩ := l2
              exact rSameAddr_ne (fun e => hij (H.inj _ _ _ _ hid hjd ho1 ho2 e)) hb1 hb2
    case slice e =>
      have hdd : k.desc = .slice e := hdd
      cases x <;> try (cases hb; done)
      all_goals (cases y <;> try (cases hb; done))
      all_goals (cases hx; cases hy; cases hb; simp [Op.equalIn, k.rUnd, hdd])
    case arr n e =>
      have hdd : k.desc = .array n e := hdd
      replace hb := (when_some hb).2
      cases x <;> try (cases hb; done)
      cases y <;> try (cases hb; done)
      rename_i xs ys
      cases hx with | agg _ xs' hx hx1 =>
      cases hy with | agg _ ys' hy hy1 =>
      obtain ⟨ie, h1, h2⟩ := ob_some (show ob (tt.get e) (fun ie => eqElems (eqA tt h d ie) ie n 0 xs ys) = some b from hb)
      obtain ⟨ke⟩ := hT e ie h1
      rw [run_equalIn_arr (by rw [k.hund, hdd]) (fun w => ke.rSize)]
      exact eqElems_ok ke (fun a c a' c' r ha hc hr => IH e ie ke a c a' c' r ha hc hr) hx hx1 hy hy1 n 0 b (by simpa using h2)
    case map kt e =>
      have hdd : k.desc = .map kt e := hdd
      cases x <;> try (cases hb; done)
      all_goals (cases y <;> try (cases hb; done))
      all_goals (cases hx; cases hy; cases hb; simp [Op.equalIn, k.rUnd, hdd])
    case struct fs =>
      obtain ⟨fields, hdd, hfs⟩ := hdd
      have he := (when_some hb).1
      replace hb := (when_some hb).2
      cases x <;> try (cases hb; done)
      cases y <;> try (cases hb; done)
      rename_i xs ys
      cases hx with | agg _ xs' hx hx1 =>
      cases hy with | agg _ ys' hy hy1 =>
      have hfo : P.fieldsOf t = fields := by simp [Program.fieldsOf, k.hund, hdd]
      rw [run_equalIn_struct w m t xs' ys' (by rw [hfo, k.hund, hdd]) (k.heqs he).1, hfo]
      have hb : eqFlds tt (eqA tt h d) fs xs ys = some b := hb
      rw [hfs] at hb
      exact eqFlds_ok hT (fun t i k a c a' c' r ha hc hr => IH t i k a c a' c' r ha hc hr) hx hx1 hy hy1 fields.toList b hb
    case func =>
      obtain ⟨ps, rs, vv, hdd⟩ := hdd
      cases x <;> try (cases hb; done)
      all_goals (cases y <;> try (cases hb; done))
      all_goals (cases hx; cases hy; cases hb; simp [Op.equalIn, k.rUnd, hdd])
    case iface e =>
      obtain ⟨ms, hdd, _⟩ := hdd
      cases x <;> try (cases hb; done)
      · rename_i tx vx
        cases y <;> try (cases hb; done)
        · rename_i ty vy
          cases hx with | iface _ _ vx' hx =>
          cases hy with | iface _ _ vy' hy =>
          have hb : (match Nat.beq tx ty with | false => some false | true => ob (tt.get tx) fun i => when i.cmp (eqA tt h d i vx vy)) = some b := hb
          rw [beq_dec] at hb
          by_cases ht : tx = ty
          · subst ht
            simp only [decide_true] at hb
            obtain ⟨ix, h1, h2⟩ := ob_some hb
            obtain ⟨h3, h4⟩ := when_some h2
            obtain ⟨kx⟩ := hT tx ix h1
            simp only [Op.equalIn, Sem.run_bind, k.rUnd, hdd, Result.andThen_ok, ne_eq, not_true_eq_false, if_false, kx.rInfo, kx.hcmp h3, Bool.not_true, Bool.false_eq_true]
            exact IH tx ix kx vx vy vx' vy' b hx hy h4
          · simp only [ht, decide_false] at hb
            cases hb
            simp [Op.equalIn, k.rUnd, hdd, ht]
        · cases hx; cases hy; cases hb; simp [Op.equalIn, k.rUnd, hdd]
      · cases y <;> try (cases hb; done)
        cases hx; cases hy; cases hb; simp [Op.equalIn, k.rUnd, hdd]
end
end Go.Proofs.YtpjkcfglojigmaaGreatDoor.Ev
namespace Go.Proofs.YtpjkcfglojigmaaGreatDoor.Ev
set_option linter.unusedVariables false
set_option linter.unusedSimpArgs false
open Go
section
variable {P : Program} {tt : TT}

theorem andB_iff {a b : Bool} : andB a b = true ↔ a = true ∧ b = true := by cases a <;> cases b <;> simp [andB]
/-- the same abstract value of scalars: the same value -/
theorem keyCell_eq {φ : Ren} {v : AVal} (hk : keyCell v = true) {x y : Value} (hx : VRel φ v x) (hy : VRel φ v y) : x = y := by
  cases v <;> try (cases hk; done)
  · cases hx; cases hy; rfl
  · cases hx; cases hy; rfl
  · cases hx with | str s =>
    generalize he : sOf 1 s.data.toList = n at hy
    cases hy with | str u =>
    have := enc_inj he
    congr 1
    obtain ⟨⟨s⟩⟩ := s
    obtain ⟨⟨u⟩⟩ := u
    simp at this; subst this; rfl
  · rename_i p0 c q0
    cases hx with | cat p q _ s hs =>
    generalize he : sOf 1 p = p1 at hy
    generalize he2 : sOf 1 q = q1 at hy
    cases hy with | cat p' q' _ u hu =>
    have h1 := enc_inj he
    have h2 := enc_inj he2
    subst h1; subst h2
    exact congrArg Value.string (ba_eq (hs.trans hu.symm))
theorem keyCells_eq {φ : Ren} : ∀ {l : List AVal} {xs ys : List Value}, allB keyCell l = true → VRelL φ l xs → VRelL φ l ys → xs = ys
  | [], _, _, _, .nil, .nil => rfl
  | v :: l, _, _, hk, .cons _ x _ xs hx hxs, .cons _ y _ ys hy hys => by
    have hk := allB_iff.1 hk
    rw [keyCell_eq (hk v (by simp)) hx hy, keyCells_eq (l := l) (allB_iff.2 fun u hu => hk u (by simp [hu])) hxs hys]
theorem keyOk_eq {φ : Ren} {ki : TI} {v : AVal} (hk : keyOk ki v = true) {x y : Value} (hx : VRel φ v x) (hy : VRel φ v y) : x = y := by
  unfold keyOk at hk
  have sc : keyCell v = true → x = y := fun h => keyCell_eq h hx hy
  revert hk
  cases ki.desc <;> intro hk <;> try (exact sc hk)
  cases v <;> try (cases hk; done)
  rename_i l
  cases hx with | agg _ xs hxs _ =>
  cases hy with | agg _ ys hys _ =>
  congr 1
  have := keyCells_eq (andB_iff.1 hk).2 hxs hys
  obtain ⟨xs⟩ := xs
  obtain ⟨ys⟩ := ys
  simp at this; rw [this]
theorem sameBits_cell {x : Value} (h : ∃ φ v, keyCell v = true ∧ VRel φ v x) : ∀ n, Instr.sameBits n x x = true := by
  obtain ⟨φ, v, hk, hx⟩ := h
  intro n
  cases v <;> try (cases hk; done)
  · cases hx; cases n <;> simp [Instr.sameBits]
  · cases hx; cases n <;> simp [Instr.sameBits]
  · cases hx with | str s =>
    have : (s == s) = true := by rw [beq_toListBytes]; simp
    cases n <;> simpa [Instr.sameBits] using this
  · cases hx with | cat p q _ s hs =>
    have : (s == s) = true := by rw [beq_toListBytes]; simp
    cases n <;> simpa [Instr.sameBits] using this
theorem sameBits_cells {φ : Ren} : ∀ {l : List AVal} {xs : List Value}, allB keyCell l = true → VRelL φ l xs → ∀ n, ((xs.zip xs).all fun p => Instr.sameBits n p.1 p.2) = true
  | [], _, _, .nil, n => rfl
  | v :: l, _, hk, .cons _ x _ xs hx hxs, n => by
    have hk := allB_iff.1 hk
    simp only [List.zip_cons_cons, List.all_cons, Bool.and_eq_true]
    exact ⟨sameBits_cell ⟨φ, v, hk v (by simp), hx⟩ n, sameBits_cells (l := l) (allB_iff.2 fun u hu => hk u (by simp [hu])) hxs n⟩
theorem sameBits_refl {φ : Ren} {ki : TI} {v : AVal} (hk : keyOk ki v = true) {x : Value} (hx : VRel φ v x) : Instr.sameBits 10000 x x = true := by
  unfold keyOk at hk
  have sc : keyCell v = true → Instr.sameBits 10000 x x = true := fun h => sameBits_cell ⟨φ, v, h, hx⟩ _
  revert hk
  cases ki.desc <;> intro hk <;> try (exact sc hk)
  cases v <;> try (cases hk; done)
  rename_i l
  cases hx with | agg _ xs hxs _ =>
  have := sameBits_cells (andB_iff.1 hk).2 hxs 9999
  simp only [Instr.sameBits, beq_self_eq_true, Bool.true_and]
  exact this

/-! the same abstract value -/
theorem eqLim_eq {a b : Option Nat} (h : eqLim a b = true) : a = b := by
  cases a <;> cases b <;> simp [eqLim] at h ⊢; exact h
theorem eqVL_eq {eq : AVal → AVal → Bool} (he : ∀ a b, eq a b = true → a = b) : ∀ (l m : List AVal), eqVL eq l m = true → l = m
  | [], [], _ => rfl
  | [], _ :: _, h => by cases h
  | _ :: _, [], h => by cases h
  | a :: l, b :: m, h => by
    simp only [eqVL] at h
    cases hab : eq a b with
    | false => rw [hab] at h; cases h
    | true => rw [hab] at h; rw [he a b hab, eqVL_eq he l m h]
theorem eqOI_eq {a b : Option Int} (h : eqOI a b = true) : a = b := by
  cases a <;> cases b <;> simp [eqOI, eqI_eq] at h ⊢; exact h
theorem eqDL_eq : ∀ (l m : List (Nat × Bool)), eqDL l m = true → l = m
  | [], [], _ => rfl
  | [], _ :: _, h => by cases h
  | _ :: _, [], h => by cases h
  | a :: l, b :: m, h => by
    simp only [eqDL, andB_iff, eqBool_eq, beq_iff_eq] at h
    rw [show a = b from Prod.ext (Nat.eq_of_beq_eq_true h.1) h.2.1, eqDL_eq l m h.2.2]
theorem beqV_eq : ∀ (d : Nat) (a b : AVal), beqV d a b = true → a = b
  | 0, _, _, h => by cases h
  | d + 1, a, b, h => by
    have nb : ∀ {x y : Nat}, Nat.beq x y = true → x = y := fun h => Nat.eq_of_beq_eq_true h
    cases a <;> (cases b <;> try (cases h; done)) <;> try rfl
    · simp only [beqV, eqBool_eq, beq_iff_eq] at h; rw [h]
    · simp only [beqV, andB_iff, eqI_eq, beq_iff_eq] at h; rw [kindEq_iff.1 h.1, h.2]
    · exact congrArg _ (nb h)
    · simp only [beqV, andB_iff] at h; rw [nb h.1, nb h.2]
    · simp only [beqV, andB_iff] at h; rw [nb h.1, nb h.2.1, nb h.2.2.1, eqLim_eq h.2.2.2]
    · exact congrArg _ (nb h)
    · rename_i f a1 b1 g a2 b2
      simp only [beqV, andB_iff] at h
      have e1 : f = g := by
        have h1 := h.1
        cases f <;> (cases g <;> try (cases h1; done))
        · exact congrArg _ (nb h1)
        · exact congrArg _ (nb h1)
      rw [e1, eqVL_eq (beqV_eq d) _ _ h.2.1, eqVL_eq (beqV_eq d) _ _ h.2.2]
    · simp only [beqV, andB_iff] at h; rw [nb h.1, beqV_eq d _ _ h.2]
    · exact congrArg _ (eqVL_eq (beqV_eq d) _ _ h)
    · exact congrArg _ (eqVL_eq (beqV_eq d) _ _ h)
    · exact congrArg _ (kindEq_iff.1 h)
    · simp only [beqV, andB_iff] at h; rw [kindEq_iff.1 h.1, nb h.2.1, nb h.2.2]
    · simp only [beqV, andB_iff] at h; rw [kindEq_iff.1 h.1, eqOI_eq h.2.1, eqOI_eq h.2.2]
    · simp only [beqV, andB_iff] at h; rw [nb h.1, nb h.2]
    · exact congrArg _ (nb h)
    · exact congrArg _ (nb h)
    · simp only [beqV, andB_iff] at h; rw [nb h.1, nb h.2.1, nb h.2.2]
    · simp only [beqV, andB_iff] at h; rw [nb h.1, nb h.2.1, nb h.2.2.1, nb h.2.2.2]
    · simp only [beqV, andB_iff, eqBool_eq, beq_iff_eq] at h; rw [kindEq_iff.1 h.1, nb h.2.1, nb h.2.2.1, h.2.2.2]
    · simp only [beqV, andB_iff] at h; rw [nb h.1, eqDL_eq _ _ h.2]

/-! finding a key -/
theorem sameNow_ok {kt : TypeId} {d : TypeDesc} (hd : P.underlying kt = some d) {x y : Value} {c : Bool} (h : Instr.sameNow d x y = some c) (w : World) : (Op.equal kt x y).run P w = .ok c w := by
  unfold Instr.sameNow at h
  split at h
  · split at h
    · rename_i hk; subst hk; cases h; exact run_equalIn_int w 9999 kt _ _ _ _ hd
    · cases h
  · cases h
    simp only [Op.equal, Op.maxDepth]
    rw [run_equalIn_string w 9999 kt _ _ hd, beq_toListBytes]
  · cases h; exact run_equalIn_bool w 9999 kt _ _ hd
  · cases h
theorem findNow_ok {kt : TypeId} {d : TypeDesc} (hd : P.underlying kt = some d) {k : Value} (w : World) : ∀ (es : List MapEntry) (i : Nat) (r : Option (Nat × Value)), Instr.findNow d k es i = some r → (Instr.findAsking kt k es i).run P w = .ok r w
  | [], i, r, h => by cases h; rfl
  | e :: es, i, r, h => by
    simp only [Instr.findNow] at h
    simp only [Instr.findAsking, Sem.run_bind]
    split at h
    · rename_i hs; cases h; rw [sameNow_ok hd hs w]; simp
    · rename_i hs; rw [sameNow_ok hd hs w]; simp; exact findNow_ok hd w es (i + 1) r h
    · cases h
theorem findKey_run {kt : TypeId} {d : TypeDesc} (hd : P.underlying kt = some d) (k : Value) (es : List MapEntry) (w : World) : (Instr.findKey kt k es).run P w = (Instr.findAsking kt k es).run P w := by
  simp only [Instr.findKey, Sem.run_bind, rUnd hd, Result.andThen_ok]
  cases h : Instr.findNow d k es 0 with
  | none => rfl
  | some r => rw [findNow_ok hd w es 0 r h]; rfl
/-- what has been found: the entry's number, its value, its birth -/
def FindRel (φ : Ren) (es : List Ent) (ms : List MapEntry) (i0 : Nat) : Option (Nat × AVal × Nat) → Option (Nat × Value) → Prop
  | none, none => True
  | some (i, v, b), some (j, x) => i = j ∧ i0 ≤ i ∧ VRel φ v x ∧ ∃ e m, es[i - i0]? = some e ∧ ms[i - i0]? = some m ∧ e.2.1 = v ∧ e.2.2 = b ∧ m.val = x ∧ m.born = b ∧ VRel φ e.1 m.key
  | _, _ => False
theorem findA_ok (hT : TTok P tt) {φ : Ren} {h : Heap} {w : World} (H : HRelR P φ h w.heap) {kt : TypeId} {ki : TI} (k : TIok P kt ki) {key : AVal} {key' : Value} (hk : VRel φ key key') :
    ∀ (es : List Ent) (ms : List MapEntry) (i : Nat) (r : Option (Nat × AVal × Nat)), EntsRel φ es ms → findA tt h ki key es i = some r →
      ∃ r', (Instr.findAsking kt key' ms i).run P w = .ok r' w ∧ FindRel φ es ms i r r'
  | [], _, i, r, .nil, hf => by cases hf; exact ⟨none, rfl, trivial⟩
  | e :: es, _, i, r, .cons _ m _ ms h1 h2 h3 h4, hf => by
    obtain ⟨b, hb, hf⟩ := ob_some hf
    have he := eqA_ok hT H eqDepth 10000 (by decide) kt ki k key e.1 key' m.key b hk h1 hb
    simp only [Instr.findAsking, Sem.run_bind, Op.equal, Op.maxDepth]
    rw [he]
    cases b with
    | true =>
      cases hf
      exact ⟨some (i, m.val), by simp, rfl, Nat.le_refl _, h2, e, m, by simp, by simp, rfl, rfl, rfl, h3.symm, h1⟩
    | false =>
      simp only [seqN_eq] at hf
      obtain ⟨r', hr', hR⟩ := findA_ok hT H k hk es ms (i + 1) r h4 hf
      refine ⟨r', by simpa using hr', ?_⟩
      cases r with
      | none => cases r' with
        | none => trivial
        | some _ => exact hR.elim
      | some q => cases r' with
        | none => exact hR.elim
        | some q' =>
          obtain ⟨qi, qv, qb⟩ := q
          obtain ⟨qj, qx⟩ := q'
          obtain ⟨g1, g2, g3, e', m', g4, g5, g6⟩ := hR
          refine ⟨g1, by omega, g3, e', m', ?_, ?_, g6⟩
          · rw [show qi - i = (qi - (i + 1)) + 1 from by omega]; simpa using g4
          · rw [show qi - i = (qi - (i + 1)) + 1 from by omega]; simpa using g5
/-! the check of a key -/
theorem checkKey_scalar {empty : Bool} {n : Nat} {t : TypeId} {i : TI} (k : TIok P t i) (hs : scalarD i.desc = true) (v : Value) {w : World} : (Instr.checkKey empty (n + 1) t v).run P w = .ok () w := by
  have hd := k.hdesc
  simp only [Instr.checkKey, Sem.run_bind, k.rUnd, Result.andThen_ok]
  revert hd hs
  cases i.desc <;> intro hs hd <;> try (cases hs; done)
  all_goals (simp only [TDRel] at hd; rw [hd]; rfl)
theorem checkKey_fields (hT : TTok P tt) {empty : Bool} {n size : Nat} {cs : Array Value} (hn : cs.size = size) {w : World} : ∀ (fs : List Field), (∀ f ∈ fs, keyF tt size (f.offset, f.type, decide (f.name ≠ "_")) = true) →
    (forIn fs PUnit.unit fun f _ => (if f.name ≠ "_" then do Instr.checkKey empty (n + 1) f.type (← part f.type cs f.offset); pure (ForInStep.yield PUnit.unit) else pure (ForInStep.yield PUnit.unit) : Sem _)).run P w = .ok PUnit.unit w
  | [], _ => rfl
  | f :: fs, h => by
    have hf := h f (by simp)
    have ih := checkKey_fields hT (empty := empty) (n := n) hn (w := w) fs (fun g hg => h g (by simp [hg]))
    unfold keyF at hf
    cases hg : tt.get f.type with
    | none => rw [hg] at hf; cases hf
    | some ti =>
      rw [hg] at hf
      obtain ⟨h1, h2⟩ := andB_iff.1 hf
      obtain ⟨k⟩ := hT _ _ hg
      rw [blt_dec] at h2
      have h2 : f.offset < size := of_decide_eq_true h2
      have hagg : ti.agg = false := by
        rw [k.hagg]
        have hd := k.hdesc
        revert h1 hd
        cases ti.desc <;> intro h1 hd <;> try (cases h1; done)
        all_goals (simp only [TDRel] at hd; rw [hd]; rfl)
      have hp : (part f.type cs f.offset).run P w = .ok cs[f.offset] w := by
        simp [part, k.rAgg, hagg, Array.getElem?_eq_getElem (show f.offset < cs.size by omega)]
      rw [List.forIn_cons]
      by_cases hn : f.name ≠ "_"
      · rw [if_pos hn]
        simp only [Sem.run_bind, hp, Result.andThen_ok, checkKey_scalar k h1, Sem.run_pure]
        exact ih
      · rw [if_neg hn]
        simp only [Sem.run_bind, Sem.run_pure, Result.andThen_ok]
        exact ih
theorem checkKey_ok (hT : TTok P tt) {φ : Ren} {empty : Bool} {t : TypeId} {ki : TI} (k : TIok P t ki) (hs : keyT tt ki = true) {v : AVal} (hv : keyOk ki v = true) {x : Value} (hx : VRel φ v x) {w : World} :
    (Instr.checkKey empty 10000 t x).run P w = .ok () w := by
  have hd := k.hdesc
  unfold keyT at hs
  unfold keyOk at hv
  cases hdd : ki.desc <;> rw [hdd] at hs hv hd <;> try (cases hs; done)
  · exact checkKey_scalar k (by rw [hdd]; exact hs) x
  · exact checkKey_scalar k (by rw [hdd]; exact hs) x
  · exact checkKey_scalar k (by rw [hdd]; exact hs) x
  · obtain ⟨fields, he, hfs⟩ := hd
    cases v <;> try (cases hv; done)
    rename_i l
    cases hx with | agg _ xs hxs h1 =>
    have hl := hxs.length
    have hv := (andB_iff.1 hv).1
    rw [beq_dec] at hv
    have hv := of_decide_eq_true hv
    have hsize : xs.size = ki.size := by
      have : xs.toList.length = xs.size := Array.length_toList
      omega
    have := checkKey_fields hT (empty := empty) (n := 9998) hsize (w := w) fields.toList (fun f hf => by
      rw [hfs] at hs
      exact allB_iff.1 hs _ (List.mem_map_of_mem hf))
    rw [Instr.checkKey]
    simp only [Sem.run_bind, k.rUnd, he, Result.andThen_ok]
    rw [← Array.forIn_toList]
    erw [this]
    rfl
theorem checkKeyL_ok (hT : TTok P tt) {φ : Ren} {empty : Bool} {t : TypeId} {ki : TI} (k : TIok P t ki) (hs : keyT tt ki = true) {v : AVal} (hv : keyOkL ki v = true) {x : Value} (hx : VRel φ v x) {w : World} :
    (Instr.checkKey empty 10000 t x).run P w = .ok () w := by
  unfold keyOkL at hv
  split at hv
  · rename_i h; exact checkKey_ok hT k hs h hx
  · split at hv
    · rename_i q hq
      exact checkKey_scalar k (by rw [hq]; rfl) x
    · cases hv
end
end Go.Proofs.YtpjkcfglojigmaaGreatDoor.Ev
namespace Go.Proofs.YtpjkcfglojigmaaGreatDoor.Ev
set_option linter.unusedVariables false
set_option linter.unusedSimpArgs false
open Go
section
variable {P : Program} {tt : TT} {sl : SL} {o : Oper}

theorem isNilC_eq {y : Operand} (h : isNilC y = true) : y = .const .nilIface := by
  unfold isNilC at h
  split at h
  · rfl
  · cases h
def eqOp (neg : Bool) : BinOp := match neg with | true => .neq | false => .eql
theorem equal_succ (t : TypeId) (x y : Value) : Op.equal t x y = Op.equalIn (9999 + 1) t x y := rfl
theorem pIsNil {neg : Bool} {t : TypeId} {x y : Operand} {yt : TypeId} (ho : o.op = .binOp (eqOp neg) t x y yt) {i : TI} (k : TIok P t i) {e : Bool} (hd : i.desc = .iface e) (hy : isNilC y = true) :
    POK P sl o (fun vs ρ => ob (isNilIface ((vk sl x).get vs ρ)) fun b => match neg with | true => mkB (notB b) | false => mkB b) := by
  intro φ vs ρ a w v hl hf
  have hy := isNilC_eq hy; subst hy
  obtain ⟨b, h1, h2⟩ := ob_some hf
  have hc := hl.at ho (x := x) (by simp [Op.operands])
  generalize (vk sl x).get vs ρ = cv at hc h1
  have hdd := k.hdesc
  rw [hd] at hdd
  obtain ⟨ms, hdd, _⟩ := hdd
  generalize hce : a.eval x = ce at hc
  have he : a.eval (.const .nilIface) = .nilIface := rfl
  have key : ∃ r, ((eqGuard (eqOp neg) t x (.const .nilIface) (a.eval x) (a.eval (.const .nilIface)) >>= fun _ => binOp (eqOp neg) t (a.eval x) (a.eval (.const .nilIface))).run P w) = .ok r w ∧ VRel φ v r := by
    rw [hce, he]
    cases hc <;> try (cases h1; done)
    case nilIface =>
      cases h1
      have q : (Op.equal t .nilIface .nilIface).run P w = .ok true w := by
        rw [equal_succ, Op.equalIn]; simp only [Sem.run_bind, k.rUnd, hdd, Result.andThen_ok]; rfl
      have g : ∀ op, (eqGuard op t x (.const .nilIface) .nilIface .nilIface).run P w = .ok () w := by
        intro op; unfold eqGuard; cases op <;> cases x <;> rfl
      cases neg
      · cases h2
        exact ⟨.bool true, by simp only [Sem.run_bind, g, Result.andThen_ok, eqOp, binOp, q, Sem.run_pure], .bool _⟩
      · cases h2
        exact ⟨.bool false, by simp only [Sem.run_bind, g, Result.andThen_ok, eqOp, binOp, q, Sem.run_pure]; rfl, .bool _⟩
    case iface ty u u' hu =>
      cases h1
      have q : (Op.equal t (.iface ty u') .nilIface).run P w = .ok false w := by
        rw [equal_succ, Op.equalIn]; simp only [Sem.run_bind, k.rUnd, hdd, Result.andThen_ok]; rfl
      have g : ∀ op, (eqGuard op t x (.const .nilIface) (.iface ty u') .nilIface).run P w = .ok () w := by
        intro op; unfold eqGuard; cases op <;> rfl
      cases neg
      · cases h2
        exact ⟨.bool false, by simp only [Sem.run_bind, g, Result.andThen_ok, eqOp, binOp, q, Sem.run_pure], .bool _⟩
      · cases h2
        exact ⟨.bool true, by simp only [Sem.run_bind, g, Result.andThen_ok, eqOp, binOp, q, Sem.run_pure]; rfl, .bool _⟩
  obtain ⟨r, hr, hv⟩ := key
  exact ⟨r, exec_bin ho hr, hv⟩
/-- values that the model's general comparison is for -/
def plainV : Value → Bool
  | .int _ _ => false
  | .string _ => false
  | .float _ _ => false
  | .complex _ _ _ => false
  | .nilIface => false
  | .agg _ => false
  | _ => true
theorem eqGuard_plain {op : BinOp} {t : TypeId} {x y : Operand} {a b : Value} {w : World} (h : plainV a = true ∨ plainV b = true) : (eqGuard op t x y a b).run P w = .ok () w := by
  unfold eqGuard
  cases op <;> try rfl
  all_goals (
    rcases h with h | h
    · cases a <;> first | (cases h; done) | rfl
    · cases a <;> first | rfl | (cases b <;> first | (cases h; done) | rfl))
theorem eqGuard_agg {op : BinOp} {t : TypeId} {x y : Operand} {a b : Array Value} {w : World} (h : P.eqGuardType P.depth t = false) : (eqGuard op t x y (.agg a) (.agg b)).run P w = .ok () w := by
  unfold eqGuard
  cases op <;> try rfl
  all_goals (
    simp only [Bool.not_true, Bool.false_eq_true, if_false, Sem.run_bind, run_program, Result.andThen_ok, h, Bool.not_false, if_true]; rfl)
theorem bin_eq {neg : Bool} {t : TypeId} {a b : Value} {w : World} {r : Bool} (h : plainV a = true ∨ plainV b = true ∨ (∃ xs ys, a = .agg xs ∧ b = .agg ys)) (hr : (Op.equal t a b).run P w = .ok r w) :
    (binOp (eqOp neg) t a b).run P w = .ok (.bool (match neg with | true => !r | false => r)) w := by
  have e1 : binOp .eql t a b = (do pure (.bool (← Op.equal t a b))) := by
    rcases h with h | h | ⟨xs, ys, rfl, rfl⟩
    · cases a <;> first | (cases h; done) | rfl
    · cases a <;> cases b <;> first | (cases h; done) | rfl
    · rfl
  have e2 : binOp .neq t a b = (do pure (.bool (!(← Op.equal t a b)))) := by
    rcases h with h | h | ⟨xs, ys, rfl, rfl⟩
    · cases a <;> first | (cases h; done) | rfl
    · cases a <;> cases b <;> first | (cases h; done) | rfl
    · rfl
  cases neg
  · simp only [eqOp, e1, Sem.run_bind, hr, Result.andThen_ok, Sem.run_pure]
  · simp only [eqOp, e2, Sem.run_bind, hr, Result.andThen_ok, Sem.run_pure]
theorem eq_shape {tt : TT} {h : Heap} {t : TypeId} {i : TI} (k : TIok P t i) {cx cy : AVal} {xv yv : Value} {φ : Ren} {b : Bool} {d : Nat} (hx : VRel φ cx xv) (hy : VRel φ cy yv) (hb : eqA tt h (d + 1) i cx cy = some b)
    (h1 : ∀ k, i.desc ≠ .int k) (h2 : i.desc ≠ .str) : (plainV xv = true ∨ plainV yv = true) ∨ ∃ xs ys, xv = .agg xs ∧ yv = .agg ys ∧ P.eqGuardType P.depth t = false := by
  unfold eqA at hb
  cases hd : i.desc <;> rw [hd] at hb <;> simp only [] at hb
  case int k => exact absurd hd (h1 k)
  case str => exact absurd hd h2
  case bool => unfold eqBoolV at hb; split at hb <;> first | (cases hb; done) | (cases hx; exact .inl (.inl rfl))
  case ptr e => unfold eqPtrV at hb; split at hb <;> first | (cases hb; done) | (cases hx; exact .inl (.inl rfl))
  case slice e => unfold eqSlV at hb; split at hb <;> first | (cases hb; done) | (cases hx; exact .inl (.inl rfl))
  case map e => unfold eqMapV at hb; split at hb <;> first | (cases hb; done) | (cases hx; exact .inl (.inl rfl))
  case func => unfold eqFnV at hb; split at hb <;> first | (cases hb; done) | (cases hx; exact .inl (.inl rfl))
  case iface e => unfold eqIfV at hb; split at hb <;> first | (cases hb; done) | (cases hy; exact .inl (.inr rfl)) | (cases hx; exact .inl (.inl rfl))
  case arr n e =>
    obtain ⟨h3, hb⟩ := when_some hb
    unfold eqArrV at hb; split at hb
    · cases hx; cases hy; exact .inr ⟨_, _, rfl, rfl, (k.heqs h3).2⟩
    · cases hb
  case struct fs =>
    obtain ⟨h3, hb⟩ := when_some hb
    unfold eqAggV at hb; split at hb
    · cases hx; cases hy; exact .inr ⟨_, _, rfl, rfl, (k.heqs h3).2⟩
    · cases hb
  all_goals cases hb
theorem nEq (hT : TTok P tt) {neg : Bool} {t : TypeId} {x y : Operand} {yt : TypeId} (ho : o.op = .binOp (eqOp neg) t x y yt) {i : TI} (k : TIok P t i) (h1 : ∀ k, i.desc ≠ .int k) (h2 : i.desc ≠ .str) :
    NOK P sl o (fun vs ρ h => eqBin tt i neg h ((vk sl x).get vs ρ) ((vk sl y).get vs ρ)) := by
  intro φ h vs ρ a w v hl H hf
  obtain ⟨b, h3, h4⟩ := ob_some hf
  have hx := hl.at ho (x := x) (by simp [Op.operands])
  have hy := hl.at ho (x := y) (by simp [Op.operands])
  have he := eqA_ok hT H eqDepth 10000 (by decide) t i k _ _ _ _ b hx hy h3
  have hs := eq_shape (d := 99) k hx hy h3 h1 h2
  have g : (eqGuard (eqOp neg) t x y (a.eval x) (a.eval y)).run P w = .ok () w := by
    rcases hs with hs | ⟨xs, ys, e1, e2, hg⟩
    · exact eqGuard_plain hs
    · rw [e1, e2]; exact eqGuard_agg hg
  have bb := bin_eq (neg := neg) (t := t) (a := a.eval x) (b := a.eval y) (w := w) (r := b) (by
    rcases hs with hs | ⟨xs, ys, e1, e2, _⟩
    · rcases hs with hs | hs
      · exact .inl hs
      · exact .inr (.inl hs)
    · exact .inr (.inr ⟨xs, ys, e1, e2⟩)) he
  refine ⟨_, exec_bin ho (by rw [Sem.run_bind, g, Result.andThen_ok, bb]), ?_⟩
  cases neg
  · cases b <;> cases h4 <;> exact .bool _
  · cases b <;> cases h4 <;> exact .bool _
end
end Go.Proofs.YtpjkcfglojigmaaGreatDoor.Ev
