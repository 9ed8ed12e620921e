/- An evaluator over abstract values and the proof that what it reckons is what the model's calls do: part 5 of 9. -/
import Derived.Test.YtpjkcfglojigmaaGreatDoorEvD
namespace Go.Proofs.YtpjkcfglojigmaaGreatDoor.Ev
set_option linter.unusedVariables false
set_option linter.unusedSimpArgs false
open Go
section
variable {P : Program} {tt : TT} {sl : SL} {o : Oper}

/-- the second argument's type: none, or not of numbers -/
def NoZeros (P : Program) (ats : Array TypeId) : Prop := ats[1]? = none ∨ ∃ u d, ats[1]? = some u ∧ P.underlying u = some d ∧ ∀ k, d ≠ .int k
theorem append_fits {ats : Array TypeId} {ty t e : TypeId} (h0 : ats[0]? = some t) (hz : NoZeros P ats) (ht : P.underlying t = some (.slice e)) {ei : TI} (ke : TIok P e ei) {w w' : World} {x : Value} {n sLen sCap : Nat} {b : Addr} {new : Array Value}
    (hn : (Builtin.lenOf x).run P w = .ok n w) (hfit : sLen + n ≤ sCap) (hx : (Builtin.firstCells ei.size n x).run P w = .ok new w) (hst : (storeCells (b.add (sLen * ei.size)) new.toList).run P w = .ok () w') :
    (Builtin.append_ ats ty #[.slice (some b) sLen sCap, x]).run P w = .ok (.slice (some b) (sLen + n) sCap) w' := by
  have e0 : ((#[Value.slice (some b) sLen sCap, x] : Array Value)[0]?) = some (.slice (some b) sLen sCap) := rfl
  have e1 : ((#[Value.slice (some b) sLen sCap, x] : Array Value)[1]?) = some x := rfl
  have hs := ke.rSize (w := w)
  rcases hz with h1 | ⟨u, d, h1, hu, hd⟩
  · simp only [Builtin.append_, h0, e0, e1, h1, Sem.run_bind, rUnd ht, Result.andThen_ok, hs, Sem.run_pure, Bool.false_eq_true, if_false, hn, hfit, if_true, Bool.not_false, hx, hst]
  · have : (match d with | .int _ => true | _ => false) = false := by cases d <;> first | rfl | exact absurd rfl (hd _)
    simp only [Builtin.append_, h0, e0, e1, h1, Sem.run_bind, rUnd ht, rUnd hu, Result.andThen_ok, hs, Sem.run_pure, this, Bool.false_eq_true, if_false, hn, hfit, if_true, Bool.not_false, hx, hst]
theorem append_grows {ats : Array TypeId} {ty t e : TypeId} (h0 : ats[0]? = some t) (hz : NoZeros P ats) (ht : P.underlying t = some (.slice e)) {ei : TI} (ke : TIok P e ei) {w : World} {x : Value} {n sLen sCap : Nat} {b : Option Addr} {old new : Array Value}
    (hn : (Builtin.lenOf x).run P w = .ok n w) (hfit : ¬ sLen + n ≤ sCap) (hsm : sLen + n ≤ 100000) (ho : (Builtin.firstCells ei.size sLen (.slice b sLen sCap)).run P w.drew = .ok old w.drew) (hx : (Builtin.firstCells ei.size n x).run P w.drew = .ok new w.drew) :
    (Builtin.append_ ats ty #[.slice b sLen sCap, x]).run P w = .ok (.slice (some ⟨w.heap.size, 0, none⟩) (sLen + n) (grownCap w (sLen + n) sCap e))
      (w.drew.alloc (.cells (old ++ new ++ Builtin.zeroCells ke.zero.cells (grownCap w (sLen + n) sCap e - (sLen + n))) e)) := by
  have e0 : ((#[Value.slice b sLen sCap, x] : Array Value)[0]?) = some (.slice b sLen sCap) := rfl
  have e1 : ((#[Value.slice b sLen sCap, x] : Array Value)[1]?) = some x := rfl
  have hs := ke.rSize (w := w)
  have hi := ke.rInfo (w := w)
  have hi' := ke.rInfo (w := w.drew)
  have hzv := ke.rZero (w := w.drew)
  have h63 : ¬ ((sLen + n : Nat) : Int) > IntKind.i64.max := by
    have : IntKind.i64.max = 9223372036854775807 := rfl
    rw [this]; omega
  have h48 : ¬ Builtin.nextslicecap (sLen + n) sCap * ke.inf.bytes > 2 ^ 48 := by
    have h1 : Builtin.nextslicecap (sLen + n) sCap ≤ 200000 := by have := nextslicecap_le (need := sLen + n) (old := sCap) (by omega); omega
    have h2 : Builtin.nextslicecap (sLen + n) sCap * ke.inf.bytes ≤ 200000 * 1000000 := Nat.mul_le_mul h1 ke.hbytes
    omega
  have hch : (choose (.appendCap (sLen + n) sCap e)).run P w = .ok (grownCap w (sLen + n) sCap e) w.drew := by
    simp [Question.forced, grownCap]
  rcases hz with h1 | ⟨u, d, h1, hu, hd⟩
  · simp only [Builtin.append_, h0, e0, e1, h1, Sem.run_bind, rUnd ht, Result.andThen_ok, hs, Sem.run_pure, Bool.false_eq_true, if_false, hn, hfit, Bool.not_false, if_true, hi, h63, false_and, h48, hch, run_askRoom, ho, hx, hzv, newRow, hi']
    rfl
  · have : (match d with | .int _ => true | _ => false) = false := by cases d <;> first | rfl | exact absurd rfl (hd _)
    simp only [Builtin.append_, h0, e0, e1, h1, Sem.run_bind, rUnd ht, rUnd hu, this, Result.andThen_ok, hs, Sem.run_pure, Bool.false_eq_true, if_false, hn, hfit, Bool.not_false, if_true, hi, h63, false_and, h48, hch, run_askRoom, ho, hx, hzv, newRow, hi']
    rfl
end
end Go.Proofs.YtpjkcfglojigmaaGreatDoor.Ev
namespace Go.Proofs.YtpjkcfglojigmaaGreatDoor.Ev
set_option linter.unusedVariables false
set_option linter.unusedSimpArgs false
open Go
section
variable {P : Program} {tt : TT} {sl : SL} {o : Oper}

/-- a block that is no living object's changes -/
theorem HRel.other {φ : Ren} {h : Heap} {hp hq : Array Obj} (H : HRel P φ h hp) {b : Nat} (hs : hp.size ≤ hq.size) (hk : ∀ k, k ≠ b → k < hp.size → hq[k]? = hp[k]?) (hno : ∀ i, Live φ h i → φ.blk i ≠ b) (hfx : ¬ MaxG P b) : HRel P φ h hq := by
  refine ⟨⟨fun i o hi ho => ?_, H.inj, fun i hi => Nat.lt_of_lt_of_le (H.bd i hi) hs, fun c hc => ⟨(H.fix c hc).1.keep (hk c (fun e => hfx (e ▸ hc)) (H.fix c hc).1.lt), (H.fix c hc).2⟩⟩, H.n, H.top⟩
  obtain ⟨o', h1, h2⟩ := H.obj i o hi ho
  exact ⟨o', by rw [hk _ (hno i ⟨hi, o, ho⟩) (H.bd i hi)]; exact h1, h2⟩
theorem row_objP {φ : Ren} {id b off cap : Nat} {et : TypeId} {l : List AVal} {l' : List Value} {cc : Array Value} {fz : Nat × Nat} (hd : ¬ φ.dom id) (hl : VRelL φ l l') (h1 : ∀ x ∈ l', x.oneCell' = true) (hfz : FzOk P et cc.size fz)
    (hfit : off + cap ≤ cc.size) (hlo : l.length ≤ cap) (hal : off % P.cellsOf et = 0) (hcell : ∀ k x, l'[k]? = some x → cc[off + k]? = some x) :
    OObj P (φ.add id b off cap (P.cellsOf et)) id (.cells (T.ofList l) l.length none et) (.cells cc et fz) := by
  have aoff : (φ.add id b off cap (P.cellsOf et)).off id = off := by simp [Ren.add]
  have acap : (φ.add id b off cap (P.cellsOf et)).cap id = cap := by simp [Ren.add]
  have asz : (φ.add id b off cap (P.cellsOf et)).sz id = P.cellsOf et := by simp [Ren.add]
  refine ⟨cc, fz, rfl, hfz, by rw [aoff, acap]; exact hfit, by rw [acap]; exact hlo, (fun u hu => by cases hu), asz.symm, by rw [aoff, asz]; exact hal, fun k v hk => ?_⟩
  have := T.get_ofList hk
  obtain ⟨x, hx, hr⟩ := hl.get k v this
  have hlt : k < l.length := (List.getElem?_eq_some_iff.1 this).1
  exact ⟨by rw [acap]; omega, x, by rw [aoff]; exact hcell k x hx, hr.mono (φ.le_add _ _ _ _ _ hd), h1 x (List.mem_of_getElem? hx)⟩
theorem drew_heap (w : World) : w.drew.heap = w.heap := rfl
theorem grown_ge (w : World) (need old : Nat) (e : TypeId) : need ≤ grownCap w need old e := by
  unfold grownCap; exact Nat.le_add_right _ _
theorem size_zeroCells (z : Array Value) (n : Nat) : (Builtin.zeroCells z n).size = n * z.size := by simp [Builtin.zeroCells]
/-- the row that an append makes -/
theorem grow_ok {φ : Ren} {h h1 : Heap} {w : World} (H1 : HRel P φ h1 w.heap) (T1 : Tr φ h w.heap φ h1 w.heap) {e : TypeId} {ei : TI} (ke : TIok P e ei) {oldA newA : List AVal} {old new : Array Value}
    (ho : VRelL φ oldA old.toList) (ho1 : ∀ y ∈ old.toList, y.oneCell' = true) (hn : VRelL φ newA new.toList) (hn1 : ∀ y ∈ new.toList, y.oneCell' = true) {sLen n sCap : Nat} (hos : old.size = sLen * ei.size) (hns : new.size = n * ei.size) {outs : List (AVal × Heap)}
    (hout : newRowU e (oldA ++ newA) (sLen + n) h1 = some outs) :
    ∃ ψ vh, vh ∈ outs ∧ HRel P ψ vh.2 (w.drew.alloc (.cells (old ++ new ++ Builtin.zeroCells ke.zero.cells (grownCap w (sLen + n) sCap e - (sLen + n))) e)).heap ∧
      Tr φ h w.heap ψ vh.2 (w.drew.alloc (.cells (old ++ new ++ Builtin.zeroCells ke.zero.cells (grownCap w (sLen + n) sCap e - (sLen + n))) e)).heap ∧
      VRel ψ vh.1 (.slice (some ⟨w.heap.size, 0, none⟩) (sLen + n) (grownCap w (sLen + n) sCap e)) := by
  have hge := grown_ge w (sLen + n) sCap e
  generalize grownCap w (sLen + n) sCap e = gc at hge
  have hl := ho.append hn
  have hlen : (oldA ++ newA).length = (sLen + n) * ei.size := by rw [hl.length, List.length_append]; simp [hos, hns, Nat.add_mul]
  have htot : (old ++ new ++ Builtin.zeroCells ke.zero.cells (gc - (sLen + n))).size = gc * ei.size := by
    simp only [Array.size_append, size_zeroCells, zero_size ke, hos, hns]
    rw [← Nat.add_mul, ← Nat.add_mul]; congr 1; omega
  have hmul : (sLen + n) * ei.size ≤ gc * ei.size := Nat.mul_le_mul_right _ hge
  have hout : some [(AVal.slice h1.next 0 (sLen + n) none, h1.alloc (rowObjU e (oldA ++ newA)))] = some outs := hout
  injection hout with hout
  have A := H1.alloc (cap := gc * ei.size) (sz := P.cellsOf e) (ob := rowObjU e (oldA ++ newA)) (o' := .cells (old ++ new ++ Builtin.zeroCells ke.zero.cells (gc - (sLen + n))) e (0, 0)) (by
    rw [rowObjU_eq]
    refine row_objP H1.fresh hl (fun x hx => ?_) (.inl rfl) (by omega) (by omega) (Nat.zero_mod _) (fun k x hx => ?_)
    · rcases List.mem_append.1 hx with hx | hx
      · exact ho1 x hx
      · exact hn1 x hx
    · rw [Nat.zero_add, ← Array.getElem?_toList, Array.toList_append, Array.toList_append]
      rw [List.getElem?_append_left (List.getElem?_eq_some_iff.1 hx).1]
      exact hx)
  refine ⟨_, _, by rw [← hout]; exact List.mem_singleton.2 rfl, A.1, T1.trans A.2, ?_⟩
  rw [ke.cells]
  exact new_slice hmul rfl gc rfl hge
end
end Go.Proofs.YtpjkcfglojigmaaGreatDoor.Ev
namespace Go.Proofs.YtpjkcfglojigmaaGreatDoor.Ev
set_option linter.unusedVariables false
set_option linter.unusedSimpArgs false
open Go
section
variable {P : Program} {tt : TT} {sl : SL} {o : Oper}

/-- the row that an append into an unknown capacity may leave in place: the old object is dead, a new one lies where it lay -/
theorem stay_ok {φ : Ren} {h : Heap} {w : World} (H : HRel P φ h w.heap) {e : TypeId} {ei : TI} (ke : TIok P e ei) {id off sLen cap n lo : Nat} {hi : Option Nat} {r : T AVal} {cc : Array Value} {fz : Nat × Nat}
    (hd : φ.dom id) (hg : h.objs.get id = some (.cells r lo hi e)) (hb : w.heap[φ.blk id]? = some (.cells cc e fz)) (R : RowOk P φ id r lo hi e cc fz) (hc : off + cap * φ.sz id ≤ φ.cap id) (hal : off % ei.size = 0)
    {oldA newA : List AVal} {new : List Value} (hold : loadN r (sLen * ei.size) off = some oldA) (hn : VRelL φ newA new) (hn1 : ∀ y ∈ new, y.oneCell' = true) (hns : new.length = n * ei.size) (hfit : sLen + n ≤ cap)
    {outs : List (AVal × Heap)} (hout : newRowU e (oldA ++ newA) (sLen + n) (h.kill id) = some outs) :
    ∃ w' ψ vh, (storeCells ((baseOf φ id off).add (sLen * ei.size)) new).run P w = .ok () w' ∧ vh ∈ outs ∧ HRel P ψ vh.2 w'.heap ∧ Tr φ h w.heap ψ vh.2 w'.heap ∧
      VRel ψ vh.1 (.slice (some (baseOf φ id off)) (sLen + n) cap) ∧ Still w w' := by
  have hsz : φ.sz id = ei.size := by rw [← R.sz, ke.cells]
  rw [hsz] at hc
  have hmul : (sLen + n) * ei.size ≤ cap * ei.size := Nat.mul_le_mul_right _ hfit
  have hadd : (sLen + n) * ei.size = sLen * ei.size + n * ei.size := Nat.add_mul _ _ _
  have hcap := R.fit
  have hin : ∀ j, j < new.length → φ.off id + (off + sLen * ei.size) + j < cc.size := fun j hj => by omega
  have hrun := run_storeCells_cells (P := P) (φ.blk id) (φ.off id + (off + sLen * ei.size)) new 0 w (fun j hj => by
      have := hin j hj
      simp [World.cell?, hb, this]) (fun j hj => not_frozen hb R.fz (by have := hin j hj; simpa using this)) hn1
  obtain ⟨cc', U, ecc⟩ := setCells_heap new (φ.off id + (off + sLen * ei.size)) w cc hb
  have hcsz : cc'.size = cc.size := by rw [← Array.length_toList, ecc, setR_length]; simp
  obtain ⟨old, g1, g1a, g2, g3, g4⟩ := loadN_ok hb R _ off oldA hold
  have hl := g2.append hn
  have hlen : (oldA ++ newA).length = (sLen + n) * ei.size := by rw [hl.length, List.length_append, g1, hns, hadd]
  have noone : ∀ i, Live φ (h.kill id) i → φ.blk i ≠ φ.blk id := by
    intro i hi e
    obtain ⟨di, ob, ho⟩ := hi
    obtain ⟨hne, ho⟩ := T.get_del ho
    exact hne (H.inj i id _ _ di hd ho hg e)
  have nfx : ¬ MaxG P (φ.blk id) := fun hc => (H.fix _ hc).2 id _ hd hg rfl
  have K := (H.kill id).other (b := φ.blk id) (Nat.le_of_eq U.size.symm) (fun k hk _ => U.other k hk) noone nfx
  have hfr : ¬ φ.dom h.next := H.fresh
  have K2 := (K.pend (rowObjU e (oldA ++ newA))).come (id := h.next) (b := φ.blk id) (off := φ.off id + off) (cap := cap * ei.size) (sz := P.cellsOf e) hfr (by rw [Heap.alloc_next]; exact Nat.lt_succ_self _) U.at_
    (fun i hi => by
      obtain ⟨di, ob, ho⟩ := hi
      rw [Heap.alloc_objs] at ho
      rcases T.get_put ho with ⟨e1, _⟩ | ⟨_, e1⟩
      · exact absurd di (by rw [e1]; exact hfr)
      · exact noone i ⟨di, ob, e1⟩)
    (fun ob ho => by
      rw [Heap.alloc_objs] at ho
      rcases T.get_put ho with ⟨_, e1⟩ | ⟨e1, _⟩
      · subst e1
        rw [rowObjU_eq]
        refine row_objP hfr hl (fun x hx => ?_) (by rw [hcsz]; exact R.fz) (by rw [hcsz]; omega) (by omega) ?_ (fun k x hx => ?_)
        · rcases List.mem_append.1 hx with hx | hx
          · exact g3 x hx
          · exact hn1 x hx
        · rw [ke.cells]
          have := R.al
          rw [hsz] at this
          rw [Nat.add_mod, this, hal]; simp
        · rw [← Array.getElem?_toList, ecc]
          by_cases hk : k < sLen * ei.size
          · rw [setR_out _ _ _ _ (by omega)]
            rw [List.getElem?_append_left (by omega)] at hx
            have := g4 k x hx
            simpa [World.cell?, baseOf, hb, Nat.add_assoc] using this
          · rw [List.getElem?_append_right (by omega), g1] at hx
            have hkl := (List.getElem?_eq_some_iff.1 hx).1
            exact setR_in _ _ _ _ (by omega) (by simp; omega) (by rw [show φ.off id + off + k - (φ.off id + (off + sLen * ei.size)) = k - sLen * ei.size from by omega]; exact hx)
      · exact absurd rfl e1) nfx
  have hout : some [(AVal.slice h.next 0 (sLen + n) none, (h.kill id).alloc (rowObjU e (oldA ++ newA)))] = some outs := hout
  injection hout with hout
  refine ⟨w.setCells (φ.blk id) (φ.off id + (off + sLen * ei.size)) new, _, _, ?_, by rw [← hout]; exact List.mem_singleton.2 rfl, K2, ?_, ?_, setCells_still _ _ _⟩
  · rw [add_base]; simpa [baseOf] using hrun
  · have le := φ.le_add h.next (φ.blk id) (φ.off id + off) (cap * ei.size) (P.cellsOf e) hfr
    refine ⟨le, by rw [Heap.alloc_next]; exact Nat.le_succ _, fun i hi => ?_, Nat.le_of_eq U.size.symm, fun b hbl hno => U.other b (fun e1 => hno id ⟨hd, _, hg⟩ e1.symm), fun i hi => ?_, fun i ob hlt hdi ho => ?_⟩
    · rcases hi with rfl | hi
      · exact .inr (Nat.le_refl _)
      · exact .inl hi
    · obtain ⟨di, ob, ho⟩ := hi
      rcases di with rfl | di
      · right; right
        exact ⟨id, ⟨hd, _, hg⟩, by simp [Ren.add]⟩
      · left
        rw [Heap.alloc_objs] at ho
        rcases T.get_put ho with ⟨e1, _⟩ | ⟨_, e1⟩
        · exact absurd di (by rw [e1]; exact hfr)
        · exact ⟨di, ob, (T.get_del e1).2⟩
    · rw [Heap.alloc_objs] at ho
      rcases T.get_put ho with ⟨e1, _⟩ | ⟨_, e1⟩
      · have : (h.kill id).next = h.next := rfl
        omega
      · exact (T.get_del e1).2
  · have hbase : baseOf (φ.add h.next (φ.blk id) (φ.off id + off) (cap * ei.size) (P.cellsOf e)) h.next 0 = baseOf φ id off := by simp [baseOf, Ren.add]
    have hszn : (φ.add h.next (φ.blk id) (φ.off id + off) (cap * ei.size) (P.cellsOf e)).sz h.next = ei.size := by simp [Ren.add, ke.cells]
    have hcapn : (φ.add h.next (φ.blk id) (φ.off id + off) (cap * ei.size) (P.cellsOf e)).cap h.next = cap * ei.size := by simp [Ren.add]
    exact .slice _ _ _ _ _ _ (.inl rfl) hfit (fun _ => hbase.symm) (by rw [hszn, hcapn]; omega) (fun _ => by rw [hszn, hcapn]; omega) (fun k hk => by cases hk)
end
end Go.Proofs.YtpjkcfglojigmaaGreatDoor.Ev
namespace Go.Proofs.YtpjkcfglojigmaaGreatDoor.Ev
set_option linter.unusedVariables false
set_option linter.unusedSimpArgs false
open Go
section
variable {P : Program} {tt : TT} {sl : SL} {o : Oper}

theorem capHi_ok {φ : Ren} {h : Heap} {hp : Array Obj} {id off : Nat} {e : TypeId} {lo : Nat} {hi : Option Nat} {r : T AVal} {cc : Array Value} {fz : Nat × Nat} (R : RowOk P φ id r lo hi e cc fz) {sz : Nat} (hsz : φ.sz id = sz) (hs : 0 < sz) {lim : Option Nat} {cap u : Nat}
    (hc : off + cap * φ.sz id ≤ φ.cap id) (hk : ∀ k, lim = some k → cap = k) (hu : capHi off sz lim (some (.cells r lo hi e)) = some u) : cap ≤ u := by
  unfold capHi at hu
  cases lim with
  | some k => injection hu with hu; rw [hk k rfl, hu]; exact Nat.le_refl _
  | none =>
    cases hi with
    | none => cases hu
    | some q =>
      have hu : Nat.div (Nat.sub q off) sz = u := by injection hu
      have hq := R.hi q rfl
      rw [hsz] at hc
      rw [← hu]
      show cap ≤ (q - off) / sz
      rw [Nat.le_div_iff_mul_le hs]; omega
/-- append: what it does, over what the model's operation is known to do -/
theorem app_ok {φ : Ren} {h : Heap} {w : World} (H : HRel P φ h w.heap) {e : TypeId} {ei : TI} (ke : TIok P e ei) (hpos : ei.size ≠ 0) {sv : AVal} {sx : Value} (hs : VRel φ sv sx) {n : Nat} {newA : List AVal} {new : Array Value}
    (hn : VRelL φ newA new.toList) (hn1 : ∀ y ∈ new.toList, y.oneCell' = true) (hns : new.size = n * ei.size) {outs : List (AVal × Heap)} (hout : appendV ei.size e n newA h sv = some outs) (R : Value → World → Prop)
    (hnil : sx = .slice none 0 0 → n = 0 → R (.slice none 0 0) w)
    (hfits : ∀ b sLen sCap w', sx = .slice (some b) sLen sCap → sLen + n ≤ sCap → (storeCells (b.add (sLen * ei.size)) new.toList).run P w = .ok () w' → R (.slice (some b) (sLen + n) sCap) w')
    (hgrows : ∀ b sLen sCap old, sx = .slice b sLen sCap → ¬ (sLen + n ≤ sCap) → sLen + n ≤ 100000 → (Builtin.firstCells ei.size sLen (.slice b sLen sCap)).run P w.drew = .ok old w.drew →
      R (.slice (some ⟨w.heap.size, 0, none⟩) (sLen + n) (grownCap w (sLen + n) sCap e)) (w.drew.alloc (.cells (old ++ new ++ Builtin.zeroCells ke.zero.cells (grownCap w (sLen + n) sCap e - (sLen + n))) e))) :
    ∃ x w' ψ vh, R x w' ∧ vh ∈ outs ∧ HRel P ψ vh.2 w'.heap ∧ Tr φ h w.heap ψ vh.2 w'.heap ∧ VRel ψ vh.1 x ∧ Still w w' := by
  cases hs <;> try (cases hout; done)
  case nilSlice =>
    cases n with
    | zero =>
      cases hout
      exact ⟨_, w, φ, _, hnil rfl rfl, List.mem_singleton.2 rfl, H, .refl _ _ _, .nilSlice, .refl _⟩
    | succ n =>
      obtain ⟨h1, h2⟩ := when_some (show when (Nat.ble (n + 1) 100000) (newRowU e newA (n + 1) h) = some outs from hout)
      rw [ble_dec] at h1
      have h1 := of_decide_eq_true h1
      obtain ⟨ψ, vh, g1, g2, g3, g4⟩ := grow_ok (sLen := 0) (n := n + 1) (sCap := 0) (old := #[]) (oldA := []) H (.refl _ _ _) ke .nil (by simp) hn hn1 (by simp) hns (by simpa using h2)
      exact ⟨_, _, ψ, vh, hgrows none 0 0 #[] rfl (by omega) (by omega) rfl, g1, g2, g3, g4, ⟨rfl, rfl, rfl⟩⟩
  case slice id off len lim ad cap hd hlc ha hc h0 hk =>
    have hout : (seqN (Nat.add len n) fun need => appSlice ei.size e id off len lim newA h (h.objs.get id) need) = some outs := hout
    rw [seqN_eq] at hout
    obtain ⟨c, h1, h2⟩ := ob_some (show Ev.ob (capLo off ei.size e lim (h.objs.get id)) (fun cap => match Nat.ble (Nat.add len n) cap with
      | true => okH (.slice id off (Nat.add len n) lim) (storeAt id (Nat.add off (Nat.mul len ei.size)) newA h)
      | false => when (Nat.beq (Nat.mod off ei.size) 0) <| Ev.ob (Ev.ob (rowOf (h.objs.get id)) fun c => loadN c (Nat.mul len ei.size) off) fun old =>
        when (Nat.ble (Nat.add len n) 100000) (newRowU e (old ++ newA) (Nat.add len n) (killUnless (capHi off ei.size lim (h.objs.get id)) id (Nat.add len n) h))) = some outs from hout)
    obtain ⟨hcc, hsz, r, lo, hi, cc, fz, hg, hb, R'⟩ := capLo_ok H.toHRelR hd ke h0 hk (by omega) h1
    rw [ble_dec] at h2
    by_cases hfit : Nat.add len n ≤ c
    · rw [decide_eq_true hfit] at h2
      obtain ⟨h', h3, h4⟩ := okH_some h2
      have hfit : len + n ≤ c := hfit
      obtain ⟨w', g1, g2, g3, g4⟩ := store_ok H hd hn hn1 h3
      refine ⟨_, w', φ, _, hfits ad len cap w' rfl (by omega) ?_, by rw [h4]; exact List.mem_singleton.2 rfl, g2, g3, .slice id off _ lim ad cap hd (by show len + n ≤ cap; omega) ha hc h0 hk, g4⟩
      by_cases hz : cap = 0
      · have : n = 0 := by omega
        subst this
        have : new = #[] := Array.size_eq_zero_iff.1 (by rw [hns]; simp)
        subst this
        exact g1
      · rw [ha hz, add_base]; exact g1
    · rw [decide_eq_false hfit] at h2
      obtain ⟨h3, h4⟩ := when_some h2
      rw [beq_dec] at h3
      have h3 : off % ei.size = 0 := of_decide_eq_true h3
      obtain ⟨oldA, h5, h6⟩ := ob_some h4
      obtain ⟨h7, h8⟩ := when_some h6
      rw [ble_dec] at h7
      have h7 : len + n ≤ 100000 := of_decide_eq_true h7
      rw [hg] at h5 h8
      have h5 : loadN r (len * ei.size) off = some oldA := h5
      have h8 : newRowU e (oldA ++ newA) (len + n) (killUnless (capHi off ei.size lim (some (.cells r lo hi e))) id (len + n) h) = some outs := h8
      by_cases hf2 : len + n ≤ cap
      · -- it fits after all
        have hkill : killUnless (capHi off ei.size lim (some (.cells r lo hi e))) id (len + n) h = h.kill id := by
          unfold killUnless
          split
          · rename_i u hu
            have := capHi_ok (h := h) (hp := w.heap) R' hsz (by omega) hc hk hu
            rw [blt_dec, decide_eq_false (by omega)]
          · rfl
        rw [hkill] at h8
        by_cases hz : cap = 0
        · -- nothing is there
          have hl0 : len = 0 := by omega
          have hn0 : n = 0 := by omega
          subst hl0; subst hn0
          exfalso; exact hfit (Nat.zero_le _)
        · obtain ⟨w', ψ, vh, g1, g2, g3, g4, g5, g6⟩ := stay_ok H ke hd hg hb R' hc h3 h5 hn hn1 (by simpa using hns) hf2 h8
          refine ⟨_, w', ψ, vh, hfits ad len cap w' rfl hf2 ?_, g2, g3, g4, ?_, g6⟩
          · rw [ha hz]; exact g1
          · rw [ha hz]; exact g5
      · have hld : ∃ old : Array Value, (Builtin.firstCells ei.size len (.slice (some ad) len cap)).run P w.drew = .ok old w.drew ∧ VRelL φ oldA old.toList ∧ (∀ y ∈ old.toList, y.oneCell' = true) ∧ old.size = len * ei.size := by
          have hb' : w.drew.heap[φ.blk id]? = some (.cells cc e fz) := hb
          obtain ⟨l', g1, _, g2, g3, g4⟩ := loadN_ok hb' R' _ off oldA h5
          refine ⟨l'.toArray, ?_, by simpa using g2, by simpa using g3, by simpa using g1⟩
          by_cases hz : cap = 0
          · have h0 : len = 0 := by omega
            subst h0
            have : l' = [] := List.length_eq_zero_iff.1 (by rw [g1]; simp)
            subst this
            simp [Builtin.firstCells, loadCells, loadCellsFrom]
          · rw [ha hz]; exact rLoadCells g1 g4
        obtain ⟨old, q1, q2, q3, q4⟩ := hld
        have hcase : killUnless (capHi off ei.size lim (some (.cells r lo hi e))) id (len + n) h = h ∨ killUnless (capHi off ei.size lim (some (.cells r lo hi e))) id (len + n) h = h.kill id := by
          unfold killUnless
          split
          · split
            · exact .inl rfl
            · exact .inr rfl
          · exact .inr rfl
        rcases hcase with hk1 | hk1 <;> rw [hk1] at h8
        · obtain ⟨ψ, vh, g1, g2, g3, g4⟩ := grow_ok (sCap := cap) H (.refl _ _ _) ke q2 q3 hn hn1 q4 hns h8
          exact ⟨_, _, ψ, vh, hgrows (some ad) len cap old rfl hf2 h7 q1, g1, g2, g3, g4, ⟨rfl, rfl, rfl⟩⟩
        · obtain ⟨ψ, vh, g1, g2, g3, g4⟩ := grow_ok (sCap := cap) (H.kill id) (.kill _ _ _ id) ke q2 q3 hn hn1 q4 hns h8
          exact ⟨_, _, ψ, vh, hgrows (some ad) len cap old rfl hf2 h7 q1, g1, g2, g3, g4, ⟨rfl, rfl, rfl⟩⟩
end
end Go.Proofs.YtpjkcfglojigmaaGreatDoor.Ev
namespace Go.Proofs.YtpjkcfglojigmaaGreatDoor.Ev
set_option linter.unusedVariables false
set_option linter.unusedSimpArgs false
open Go
section
variable {P : Program} {tt : TT} {sl : SL} {o : Oper}

theorem exec_app {c : Call} {s x : Operand} (ho : o.op = .call c) (hc : c.callee = .builtin .append) (ha : c.args.toList = [s, x]) {a : Act} {w w' : World} {z : Value}
    (h : (Builtin.append_ c.argTypes o.type #[a.eval s, a.eval x]).run P w = .ok z w') : (execOp a.eval o).run P w = .ok (.value z) w' := by
  rw [exec_builtin ho hc, args_of ha]
  have : ∀ (k : Value → Sem Next), ((Builtin.append_ c.argTypes o.type #[a.eval s, a.eval x]) >>= k).run P w = (k z).run P w' := by intro k; rw [Sem.run_bind, h]; rfl
  exact this _
theorem append_nil {ats : Array TypeId} {ty t e : TypeId} (h0 : ats[0]? = some t) (hz : NoZeros P ats) (ht : P.underlying t = some (.slice e)) {ei : TI} (ke : TIok P e ei) {w : World} {x : Value} {new : Array Value}
    (hn : (Builtin.lenOf x).run P w = .ok 0 w) (hx : (Builtin.firstCells ei.size 0 x).run P w = .ok new w) :
    (Builtin.append_ ats ty #[.slice none 0 0, x]).run P w = .ok (.slice none 0 0) w := by
  have e0 : ((#[Value.slice none 0 0, x] : Array Value)[0]?) = some (.slice none 0 0) := rfl
  have e1 : ((#[Value.slice none 0 0, x] : Array Value)[1]?) = some x := rfl
  have hs := ke.rSize (w := w)
  rcases hz with h1 | ⟨u, d, h1, hu, hd⟩
  · simp only [Builtin.append_, h0, e0, e1, h1, Sem.run_bind, rUnd ht, Result.andThen_ok, hs, Sem.run_pure, Bool.false_eq_true, if_false, hn, Nat.add_zero, Nat.le_refl, if_true, Bool.not_false, hx]
  · have : (match d with | .int _ => true | _ => false) = false := by cases d <;> first | rfl | exact absurd rfl (hd _)
    simp only [Builtin.append_, h0, e0, e1, h1, Sem.run_bind, rUnd ht, rUnd hu, Result.andThen_ok, hs, Sem.run_pure, this, Bool.false_eq_true, if_false, hn, Nat.add_zero, Nat.le_refl, if_true, Bool.not_false, hx]
theorem noZeros_of {c : Call} {t u : TypeId} {i : TI} (ht : c.argTypes.toList = [t, u]) (k : TIok P u i) (hd : ∀ q, i.desc ≠ .int q) : NoZeros P c.argTypes := by
  refine .inr ⟨u, k.desc, argTy1 ht, k.hund, fun q e => ?_⟩
  have := k.hdesc
  rw [e] at this
  revert this hd
  cases i.desc <;> intro hd h <;> simp only [TDRel] at h <;> first
    | (cases h; done)
    | (obtain ⟨_, h, _⟩ := h; cases h; done)
    | (obtain ⟨_, _, _, h⟩ := h; cases h; done)
    | exact absurd rfl (hd _)
    | exact absurd rfl (h.1 _)
theorem eAppend {c : Call} {s x : Operand} (ho : o.op = .call c) (hc : c.callee = .builtin .append) (ha : c.args.toList = [s, x]) {t : TypeId} {ts : List TypeId} (ht : c.argTypes.toList = t :: ts) (hz : NoZeros P c.argTypes) {i : TI} (k : TIok P t i) {e : TypeId} (hd : i.desc = .slice e)
    {ei : TI} (ke : TIok P e ei) (hpos : ei.size ≠ 0) :
    EOK P sl o (fun vs ρ h => Ev.ob (lenA ((vk sl x).get vs ρ)) fun m => Ev.ob (firstA ei.size m h ((vk sl x).get vs ρ)) fun new => appendV ei.size e m new h ((vk sl s).get vs ρ)) := by
  intro φ h vs ρ a w outs hl H hf
  have hx := hl.at ho (x := x) (arg_mem hc (by rw [ha]; simp))
  have hs := hl.at ho (x := s) (arg_mem hc (by rw [ha]; simp))
  obtain ⟨m, h1, h2⟩ := ob_some hf
  obtain ⟨newA, h3, h4⟩ := ob_some h2
  have hdd := k.hdesc
  rw [hd] at hdd
  have hdd : k.desc = .slice e := hdd
  have hu : P.underlying t = some (.slice e) := by rw [k.hund, hdd]
  obtain ⟨g1, new, g2, g3, g4, g5⟩ := first_ok H.toHRelR hx h1 (Nat.le_refl m) h3
  obtain ⟨z, w', ψ, vh, q1, q2, q3, q4, q5, q6⟩ := app_ok H ke hpos hs g3 g4 g5 h4 (fun z w' => (Builtin.append_ c.argTypes o.type #[a.eval s, a.eval x]).run P w = .ok z w')
    (fun e1 e2 => by subst e2; rw [e1]; exact append_nil (argTy ht) hz hu ke g1 g2.1)
    (fun b sLen sCap w' e1 hfit hst => by rw [e1]; exact append_fits (argTy ht) hz hu ke g1 hfit g2.1 hst)
    (fun b sLen sCap old e1 hfit hsm hold => by rw [e1]; exact append_grows (argTy ht) hz hu ke g1 hfit hsm hold g2.2)
  exact ⟨_, w', z, ψ, vh, exec_app ho hc ha q1, .inl rfl, q2, q3, q4, q5, q6⟩
/-! append of zero elements, as many as are asked for -/
theorem i64_small {n : Nat} (h : n ≤ 100000) : IntKind.i64.wrap (n : Int) = n := by rw [IntKind.wrap_i64]; omega
theorem zeroCells_0 (z : Array Value) : Builtin.zeroCells z 0 = #[] := by simp [Builtin.zeroCells]
theorem appZ_new {e : TypeId} {ei : TI} (ke : TIok P e ei) (hpos : ei.size ≠ 0) (n : Nat) (w : World) :
    (if n * ei.size = 0 then pure #[] else do pure (Builtin.zeroCells (← zeroValue e).cells n) : Sem (Array Value)).run P w = .ok (Builtin.zeroCells ke.zero.cells n) w := by
  have hzv := ke.rZero (w := w)
  by_cases h : n * ei.size = 0
  · have hn : n = 0 := (Nat.mul_eq_zero.1 h).resolve_right hpos
    subst hn
    simp [zeroCells_0]
  · simp only [h, if_false, Sem.run_bind, hzv, Result.andThen_ok, Sem.run_pure]
theorem appZ_big {e : TypeId} {ei : TI} (ke : TIok P e ei) {n : Nat} (hn : n ≤ 100000) : ¬ ((n : Int) * (ke.inf.bytes : Int) > 2 ^ 48) := by
  have h1 : n * ke.inf.bytes ≤ 100000 * 1000000 := Nat.mul_le_mul hn ke.hbytes
  have h2 : ((n * ke.inf.bytes : Nat) : Int) ≤ 100000000000 := by omega
  rw [Int.natCast_mul] at h2
  have h3 : (2 : Int) ^ 48 = 281474976710656 := by decide
  rw [h3]
  omega
theorem append_fitsZ {ats : Array TypeId} {ty t e u : TypeId} {k q : IntKind} (h0 : ats[0]? = some t) (h1 : ats[1]? = some u) (hu : P.underlying u = some (.int q)) (ht : P.underlying t = some (.slice e)) {ei : TI} (ke : TIok P e ei) (hpos : ei.size ≠ 0) {w w' : World} {n sLen sCap : Nat} {b : Addr}
    (hn : n ≤ 100000) (hfit : sLen + n ≤ sCap) (hst : (storeCells (b.add (sLen * ei.size)) (Builtin.zeroCells ke.zero.cells n).toList).run P w = .ok () w') :
    (Builtin.append_ ats ty #[.slice (some b) sLen sCap, .int k (n : Int)]).run P w = .ok (.slice (some b) (sLen + n) sCap) w' := by
  have e0 : ((#[Value.slice (some b) sLen sCap, .int k (n : Int)] : Array Value)[0]?) = some (.slice (some b) sLen sCap) := rfl
  have e1 : ((#[Value.slice (some b) sLen sCap, .int k (n : Int)] : Array Value)[1]?) = some (.int k (n : Int)) := rfl
  have hs := ke.rSize (w := w)
  have hw := appZ_new (P := P) ke hpos n w
  have hi := ke.rInfo (w := w)
  have g1 : (asInt (.int k (n : Int))).run P w = .ok (n : Int) w := rfl
  have g2 : ¬ ((n : Int) < 0) := by omega
  have g3 : ¬ ((n : Int) * (ke.inf.bytes : Int) > 2 ^ 48) := appZ_big ke hn
  simp only [Builtin.append_, h0, e0, e1, h1, Sem.run_bind, rUnd ht, rUnd hu, Result.andThen_ok, hs, Sem.run_pure, if_true, Bool.not_true, Bool.false_eq_true, if_false, g1, i64_small hn, g2, hi, g3, Int.toNat_natCast, hfit] at hw ⊢
  simp only [hw, Result.andThen_ok, hst, Sem.run_pure]
theorem append_nilZ {ats : Array TypeId} {ty t e u : TypeId} {k q : IntKind} (h0 : ats[0]? = some t) (h1 : ats[1]? = some u) (hu : P.underlying u = some (.int q)) (ht : P.underlying t = some (.slice e)) {ei : TI} (ke : TIok P e ei) (hpos : ei.size ≠ 0) {w : World} :
    (Builtin.append_ ats ty #[.slice none 0 0, .int k ((0 : Nat) : Int)]).run P w = .ok (.slice none 0 0) w := by
  have e0 : ((#[Value.slice none 0 0, .int k ((0 : Nat) : Int)] : Array Value)[0]?) = some (.slice none 0 0) := rfl
  have e1 : ((#[Value.slice none 0 0, .int k ((0 : Nat) : Int)] : Array Value)[1]?) = some (.int k ((0 : Nat) : Int)) := rfl
  have hs := ke.rSize (w := w)
  have hw := appZ_new (P := P) ke hpos 0 w
  have hi := ke.rInfo (w := w)
  have g1 : (asInt (.int k ((0 : Nat) : Int))).run P w = .ok ((0 : Nat) : Int) w := rfl
  have g2 : ¬ (((0 : Nat) : Int) < 0) := by omega
  have g3 : ¬ (((0 : Nat) : Int) * (ke.inf.bytes : Int) > 2 ^ 48) := appZ_big ke (by omega)
  simp only [Builtin.append_, h0, e0, e1, h1, Sem.run_bind, rUnd ht, rUnd hu, Result.andThen_ok, hs, Sem.run_pure, if_true, Bool.not_true, Bool.false_eq_true, if_false, g1, i64_small (show 0 ≤ 100000 by omega), g2, hi, g3, Int.toNat_natCast, Nat.add_zero, Nat.le_refl] at hw ⊢
  simp only [hw, Result.andThen_ok, Sem.run_pure]
theorem append_growsZ {ats : Array TypeId} {ty t e u : TypeId} {k q : IntKind} (h0 : ats[0]? = some t) (h1 : ats[1]? = some u) (hu : P.underlying u = some (.int q)) (ht : P.underlying t = some (.slice e)) {ei : TI} (ke : TIok P e ei) (hpos : ei.size ≠ 0) {w : World} {n sLen sCap : Nat} {b : Option Addr} {old : Array Value}
    (hn : n ≤ 100000) (hfit : ¬ sLen + n ≤ sCap) (hsm : sLen + n ≤ 100000) (ho : (Builtin.firstCells ei.size sLen (.slice b sLen sCap)).run P w.drew = .ok old w.drew) :
    (Builtin.append_ ats ty #[.slice b sLen sCap, .int k (n : Int)]).run P w = .ok (.slice (some ⟨w.heap.size, 0, none⟩) (sLen + n) (grownCap w (sLen + n) sCap e))
      (w.drew.alloc (.cells (old ++ Builtin.zeroCells ke.zero.cells n ++ Builtin.zeroCells ke.zero.cells (grownCap w (sLen + n) sCap e - (sLen + n))) e)) := by
  have e0 : ((#[Value.slice b sLen sCap, .int k (n : Int)] : Array Value)[0]?) = some (.slice b sLen sCap) := rfl
  have e1 : ((#[Value.slice b sLen sCap, .int k (n : Int)] : Array Value)[1]?) = some (.int k (n : Int)) := rfl
  have hs := ke.rSize (w := w)
  have hw := appZ_new (P := P) ke hpos n w.drew
  have hi := ke.rInfo (w := w)
  have hi' := ke.rInfo (w := w.drew)
  have hzv := ke.rZero (w := w.drew)
  have g1 : (asInt (.int k (n : Int))).run P w = .ok (n : Int) w := rfl
  have g2 : ¬ ((n : Int) < 0) := by omega
  have g3 : ¬ ((n : Int) * (ke.inf.bytes : Int) > 2 ^ 48) := appZ_big ke hn
  have h63 : ¬ ((sLen + n : Nat) : Int) > IntKind.i64.max := by
    have : IntKind.i64.max = 9223372036854775807 := rfl
    rw [this]; omega
  have h48 : ¬ Builtin.nextslicecap (sLen + n) sCap * ke.inf.bytes > 2 ^ 48 := by
    have h1 : Builtin.nextslicecap (sLen + n) sCap ≤ 200000 := by have := nextslicecap_le (need := sLen + n) (old := sCap) (by omega); omega
    have h2 : Builtin.nextslicecap (sLen + n) sCap * ke.inf.bytes ≤ 200000 * 1000000 := Nat.mul_le_mul h1 ke.hbytes
    omega
  have hch : (choose (.appendCap (sLen + n) sCap e)).run P w = .ok (grownCap w (sLen + n) sCap e) w.drew := by
    simp [Question.forced, grownCap]
  simp only [Builtin.append_, h0, e0, e1, h1, Sem.run_bind, rUnd ht, rUnd hu, Result.andThen_ok, hs, Sem.run_pure, if_true, Bool.not_true, Bool.false_eq_true, if_false, g1, i64_small hn, g2, hi, g3, Int.toNat_natCast, hfit, h63, false_and, h48, hch, run_askRoom, ho] at hw ⊢
  simp only [ho, hw, Result.andThen_ok, hzv, newRow, Sem.run_bind, Sem.run_pure, hi']
  rfl
theorem eAppendZ {c : Call} {s x : Operand} (ho : o.op = .call c) (hc : c.callee = .builtin .append) (ha : c.args.toList = [s, x]) {t u : TypeId} (ht : c.argTypes.toList = [t, u]) {i : TI} (k : TIok P t i) {e : TypeId} (hd : i.desc = .slice e)
    {xi : TI} (kx : TIok P u xi) {q : IntKind} (hq : xi.desc = .int q) {ei : TI} (ke : TIok P e ei) (hpos : ei.size ≠ 0) :
    EOK P sl o (fun vs ρ h => natV (fun m => when (Nat.ble m 100000) (appendV ei.size e m (repl ei.zc m []) h ((vk sl s).get vs ρ))) ((vk sl x).get vs ρ)) := by
  intro φ h vs ρ a w outs hl H hf
  have hx := hl.at ho (x := x) (arg_mem hc (by rw [ha]; simp))
  have hs := hl.at ho (x := s) (arg_mem hc (by rw [ha]; simp))
  have hf : natV (fun m => when (Nat.ble m 100000) (appendV ei.size e m (repl ei.zc m []) h ((vk sl s).get vs ρ))) ((vk sl x).get vs ρ) = some outs := hf
  have hdd := k.hdesc
  rw [hd] at hdd
  have hdd : k.desc = .slice e := hdd
  have hu : P.underlying t = some (.slice e) := by rw [k.hund, hdd]
  have hqd := kx.hdesc
  rw [hq] at hqd
  have hqd : kx.desc = .int q := hqd
  have hux : P.underlying u = some (.int q) := by rw [kx.hund, hqd]
  have ex := fun {w'} {z} => exec_app (P := P) (w := w) (w' := w') (z := z) ho hc ha (a := a)
  generalize (vk sl x).get vs ρ = xv at hx hf
  generalize a.eval x = xe at hx ex
  unfold natV at hf
  split at hf
  case h_2 => cases hf
  rename_i kk m
  cases hx
  obtain ⟨h1, h2⟩ := when_some hf
  rw [ble_dec] at h1
  have hm := of_decide_eq_true h1
  have hrep : (Builtin.zeroCells ke.zero.cells m).toList = repl ke.zero.cells.toList m [] := repl_range _ (by have := zero_size ke; omega) m
  obtain ⟨z, w', ψ, vh, q1, q2, q3, q4, q5, q6⟩ := app_ok (new := Builtin.zeroCells ke.zero.cells m) H ke hpos hs (by rw [hrep]; exact repl_rel (ke.hzc φ) m .nil) (by rw [hrep]; exact repl_mem ke.hz1 m (by simp)) (by rw [size_zeroCells, zero_size ke]) h2
    (fun z w' => (Builtin.append_ c.argTypes o.type #[a.eval s, .int kk (m : Int)]).run P w = .ok z w')
    (fun e1 e2 => by subst e2; rw [e1]; exact append_nilZ (argTy ht) (argTy1 ht) hux hu ke hpos)
    (fun b sLen sCap w' e1 hfit hst => by rw [e1]; exact append_fitsZ (argTy ht) (argTy1 ht) hux hu ke hpos hm hfit hst)
    (fun b sLen sCap old e1 hfit hsm hold => by rw [e1]; exact append_growsZ (argTy ht) (argTy1 ht) hux hu ke hpos hm hfit hsm hold)
  exact ⟨_, w', z, ψ, vh, ex q1, .inl rfl, q2, q3, q4, q5, q6⟩
end
end Go.Proofs.YtpjkcfglojigmaaGreatDoor.Ev
namespace Go.Proofs.YtpjkcfglojigmaaGreatDoor.Ev
set_option linter.unusedVariables false
set_option linter.unusedSimpArgs false
open Go
section
variable {P : Program} {tt : TT} {sl : SL} {o : Oper}

theorem setObj_upd {w : World} {r : Nat} {o1 o2 : Obj} (h : w.heap[r]? = some o1) : Upd w.heap (w.heap.setIfInBounds r o2) r o2 := by
  have hlt := (Array.getElem?_eq_some_iff.1 h).1
  exact ⟨by simp, by simp [hlt], fun k hk => by rw [Array.getElem?_setIfInBounds]; simp [show ¬ r = k from fun e => hk e.symm]⟩
theorem rSetObj {w : World} {r : Nat} {o1 o2 : Obj} (h : w.heap[r]? = some o1) (hn : ∀ c e f, o1 ≠ .cells c e f) : (setObj r o2).run P w = .ok () { w with heap := w.heap.setIfInBounds r o2 } := by
  simp only [setObj, Sem.run, h]
theorem setNth_eq {α : Type} : ∀ (l : List α) (n : Nat) (x : α), setNth l n x = l.set n x
  | [], n, x => by simp [setNth]
  | a :: l, 0, x => rfl
  | a :: l, n + 1, x => by simp [setNth, setNth_eq l n x]
theorem eraseNth_eq {α : Type} : ∀ (l : List α) (n : Nat), eraseNth l n = l.eraseIdx n
  | [], n => by simp [eraseNth]
  | a :: l, 0 => rfl
  | a :: l, n + 1 => by simp [eraseNth, eraseNth_eq l n]
theorem EntsRel.set {φ : Ren} : ∀ {es : List Ent} {ms : List MapEntry} (i : Nat) {e : Ent} {m : MapEntry}, EntsRel φ es ms → VRel φ e.1 m.key → VRel φ e.2.1 m.val → e.2.2 = m.born → EntsRel φ (es.set i e) (ms.set i m)
  | [], _, i, e, m, .nil, _, _, _ => by simp; exact .nil
  | _ :: es, _, 0, e, m, .cons _ _ _ ms _ _ _ h, h1, h2, h3 => .cons _ _ _ _ h1 h2 h3 h
  | _ :: es, _, i + 1, e, m, .cons _ _ _ ms a b c h, h1, h2, h3 => .cons _ _ _ _ a b c (h.set i h1 h2 h3)
theorem EntsRel.erase {φ : Ren} : ∀ {es : List Ent} {ms : List MapEntry} (i : Nat), EntsRel φ es ms → EntsRel φ (es.eraseIdx i) (ms.eraseIdx i)
  | [], _, i, .nil => by simp; exact .nil
  | _ :: es, _, 0, .cons _ _ _ ms _ _ _ h => h
  | _ :: es, _, i + 1, .cons _ _ _ ms a b c h => .cons _ _ _ _ a b c (h.erase i)
theorem modify_list {α : Type} (a : Array α) (i : Nat) (f : α → α) {x : α} (h : a[i]? = some x) : (a.modify i f).toList = a.toList.set i (f x) := by
  rw [Array.toList_modify]
  have hx : a.toList[i]? = some x := by simpa using h
  apply List.ext_getElem?
  intro j
  rw [List.getElem?_modify, List.getElem?_set]
  by_cases hij : i = j
  · subst hij
    have := (List.getElem?_eq_some_iff.1 hx).1
    simp [hx]; simpa using this
  · simp [hij]
theorem keyStays {φ : Ren} {ki : TI} {k : AVal} (hk : keyOk ki k = true) {x y : Value} (hx : VRel φ k x) (hy : VRel φ k y) {w : World} : (Instr.keyThatStays x y).run P w = .ok y w := by
  have := keyOk_eq hk hx hy
  subst this
  unfold Instr.keyThatStays
  rw [if_pos (sameBits_refl hk hx)]; rfl
theorem sameKey_ok {k : AVal} {es : List Ent} {i : Nat} (h : sameKey k (nth es i) = true) : ∃ e, es[i]? = some e ∧ k = e.1 := by
  rw [nth_eq] at h
  unfold sameKey at h
  split at h
  · rename_i e he; exact ⟨e, he, beqV_eq 4 _ _ h⟩
  · cases h
/-- an entry goes into a map -/
theorem put_ok (hT : TTok P tt) {φ : Ren} {h : Heap} {w : World} (H : HRel P φ h w.heap) {kt : TypeId} {ki : TI} (kk : TIok P kt ki) (hkt : keyT tt ki = true) {k v : AVal} {kx vx : Value} (hk : VRel φ k kx) (hv : VRel φ v vx) {m : AVal} {mx : Value} (hm : VRel φ m mx) {h' : Heap} (hp : mapPut tt ki k v h m = some h')
    {mt et : TypeId} (hu : P.underlying mt = some (.map kt et)) : ∃ w', (Instr.mapUpdate mt mx kx vx).run P w = .ok () w' ∧ HRel P φ h' w'.heap ∧ Tr φ h w.heap φ h' w'.heap ∧ Still w w' := by
  unfold mapPut at hp
  split at hp
  · rename_i r
    cases hm with | map _ hd =>
    obtain ⟨h1, h2⟩ := when_some hp
    obtain ⟨⟨es, cl⟩, h3, h4⟩ := ob_some h2
    obtain ⟨fr, h5, h6⟩ := ob_some h4
    obtain ⟨hg, es', h7, h8⟩ := mapOf_ok H.toHRelR hd h3
    obtain ⟨r', g1, g2⟩ := findA_ok hT H.toHRelR kk hk es es'.toList 0 fr h8 h5
    have hc := checkKey_ok hT (empty := false) kk hkt h1 hk (w := w)
    have hfk := findKey_run kk.hund kx es'.toList w
    rw [g1] at hfk
    have hget := rGetObj (P := P) h7 (by intro _ _ _ e; cases e)
    have red : ∀ X, (Instr.mapUpdate mt (.map (some (φ.blk r))) kx vx).run P w = X ↔ ((match r' with
        | some (i, _) => do
          let key ← Instr.keyThatStays (((es'[i]?).map (·.key)).getD kx) kx
          setObj (φ.blk r) (.map (es'.modify i fun e => { e with key, val := vx }) cl)
        | none => setObj (φ.blk r) (.map (es'.push { key := kx, val := vx, born := cl }) (cl + 1)) : Sem Unit)).run P w = X := by
      intro X
      simp only [Instr.mapUpdate, Sem.run_bind, rUnd hu, Result.andThen_ok, hget, hc, hfk]
      cases r' <;> rfl
    cases fr with
    | none =>
      cases r' with
      | some _ => exact g2.elim
      | none =>
        have h6 : (seqN (Nat.succ cl) fun c' => some (h.upd r (.map (es ++ [(k, v, cl)]) c'))) = some h' := h6
        rw [seqN_eq] at h6
        injection h6 with h6; subst h6
        refine ⟨_, (red _).2 (rSetObj h7 (by intro _ _ _ e; cases e)), and3 (H.upd hd hg (setObj_upd h7) ⟨_, rfl, ?_⟩) ⟨rfl, rfl, rfl⟩⟩
        rw [Array.toList_push]
        exact h8.append (.cons _ _ _ _ hk hv rfl .nil)
    | some q =>
      cases r' with
      | none => exact g2.elim
      | some q' =>
        obtain ⟨qi, qv, qb⟩ := q
        obtain ⟨qj, qx⟩ := q'
        obtain ⟨e1, _, _, en, me, e4, e5, e6, e7, e8, e9, e10⟩ := g2
        subst e1
        simp only [Nat.sub_zero] at e4 e5
        obtain ⟨h9, h10⟩ := when_some (show when (sameKey k (nth es qi)) (some (h.upd r (.map (setNth es qi (k, v, qb)) cl))) = some h' from h6)
        injection h10 with h10; subst h10
        obtain ⟨en', q1, q2⟩ := sameKey_ok h9
        rw [e4] at q1; injection q1 with q1; subst q1
        have hold : es'[qi]? = some me := by simpa using e5
        have hst := keyStays (P := P) (w := w) h1 (q2 ▸ e10) hk
        refine ⟨{ w with heap := w.heap.setIfInBounds (φ.blk r) (.map (es'.modify qi fun e => { e with key := kx, val := vx }) cl) }, (red _).2 ?_, and3 (H.upd hd hg (setObj_upd h7) ⟨es'.modify qi fun e => { e with key := kx, val := vx }, rfl, ?_⟩) ⟨rfl, rfl, rfl⟩⟩
        · simp only [Sem.run_bind, hold, Option.map_some, Option.getD_some, hst, Result.andThen_ok]
          exact rSetObj h7 (by intro _ _ _ e; cases e)
        · rw [modify_list _ _ _ hold, setNth_eq]
          exact h8.set qi hk hv e9.symm
  · cases hp
theorem eMapPut (hT : TTok P tt) {t : TypeId} {m k x : Operand} (ho : o.op = .mapUpdate t m k x ∨ o.op = .insert t m k x) {i : TI} (ki' : TIok P t i) {kt e : TypeId} (hd : i.desc = .map kt e) {ki : TI} (kk : TIok P kt ki) (hkt : keyT tt ki = true) :
    EOK P sl o (fun vs ρ h => okH undefA (mapPut tt ki ((vk sl k).get vs ρ) ((vk sl x).get vs ρ) h ((vk sl m).get vs ρ))) := by
  intro φ h vs ρ a w outs hl H hf
  have hops : ∀ y ∈ [m, k, x], VRel φ ((vk sl y).get vs ρ) (a.eval y) := by
    intro y hy
    rcases ho with ho | ho <;> exact hl.at ho (by simpa [Op.operands] using hy)
  obtain ⟨h', h1, h2⟩ := okH_some hf
  have hdd := ki'.hdesc
  rw [hd] at hdd
  have hdd : ki'.desc = .map kt e := hdd
  obtain ⟨w', g1, g2, g3, g4⟩ := put_ok hT H kk hkt (hops k (by simp)) (hops x (by simp)) (hops m (by simp)) h1 (show P.underlying t = some (.map kt e) by rw [ki'.hund, hdd])
  refine ⟨.skip, w', undef, φ, _, ?_, .inr ⟨rfl, rfl⟩, by rw [h2]; exact List.mem_singleton.2 rfl, g2, g3, .junk _, g4⟩
  rcases ho with ho | ho <;> simp only [execOp, ho, Sem.run_bind, g1] <;> rfl
theorem eMapEnt (hT : TTok P tt) {t : TypeId} {m y : Operand} (ho : o.op = .mapEntry t m y) {i : TI} (ki' : TIok P t i) {kt e : TypeId} (hd : i.desc = .map kt e) {ki ei : TI} (kk : TIok P kt ki) (hkt : keyT tt ki = true) (ke : TIok P e ei) :
    EOK P sl o (fun vs ρ h => mapEntV tt ki ei.zero ((vk sl y).get vs ρ) h ((vk sl m).get vs ρ)) := by
  intro φ h vs ρ a w outs hl H hf
  have hm := hl.at ho (x := m) (by simp [Op.operands])
  have hk := hl.at ho (x := y) (by simp [Op.operands])
  have hf : mapEntV _ _ _ _ _ _ = _ := hf
  have hdd := ki'.hdesc
  rw [hd] at hdd
  have hdd : ki'.desc = .map kt e := hdd
  generalize (vk sl m).get vs ρ = mv at hm hf
  generalize (vk sl y).get vs ρ = k at hk hf
  generalize hme : a.eval m = me at hm
  generalize hke : a.eval y = kx at hk
  unfold mapEntV at hf
  split at hf
  · rename_i r
    cases hm with | map _ hdm =>
    obtain ⟨h1, h2⟩ := when_some hf
    obtain ⟨⟨es, cl⟩, h3, h4⟩ := ob_some h2
    obtain ⟨fr, h5, h6⟩ := ob_some h4
    obtain ⟨hg, es', h7, h8⟩ := mapOf_ok H.toHRelR hdm h3
    obtain ⟨r', g1, g2⟩ := findA_ok hT H.toHRelR kk hk es es'.toList 0 fr h8 h5
    have hc := checkKey_ok hT (empty := false) kk hkt h1 hk (w := w)
    have hfk := findKey_run kk.hund kx es'.toList w
    rw [g1] at hfk
    have hget := rGetObj (P := P) h7 (by intro _ _ _ e; cases e)
    have hz := ke.rZero (w := w)
    cases fr with
    | none =>
      cases r' with
      | some _ => exact g2.elim
      | none =>
        have h6 : (seqN (Nat.succ cl) fun c' => ret1 (.tuple [ei.zero, .int .i64 (.ofNat cl)]) (h.upd r (.map (es ++ [(k, ei.zero, cl)]) c'))) = some outs := h6
        rw [seqN_eq] at h6
        injection h6 with h6
        have hU := H.upd hdm hg (setObj_upd (o2 := .map (es'.push { key := kx, val := ke.zero, born := cl }) (cl + 1)) h7) (ob' := .map (es ++ [(k, ei.zero, cl)]) (cl + 1)) ⟨_, rfl, by
          rw [Array.toList_push]
          exact h8.append (.cons _ _ _ _ hk (ke.hz φ) rfl .nil)⟩
        refine ⟨.value (.tuple #[ke.zero, goInt cl]), { w with heap := w.heap.setIfInBounds (φ.blk r) (.map (es'.push { key := kx, val := ke.zero, born := cl }) (cl + 1)) }, _, φ, _, ?_, .inl rfl, by rw [← h6]; exact List.mem_singleton.2 rfl, hU.1, hU.2, .tuple _ _ (.cons _ _ _ _ (ke.hz φ) (.cons _ _ _ _ (.int _ _) .nil)), ⟨rfl, rfl, rfl⟩⟩
        have hs := rSetObj (P := P) (o2 := .map (es'.push { key := kx, val := ke.zero, born := cl }) (cl + 1)) h7 (by intro _ _ _ e; cases e)
        simp only [execOp, ho, hme, hke, Instr.mapEntry, Sem.run_bind, ki'.rUnd, hdd, Result.andThen_ok, hget, hc, hfk, hz, hs]
        rfl
    | some q =>
      cases r' with
      | none => exact g2.elim
      | some q' =>
        obtain ⟨qi, qv, qb⟩ := q
        obtain ⟨qj, qx⟩ := q'
        obtain ⟨e1, _, e3, en, me', e4, e5, e6, e7, e8, e9, e10⟩ := g2
        subst e1
        simp only [Nat.sub_zero] at e4 e5
        obtain ⟨h9, h10⟩ := when_some (show when (sameKey k (nth es qi)) (ret1 (.tuple [qv, .int .i64 (.ofNat qb)]) (h.upd r (.map (setNth es qi (k, qv, qb)) cl))) = some outs from h6)
        injection h10 with h10
        obtain ⟨en', q1, q2⟩ := sameKey_ok h9
        rw [e4] at q1; injection q1 with q1; subst q1
        have hold : es'[qi]? = some me' := by simpa using e5
        have hst := keyStays (P := P) (w := w) h1 (q2 ▸ e10) hk
        have hU := H.upd hdm hg (setObj_upd (o2 := .map (es'.modify qi fun e => { e with key := kx }) cl) h7) (ob' := .map (setNth es qi (k, qv, qb)) cl) ⟨_, rfl, by
          rw [modify_list _ _ _ hold, setNth_eq]
          exact h8.set qi hk (by rw [e8]; exact e3) e9.symm⟩
        refine ⟨.value (.tuple #[qx, goInt qb]), { w with heap := w.heap.setIfInBounds (φ.blk r) (.map (es'.modify qi fun e => { e with key := kx }) cl) }, _, φ, _, ?_, .inl rfl, by rw [← h10]; exact List.mem_singleton.2 rfl, hU.1, hU.2, .tuple _ _ (.cons _ _ _ _ e3 (.cons _ _ _ _ (.int _ _) .nil)), ⟨rfl, rfl, rfl⟩⟩
        have hs := rSetObj (P := P) (o2 := .map (es'.modify qi fun e => { e with key := kx }) cl) h7 (by intro _ _ _ e; cases e)
        simp only [execOp, ho, hme, hke, Instr.mapEntry, Sem.run_bind, ki'.rUnd, hdd, Result.andThen_ok, hget, hc, hfk, hold, Option.map_some, Option.getD_some, hst, hs, e9]
        rfl
  · cases hf
end
end Go.Proofs.YtpjkcfglojigmaaGreatDoor.Ev
namespace Go.Proofs.YtpjkcfglojigmaaGreatDoor.Ev
set_option linter.unusedVariables false
set_option linter.unusedSimpArgs false
open Go
section
variable {P : Program} {tt : TT} {sl : SL} {o : Oper}

theorem setBorn_ok {φ : Ren} {b : Nat} {v : AVal} {vx : Value} (hv : VRel φ v vx) : ∀ {es : List Ent} {ms : List MapEntry} {es2 : List Ent}, EntsRel φ es ms → setBorn b v es = some es2 →
    ∃ i me, ms[i]? = some me ∧ ms.findIdx? (fun e => (e.born : Int) == (b : Int)) = some i ∧ EntsRel φ es2 (ms.set i { me with val := vx })
  | [], _, _, .nil, h => by cases h
  | e :: es, _, es2, .cons _ m _ ms h1 h2 h3 h4, h => by
    simp only [setBorn] at h
    rw [beq_dec] at h
    by_cases hb : e.2.2 = b
    · simp only [hb, decide_true] at h
      cases h
      refine ⟨0, m, by simp, ?_, ?_⟩
      · have : m.born = b := by rw [← h3, hb]
        simp [List.findIdx?_cons, this]
      · exact .cons _ _ _ _ h1 hv (by rw [← hb]; exact h3) h4
    · simp only [hb, decide_false] at h
      obtain ⟨es3, g1, g2⟩ := ob_some h
      cases g2
      obtain ⟨i, me, q1, q2, q3⟩ := setBorn_ok hv h4 g1
      refine ⟨i + 1, me, by simpa using q1, ?_, ?_⟩
      · have : ¬ (m.born : Int) = (b : Int) := by rw [← h3]; omega
        rw [List.findIdx?_cons]
        simp only [beq_iff_eq, this, if_false, q2]; rfl
      · exact .cons _ _ _ _ h1 h2 h3 q3
theorem eEntPut {t : TypeId} {m s x : Operand} (ho : o.op = .entryStore t m s x) : EOK P sl o (fun vs ρ h => entPutV ((vk sl s).get vs ρ) ((vk sl x).get vs ρ) h ((vk sl m).get vs ρ)) := by
  intro φ h vs ρ a w outs hl H hf
  have hm := hl.at ho (x := m) (by simp [Op.operands])
  have hs := hl.at ho (x := s) (by simp [Op.operands])
  have hx := hl.at ho (x := x) (by simp [Op.operands])
  have hf : entPutV _ _ _ _ = _ := hf
  generalize (vk sl m).get vs ρ = mv at hm hf
  generalize hme : a.eval m = me at hm
  unfold entPutV at hf
  split at hf
  · rename_i r
    cases hm with | map _ hdm =>
    obtain ⟨⟨es, cl⟩, h3, h4⟩ := ob_some hf
    obtain ⟨kk, b, h5, h6⟩ := natV_some h4
    obtain ⟨es2, h7, h8⟩ := ob_some h6
    injection h8 with h8
    rw [h5] at hs
    generalize hse : a.eval s = se at hs
    cases hs
    obtain ⟨hg, es', h9, h10⟩ := mapOf_ok H.toHRelR hdm h3
    obtain ⟨i, ment, q1, q2, q3⟩ := setBorn_ok hx h10 h7
    have hold : es'[i]? = some ment := by simpa using q1
    have hfi : es'.findIdx? (fun e => (e.born : Int) == (b : Int)) = some i := by
      obtain ⟨l⟩ := es'
      simpa using q2
    have hU := H.upd hdm hg (setObj_upd (o2 := .map (es'.modify i fun e => { e with val := a.eval x }) cl) h9) (ob' := .map es2 cl) ⟨_, rfl, by
      rw [modify_list _ _ _ hold]; exact q3⟩
    refine ⟨.skip, { w with heap := w.heap.setIfInBounds (φ.blk r) (.map (es'.modify i fun e => { e with val := a.eval x }) cl) }, undef, φ, _, ?_, .inr ⟨rfl, rfl⟩, by rw [← h8]; exact List.mem_singleton.2 rfl, hU.1, hU.2, .junk _, ⟨rfl, rfl, rfl⟩⟩
    have hst := rSetObj (P := P) (o2 := .map (es'.modify i fun e => { e with val := a.eval x }) cl) h9 (by intro _ _ _ e; cases e)
    have hget := rGetObj (P := P) h9 (by intro _ _ _ e; cases e)
    have hai : (asInt (.int kk (Int.ofNat b))).run P w = .ok (b : Int) w := rfl
    simp only [execOp, ho, hme, hse, Instr.entryStore, Sem.run_bind, hget, Result.andThen_ok, hai, hfi, hst]
    rfl
  · cases hf
theorem eDelete (hT : TTok P tt) {c : Call} {m y : Operand} (ho : o.op = .call c) (hc : c.callee = .builtin .delete) (ha : c.args.toList = [m, y]) {t : TypeId} {ts : List TypeId} (ht : c.argTypes.toList = t :: ts) {i : TI} (k : TIok P t i) {kt e : TypeId} (hd : i.desc = .map kt e)
    {ki : TI} (kk : TIok P kt ki) (hkt : keyT tt ki = true) : EOK P sl o (fun vs ρ h => deleteV tt ki ((vk sl y).get vs ρ) h ((vk sl m).get vs ρ)) := by
  intro φ h vs ρ a w outs hl H hf
  have hm := hl.at ho (x := m) (arg_mem hc (by rw [ha]; simp))
  have hy := hl.at ho (x := y) (arg_mem hc (by rw [ha]; simp))
  have hf : deleteV _ _ _ _ _ = _ := hf
  have hdd := k.hdesc
  rw [hd] at hdd
  have hdd : k.desc = .map kt e := hdd
  have ex : ∀ {w' : World} {z : Value}, (Builtin.delete_ c.argTypes o.type #[a.eval m, a.eval y]).run P w = .ok z w' → (execOp a.eval o).run P w = .ok (.value z) w' := by
    intro w' z hz
    rw [exec_builtin ho hc, args_of ha]
    have : ∀ (k : Value → Sem Next), ((Builtin.delete_ c.argTypes o.type #[a.eval m, a.eval y]) >>= k).run P w = (k z).run P w' := by intro k; rw [Sem.run_bind, hz]; rfl
    exact this _
  generalize (vk sl m).get vs ρ = mv at hm hf
  generalize hme : a.eval m = me at hm ex
  generalize (vk sl y).get vs ρ = q at hy hf
  generalize a.eval y = kx at hy ex
  have e0 : ((#[me, kx] : Array Value)[0]?) = some me := rfl
  have e1 : ((#[me, kx] : Array Value)[1]?) = some kx := rfl
  unfold deleteV at hf
  split at hf
  · cases hm
    obtain ⟨h1, h2⟩ := when_some hf
    injection h2 with h2
    have hck := checkKey_ok hT (empty := true) kk hkt h1 hy (w := w)
    refine ⟨_, w, .tuple #[], φ, _, ex (z := .tuple #[]) ?_, .inl rfl, by rw [← h2]; exact List.mem_singleton.2 rfl, H, .refl _ _ _, .junk _, ⟨rfl, rfl, rfl⟩⟩
    simp only [Builtin.delete_, argTy ht, e0, e1, Sem.run_bind, k.rUnd, hdd, Result.andThen_ok, hck]
    rfl
  · rename_i r
    cases hm with | map _ hdm =>
    obtain ⟨h1, h2⟩ := when_some hf
    obtain ⟨⟨es, cl⟩, h3, h4⟩ := ob_some h2
    obtain ⟨fr, h5, h6⟩ := ob_some h4
    obtain ⟨hg, es', h7, h8⟩ := mapOf_ok H.toHRelR hdm h3
    obtain ⟨r', g1, g2⟩ := findA_ok hT H.toHRelR kk hy es es'.toList 0 fr h8 h5
    have hck := checkKey_ok hT (empty := es'.isEmpty) kk hkt h1 hy (w := w)
    have hfk := findKey_run kk.hund kx es'.toList w
    rw [g1] at hfk
    have hget := rGetObj (P := P) h7 (by intro _ _ _ e; cases e)
    cases fr with
    | none =>
      cases r' with
      | some _ => exact g2.elim
      | none =>
        have h6 : ret1 undefA h = some outs := h6
        injection h6 with h6
        have hsame : w.heap.setIfInBounds (φ.blk r) (.map es' cl) = w.heap := by
          apply Array.ext_getElem?
          intro j
          rw [Array.getElem?_setIfInBounds]
          split
          · rename_i e; rw [← e, h7]; simp [(Array.getElem?_eq_some_iff.1 h7).1]
          · rfl
        have hs := rSetObj (P := P) (o2 := .map es' cl) h7 (by intro _ _ _ e; cases e)
        refine ⟨_, { w with heap := w.heap.setIfInBounds (φ.blk r) (.map es' cl) }, .tuple #[], φ, _, ex (z := .tuple #[]) ?_, .inl rfl, by rw [← h6]; exact List.mem_singleton.2 rfl, by simpa only [hsame] using H, by simpa only [hsame] using Tr.refl φ h w.heap, .junk _, ⟨rfl, rfl, rfl⟩⟩
        simp only [Builtin.delete_, argTy ht, e0, e1, Sem.run_bind, k.rUnd, hdd, Result.andThen_ok, hget, hck, hfk, hs]
        rfl
    | some q1 =>
      cases r' with
      | none => exact g2.elim
      | some q' =>
        obtain ⟨qi, qv, qb⟩ := q1
        obtain ⟨qj, qx⟩ := q'
        obtain ⟨e1', _, _, en, me', e4, e5, _⟩ := g2
        subst e1'
        simp only [Nat.sub_zero] at e4 e5
        have h6 : ret1 undefA (h.upd r (.map (eraseNth es qi) cl)) = some outs := h6
        injection h6 with h6
        have hlt : qi < es'.size := by simpa using (List.getElem?_eq_some_iff.1 e5).1
        have hU := H.upd hdm hg (setObj_upd (o2 := .map (es'.eraseIdxIfInBounds qi) cl) h7) (ob' := .map (eraseNth es qi) cl) ⟨_, rfl, by
          rw [eraseNth_eq, Array.eraseIdxIfInBounds, dif_pos hlt, Array.toList_eraseIdx]
          exact h8.erase qi⟩
        have hs := rSetObj (P := P) (o2 := .map (es'.eraseIdxIfInBounds qi) cl) h7 (by intro _ _ _ e; cases e)
        refine ⟨_, { w with heap := w.heap.setIfInBounds (φ.blk r) (.map (es'.eraseIdxIfInBounds qi) cl) }, .tuple #[], φ, _, ex (z := .tuple #[]) ?_, .inl rfl, by rw [← h6]; exact List.mem_singleton.2 rfl, hU.1, hU.2, .junk _, ⟨rfl, rfl, rfl⟩⟩
        simp only [Builtin.delete_, argTy ht, e0, e1, Sem.run_bind, k.rUnd, hdd, Result.andThen_ok, hget, hck, hfk, hs]
        rfl
  · cases hf
end
end Go.Proofs.YtpjkcfglojigmaaGreatDoor.Ev
namespace Go.Proofs.YtpjkcfglojigmaaGreatDoor.Ev
set_option linter.unusedVariables false
set_option linter.unusedSimpArgs false
open Go
section
variable {P : Program} {tt : TT} {sl : SL} {o : Oper}

theorem eRangeStr {t : TypeId} {x : Operand} (ho : o.op = .range t x) {i : TI} (k : TIok P t i) (hd : i.desc = .str) : EOK P sl o (fun vs ρ h => rangeStr h ((vk sl x).get vs ρ)) := by
  intro φ h vs ρ a w outs hl H hf
  have hx := hl.at ho (x := x) (by simp [Op.operands])
  have hf : rangeStr _ _ = _ := hf
  have hdd := k.hdesc
  rw [hd] at hdd
  have hdd : k.desc = .string := hdd
  generalize (vk sl x).get vs ρ = xv at hx hf
  generalize hxe : a.eval x = xe at hx
  cases hx <;> try (cases hf; done)
  rename_i s
  have hf : some [(AVal.ptr h.next 0, h.alloc (.strIter (enc s.data.toList) 0))] = some outs := hf
  injection hf with hf
  have A := H.alloc (cap := 0) (sz := 0) (ob := .strIter (enc s.data.toList) 0) (o' := .stringIter s 0) ⟨add_off, s, rfl, rfl⟩
  refine ⟨.value (.pointer (some ⟨w.heap.size, 0, none⟩)), { w with heap := w.heap.push (.stringIter s 0) }, _, _, _, ?_, .inl rfl, by rw [← hf]; exact List.mem_singleton.2 rfl, A.1, A.2, (by
    have : VRel (φ.add h.next w.heap.size 0 0 0) (.ptr h.next 0) (.pointer (some (baseOf (φ.add h.next w.heap.size 0 0 0) h.next 0))) := .ptr _ _ add_dom
    rw [add_base0] at this; exact this), ⟨rfl, rfl, rfl⟩⟩
  simp only [execOp, ho, hxe, Instr.range, Sem.run_bind, k.rUnd, hdd, Result.andThen_ok]
  rfl
theorem eRangeMap {t : TypeId} {x : Operand} (ho : o.op = .range t x) {i : TI} (k : TIok P t i) {ka e : TypeId} (hd : i.desc = .map ka e) : EOK P sl o (fun vs ρ h => rangeMap h ((vk sl x).get vs ρ)) := by
  intro φ h vs ρ a w outs hl H hf
  have hx := hl.at ho (x := x) (by simp [Op.operands])
  have hf : rangeMap _ _ = _ := hf
  have hdd := k.hdesc
  rw [hd] at hdd
  have hdd : k.desc = .map ka e := hdd
  generalize (vk sl x).get vs ρ = xv at hx hf
  generalize hxe : a.eval x = xe at hx
  have vr : VRel (φ.add h.next w.heap.size 0 0 0) (.ptr h.next 0) (.pointer (some ⟨w.heap.size, 0, none⟩)) := by
    have : VRel (φ.add h.next w.heap.size 0 0 0) (.ptr h.next 0) (.pointer (some (baseOf (φ.add h.next w.heap.size 0 0 0) h.next 0))) := .ptr _ _ add_dom
    rw [add_base0] at this; exact this
  cases hx <;> try (cases hf; done)
  case nilMap =>
    have hf : some [(AVal.ptr h.next 0, h.alloc (.mapIter none 0 [] 0))] = some outs := hf
    injection hf with hf
    have A := H.alloc (cap := 0) (sz := 0) (ob := .mapIter none 0 [] 0) (o' := .mapIter none 0 #[] 0) ⟨add_off, #[], rfl, rfl, fun _ h => (by cases h), Nat.le_refl _, fun _ h => (by cases h)⟩
    refine ⟨.value (.pointer (some ⟨w.heap.size, 0, none⟩)), { w with heap := w.heap.push (.mapIter none 0 #[] 0) }, _, _, _, ?_, .inl rfl, by rw [← hf]; exact List.mem_singleton.2 rfl, A.1, A.2, vr, ⟨rfl, rfl, rfl⟩⟩
    simp only [execOp, ho, hxe, Instr.range, Sem.run_bind, k.rUnd, hdd, Result.andThen_ok]
    rfl
  case map r hdm =>
    obtain ⟨⟨es, cl⟩, h1, h2⟩ := ob_some (show Ev.ob (mapOf h r) (fun x => ret1 (.ptr h.next 0) (h.alloc (.mapIter (some r) x.2 [] x.2))) = some outs from hf)
    have hf : some [(AVal.ptr h.next 0, h.alloc (.mapIter (some r) cl [] cl))] = some outs := h2
    injection hf with hf
    obtain ⟨_, es', h3, _⟩ := mapOf_ok H.toHRelR hdm h1
    have hb : (φ.add h.next w.heap.size 0 0 0).blk r = φ.blk r := (φ.le_add h.next w.heap.size 0 0 0 H.fresh).blk r hdm
    have A := H.alloc (cap := 0) (sz := 0) (ob := .mapIter (some r) cl [] cl) (o' := .mapIter (some (φ.blk r)) cl #[] cl) ⟨add_off, #[], by rw [Option.map_some, hb], rfl, fun q hq => (by cases hq; exact .inr hdm), Nat.le_refl _, fun _ h => (by cases h)⟩
    refine ⟨.value (.pointer (some ⟨w.heap.size, 0, none⟩)), { w with heap := w.heap.push (.mapIter (some (φ.blk r)) cl #[] cl) }, _, _, _, ?_, .inl rfl, by rw [← hf]; exact List.mem_singleton.2 rfl, A.1, A.2, vr, ⟨rfl, rfl, rfl⟩⟩
    simp only [execOp, ho, hxe, Instr.range, Sem.run_bind, k.rUnd, hdd, Result.andThen_ok, rGetObj h3 (by intro _ _ _ e; cases e)]
    rfl
end
end Go.Proofs.YtpjkcfglojigmaaGreatDoor.Ev
namespace Go.Proofs.YtpjkcfglojigmaaGreatDoor.Ev
set_option linter.unusedVariables false
set_option linter.unusedSimpArgs false
open Go
section
variable {P : Program} {tt : TT} {sl : SL} {o : Oper}

theorem memN_iff {n : Nat} : ∀ {l : List Nat}, memN n l = true ↔ n ∈ l
  | [] => by simp [memN]
  | a :: l => by
    simp only [memN]
    rw [beq_dec]
    by_cases h : n = a
    · simp [h]
    · simp [h, memN_iff (l := l)]
theorem leftOf_rel {φ : Ren} {seen : List Nat} {p : MapEntry → Bool} (hp : ∀ m : MapEntry, p m = !(memN m.born seen)) : ∀ {es : List Ent} {ms : List MapEntry}, EntsRel φ es ms → EntsRel φ (leftOf seen es) (ms.filter p)
  | [], _, .nil => .nil
  | e :: es, _, .cons _ m _ ms h1 h2 h3 h4 => by
    simp only [leftOf]
    rw [List.filter_cons, hp m, ← h3]
    cases hm : memN e.2.2 seen
    · simp only [Bool.not_false, if_true]
      exact .cons _ _ _ _ h1 h2 h3 (leftOf_rel hp h4)
    · simp only [Bool.not_true, Bool.false_eq_true, if_false]
      exact leftOf_rel hp h4
theorem leftOf_mem {seen : List Nat} : ∀ {es : List Ent} {e : Ent}, e ∈ es → e ∈ leftOf seen es ∨ e.2.2 ∈ seen
  | e :: es, x, h => by
    simp only [leftOf]
    cases hm : memN e.2.2 seen
    · rcases List.mem_cons.1 h with rfl | h
      · exact .inl (by simp)
      · rcases leftOf_mem (seen := seen) h with h | h
        · exact .inl (by simp [h])
        · exact .inr h
    · rcases List.mem_cons.1 h with rfl | h
      · exact .inr (memN_iff.1 hm)
      · exact leftOf_mem h
theorem outs_ok {m since clock r : Nat} {seen : List Nat} {h : Heap} : ∀ {es : List Ent} {l : List (AVal × Heap)}, outs m since clock r seen h es = some l →
    ∀ e ∈ es, e.2.2 < since ∧ (AVal.tuple [.bool true, e.1, e.2.1], h.upd r (.mapIter (some m) since (e.2.2 :: seen) clock)) ∈ l
  | [], l, _, e, he => by cases he
  | x :: es, l, hl, e, he => by
    simp only [outs] at hl
    obtain ⟨h1, h2⟩ := when_some hl
    obtain ⟨l', h3, h4⟩ := ob_some h2
    injection h4 with h4
    rw [blt_dec] at h1
    have h1 := of_decide_eq_true h1
    rcases List.mem_cons.1 he with rfl | he
    · exact ⟨h1, by rw [← h4]; simp⟩
    · obtain ⟨g1, g2⟩ := outs_ok h3 e he
      exact ⟨g1, by rw [← h4]; simp [g2]⟩
theorem rChoose {n : Nat} (hn : 0 < n) (w : World) : ∃ i w', (choose (.mapNext n)).run P w = .ok i w' ∧ i < n ∧ w'.heap = w.heap ∧ Still w w' := by
  rw [run_choose]
  by_cases h : n ≤ 1
  · exact ⟨0, w, by simp [Question.forced, h], hn, rfl, .refl _⟩
  · refine ⟨w.tape w.drawn (.mapNext n) % n, { w with drawn := w.drawn + 1 }, by simp [Question.forced, h, Question.cut], Nat.mod_lt _ hn, rfl, ⟨rfl, rfl, rfl⟩⟩
theorem EntsRel.born {φ : Ren} : ∀ {es : List Ent} {ms : List MapEntry}, EntsRel φ es ms → ∀ (i : Nat) (m : MapEntry), ms[i]? = some m → ∃ e : Ent, es[i]? = some e ∧ VRel φ e.1 m.key ∧ VRel φ e.2.1 m.val ∧ e.2.2 = m.born
  | [], _, .nil, i, m, h => by simp at h
  | e :: es, _, .cons _ x _ ms h1 h2 h3 h4, 0, m, h => by simp at h; subst h; exact ⟨e, by simp, h1, h2, h3⟩
  | e :: es, _, .cons _ x _ ms h1 h2 h3 h4, i + 1, m, h => by
    obtain ⟨e', q1, q2⟩ := h4.born i m (by simpa using h)
    exact ⟨e', by simpa using q1, q2⟩
theorem eNextM {x : Operand} (ho : o.op = .next x false) : EOK P sl o (fun vs ρ h => nextMV h ((vk sl x).get vs ρ)) := by
  intro φ h vs ρ a w outs' hl H hf
  have hx := hl.at ho (x := x) (by simp [Op.operands])
  have hf : nextMV _ _ = _ := hf
  generalize (vk sl x).get vs ρ = xv at hx hf
  have ex : ∀ {w' : World} {z : Value}, (Instr.next (a.eval x) false o.type).run P w = .ok z w' → (execOp a.eval o).run P w = .ok (.value z) w' := by
    intro w' z hz
    simp only [execOp, ho, Sem.run_bind, hz]; rfl
  generalize hxe : a.eval x = xe at hx ex
  cases hx <;> try (cases hf; done)
  rename_i r off hd
  obtain ⟨h1, h2⟩ := when_some hf
  rw [beq_dec] at h1
  have h1 := of_decide_eq_true h1
  subst h1
  unfold nextMO at h2
  split at h2
  · rename_i since seen last hg
    have h2 : some [(AVal.tuple [.bool false], h)] = some outs' := h2
    injection h2 with h2
    obtain ⟨o', g1, g0, seen', g3, _⟩ := H.obj r _ hd hg
    rw [g3] at g1
    have hp : baseOf φ r 0 = ⟨φ.blk r, 0, none⟩ := by simp [baseOf, g0]
    refine ⟨_, w, .tuple #[.bool false], φ, _, ex ?_, .inl rfl, by rw [← h2]; exact List.mem_singleton.2 rfl, H, .refl _ _ _, .tuple _ _ (.cons _ _ _ _ (.bool _) .nil), .refl _⟩
    rw [hp]
    simp only [Instr.next, Sem.run_bind, rGetObj g1 (by intro _ _ _ e; cases e), Result.andThen_ok, Option.map_none]
    rfl
  · rename_i m since seen last hg
    obtain ⟨⟨es, cl⟩, h3, h4⟩ := ob_some h2
    obtain ⟨o', g1, g0, seen', g3, g4, g5, g6, g7⟩ := H.obj r _ hd hg
    rw [g3] at g1
    obtain ⟨hgm, es', q1, q2⟩ := mapOf_ok H.toHRelR (g5 m rfl) h3
    have hp : baseOf φ r 0 = ⟨φ.blk r, 0, none⟩ := by simp [baseOf, g0]
    have hcont : ∀ n, seen'.contains n = memN n seen := by
      intro n
      rw [Bool.eq_iff_iff, memN_iff, ← g4, List.mem_reverse]
      simp
    have hleft := leftOf_rel (seen := seen) (p := fun e => !seen'.contains e.born) (fun m => by rw [hcont]) q2
    have stale : (!seen'.isEmpty && !es'.isEmpty && es'.all (·.born ≥ last)) = false := by
      cases he : es with
      | nil =>
        rw [he] at q2
        have : es'.toList = [] := by
          generalize es'.toList = ms at q2
          cases q2; rfl
        have : es' = #[] := by apply Array.toList_inj.1; rw [this]
        subst this; simp
      | cons x0 xs =>
        have hx0 : x0.2.2 < last := by
          rcases leftOf_mem (seen := seen) (es := es) (e := x0) (by rw [he]; simp) with hm | hm
          · have hl2 : ∃ y ys, leftOf seen es = y :: ys := by cases hc : leftOf seen es with
              | nil => rw [hc] at hm; cases hm
              | cons y ys => exact ⟨y, ys, rfl⟩
            obtain ⟨y, ys, hl2⟩ := hl2
            have h4' : nextMap m since r seen h cl (leftOf seen es) = some outs' := h4
            rw [hl2] at h4'
            obtain ⟨_, h5⟩ := when_some (show when (Nat.ble since cl) (outs m since cl r seen h (y :: ys)) = some outs' from h4')
            have := (outs_ok h5 x0 (by rw [← hl2]; exact hm)).1
            omega
          · have := g7 _ hm; omega
        have : ∃ m0 ∈ es'.toList, m0.born = x0.2.2 := by
          rw [he] at q2
          generalize es'.toList = ms at q2
          cases q2 with
          | cons _ m0 _ ms h1 h2 h3 h4 => exact ⟨m0, by simp, h3.symm⟩
        obtain ⟨m0, hm0, hb0⟩ := this
        have : es'.all (·.born ≥ last) = false := by
          rw [Bool.eq_false_iff]
          intro hall
          have := (Array.all_eq_true_iff_forall_mem.1 hall) m0 (by simpa using hm0)
          simp at this; omega
        rw [this]; simp
    have hget1 := rGetObj (P := P) g1 (by intro _ _ _ e; cases e)
    have hget2 := rGetObj (P := P) q1 (by intro _ _ _ e; cases e)
    generalize hL : es'.filter (fun e => !seen'.contains e.born) = L
    have hLl : EntsRel φ (leftOf seen es) L.toList := by rw [← hL, Array.toList_filter]; exact hleft
    have h4 : nextMap m since r seen h cl (leftOf seen es) = some outs' := h4
    cases hlo : leftOf seen es with
    | nil =>
      rw [hlo] at h4 hLl
      have h4 : some [(AVal.tuple [.bool false], h)] = some outs' := h4
      injection h4 with h4
      have hLn : L = #[] := by
        apply Array.toList_inj.1
        cases hLl' : L.toList with
        | nil => rfl
        | cons _ _ => rw [hLl'] at hLl; cases hLl
      refine ⟨_, w, .tuple #[.bool false], φ, _, ex ?_, .inl rfl, by rw [← h4]; exact List.mem_singleton.2 rfl, H, .refl _ _ _, .tuple _ _ (.cons _ _ _ _ (.bool _) .nil), .refl _⟩
      rw [hp]
      simp only [Instr.next, Sem.run_bind, hget1, Option.map_some, hget2, Result.andThen_ok, stale, Bool.false_eq_true, if_false, hL, hLn]
      have f1 : (#[] : Array MapEntry).filter (fun e => decide (e.born < since)) = #[] := by simp
      have f2 : (#[] : Array MapEntry).filter (fun e => decide (e.born ≥ since)) = #[] := by simp
      have f3 : ((if (#[] : Array MapEntry).isEmpty = true then #[none] else #[]) ++ ((#[] : Array MapEntry) ++ #[]).map some : Array (Option MapEntry)) = #[none] := by simp
      rw [f1, f2, f3]
      rfl
    | cons y ys =>
      rw [hlo] at h4 hLl
      obtain ⟨h5, h6⟩ := when_some (show when (Nat.ble since cl) (outs m since cl r seen h (y :: ys)) = some outs' from h4)
      rw [ble_dec] at h5
      have h5 := of_decide_eq_true h5
      have hall : ∀ m0 ∈ L.toList, m0.born < since := by
        intro m0 hm0
        obtain ⟨i, hi⟩ := List.mem_iff_getElem?.1 hm0
        obtain ⟨e0, k1, _, _, k4⟩ := hLl.born i m0 hi
        rw [← k4]; exact (outs_ok h6 e0 (List.mem_of_getElem? k1)).1
      have hold : L.filter (fun e => decide (e.born < since)) = L := by
        apply Array.toList_inj.1; rw [Array.toList_filter, List.filter_eq_self]; intro m0 hm0; simpa using hall m0 hm0
      have hnew : L.filter (fun e => decide (e.born ≥ since)) = #[] := by
        apply Array.toList_inj.1; rw [Array.toList_filter]
        simp only [List.filter_eq_nil_iff]; intro m0 hm0; have := hall m0 hm0; simp; omega
      have hLsz : 0 < L.size := by
        have := hLl.length; simp at this; omega
      have hLe : L.isEmpty = false := by
        rw [Bool.eq_false_iff]; intro c; have := Array.isEmpty_iff_size_eq_zero.1 c; omega
      obtain ⟨i, w1, k1, k2, k3, k4⟩ := rChoose (P := P) hLsz w
      have hi : L[i]? = some L[i] := Array.getElem?_eq_getElem k2
      obtain ⟨e0, p1, p2, p3, p4⟩ := hLl.born i L[i] (by simp)
      obtain ⟨_, p5⟩ := outs_ok h6 e0 (List.mem_of_getElem? p1)
      have g1' : w1.heap[φ.blk r]? = some (.mapIter (some (φ.blk m)) since seen' last) := by rw [k3, g1]; rfl
      have hs := rSetObj (P := P) (o2 := .mapIter (some (φ.blk m)) since (seen'.push (L[i]).born) cl) g1' (by intro _ _ _ e; cases e)
      have hU := H.upd hd hg (setObj_upd (o2 := .mapIter (some (φ.blk m)) since (seen'.push (L[i]).born) cl) g1) (ob' := .mapIter (some m) since (e0.2.2 :: seen) cl)
        ⟨g0, seen'.push (L[i]).born, rfl, by rw [Array.toList_push, List.reverse_append, g4, p4]; rfl, g5, h5, fun b hb => by
          rcases List.mem_cons.1 hb with rfl | hb
          · exact (outs_ok h6 e0 (List.mem_of_getElem? p1)).1
          · exact g7 b hb⟩
      refine ⟨_, { w1 with heap := w1.heap.setIfInBounds (φ.blk r) (.mapIter (some (φ.blk m)) since (seen'.push (L[i]).born) cl) }, .tuple #[.bool true, (L[i]).key, (L[i]).val], φ, _, ex ?_, .inl rfl, p5, by simpa only [k3] using hU.1, by simpa only [k3] using hU.2,
        .tuple _ _ (.cons _ _ _ _ (.bool _) (.cons _ _ _ _ p2 (.cons _ _ _ _ p3 .nil))), ⟨k4.os, k4.out, k4.tape⟩⟩
      rw [hp]
      have hcand : ((if L.isEmpty then #[none] else #[]) ++ (L ++ #[]).map some : Array (Option MapEntry)) = L.map some := by rw [hLe]; simp
      have hmi : (L.map some)[i]? = some (some L[i]) := by rw [Array.getElem?_map, hi]; rfl
      simp only [Instr.next, Sem.run_bind, hget1, Option.map_some, hget2, Result.andThen_ok, stale, Bool.false_eq_true, if_false, hL, hold, hnew, hcand, Array.size_map, k1, hmi, hs]
      rfl
  · cases h2
end
end Go.Proofs.YtpjkcfglojigmaaGreatDoor.Ev
namespace Go.Proofs.YtpjkcfglojigmaaGreatDoor.Ev
set_option linter.unusedVariables false
set_option linter.unusedSimpArgs false
open Go
section
variable {P : Program} {tt : TT} {sl : SL} {o : Oper}

theorem ba_get! (s : ByteArray) (i : Nat) (h : i < s.data.toList.length) : s.get! i = s.data.toList[i] := by
  obtain ⟨⟨l⟩⟩ := s
  simp at h
  simp [ByteArray.get!, h]
theorem eNextS {x : Operand} (ho : o.op = .next x true) : EOK P sl o (fun vs ρ h => nextSV h ((vk sl x).get vs ρ)) := by
  intro φ h vs ρ a w outs' hl H hf
  have hx := hl.at ho (x := x) (by simp [Op.operands])
  have hf : nextSV _ _ = _ := hf
  generalize (vk sl x).get vs ρ = xv at hx hf
  have ex : ∀ {w' : World} {z : Value}, (Instr.next (a.eval x) true o.type).run P w = .ok z w' → (execOp a.eval o).run P w = .ok (.value z) w' := by
    intro w' z hz
    simp only [execOp, ho, Sem.run_bind, hz]; rfl
  generalize hxe : a.eval x = xe at hx ex
  cases hx <;> try (cases hf; done)
  rename_i r off hd
  obtain ⟨h1, h2⟩ := when_some hf
  rw [beq_dec] at h1
  have h1 := of_decide_eq_true h1
  subst h1
  unfold nextSO at h2
  split at h2
  · rename_i s pos hg
    obtain ⟨o', g1, g0, ba, g3, g4⟩ := H.obj r _ hd hg
    subst g3; subst g4
    have hp : baseOf φ r 0 = ⟨φ.blk r, 0, none⟩ := by simp [baseOf, g0]
    have hget1 := rGetObj (P := P) g1 (by intro _ _ _ e; cases e)
    unfold nextStr at h2
    rw [blt_dec, enc_len] at h2
    by_cases hlt : pos < ba.data.toList.length
    · rw [decide_eq_true hlt] at h2
      have h2 : (seqN (sGet (enc ba.data.toList) pos) fun b => when (Nat.blt b 128) (seqN (Nat.succ pos) fun p => ret1 (.tuple [.bool true, .int .i64 (.ofNat pos), .int .i32 (.ofNat b)]) (h.upd r (.strIter (enc ba.data.toList) p)))) = some outs' := h2
      rw [seqN_eq, sGet_enc _ _ hlt] at h2
      obtain ⟨h3, h4⟩ := when_some h2
      rw [seqN_eq] at h4
      rw [blt_dec] at h3
      have h3 := of_decide_eq_true h3
      injection h4 with h4
      have hdec : Utf8.decode ba pos = ((ba.data.toList[pos]).toNat, 1) := by
        unfold Utf8.decode
        simp only [Nat.add_zero, ba_get! ba pos hlt]
        rw [if_pos h3]
      have hs := rSetObj (P := P) (o2 := .stringIter ba (pos + 1)) g1 (by intro _ _ _ e; cases e)
      have hU := H.upd hd hg (setObj_upd (o2 := .stringIter ba (pos + 1)) g1) (ob' := .strIter (enc ba.data.toList) (pos + 1)) ⟨g0, ba, rfl, rfl⟩
      refine ⟨_, { w with heap := w.heap.setIfInBounds (φ.blk r) (.stringIter ba (pos + 1)) }, .tuple #[.bool true, goInt pos, .int .i32 (ba.data.toList[pos]).toNat], φ, _, ex ?_, .inl rfl, by rw [← h4]; exact List.mem_singleton.2 rfl, hU.1, hU.2,
        .tuple _ _ (.cons _ _ _ _ (.bool _) (.cons _ _ _ _ (.int _ _) (.cons _ _ _ _ (.int _ _) .nil))), ⟨rfl, rfl, rfl⟩⟩
      rw [hp]
      have hsz : pos < ba.size := by rw [ba_size]; exact hlt
      simp only [Instr.next, Sem.run_bind, hget1, Result.andThen_ok, hsz, if_true, hdec, hs]
      rfl
    · rw [decide_eq_false hlt] at h2
      have h2 : some [(AVal.tuple [.bool false], h)] = some outs' := h2
      injection h2 with h2
      refine ⟨_, w, .tuple #[.bool false], φ, _, ex ?_, .inl rfl, by rw [← h2]; exact List.mem_singleton.2 rfl, H, .refl _ _ _, .tuple _ _ (.cons _ _ _ _ (.bool _) .nil), .refl _⟩
      rw [hp]
      have hsz : ¬ pos < ba.size := by rw [ba_size]; exact hlt
      simp only [Instr.next, Sem.run_bind, hget1, Result.andThen_ok, hsz, if_false]
      rfl
  · cases h2
theorem exec_clear {c : Call} {x : Operand} (ho : o.op = .call c) (hc : c.callee = .builtin .clear) (ha : c.args.toList = [x]) {a : Act} {w w' : World} {z : Value}
    (h : (Builtin.clear_ c.argTypes o.type #[a.eval x]).run P w = .ok z w') : (execOp a.eval o).run P w = .ok (.value z) w' := by
  rw [exec_builtin ho hc, args_of ha]
  have : ∀ (k : Value → Sem Next), ((Builtin.clear_ c.argTypes o.type #[a.eval x]) >>= k).run P w = (k z).run P w' := by intro k; rw [Sem.run_bind, h]; rfl
  exact this _
end
end Go.Proofs.YtpjkcfglojigmaaGreatDoor.Ev
namespace Go.Proofs.YtpjkcfglojigmaaGreatDoor.Ev
set_option linter.unusedVariables false
set_option linter.unusedSimpArgs false
open Go
section
variable {P : Program} {tt : TT} {sl : SL} {o : Oper}

theorem eClearMap {c : Call} {x : Operand} (ho : o.op = .call c) (hc : c.callee = .builtin .clear) (ha : c.args.toList = [x]) {t : TypeId} {ts : List TypeId} (ht : c.argTypes.toList = t :: ts) {i : TI} (k : TIok P t i) {ka e : TypeId} (hd : i.desc = .map ka e) :
    EOK P sl o (fun vs ρ h => clearMap h ((vk sl x).get vs ρ)) := by
  intro φ h vs ρ a w outs hl H hf
  have hx := hl.at ho (x := x) (arg_mem hc (by rw [ha]; simp))
  have hf : clearMap _ _ = _ := hf
  have hdd := k.hdesc
  rw [hd] at hdd
  have hdd : k.desc = .map ka e := hdd
  have ex := fun {w'} {z} => exec_clear (P := P) (w := w) (w' := w') (z := z) ho hc ha (a := a)
  generalize (vk sl x).get vs ρ = xv at hx hf
  generalize hxe : a.eval x = xe at hx ex
  have e0 : ((#[xe] : Array Value)[0]?) = some xe := rfl
  cases hx <;> try (cases hf; done)
  case nilMap =>
    have hf : some [(undefA, h)] = some outs := hf
    injection hf with hf
    refine ⟨_, w, .tuple #[], φ, _, ex (z := .tuple #[]) ?_, .inl rfl, by rw [← hf]; exact List.mem_singleton.2 rfl, H, .refl _ _ _, .junk _, .refl _⟩
    simp only [Builtin.clear_, argTy ht, e0, Sem.run_bind, k.rUnd, hdd, Result.andThen_ok]
    rfl
  case map r hdm =>
    obtain ⟨⟨es, cl⟩, h1, h2⟩ := ob_some (show Ev.ob (mapOf h r) (fun m => ret1 undefA (h.upd r (.map [] m.2))) = some outs from hf)
    have h2 : some [(undefA, h.upd r (.map [] cl))] = some outs := h2
    injection h2 with h2
    obtain ⟨hg, es', h3, _⟩ := mapOf_ok H.toHRelR hdm h1
    have hU := H.upd hdm hg (setObj_upd (o2 := .map #[] cl) h3) (ob' := .map [] cl) ⟨#[], rfl, .nil⟩
    have hs := rSetObj (P := P) (o2 := .map #[] cl) h3 (by intro _ _ _ e; cases e)
    have hget := rGetObj (P := P) h3 (by intro _ _ _ e; cases e)
    refine ⟨_, { w with heap := w.heap.setIfInBounds (φ.blk r) (.map #[] cl) }, .tuple #[], φ, _, ex (z := .tuple #[]) ?_, .inl rfl, by rw [← h2]; exact List.mem_singleton.2 rfl, hU.1, hU.2, .junk _, ⟨rfl, rfl, rfl⟩⟩
    simp only [Builtin.clear_, argTy ht, e0, Sem.run_bind, k.rUnd, hdd, Result.andThen_ok, hget, hs]
    rfl
theorem eClearSl {c : Call} {x : Operand} (ho : o.op = .call c) (hc : c.callee = .builtin .clear) (ha : c.args.toList = [x]) {t : TypeId} {ts : List TypeId} (ht : c.argTypes.toList = t :: ts) {i : TI} (k : TIok P t i) {e : TypeId} (hd : i.desc = .slice e) {ei : TI} (ke : TIok P e ei) (hpos : ei.size ≠ 0) :
    EOK P sl o (fun vs ρ h => clearSl ei.zc h ((vk sl x).get vs ρ)) := by
  intro φ h vs ρ a w outs hl H hf
  have hx := hl.at ho (x := x) (arg_mem hc (by rw [ha]; simp))
  have hf : clearSl _ _ _ = _ := hf
  have hdd := k.hdesc
  rw [hd] at hdd
  have hdd : k.desc = .slice e := hdd
  have ex := fun {w'} {z} => exec_clear (P := P) (w := w) (w' := w') (z := z) ho hc ha (a := a)
  generalize (vk sl x).get vs ρ = xv at hx hf
  generalize hxe : a.eval x = xe at hx ex
  cases hx <;> try (cases hf; done)
  case nilSlice =>
    have hf : some [(undefA, h)] = some outs := hf
    injection hf with hf
    have e0 : ((#[Value.slice none 0 0] : Array Value)[0]?) = some (.slice none 0 0) := rfl
    refine ⟨_, w, .tuple #[], φ, _, ex (z := .tuple #[]) ?_, .inl rfl, by rw [← hf]; exact List.mem_singleton.2 rfl, H, .refl _ _ _, .junk _, .refl _⟩
    simp only [Builtin.clear_, argTy ht, e0, Sem.run_bind, k.rUnd, hdd, Result.andThen_ok]
    rfl
  case slice id off len lim ad cap hdom hlc had hcc h0 hk =>
    obtain ⟨h', h1, h2⟩ := okH_some (show okH undefA (storeAt id off (repl ei.zc len []) h) = some outs from hf)
    have hz := ke.rZero (w := w)
    have hzs := zero_size ke
    have hrep : (Builtin.zeroCells ke.zero.cells len).toList = repl ke.zero.cells.toList len [] := repl_range _ (by omega) len
    obtain ⟨w', g1, g2, g3, g4⟩ := store_ok (l' := (Builtin.zeroCells ke.zero.cells len).toList) H hdom (by rw [hrep]; exact repl_rel (ke.hzc φ) len .nil) (by rw [hrep]; exact repl_mem ke.hz1 len (by simp)) h1
    have e0 : ((#[Value.slice (some ad) len cap] : Array Value)[0]?) = some (.slice (some ad) len cap) := rfl
    refine ⟨_, w', .tuple #[], φ, _, ex (z := .tuple #[]) ?_, .inl rfl, by rw [h2]; exact List.mem_singleton.2 rfl, g2, g3, .junk _, g4⟩
    cases len with
    | zero =>
      have hc0 : (Builtin.zeroCells ke.zero.cells 0).toList = [] := by rw [hrep]; rfl
      rw [hc0] at g1
      have hw : w' = w := by
        have : (storeCells (baseOf φ id off) []).run P w = .ok () w := rfl
        rw [this] at g1; injection g1 with _ g1; exact g1.symm
      subst hw
      simp only [Builtin.clear_, argTy ht, e0, Sem.run_bind, k.rUnd, hdd, Result.andThen_ok]
      rfl
    | succ n =>
      have had := had (by omega)
      subst had
      simp only [Builtin.clear_, argTy ht, e0, Sem.run_bind, k.rUnd, hdd, Result.andThen_ok, hz, g1]
      rfl
end
end Go.Proofs.YtpjkcfglojigmaaGreatDoor.Ev
namespace Go.Proofs.YtpjkcfglojigmaaGreatDoor.Ev
set_option linter.unusedVariables false
set_option linter.unusedSimpArgs false
open Go
section
variable {P : Program} {tt : TT} {sl : SL} {o : Oper}

theorem exec_cap {c : Call} {x : Operand} (ho : o.op = .call c) (hc : c.callee = .builtin .cap) (ha : c.args.toList = [x]) {a : Act} {w w' : World} {z : Value}
    (h : (Builtin.cap_ c.argTypes o.type #[a.eval x]).run P w = .ok z w') : (execOp a.eval o).run P w = .ok (.value z) w' := by
  rw [exec_builtin ho hc, args_of ha]
  have : ∀ (k : Value → Sem Next), ((Builtin.cap_ c.argTypes o.type #[a.eval x]) >>= k).run P w = (k z).run P w' := by intro k; rw [Sem.run_bind, h]; rfl
  exact this _
theorem eCap {c : Call} {x : Operand} (ho : o.op = .call c) (hc : c.callee = .builtin .cap) (ha : c.args.toList = [x]) {t : TypeId} {ts : List TypeId} (ht : c.argTypes.toList = t :: ts) {i : TI} (k : TIok P t i) {e : TypeId} (hd : i.desc = .slice e) {ei : TI} (ke : TIok P e ei) (hpos : ei.size ≠ 0) :
    EOK P sl o (fun vs ρ h => capV ei.size e h ((vk sl x).get vs ρ)) := by
  intro φ h vs ρ a w outs hl H hf
  have hx := hl.at ho (x := x) (arg_mem hc (by rw [ha]; simp))
  have hf : capV _ _ _ _ = _ := hf
  have hdd := k.hdesc
  rw [hd] at hdd
  have hdd : k.desc = .slice e := hdd
  have ex := fun {w'} {z} => exec_cap (P := P) (w := w) (w' := w') (z := z) ho hc ha (a := a)
  generalize (vk sl x).get vs ρ = xv at hx hf
  generalize hxe : a.eval x = xe at hx ex
  have red : ∀ (b : Option Addr) (n m : Nat), (Builtin.cap_ c.argTypes o.type #[Value.slice b n m]).run P w = .ok (goInt m) w := by
    intro b n m
    have e0 : ((#[Value.slice b n m] : Array Value)[0]?) = some (.slice b n m) := rfl
    simp only [Builtin.cap_, argTy ht, e0, Sem.run_bind, k.rUnd, hdd, Result.andThen_ok]
    rfl
  cases hx <;> try (cases hf; done)
  case nilSlice =>
    have hf : some [(AVal.int .i64 (.ofNat 0), h)] = some outs := hf
    injection hf with hf
    exact ⟨_, w, goInt (0 : Nat), φ, _, ex (red none 0 0), .inl rfl, by rw [← hf]; exact List.mem_singleton.2 rfl, H, .refl _ _ _, .int _ _, .refl _⟩
  case slice id off len lim ad cap hdom hlc had hcc h0 hk =>
    obtain ⟨lo, h1, h2⟩ := ob_some (show Ev.ob (capLo off ei.size e lim (h.objs.get id)) (fun lo => match capHi off ei.size lim (h.objs.get id) with
      | some hi => match Nat.beq lo hi with
        | true => seqN lo fun n => ret1 (.int .i64 (.ofNat n)) h
        | false => capSplit ei.size id off lo h (h.objs.get id)
      | none => capSplit ei.size id off lo h (h.objs.get id)) = some outs from hf)
    obtain ⟨hcc2, hsz, r, lo', hi', cc, fz, hg, hb, R⟩ := capLo_ok H.toHRelR hdom ke h0 hk (by omega) h1
    have hlo : capLo off ei.size e lim (h.objs.get id) = some lo := h1
    have split : capHi off ei.size lim (h.objs.get id) ≠ some lo → capSplit ei.size id off lo h (h.objs.get id) = some outs → ∃ (r : Next) (w' : World) (x : Value) (ψ : Ren) (vh : AVal × Heap), (execOp a.eval o).run P w = .ok r w' ∧ (r = .value x ∨ (r = .skip ∧ x = undef)) ∧ vh ∈ outs ∧ HRel P ψ vh.2 w'.heap ∧ Tr φ h w.heap ψ vh.2 w'.heap ∧ VRel ψ vh.1 x ∧ Still w w' := by
      intro hne hs
      have hlim : lim = none := by
        cases lim with
        | none => rfl
        | some q =>
          rw [hg] at hne hlo
          have e1 : capHi off ei.size (some q) (some (.cells r lo' hi' e)) = some q := rfl
          have e2 : (when (Nat.beq e e) (some q) : Option Nat) = some lo := hlo
          have e3 := (when_some e2).2
          exact absurd (e1.trans e3) hne
      have hcap := h0 hlim
      rw [hsz] at hcap
      rw [hg] at hs
      have hs : (seqN lo fun n => some [(AVal.int .i64 (.ofNat n), h.upd id (.cells r lo' (some (Nat.add off (Nat.mul n ei.size))) e)), (AVal.rng .i64 (some (.ofNat (Nat.succ n))) none, seqN (Nat.succ h.next) fun x => seqN (Nat.add off (Nat.mul (Nat.succ n) ei.size)) fun m => ⟨x, h.objs.put id (.cells r m hi' e)⟩)]) = some outs := hs
      rw [seqN_eq, seqN_eq, seqN_eq] at hs
      injection hs with hs
      have U : Upd w.heap w.heap (φ.blk id) (.cells cc e fz) := ⟨rfl, hb, fun _ _ => rfl⟩
      by_cases hc : cap = lo
      · subst hc
        have K := H.upd (ob' := .cells r lo' (some (Nat.add off (Nat.mul cap ei.size))) e) hdom hg U ⟨cc, fz, rfl, R.fz, R.fit, R.lo, fun u hu => by
          injection hu with hu
          have hu : off + cap * ei.size = u := hu
          omega, R.sz, R.al, R.cell⟩
        exact ⟨_, w, goInt cap, φ, _, ex (red _ _ _), .inl rfl, by rw [← hs]; exact List.mem_cons_self, K.1, K.2, .int _ _, .refl _⟩
      · have hc : lo + 1 ≤ cap := by omega
        have hm : off + (lo + 1) * ei.size ≤ φ.cap id := by
          have := Nat.mul_le_mul_right ei.size hc
          omega
        have K := H.upd (ob' := .cells r (Nat.add off (Nat.mul (Nat.succ lo) ei.size)) hi' e) hdom hg U ⟨cc, fz, rfl, R.fz, R.fit, hm, R.hi, R.sz, R.al, R.cell⟩
        exact ⟨_, w, goInt cap, φ, _, ex (red _ _ _), .inl rfl, by rw [← hs]; exact List.mem_cons_of_mem _ List.mem_cons_self, ⟨⟨K.1.obj, K.1.inj, K.1.bd, K.1.fix⟩, fun id hd => Nat.lt_succ_of_lt (K.1.n id hd), fun id o ho => Nat.lt_succ_of_lt (K.1.top id o ho)⟩, ⟨K.2.le, Nat.le_succ_of_le K.2.next, K.2.dom, K.2.size, K.2.keep, K.2.new, K.2.stay⟩, VRel.rng .i64 (some (.ofNat (Nat.succ lo))) none (cap : Int) (fun l hl => by
          injection hl with hl
          have hl : ((lo + 1 : Nat) : Int) = l := hl
          omega) (fun u hu => nomatch hu), .refl _⟩
    cases hch : capHi off ei.size lim (h.objs.get id) with
    | none => rw [hch] at h2; exact split (by rw [hch]; simp) h2
    | some u =>
      rw [hch] at h2
      have h2 : (match Nat.beq lo u with | true => seqN lo fun n => ret1 (.int .i64 (.ofNat n)) h | false => capSplit ei.size id off lo h (h.objs.get id)) = some outs := h2
      rw [beq_dec] at h2
      by_cases hlu : lo = u
      · rw [decide_eq_true hlu] at h2
        have h2 : (seqN lo fun n => ret1 (.int .i64 (.ofNat n)) h) = some outs := h2
        rw [seqN_eq] at h2
        injection h2 with h2
        rw [hg] at hch
        have := capHi_ok (h := h) (hp := w.heap) R hsz (by omega) hcc hk hch
        have hcap : cap = lo := by omega
        subst hcap
        exact ⟨_, w, goInt cap, φ, _, ex (red _ _ _), .inl rfl, by rw [← h2]; exact List.mem_singleton.2 rfl, H, .refl _ _ _, .int _ _, .refl _⟩
      · rw [decide_eq_false hlu] at h2
        exact split (by rw [hch]; simpa using fun e => hlu e.symm) h2
end
end Go.Proofs.YtpjkcfglojigmaaGreatDoor.Ev
