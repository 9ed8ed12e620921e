/- An evaluator over abstract values and the proof that what it reckons is what the model's calls do: part 8 of 9. -/
import Derived.Test.YtpjkcfglojigmaaGreatDoorEvG
import Derived.LoopNIn
namespace Go.Proofs.YtpjkcfglojigmaaGreatDoor.Ev
set_option linter.unusedVariables false
set_option linter.unusedSimpArgs false
open Go

/-! ## scopes -/
def noG (Q : Exit → Act → World → Prop) : Exit → Act → World → Prop
  | .goto _, _, _ => False
  | e, a, w => Q e a w
theorem wpIn_scope {F : Fence} {n : Nat} {P : Program} {c : Code} {Q : Exit → Act → World → Prop} {a : Act} {w : World} (h : c.wpIn F n P (noG Q) a w) : (Code.scope c).wpIn F n P Q a w := by
  intro b k cs hro hb hr
  have s1 : step P (lone (b.atR a (.code (.scope c) :: k)) cs w) = .next (lone (b.atR a (.code c :: .inScope c :: k)) cs w) := step_lone_go (by simp [stepG, stepG.exec, Frame.atR])
  have s2 : ∀ a w, step P (lone (b.atR a (.inScope c :: k)) cs w) = .next (lone (b.atR a k) cs w) := fun a w => step_lone_go (by simp [stepG, stepG.exec, Frame.atR])
  have h0 : (lone (b.atR a (.code (.scope c) :: k)) cs w).fenced P F := fenced_calm hb hr rfl
  obtain ⟨e, a₁, w₁, hq, harr⟩ := h b (.inScope c :: k) cs hro hb hr
  cases e with
  | normal => exact ⟨.normal, a₁, w₁, hq, .head h0 s1 (StepsIn.trans harr (.one (fenced_calm (fr := b.atR a₁ (.inScope c :: k)) hb hr rfl) (s2 _ _)))⟩
  | exit id =>
    have hx : exitTo id (.inScope c :: k) = exitTo id k := by simp [exitTo]
    exact ⟨.exit id, a₁, w₁, hq, fun k' hk => .head h0 s1 (harr.1 k' (by rw [hx]; exact hk)), fun hr' hk => let ⟨k₁, h1, h2⟩ := harr.2 hr' (by rw [hx]; exact hk); ⟨k₁, h1, .head h0 s1 h2⟩⟩
  | goto l => exact hq.elim
  | ret => exact ⟨.ret, a₁, w₁, hq, ArrivesIn.of_steps (b := b) (k := k) (e := .ret) (.one h0 s1) harr⟩
  | panic ch => exact ⟨.panic ch, a₁, w₁, hq, ArrivesIn.of_steps (b := b) (k := k) (e := .panic ch) (.one h0 s1) harr⟩
  | outgrown => exact ⟨.outgrown, a₁, w₁, hq, ArrivesIn.of_steps (b := b) (k := k) (e := .outgrown) (.one h0 s1) harr⟩

/-! ## statements -/
def exOf : AExit → Exit
  | .normal => .normal
  | .exit id => .exit id
  | .ret => .ret
/-- what is known of the calls of functions that have bodies -/
def BodyOK (P : Program) (call : Callee' → List AVal → Heap → M AVal) : Prop :=
  ∀ (f : FuncId) (φ : Ren) (h : Heap) (w : World) (args : List AVal) (args' : Array Value) (outs : List (AVal × Heap)), call (.body f) args h = some outs → VRelL φ args args'.toList → HRel P φ h w.heap →
    (callFunc f args').run P w = .ok (.enter f args') w ∧ CallsIn (W none) 0 P f args' w (endR (Good P φ h w outs))
section
variable {P : Program} {n₀ : Nat} {tt : TT}
theorem Tr.push (φ : Ren) (h : Heap) (hp : Array Obj) (o : Obj) : Tr φ h hp φ h (hp.push o) :=
  ⟨.refl _, Nat.le_refl _, fun _ h => .inl h, by simp, fun b hb _ => by rw [Array.getElem?_push_lt hb, Array.getElem?_eq_getElem hb], fun _ a => .inl a, fun _ _ _ _ h => h⟩
/-- a range over a function -/
theorem range_ok {fi : FI} {r : Rt} (hb : BodyOK P r.call) {g : Operand} {ps : Array Tmp} {assign body : Code} {e : Env} {h : Heap} {φ : Ren} {a : Act} {w : World} {outs : List ((AExit × Env) × Heap)}
    (hn : n₀ ≤ w.heap.size) (hrun : (cRange (loopObj (rndOf fi) ps.toList assign body) (vk ⟨fi.glob, [], fi.rnd⟩ g)).run r e h = some outs) (S : SRel P n₀ φ fi.glob fi.nt e h a w) {Q : Exit → Act → World → Prop}
    (hq : ∀ ψ x a' w', x ∈ outs → SRel P n₀ ψ fi.glob fi.nt x.1.2 x.2 a' w' → Tr φ h w.heap ψ x.2 w'.heap → Still w w' → Q (exOf x.1.1) a' w') : (Code.rangeFunc g ps assign body).wpIn (W none) 0 P Q a w := by
  have hrun : rangeC (loopObj (rndOf fi) ps.toList assign body) (vk ⟨fi.glob, [], fi.rnd⟩ g) r e h h.next = some outs := hrun
  obtain ⟨l1, h1, h2⟩ := bindM_some (show bindM (rangeV r h.next (h.alloc (loopObj (rndOf fi) ps.toList assign body e)) ((vk ⟨fi.glob, [], fi.rnd⟩ g).get [] e.tmps)) (fun _ h' => afterLoop h.next e h') = some outs from hrun)
  have hg := vk_rel (LRel.start (rnd := fi.rnd) S.tm) g (a := a)
  generalize (vk ⟨fi.glob, [], fi.rnd⟩ g).get [] e.tmps = gv at hg h1
  refine wpIn_rangeFunc fun fn _ => ?_
  -- the record and the block
  let lo : Loop := { state := .ready, pending := none, fn := fn, tmps := a.tmps, params := ps, assign := assign, body := body, defers := w.heap.size }
  let w₁ : World := { w with heap := (w.heap.push (.deferred (some []))).push (.loop lo) }
  have hent : (Instr.enterLoop fn a.tmps ps assign body none).run P w = .ok (w.heap.size + 1, [{ target := .collected w.heap.size, args := #[] }]) w₁ := by
    have e1 : (newObj (.deferred (some []))).run P w = .ok w.heap.size { w with heap := w.heap.push (.deferred (some [])) } := rfl
    have e2 : (newObj (.loop lo)).run P { w with heap := w.heap.push (.deferred (some [])) } = .ok (w.heap.size + 1) w₁ := by
      show Result.ok (w.heap.push (.deferred (some []))).size w₁ = _
      rw [Array.size_push]
    simp only [Instr.enterLoop, Sem.run_bind, e1, Result.andThen_ok, Sem.run_pure]
    show ((newObj (.loop lo)).run P _).andThen _ = _
    rw [e2]; rfl
  have Hp := S.hp.push (.deferred (some []))
  have A := Hp.alloc (cap := 0) (sz := 0) (ob := loopObj (rndOf fi) ps.toList assign body e) (o' := .loop lo)
    ⟨lo, rfl, rfl, rfl, rfl, rfl, rfl, S.nt, rfl, (S.tm.mono (φ.le_add h.next _ 0 0 0 S.hp.fresh))⟩
  have hsz : (w.heap.push (.deferred (some []))).size = w.heap.size + 1 := by simp
  rw [hsz] at A
  have T1 : Tr φ h w.heap (φ.add h.next (w.heap.size + 1) 0 0 0) (h.alloc (loopObj (rndOf fi) ps.toList assign body e)) w₁.heap := (Tr.push φ h w.heap _).trans A.2
  have hblk : (φ.add h.next (w.heap.size + 1) 0 0 0).blk h.next = w.heap.size + 1 := by simp [Ren.add]
  have mark : MarkOK n₀ (φ.add h.next (w.heap.size + 1) 0 0 0) (h.alloc (loopObj (rndOf fi) ps.toList assign body e)) w₁.heap w.heap.size := by
    refine ⟨hn, ?_, fun id hid => ?_⟩
    · show ((w.heap.push (.deferred (some []))).push (.loop lo))[w.heap.size]? = _
      rw [Array.getElem?_push_lt (by simp)]
      simp
    · rcases hid.1 with rfl | hd
      · rw [hblk]; omega
      · rw [(φ.le_add h.next (w.heap.size + 1) 0 0 0 S.hp.fresh).blk id hd]
        have := S.hp.bd id hd; omega
  have fresh : ∀ {eds : List (AVal × List AVal)} {ds : List Deferred}, DRel n₀ φ h w.heap eds ds → ∀ d ∈ ds, d.target ≠ .collected w.heap.size := by
    intro eds ds
    induction ds generalizing eds with
    | nil => intro _ d hd; cases hd
    | cons d ds ih =>
      intro hd d' hd' hc
      rcases hd with ⟨q, g1, g2, g3, g4⟩ | ⟨x, eds', g1, g2, ⟨fv, cap, g3⟩, g4⟩
      · rcases List.mem_cons.1 hd' with rfl | hd'
        · rw [g1] at hc; injection hc with hc
          have := (Array.getElem?_eq_some_iff.1 g2.2.1).1
          omega
        · exact ih g4 d' hd' hc
      · rcases List.mem_cons.1 hd' with rfl | hd'
        · rw [g3] at hc; cases hc
        · exact ih g4 d' hd' hc
  have hd1 : DRel n₀ (φ.add h.next (w.heap.size + 1) 0 0 0) (h.alloc (loopObj (rndOf fi) ps.toList assign body e)) w₁.heap e.defers ({ target := .collected w.heap.size, args := #[] } :: a.defers) :=
    .inl ⟨w.heap.size, rfl, mark, fresh S.df, S.df.tr T1⟩
  -- the call
  generalize hge : a.eval g = gx at hg
  cases hg <;> try (cases h1; done)
  rename_i gf gf' fs cs fs' cs' hfn hfs hcs
  cases gf <;> try (cases h1; done)
  rename_i f
  have hgf : gf' = .func f := hfn.symm
  subst hgf
  have le1 := φ.le_add h.next (w.heap.size + 1) 0 0 0 S.hp.fresh
  have hy : VRel (φ.add h.next (w.heap.size + 1) 0 0 0) (.func (.yield h.next) [] []) (.func (.yield (w.heap.size + 1)) #[] #[]) := .func _ _ _ _ _ _ ⟨.inl rfl, by rw [hblk]⟩ .nil .nil
  have hargs : VRelL (φ.add h.next (w.heap.size + 1) 0 0 0) (fs ++ (.func (.yield h.next) [] [] :: cs)) ((fs' ++ #[Value.func (.yield (w.heap.size + 1)) #[] #[]]) ++ cs').toList := by
    rw [Array.append_assoc]
    refine (hfs.mono le1).app ?_
    rw [Array.toList_append]
    exact .cons _ _ _ _ hy (hcs.mono le1)
  obtain ⟨c1, c2⟩ := hb f _ _ w₁ _ _ l1 h1 hargs A.1
  refine ⟨w.heap.size + 1, [{ target := .collected w.heap.size, args := #[] }], w₁, { target := .fn (.func f) cs', args := fs' ++ #[Value.func (.yield (w.heap.size + 1)) #[] #[]] }, w₁, f, _, w₁, hent, ?_, fun _ _ => trivial, c1, (by intro h; cases h), ?_⟩
  · show (Deferred.ofValue (a.eval g) _).run P w₁ = _
    have hmap : Array.map a.eval (rangeCall g (w.heap.size + 1)).args = #[Value.func (.yield (w.heap.size + 1)) #[] #[]] := by simp [rangeCall, Act.eval]
    rw [hge, hmap]; rfl
  · refine callsIn_W (CallsIn.mono c2 fun en w₃ hen => ?_)
    cases en with
    | panicked c => exact hen.elim
    | outgrown => exact hen.elim
    | returned v =>
      obtain ⟨ψ, vh, g1, g2, g3, g4, g5⟩ := hen
      obtain ⟨o2, g6, g7⟩ := h2 vh g1
      have hdom : ψ.dom h.next := g3.le.dom _ (.inl rfl)
      have hbk : ψ.blk h.next = w.heap.size + 1 := by rw [g3.le.blk _ (.inl rfl), hblk]
      have g6 : afterO h.next e vh.2 (vh.2.objs.get h.next) = some o2 := g6
      unfold afterO at g6
      split at g6
      case h_2 => cases g6
      rename_i lr hlr
      obtain ⟨o', q1, rm, q2, q3⟩ := g2.obj h.next _ hdom hlr
      subst q2
      rw [hbk] at q1
      have hget := rGetObj (P := P) q1 (by intro _ _ _ e; cases e)
      have hset := rSetObj (P := P) (o2 := .loop { rm with state := .exhausted }) q1 (by intro _ _ _ e; cases e)
      split at g6
      · cases g6
      · rename_i hns
        have hbusy : (rm.state == LoopState.busy) = false := by
          rw [q3.state]
          cases hs : lr.state <;> first | rfl | exact absurd hs (by simpa using hns)
        have hend : (Instr.endLoop (w.heap.size + 1)).run P w₃ = .ok rm.pending { w₃ with heap := w₃.heap.setIfInBounds (w.heap.size + 1) (.loop { rm with state := .exhausted }) } := by
          simp only [Instr.endLoop, Instr.getLoop, Sem.run_bind, hget, Result.andThen_ok, Sem.run_pure, hbusy, Bool.false_eq_true, if_false, hset]
        have U : Upd w₃.heap (w₃.heap.setIfInBounds (w.heap.size + 1) (.loop { rm with state := .exhausted })) (ψ.blk h.next) (.loop { rm with state := .exhausted }) := by
          rw [hbk]; exact setObj_upd q1
        have K := g2.upd (ob' := .loop { lr with state := .exhausted }) hdom hlr U ⟨_, rfl, rfl, q3.pending, q3.params, q3.assign, q3.body, q3.nt, q3.rnd, q3.tm⟩
        have T2 := T1.trans (g3.trans K.2)
        have S2 : SRel P n₀ ψ fi.glob fi.nt e (vh.2.upd h.next (.loop { lr with state := .exhausted })) { a with defers := { target := .collected w.heap.size, args := #[] } :: a.defers } { w₃ with heap := w₃.heap.setIfInBounds (w.heap.size + 1) (.loop { rm with state := .exhausted }) } :=
          ⟨S.tm.mono T2.le, S.nt, hd1.tr (g3.trans K.2), K.1⟩
        have st2 : Still w { w₃ with heap := w₃.heap.setIfInBounds (w.heap.size + 1) (.loop { rm with state := .exhausted }) } := ⟨g5.os, g5.out, g5.tape⟩
        generalize hw4 : ({ w₃ with heap := w₃.heap.setIfInBounds (w.heap.size + 1) (.loop { rm with state := .exhausted }) } : World) = w4 at hend S2 st2
        have hh : w4.heap = w₃.heap.setIfInBounds (w.heap.size + 1) (.loop { rm with state := .exhausted }) := by rw [← hw4]
        rw [← hh] at T2
        refine ⟨rm.pending, w4, hend, ?_⟩
        rw [q3.pending]
        unfold pendC at g6
        split at g6
        · rename_i hp
          rw [hp]
          have g6 : some [((AExit.normal, e), _)] = some o2 := g6
          injection g6 with g6
          exact hq ψ _ _ _ (g7 _ (by rw [← g6]; exact List.mem_singleton.2 rfl)) S2 T2 st2
        · rename_i hp
          rw [hp]
          have g6 : some [((AExit.ret, e), _)] = some o2 := g6
          injection g6 with g6
          exact wpIn_ret (hq ψ ((AExit.ret, e), _) _ _ (g7 _ (by rw [← g6]; exact List.mem_singleton.2 rfl)) S2 T2 st2)
        · rename_i id hp
          rw [hp]
          have g6 : some [((AExit.exit id, e), _)] = some o2 := g6
          injection g6 with g6
          exact wpIn_exit (hq ψ ((AExit.exit id, e), _) _ _ (g7 _ (by rw [← g6]; exact List.mem_singleton.2 rfl)) S2 T2 st2)
        · cases g6
end
/-! ## fewer objects: what holds of a heap holds of one that knows less -/
structure Less (h' h : Heap) : Prop where
  next : h.next ≤ h'.next
  sub : ∀ id o, h'.objs.get id = some o → h.objs.get id = some o
theorem Less.refl (h : Heap) : Less h h := ⟨Nat.le_refl _, fun _ _ k => k⟩
theorem Less.trans {a b c : Heap} (k : Less a b) (l : Less b c) : Less a c := ⟨Nat.le_trans l.next k.next, fun id o h => l.sub id o (k.sub id o h)⟩
section
variable {P : Program}
theorem HRel.less {φ : Ren} {h h' : Heap} {hp : Array Obj} (H : HRel P φ h hp) (L : Less h' h) : HRel P φ h' hp :=
  ⟨⟨fun id o hd ho => H.obj id o hd (L.sub id o ho), fun i j oi oj di dj hi hj e => H.inj i j oi oj di dj (L.sub _ _ hi) (L.sub _ _ hj) e, fun id hd => H.bd id hd, fun c hc => ⟨(H.fix c hc).1, fun i oi di hi => (H.fix c hc).2 i oi di (L.sub _ _ hi)⟩⟩,
    fun id hd => Nat.lt_of_lt_of_le (H.n id hd) L.next, fun id o ho => Nat.lt_of_lt_of_le (H.top id o (L.sub id o ho)) L.next⟩
theorem Tr.less {φ ψ : Ren} {h h1 h2 : Heap} {hp hq : Array Obj} (t : Tr φ h hp ψ h1 hq) (L : Less h2 h1) : Tr φ h hp ψ h2 hq :=
  ⟨t.le, Nat.le_trans t.next L.next, t.dom, t.size, t.keep, fun id hid => t.new id ⟨hid.1, let ⟨o, ho⟩ := hid.2; ⟨o, L.sub id o ho⟩⟩, fun id o hlt hd ho => t.stay id o hlt hd (L.sub id o ho)⟩
/-- branches may be dropped, and objects forgotten -/
theorem Good.less {φ : Ren} {h : Heap} {w : World} {outs outs' : List (AVal × Heap)} {x : Value} {w' : World} (g : Good P φ h w outs x w') (k : ∀ r ∈ outs, ∃ r' ∈ outs', r'.1 = r.1 ∧ Less r'.2 r.2) : Good P φ h w outs' x w' := by
  obtain ⟨ψ, vh, g1, g2, g3, g4, g5⟩ := g
  obtain ⟨r', k1, k2, k3⟩ := k vh g1
  exact ⟨ψ, r', k1, g2.less k3, g3.less k3, k2 ▸ g4, g5⟩
/-- a step from fewer objects is one from more -/
theorem Tr.from {φ ψ : Ren} {h h1 h2 : Heap} {hp hq : Array Obj} (t : Tr φ h1 hp ψ h2 hq) (L : Less h1 h) : Tr φ h hp ψ h2 hq :=
  ⟨t.le, Nat.le_trans L.next t.next, fun id hd => (t.dom id hd).imp (fun k => k) fun k => Nat.le_trans L.next k, t.size,
    fun b hb hno => t.keep b hb fun id hid => hno id ⟨hid.1, let ⟨o, ho⟩ := hid.2; ⟨o, L.sub id o ho⟩⟩,
    fun id hid => (t.new id hid).imp (fun k => ⟨k.1, let ⟨o, ho⟩ := k.2; ⟨o, L.sub id o ho⟩⟩) fun k => k.imp (fun k => k) fun ⟨j, hj, e⟩ => ⟨j, ⟨hj.1, let ⟨o, ho⟩ := hj.2; ⟨o, L.sub j o ho⟩⟩, e⟩,
    fun id o hlt hd ho => L.sub id o (t.stay id o (Nat.lt_of_lt_of_le hlt L.next) hd ho)⟩
theorem Good.from {φ : Ren} {h h1 : Heap} {w : World} {outs : List (AVal × Heap)} {x : Value} {w' : World} (g : Good P φ h1 w outs x w') (L : Less h1 h) : Good P φ h w outs x w' := by
  obtain ⟨ψ, vh, g1, g2, g3, g4, g5⟩ := g
  exact ⟨ψ, vh, g1, g2, g3.from L, g4, g5⟩
end
/-! ### the same objects -/
theorem nilL_iff {α : Type} {l : List α} (h : isNilL l = true) : l = [] := by cases l <;> first | rfl | cases h
theorem eqEnts_eq {d : Nat} : ∀ (l m : List Ent), eqEnts d l m = true → l = m
  | [], m, h => (nilL_iff h).symm
  | e :: es, m, h => by
    cases m with
    | nil => cases h
    | cons f fs =>
      unfold eqEnts at h
      dsimp only at h
      split at h
      · cases h
      · rename_i h1
        split at h
        · cases h
        · rename_i h2
          split at h
          · cases h
          · rename_i h3
            have e1 := Nat.eq_of_beq_eq_true h1
            have e2 := beqV_eq _ _ _ h2
            have e3 := beqV_eq _ _ _ h3
            obtain ⟨a, b, c⟩ := e
            obtain ⟨a', b', c'⟩ := f
            dsimp only at e1 e2 e3
            rw [e1, e2, e3, eqEnts_eq es fs h]
theorem eqNats_eq : ∀ (l m : List Nat), eqNats l m = true → l = m
  | [], m, h => (nilL_iff h).symm
  | a :: l, m, h => by
    cases m with
    | nil => cases h
    | cons b m =>
      unfold eqNats at h
      dsimp only at h
      split at h
      · rename_i h1
        rw [Nat.eq_of_beq_eq_true h1, eqNats_eq l m h]
      · cases h
theorem eqOV_eq {d : Nat} {a b : Option AVal} (h : eqOV d a b = true) : a = b := by
  unfold eqOV at h
  split at h
  · rfl
  · rw [beqV_eq _ _ _ h]
  · cases h
theorem eqRow_eq {d : Nat} : ∀ (n : Nat) (x y : T AVal), eqRow d n x y = true → x = y
  | 0, _, _, h => by cases h
  | n + 1, x, y, h => by
    cases x with
    | nil => cases y with
      | nil => rfl
      | node => cases h
    | node v a0 a1 a2 a3 a4 a5 a6 a7 => cases y with
      | nil => cases h
      | node w b0 b1 b2 b3 b4 b5 b6 b7 =>
        unfold eqRow at h
        dsimp only at h
        split at h
        · cases h
        · rename_i g
          split at h
          · cases h
          · rename_i h0
            split at h
            · cases h
            · rename_i h1
              split at h
              · cases h
              · rename_i h2
                split at h
                · cases h
                · rename_i h3
                  split at h
                  · cases h
                  · rename_i h4
                    split at h
                    · cases h
                    · rename_i h5
                      split at h
                      · cases h
                      · rename_i h6
                        rw [eqOV_eq g, eqRow_eq n _ _ h0, eqRow_eq n _ _ h1, eqRow_eq n _ _ h2, eqRow_eq n _ _ h3, eqRow_eq n _ _ h4, eqRow_eq n _ _ h5, eqRow_eq n _ _ h6, eqRow_eq n _ _ h]
theorem beqO_eq {a b : AObj} (h : beqO a b = true) : a = b := by
  unfold beqO at h
  split at h
  · split at h
    · cases h
    · rename_i h1
      split at h
      · cases h
      · rename_i h2
        split at h
        · cases h
        · rename_i h3
          rw [Nat.eq_of_beq_eq_true h1, eqLim_eq h2, Nat.eq_of_beq_eq_true h3, eqRow_eq _ _ _ h]
  · split at h
    · cases h
    · rename_i h1
      rw [Nat.eq_of_beq_eq_true h1, eqEnts_eq _ _ h]
  · split at h
    · cases h
    · rename_i h1
      split at h
      · cases h
      · rename_i h2
        split at h
        · cases h
        · rename_i h3
          rw [eqLim_eq h1, Nat.eq_of_beq_eq_true h2, Nat.eq_of_beq_eq_true h3, eqNats_eq _ _ h]
  · split at h
    · cases h
    · rename_i h1
      rw [Nat.eq_of_beq_eq_true h1, Nat.eq_of_beq_eq_true h]
  · cases h
/-! ### the intersection of tries -/
theorem get_nil {α : Type} : ∀ (d m : Nat), (gk d m).get (T.nil : T α) = none := by
  intro d
  induction d with
  | zero => intro m; rfl
  | succ d ih =>
    intro m
    cases m with
    | zero => rfl
    | succ m =>
      simp only [gk, gkSel_get]
      have : (T.nil : T α).ch (Nat.mod m 8) = .nil := by unfold T.ch; split <;> rfl
      rw [this]; exact ih _
theorem seqT_eq {α β : Type} (t : T α) (f : T α → β) : seqT t f = f t := by cases t <;> rfl
theorem seqO_eq {α β : Type} (t : Option α) (f : Option α → β) : seqO t f = f t := by cases t <;> rfl
theorem interV_some {α : Type} {p : α → α → Bool} {x y : Option α} {o : α} (hp : ∀ a b, p a b = true → a = b) (h : interV p x y = some o) : x = some o ∧ y = some o := by
  unfold interV at h
  split at h
  · cases h
  · split at h
    · cases h
    · split at h
      · rename_i hq
        injection h with h
        subst h
        exact ⟨rfl, by rw [hp _ _ hq]⟩
      · cases h
theorem gk_inter {α : Type} {p : α → α → Bool} (hp : ∀ a b, p a b = true → a = b) : ∀ (d n : Nat) (x y : T α) (k : Nat) (o : α), (gk d k).get (interN p n x y) = some o → (gk d k).get x = some o ∧ (gk d k).get y = some o
  | 0, n, x, y, k, o, h => by cases h
  | d + 1, 0, x, y, k, o, h => by
    have := get_nil (α := α) (d + 1) k
    rw [show interN p 0 x y = .nil from rfl, this] at h; cases h
  | d + 1, n + 1, x, y, k, o, h => by
    cases x with
    | nil =>
      rw [show interN p (n + 1) .nil y = .nil from rfl, get_nil] at h; cases h
    | node v a0 a1 a2 a3 a4 a5 a6 a7 => cases y with
      | nil => rw [show interN p (n + 1) (.node v a0 a1 a2 a3 a4 a5 a6 a7) .nil = .nil from rfl, get_nil] at h; cases h
      | node w b0 b1 b2 b3 b4 b5 b6 b7 =>
        have e : interN p (n + 1) (.node v a0 a1 a2 a3 a4 a5 a6 a7) (.node w b0 b1 b2 b3 b4 b5 b6 b7) = .node (interV p v w) (interN p n a0 b0) (interN p n a1 b1) (interN p n a2 b2) (interN p n a3 b3) (interN p n a4 b4) (interN p n a5 b5) (interN p n a6 b6) (interN p n a7 b7) := by
          conv => lhs; unfold interN
          simp only [seqO_eq, seqT_eq]
        rw [e] at h
        cases k with
        | zero => exact interV_some hp h
        | succ k =>
          have h : (gkSel (gk d (Nat.div k 8)) (Nat.mod k 8)).get _ = some o := h
          show (gkSel (gk d (Nat.div k 8)) (Nat.mod k 8)).get _ = some o ∧ (gkSel (gk d (Nat.div k 8)) (Nat.mod k 8)).get _ = some o
          generalize Nat.mod k 8 = j at h ⊢
          generalize Nat.div k 8 = m at h ⊢
          match j, h with
          | 0, h => exact gk_inter hp d n a0 b0 m o h
          | 1, h => exact gk_inter hp d n a1 b1 m o h
          | 2, h => exact gk_inter hp d n a2 b2 m o h
          | 3, h => exact gk_inter hp d n a3 b3 m o h
          | 4, h => exact gk_inter hp d n a4 b4 m o h
          | 5, h => exact gk_inter hp d n a5 b5 m o h
          | 6, h => exact gk_inter hp d n a6 b6 m o h
          | _ + 7, h => exact gk_inter hp d n a7 b7 m o h
theorem interH_less (a b : Heap) : Less (interH a b) a ∧ Less (interH a b) b := by
  have e : interH a b = ⟨maxN a.next b.next, interN beqO dep a.objs b.objs⟩ := by
    unfold interH; rw [seqN_eq, seqT_eq]
  rw [e]
  have h1 : a.next ≤ maxN a.next b.next ∧ b.next ≤ maxN a.next b.next := by
    unfold maxN
    split
    · rename_i h; exact ⟨Nat.le_of_ble_eq_true h, Nat.le_refl _⟩
    · rename_i h
      refine ⟨Nat.le_refl _, ?_⟩
      have : ¬ (a.next ≤ b.next) := fun k => by rw [Nat.ble_eq_true_of_le k] at h; cases h
      omega
  exact ⟨⟨h1.1, fun id o h => (gk_inter (fun _ _ => beqO_eq) _ _ _ _ _ _ h).1⟩, ⟨h1.2, fun id o h => (gk_inter (fun _ _ => beqO_eq) _ _ _ _ _ _ h).2⟩⟩
/-! ### merging -/
theorem many_ok {α : Type} {R : α → α → Prop} (hR : ∀ a, R a a) {f : List α → List α} (hf : ∀ l, ∀ r ∈ l, ∃ r' ∈ f l, R r' r) (l : List α) : ∀ r ∈ l, ∃ r' ∈ many f l, R r' r := by
  intro r hr
  cases l with
  | nil => cases hr
  | cons x l => cases l with
    | nil => exact ⟨r, hr, hR r⟩
    | cons y l => exact hf _ r hr
def MLe (a b : AVal × Heap) : Prop := a.1 = b.1 ∧ Less a.2 b.2
theorem insM_ok (x : AVal × Heap) : ∀ (l : List (AVal × Heap)), (∃ r' ∈ insM x l, MLe r' x) ∧ ∀ r ∈ l, ∃ r' ∈ insM x l, MLe r' r
  | [] => ⟨⟨x, List.mem_singleton.2 rfl, rfl, .refl _⟩, fun r hr => by cases hr⟩
  | y :: l => by
    unfold insM
    split
    · rename_i h
      have e := beqV_eq _ _ _ h
      have L := interH_less y.2 x.2
      refine ⟨⟨_, List.mem_cons_self, e.symm, L.2⟩, fun r hr => ?_⟩
      rcases List.mem_cons.1 hr with rfl | hr
      · exact ⟨_, List.mem_cons_self, rfl, L.1⟩
      · exact ⟨r, List.mem_cons_of_mem _ hr, rfl, .refl _⟩
    · obtain ⟨⟨r', h1, h2⟩, h3⟩ := insM_ok x l
      refine ⟨⟨r', List.mem_cons_of_mem _ h1, h2⟩, fun r hr => ?_⟩
      rcases List.mem_cons.1 hr with rfl | hr
      · exact ⟨r, List.mem_cons_self, rfl, .refl _⟩
      · obtain ⟨q, h4, h5⟩ := h3 r hr
        exact ⟨q, List.mem_cons_of_mem _ h4, h5⟩
theorem MLe.trans {a b c : AVal × Heap} (h : MLe a b) (k : MLe b c) : MLe a c := ⟨h.1.trans k.1, h.2.trans k.2⟩
theorem mergeL_ok : ∀ (l : List (AVal × Heap)), ∀ r ∈ l, ∃ r' ∈ mergeL l, MLe r' r
  | [], r, hr => by cases hr
  | x :: l, r, hr => by
    obtain ⟨h1, h2⟩ := insM_ok x (mergeL l)
    rcases List.mem_cons.1 hr with rfl | hr
    · exact h1
    · obtain ⟨q, h3, h4⟩ := mergeL_ok l r hr
      obtain ⟨s, h5, h6⟩ := h2 q h3
      exact ⟨s, h5, h6.trans h4⟩
theorem mergeIf_some {b : Bool} {m : M AVal} {outs : List (AVal × Heap)} (h : mergeIf b m = some outs) : ∃ l, m = some l ∧ ∀ r ∈ l, ∃ r' ∈ outs, r'.1 = r.1 ∧ Less r'.2 r.2 := by
  cases b with
  | false => exact ⟨outs, h, fun r hr => ⟨r, hr, rfl, .refl _⟩⟩
  | true =>
    cases m with
    | none => cases h
    | some l =>
      have h : some (many mergeL l) = some outs := h
      injection h with h
      subst h
      exact ⟨l, rfl, many_ok (R := MLe) (fun a => ⟨rfl, .refl _⟩) mergeL_ok l⟩
/-! numbers that are left out -/
theorem padL_ok (n : Nat) : ∀ (l : List (AVal × Heap)), ∀ r ∈ l, ∃ r' ∈ padL n l, MLe r' r
  | [], r, hr => by cases hr
  | x :: l, r, hr => by
    rcases List.mem_cons.1 hr with rfl | hr
    · refine ⟨_, List.mem_cons_self, rfl, ?_⟩
      rw [seqN_eq]
      refine ⟨?_, fun id o h => h⟩
      show r.2.next ≤ maxN n r.2.next
      unfold maxN
      split
      · exact Nat.le_refl _
      · rename_i h
        have : ¬ (n ≤ r.2.next) := fun k => by rw [Nat.ble_eq_true_of_le k] at h; cases h
        omega
    · obtain ⟨r', h1, h2⟩ := padL_ok n l r hr
      exact ⟨r', List.mem_cons_of_mem _ h1, h2⟩
theorem padM_some {k : Option Nat} {n : Nat} {m : M AVal} {outs : List (AVal × Heap)} (h : padM k n m = some outs) : ∃ l, m = some l ∧ ∀ r ∈ l, ∃ r' ∈ outs, MLe r' r := by
  cases k with
  | none => exact ⟨outs, h, fun r hr => ⟨r, hr, rfl, .refl _⟩⟩
  | some k =>
    cases m with
    | none => cases h
    | some l =>
      have h : some (padL (Nat.add n k) l) = some outs := h
      injection h with h
      subst h
      exact ⟨l, rfl, padL_ok _ l⟩
/-! behind a statement -/
structure ELe (x y : (AExit × Env) × Heap) : Prop where
  ex : x.1.1 = y.1.1
  tm : ∀ t v, x.1.2.tmps.get t = some v → y.1.2.tmps.get t = some v
  df : x.1.2.defers = y.1.2.defers
  hp : Less x.2 y.2
theorem ELe.refl (x : (AExit × Env) × Heap) : ELe x x := ⟨rfl, fun _ _ h => h, rfl, .refl _⟩
theorem ELe.trans {a b c : (AExit × Env) × Heap} (h : ELe a b) (k : ELe b c) : ELe a c := ⟨h.ex.trans k.ex, fun t v q => k.tm t v (h.tm t v q), h.df.trans k.df, h.hp.trans k.hp⟩
theorem eqEx_eq {a b : AExit} (h : eqEx a b = true) : a = b := by
  unfold eqEx at h
  split at h
  · rfl
  · rw [Nat.eq_of_beq_eq_true h]
  · rfl
  · cases h
theorem interE_ok {x y : (AExit × Env) × Heap} (h : sameE y.1 x.1 = true) : ELe (interE x y) x ∧ ELe (interE x y) y := by
  unfold sameE at h
  split at h
  · cases h
  · rename_i h1
    split at h
    · cases h
    · rename_i h2
      have e1 := eqEx_eq h1
      have e2 := nilL_iff h2
      have e3 := nilL_iff h
      have e : interE x y = ((x.1.1, ⟨interN (beqV 8) dep x.1.2.tmps y.1.2.tmps, x.1.2.defers⟩), interH x.2 y.2) := by
        unfold interE; rw [seqT_eq]
      rw [e]
      have L := interH_less x.2 y.2
      have g := fun t v => gk_inter (beqV_eq 8) dep dep x.1.2.tmps y.1.2.tmps t v
      exact ⟨⟨rfl, fun t v q => (g t v q).1, rfl, L.1⟩, ⟨e1.symm, fun t v q => (g t v q).2, by show x.1.2.defers = _; rw [e2, e3], L.2⟩⟩
theorem insE_ok (soft : Bool) (x : (AExit × Env) × Heap) : ∀ (l : List ((AExit × Env) × Heap)), (∃ r' ∈ insE soft x l, ELe r' x) ∧ ∀ r ∈ l, ∃ r' ∈ insE soft x l, ELe r' r
  | [] => ⟨⟨x, List.mem_singleton.2 rfl, .refl _⟩, fun r hr => by cases hr⟩
  | y :: l => by
    have far : (∃ r' ∈ y :: insE soft x l, ELe r' x) ∧ ∀ r ∈ y :: l, ∃ r' ∈ y :: insE soft x l, ELe r' r := by
      obtain ⟨⟨r', h1, h2⟩, h3⟩ := insE_ok soft x l
      refine ⟨⟨r', List.mem_cons_of_mem _ h1, h2⟩, fun r hr => ?_⟩
      rcases List.mem_cons.1 hr with rfl | hr
      · exact ⟨r, List.mem_cons_self, .refl _⟩
      · obtain ⟨q, h4, h5⟩ := h3 r hr
        exact ⟨q, List.mem_cons_of_mem _ h4, h5⟩
    unfold insE
    split
    · rename_i h
      split
      · obtain ⟨L1, L2⟩ := interE_ok h
        refine ⟨⟨_, List.mem_cons_self, L2⟩, fun r hr => ?_⟩
        rcases List.mem_cons.1 hr with rfl | hr
        · exact ⟨_, List.mem_cons_self, L1⟩
        · exact ⟨r, List.mem_cons_of_mem _ hr, .refl _⟩
      · exact far
    · exact far
theorem mergeEL_ok (soft : Bool) : ∀ (l : List ((AExit × Env) × Heap)), ∀ r ∈ l, ∃ r' ∈ mergeEL soft l, ELe r' r
  | [], r, hr => by cases hr
  | x :: l, r, hr => by
    obtain ⟨h1, h2⟩ := insE_ok soft x (mergeEL soft l)
    rcases List.mem_cons.1 hr with rfl | hr
    · exact h1
    · obtain ⟨q, h3, h4⟩ := mergeEL_ok soft l r hr
      obtain ⟨s, h5, h6⟩ := h2 q h3
      exact ⟨s, h5, h6.trans h4⟩
theorem MarkOK.less {n₀ : Nat} {φ : Ren} {h h' : Heap} {hp : Array Obj} {r : Nat} (m : MarkOK n₀ φ h hp r) (L : Less h' h) : MarkOK n₀ φ h' hp r :=
  ⟨m.1, m.2.1, fun id hid => m.2.2 id ⟨hid.1, let ⟨o, ho⟩ := hid.2; ⟨o, L.sub id o ho⟩⟩⟩
theorem DRel.less {n₀ : Nat} {φ : Ren} {h h' : Heap} {hp : Array Obj} (L : Less h' h) : ∀ {ds : List Deferred} {eds : List (AVal × List AVal)}, DRel n₀ φ h hp eds ds → DRel n₀ φ h' hp eds ds
  | [], eds, d => d
  | d :: ds, eds, k => by
    rcases k with ⟨r, k1, k2, k3, k4⟩ | ⟨x, eds', k1, k2, k3, k4⟩
    · exact .inl ⟨r, k1, k2.less L, k3, k4.less L⟩
    · exact .inr ⟨x, eds', k1, k2, k3, k4.less L⟩
theorem SRel.less {P : Program} {n₀ : Nat} {φ : Ren} {glob nt : Nat} {x y : (AExit × Env) × Heap} {a : Act} {w : World} (S : SRel P n₀ φ glob nt y.1.2 y.2 a w) (L : ELe x y) : SRel P n₀ φ glob nt x.1.2 x.2 a w :=
  ⟨fun t v hv hg => S.tm t v (L.tm t v hv) hg, S.nt, L.df ▸ S.df.less L.hp, S.hp.less L.hp⟩
/-! ### calls that are known -/
theorem subV_ok {x y : Option AObj} (h : subV x y = true) {o : AObj} (hx : x = some o) : y = some o := by
  subst hx
  unfold subV at h
  dsimp only at h
  split at h
  · cases h
  · rw [beqO_eq h]
theorem gk_sub : ∀ (d n : Nat) (x y : T AObj), subN n x y = true → ∀ (k : Nat) (o : AObj), (gk d k).get x = some o → (gk d k).get y = some o
  | 0, n, x, y, hs, k, o, h => by cases h
  | d + 1, 0, x, y, hs, k, o, h => by cases hs
  | d + 1, n + 1, x, y, hs, k, o, h => by
    cases x with
    | nil => rw [get_nil] at h; cases h
    | node v a0 a1 a2 a3 a4 a5 a6 a7 => cases y with
      | nil => cases hs
      | node w b0 b1 b2 b3 b4 b5 b6 b7 =>
        unfold subN at hs
        dsimp only at hs
        split at hs
        · cases hs
        · rename_i g
          split at hs
          · cases hs
          · rename_i h0
            split at hs
            · cases hs
            · rename_i h1
              split at hs
              · cases hs
              · rename_i h2
                split at hs
                · cases hs
                · rename_i h3
                  split at hs
                  · cases hs
                  · rename_i h4
                    split at hs
                    · cases hs
                    · rename_i h5
                      split at hs
                      · cases hs
                      · rename_i h6
                        cases k with
                        | zero => exact subV_ok g h
                        | succ k =>
                          have h : (gkSel (gk d (Nat.div k 8)) (Nat.mod k 8)).get _ = some o := h
                          show (gkSel (gk d (Nat.div k 8)) (Nat.mod k 8)).get _ = some o
                          generalize Nat.mod k 8 = j at h ⊢
                          generalize Nat.div k 8 = m at h ⊢
                          match j, h with
                          | 0, h => exact gk_sub d n a0 b0 h0 m o h
                          | 1, h => exact gk_sub d n a1 b1 h1 m o h
                          | 2, h => exact gk_sub d n a2 b2 h2 m o h
                          | 3, h => exact gk_sub d n a3 b3 h3 m o h
                          | 4, h => exact gk_sub d n a4 b4 h4 m o h
                          | 5, h => exact gk_sub d n a5 b5 h5 m o h
                          | 6, h => exact gk_sub d n a6 b6 h6 m o h
                          | _ + 7, h => exact gk_sub d n a7 b7 hs m o h
theorem lessB_ok {a h : Heap} (k : lessB a h = true) : Less a h := by
  unfold lessB at k
  split at k
  · cases k
  · rename_i h1
    exact ⟨Nat.le_of_ble_eq_true h1, fun id o => gk_sub dep dep _ _ k id o⟩
theorem cpFind_some : ∀ {l : List CP} {args : List AVal} {h : Heap} {c : CP}, cpFind l args h = some c → c ∈ l ∧ c.args = args ∧ Less c.hin h
  | [], _, _, _, k => by cases k
  | d :: l, args, h, c, k => by
    unfold cpFind at k
    split at k
    · obtain ⟨h1, h2⟩ := cpFind_some k
      exact ⟨List.mem_cons_of_mem _ h1, h2⟩
    · rename_i h1
      split at k
      · rename_i h2
        injection k with k; subst k
        exact ⟨List.mem_cons_self, eqVL_eq (beqV_eq 8) _ _ h1, lessB_ok h2⟩
      · obtain ⟨h1, h2⟩ := cpFind_some k
        exact ⟨List.mem_cons_of_mem _ h1, h2⟩
theorem withCP_some {args : List AVal} {h : Heap} {m : M AVal} {o : Option (List CP)} {outs : List (AVal × Heap)} (k : withCP args h m o = some outs) : m = some outs ∨ ∃ l c, o = some l ∧ c ∈ l ∧ c.args = args ∧ Less c.hin h ∧ outs = [(c.v, c.hout)] := by
  unfold withCP at k
  split at k
  · exact .inl k
  · rename_i l
    cases hc : cpFind l args h with
    | none => rw [hc] at k; exact .inl k
    | some c =>
      rw [hc] at k
      have k : some [(c.v, c.hout)] = some outs := k
      injection k with k
      obtain ⟨h1, h2, h3⟩ := cpFind_some hc
      exact .inr ⟨l, c, rfl, h1, h2, h3, k.symm⟩
theorem maxN_left (a b : Nat) : a ≤ maxN a b := by
  unfold maxN
  split
  · rename_i h; exact Nat.le_of_ble_eq_true h
  · exact Nat.le_refl _
theorem alignH_less (h : Heap) (o : Option Nat) : Less (alignH h o) h := by
  cases o with
  | none => exact .refl h
  | some k =>
    have e : alignH h (some k) = ⟨alignN k h.next, h.objs⟩ := by
      show seqN (alignN k h.next) (fun m => (⟨m, h.objs⟩ : Heap)) = _
      rw [seqN_eq]
    rw [e]
    exact ⟨maxN_left _ _, fun _ _ k => k⟩
theorem gk_fr : ∀ (d id : Nat) (a b c : T AObj), (gk d id).get (frN d a b c) = frV ((gk d id).get a) ((gk d id).get b) ((gk d id).get c)
  | 0, _, _, _, _ => rfl
  | d + 1, id, a, b, c => by
    unfold frN
    split
    · rename_i h
      unfold nil2 at h
      split at h
      · split at h
        · have e : (gk (d + 1) id).get (.nil : T AObj) = none := get_nil (d + 1) id
          rw [e]; rfl
        · cases h
      · cases h
    · cases id with
      | zero => rfl
      | succ k =>
        show (gkSel (gk d (Nat.div k 8)) (Nat.mod k 8)).get _ = frV ((gkSel (gk d (Nat.div k 8)) (Nat.mod k 8)).get a) ((gkSel (gk d (Nat.div k 8)) (Nat.mod k 8)).get b) ((gkSel (gk d (Nat.div k 8)) (Nat.mod k 8)).get c)
        generalize Nat.mod k 8 = j
        generalize Nat.div k 8 = m
        match j with
        | 0 => exact gk_fr d m a.ch0 b.ch0 c.ch0
        | 1 => exact gk_fr d m a.ch1 b.ch1 c.ch1
        | 2 => exact gk_fr d m a.ch2 b.ch2 c.ch2
        | 3 => exact gk_fr d m a.ch3 b.ch3 c.ch3
        | 4 => exact gk_fr d m a.ch4 b.ch4 c.ch4
        | 5 => exact gk_fr d m a.ch5 b.ch5 c.ch5
        | 6 => exact gk_fr d m a.ch6 b.ch6 c.ch6
        | _ + 7 => exact gk_fr d m a.ch7 b.ch7 c.ch7
theorem frH_get (a b h : Heap) (id : Nat) : (frH a b h).objs.get id = frV (a.objs.get id) (b.objs.get id) (h.objs.get id) := gk_fr dep id a.objs b.objs h.objs
theorem frV_some {a b c : Option AObj} {o : AObj} (k : frV a b c = some o) : b = some o ∨ (b = none ∧ a = none ∧ c = some o) := by
  cases b with
  | some x => exact .inl k
  | none =>
    cases a with
    | some x => cases k
    | none => exact .inr ⟨rfl, rfl, k⟩
/-- what a call leaves, with all objects that it did not need -/
theorem Good.frame {P : Program} {φ : Ren} {a b h : Heap} {v : AVal} {w : World} {x : Value} {w' : World} (g : Good P φ a w [(v, b)] x w') (L : Less a h) (H : HRel P φ h w.heap) : Good P φ h w [(v, frH a b h)] x w' := by
  obtain ⟨ψ, vh, g1, G, t, g4, g5⟩ := g
  obtain rfl := List.mem_singleton.1 g1
  have G : HRel P ψ b w'.heap := G
  have t : Tr φ a w.heap ψ b w'.heap := t
  -- an object that was not needed
  have rest : ∀ id o, ψ.dom id → a.objs.get id = none → h.objs.get id = some o → φ.dom id ∧ w'.heap[φ.blk id]? = w.heap[φ.blk id]? := by
    intro id o hd ha ho
    have hφ : φ.dom id := by
      rcases t.dom id hd with h1 | h1
      · exact h1
      · have := H.top id o ho; have := L.next; omega
    refine ⟨hφ, t.keep _ (H.bd id hφ) fun j hj e => ?_⟩
    obtain ⟨oj, hoj⟩ := hj.2
    have : j = id := H.inj j id oj o hj.1 hφ (L.sub j oj hoj) ho e
    subst this
    rw [ha] at hoj; cases hoj
  have apart : ∀ i j oi oj, ψ.dom i → b.objs.get i = some oi → ψ.dom j → a.objs.get j = none → h.objs.get j = some oj → ψ.blk i ≠ ψ.blk j := by
    intro i j oi oj hi ho hj ha hoj e
    obtain ⟨hφ, _⟩ := rest j oj hj ha hoj
    rw [t.le.blk _ hφ] at e
    have hlt := H.bd j hφ
    rcases t.new i ⟨hi, oi, ho⟩ with h1 | h1 | ⟨k, hk, h1⟩
    · obtain ⟨ok, hok⟩ := h1.2
      rw [t.le.blk _ h1.1] at e
      have := H.inj i j ok oj h1.1 hφ (L.sub i ok hok) hoj e
      subst this
      rw [ha] at hok; cases hok
    · omega
    · obtain ⟨ok, hok⟩ := hk.2
      have := H.inj k j ok oj hk.1 hφ (L.sub k ok hok) hoj (h1.symm.trans e)
      subst this
      rw [ha] at hok; cases hok
  refine ⟨ψ, _, List.mem_singleton.2 rfl, ⟨⟨fun id o hd ho => ?_, fun i j oi oj hi hj hoi hoj e => ?_, G.bd, fun c hc => ⟨(G.fix c hc).1, fun id o hd ho => ?_⟩⟩, G.n, fun id o ho => ?_⟩, ⟨t.le, Nat.le_trans L.next t.next, fun id hd => ?_, t.size, fun c hc hno => ?_, fun id hl => ?_, fun id o hlt hd ho => ?_⟩, g4, g5⟩
  · rw [frH_get] at ho
    rcases frV_some ho with h1 | ⟨h1, h2, h3⟩
    · exact G.obj id o hd h1
    · obtain ⟨hφ, k⟩ := rest id o hd h2 h3
      obtain ⟨o', k1, k2⟩ := H.obj id o hφ h3
      exact ⟨o', by rw [t.le.blk _ hφ, k]; exact k1, k2.mono t.le hφ⟩
  · rw [frH_get] at hoi hoj
    rcases frV_some hoi with h1 | ⟨h1, h2, h3⟩ <;> rcases frV_some hoj with k1 | ⟨k1, k2, k3⟩
    · exact G.inj i j oi oj hi hj h1 k1 e
    · exact absurd e (apart i j oi oj hi h1 hj k2 k3)
    · exact absurd e.symm (apart j i oj oi hj k1 hi h2 h3)
    · obtain ⟨hφ, _⟩ := rest i oi hi h2 h3
      obtain ⟨hφ', _⟩ := rest j oj hj k2 k3
      rw [t.le.blk _ hφ, t.le.blk _ hφ'] at e
      exact H.inj i j oi oj hφ hφ' h3 k3 e
  · rw [frH_get] at ho
    rcases frV_some ho with h1 | ⟨h1, h2, h3⟩
    · exact (G.fix c hc).2 id o hd h1
    · obtain ⟨hφ, _⟩ := rest id o hd h2 h3
      rw [t.le.blk _ hφ]
      exact (H.fix c hc).2 id o hφ h3
  · rw [frH_get] at ho
    show id < b.next
    rcases frV_some ho with h1 | ⟨h1, h2, h3⟩
    · exact G.top id o h1
    · have := H.top id o h3; have := L.next; have := t.next; omega
  · rcases t.dom id hd with h1 | h1
    · exact .inl h1
    · exact .inr (Nat.le_trans L.next h1)
  · exact t.keep c hc fun id hl => hno id ⟨hl.1, let ⟨o, ho⟩ := hl.2; ⟨o, L.sub id o ho⟩⟩
  · obtain ⟨hd, o, ho⟩ := hl
    have ho : (frH a b h).objs.get id = some o := ho
    rw [frH_get] at ho
    rcases frV_some ho with h1 | ⟨h1, h2, h3⟩
    · rcases t.new id ⟨hd, o, h1⟩ with k | k | ⟨j, hj, k⟩
      · exact .inl ⟨k.1, let ⟨o, ho⟩ := k.2; ⟨o, L.sub id o ho⟩⟩
      · exact .inr (.inl k)
      · exact .inr (.inr ⟨j, ⟨hj.1, let ⟨o, ho⟩ := hj.2; ⟨o, L.sub j o ho⟩⟩, k⟩)
    · exact .inl ⟨(rest id o hd h2 h3).1, o, h3⟩
  · have ho : (frH a b h).objs.get id = some o := ho
    rw [frH_get] at ho
    rcases frV_some ho with h1 | ⟨h1, h2, h3⟩
    · exact L.sub id o (t.stay id o (Nat.lt_of_lt_of_le hlt L.next) hd h1)
    · exact h3
theorem withFr_some {args : List AVal} {h : Heap} {m : M AVal} {o : Option (List CP)} {outs : List (AVal × Heap)} (k : withFr args h m o = some outs) : m = some outs ∨ ∃ l c, o = some l ∧ c ∈ l ∧ c.args = args ∧ Less c.hin h ∧ outs = [(c.v, frH c.hin c.hout h)] := by
  unfold withFr at k
  split at k
  · exact .inl k
  · rename_i l
    cases hc : cpFind l args h with
    | none => rw [hc] at k; exact .inl k
    | some c =>
      rw [hc] at k
      have k : some [(c.v, frH c.hin c.hout h)] = some outs := k
      injection k with k
      obtain ⟨h1, h2, h3⟩ := cpFind_some hc
      exact .inr ⟨l, c, rfl, h1, h2, h3, k.symm⟩
theorem withPick_some {args : List AVal} {h : Heap} {m : M AVal} {o : Option PickK} {outs : List (AVal × Heap)} (k : withPick args h m o = some outs) : m = some outs ∨ ∃ p c, o = some p ∧ p.f args h = some c ∧ c.args = args ∧ Less c.hin h ∧ outs = [(c.v, frH c.hin c.hout h)] := by
  unfold withPick at k
  split at k
  · exact .inl k
  · rename_i p
    unfold pickRun at k
    split at k
    · exact .inl k
    · rename_i c hc
      split at k
      · exact .inl k
      · rename_i h1
        split at k
        · exact .inl k
        · rename_i h2
          have k : some [(c.v, frH c.hin c.hout h)] = some outs := k
          injection k with k
          exact .inr ⟨p, c, rfl, hc, eqVL_eq (beqV_eq 8) _ _ h1, lessB_ok h2, k.symm⟩
theorem runCov_some {m : M AVal} {v : AVal} {h : Heap} (k : runCov v h m = true) : ∃ l, m = some l ∧ ∀ x ∈ l, v = x.1 ∧ Less h x.2 := by
  unfold runCov at k
  split at k
  · cases k
  · rename_i l
    refine ⟨l, rfl, fun x hx => ?_⟩
    have := allB_iff.1 k x hx
    unfold covB at this
    split at this
    · rename_i e
      exact ⟨(beqV_eq _ _ _ e).symm, lessB_ok this⟩
    · cases this
end Go.Proofs.YtpjkcfglojigmaaGreatDoor.Ev
namespace Go.Proofs.YtpjkcfglojigmaaGreatDoor.Ev
set_option linter.unusedVariables false
set_option linter.unusedSimpArgs false
open Go
section
variable {P : Program} {n₀ : Nat} {tt : TT}
/-- what is done with what a statement comes to -/
def Fin (P : Program) (n₀ : Nat) (fi : FI) (φ : Ren) (h : Heap) (w : World) (outs : List ((AExit × Env) × Heap)) (Q : Exit → Act → World → Prop) : Prop :=
  ∀ ψ x a' w', x ∈ outs → SRel P n₀ ψ fi.glob fi.nt x.1.2 x.2 a' w' → Tr φ h w.heap ψ x.2 w'.heap → Still w w' → Q (exOf x.1.1) a' w'
theorem Fin.sub {fi : FI} {φ ψ : Ren} {h h' : Heap} {w w' : World} {outs outs' : List ((AExit × Env) × Heap)} {Q : Exit → Act → World → Prop} (F : Fin P n₀ fi φ h w outs Q) (t : Tr φ h w.heap ψ h' w'.heap) (s : Still w w') (hs : ∀ y ∈ outs', y ∈ outs) : Fin P n₀ fi ψ h' w' outs' Q :=
  fun χ x a2 w2 hx hS ht hst => F χ x a2 w2 (hs x hx) hS (t.trans ht) (s.trans hst)
theorem loop_ok {fi : FI} {r : Rt} {ro : Option Nat} {c : Code} {Q : Exit → Act → World → Prop}
    (ih : ∀ (e : Env) (h : Heap) (φ : Ren) (a : Act) (w : World) (outs : List ((AExit × Env) × Heap)) (Q : Exit → Act → World → Prop), (codeK fi tt c).run r e h = some outs → SRel P n₀ φ fi.glob fi.nt e h a w → n₀ ≤ w.heap.size → Fin P n₀ fi φ h w outs Q → c.wpIn (W ro) 0 P Q a w) :
    ∀ (n : Nat) (e : Env) (h : Heap) (φ : Ren) (a : Act) (w : World) (outs : List ((AExit × Env) × Heap)), iterK ((codeK fi tt c).run r) n e h = some outs → SRel P n₀ φ fi.glob fi.nt e h a w → n₀ ≤ w.heap.size → Fin P n₀ fi φ h w outs Q → Code.roundsIn (W ro) 0 P c Q n a w
  | 0, e, h, φ, a, w, outs, hr, _, _, _ => by cases hr
  | n + 1, e, h, φ, a, w, outs, hr, S, hn, F => by
    obtain ⟨l, h1, h2⟩ := bindM_some (show bindM ((codeK fi tt c).run r e h) (iterC (iterK ((codeK fi tt c).run r) n)) = some outs from hr)
    rw [roundsIn_succ]
    refine ih e h φ a w l _ h1 S hn fun ψ x a' w' hx hS ht hst => ?_
    obtain ⟨o, h3, h4⟩ := h2 x hx
    obtain ⟨⟨ex, e'⟩, h'⟩ := x
    cases ex with
    | normal =>
      have h3 : iterK ((codeK fi tt c).run r) n e' h' = some o := h3
      exact loop_ok ih n e' h' ψ a' w' o h3 hS (Nat.le_trans hn ht.size) (F.sub ht hst h4)
    | exit id =>
      have h3 : some [((AExit.exit id, e'), h')] = some o := h3
      injection h3 with h3
      exact F ψ ((AExit.exit id, e'), h') a' w' (h4 _ (by rw [← h3]; exact List.mem_singleton.2 rfl)) hS ht hst
    | ret =>
      have h3 : some [((AExit.ret, e'), h')] = some o := h3
      injection h3 with h3
      exact F ψ ((AExit.ret, e'), h') a' w' (h4 _ (by rw [← h3]; exact List.mem_singleton.2 rfl)) hS ht hst
/-- a statement, or several, that is sound: T says what it does -/
def StOK (P : Program) (n₀ : Nat) (fi : FI) (r : Rt) (k : CK) (T : (Exit → Act → World → Prop) → Act → World → Prop) : Prop :=
  ∀ (e : Env) (h : Heap) (φ : Ren) (a : Act) (w : World) (outs : List ((AExit × Env) × Heap)) (Q : Exit → Act → World → Prop), k.run r e h = some outs → SRel P n₀ φ fi.glob fi.nt e h a w → n₀ ≤ w.heap.size → Fin P n₀ fi φ h w outs Q → T Q a w
def MonoT (T : (Exit → Act → World → Prop) → Act → World → Prop) : Prop := ∀ (Q Q' : Exit → Act → World → Prop) a w, (∀ e a w, Q e a w → Q' e a w) → T Q a w → T Q' a w
theorem StOK.then {fi : FI} {r : Rt} {x y : CK} {T U : (Exit → Act → World → Prop) → Act → World → Prop} (h1 : StOK P n₀ fi r x T) (h2 : StOK P n₀ fi r y U) : StOK P n₀ fi r (cSeq x y) fun Q => T (Exit.then (U Q) Q) := by
  intro e h φ a w outs Q hrun S hn F
  obtain ⟨l, k1, k2⟩ := bindM_some (show bindM (x.run r e h) (seqC y r) = some outs from hrun)
  refine h1 e h φ a w l _ k1 S hn fun ψ x a' w' hx hS ht hst => ?_
  obtain ⟨o, h3, h4⟩ := k2 x hx
  obtain ⟨⟨ex, e'⟩, h'⟩ := x
  cases ex with
  | normal => exact h2 e' h' ψ a' w' o Q h3 hS (Nat.le_trans hn ht.size) (F.sub ht hst h4)
  | exit id =>
    have h3 : some [((AExit.exit id, e'), h')] = some o := h3
    injection h3 with h3
    exact F ψ ((AExit.exit id, e'), h') a' w' (h4 _ (by rw [← h3]; exact List.mem_singleton.2 rfl)) hS ht hst
  | ret =>
    have h3 : some [((AExit.ret, e'), h')] = some o := h3
    injection h3 with h3
    exact F ψ ((AExit.ret, e'), h') a' w' (h4 _ (by rw [← h3]; exact List.mem_singleton.2 rfl)) hS ht hst
theorem StOK.merge1 {fi : FI} {r : Rt} {x : CK} {T : (Exit → Act → World → Prop) → Act → World → Prop} (h1 : StOK P n₀ fi r x T) (soft : Bool) : StOK P n₀ fi r ⟨fun r e h => mergeE soft (x.run r e h)⟩ T := by
    intro e h φ a w outs Q hrun S hn F
    have hrun : mergeE soft (x.run r e h) = some outs := hrun
    cases hx : x.run r e h with
    | none => rw [hx] at hrun; cases hrun
    | some l =>
      rw [hx] at hrun
      have hrun : some (many (mergeEL soft) l) = some outs := hrun
      injection hrun with hrun
      refine h1 e h φ a w l Q hx S hn fun ψ y a' w' hy hS ht hst => ?_
      obtain ⟨z, g1, g2⟩ := many_ok (R := ELe) ELe.refl (mergeEL_ok soft) l y hy
      rw [hrun] at g1
      rw [← g2.ex]
      exact F ψ z a' w' g1 (hS.less g2) (ht.less g2.hp) hst
theorem StOK.merge {fi : FI} {r : Rt} {x : CK} {T : (Exit → Act → World → Prop) → Act → World → Prop} (h1 : StOK P n₀ fi r x T) (b s : Bool) : StOK P n₀ fi r (mergeC b s x) T := by
  cases b with
  | true => exact h1.merge1 false
  | false => cases s with
    | false => exact h1
    | true => exact h1.merge1 true
/-- behind nothing, and behind something -/
def Both (P : Program) (n₀ : Nat) (fi : FI) (tt : TT) (r : Rt) (ro : Option Nat) (c : Code) : Prop :=
  StOK P n₀ fi r (codeQ fi tt c none) (fun Q => c.wpIn (W ro) 0 P Q) ∧
  ∀ (k : CK) (T : (Exit → Act → World → Prop) → Act → World → Prop), MonoT T → StOK P n₀ fi r k T → StOK P n₀ fi r (codeQ fi tt c (some k)) fun Q => T (Exit.then (c.wpIn (W ro) 0 P Q) Q)
theorem both_of {fi : FI} {r : Rt} {ro : Option Nat} {c : Code} {x : CK} {b : Bool} {s : Bool} (h : StOK P n₀ fi r x (fun Q => c.wpIn (W ro) 0 P Q)) (e : ∀ k, codeQ fi tt c k = mergeC b s (thenK k x)) : Both P n₀ fi tt r ro c :=
  ⟨by rw [e]; exact StOK.merge h b s, fun k T _ hk => by rw [e]; exact StOK.merge (StOK.then hk h) b s⟩
theorem both_ok (hT : TTok P tt) {fi : FI} {ro : Option Nat} (hro : ro = none ∨ fi.rnd = true) {r : Rt} (hr : RtOK P r.call) (hb : BodyOK P r.call) : ∀ (c : Code), Both P n₀ fi tt r ro c := by
  have one : ∀ {x : AExit} {e : Env} {h : Heap} {φ : Ren} {a : Act} {w : World} {outs : List ((AExit × Env) × Heap)} {Q : Exit → Act → World → Prop}, (cExit x).run r e h = some outs → SRel P n₀ φ fi.glob fi.nt e h a w → Fin P n₀ fi φ h w outs Q → Q (exOf x) a w := by
    intro x e h φ a w outs Q hrun S F
    have hrun : some [((x, e), h)] = some outs := hrun
    injection hrun with hrun
    exact F φ ((x, e), h) a w (by rw [← hrun]; exact List.mem_singleton.2 rfl) S (.refl _ _ _) (.refl _)
  intro c
  induction c with
  | skip => exact both_of (b := false) (s := false) (x := cExit .normal) (fun e h φ a w outs Q hrun S _ F => wpIn_skip (one (x := .normal) hrun S F)) fun k => rfl
  | label l => exact both_of (b := false) (s := false) (x := cExit .normal) (fun e h φ a w outs Q hrun S _ F => wpIn_label (one (x := .normal) hrun S F)) fun k => rfl
  | exit id => exact both_of (b := false) (s := false) (x := cExit (.exit id)) (fun e h φ a w outs Q hrun S _ F => wpIn_exit (one (x := .exit id) hrun S F)) fun k => rfl
  | ret => exact both_of (b := false) (s := false) (x := cExit .ret) (fun e h φ a w outs Q hrun S _ F => wpIn_ret (one (x := .ret) hrun S F)) fun k => rfl
  | goto l => exact both_of (b := false) (s := false) (x := cFail) (fun e h φ a w outs Q hrun _ _ _ => by cases hrun) fun k => rfl
  | refuse s => exact both_of (b := false) (s := false) (x := cFail) (fun e h φ a w outs Q hrun _ _ _ => by cases hrun) fun k => rfl
  | region id ops draw =>
    refine both_of (b := Nat.testBit fi.mks (Nat.succ (Nat.mul 2 id))) (s := Nat.testBit fi.mks (Nat.succ (Nat.succ (Nat.mul 2 id)))) (x := regionK fi tt id ops.toList draw) ?_ fun k => rfl
    intro e h φ a w outs Q hrun S hn F
    have fin : ∀ {s : StK}, (cRegion s).run r e h = some outs → ∃ l, s.run r [] e h = some l ∧ ∀ ψ x a' w', x ∈ l → SRel P n₀ ψ fi.glob fi.nt x.1 x.2 a' w' → Tr φ h w.heap ψ x.2 w'.heap → Still w w' → Q .normal a' w' := by
      intro s hs
      obtain ⟨l, h1, h2⟩ := bindM_some (show bindM (s.run r [] e h) (fun e h => ret1 (.normal, e) h) = some outs from hs)
      refine ⟨l, h1, fun ψ x a' w' hx hS ht hst => ?_⟩
      obtain ⟨o, h3, h4⟩ := h2 x hx
      have h3 : some [((AExit.normal, x.1), x.2)] = some o := h3
      injection h3 with h3
      exact F ψ ((AExit.normal, x.1), x.2) a' w' (h4 _ (by rw [← h3]; exact List.mem_singleton.2 rfl)) hS ht hst
    cases draw with
    | false =>
      obtain ⟨l, h1, h2⟩ := fin hrun
      exact region_ok hT hro hr h1 S h2
    | true =>
      obtain ⟨l, h1, h2⟩ := fin hrun
      exact draw_ok hT hr h1 S h2
  | seq c1 c2 ih1 ih2 =>
    refine ⟨?_, fun k T hm hk => ?_⟩
    · intro e h φ a w outs Q hrun S hn F
      exact wpIn_seq (ih2.2 (codeQ fi tt c1 none) (fun Q => c1.wpIn (W ro) 0 P Q) (fun Q Q' a w hq h => wpIn_mono h hq) ih1.1 e h φ a w outs Q hrun S hn F)
    · intro e h φ a w outs Q hrun S hn F
      have := ih2.2 (codeQ fi tt c1 (some k)) (fun Q => T (Exit.then (c1.wpIn (W ro) 0 P Q) Q)) (fun Q Q' a w hq h => hm _ _ a w (fun ex a w hx => by
        cases ex <;> first | exact wpIn_mono hx hq | exact hq _ a w hx) h) (ih1.2 k T hm hk) e h φ a w outs Q hrun S hn F
      refine hm _ _ a w (fun ex a w hx => ?_) this
      cases ex <;> first | exact wpIn_seq hx | exact hx
  | cond c c1 c2 ih1 ih2 =>
    refine both_of (b := false) (s := false) (x := cCond (vk ⟨fi.glob, [], fi.rnd⟩ c) (codeQ fi tt c1 none) (codeQ fi tt c2 none)) ?_ fun k => rfl
    intro e h φ a w outs Q hrun S hn F
    have hrun : condC (codeQ fi tt c1 none) (codeQ fi tt c2 none) r e h ((vk ⟨fi.glob, [], fi.rnd⟩ c).get [] e.tmps) = some outs := hrun
    have hc := vk_rel (LRel.start (rnd := fi.rnd) S.tm) c (a := a)
    generalize (vk ⟨fi.glob, [], fi.rnd⟩ c).get [] e.tmps = cv at hc hrun
    generalize hce : a.eval c = ce at hc
    cases hc <;> try (cases hrun; done)
    rename_i b
    cases b with
    | true => exact wpIn_cond_true hce (ih1.1 e h φ a w outs Q hrun S hn F)
    | false => exact wpIn_cond_false hce (ih2.1 e h φ a w outs Q hrun S hn F)
  | block id c ih =>
    refine both_of (b := false) (s := false) (x := cBlock id (codeQ fi tt c none)) ?_ fun k => rfl
    intro e h φ a w outs Q hrun S hn F
    obtain ⟨l, h1, h2⟩ := bindM_some (show bindM ((codeQ fi tt c none).run r e h) (blockC id) = some outs from hrun)
    refine wpIn_block (ih.1 e h φ a w l _ h1 S hn fun ψ x a' w' hx hS ht hst => ?_)
    obtain ⟨o, h3, h4⟩ := h2 x hx
    obtain ⟨⟨ex, e'⟩, h'⟩ := x
    cases ex with
    | normal =>
      have h3 : some [((AExit.normal, e'), h')] = some o := h3
      injection h3 with h3
      exact F ψ ((AExit.normal, e'), h') a' w' (h4 _ (by rw [← h3]; exact List.mem_singleton.2 rfl)) hS ht hst
    | ret =>
      have h3 : some [((AExit.ret, e'), h')] = some o := h3
      injection h3 with h3
      exact F ψ ((AExit.ret, e'), h') a' w' (h4 _ (by rw [← h3]; exact List.mem_singleton.2 rfl)) hS ht hst
    | exit id' =>
      have h3 : (match Nat.beq id' id with | true => ret1 (AExit.normal, e') h' | false => ret1 (AExit.exit id', e') h') = some o := h3
      show (if id' = id then Q .normal a' w' else Q (.exit id') a' w')
      rw [beq_dec] at h3
      by_cases hid : id' = id
      · rw [decide_eq_true hid] at h3
        rw [if_pos hid]
        have h3 : some [((AExit.normal, e'), h')] = some o := h3
        injection h3 with h3
        exact F ψ ((AExit.normal, e'), h') a' w' (h4 _ (by rw [← h3]; exact List.mem_singleton.2 rfl)) hS ht hst
      · rw [decide_eq_false hid] at h3
        rw [if_neg hid]
        have h3 : some [((AExit.exit id', e'), h')] = some o := h3
        injection h3 with h3
        exact F ψ ((AExit.exit id', e'), h') a' w' (h4 _ (by rw [← h3]; exact List.mem_singleton.2 rfl)) hS ht hst
  | loop c ih =>
    refine both_of (b := false) (s := false) (x := cLoop (codeQ fi tt c none)) ?_ fun k => rfl
    intro e h φ a w outs Q hrun S hn F
    exact wpIn_loop_rounds 10000 (loop_ok (tt := tt) (c := c) ih.1 10000 e h φ a w outs hrun S hn F)
  | scope c ih =>
    refine both_of (b := false) (s := false) (x := codeQ fi tt c none) ?_ fun k => rfl
    intro e h φ a w outs Q hrun S hn F
    refine wpIn_scope (ih.1 e h φ a w outs _ hrun S hn fun ψ x a' w' hx hS ht hst => ?_)
    have := F ψ x a' w' hx hS ht hst
    obtain ⟨⟨ex, e'⟩, h'⟩ := x
    cases ex <;> exact this
  | rangeFunc g ps assign body ih1 ih2 =>
    refine both_of (b := false) (s := false) (x := match fi.rnd with | true => cFail | false => cRange (loopObj (rndOf fi) ps.toList assign body) (vk ⟨fi.glob, [], fi.rnd⟩ g)) ?_ fun k => rfl
    intro e h φ a w outs Q hrun S hn F
    have hrun : (match fi.rnd with | true => cFail | false => cRange (loopObj (rndOf fi) ps.toList assign body) (vk ⟨fi.glob, [], fi.rnd⟩ g)).run r e h = some outs := hrun
    cases hrnd : fi.rnd with
    | true => rw [hrnd] at hrun; cases hrun
    | false =>
      have hro : ro = none := hro.resolve_right (by rw [hrnd]; simp)
      subst hro
      have hrun2 : (cRange (loopObj (rndOf fi) ps.toList assign body) (vk ⟨fi.glob, [], fi.rnd⟩ g)).run r e h = some outs := by
        revert hrun; rw [hrnd]; exact id
      exact range_ok hb hn hrun2 S F
theorem code_ok (hT : TTok P tt) {fi : FI} {ro : Option Nat} (hro : ro = none ∨ fi.rnd = true) {r : Rt} (hr : RtOK P r.call) (hb : BodyOK P r.call) :
    ∀ (c : Code) (e : Env) (h : Heap) (φ : Ren) (a : Act) (w : World) (outs : List ((AExit × Env) × Heap)) (Q : Exit → Act → World → Prop), (codeK fi tt c).run r e h = some outs → SRel P n₀ φ fi.glob fi.nt e h a w → n₀ ≤ w.heap.size → Fin P n₀ fi φ h w outs Q → c.wpIn (W ro) 0 P Q a w :=
  fun c => (both_ok hT hro hr hb c).1
end
end Go.Proofs.YtpjkcfglojigmaaGreatDoor.Ev
namespace Go.Proofs.YtpjkcfglojigmaaGreatDoor.Ev
set_option linter.unusedVariables false
set_option linter.unusedSimpArgs false
open Go
section
variable {P : Program} {tt : TT}
theorem bindParams_ok {φ : Ren} {glob nt : Nat} : ∀ (ps : List Tmp) (as : List AVal) (as' : List Value) (t t' : T AVal) (tmps : Array Value), bindParams nt ps as t = some t' → VRelL φ as as' → TmRel φ glob t tmps → nt ≤ tmps.size →
    ps.length = as'.length ∧ TmRel φ glob t' ((ps.zip as').foldl (fun tmps (x : Tmp × Value) => tmps.setIfInBounds x.1 x.2) tmps) ∧ nt ≤ ((ps.zip as').foldl (fun tmps (x : Tmp × Value) => tmps.setIfInBounds x.1 x.2) tmps).size
  | [], [], as', t, t', tmps, h, hr, ht, hn => by
    cases hr
    injection h with h; subst h
    exact ⟨rfl, ht, hn⟩
  | [], _ :: _, as', t, t', tmps, h, hr, ht, hn => by cases h
  | _ :: _, [], as', t, t', tmps, h, hr, ht, hn => by cases h
  | p :: ps, a :: as, as', t, t', tmps, h, hr, ht, hn => by
    cases hr with
    | cons _ x _ xs hx hxs =>
      obtain ⟨h1, h2⟩ := when_some (show when (Nat.blt p nt) (bindParams nt ps as (t.put p a)) = some t' from h)
      rw [blt_dec] at h1
      have h1 := of_decide_eq_true h1
      have hlt : p < tmps.size := Nat.lt_of_lt_of_le h1 hn
      obtain ⟨g1, g2, g3⟩ := bindParams_ok ps as xs (t.put p a) t' (tmps.setIfInBounds p x) h2 hxs (fun q v hq hg => by
        rw [getD_set hlt]
        rcases T.get_put hq with ⟨e1, e2⟩ | ⟨e1, e2⟩
        · rw [if_pos e1, e2]; exact hx
        · rw [if_neg e1]; exact ht q v e2 hg) (by simpa using hn)
      exact ⟨by simp [g1], g2, g3⟩
/-- one round of a range over a function -/
theorem round_ok (hT : TTok P tt) {r : Rt} (hr : RtOK P r.call) (hb : BodyOK P r.call) {l : Nat} {φ : Ren} {h : Heap} {w : World} {args : List AVal} {args' : Array Value} {outs : List (AVal × Heap)} (hd : φ.dom l) (hrun : roundA tt l r args h (h.objs.get l) = some outs)
    (ha : VRelL φ args args'.toList) (H : HRel P φ h w.heap) : Res P (Good P φ h w outs) ((Instr.yield (φ.blk l) args').run P w) := by
  unfold roundA at hrun
  split at hrun
  case h_2 => cases hrun
  rename_i al hal
  obtain ⟨tm, h1, h2⟩ := ob_some hrun
  obtain ⟨l1, h3, h4⟩ := bindM_some h2
  obtain ⟨o', q1, rm, q2, q3⟩ := H.obj l _ hd hal
  subst q2
  have hget := rGetObj (P := P) q1 (by intro _ _ _ e; cases e)
  obtain ⟨g1, g2, g3⟩ := bindParams_ok (φ := φ) (glob := al.fi.glob) al.params args args'.toList al.tmps tm rm.tmps h1 ha q3.tm q3.nt
  have hsz : args'.size = rm.params.size := by
    have e1 : rm.params.size = al.params.length := by rw [← q3.params]; simp
    rw [e1, g1]; simp
  have hy : (Instr.yield (φ.blk l) args').run P w = .ok (.round (φ.blk l) rm.fn ((al.params.zip args'.toList).foldl (fun tmps (x : Tmp × Value) => tmps.setIfInBounds x.1 x.2) rm.tmps) rm.assign rm.body) w := by
    have hf : (rm.params.zip args').foldl (fun tmps (x : Tmp × Value) => tmps.setIfInBounds x.1 x.2) rm.tmps = (al.params.zip args'.toList).foldl (fun tmps (x : Tmp × Value) => tmps.setIfInBounds x.1 x.2) rm.tmps := by
      rw [← Array.foldl_toList, Array.toList_zip, q3.params]
    simp only [Instr.yield, Instr.getLoop, Sem.run_bind, hget, Result.andThen_ok, Sem.run_pure, hsz, ne_eq, not_true_eq_false, if_false]
    exact congrArg (fun t => Result.ok (Next.round (φ.blk l) rm.fn t rm.assign rm.body) w) hf
  rw [hy]
  refine roundIn_of_wpIn trivial ?_
  have S : SRel P 0 φ al.fi.glob al.fi.nt ⟨tm, []⟩ h { tmps := (al.params.zip args'.toList).foldl (fun tmps (x : Tmp × Value) => tmps.setIfInBounds x.1 x.2) rm.tmps, defers := [] } w := ⟨g2, g3, rfl, H⟩
  show rm.assign.wpIn (W (some (φ.blk l))) 0 P _ _ w
  rw [q3.assign]
  refine code_ok (n₀ := 0) hT (ro := some (φ.blk l)) (.inr q3.rnd) hr hb al.assign ⟨tm, []⟩ h φ _ w l1 _ h3 S (Nat.zero_le _) fun ψ x a' w' hx hS ht hst => ?_
  obtain ⟨o2, h5, h6⟩ := h4 x hx
  obtain ⟨⟨ex, e'⟩, h'⟩ := x
  cases ex with
  | exit id => cases h5
  | ret => cases h5
  | normal =>
    have hd2 : ψ.dom l := ht.le.dom l hd
    have hbk : ψ.blk l = φ.blk l := ht.le.blk l hd
    have h5 : beginBody (codeK al.fi tt al.body) l r e' h' (h'.objs.get l) = some o2 := h5
    unfold beginBody at h5
    split at h5
    case h_2 => cases h5
    rename_i a2 ha2
    split at h5
    case h_2 => cases h5
    rename_i hst2
    obtain ⟨l2, k1, k2⟩ := bindM_some h5
    obtain ⟨o3, p1, rm2, p2, p3⟩ := hS.hp.obj l _ hd2 ha2
    subst p2
    have hget2 := rGetObj (P := P) p1 (by intro _ _ _ e; cases e)
    have hset2 := rSetObj (P := P) (o2 := .loop { rm2 with state := .busy }) p1 (by intro _ _ _ e; cases e)
    have K := hS.hp.upd (ob' := .loop { a2 with state := .busy }) hd2 ha2 (setObj_upd (o2 := .loop { rm2 with state := .busy }) p1) ⟨_, rfl, rfl, p3.pending, p3.params, p3.assign, p3.body, p3.nt, p3.rnd, p3.tm⟩
    refine ⟨{ w' with heap := w'.heap.setIfInBounds (ψ.blk l) (.loop { rm2 with state := .busy }) }, ?_, ?_⟩
    · have hready : rm2.state = .ready := by rw [p3.state, hst2]
      rw [← hbk]
      simp only [Instr.beginRound, Instr.getLoop, Sem.run_bind, hget2, Result.andThen_ok, Sem.run_pure, hset2, hready]
    · show rm.body.wpIn (W (some (φ.blk l))) 0 P _ _ _
      rw [q3.body]
      have S2 : SRel P 0 ψ al.fi.glob al.fi.nt e' (h'.upd l (.loop { a2 with state := .busy })) a' { w' with heap := w'.heap.setIfInBounds (ψ.blk l) (.loop { rm2 with state := .busy }) } := ⟨hS.tm, hS.nt, hS.df.tr K.2, K.1⟩
      refine code_ok (n₀ := 0) hT (ro := some (φ.blk l)) (.inr q3.rnd) hr hb al.body e' _ ψ a' _ l2 _ k1 S2 (Nat.zero_le _) fun χ y a3 w3 hy3 hS3 ht3 hst3 => ?_
      obtain ⟨o4, k3, k4⟩ := k2 y hy3
      obtain ⟨⟨ex3, e3⟩, h3'⟩ := y
      have hd3 : χ.dom l := ht3.le.dom l hd2
      have hbk3 : χ.blk l = φ.blk l := by rw [ht3.le.blk l hd2, hbk]
      have k3 : (match e3.defers with | [] => endRound l ex3 h3' (h3'.objs.get l) | _ => none) = some o4 := k3
      split at k3
      case h_2 => cases k3
      unfold endRound at k3
      split at k3
      case h_2 => cases k3
      rename_i a4 ha4
      obtain ⟨o5, u1, rm4, u2, u3⟩ := hS3.hp.obj l _ hd3 ha4
      subst u2
      rw [hbk3] at u1
      have hget4 := rGetObj (P := P) u1 (by intro _ _ _ e; cases e)
      have TT := ht.trans (K.2.trans ht3)
      have stl : Still w w3 := hst.trans ((⟨rfl, rfl, rfl⟩ : Still w' { w' with heap := w'.heap.setIfInBounds (ψ.blk l) (.loop { rm2 with state := .busy }) }).trans hst3)
      have fin : ∀ (jump : Option Code) (st : LoopState) (b : Bool), jump.isNone = b → (st = if b then .ready else .done) → o4 = [(AVal.bool b, h3'.upd l (.loop { a4 with state := st, pending := jump }))] →
          ∃ v w', (Instr.endRound (φ.blk l) jump).run P w3 = .ok v w' ∧ endR (Good P φ h w outs) (.returned v) w' := by
        intro jump st b hj hst4 ho4
        have hset4 := rSetObj (P := P) (o2 := .loop { rm4 with state := st, pending := jump }) u1 (by intro _ _ _ e; cases e)
        have U : Upd w3.heap (w3.heap.setIfInBounds (φ.blk l) (.loop { rm4 with state := st, pending := jump })) (χ.blk l) (.loop { rm4 with state := st, pending := jump }) := by rw [hbk3]; exact setObj_upd u1
        have K4 := hS3.hp.upd (ob' := .loop { a4 with state := st, pending := jump }) hd3 ha4 U ⟨_, rfl, rfl, rfl, u3.params, u3.assign, u3.body, u3.nt, u3.rnd, u3.tm⟩
        refine ⟨.bool b, { w3 with heap := w3.heap.setIfInBounds (φ.blk l) (.loop { rm4 with state := st, pending := jump }) }, ?_, ?_⟩
        · have hst5 : (if b = true then LoopState.ready else LoopState.done) = st := by rw [hst4]
          simp only [Instr.endRound, Instr.getLoop, Sem.run_bind, hget4, Result.andThen_ok, Sem.run_pure, hj, hst5, hset4]
        · exact ⟨χ, (.bool b, _), h6 _ (k4 _ (by rw [ho4]; exact List.mem_singleton.2 rfl)), K4.1, TT.trans K4.2, .bool b, ⟨stl.os, stl.out, stl.tape⟩⟩
      cases ex3 with
      | normal =>
        have k3 : some [(AVal.bool true, _)] = some o4 := k3
        injection k3 with k3
        exact fin none .ready true rfl rfl k3.symm
      | ret =>
        have k3 : some [(AVal.bool false, _)] = some o4 := k3
        injection k3 with k3
        exact fin (some .ret) .done false rfl rfl k3.symm
      | exit id =>
        have k3 : some [(AVal.bool false, _)] = some o4 := k3
        injection k3 with k3
        exact fin (some (.exit id)) .done false rfl rfl k3.symm
end
end Go.Proofs.YtpjkcfglojigmaaGreatDoor.Ev
namespace Go.Proofs.YtpjkcfglojigmaaGreatDoor.Ev
set_option linter.unusedVariables false
set_option linter.unusedSimpArgs false
open Go

/-! ## what is left alone -/
structure Same (w w' : World) : Prop where
  size : w.heap.size ≤ w'.heap.size
  keep : ∀ b, b < w.heap.size → w'.heap[b]? = w.heap[b]?
  still : Still w w'
theorem HRel.grow {P : Program} {φ : Ren} {h : Heap} {hp hq : Array Obj} (H : HRel P φ h hp) (hs : hp.size ≤ hq.size) (hk : ∀ b, b < hp.size → hq[b]? = hp[b]?) : HRel P φ h hq ∧ Tr φ h hp φ h hq := by
  refine ⟨⟨⟨fun i o hi ho => ?_, H.inj, fun i hi => Nat.lt_of_lt_of_le (H.bd i hi) hs, fun c hc => ⟨(H.fix c hc).1.keep (hk c (H.fix c hc).1.lt), (H.fix c hc).2⟩⟩, H.n, H.top⟩, .refl _, Nat.le_refl _, fun _ h => .inl h, hs, fun b hb _ => hk b hb, fun _ h => .inl h, fun _ _ _ _ h => h⟩
  obtain ⟨o', h1, h2⟩ := H.obj i o hi ho
  exact ⟨o', by rw [hk _ (H.bd i hi)]; exact h1, h2⟩
theorem HRel.same {P : Program} {φ : Ren} {h : Heap} {w w' : World} (H : HRel P φ h w.heap) (s : Same w w') : HRel P φ h w'.heap ∧ Tr φ h w.heap φ h w'.heap := H.grow s.size s.keep

/-! ## functions -/
structure DNop (P : Program) (f : FuncId) : Prop where
  enter : ∀ args w, (callFunc f args).run P w = .ok (.enter f args) w
  go : ∀ args w, CallsDIn (W none) 0 P f args .returning w fun e u' w' => (∃ v, e = .returned v) ∧ u' = .returning ∧ w'.heap = w.heap ∧ Still w w'
def ExtOK (P : Program) (f : FuncId) (x : Ext) : Prop := ∀ (φ : Ren) (h : Heap) (w : World) (args : List AVal) (args' : Array Value) (outs : List (AVal × Heap)), externA x args h = some outs → VRelL φ args args'.toList → HRel P φ h w.heap →
  Res P (Good P φ h w outs) ((callFunc f args').run P w)
def SumOK (P : Program) (f : FuncId) (s : SumK) : Prop := ∀ (args : List AVal) (v : AVal) (φ : Ren) (args' : Array Value) (w : World), s.f args = some v → VRelL φ args args'.toList → (∀ b, MaxG P b → IntAt w.heap b) →
  CallsIn (W none) 0 P f args' w (endR fun x w' => VRel φ v x ∧ Same w w')
def CPOK (P : Program) (f : FuncId) (c : CP) : Prop := ∀ (φ : Ren) (args' : Array Value) (w : World), VRelL φ c.args args'.toList → HRel P φ c.hin w.heap → CallsIn (W none) 0 P f args' w (endR (Good P φ c.hin w [(c.v, c.hout)]))
structure PgOK (P : Program) (pg : Pg) : Prop where
  types : TTok P pg.types
  funcs : ∀ f fn, pg.funcs.get f = some fn → P.funcs[f]? = some fn
  named : ∀ f fn, pg.funcs.get f = some fn → (fn.name == "runtime.NumGoroutine") = false
  exts : ∀ f fn x, pg.funcs.get f = some fn → fn.body = none → pg.exts.get f = some x → ExtOK P f x
  dnop : ∀ f, pg.dnop.get f = some () → DNop P f
  sums : ∀ f fn s, pg.funcs.get f = some fn → pg.sums.get f = some s → fn.body.isSome = true ∧ SumOK P f s
  cps : ∀ f l c, pg.cps.get f = some l → c ∈ l → ∃ fn, pg.funcs.get f = some fn ∧ fn.body.isSome = true ∧ CPOK P f c
  frs : ∀ f l c, pg.frs.get f = some l → c ∈ l → ∃ fn, pg.funcs.get f = some fn ∧ fn.body.isSome = true ∧ CPOK P f c
  picks : ∀ f p args h c, pg.picks.get f = some p → p.f args h = some c → ∃ fn, pg.funcs.get f = some fn ∧ fn.body.isSome = true ∧ CPOK P f c
section
variable {P : Program} {tt : TT} {pg : Pg}
theorem PgOK.enter (G : PgOK P pg) {f : FuncId} {fn : Func} (hf : pg.funcs.get f = some fn) (hb : fn.body.isSome = true) (args : Array Value) (w : World) : (callFunc f args).run P w = .ok (.enter f args) w := by
  have h1 := G.funcs f fn hf
  have h2 := G.named f fn hf
  have h3 : fn.body.isNone = false := by cases hq : fn.body <;> simp_all
  simp only [callFunc, Sem.run_bind, run_program, Result.andThen_ok, h1, h2, h3, Bool.false_eq_true, if_false, Sem.run_pure]
/-- the results of a function -/
theorem rk_ok (hT : TTok P tt) {glob : Nat} {φ : Ren} {ρ : T AVal} {h : Heap} {tmps : Array Value} (ht : TmRel φ glob ρ tmps) {x : ResultVar} {v : AVal} (hv : (rk glob tt x).get ρ h = some v) {w : World} (H : HRelR P φ h w.heap) :
    ∃ y, ((match x with | .tmp t => pure (tmps.getD t undef) | .cell a t => do loadVar t (← asAddr (tmps.getD a undef)) : Sem Value)).run P w = .ok y w ∧ VRel φ v y := by
  cases x with
  | tmp t =>
    have hv : some ((vTmpS ⟨glob, [], false⟩ t).get [] ρ) = some v := hv
    injection hv with hv
    exact ⟨_, rfl, by rw [← hv]; exact vTmpS_rel (LRel.start ht) t⟩
  | cell a t =>
    have hv : (match tt.get t with | some i => (⟨fun ρ h => loadV i h ((vTmpS ⟨glob, [], false⟩ a).get [] ρ)⟩ : RK) | none => ⟨fun _ _ => none⟩).get ρ h = some v := hv
    cases hi : tt.get t with
    | none => rw [hi] at hv; cases hv
    | some i =>
      rw [hi] at hv
      obtain ⟨k⟩ := hT t i hi
      obtain ⟨ad, y, h1, h2, h3⟩ := loadV_ok k H (vTmpS_rel (LRel.start (rnd := false) ht) a) (show loadV i h ((vTmpS ⟨glob, [], false⟩ a).get [] ρ) = some v from hv)
      refine ⟨y, ?_, h3⟩
      have has : (asAddr (.pointer (some ad))).run P w = .ok ad w := rfl
      simp only [h1, Sem.run_bind, has, Result.andThen_ok, h2]
theorem resL_ok (hT : TTok P tt) {glob : Nat} {φ : Ren} {ρ : T AVal} {h : Heap} {tmps : Array Value} (ht : TmRel φ glob ρ tmps) {w : World} (H : HRelR P φ h w.heap) : ∀ (l : List ResultVar) (vs : List AVal), resL glob tt ρ h l = some vs →
    ∃ ys : List Value, (l.mapM fun (x : ResultVar) => (match x with | .tmp t => pure (tmps.getD t undef) | .cell a t => do loadVar t (← asAddr (tmps.getD a undef)) : Sem Value)).run P w = .ok ys w ∧ VRelL φ vs ys
  | [], vs, hv => by
    have hv : some [] = some vs := hv
    injection hv with hv; subst hv
    exact ⟨[], by simp, .nil⟩
  | x :: l, vs, hv => by
    obtain ⟨v, h1, h2⟩ := ob_some (show ob ((rk glob tt x).get ρ h) (fun v => ob (resL glob tt ρ h l) fun vs => some (v :: vs)) = some vs from hv)
    obtain ⟨us, h3, h4⟩ := ob_some h2
    injection h4 with h4; subst h4
    obtain ⟨y, g1, g2⟩ := rk_ok hT ht h1 H
    obtain ⟨ys, g3, g4⟩ := resL_ok hT ht H l us h3
    refine ⟨y :: ys, ?_, .cons _ _ _ _ g2 g4⟩
    rw [List.mapM_cons]
    simp only [Sem.run_bind, g1, Result.andThen_ok, g3, Sem.run_pure]
theorem results_ok (hT : TTok P tt) {glob : Nat} {φ : Ren} {ρ : T AVal} {h : Heap} {tmps : Array Value} (ht : TmRel φ glob ρ tmps) {fn : Func} {vs : List AVal} (hv : resL glob tt ρ h fn.results.toList = some vs) {w : World} (H : HRelR P φ h w.heap) :
    ∃ y, (results fn tmps).run P w = .ok y w ∧ VRel φ (packR vs) y := by
  obtain ⟨ys, h1, h2⟩ := resL_ok hT ht H _ vs hv
  refine ⟨if h : ys.toArray.size = 1 then ys.toArray[0] else .tuple ys.toArray, ?_, ?_⟩
  · unfold results
    rw [Array.mapM_eq_mapM_toList]
    simp only [bind_map_left, Sem.run_bind, Sem.run_pure]
    exact congrArg (fun r : Result (List Value) => r.andThen fun a w' => Result.ok (if h : a.toArray.size = 1 then a.toArray[0] else .tuple a.toArray) w') h1
  · cases h2 with
    | nil => exact .tuple _ _ .nil
    | cons v x l xs hx hl =>
      cases hl with
      | nil => exact hx
      | cons v2 x2 l2 xs2 hx2 hl2 => exact .tuple _ _ (.cons _ _ _ _ hx (.cons _ _ _ _ hx2 hl2))
end
end Go.Proofs.YtpjkcfglojigmaaGreatDoor.Ev
namespace Go.Proofs.YtpjkcfglojigmaaGreatDoor.Ev
set_option linter.unusedVariables false
set_option linter.unusedSimpArgs false
open Go
theorem callsDIn_W {n n' : Nat} {P : Program} {f : FuncId} {args : Array Value} {u : FrameMode} {w : World} {R : Ending → FrameMode → World → Prop} (h : CallsDIn (W none) n P f args u w R) : CallsDIn (W none) n' P f args u w R :=
  ⟨trivial, fun c cs hu _ => h.2 c cs hu (W_room _ _)⟩
/-- a block that came behind the beginning changes -/
theorem Tr.late {φ₀ φ : Ren} {h₀ h : Heap} {hp₀ hp hq : Array Obj} (t : Tr φ₀ h₀ hp₀ φ h hp) {b : Nat} {o : Obj} (hb : hp₀.size ≤ b) (U : Upd hp hq b o) : Tr φ₀ h₀ hp₀ φ h hq :=
  ⟨t.le, t.next, t.dom, by rw [U.size]; exact t.size, fun k hk hno => by rw [U.other k (by omega)]; exact t.keep k hk hno, t.new, t.stay⟩
section
variable {P : Program} {tt : TT} {pg : Pg}
theorem leaves_ok (hT : TTok P tt) {dn : T Unit} (hdn : ∀ f, dn.get f = some () → DNop P f) {fn : Func} {glob n₀ : Nat} {φ₀ : Ren} {h₀ : Heap} {w₀ : World} (hn : n₀ = w₀.heap.size) {φ : Ren} {ρ : T AVal} {h : Heap} {tmps : Array Value} (ht : TmRel φ glob ρ tmps) {vs : List AVal} (hv : resL glob tt ρ h fn.results.toList = some vs) {outs : List (AVal × Heap)} (ho : (packR vs, h) ∈ outs) :
    ∀ (ds : List Deferred) (eds : List (AVal × List AVal)) (w : World), DRel n₀ φ h w.heap eds ds → defersOk dn eds = some () → HRel P φ h w.heap → Tr φ₀ h₀ w₀.heap φ h w.heap → Still w₀ w →
      LeavesInM (W none) 0 P fn tmps (endR (Good P φ₀ h₀ w₀ outs)) ds .returning w
  | [], eds, w, _, _, H, t, s => by
    obtain ⟨y, h1, h2⟩ := results_ok hT ht hv H.toHRelR
    exact ⟨y, h1, φ, _, ho, H, t, h2, s⟩
  | d :: ds, eds, w, D, hd, H, t, s => by
    refine ⟨by simp, ?_⟩
    rcases D with ⟨r, g1, g2, g3, g4⟩ | ⟨x, eds', g1, g2, g3, g4⟩
    · left
      have hget := rGetObj (P := P) g2.2.1 (by intro _ _ _ e; cases e)
      have hset := rSetObj (P := P) (o2 := .deferred none) g2.2.1 (by intro _ _ _ e; cases e)
      have U := setObj_upd (o2 := .deferred none) g2.2.1
      refine ⟨r, { w with heap := w.heap.setIfInBounds r (.deferred none) }, g1, ?_, ?_⟩
      · simp only [Instr.takeDeferred, Sem.run_bind, hget, Result.andThen_ok, hset, Sem.run_pure]
      · have H2 : HRel P φ h (w.heap.setIfInBounds r (.deferred none)) := H.other (b := r) (Nat.le_of_eq U.size.symm) (fun k hk _ => U.other k hk) g2.2.2 (fun hc => by
          obtain ⟨m, cc, et, fz, k1, k2⟩ := (H.fix r hc).1
          rw [g2.2.1] at k1; cases k1)
        have D2 : ∀ {eds : List (AVal × List AVal)} {ds : List Deferred}, (∀ d' ∈ ds, d'.target ≠ .collected r) → DRel n₀ φ h w.heap eds ds → DRel n₀ φ h (w.heap.setIfInBounds r (.deferred none)) eds ds := by
          intro eds ds
          induction ds generalizing eds with
          | nil => exact fun _ h => h
          | cons d ds ih =>
            intro hne hd
            rcases hd with ⟨q, k1, k2, k3, k4⟩ | ⟨x, eds', k1, k2, k3, k4⟩
            · refine .inl ⟨q, k1, ⟨k2.1, ?_, k2.2.2⟩, k3, ih (fun d' hd' => hne d' (List.mem_cons_of_mem _ hd')) k4⟩
              rw [U.other q (fun e => hne d List.mem_cons_self (by rw [k1, e]))]
              exact k2.2.1
            · exact .inr ⟨x, eds', k1, k2, k3, ih (fun d' hd' => hne d' (List.mem_cons_of_mem _ hd')) k4⟩
        exact leaves_ok hT hdn hn ht hv ho ds eds { w with heap := w.heap.setIfInBounds r (.deferred none) } (D2 g3 g4) hd H2 (t.late (by rw [← hn]; exact g2.1) U) ⟨s.os, s.out, s.tape⟩
    · right
      subst g1
      obtain ⟨_, hd1, hd2⟩ := ob_some (show ob (deferOk dn x.1) (fun _ => defersOk dn eds') = some () from hd)
      obtain ⟨xv, xl⟩ := x
      have hd1 : deferOk dn xv = some _ := hd1
      unfold deferOk at hd1
      split at hd1
      case h_2 => cases hd1
      rename_i ga gb gfn
      split at hd1
      case h_2 => cases hd1
      rename_i f
      have hdf : dn.get f = some () := hd1
      obtain ⟨cap, hcap⟩ := g2 f ga gb rfl
      have N := hdn f hdf
      refine ⟨fun h => (by cases h), .func f, cap, f, d.args ++ cap, hcap, ?_, fun _ _ => trivial, ?_⟩
      · rw [hcap]; exact N.enter _ _
      · refine callsDIn_W ((N.go (d.args ++ cap) w).mono fun e u' w' he => ?_)
        obtain ⟨⟨v, rfl⟩, rfl, h3, h4⟩ := he
        exact leaves_ok hT hdn hn ht hv ho ds eds' w' (by rw [h3]; exact g4) hd2 (by rw [h3]; exact H) (by rw [h3]; exact t) (s.trans h4)
theorem body_ok (G : PgOK P pg) {r : Rt} (hr : RtOK P r.call) (hb : BodyOK P r.call) {f : FuncId} {fn : Func} {c : Code} (hf : pg.funcs.get f = some fn) (hbd : fn.body = some c) {fi : FI} (hnt : fi.nt = fn.ntmps) {φ : Ren} {h : Heap} {w : World} {args : List AVal} {args' : Array Value} {outs : List (AVal × Heap)}
    (hrun : (fBody pg.dnop fi.glob pg.types (codeK fi pg.types c) fn.results.toList).run r args h = some outs) (ha : VRelL φ args args'.toList) (H : HRel P φ h w.heap) : CallsIn (W none) 0 P f args' w (endR (Good P φ h w outs)) := by
  obtain ⟨l, h1, h2⟩ := bindM_some (show bindM ((codeK fi pg.types c).run r ⟨T.ofList args, []⟩ h) (finish pg.dnop fi.glob pg.types fn.results.toList) = some outs from hrun)
  refine callsIn_of_wp_marks (G.funcs f fn hf) hbd trivial ?_
  have S : SRel P w.heap.size φ fi.glob fi.nt ⟨T.ofList args, []⟩ h { tmps := args' ++ Array.replicate (fn.ntmps - args'.size) undef, defers := [] } w := by
    refine ⟨fun t v hv _ => ?_, by rw [hnt]; simp; omega, rfl, H⟩
    have hv := T.get_ofList hv
    obtain ⟨x, hx, hr⟩ := ha.get t v hv
    have hlt : t < args'.size := by simpa using (List.getElem?_eq_some_iff.1 hx).1
    have hx2 : args'[t]? = some x := by simpa using hx
    rw [Array.getD_eq_getD_getElem?, Array.getElem?_append_left hlt, hx2]
    exact hr
  refine code_ok (n₀ := w.heap.size) G.types (ro := none) (.inl rfl) hr hb c ⟨T.ofList args, []⟩ h φ _ w l _ h1 S (Nat.le_refl _) fun ψ x a' w' hx hS ht hst => ?_
  obtain ⟨o, h3, h4⟩ := h2 x hx
  obtain ⟨⟨ex, e'⟩, h'⟩ := x
  have fin : ex ≠ .exit 0 ∨ True → ob (defersOk pg.dnop e'.defers) (fun _ => resOf fi.glob pg.types fn.results.toList e' h') = some o → LeavesInM (W none) 0 P fn a'.tmps (endR (Good P φ h w outs)) a'.defers .returning w' := by
    intro _ h5
    obtain ⟨_, h6, h7⟩ := ob_some h5
    have h7 : (match resL fi.glob pg.types e'.tmps h' fn.results.toList with | some vs => ret1 (packR vs) h' | none => none) = some o := h7
    cases hv : resL fi.glob pg.types e'.tmps h' fn.results.toList with
    | none => rw [hv] at h7; cases h7
    | some vs =>
      rw [hv] at h7
      have h7 : some [(packR vs, h')] = some o := h7
      injection h7 with h7
      exact leaves_ok G.types G.dnop rfl hS.tm hv (h4 _ (by rw [← h7]; exact List.mem_singleton.2 rfl)) a'.defers e'.defers w' hS.df h6 hS.hp ht hst
  cases ex with
  | exit id => cases h3
  | normal => exact fin (.inr trivial) h3
  | ret => exact fin (.inr trivial) h3
/-- every call is sound -/
theorem call_ok (G : PgOK P pg) : ∀ n, RtOK P (call pg n) ∧ BodyOK P (call pg n)
  | 0 => ⟨⟨fun f φ h w args args' outs hc => (by cases hc), fun l φ h w args args' outs _ hc => (by cases hc)⟩, fun f φ h w args args' outs hc => (by cases hc)⟩
  | n + 1 => by
    obtain ⟨ih1, ih2⟩ := call_ok G n
    have fkr : ∀ (f : FuncId) (fn : Func) (c : Code) (φ : Ren) (h : Heap) (w : World) (args : List AVal) (args' : Array Value) (outs : List (AVal × Heap)), pg.funcs.get f = some fn → fn.body = some c → (pg.fk f).run ⟨call pg n, []⟩ args h = some outs → VRelL φ args args'.toList → HRel P φ h w.heap →
        CallsIn (W none) 0 P f args' w (endR (Good P φ h w outs)) := by
      intro f fn c φ h w args args' outs hf hb hrun ha H
      unfold Pg.fk at hrun
      rw [hf] at hrun
      have hk : fnK pg.dnop (fiOf fn.ntmps (pg.marks.get f) (pg.infos.get f)) pg.types fn (pg.exts.get f) = fBody pg.dnop (fiOf fn.ntmps (pg.marks.get f) (pg.infos.get f)).glob pg.types (codeK (fiOf fn.ntmps (pg.marks.get f) (pg.infos.get f)) pg.types c) fn.results.toList := by
        unfold fnK; rw [hb]
      have hrun : (withSum (fnK pg.dnop (fiOf fn.ntmps (pg.marks.get f) (pg.infos.get f)) pg.types fn (pg.exts.get f)) (pg.sums.get f)).run ⟨call pg n, []⟩ args h = some outs := hrun
      rw [hk] at hrun
      have hnt : (fiOf fn.ntmps (pg.marks.get f) (pg.infos.get f)).nt = fn.ntmps := by unfold fiOf; split <;> rfl
      cases hs : pg.sums.get f with
      | none =>
        rw [hs] at hrun
        exact body_ok G ih1 ih2 hf hb hnt hrun ha H
      | some s =>
        rw [hs] at hrun
        have hrun : sumRun s _ ⟨call pg n, []⟩ args h = some outs := hrun
        unfold sumRun at hrun
        split at hrun
        · rename_i v hv
          have hrun : some [(v, h)] = some outs := hrun
          injection hrun with hrun
          refine CallsIn.mono ((G.sums f fn s hf hs).2 args v φ args' w hv ha fun b hb => (H.fix b hb).1) (endR_mono fun x w' ⟨h1, h2⟩ => ?_)
          obtain ⟨g1, g2⟩ := H.same h2
          exact ⟨φ, (v, h), by rw [← hrun]; exact List.mem_singleton.2 rfl, g1, g2, h1, h2.still⟩
        · exact body_ok G ih1 ih2 hf hb hnt hrun ha H
    have fnr : ∀ (f : FuncId) (φ : Ren) (h : Heap) (w : World) (args : List AVal) (args' : Array Value) (outs : List (AVal × Heap)), (pg.fk f).run ⟨call pg n, []⟩ args h = some outs → VRelL φ args args'.toList → HRel P φ h w.heap → Res P (Good P φ h w outs) ((callFunc f args').run P w) := by
      intro f φ h w args args' outs hc ha H
      cases hf : pg.funcs.get f with
      | none => unfold Pg.fk at hc; rw [hf] at hc; cases hc
      | some fn =>
        cases hb : fn.body with
        | some c =>
          rw [G.enter hf (by rw [hb]; rfl)]
          exact fkr f fn c φ h w args args' outs hf hb hc ha H
        | none =>
          unfold Pg.fk at hc
          rw [hf] at hc
          have hc : (withSum (fnK pg.dnop (fiOf fn.ntmps (pg.marks.get f) (pg.infos.get f)) pg.types fn (pg.exts.get f)) (pg.sums.get f)).run ⟨call pg n, []⟩ args h = some outs := hc
          cases hs : pg.sums.get f with
          | some s => have := (G.sums f fn s hf hs).1; rw [hb] at this; cases this
          | none =>
            rw [hs] at hc
            have hc : (fnK pg.dnop (fiOf fn.ntmps (pg.marks.get f) (pg.infos.get f)) pg.types fn (pg.exts.get f)).run ⟨call pg n, []⟩ args h = some outs := hc
            unfold fnK at hc
            rw [hb] at hc
            cases hx : pg.exts.get f with
            | none => rw [hx] at hc; cases hc
            | some x =>
              rw [hx] at hc
              exact G.exts f fn x hf hb hx φ h w args args' outs hc ha H
    refine ⟨⟨fun f φ h w args args' outs hc ha H => ?_, fun l φ h w args args' outs hd hc ha H => round_ok G.types ih1 ih2 hd hc ha H⟩, fun f φ h w args args' outs hc ha H => ?_⟩
    · have hc : withPick args h (withFr args h (withCP args h (mergeIf (Nat.testBit (markOf (pg.marks.get f)) 0) (padM (pg.pads.get f) h.next ((pg.fk f).run ⟨call pg n, []⟩ args (alignH h (pg.aligns.get f))))) (pg.cps.get f)) (pg.frs.get f)) (pg.picks.get f) = some outs := hc
      rcases withPick_some hc with hc | ⟨p, c, k1, k2, k3, k4, k5⟩
      · rcases withFr_some hc with hc | ⟨l, c, k1, k2, k3, k4, k5⟩
        · rcases withCP_some hc with hc | ⟨l, c, k1, k2, k3, k4, k5⟩
          · obtain ⟨l, h1, h2⟩ := mergeIf_some hc
            obtain ⟨l2, h3, h4⟩ := padM_some h1
            have A := alignH_less h (pg.aligns.get f)
            exact Res.mono (fun v w' g => ((g.from A).less fun r hr => let ⟨r', a1, a2, a3⟩ := h4 r hr; ⟨r', a1, a2, a3⟩).less h2) (fnr f φ _ w args args' l2 h3 ha (H.less A))
          · obtain ⟨fn, hf, hb, hk⟩ := G.cps f l c k1 k2
            subst k5; subst k3
            rw [G.enter hf hb]
            exact CallsIn.mono (hk φ args' w ha (H.less k4)) (endR_mono fun x w' g => g.from k4)
        · obtain ⟨fn, hf, hb, hk⟩ := G.frs f l c k1 k2
          subst k5; subst k3
          rw [G.enter hf hb]
          exact CallsIn.mono (hk φ args' w ha (H.less k4)) (endR_mono fun x w' g => g.frame k4 H)
      · obtain ⟨fn, hf, hb, hk⟩ := G.picks f p args h c k1 k2
        subst k5; subst k3
        rw [G.enter hf hb]
        exact CallsIn.mono (hk φ args' w ha (H.less k4)) (endR_mono fun x w' g => g.frame k4 H)
    · obtain ⟨h1, h2⟩ := when_some (show when (hasBody (pg.funcs.get f)) ((pg.fk f).run ⟨call pg n, []⟩ args h) = some outs from hc)
      cases hf : pg.funcs.get f with
      | none => rw [hf] at h1; cases h1
      | some fn =>
        rw [hf] at h1
        cases hb : fn.body with
        | none =>
          have h1 : (match fn.body with | some _ => true | none => false) = true := h1
          rw [hb] at h1; cases h1
        | some c => exact ⟨G.enter hf (by rw [hb]; rfl) _ _, fkr f fn c φ h w args args' outs hf hb h2 ha H⟩
end
end Go.Proofs.YtpjkcfglojigmaaGreatDoor.Ev
