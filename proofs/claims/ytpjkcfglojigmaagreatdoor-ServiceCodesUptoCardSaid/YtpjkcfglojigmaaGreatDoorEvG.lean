/- An evaluator over abstract values and the proof that what it reckons is what the model's calls do: part 7 of 9. -/
import Derived.Test.YtpjkcfglojigmaaGreatDoorEvF
namespace Go.Proofs.YtpjkcfglojigmaaGreatDoor.Ev
set_option linter.unusedVariables false
set_option linter.unusedSimpArgs false
open Go
theorem pw {α : Type} {R : α → α → Prop} (hs : ∀ x y, R x y → R y x) : ∀ {l : List α}, l.Pairwise R → ∀ x ∈ l, ∀ y ∈ l, x ≠ y → R x y
  | [], _, x, hx, _, _, _ => by cases hx
  | z :: l, h, x, hx, y, hy, hne => by
    obtain ⟨h1, h2⟩ := List.pairwise_cons.1 h
    rcases List.mem_cons.1 hx with ex | hx2 <;> rcases List.mem_cons.1 hy with ey | hy2
    · exact absurd (ex.trans ey.symm) hne
    · rw [ex]; exact h1 y hy2
    · rw [ey]; exact hs _ _ (h1 x hx2)
    · exact pw hs h2 x hx2 y hy2 hne
section
variable {P : Program} {n₀ : Nat} {tt : TT} {fi : FI} {ops : Array Oper} {base : Nat → AVal} {φ₀ : Ren} {h₀ : Heap} {w₀ : World} {ed : List (AVal × List AVal)} {ad : List Deferred}
  {S D : Nat} {R : List (Nat × Nat)} {V : Nat → AVal} {T : List TE} {st : List Tmp} {vs : List AVal} {e : Env} {h : Heap} {pend : List Pend} {φ : Ren} {a : Act} {w : World}
theorem sBit (i S j : Nat) : (Nat.lor (bit1 i) S).testBit j = true ↔ (i = j ∨ S.testBit j = true) := by rw [lor_test, bit1_test]; simp
theorem sBitF (i S j : Nat) : (Nat.lor (bit1 i) S).testBit j = false ↔ (i ≠ j ∧ S.testBit j = false) := by rw [lor_test, bit1_test]; simp
/-- the machine does what the evaluator has done before -/
theorem t_step (hdst : ∀ j o d, ops[j]? = some o → o.dst = some d → wrOf d ops.toList 0 = some j) (I : Inv P fi ops base φ₀ h₀ w₀ ed ad S D R V T st vs e h pend φ a w) {x : TE} (hx : x ∈ T)
    (hp : ∀ j, (preds x.o.after.toList).testBit j = true → S.testBit j = true) {ro : Option Nat} {K : Act → World → Prop} (Q : Exit → Act → World → Prop)
    (hK : ∀ φ' a' w', Inv P fi ops base φ₀ h₀ w₀ ed ad (Nat.lor (bit1 x.i) S) D R V (T.filter fun z => z.i != x.i) st vs e h pend φ' a' w' → K a' w') : wpOpIn (W ro) 0 P ops Q x.i K a w := by
  have F := I.tf x hx
  have F2 := I.kf x hx
  have memT : ∀ z, z ∈ T.filter (fun z => z.i != x.i) ↔ z ∈ T ∧ z.i ≠ x.i := by intro z; simp [List.mem_filter]
  have fin : ∀ φ' w' y, HRel P φ' h w'.heap → Tr φ₀ h₀ w₀.heap φ' h w'.heap → Still w₀ w' → φ.le φ' → VRel φ' x.v y → (∀ id, φ'.dom id → φ.dom id ∨ ∃ ob, x.k = .own id ob) → K (a.put x.o.dst y) w' := by
    intro φ' w' y H T' s le hv hdom
    obtain ⟨m1, m2, m3, m4⟩ := put_mf (base := base) (S := S) (V := V) (φ := φ') (y := y) hdst F.op F.dlt I.nt (by rw [F.val]; exact hv) (fun t j h1 h2 => (I.mfW t j h1 h2).mono le) (fun t h1 => (I.mfB t h1).mono le)
    refine hK φ' _ w' ⟨H, T', s, m3, I.ed, m4.trans I.ad, m1, m2, I.enW, I.enB, fun z hz => I.tf z ((memT z).1 hz).1, fun z hz => I.kf z ((memT z).1 hz).1, fun z hz => ?_, I.tnd.filter _, fun z hz id ob hk => ?_, I.ond.filter _, fun i => ?_, fun i o j hi ho hj => ?_, I.dcl⟩
    · obtain ⟨h1, h2⟩ := (memT z).1 hz
      exact (sBitF _ _ _).2 ⟨fun c => h2 c.symm, I.tS z h1⟩
    · obtain ⟨h1, h2⟩ := (memT z).1 hz
      obtain ⟨g1, g2, g3⟩ := I.own z h1 id ob hk
      refine ⟨fun hd => ?_, g2, g3⟩
      rcases hdom id hd with hd | ⟨ob', hd⟩
      · exact g1 hd
      · exact pw (fun x y hxy id ob id' ob' e1 e2 => (hxy id' ob' id ob e2 e1).symm) I.ond z h1 x hx (fun c => h2 (by rw [c])) id ob id ob' hk hd rfl
    · rw [sBit, I.dS]
      constructor
      · rintro (h1 | ⟨z, h1, h2⟩)
        · exact .inl (.inr h1)
        · by_cases hz : z.i = x.i
          · exact .inl (.inl (hz.symm.trans h2))
          · exact .inr ⟨z, (memT z).2 ⟨h1, hz⟩, h2⟩
      · rintro ((h1 | h1) | ⟨z, h1, h2⟩)
        · exact .inr ⟨x, hx, h1⟩
        · exact .inl h1
        · exact .inr ⟨z, ((memT z).1 h1).1, h2⟩
    · rw [sBit] at hi ⊢
      rcases hi with rfl | hi
      · rw [F.op] at ho; injection ho with ho; subst ho
        exact .inr (hp j hj)
      · exact .inr (I.cl i o j hi ho hj)
  unfold wpOpIn
  simp only [F.op]
  -- is it wanted?
  have want : Region.wanted x.o (yielded ops a.tmps) = true ↔ x.k ≠ .skip := by
    cases hg : x.o.guard with
    | none => exact ⟨fun _ => F.noguard hg, fun _ => by simp [Region.wanted, hg]⟩
    | some g =>
      obtain ⟨j, wt⟩ := g
      obtain ⟨h1, h2, d, h3, h4⟩ := F.guard _ hg
      have hd := dstOf_some h3
      obtain ⟨oj, ho, hod⟩ : ∃ oj, ops[j]? = some oj ∧ oj.dst = some d := by
        cases hq : ops[j]? with
        | none => rw [hq] at hd; cases hd
        | some oj => rw [hq] at hd; exact ⟨oj, rfl, hd⟩
      have hv := I.mfW d j (hdst j oj d ho hod) (hp j h1)
      obtain ⟨g1, g2⟩ := guard_ok (want := wt) h3 hv hg
      rcases h4 with ⟨h5, h6⟩ | ⟨h5, h6⟩
      · refine ⟨fun hw => ?_, fun c => absurd h5 c⟩
        exfalso
        rcases h6 with h6 | ⟨b, h6, h7⟩
        · rw [g2 h6] at hw; cases hw
        · rw [g1 b h6, decide_eq_false h7] at hw; cases hw
      · exact ⟨fun _ => h5, fun _ => by rw [g1 _ h6]; simp⟩
  have ov : x.k ≠ .skip → OV φ x.val a x.o := fun hk => I.ov F.op (I.tS x hx) hp (F.opnd hk)
  unfold KF at F2
  split at F2
  · -- pure
    rename_i hk
    obtain ⟨nd, hrun⟩ := F2
    have hns : x.k ≠ .skip := by rw [hk]; simp
    obtain ⟨y, h1, h2⟩ := hrun φ a w (ov hns)
    rw [if_pos (want.2 hns)]
    refine ⟨fun _ _ => trivial, ?_⟩
    rw [Oper.semAt_eq _ _ _ nd, h1]
    exact fin φ w y I.hp I.tr I.still (.refl φ) h2 (fun id hd => .inl hd)
  · -- a read
    rename_i f hk
    obtain ⟨nd, hrun, left, k, h1, h2, _⟩ := F2
    have hns : x.k ≠ .skip := by rw [hk]; simp
    obtain ⟨y, h3, h4⟩ := hrun φ k a w x.v (ov hns) (I.hp.toHRelR.ext h2) h1
    rw [if_pos (want.2 hns)]
    refine ⟨fun _ _ => trivial, ?_⟩
    rw [Oper.semAt_eq _ _ _ nd, h3]
    exact fin φ w y I.hp I.tr I.still (.refl φ) h4 (fun id hd => .inl hd)
  · -- an allocation
    rename_i id ob hk
    obtain ⟨nd, hrun, hob⟩ := F2
    have hns : x.k ≠ .skip := by rw [hk]; simp
    obtain ⟨g1, g2, g3⟩ := I.own x hx id ob hk
    obtain ⟨y, o', w', cap, sz, h1, h2, h3, h4, h5⟩ := hrun φ a w (ov hns) g1
    rw [if_pos (want.2 hns)]
    refine ⟨fun _ _ => trivial, ?_⟩
    rw [Oper.semAt_eq _ _ _ nd, h1]
    have H := I.hp.born (o' := o') (cap := cap) (sz := sz) g1 g3 (fun ob' h' => by rw [hob ob' h']; exact h4)
    have Tb := I.tr.born (o' := o') (cap := cap) (sz := sz) g1 g2
    rw [← h2] at H Tb
    exact fin _ w' y H Tb (I.still.trans h5) (φ.le_add _ _ _ _ _ g1) h3 (fun i hd => by
      rcases hd with rfl | hd
      · exact .inr ⟨ob, hk⟩
      · exact .inl hd)
  · -- not wanted
    rename_i hk
    rw [if_neg (fun c => want.1 c hk)]
    exact ⟨fun _ _ => trivial, fin φ w undef I.hp I.tr I.still (.refl φ) (by rw [F2]; exact skip_rel φ) (fun id hd => .inl hd)⟩
end
end Go.Proofs.YtpjkcfglojigmaaGreatDoor.Ev
namespace Go.Proofs.YtpjkcfglojigmaaGreatDoor.Ev
set_option linter.unusedVariables false
set_option linter.unusedSimpArgs false
open Go
theorem vLoc_ind : ∀ (st : List Tmp) (t : Tmp) (vs : List AVal) (ρ ρ' : T AVal), (vLoc t st).get vs ρ = (vLoc t st).get vs ρ'
  | [], t, vs, ρ, ρ' => rfl
  | d :: st, t, vs, ρ, ρ' => by
    unfold vLoc
    cases Nat.beq d t with
    | true => rfl
    | false => exact vLoc_ind st t (tlA vs) ρ ρ'
/-- a result is bound -/
theorem goK_bind {fi : FI} {dst : Option Tmp} {st : List Tmp} {next : StK} {r : Rt} {vs : List AVal} {e : Env} {h : Heap} {v : AVal} {outs : List (Env × Heap)} (hrun : (goK next (dkOf fi dst)).go r vs e h v = some outs) :
    (∀ d, dst = some d → d < fi.nt) ∧ ∃ vs' e', next.run r vs' e' h = some outs ∧ e'.defers = e.defers ∧
      ∀ t, (dst = some t → Sub ((vTmpS ⟨fi.glob, pushT fi.glob st dst, fi.rnd⟩ t).get vs' e'.tmps) v) ∧
        (dst ≠ some t → Sub ((vTmpS ⟨fi.glob, pushT fi.glob st dst, fi.rnd⟩ t).get vs' e'.tmps) ((vTmpS ⟨fi.glob, st, fi.rnd⟩ t).get vs e.tmps)) := by
  cases dst with
  | none => exact ⟨fun d h => (by cases h), vs, e, hrun, rfl, fun t => ⟨fun h => (by cases h), fun _ => .refl _⟩⟩
  | some d =>
    unfold dkOf at hrun
    simp only at hrun
    rw [blt_dec] at hrun
    by_cases hd : d < fi.nt
    · rw [decide_eq_true hd] at hrun
      simp only at hrun
      refine ⟨fun d' h => (by injection h with h; subst h; exact hd), ?_⟩
      cases hg : Nat.testBit fi.glob d with
      | true =>
        rw [hg] at hrun
        rw [show pushT fi.glob st (some d) = st from by simp only [pushT, hg]]
        refine ⟨vs, ⟨(sk dep d).set (some v) e.tmps, e.defers⟩, hrun, rfl, fun t => ?_⟩
        unfold vTmpS
        cases ht : Nat.testBit fi.glob t with
        | true =>
          show (some d = some t → Sub (dflt ((gk dep t).get ((sk dep d).set (some v) e.tmps))) v) ∧ (some d ≠ some t → Sub (dflt ((gk dep t).get ((sk dep d).set (some v) e.tmps))) (dflt ((gk dep t).get e.tmps)))
          cases hq : (gk dep t).get ((sk dep d).set (some v) e.tmps) with
          | none => exact ⟨fun _ => .inl rfl, fun _ => .inl rfl⟩
          | some y =>
            rcases sk_get (some v) dep d t e.tmps y hq with ⟨h1, h2⟩ | ⟨h1, h2⟩
            · injection h2 with h2; subst h2
              exact ⟨fun _ => .refl _, fun c => absurd (congrArg some h1.symm) c⟩
            · exact ⟨fun c => (by injection c with c; exact absurd c.symm h1), fun _ => by rw [h2]; exact .refl _⟩
        | false =>
          refine ⟨fun c => (by injection c with c; subst c; rw [hg] at ht; cases ht), fun _ => ?_⟩
          exact .inr (vLoc_ind _ _ _ _ _)
      | false =>
        rw [hg] at hrun
        rw [show pushT fi.glob st (some d) = d :: st from by simp only [pushT, hg]]
        refine ⟨v :: vs, e, hrun, rfl, fun t => ?_⟩
        unfold vTmpS
        cases ht : Nat.testBit fi.glob t with
        | true => exact ⟨fun c => (by injection c with c; subst c; rw [hg] at ht; cases ht), fun _ => .refl _⟩
        | false =>
          show (some d = some t → Sub ((vLoc t (d :: st)).get (v :: vs) e.tmps) v) ∧ (some d ≠ some t → Sub ((vLoc t (d :: st)).get (v :: vs) e.tmps) ((vLoc t st).get vs e.tmps))
          rw [show vLoc t (d :: st) = (match Nat.beq d t with | true => vHd | false => vTl (vLoc t st)) from rfl, beq_dec]
          by_cases hdt : d = t
          · rw [decide_eq_true hdt]
            exact ⟨fun _ => .refl _, fun c => absurd (congrArg some hdt) c⟩
          · rw [decide_eq_false hdt]
            exact ⟨fun c => (by injection c with c; exact absurd c hdt), fun _ => .refl _⟩
    · rw [decide_eq_false hd] at hrun
      cases hrun
def updV (V : Nat → AVal) (i : Nat) (v : AVal) : Nat → AVal := fun j => if j = i then v else V j
theorem updV_at (V : Nat → AVal) (i : Nat) (v : AVal) : updV V i v i = v := by simp [updV]
theorem updV_ne {V : Nat → AVal} {i : Nat} {v : AVal} {j : Nat} (h : j ≠ i) : updV V i v j = V j := by simp [updV, h]
section
variable {P : Program} {n₀ : Nat} {tt : TT} {fi : FI} {ops : Array Oper} {base : Nat → AVal} {φ₀ : Ren} {h₀ : Heap} {w₀ : World} {ed : List (AVal × List AVal)} {ad : List Deferred}
  {S D : Nat} {R : List (Nat × Nat)} {V : Nat → AVal} {T : List TE} {st : List Tmp} {vs : List AVal} {e : Env} {h : Heap} {pend : List Pend} {φ : Ren} {a : Act} {w : World}
/-- the evaluator's temporaries behind one more operation -/
theorem env_step (hdst : ∀ j o d, ops[j]? = some o → o.dst = some d → wrOf d ops.toList 0 = some j) (I : Inv P fi ops base φ₀ h₀ w₀ ed ad S D R V T st vs e h pend φ a w) {i : Nat} {o : Oper} (ho : ops[i]? = some o) (hi : D.testBit i = false) {v : AVal} {st' : List Tmp} {vs' : List AVal} {e' : Env}
    (hb : ∀ t, (o.dst = some t → Sub ((vTmpS ⟨fi.glob, st', fi.rnd⟩ t).get vs' e'.tmps) v) ∧ (o.dst ≠ some t → Sub ((vTmpS ⟨fi.glob, st', fi.rnd⟩ t).get vs' e'.tmps) ((vTmpS ⟨fi.glob, st, fi.rnd⟩ t).get vs e.tmps))) :
    (∀ t j, wrOf t ops.toList 0 = some j → (Nat.lor (bit1 i) D).testBit j = true → Sub ((vTmpS ⟨fi.glob, st', fi.rnd⟩ t).get vs' e'.tmps) (updV V i v j)) ∧
    (∀ t, (∀ j, wrOf t ops.toList 0 = some j → (Nat.lor (bit1 i) D).testBit j = false) → Sub ((vTmpS ⟨fi.glob, st', fi.rnd⟩ t).get vs' e'.tmps) (base t)) := by
  refine ⟨fun t j hj hD => ?_, fun t hn => ?_⟩
  · obtain ⟨oj, h1, h2⟩ := wrOf_dst hj
    rcases (sBit _ _ _).1 hD with rfl | hD
    · rw [ho] at h1; injection h1 with h1; subst h1
      rw [updV_at]; exact (hb t).1 h2
    · have hne : j ≠ i := fun c => by rw [c, hi] at hD; cases hD
      rw [updV_ne hne]
      refine ((hb t).2 fun c => ?_).trans (I.enW t j hj hD)
      have := hdst i o t ho c
      rw [hj] at this; injection this with this; exact hne this
  · refine ((hb t).2 fun c => ?_).trans (I.enB t fun j hj => ((sBitF _ _ _).1 (hn j hj)).2)
    have := hn i (hdst i o t ho c)
    exact absurd rfl ((sBitF _ _ _).1 this).1
/-- the operands of an operation of the plan, as they are when the evaluator comes to it -/
theorem opnd_now (I : Inv P fi ops base φ₀ h₀ w₀ ed ad S D R V T st vs e h pend φ a w) {i L : Nat} {o : Oper} (hk : OpOk ops.toList i D L (preds o.after.toList) o) :
    ∀ y ∈ o.op.operands, OpndF ops.toList base V D i (preds o.after.toList) (fun y => (vk ⟨fi.glob, st, fi.rnd⟩ y).get vs e.tmps) y := by
  intro y hy
  cases y with
  | tmp t =>
    show (∃ j, _ ∧ _ ∧ _ ∧ Sub ((vTmpS ⟨fi.glob, st, fi.rnd⟩ t).get vs e.tmps) (V j)) ∨ (Sub ((vTmpS ⟨fi.glob, st, fi.rnd⟩ t).get vs e.tmps) (base t) ∧ _)
    have ht : Operand.tmp t ∈ o.op.operands.toList := by simpa using hy
    cases hw : wrOf t ops.toList 0 with
    | none => exact .inr ⟨I.enB t (fun j hj => by rw [hw] at hj; cases hj), fun j hj => by cases hj⟩
    | some j =>
      rcases hk.opnd t ht j hw with h1 | h1
      · exact .inl ⟨j, rfl, h1, hk.pre j h1, I.enW t j hw (hk.pre j h1)⟩
      · refine .inr ⟨I.enB t fun j' hj' => ?_, fun j' hj' => ?_⟩
        · rw [hw] at hj'; injection hj' with hj'; subst hj'
          cases hD : D.testBit j with
          | false => rfl
          | true =>
            obtain ⟨oj, h2, _⟩ := wrOf_dst hw
            have h5 : ops.toList[j]? = some oj := by simpa using h2
            rw [nth_eq, h5] at h1
            have := I.dcl j oj i hD h2 h1
            rw [hk.new] at this; cases this
        · injection hj' with hj'; subst hj'; exact h1
  | const v => exact fun φ a => ofConst_rel φ v
  | global g => exact fun φ a => .junk _
  | func f => exact fun φ a => .func _ _ _ _ _ _ rfl .nil .nil
end
end Go.Proofs.YtpjkcfglojigmaaGreatDoor.Ev
namespace Go.Proofs.YtpjkcfglojigmaaGreatDoor.Ev
set_option linter.unusedVariables false
set_option linter.unusedSimpArgs false
open Go
section
variable {P : Program} {n₀ : Nat} {tt : TT} {fi : FI} {ops : Array Oper} {base : Nat → AVal} {φ₀ : Ren} {h₀ : Heap} {w₀ : World} {ed : List (AVal × List AVal)} {ad : List Deferred}
  {S D : Nat} {R : List (Nat × Nat)} {V : Nat → AVal} {T : List TE} {st : List Tmp} {vs : List AVal} {e : Env} {h : Heap} {pend : List Pend} {φ : Ren} {a : Act} {w : World}
/-- an operation without effect is done by the evaluator alone -/
theorem stepD_te {sl : SL} {o : Oper} {K : OpK} (hk : KOK P sl o K) (hE : isE K = false) {d : Nat} {k : NK} {call : Callee' → List AVal → Heap → M AVal} {outs : List (Env × Heap)} (hrun : (stepD d k K).run ⟨call, pend⟩ vs e h = some outs) (i : Nat) (R : List (Nat × Nat)) :
    ∃ v h' pend' tk, k.go ⟨call, pend'⟩ vs e h' v = some outs ∧ tk ≠ .skip ∧ ((h' = h ∧ ∀ id ob, tk ≠ .own id ob) ∨ ∃ ob, h' = h.alloc ob ∧ tk = .own h.next ob) ∧ (∀ q ∈ pend, q ∈ pend') ∧
      KF P h' pend' ((i, d) :: R) ⟨i, o, v, fun y => (vk sl y).get vs e.tmps, tk⟩ := by
  cases K with
  | p f =>
    have hrun : nStep k ⟨call, pend⟩ vs e h (f vs e.tmps) = some outs := hrun
    cases hf : f vs e.tmps with
    | none => rw [hf] at hrun; cases hrun
    | some v =>
      rw [hf] at hrun
      rcases hk with hk | ⟨nd, hk⟩
      · rw [hk] at hf; cases hf
      · exact ⟨v, h, pend, .pure, hrun, by simp, .inl ⟨rfl, by simp⟩, fun q hq => hq, nd, fun φ a w ho => hk φ vs e.tmps a w v ho hf⟩
  | n f =>
    obtain ⟨nd, hk⟩ := hk
    have fact : ∀ (φ : Ren) (hh : Heap) (a : Act) (w : World) (u : AVal), OV φ (fun y => (vk sl y).get vs e.tmps) a o → HRelR P φ hh w.heap → f vs e.tmps hh = some u → ∃ y, (execOp a.eval o).run P w = .ok (.value y) w ∧ VRel φ u y :=
      fun φ hh a w u ho H hf => hk φ hh vs e.tmps a w u ho H hf
    cases d with
    | zero =>
      have hrun : nStep k ⟨call, pend⟩ vs e h (f vs e.tmps h) = some outs := hrun
      cases hf : f vs e.tmps h with
      | none => rw [hf] at hrun; cases hrun
      | some v =>
        rw [hf] at hrun
        exact ⟨v, h, pend, .read (f vs e.tmps), hrun, by simp, .inl ⟨rfl, by simp⟩, fun q hq => hq, nd, fact, 0, h, hf, .refl h, by simp, .inl rfl⟩
    | succ d =>
      have hrun : nStepD (Nat.succ d) k ⟨call, pend⟩ vs e h (f vs e.tmps) (f vs e.tmps h) = some outs := hrun
      cases hf : f vs e.tmps h with
      | none => rw [hf] at hrun; cases hrun
      | some v =>
        rw [hf] at hrun
        exact ⟨v, h, ⟨f vs e.tmps, v, d + 1⟩ :: pend, .read (f vs e.tmps), hrun, by simp, .inl ⟨rfl, by simp⟩, fun q hq => by simp [hq], nd, fact, d + 1, h, hf, .refl h, by simp, .inr (by simp)⟩
  | u f =>
    have hrun : nStep k ⟨call, pend⟩ vs e h (ob (f vs e.tmps) noOpen) = some outs := hrun
    cases hf : ob (f vs e.tmps) noOpen with
    | none => rw [hf] at hrun; cases hrun
    | some v =>
      rw [hf] at hrun
      obtain ⟨v0, h1, h2⟩ := ob_some hf
      have : v0 = v := by
        unfold noOpen at h2
        split at h2
        · cases h2
        · injection h2
      subst this
      obtain ⟨nd, hk⟩ := hk
      exact ⟨v0, h, pend, .pure, hrun, by simp, .inl ⟨rfl, by simp⟩, fun q hq => hq, nd, fun φ a w ho => hk φ vs e.tmps a w v0 ho h1⟩
  | a f =>
    have hrun : aStep k ⟨call, pend⟩ vs e h (f vs e.tmps h.next) = some outs := hrun
    cases hf : f vs e.tmps h.next with
    | none => rw [hf] at hrun; cases hrun
    | some x =>
      rw [hf] at hrun
      obtain ⟨ob, v⟩ := x
      obtain ⟨nd, hk⟩ := hk
      refine ⟨v, h.alloc ob, pend, .own h.next ob, hrun, by simp, .inr ⟨ob, rfl, rfl⟩, fun q hq => hq, nd, fun φ a w ho hd => hk φ vs e.tmps a w h.next ob v ho hd hf, fun ob' h' => ?_⟩
      rw [Heap.alloc_objs] at h'
      rcases T.get_put h' with ⟨_, e1⟩ | ⟨e1, _⟩
      · exact e1
      · exact absurd rfl e1
  | e f => cases hE
  | d f => cases hrun
/-- one pending operation more -/
theorem add_te (hdst : ∀ j o d, ops[j]? = some o → o.dst = some d → wrOf d ops.toList 0 = some j) (I : Inv P fi ops base φ₀ h₀ w₀ ed ad S D R V T st vs e h pend φ a w) {i L d : Nat} {o : Oper} (ho : ops[i]? = some o)
    (hk : OpOk ops.toList i D L (preds o.after.toList) o) {v : AVal} {st' : List Tmp} {vs' : List AVal} {e' : Env} {h' : Heap} {pend' : List Pend} {tk : TK} (hlt : ∀ d, o.dst = some d → d < fi.nt)
    (hb : ∀ t, (o.dst = some t → Sub ((vTmpS ⟨fi.glob, st', fi.rnd⟩ t).get vs' e'.tmps) v) ∧ (o.dst ≠ some t → Sub ((vTmpS ⟨fi.glob, st', fi.rnd⟩ t).get vs' e'.tmps) ((vTmpS ⟨fi.glob, st, fi.rnd⟩ t).get vs e.tmps)))
    (hed : e'.defers = e.defers) (hh : (h' = h ∧ ∀ id ob, tk ≠ .own id ob) ∨ ∃ ob, h' = h.alloc ob ∧ tk = .own h.next ob) (hp : ∀ q ∈ pend, q ∈ pend')
    (kf : KF P h' pend' ((i, d) :: R) ⟨i, o, v, fun y => (vk ⟨fi.glob, st, fi.rnd⟩ y).get vs e.tmps, tk⟩)
    (hg : ∀ g, o.guard = some g → ∃ d, dstOf ops.toList g.1 = some d ∧ ((tk = .skip ∧ (V g.1 = .tuple [] ∨ ∃ b, V g.1 = .bool b ∧ b ≠ g.2)) ∨ (tk ≠ .skip ∧ V g.1 = .bool g.2)))
    (hng : o.guard = none → tk ≠ .skip) :
    Inv P fi ops base φ₀ h₀ w₀ ed ad S (Nat.lor (bit1 i) D) ((i, d) :: R) (updV V i v) (⟨i, o, v, fun y => (vk ⟨fi.glob, st, fi.rnd⟩ y).get vs e.tmps, tk⟩ :: T) st' vs' e' h' pend' φ a w := by
  have SD : ∀ j, S.testBit j = true → D.testBit j = true := fun j hj => (I.dS j).2 (.inl hj)
  have hSi : S.testBit i = false := by
    cases hs : S.testBit i with
    | false => rfl
    | true => exact absurd (SD i hs) (by rw [hk.new]; simp)
  have DD : ∀ j, D.testBit j = true → (Nat.lor (bit1 i) D).testBit j = true := fun j hj => (sBit _ _ _).2 (.inr hj)
  have Dne : ∀ j, D.testBit j = true → j ≠ i := fun j hj c => by rw [c, hk.new] at hj; cases hj
  have VV : ∀ j, D.testBit j = true → updV V i v j = V j := fun j hj => updV_ne (Dne j hj)
  have hHT : HRel P φ h' w.heap ∧ Tr φ₀ h₀ w₀.heap φ h' w.heap ∧ h.next ≤ h'.next ∧ Grw h h' ∧ (∀ id ob, id < h.next → h'.objs.get id = some ob → h.objs.get id = some ob) := by
    rcases hh with ⟨rfl, _⟩ | ⟨ob, rfl, _⟩
    · exact ⟨I.hp, I.tr, Nat.le_refl _, .refl _, fun _ _ _ h => h⟩
    · refine ⟨I.hp.pend ob, I.tr.trans (Tr.pend I.hp ob), by rw [Heap.alloc_next]; exact Nat.le_succ _, .alloc I.hp.top ob, fun id ob' hl hob => ?_⟩
      rw [Heap.alloc_objs, Ev.T.get_put_ne (Nat.ne_of_lt hl)] at hob
      exact hob
  obtain ⟨hH, hT, hnx, hgr, hold⟩ := hHT
  obtain ⟨e1, e2⟩ := env_step hdst I ho hk.new hb
  refine ⟨hH, hT, I.still, I.nt, hed.trans I.ed, I.ad, fun t j hj hs => by rw [VV j (SD j hs)]; exact I.mfW t j hj hs, I.mfB, e1, e2, fun x hx => ?_, fun x hx => ?_, fun x hx => ?_, ?_, fun x hx id ob hxk => ?_, ?_, fun j => ?_, I.cl, fun j o' m hj ho' hm => ?_⟩
  · rcases List.mem_cons.1 hx with rfl | hx
    · refine ⟨ho, updV_at _ _ _, (sBit _ _ _).2 (.inl rfl), hlt, fun g hgg => ?_, hng, fun _ y hy => (opnd_now I hk y hy).mono DD VV⟩
      have hgD := hk.pre _ (hk.guard g hgg)
      obtain ⟨dd, g1, g2⟩ := hg g hgg
      exact ⟨hk.guard g hgg, DD _ hgD, dd, g1, by rw [VV _ hgD]; exact g2⟩
    · exact (I.tf x hx).mono DD VV
  · rcases List.mem_cons.1 hx with rfl | hx
    · exact kf
    · have F := I.kf x hx
      have O := I.own x hx
      revert F O
      unfold KF
      cases x.k with
      | pure => exact fun F _ => F
      | read f =>
        rintro ⟨nd, f1, left, k, f2, f3, f4, f5⟩ _
        exact ⟨nd, f1, left, k, f2, f3.trans hgr, by simp [f4], f5.imp id (hp _)⟩
      | own id ob =>
        rintro ⟨nd, f1, f2⟩ O
        exact ⟨nd, f1, fun ob' hob => f2 ob' (hold id ob' (O id ob rfl).2.2 hob)⟩
      | skip => exact fun F _ => F
  · rcases List.mem_cons.1 hx with rfl | hx
    · exact hSi
    · exact I.tS x hx
  · refine List.pairwise_cons.2 ⟨fun x hx => ?_, I.tnd⟩
    exact (Dne _ (I.tf x hx).inD).symm
  · rcases List.mem_cons.1 hx with rfl | hx
    · have hxk : tk = .own id ob := hxk
      rcases hh with ⟨_, h1⟩ | ⟨ob', h1, h2⟩
      · exact absurd hxk (h1 id ob)
      · rw [h2] at hxk; injection hxk with e1 e2
        subst e1
        exact ⟨I.hp.fresh, I.tr.next, by rw [h1, Heap.alloc_next]; exact Nat.lt_succ_self _⟩
    · obtain ⟨g1, g2, g3⟩ := I.own x hx id ob hxk
      exact ⟨g1, g2, Nat.lt_of_lt_of_le g3 hnx⟩
  · refine List.pairwise_cons.2 ⟨fun x hx id ob id' ob' k1 k2 => ?_, I.ond⟩
    have k1 : tk = .own id ob := k1
    rcases hh with ⟨_, h1⟩ | ⟨ob2, h1, h2⟩
    · exact absurd k1 (h1 id ob)
    · rw [h2] at k1; injection k1 with e1 e2
      have := (I.own x hx id' ob' k2).2.2
      omega
  · rw [sBit, I.dS]
    constructor
    · rintro (h1 | h1 | ⟨x, h1, h2⟩)
      · exact .inr ⟨_, List.mem_cons_self, h1⟩
      · exact .inl h1
      · exact .inr ⟨x, List.mem_cons_of_mem _ h1, h2⟩
    · rintro (h1 | ⟨x, h1, h2⟩)
      · exact .inr (.inl h1)
      · rcases List.mem_cons.1 h1 with rfl | h1
        · exact .inl h2
        · exact .inr (.inr ⟨x, h1, h2⟩)
  · rcases (sBit _ _ _).1 hj with rfl | hj
    · rw [ho] at ho'; injection ho' with ho'; subst ho'
      exact DD m (hk.pre m hm)
    · exact DD m (I.dcl j o' m hj ho' hm)
end
end Go.Proofs.YtpjkcfglojigmaaGreatDoor.Ev
namespace Go.Proofs.YtpjkcfglojigmaaGreatDoor.Ev
set_option linter.unusedVariables false
set_option linter.unusedSimpArgs false
open Go
section
variable {P : Program} {n₀ : Nat} {tt : TT} {fi : FI} {ops : Array Oper} {base : Nat → AVal} {φ₀ : Ren} {h₀ : Heap} {w₀ : World} {ed : List (AVal × List AVal)} {ad : List Deferred}
  {S D : Nat} {R : List (Nat × Nat)} {V : Nat → AVal} {T : List TE} {st : List Tmp} {vs : List AVal} {e : Env} {h : Heap} {pend : List Pend} {φ : Ren} {a : Act} {w : World}
theorem planK_cons {p : Nat × Nat} {l : List (Nat × Nat)} {o : Oper} (ho : ops[p.1]? = some o) :
    planK fi tt ops.toList (p :: l) st = operD2 ⟨fi.glob, st, fi.rnd⟩ ops.toList o p.2 (effO fi tt o) (goK (planK fi tt ops.toList l (pushT fi.glob st o.dst)) (dkOf fi o.dst)) (opK ⟨fi.glob, st, fi.rnd⟩ tt o.op) := by
  have : nth ops.toList p.1 = some o := by rw [nth_eq]; simpa using ho
  rw [planK, this]
  rfl
theorem operD2_some {sl : SL} {l : List Oper} {o : Oper} {d : Nat} {ef : Bool} {k : NK} {K : OpK} {r : Rt} {outs : List (Env × Heap)} (h1 : (operD2 sl l o d ef k K).run r vs e h = some outs) :
    isE K = ef ∧ ((o.guard = none ∧ (stepD d k K).run r vs e h = some outs) ∨ ∃ g, o.guard = some g ∧ (guardO sl l g (noD ef k) (stepD d k K)).run r vs e h = some outs) := by
  unfold operD2 at h1
  rw [eqBool_dec] at h1
  by_cases he : ef = isE K
  · rw [decide_eq_true he] at h1
    refine ⟨he.symm, ?_⟩
    cases hg : o.guard with
    | none => rw [hg] at h1; exact .inl ⟨rfl, h1⟩
    | some g => rw [hg] at h1; exact .inr ⟨g, rfl, h1⟩
  · rw [decide_eq_false he] at h1
    cases h1
/-- a guard, at the evaluator -/
theorem guardO_some {sl : SL} {l : List Oper} {g : Nat × Bool} {no : NK} {k : StK} {r : Rt} {outs : List (Env × Heap)} (h1 : (guardO sl l g no k).run r vs e h = some outs) :
    ∃ d, dstOf l g.1 = some d ∧ (((vTmpS sl d).get vs e.tmps = .bool g.2 ∧ k.run r vs e h = some outs) ∨
      (((vTmpS sl d).get vs e.tmps = .tuple [] ∨ ∃ b, (vTmpS sl d).get vs e.tmps = .bool b ∧ b ≠ g.2) ∧ no.go r vs e h skipA = some outs)) := by
  unfold guardO at h1
  split at h1
  · rename_i d hd
    refine ⟨d, hd, ?_⟩
    have h1 : guardRun g.2 no k r vs e h ((vTmpS sl d).get vs e.tmps) = some outs := h1
    generalize (vTmpS sl d).get vs e.tmps = gv at h1
    unfold guardRun at h1
    split at h1
    · rename_i b
      rw [eqBool_dec] at h1
      by_cases hb : b = g.2
      · rw [decide_eq_true hb] at h1
        exact .inl ⟨by rw [hb], h1⟩
      · rw [decide_eq_false hb] at h1
        exact .inr ⟨.inr ⟨b, rfl, hb⟩, h1⟩
    · split at h1
      · exact .inr ⟨.inl rfl, h1⟩
      · cases h1
    · cases h1
  · cases h1
theorem Sub.eq {u v : AVal} (h : Sub u v) (hn : u ≠ .junk) : v = u := by
  rcases h with h | h
  · exact absurd h hn
  · exact h.symm
/-- the plan goes on by an operation without effect -/
theorem adv_one (hT : TTok P tt) (hdst : ∀ j o d, ops[j]? = some o → o.dst = some d → wrOf d ops.toList 0 = some j) (I : Inv P fi ops base φ₀ h₀ w₀ ed ad S D R V T st vs e h pend φ a w) {p : Nat × Nat} {l : List (Nat × Nat)} {L : Nat} {o : Oper}
    (ho : ops[p.1]? = some o) (hk : OpOk ops.toList p.1 D L (preds o.after.toList) o) (he : effO fi tt o = false) {call : Callee' → List AVal → Heap → M AVal} {outs : List (Env × Heap)} (hrun : (planK fi tt ops.toList (p :: l) st).run ⟨call, pend⟩ vs e h = some outs) :
    ∃ V' x st' vs' e' h' pend', Inv P fi ops base φ₀ h₀ w₀ ed ad S (Nat.lor (bit1 p.1) D) ((p.1, p.2) :: R) V' (x :: T) st' vs' e' h' pend' φ a w ∧ (planK fi tt ops.toList l st').run ⟨call, pend'⟩ vs' e' h' = some outs := by
  rw [planK_cons ho, he] at hrun
  obtain ⟨hE, hrun⟩ := operD2_some hrun
  have hK : KOK P ⟨fi.glob, st, fi.rnd⟩ o (opK ⟨fi.glob, st, fi.rnd⟩ tt o.op) := opK_ok hT rfl
  have run_ : (∀ g, o.guard = some g → ∃ d, dstOf ops.toList g.1 = some d ∧ V g.1 = .bool g.2) → (stepD p.2 (goK (planK fi tt ops.toList l (pushT fi.glob st o.dst)) (dkOf fi o.dst)) (opK ⟨fi.glob, st, fi.rnd⟩ tt o.op)).run ⟨call, pend⟩ vs e h = some outs →
      ∃ V' x st' vs' e' h' pend', Inv P fi ops base φ₀ h₀ w₀ ed ad S (Nat.lor (bit1 p.1) D) ((p.1, p.2) :: R) V' (x :: T) st' vs' e' h' pend' φ a w ∧ (planK fi tt ops.toList l st').run ⟨call, pend'⟩ vs' e' h' = some outs := by
    intro hg hr
    obtain ⟨v, h', pend', tk, g1, g2, g3, g4, g5⟩ := stepD_te (P := P) hK hE hr p.1 R
    obtain ⟨b1, vs', e', b2, b3, b4⟩ := goK_bind g1
    exact ⟨_, _, _, vs', e', h', pend', add_te hdst I ho hk b1 b4 b3 g3 g4 g5 (fun g hgg => let ⟨d, q1, q2⟩ := hg g hgg; ⟨d, q1, .inr ⟨g2, q2⟩⟩) (fun _ => g2), b2⟩
  rcases hrun with ⟨hg, hrun⟩ | ⟨g, hg, hrun⟩
  · exact run_ (fun g hgg => by rw [hg] at hgg; cases hgg) hrun
  · obtain ⟨d, hd, hrun⟩ := guardO_some hrun
    have hgD := hk.pre _ (hk.guard g hg)
    obtain ⟨oj, hoj, hod⟩ : ∃ oj, ops[g.1]? = some oj ∧ oj.dst = some d := by
      have := dstOf_some hd
      cases hq : ops[g.1]? with
      | none => rw [hq] at this; cases this
      | some oj => rw [hq] at this; exact ⟨oj, rfl, this⟩
    have hs := I.enW d g.1 (hdst g.1 oj d hoj hod) hgD
    rcases hrun with ⟨h1, h2⟩ | ⟨h1, h2⟩
    · rw [h1] at hs
      exact run_ (fun g' hgg => by rw [hg] at hgg; injection hgg with hgg; subst hgg; exact ⟨d, hd, hs.eq (by simp)⟩) h2
    · obtain ⟨b1, vs', e', b2, b3, b4⟩ := goK_bind (show (goK (planK fi tt ops.toList l (pushT fi.glob st o.dst)) (dkOf fi o.dst)).go ⟨call, pend⟩ vs e h skipA = some outs from h2)
      refine ⟨_, _, _, vs', e', h, pend, add_te (tk := .skip) hdst I ho hk b1 b4 b3 (.inl ⟨rfl, by simp⟩) (fun q hq => hq) rfl (fun g' hgg => ?_) (fun c => by rw [hg] at c; cases c), b2⟩
      rw [hg] at hgg; injection hgg with hgg; subst hgg
      refine ⟨d, hd, .inl ⟨rfl, ?_⟩⟩
      rcases h1 with h1 | ⟨b, h1, h3⟩
      · rw [h1] at hs; exact .inl (hs.eq (by simp))
      · rw [h1] at hs; exact .inr ⟨b, hs.eq (by simp), h3⟩
/-- the plan goes on up to the next effect -/
theorem advance (hT : TTok P tt) (hdst : ∀ j o d, ops[j]? = some o → o.dst = some d → wrOf d ops.toList 0 = some j) {call : Callee' → List AVal → Heap → M AVal} {outs : List (Env × Heap)} :
    ∀ (l : List (Nat × Nat)) (D L : Nat) (R : List (Nat × Nat)) (V : Nat → AVal) (T : List TE) (st : List Tmp) (vs : List AVal) (e : Env) (h : Heap) (pend : List Pend), Inv P fi ops base φ₀ h₀ w₀ ed ad S D R V T st vs e h pend φ a w →
      planWalk ops.toList (effO fi tt) l D L R = true → (planK fi tt ops.toList l st).run ⟨call, pend⟩ vs e h = some outs →
      ∃ l' D' L' R' V' T' st' vs' e' h' pend', Inv P fi ops base φ₀ h₀ w₀ ed ad S D' R' V' T' st' vs' e' h' pend' φ a w ∧ planWalk ops.toList (effO fi tt) l' D' L' R' = true ∧ (planK fi tt ops.toList l' st').run ⟨call, pend'⟩ vs' e' h' = some outs ∧
        T'.length + l'.length = T.length + l.length ∧ (l' = [] ∨ ∃ p l2 o, l' = p :: l2 ∧ ops[p.1]? = some o ∧ effO fi tt o = true)
  | [], D, L, R, V, T, st, vs, e, h, pend, I, hw, hr => ⟨[], D, L, R, V, T, st, vs, e, h, pend, I, hw, hr, rfl, .inl rfl⟩
  | p :: l, D, L, R, V, T, st, vs, e, h, pend, I, hw, hr => by
    obtain ⟨o, ho, hk, hw2⟩ := walk_cons hw
    have ho' : ops[p.1]? = some o := by simpa using ho
    rcases hw2 with ⟨he, _⟩ | ⟨he, hw2⟩
    · exact ⟨p :: l, D, L, R, V, T, st, vs, e, h, pend, I, hw, hr, rfl, .inr ⟨p, l, o, rfl, ho', he⟩⟩
    · obtain ⟨V', x, st', vs', e', h', pend', I', hr'⟩ := adv_one hT hdst I ho' hk he hr
      obtain ⟨l2, D2, L2, R2, V2, T2, st2, vs2, e2, h2, pend2, q1, q2, q3, q4, q5⟩ := advance hT hdst l _ _ _ _ _ _ _ _ _ _ I' hw2 hr'
      exact ⟨l2, D2, L2, R2, V2, T2, st2, vs2, e2, h2, pend2, q1, q2, q3, by rw [q4]; simp; omega, q5⟩
end
end Go.Proofs.YtpjkcfglojigmaaGreatDoor.Ev
namespace Go.Proofs.YtpjkcfglojigmaaGreatDoor.Ev
set_option linter.unusedVariables false
set_option linter.unusedSimpArgs false
open Go
theorem dropR_mem {m : Nat} : ∀ {R R' : List (Nat × Nat)}, dropR m R = some R' → ∀ i left, (i, left) ∈ R → (left = 0 → m.testBit i = true) ∧ ∀ n, left = n + 1 → (i, n) ∈ R'
  | [], _, _, i, left, h => by cases h
  | x :: l, R', h, i, left, hm => by
    obtain ⟨xi, xl⟩ := x
    unfold dropR at h
    cases xl with
    | zero =>
      have h : (match hasM m xi with | true => dropR m l | false => none) = some R' := h
      cases hx : hasM m xi with
      | false => rw [hx] at h; cases h
      | true =>
        rw [hx] at h
        rcases List.mem_cons.1 hm with e | hm
        · injection e with e1 e2
          subst e1; subst e2
          exact ⟨fun _ => hx, fun n hn => by cases hn⟩
        · exact dropR_mem h i left hm
    | succ k =>
      obtain ⟨l', h1, h2⟩ := ob_some (show ob (dropR m l) (fun l => some ((xi, k) :: l)) = some R' from h)
      injection h2 with h2
      rcases List.mem_cons.1 hm with e | hm
      · injection e with e1 e2
        subst e1; subst e2
        refine ⟨fun c => (by cases c), fun n hn => ?_⟩
        injection hn with hn
        rw [← h2, ← hn]; simp
      · obtain ⟨g1, g2⟩ := dropR_mem h1 i left hm
        exact ⟨g1, fun n hn => by rw [← h2]; exact List.mem_cons_of_mem _ (g2 n hn)⟩
theorem recheckL_mem {h : Heap} : ∀ {l l' : List Pend}, recheckL h l = some l' → ∀ f v left, (⟨f, v, left + 1⟩ : Pend) ∈ l → f h = some v ∧ (⟨f, v, left⟩ : Pend) ∈ l'
  | [], _, _, _, _, _, hm => by cases hm
  | p :: l, l', hr, f, v, left, hm => by
    obtain ⟨pf, pv, pl⟩ := p
    unfold recheckL at hr
    cases pl with
    | zero =>
      rcases List.mem_cons.1 hm with e | hm
      · injection e with e1 e2 e3; cases e3
      · exact recheckL_mem (show recheckL h l = some l' from hr) f v left hm
    | succ k =>
      obtain ⟨h1, h2⟩ := when_some (show when (recheck pf pv h) (ob (recheckL h l) fun l => some (⟨pf, pv, k⟩ :: l)) = some l' from hr)
      obtain ⟨l2, h3, h4⟩ := ob_some h2
      injection h4 with h4
      rcases List.mem_cons.1 hm with e | hm
      · injection e with e1 e2 e3
        subst e1; subst e2
        injection e3 with e3
        refine ⟨?_, by rw [← h4, e3]; simp⟩
        unfold recheck at h1
        split at h1
        · cases h1
        · rename_i w hw
          rw [hw, beqV_eq 8 _ _ h1]
      · obtain ⟨g1, g2⟩ := recheckL_mem h3 f v left hm
        exact ⟨g1, by rw [← h4]; exact List.mem_cons_of_mem _ g2⟩
theorem skipL_mem : ∀ {l : List Pend} (f : Heap → Option AVal) (v : AVal) (left : Nat), (⟨f, v, left + 1⟩ : Pend) ∈ l → (⟨f, v, left⟩ : Pend) ∈ skipL l
  | [], _, _, _, hm => by cases hm
  | p :: l, f, v, left, hm => by
    obtain ⟨pf, pv, pl⟩ := p
    unfold skipL
    cases pl with
    | zero =>
      rcases List.mem_cons.1 hm with e | hm
      · injection e with e1 e2 e3; cases e3
      · exact skipL_mem f v left hm
    | succ k =>
      rcases List.mem_cons.1 hm with e | hm
      · injection e with e1 e2 e3
        injection e3 with e3
        subst e1; subst e2
        rw [e3]; exact List.mem_cons_self
      · exact List.mem_cons_of_mem _ (skipL_mem f v left hm)
section
variable {P : Program} {n₀ : Nat} {tt : TT} {fi : FI} {ops : Array Oper} {base : Nat → AVal} {φ₀ : Ren} {h₀ : Heap} {w₀ : World} {ed : List (AVal × List AVal)} {ad : List Deferred}
  {S D : Nat} {R : List (Nat × Nat)} {V : Nat → AVal} {T : List TE} {st : List Tmp} {vs : List AVal} {e : Env} {h : Heap} {pend : List Pend} {φ : Ren} {a : Act} {w : World}
/-- behind an effect -/
theorem e_inv (hdst : ∀ j o d, ops[j]? = some o → o.dst = some d → wrOf d ops.toList 0 = some j) (I : Inv P fi ops base φ₀ h₀ w₀ ed ad S D R V T st vs e h pend φ a w) {i L : Nat} {o : Oper} (ho : ops[i]? = some o)
    (hk : OpOk ops.toList i D L (preds o.after.toList) o) (hp : ∀ j, (preds o.after.toList).testBit j = true → S.testBit j = true) {v : AVal} {y : Value} {st' : List Tmp} {vs' : List AVal} {e' : Env} {h' : Heap} {pend' : List Pend} {ψ : Ren} {w' : World} {R' : List (Nat × Nat)}
    (hlt : ∀ d, o.dst = some d → d < fi.nt)
    (hb : ∀ t, (o.dst = some t → Sub ((vTmpS ⟨fi.glob, st', fi.rnd⟩ t).get vs' e'.tmps) v) ∧ (o.dst ≠ some t → Sub ((vTmpS ⟨fi.glob, st', fi.rnd⟩ t).get vs' e'.tmps) ((vTmpS ⟨fi.glob, st, fi.rnd⟩ t).get vs e.tmps)))
    (hed : e'.defers = e.defers) (H : HRel P ψ h' w'.heap) (t : Tr φ h w.heap ψ h' w'.heap) (s : Still w w') (hv : VRel ψ v y) (hR : dropR (preds o.after.toList) R = some R')
    (hrd : ∀ f u left, (⟨f, u, left + 1⟩ : Pend) ∈ pend → (⟨f, u, left⟩ : Pend) ∈ pend' ∧ (f h' = some u ∨ h' = h)) :
    Inv P fi ops base φ₀ h₀ w₀ ed ad (Nat.lor (bit1 i) S) (Nat.lor (bit1 i) D) R' (updV V i v) T st' vs' e' h' pend' ψ (a.put o.dst y) w' := by
  have SD : ∀ j, S.testBit j = true → D.testBit j = true := fun j hj => (I.dS j).2 (.inl hj)
  have DD : ∀ j, D.testBit j = true → (Nat.lor (bit1 i) D).testBit j = true := fun j hj => (sBit _ _ _).2 (.inr hj)
  have Dne : ∀ j, D.testBit j = true → j ≠ i := fun j hj c => by rw [c, hk.new] at hj; cases hj
  have VV : ∀ j, D.testBit j = true → updV V i v j = V j := fun j hj => updV_ne (Dne j hj)
  obtain ⟨m1, m2, m3, m4⟩ := put_mf (base := base) (S := S) (V := updV V i v) (φ := ψ) (y := y) hdst ho hlt I.nt (by rw [updV_at]; exact hv)
    (fun t' j h1 h2 => by rw [VV j (SD j h2)]; exact (I.mfW t' j h1 h2).mono t.le) (fun t' h1 => (I.mfB t' h1).mono t.le)
  obtain ⟨e1, e2⟩ := env_step hdst I ho hk.new hb
  refine ⟨H, I.tr.trans t, I.still.trans s, m3, hed.trans I.ed, m4.trans I.ad, m1, m2, e1, e2, fun x hx => (I.tf x hx).mono DD VV, fun x hx => ?_, fun x hx => ?_, I.tnd, fun x hx id ob hxk => ?_, I.ond, fun j => ?_, fun j o' m hj ho' hm => ?_, fun j o' m hj ho' hm => ?_⟩
  · have F := I.kf x hx
    have O := I.own x hx
    have hS := I.tS x hx
    revert F O
    unfold KF
    cases x.k with
    | pure => exact fun F _ => F
    | read f =>
      rintro ⟨nd, f1, left, k, f2, f3, f4, f5⟩ _
      obtain ⟨d1, d2⟩ := dropR_mem hR x.i left f4
      cases left with
      | zero => exact absurd (hp _ (d1 rfl)) (by rw [hS]; simp)
      | succ n =>
        have f5 := f5.resolve_left (by simp)
        obtain ⟨g1, g2⟩ := hrd f x.v n f5
        rcases g2 with g2 | g2
        · exact ⟨nd, f1, n, h', g2, .refl _, d2 n rfl, .inr g1⟩
        · exact ⟨nd, f1, n, k, f2, by rw [g2]; exact f3, d2 n rfl, .inr g1⟩
    | own id ob =>
      rintro ⟨nd, f1, f2⟩ O
      obtain ⟨o1, o2, o3⟩ := O id ob rfl
      exact ⟨nd, f1, fun ob' hob => f2 ob' (t.stay id ob' o3 o1 hob)⟩
    | skip => exact fun F _ => F
  · exact (sBitF _ _ _).2 ⟨(Dne _ (I.tf x hx).inD).symm, I.tS x hx⟩
  · obtain ⟨o1, o2, o3⟩ := I.own x hx id ob hxk
    refine ⟨fun hd => ?_, o2, Nat.lt_of_lt_of_le o3 t.next⟩
    rcases t.dom id hd with hd | hd
    · exact o1 hd
    · omega
  · rw [sBit, sBit, I.dS]
    constructor
    · rintro (h1 | h1 | h1)
      · exact .inl (.inl h1)
      · exact .inl (.inr h1)
      · exact .inr h1
    · rintro ((h1 | h1) | h1)
      · exact .inl h1
      · exact .inr (.inl h1)
      · exact .inr (.inr h1)
  · rcases (sBit _ _ _).1 hj with rfl | hj
    · rw [ho] at ho'; injection ho' with ho'; subst ho'
      exact (sBit _ _ _).2 (.inr (hp m hm))
    · exact (sBit _ _ _).2 (.inr (I.cl j o' m hj ho' hm))
  · rcases (sBit _ _ _).1 hj with rfl | hj
    · rw [ho] at ho'; injection ho' with ho'; subst ho'
      exact DD m (hk.pre m hm)
    · exact DD m (I.dcl j o' m hj ho' hm)
/-- the machine and the evaluator do an effect -/
theorem e_step (hT : TTok P tt) (hdst : ∀ j o d, ops[j]? = some o → o.dst = some d → wrOf d ops.toList 0 = some j) (I : Inv P fi ops base φ₀ h₀ w₀ ed ad S D R V T st vs e h pend φ a w) {p : Nat × Nat} {l : List (Nat × Nat)} {L : Nat} {o : Oper}
    (ho : ops[p.1]? = some o) (hk : OpOk ops.toList p.1 D L (preds o.after.toList) o) (he : effO fi tt o = true) (hp : ∀ j, (preds o.after.toList).testBit j = true → S.testBit j = true) {R' : List (Nat × Nat)} (hR : dropR (preds o.after.toList) R = some R')
    {call : Callee' → List AVal → Heap → M AVal} (hcall : RtOK P call) {outs : List (Env × Heap)} (hrun : (planK fi tt ops.toList (p :: l) st).run ⟨call, pend⟩ vs e h = some outs) {ro : Option Nat} {K : Act → World → Prop} (Q : Exit → Act → World → Prop)
    (hK : ∀ V' st' vs' e' h' pend' outs' φ' a' w', Inv P fi ops base φ₀ h₀ w₀ ed ad (Nat.lor (bit1 p.1) S) (Nat.lor (bit1 p.1) D) R' V' T st' vs' e' h' pend' φ' a' w' → (planK fi tt ops.toList l st').run ⟨call, pend'⟩ vs' e' h' = some outs' → (∀ y ∈ outs', y ∈ outs) → K a' w') :
    wpOpIn (W ro) 0 P ops Q p.1 K a w := by
  have SD : ∀ j, S.testBit j = true → D.testBit j = true := fun j hj => (I.dS j).2 (.inl hj)
  have hSi : S.testBit p.1 = false := by
    cases hs : S.testBit p.1 with
    | false => rfl
    | true => exact absurd (SD _ hs) (by rw [hk.new]; simp)
  rw [planK_cons ho, he] at hrun
  obtain ⟨hE, hrun⟩ := operD2_some hrun
  have hKK : KOK P ⟨fi.glob, st, fi.rnd⟩ o (opK ⟨fi.glob, st, fi.rnd⟩ tt o.op) := opK_ok hT rfl
  have hov : ORel φ ⟨fi.glob, st, fi.rnd⟩ vs e.tmps a o := I.ov ho hSi hp (opnd_now I hk)
  unfold wpOpIn
  simp only [ho]
  have run_ : (stepD p.2 (goK (planK fi tt ops.toList l (pushT fi.glob st o.dst)) (dkOf fi o.dst)) (opK ⟨fi.glob, st, fi.rnd⟩ tt o.op)).run ⟨call, pend⟩ vs e h = some outs → o.wpIn (W ro) 0 P a w K Q := by
    intro hr
    refine ⟨fun _ _ => trivial, ?_⟩
    generalize opK ⟨fi.glob, st, fi.rnd⟩ tt o.op = KK at hE hr hKK
    cases KK <;> try (cases hE; done)
    rename_i f
    obtain ⟨nd, hc⟩ := hKK
    rw [Oper.semAt_eq _ _ _ nd]
    obtain ⟨l1, h1, h2⟩ := bindM_some (show bindM (f ⟨call, pend⟩ vs e.tmps h) (fun v h' => (goE (goK (planK fi tt ops.toList l (pushT fi.glob st o.dst)) (dkOf fi o.dst))).go ⟨call, pend⟩ vs e h' v) = some outs from hr)
    refine (hc ⟨call, pend⟩ hcall φ h vs e.tmps a w l1 hov I.hp h1).upon Q ro 0 fun x w' ⟨ψ, vh, g1, g2, g3, g4, g5⟩ => ?_
    obtain ⟨o2, g6, g7⟩ := h2 vh g1
    obtain ⟨l2, g8, g9⟩ := ob_some (show ob (recheckL vh.2 pend) (fun l' => (goK (planK fi tt ops.toList l (pushT fi.glob st o.dst)) (dkOf fi o.dst)).go ⟨call, l'⟩ vs e vh.2 vh.1) = some o2 from g6)
    obtain ⟨b1, vs', e', b2, b3, b4⟩ := goK_bind g9
    exact hK _ _ vs' e' vh.2 l2 o2 ψ _ w' (e_inv hdst I ho hk hp b1 b4 b3 g2 g3 g5 g4 hR fun f u left hm => let ⟨q1, q2⟩ := recheckL_mem g8 f u left hm; ⟨q2, .inl q1⟩) b2 g7
  rcases hrun with ⟨hg, hrun⟩ | ⟨g, hg, hrun⟩
  · have hwant : Region.wanted o (yielded ops a.tmps) = true := by simp [Region.wanted, hg]
    rw [if_pos hwant]
    exact run_ hrun
  · obtain ⟨d, hd, hrun⟩ := guardO_some hrun
    have hgS := hp _ (hk.guard g hg)
    obtain ⟨oj, hoj, hod⟩ : ∃ oj, ops[g.1]? = some oj ∧ oj.dst = some d := by
      have := dstOf_some hd
      cases hq : ops[g.1]? with
      | none => rw [hq] at this; cases this
      | some oj => rw [hq] at this; exact ⟨oj, rfl, this⟩
    have hw := hdst g.1 oj d hoj hod
    have hs := I.enW d g.1 hw (SD _ hgS)
    obtain ⟨g1, g2⟩ := guard_ok (want := g.2) hd (I.mfW d g.1 hw hgS) (show o.guard = some (g.1, g.2) from hg)
    rcases hrun with ⟨h1, h2⟩ | ⟨h1, h2⟩
    · rw [h1] at hs
      rw [if_pos (by rw [g1 _ (hs.eq (by simp))]; simp)]
      exact run_ h2
    · have hno : Region.wanted o (yielded ops a.tmps) = false := by
        rcases h1 with h1 | ⟨b, h1, h3⟩
        · rw [h1] at hs; exact g2 (hs.eq (by simp))
        · rw [h1] at hs; rw [g1 b (hs.eq (by simp)), decide_eq_false h3]
      rw [if_neg (by rw [hno]; simp)]
      obtain ⟨b1, vs', e', b2, b3, b4⟩ := goK_bind (show (goK (planK fi tt ops.toList l (pushT fi.glob st o.dst)) (dkOf fi o.dst)).go ⟨call, skipL pend⟩ vs e h skipA = some outs from h2)
      exact ⟨fun _ _ => trivial, hK _ _ vs' e' h (skipL pend) outs φ _ w (e_inv hdst I ho hk hp b1 b4 b3 I.hp (.refl _ _ _) (.refl _) (skip_rel φ) hR fun f u left hm => ⟨skipL_mem f u left hm, .inr rfl⟩) b2 (fun y hy => hy)⟩
end
end Go.Proofs.YtpjkcfglojigmaaGreatDoor.Ev
namespace Go.Proofs.YtpjkcfglojigmaaGreatDoor.Ev
set_option linter.unusedVariables false
set_option linter.unusedSimpArgs false
open Go
theorem lst_true {listed : Array Bool} {n j : Nat} (hs : listed.size = n) (hj : j < n) : Lst listed j ↔ listed.getD j true = true := by
  unfold Lst
  rw [Array.getD_eq_getD_getElem?, Array.getD_eq_getD_getElem?, Array.getElem?_eq_getElem (by omega)]
  simp
theorem lst_lt {listed : Array Bool} {j : Nat} (h : Lst listed j) : j < listed.size := by
  unfold Lst at h
  rw [Array.getD_eq_getD_getElem?] at h
  rcases Nat.lt_or_ge j listed.size with h1 | h1
  · exact h1
  · rw [Array.getElem?_eq_none h1] at h; cases h
section
variable {P : Program} {n₀ : Nat} {tt : TT} {fi : FI} {ops : Array Oper} {base : Nat → AVal} {φ₀ : Ren} {h₀ : Heap} {w₀ : World} {ed : List (AVal × List AVal)} {ad : List Deferred}
/-- every order comes to what the plan comes to -/
theorem draw_main (hT : TTok P tt) (hdst : ∀ j o d, ops[j]? = some o → o.dst = some d → wrOf d ops.toList 0 = some j) {call : Callee' → List AVal → Heap → M AVal} (hcall : RtOK P call) {outs : List (Env × Heap)} {ro : Option Nat} {md : Region.Mode}
    (hall : ∀ listed : Array Bool, listed.size = ops.size → Region.ready md ops listed = [] → ∀ i, i < ops.size → Lst listed i) (hdf : DRel n₀ φ₀ h₀ w₀.heap ed ad) {Q : Exit → Act → World → Prop}
    (hq : ∀ ψ x a' w', x ∈ outs → SRel P n₀ ψ fi.glob fi.nt x.1 x.2 a' w' → Tr φ₀ h₀ w₀.heap ψ x.2 w'.heap → Still w₀ w' → Q .normal a' w') :
    ∀ (fuel : Nat) (S D L : Nat) (R : List (Nat × Nat)) (V : Nat → AVal) (T : List TE) (rest : List (Nat × Nat)) (st : List Tmp) (vs : List AVal) (e : Env) (h : Heap) (pend : List Pend) (φ : Ren) (a : Act) (w : World) (outs' : List (Env × Heap)) (listed : Array Bool),
      Inv P fi ops base φ₀ h₀ w₀ ed ad S D R V T st vs e h pend φ a w → planWalk ops.toList (effO fi tt) rest D L R = true → (planK fi tt ops.toList rest st).run ⟨call, pend⟩ vs e h = some outs' → (∀ y ∈ outs', y ∈ outs) →
      T.length + rest.length ≤ fuel → (rest = [] ∨ ∃ p l2 o, rest = p :: l2 ∧ ops[p.1]? = some o ∧ effO fi tt o = true) → listed.size = ops.size → (∀ j, j < ops.size → listed.getD j true = S.testBit j) →
      wpAnyIn (W ro) 0 P md ops Q fuel listed a w := by
  -- all is done
  have done : ∀ (S D L : Nat) (R : List (Nat × Nat)) (V : Nat → AVal) (T : List TE) (rest : List (Nat × Nat)) (st : List Tmp) (vs : List AVal) (e : Env) (h : Heap) (pend : List Pend) (φ : Ren) (a : Act) (w : World) (outs' : List (Env × Heap)),
      Inv P fi ops base φ₀ h₀ w₀ ed ad S D R V T st vs e h pend φ a w → planWalk ops.toList (effO fi tt) rest D L R = true → (planK fi tt ops.toList rest st).run ⟨call, pend⟩ vs e h = some outs' → (∀ y ∈ outs', y ∈ outs) →
      (∀ i, i < ops.size → S.testBit i = true) → Q .normal a w := by
    intro S D L R V T rest st vs e h pend φ a w outs' I hw hr hsub hS
    have hrest : rest = [] := by
      cases rest with
      | nil => rfl
      | cons p l =>
        exfalso
        obtain ⟨o, ho, hk, _⟩ := walk_cons hw
        have ho' : ops[p.1]? = some o := by simpa using ho
        have := (I.dS p.1).2 (.inl (hS p.1 (Array.getElem?_eq_some_iff.1 ho').1))
        rw [hk.new] at this; cases this
    subst hrest
    have hr : some [(e, h)] = some outs' := hr
    injection hr with hr
    refine hq φ (e, h) a w (hsub _ (by rw [← hr]; exact List.mem_singleton.2 rfl)) ⟨fun t v hv ht => ?_, I.nt, ?_, I.hp⟩ I.tr I.still
    · have henv : (vTmpS ⟨fi.glob, st, fi.rnd⟩ t).get vs e.tmps = v := by
        unfold vTmpS
        rw [show Nat.testBit fi.glob t = true from ht]
        show dflt ((gk dep t).get e.tmps) = v
        rw [show (gk dep t).get e.tmps = some v from hv]; rfl
      cases hwr : wrOf t ops.toList 0 with
      | none =>
        have h1 := I.enB t (fun j hj => by rw [hwr] at hj; cases hj)
        rw [henv] at h1
        exact h1.rel (I.mfB t (fun j hj => by rw [hwr] at hj; cases hj))
      | some j =>
        obtain ⟨oj, hoj, _⟩ := wrOf_dst hwr
        have hSj := hS j (Array.getElem?_eq_some_iff.1 hoj).1
        have h1 := I.enW t j hwr ((I.dS j).2 (.inl hSj))
        rw [henv] at h1
        exact h1.rel (I.mfW t j hwr hSj)
    · show DRel n₀ φ h w.heap e.defers a.defers
      rw [I.ed, I.ad]; exact hdf.tr I.tr
  intro fuel
  induction fuel with
  | zero =>
    intro S D L R V T rest st vs e h pend φ a w outs' listed I hw hr hsub hlen hhd hsz hls
    have hT0 : T = [] := List.length_eq_zero_iff.1 (by omega)
    have hr0 : rest = [] := List.length_eq_zero_iff.1 (by omega)
    have hS : ∀ i, i < ops.size → S.testBit i = true := by
      intro i hi
      rcases walk_all hw i (by simpa using hi) with h1 | ⟨p, h1, _⟩
      · rcases (I.dS i).1 h1 with h1 | ⟨x, h1, _⟩
        · exact h1
        · rw [hT0] at h1; cases h1
      · rw [hr0] at h1; cases h1
    refine ⟨?_, done S D L R V T rest st vs e h pend φ a w outs' I hw hr hsub hS⟩
    cases hrd : Region.ready md ops listed with
    | nil => rfl
    | cons i l =>
      exfalso
      have : i ∈ Region.ready md ops listed := by rw [hrd]; simp
      obtain ⟨h1, h2, _⟩ := mem_ready.1 this
      rw [hls i h1, hS i h1] at h2; cases h2
  | succ fuel ih =>
    intro S D L R V T rest st vs e h pend φ a w outs' listed I hw hr hsub hlen hhd hsz hls
    refine ⟨fun hrd => done S D L R V T rest st vs e h pend φ a w outs' I hw hr hsub fun i hi => ?_, fun i hi => ?_⟩
    · rw [← hls i hi]; exact (lst_true hsz hi).1 (hall listed hsz hrd i hi)
    · obtain ⟨h1, h2, o, ho, h3⟩ := mem_ready.1 hi
      have hSi : S.testBit i = false := by rw [← hls i h1]; exact h2
      have hp : ∀ j, (preds o.after.toList).testBit j = true → S.testBit j = true := by
        intro j hj
        obtain ⟨ed, g1, g2, g3⟩ := preds_test hj
        have hl := h3 ed g1 (binds_any g2)
        rw [g3] at hl
        have hlt : j < ops.size := by have := lst_lt hl; omega
        rw [← hls j hlt]; exact (lst_true hsz hlt).1 hl
      have hsz' : (listed.setIfInBounds i true).size = ops.size := by simpa using hsz
      have hls' : ∀ j, j < ops.size → (listed.setIfInBounds i true).getD j true = (Nat.lor (bit1 i) S).testBit j := by
        intro j hj
        rw [lor_test, bit1_test, ← hls j hj, Array.getD_eq_getD_getElem?, Array.getD_eq_getD_getElem?, Array.getElem?_setIfInBounds]
        by_cases hij : i = j
        · subst hij; simp [hsz, h1]
        · simp [hij]
      rcases walk_all hw i (by simpa using h1) with hD | ⟨p, hpr, hpi⟩
      · -- it has been done by the evaluator
        rcases (I.dS i).1 hD with hc | ⟨x, hx, hxi⟩
        · rw [hSi] at hc; cases hc
        · subst hxi
          have F := I.tf x hx
          have ho2 := F.op
          rw [ho] at ho2; injection ho2 with ho2
          refine t_step hdst I hx (by rw [← ho2]; exact hp) Q fun φ' a' w' I' => ?_
          have hlt : (T.filter fun z => z.i != x.i).length < T.length := by
            refine List.length_filter_lt_length_iff_exists.2 ⟨x, hx, by simp⟩
          exact ih _ D L R V _ rest st vs e h pend φ' a' w' outs' _ I' hw hr hsub (by omega) hhd hsz' hls'
      · -- it is the next effect
        rcases hhd with hhd | ⟨q, l2, oq, hrest, hoq, heq⟩
        · rw [hhd] at hpr; cases hpr
        · subst hrest
          obtain ⟨o2, ho2, hk, hw2⟩ := walk_cons hw
          have ho2' : ops[q.1]? = some o2 := by simpa using ho2
          rw [hoq] at ho2'; injection ho2' with ho2'
          subst ho2'
          rcases hw2 with ⟨_, R', hR, hw2⟩ | ⟨hc, _⟩
          · rcases List.mem_cons.1 hpr with hpq | hpl
            · subst hpq
              subst hpi
              rw [ho] at hoq; injection hoq with hoq; subst hoq
              refine e_step hT hdst I ho hk heq hp hR hcall hr Q fun V' st' vs' e' h' pend' outs2 φ' a' w' I' hr' hsub' => ?_
              obtain ⟨l3, D3, L3, R3, V3, T3, st3, vs3, e3, h3', pend3, q1, q2, q3, q4, q5⟩ := advance hT hdst l2 _ _ _ _ _ _ _ _ _ _ I' hw2 hr'
              have hlen' : T.length + (l2.length + 1) ≤ fuel + 1 := by simpa using hlen
              exact ih _ D3 L3 R3 V3 T3 l3 st3 vs3 e3 h3' pend3 φ' a' w' outs2 _ q1 q2 q3 (fun y hy => hsub y (hsub' y hy)) (by omega) q5 hsz' hls'
            · exfalso
              have SD : ∀ j, S.testBit j = true → D.testBit j = true := fun j hj => (I.dS j).2 (.inl hj)
              have hSq : S.testBit q.1 = false := by
                cases hs : S.testBit q.1 with
                | false => rfl
                | true => exact absurd (SD _ hs) (by rw [hk.new]; simp)
              have bne : bit1 q.1 ≠ 0 := fun e => by
                have := bit1_test q.1 q.1
                rw [e] at this; simp at this
              obtain ⟨o3, j, g1, g2, g3⟩ := walk_wait (S := S) hw2 bne (fun j hj => by rw [bit1_test] at hj; rw [← of_decide_eq_true hj]; exact hSq) (fun j hj => (sBit _ _ _).2 (.inr (SD j hj))) p hpl
              rw [hpi] at g1
              have g1' : ops[i]? = some o3 := by simpa using g1
              rw [ho] at g1'; injection g1' with g1'; subst g1'
              rw [hp j g2] at g3; cases g3
          · rw [heq] at hc; cases hc
/-- a region that draws its order -/
theorem draw_ok (hT : TTok P tt) {fi : FI} {ro : Option Nat} {id : Nat} {ops : Array Oper} {r : Rt} (hr : RtOK P r.call) {Q : Exit → Act → World → Prop} {e : Env} {h : Heap} {φ : Ren} {a : Act} {w : World} {pl : Option Plan} {outs : List (Env × Heap)}
    (hrun : (drawK fi tt ops.toList pl).run r [] e h = some outs) (S : SRel P n₀ φ fi.glob fi.nt e h a w)
    (hq : ∀ ψ x a' w', x ∈ outs → SRel P n₀ ψ fi.glob fi.nt x.1 x.2 a' w' → Tr φ h w.heap ψ x.2 w'.heap → Still w w' → Q .normal a' w') : (Code.region id ops true).wpIn (W ro) 0 P Q a w := by
  unfold drawK at hrun
  split at hrun
  · cases hrun
  · rename_i p
    split at hrun
    case h_2 => cases hrun
    rename_i hplan
    have hrun : (planK fi tt ops.toList p.ord []).run ⟨r.call, []⟩ [] e h = some outs := hrun
    obtain ⟨h1, h2⟩ := andB_true hplan
    obtain ⟨h2, h3⟩ := andB_true h2
    obtain ⟨h4, h3⟩ := andB_true h3
    have hdst : ∀ j o d, ops[j]? = some o → o.dst = some d → wrOf d ops.toList 0 = some j := by
      intro j o d ho hd
      have hj : j < ops.toList.length := by simpa using (Array.getElem?_eq_some_iff.1 ho).1
      rcases walk_all h3 j hj with hc | ⟨q, hq1, hq2⟩
      · simp at hc
      · rw [← hq2]
        exact walk_dst h3 q hq1 o d (by rw [hq2]; simpa using ho) hd
    have any_ : ∀ md : Region.Mode, ∀ listed : Array Bool, listed.size = ops.size → Region.ready md ops listed = [] → ∀ i, i < ops.size → Lst listed i := by
      intro md listed hsz hrd
      cases md with
      | text => exact topo_all (b := bText) (fun e he => by rw [bText_eq]; exact he) hsz hrd _ 0 h1 (fun j hj => by simp at hj)
      | gc => exact topo_all (b := bGc) (fun e he => by rw [bGc_eq]; exact he) hsz hrd _ 0 h2 (fun j hj => by simp at hj)
      | any => exact topo_all (b := bText) (fun e he => by rw [bText_eq]; exact binds_any he) hsz hrd _ 0 h1 (fun j hj => by simp at hj)
    have main : ∀ md : Region.Mode, wpAnyIn (W ro) 0 P md ops Q ops.size (Array.replicate ops.size false) a { w with drawn := w.drawn + 1 } := by
      intro md
      have I0 : Inv P fi ops (fun t => (vTmpS ⟨fi.glob, [], fi.rnd⟩ t).get [] e.tmps) φ h { w with drawn := w.drawn + 1 } e.defers a.defers 0 0 [] (fun _ => .junk) [] [] [] e h [] φ a { w with drawn := w.drawn + 1 } := by
        refine ⟨S.hp, .refl _ _ _, .refl _, S.nt, rfl, rfl, fun t j _ hj => (by simp at hj), fun t _ => vTmpS_rel (LRel.start S.tm) t, fun t j _ hj => (by simp at hj), fun t _ => .refl _, fun x hx => (by cases hx), fun x hx => (by cases hx), fun x hx => (by cases hx), .nil, fun x hx => (by cases hx), .nil, fun i => (by simp), fun i o j hi => (by simp at hi), fun i o j hi => (by simp at hi)⟩
      obtain ⟨l', D', L', R', V', T', st', vs', e', h', pend', q1, q2, q3, q4, q5⟩ := advance hT hdst p.ord 0 0 [] _ _ _ _ _ _ _ I0 h3 hrun
      have hlen : p.ord.length ≤ ops.size := by simpa using Nat.le_of_ble_eq_true h4
      refine draw_main (w₀ := { w with drawn := w.drawn + 1 }) hT hdst hr (any_ md) S.df (fun ψ x a' w' hx hs ht hst => hq ψ x a' w' hx hs ht ⟨hst.os, hst.out, hst.tape⟩) ops.size 0 D' L' R' V' T' l' st' vs' e' h' pend' φ a _ outs _ q1 q2 q3 (fun y hy => hy) (by rw [q4]; simpa using hlen) q5 (by simp) (fun j hj => by
        rw [Array.getD_eq_getD_getElem?]; simp [hj])
    refine wpIn_region_draw fun t => ?_
    unfold Region.schedule
    split
    · exact wpAnyIn_sound _ _ _ _ _ (main .any)
    · split
      · exact wpAnyIn_sound _ _ _ _ _ (main .text)
      · exact wpAnyIn_sound _ _ _ _ _ (main .gc)
end
end Go.Proofs.YtpjkcfglojigmaaGreatDoor.Ev
