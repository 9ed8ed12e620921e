/- An evaluator over abstract values and the proof that what it reckons is what the model's calls do: part 8 of 9. -/
import Derived.Test.YtjhionjmlcccjaaGreatDoorEvG
import Derived.LoopNIn
namespace Go.Proofs.YtjhionjmlcccjaaGreatDoor.Ev
set_option linter.unusedVariables false
set_option linter.unusedSimpArgs false
open Go
theorem dropR_mem {m : Nat} : ∀ {R R' : List (Nat × Nat)}, dropR m R = some R' → ∀ i left, (i, left) ∈ R → (left = 0 → m.testBit i = true) ∧ ∀ n, left = n + 1 → (i, n) ∈ R'
  | [], _, _, i, left, h => by cases h
  | x :: l, R', h, i, left, hm => by
    obtain ⟨xi, xl⟩ := x
    unfold dropR at h
    cases xl with
    | zero =>
      have h : (match hasM m xi with | true => dropR m l | false => none) = some R' := h
      cases hx : hasM m xi with
      | false => rw [hx] at h; cases h
      | true =>
        rw [hx] at h
        rcases List.mem_cons.1 hm with e | hm
        · injection e with e1 e2
          subst e1; subst e2
          exact ⟨fun _ => hx, fun n hn => by cases hn⟩
        · exact dropR_mem h i left hm
    | succ k =>
      obtain ⟨l', h1, h2⟩ := ob_some (show ob (dropR m l) (fun l => some ((xi, k) :: l)) = some R' from h)
      injection h2 with h2
      rcases List.mem_cons.1 hm with e | hm
      · injection e with e1 e2
        subst e1; subst e2
        refine ⟨fun c => (by cases c), fun n hn => ?_⟩
        injection hn with hn
        rw [← h2, ← hn]; simp
      · obtain ⟨g1, g2⟩ := dropR_mem h1 i left hm
        exact ⟨g1, fun n hn => by rw [← h2]; exact List.mem_cons_of_mem _ (g2 n hn)⟩
theorem recheckL_mem {h : Heap} : ∀ {l l' : List Pend}, recheckL h l = some l' → ∀ f v left, (⟨f, v, left + 1⟩ : Pend) ∈ l → f h = some v ∧ (⟨f, v, left⟩ : Pend) ∈ l'
  | [], _, _, _, _, _, hm => by cases hm
  | p :: l, l', hr, f, v, left, hm => by
    obtain ⟨pf, pv, pl⟩ := p
    unfold recheckL at hr
    cases pl with
    | zero =>
      rcases List.mem_cons.1 hm with e | hm
      · injection e with e1 e2 e3; cases e3
      · exact recheckL_mem (show recheckL h l = some l' from hr) f v left hm
    | succ k =>
      obtain ⟨h1, h2⟩ := when_some (show when (recheck pf pv h) (ob (recheckL h l) fun l => some (⟨pf, pv, k⟩ :: l)) = some l' from hr)
      obtain ⟨l2, h3, h4⟩ := ob_some h2
      injection h4 with h4
      rcases List.mem_cons.1 hm with e | hm
      · injection e with e1 e2 e3
        subst e1; subst e2
        injection e3 with e3
        refine ⟨?_, by rw [← h4, e3]; simp⟩
        unfold recheck at h1
        split at h1
        · cases h1
        · rename_i w hw
          rw [hw, beqV_eq 8 _ _ h1]
      · obtain ⟨g1, g2⟩ := recheckL_mem h3 f v left hm
        exact ⟨g1, by rw [← h4]; exact List.mem_cons_of_mem _ g2⟩
theorem skipL_mem : ∀ {l : List Pend} (f : Heap → Option AVal) (v : AVal) (left : Nat), (⟨f, v, left + 1⟩ : Pend) ∈ l → (⟨f, v, left⟩ : Pend) ∈ skipL l
  | [], _, _, _, hm => by cases hm
  | p :: l, f, v, left, hm => by
    obtain ⟨pf, pv, pl⟩ := p
    unfold skipL
    cases pl with
    | zero =>
      rcases List.mem_cons.1 hm with e | hm
      · injection e with e1 e2 e3; cases e3
      · exact skipL_mem f v left hm
    | succ k =>
      rcases List.mem_cons.1 hm with e | hm
      · injection e with e1 e2 e3
        injection e3 with e3
        subst e1; subst e2
        rw [e3]; exact List.mem_cons_self
      · exact List.mem_cons_of_mem _ (skipL_mem f v left hm)
section
variable {P : Program} {n₀ : Nat} {tt : TT} {fi : FI} {ops : Array Oper} {base : Nat → AVal} {φ₀ : Ren} {h₀ : Heap} {w₀ : World} {ed : List (AVal × List AVal)} {ad : List Deferred}
  {S D : Nat} {R : List (Nat × Nat)} {V : Nat → AVal} {T : List TE} {st : List Tmp} {vs : List AVal} {e : Env} {h : Heap} {pend : List Pend} {φ : Ren} {a : Act} {w : World}
/-- behind an effect -/
theorem e_inv (hdst : ∀ j o d, ops[j]? = some o → o.dst = some d → wrOf d ops.toList 0 = some j) (I : Inv P fi ops base φ₀ h₀ w₀ ed ad S D R V T st vs e h pend φ a w) {i L : Nat} {o : Oper} (ho : ops[i]? = some o)
    (hk : OpOk ops.toList i D L (preds o.after.toList) o) (hp : ∀ j, (preds o.after.toList).testBit j = true → S.testBit j = true) {v : AVal} {y : Value} {st' : List Tmp} {vs' : List AVal} {e' : Env} {h' : Heap} {pend' : List Pend} {ψ : Ren} {w' : World} {R' : List (Nat × Nat)}
    (hlt : ∀ d, o.dst = some d → d < fi.nt)
    (hb : ∀ t, (o.dst = some t → Sub ((vTmpS ⟨fi.glob, st', fi.rnd⟩ t).get vs' e'.tmps) v) ∧ (o.dst ≠ some t → Sub ((vTmpS ⟨fi.glob, st', fi.rnd⟩ t).get vs' e'.tmps) ((vTmpS ⟨fi.glob, st, fi.rnd⟩ t).get vs e.tmps)))
    (hed : e'.defers = e.defers) (H : HRel P ψ h' w'.heap) (t : Tr φ h w.heap ψ h' w'.heap) (s : Still w w') (hv : VRel ψ v y) (hR : dropR (preds o.after.toList) R = some R')
    (hrd : ∀ f u left, (⟨f, u, left + 1⟩ : Pend) ∈ pend → (⟨f, u, left⟩ : Pend) ∈ pend' ∧ (f h' = some u ∨ h' = h)) :
    Inv P fi ops base φ₀ h₀ w₀ ed ad (Nat.lor (bit1 i) S) (Nat.lor (bit1 i) D) R' (updV V i v) T st' vs' e' h' pend' ψ (a.put o.dst y) w' := by
  have SD : ∀ j, S.testBit j = true → D.testBit j = true := fun j hj => (I.dS j).2 (.inl hj)
  have DD : ∀ j, D.testBit j = true → (Nat.lor (bit1 i) D).testBit j = true := fun j hj => (sBit _ _ _).2 (.inr hj)
  have Dne : ∀ j, D.testBit j = true → j ≠ i := fun j hj c => by rw [c, hk.new] at hj; cases hj
  have VV : ∀ j, D.testBit j = true → updV V i v j = V j := fun j hj => updV_ne (Dne j hj)
  obtain ⟨m1, m2, m3, m4⟩ := put_mf (base := base) (S := S) (V := updV V i v) (φ := ψ) (y := y) hdst ho hlt I.nt (by rw [updV_at]; exact hv)
    (fun t' j h1 h2 => by rw [VV j (SD j h2)]; exact (I.mfW t' j h1 h2).mono t.le) (fun t' h1 => (I.mfB t' h1).mono t.le)
  obtain ⟨e1, e2⟩ := env_step hdst I ho hk.new hb
  refine ⟨H, I.tr.trans t, I.still.trans s, m3, hed.trans I.ed, m4.trans I.ad, m1, m2, e1, e2, fun x hx => (I.tf x hx).mono DD VV, fun x hx => ?_, fun x hx => ?_, I.tnd, fun x hx id ob hxk => ?_, I.ond, fun j => ?_, fun j o' m hj ho' hm => ?_, fun j o' m hj ho' hm => ?_⟩
  · have F := I.kf x hx
    have O := I.own x hx
    have hS := I.tS x hx
    revert F O
    unfold KF
    cases x.k with
    | pure => exact fun F _ => F
    | read f =>
      rintro ⟨nd, f1, left, k, f2, f3, f4, f5⟩ _
      obtain ⟨d1, d2⟩ := dropR_mem hR x.i left f4
      cases left with
      | zero => exact absurd (hp _ (d1 rfl)) (by rw [hS]; simp)
      | succ n =>
        have f5 := f5.resolve_left (by simp)
        obtain ⟨g1, g2⟩ := hrd f x.v n f5
        rcases g2 with g2 | g2
        · exact ⟨nd, f1, n, h', g2, .refl _, d2 n rfl, .inr g1⟩
        · exact ⟨nd, f1, n, k, f2, by rw [g2]; exact f3, d2 n rfl, .inr g1⟩
    | own id ob =>
      rintro ⟨nd, f1, f2⟩ O
      obtain ⟨o1, o2, o3⟩ := O id ob rfl
      exact ⟨nd, f1, fun ob' hob => f2 ob' (t.stay id ob' o3 o1 hob)⟩
    | skip => exact fun F _ => F
  · exact (sBitF _ _ _).2 ⟨(Dne _ (I.tf x hx).inD).symm, I.tS x hx⟩
  · obtain ⟨o1, o2, o3⟩ := I.own x hx id ob hxk
    refine ⟨fun hd => ?_, o2, Nat.lt_of_lt_of_le o3 t.next⟩
    rcases t.dom id hd with hd | hd
    · exact o1 hd
    · omega
  · rw [sBit, sBit, I.dS]
    constructor
    · rintro (h1 | h1 | h1)
      · exact .inl (.inl h1)
      · exact .inl (.inr h1)
      · exact .inr h1
    · rintro ((h1 | h1) | h1)
      · exact .inl h1
      · exact .inr (.inl h1)
      · exact .inr (.inr h1)
  · rcases (sBit _ _ _).1 hj with rfl | hj
    · rw [ho] at ho'; injection ho' with ho'; subst ho'
      exact (sBit _ _ _).2 (.inr (hp m hm))
    · exact (sBit _ _ _).2 (.inr (I.cl j o' m hj ho' hm))
  · rcases (sBit _ _ _).1 hj with rfl | hj
    · rw [ho] at ho'; injection ho' with ho'; subst ho'
      exact DD m (hk.pre m hm)
    · exact DD m (I.dcl j o' m hj ho' hm)
/-- the machine and the evaluator do an effect -/
theorem e_step (hT : TTok P tt) (hdst : ∀ j o d, ops[j]? = some o → o.dst = some d → wrOf d ops.toList 0 = some j) (I : Inv P fi ops base φ₀ h₀ w₀ ed ad S D R V T st vs e h pend φ a w) {p : Nat × Nat} {l : List (Nat × Nat)} {L : Nat} {o : Oper}
    (ho : ops[p.1]? = some o) (hk : OpOk ops.toList p.1 D L (preds o.after.toList) o) (he : effO fi tt o = true) (hp : ∀ j, (preds o.after.toList).testBit j = true → S.testBit j = true) {R' : List (Nat × Nat)} (hR : dropR (preds o.after.toList) R = some R')
    {call : Callee' → List AVal → Heap → M AVal} (hcall : RtOK P call) {outs : List (Env × Heap)} (hrun : (planK fi tt ops.toList (p :: l) st).run ⟨call, pend⟩ vs e h = some outs) {ro : Option Nat} {K : Act → World → Prop} (Q : Exit → Act → World → Prop)
    (hK : ∀ V' st' vs' e' h' pend' outs' φ' a' w', Inv P fi ops base φ₀ h₀ w₀ ed ad (Nat.lor (bit1 p.1) S) (Nat.lor (bit1 p.1) D) R' V' T st' vs' e' h' pend' φ' a' w' → (planK fi tt ops.toList l st').run ⟨call, pend'⟩ vs' e' h' = some outs' → (∀ y ∈ outs', y ∈ outs) → K a' w') :
    wpOpIn (W ro) 0 P ops Q p.1 K a w := by
  have SD : ∀ j, S.testBit j = true → D.testBit j = true := fun j hj => (I.dS j).2 (.inl hj)
  have hSi : S.testBit p.1 = false := by
    cases hs : S.testBit p.1 with
    | false => rfl
    | true => exact absurd (SD _ hs) (by rw [hk.new]; simp)
  rw [planK_cons ho, he] at hrun
  obtain ⟨hE, hrun⟩ := operD2_some hrun
  have hKK : KOK P ⟨fi.glob, st, fi.rnd⟩ o (opK ⟨fi.glob, st, fi.rnd⟩ tt o.op) := opK_ok hT rfl
  have hov : ORel φ ⟨fi.glob, st, fi.rnd⟩ vs e.tmps a o := I.ov ho hSi hp (opnd_now I hk)
  unfold wpOpIn
  simp only [ho]
  have run_ : (stepD p.2 (goK (planK fi tt ops.toList l (pushT fi.glob st o.dst)) (dkOf fi o.dst)) (opK ⟨fi.glob, st, fi.rnd⟩ tt o.op)).run ⟨call, pend⟩ vs e h = some outs → o.wpIn (W ro) 0 P a w K Q := by
    intro hr
    refine ⟨fun _ _ => trivial, ?_⟩
    generalize opK ⟨fi.glob, st, fi.rnd⟩ tt o.op = KK at hE hr hKK
    cases KK <;> try (cases hE; done)
    rename_i f
    obtain ⟨nd, hc⟩ := hKK
    rw [Oper.semAt_eq _ _ _ nd]
    obtain ⟨l1, h1, h2⟩ := bindM_some (show bindM (f ⟨call, pend⟩ vs e.tmps h) (fun v h' => (goE (goK (planK fi tt ops.toList l (pushT fi.glob st o.dst)) (dkOf fi o.dst))).go ⟨call, pend⟩ vs e h' v) = some outs from hr)
    refine (hc ⟨call, pend⟩ hcall φ h vs e.tmps a w l1 hov I.hp h1).upon Q ro 0 fun x w' ⟨ψ, vh, g1, g2, g3, g4, g5⟩ => ?_
    obtain ⟨o2, g6, g7⟩ := h2 vh g1
    obtain ⟨l2, g8, g9⟩ := ob_some (show ob (recheckL vh.2 pend) (fun l' => (goK (planK fi tt ops.toList l (pushT fi.glob st o.dst)) (dkOf fi o.dst)).go ⟨call, l'⟩ vs e vh.2 vh.1) = some o2 from g6)
    obtain ⟨b1, vs', e', b2, b3, b4⟩ := goK_bind g9
    exact hK _ _ vs' e' vh.2 l2 o2 ψ _ w' (e_inv hdst I ho hk hp b1 b4 b3 g2 g3 g5 g4 hR fun f u left hm => let ⟨q1, q2⟩ := recheckL_mem g8 f u left hm; ⟨q2, .inl q1⟩) b2 g7
  rcases hrun with ⟨hg, hrun⟩ | ⟨g, hg, hrun⟩
  · have hwant : Region.wanted o (yielded ops a.tmps) = true := by simp [Region.wanted, hg]
    rw [if_pos hwant]
    exact run_ hrun
  · obtain ⟨d, hd, hrun⟩ := guardO_some hrun
    have hgS := hp _ (hk.guard g hg)
    obtain ⟨oj, hoj, hod⟩ : ∃ oj, ops[g.1]? = some oj ∧ oj.dst = some d := by
      have := dstOf_some hd
      cases hq : ops[g.1]? with
      | none => rw [hq] at this; cases this
      | some oj => rw [hq] at this; exact ⟨oj, rfl, this⟩
    have hw := hdst g.1 oj d hoj hod
    have hs := I.enW d g.1 hw (SD _ hgS)
    obtain ⟨g1, g2⟩ := guard_ok (want := g.2) hd (I.mfW d g.1 hw hgS) (show o.guard = some (g.1, g.2) from hg)
    rcases hrun with ⟨h1, h2⟩ | ⟨h1, h2⟩
    · rw [h1] at hs
      rw [if_pos (by rw [g1 _ (hs.eq (by simp))]; simp)]
      exact run_ h2
    · have hno : Region.wanted o (yielded ops a.tmps) = false := by
        rcases h1 with h1 | ⟨b, h1, h3⟩
        · rw [h1] at hs; exact g2 (hs.eq (by simp))
        · rw [h1] at hs; rw [g1 b (hs.eq (by simp)), decide_eq_false h3]
      rw [if_neg (by rw [hno]; simp)]
      obtain ⟨b1, vs', e', b2, b3, b4⟩ := goK_bind (show (goK (planK fi tt ops.toList l (pushT fi.glob st o.dst)) (dkOf fi o.dst)).go ⟨call, skipL pend⟩ vs e h skipA = some outs from h2)
      exact ⟨fun _ _ => trivial, hK _ _ vs' e' h (skipL pend) outs φ _ w (e_inv hdst I ho hk hp b1 b4 b3 I.hp (.refl _ _ _) (.refl _) (skip_rel φ) hR fun f u left hm => ⟨skipL_mem f u left hm, .inr rfl⟩) b2 (fun y hy => hy)⟩
end
end Go.Proofs.YtjhionjmlcccjaaGreatDoor.Ev
namespace Go.Proofs.YtjhionjmlcccjaaGreatDoor.Ev
set_option linter.unusedVariables false
set_option linter.unusedSimpArgs false
open Go
theorem lst_true {listed : Array Bool} {n j : Nat} (hs : listed.size = n) (hj : j < n) : Lst listed j ↔ listed.getD j true = true := by
  unfold Lst
  rw [Array.getD_eq_getD_getElem?, Array.getD_eq_getD_getElem?, Array.getElem?_eq_getElem (by omega)]
  simp
theorem lst_lt {listed : Array Bool} {j : Nat} (h : Lst listed j) : j < listed.size := by
  unfold Lst at h
  rw [Array.getD_eq_getD_getElem?] at h
  rcases Nat.lt_or_ge j listed.size with h1 | h1
  · exact h1
  · rw [Array.getElem?_eq_none h1] at h; cases h
section
variable {P : Program} {n₀ : Nat} {tt : TT} {fi : FI} {ops : Array Oper} {base : Nat → AVal} {φ₀ : Ren} {h₀ : Heap} {w₀ : World} {ed : List (AVal × List AVal)} {ad : List Deferred}
/-- every order comes to what the plan comes to -/
theorem draw_main (hT : TTok P tt) (hdst : ∀ j o d, ops[j]? = some o → o.dst = some d → wrOf d ops.toList 0 = some j) {call : Callee' → List AVal → Heap → M AVal} (hcall : RtOK P call) {outs : List (Env × Heap)} {ro : Option Nat} {md : Region.Mode}
    (hall : ∀ listed : Array Bool, listed.size = ops.size → Region.ready md ops listed = [] → ∀ i, i < ops.size → Lst listed i) (hdf : DRel n₀ φ₀ h₀ w₀.heap ed ad) {Q : Exit → Act → World → Prop}
    (hq : ∀ ψ x a' w', x ∈ outs → SRel P n₀ ψ fi.glob fi.nt x.1 x.2 a' w' → Tr φ₀ h₀ w₀.heap ψ x.2 w'.heap → Still w₀ w' → Q .normal a' w') :
    ∀ (fuel : Nat) (S D L : Nat) (R : List (Nat × Nat)) (V : Nat → AVal) (T : List TE) (rest : List (Nat × Nat)) (st : List Tmp) (vs : List AVal) (e : Env) (h : Heap) (pend : List Pend) (φ : Ren) (a : Act) (w : World) (outs' : List (Env × Heap)) (listed : Array Bool),
      Inv P fi ops base φ₀ h₀ w₀ ed ad S D R V T st vs e h pend φ a w → planWalk ops.toList (effO fi tt) rest D L R = true → (planK fi tt ops.toList rest st).run ⟨call, pend⟩ vs e h = some outs' → (∀ y ∈ outs', y ∈ outs) →
      T.length + rest.length ≤ fuel → (rest = [] ∨ ∃ p l2 o, rest = p :: l2 ∧ ops[p.1]? = some o ∧ effO fi tt o = true) → listed.size = ops.size → (∀ j, j < ops.size → listed.getD j true = S.testBit j) →
      wpAnyIn (W ro) 0 P md ops Q fuel listed a w := by
  -- all is done
  have done : ∀ (S D L : Nat) (R : List (Nat × Nat)) (V : Nat → AVal) (T : List TE) (rest : List (Nat × Nat)) (st : List Tmp) (vs : List AVal) (e : Env) (h : Heap) (pend : List Pend) (φ : Ren) (a : Act) (w : World) (outs' : List (Env × Heap)),
      Inv P fi ops base φ₀ h₀ w₀ ed ad S D R V T st vs e h pend φ a w → planWalk ops.toList (effO fi tt) rest D L R = true → (planK fi tt ops.toList rest st).run ⟨call, pend⟩ vs e h = some outs' → (∀ y ∈ outs', y ∈ outs) →
      (∀ i, i < ops.size → S.testBit i = true) → Q .normal a w := by
    intro S D L R V T rest st vs e h pend φ a w outs' I hw hr hsub hS
    have hrest : rest = [] := by
      cases rest with
      | nil => rfl
      | cons p l =>
        exfalso
        obtain ⟨o, ho, hk, _⟩ := walk_cons hw
        have ho' : ops[p.1]? = some o := by simpa using ho
        have := (I.dS p.1).2 (.inl (hS p.1 (Array.getElem?_eq_some_iff.1 ho').1))
        rw [hk.new] at this; cases this
    subst hrest
    have hr : some [(e, h)] = some outs' := hr
    injection hr with hr
    refine hq φ (e, h) a w (hsub _ (by rw [← hr]; exact List.mem_singleton.2 rfl)) ⟨fun t v hv ht => ?_, I.nt, ?_, I.hp⟩ I.tr I.still
    · have henv : (vTmpS ⟨fi.glob, st, fi.rnd⟩ t).get vs e.tmps = v := by
        unfold vTmpS
        rw [show Nat.testBit fi.glob t = true from ht]
        show dflt ((gk dep t).get e.tmps) = v
        rw [show (gk dep t).get e.tmps = some v from hv]; rfl
      cases hwr : wrOf t ops.toList 0 with
      | none =>
        have h1 := I.enB t (fun j hj => by rw [hwr] at hj; cases hj)
        rw [henv] at h1
        exact h1.rel (I.mfB t (fun j hj => by rw [hwr] at hj; cases hj))
      | some j =>
        obtain ⟨oj, hoj, _⟩ := wrOf_dst hwr
        have hSj := hS j (Array.getElem?_eq_some_iff.1 hoj).1
        have h1 := I.enW t j hwr ((I.dS j).2 (.inl hSj))
        rw [henv] at h1
        exact h1.rel (I.mfW t j hwr hSj)
    · show DRel n₀ φ h w.heap e.defers a.defers
      rw [I.ed, I.ad]; exact hdf.tr I.tr
  intro fuel
  induction fuel with
  | zero =>
    intro S D L R V T rest st vs e h pend φ a w outs' listed I hw hr hsub hlen hhd hsz hls
    have hT0 : T = [] := List.length_eq_zero_iff.1 (by omega)
    have hr0 : rest = [] := List.length_eq_zero_iff.1 (by omega)
    have hS : ∀ i, i < ops.size → S.testBit i = true := by
      intro i hi
      rcases walk_all hw i (by simpa using hi) with h1 | ⟨p, h1, _⟩
      · rcases (I.dS i).1 h1 with h1 | ⟨x, h1, _⟩
        · exact h1
        · rw [hT0] at h1; cases h1
      · rw [hr0] at h1; cases h1
    refine ⟨?_, done S D L R V T rest st vs e h pend φ a w outs' I hw hr hsub hS⟩
    cases hrd : Region.ready md ops listed with
    | nil => rfl
    | cons i l =>
      exfalso
      have : i ∈ Region.ready md ops listed := by rw [hrd]; simp
      obtain ⟨h1, h2, _⟩ := mem_ready.1 this
      rw [hls i h1, hS i h1] at h2; cases h2
  | succ fuel ih =>
    intro S D L R V T rest st vs e h pend φ a w outs' listed I hw hr hsub hlen hhd hsz hls
    refine ⟨fun hrd => done S D L R V T rest st vs e h pend φ a w outs' I hw hr hsub fun i hi => ?_, fun i hi => ?_⟩
    · rw [← hls i hi]; exact (lst_true hsz hi).1 (hall listed hsz hrd i hi)
    · obtain ⟨h1, h2, o, ho, h3⟩ := mem_ready.1 hi
      have hSi : S.testBit i = false := by rw [← hls i h1]; exact h2
      have hp : ∀ j, (preds o.after.toList).testBit j = true → S.testBit j = true := by
        intro j hj
        obtain ⟨ed, g1, g2, g3⟩ := preds_test hj
        have hl := h3 ed g1 (binds_any g2)
        rw [g3] at hl
        have hlt : j < ops.size := by have := lst_lt hl; omega
        rw [← hls j hlt]; exact (lst_true hsz hlt).1 hl
      have hsz' : (listed.setIfInBounds i true).size = ops.size := by simpa using hsz
      have hls' : ∀ j, j < ops.size → (listed.setIfInBounds i true).getD j true = (Nat.lor (bit1 i) S).testBit j := by
        intro j hj
        rw [lor_test, bit1_test, ← hls j hj, Array.getD_eq_getD_getElem?, Array.getD_eq_getD_getElem?, Array.getElem?_setIfInBounds]
        by_cases hij : i = j
        · subst hij; simp [hsz, h1]
        · simp [hij]
      rcases walk_all hw i (by simpa using h1) with hD | ⟨p, hpr, hpi⟩
      · -- it has been done by the evaluator
        rcases (I.dS i).1 hD with hc | ⟨x, hx, hxi⟩
        · rw [hSi] at hc; cases hc
        · subst hxi
          have F := I.tf x hx
          have ho2 := F.op
          rw [ho] at ho2; injection ho2 with ho2
          refine t_step hdst I hx (by rw [← ho2]; exact hp) Q fun φ' a' w' I' => ?_
          have hlt : (T.filter fun z => z.i != x.i).length < T.length := by
            refine List.length_filter_lt_length_iff_exists.2 ⟨x, hx, by simp⟩
          exact ih _ D L R V _ rest st vs e h pend φ' a' w' outs' _ I' hw hr hsub (by omega) hhd hsz' hls'
      · -- it is the next effect
        rcases hhd with hhd | ⟨q, l2, oq, hrest, hoq, heq⟩
        · rw [hhd] at hpr; cases hpr
        · subst hrest
          obtain ⟨o2, ho2, hk, hw2⟩ := walk_cons hw
          have ho2' : ops[q.1]? = some o2 := by simpa using ho2
          rw [hoq] at ho2'; injection ho2' with ho2'
          subst ho2'
          rcases hw2 with ⟨_, R', hR, hw2⟩ | ⟨hc, _⟩
          · rcases List.mem_cons.1 hpr with hpq | hpl
            · subst hpq
              subst hpi
              rw [ho] at hoq; injection hoq with hoq; subst hoq
              refine e_step hT hdst I ho hk heq hp hR hcall hr Q fun V' st' vs' e' h' pend' outs2 φ' a' w' I' hr' hsub' => ?_
              obtain ⟨l3, D3, L3, R3, V3, T3, st3, vs3, e3, h3', pend3, q1, q2, q3, q4, q5⟩ := advance hT hdst l2 _ _ _ _ _ _ _ _ _ _ I' hw2 hr'
              have hlen' : T.length + (l2.length + 1) ≤ fuel + 1 := by simpa using hlen
              exact ih _ D3 L3 R3 V3 T3 l3 st3 vs3 e3 h3' pend3 φ' a' w' outs2 _ q1 q2 q3 (fun y hy => hsub y (hsub' y hy)) (by omega) q5 hsz' hls'
            · exfalso
              have SD : ∀ j, S.testBit j = true → D.testBit j = true := fun j hj => (I.dS j).2 (.inl hj)
              have hSq : S.testBit q.1 = false := by
                cases hs : S.testBit q.1 with
                | false => rfl
                | true => exact absurd (SD _ hs) (by rw [hk.new]; simp)
              have bne : bit1 q.1 ≠ 0 := fun e => by
                have := bit1_test q.1 q.1
                rw [e] at this; simp at this
              obtain ⟨o3, j, g1, g2, g3⟩ := walk_wait (S := S) hw2 bne (fun j hj => by rw [bit1_test] at hj; rw [← of_decide_eq_true hj]; exact hSq) (fun j hj => (sBit _ _ _).2 (.inr (SD j hj))) p hpl
              rw [hpi] at g1
              have g1' : ops[i]? = some o3 := by simpa using g1
              rw [ho] at g1'; injection g1' with g1'; subst g1'
              rw [hp j g2] at g3; cases g3
          · rw [heq] at hc; cases hc
/-- a region that draws its order -/
theorem draw_ok (hT : TTok P tt) {fi : FI} {ro : Option Nat} {id : Nat} {ops : Array Oper} {r : Rt} (hr : RtOK P r.call) {Q : Exit → Act → World → Prop} {e : Env} {h : Heap} {φ : Ren} {a : Act} {w : World} {pl : Option Plan} {outs : List (Env × Heap)}
    (hrun : (drawK fi tt ops.toList pl).run r [] e h = some outs) (S : SRel P n₀ φ fi.glob fi.nt e h a w)
    (hq : ∀ ψ x a' w', x ∈ outs → SRel P n₀ ψ fi.glob fi.nt x.1 x.2 a' w' → Tr φ h w.heap ψ x.2 w'.heap → Still w w' → Q .normal a' w') : (Code.region id ops true).wpIn (W ro) 0 P Q a w := by
  unfold drawK at hrun
  split at hrun
  · cases hrun
  · rename_i p
    split at hrun
    case h_2 => cases hrun
    rename_i hplan
    have hrun : (planK fi tt ops.toList p.ord []).run ⟨r.call, []⟩ [] e h = some outs := hrun
    obtain ⟨h1, h2⟩ := andB_true hplan
    obtain ⟨h2, h3⟩ := andB_true h2
    obtain ⟨h4, h3⟩ := andB_true h3
    have hdst : ∀ j o d, ops[j]? = some o → o.dst = some d → wrOf d ops.toList 0 = some j := by
      intro j o d ho hd
      have hj : j < ops.toList.length := by simpa using (Array.getElem?_eq_some_iff.1 ho).1
      rcases walk_all h3 j hj with hc | ⟨q, hq1, hq2⟩
      · simp at hc
      · rw [← hq2]
        exact walk_dst h3 q hq1 o d (by rw [hq2]; simpa using ho) hd
    have any_ : ∀ md : Region.Mode, ∀ listed : Array Bool, listed.size = ops.size → Region.ready md ops listed = [] → ∀ i, i < ops.size → Lst listed i := by
      intro md listed hsz hrd
      cases md with
      | text => exact topo_all (b := bText) (fun e he => by rw [bText_eq]; exact he) hsz hrd _ 0 h1 (fun j hj => by simp at hj)
      | gc => exact topo_all (b := bGc) (fun e he => by rw [bGc_eq]; exact he) hsz hrd _ 0 h2 (fun j hj => by simp at hj)
      | any => exact topo_all (b := bText) (fun e he => by rw [bText_eq]; exact binds_any he) hsz hrd _ 0 h1 (fun j hj => by simp at hj)
    have main : ∀ md : Region.Mode, wpAnyIn (W ro) 0 P md ops Q ops.size (Array.replicate ops.size false) a { w with drawn := w.drawn + 1 } := by
      intro md
      have I0 : Inv P fi ops (fun t => (vTmpS ⟨fi.glob, [], fi.rnd⟩ t).get [] e.tmps) φ h { w with drawn := w.drawn + 1 } e.defers a.defers 0 0 [] (fun _ => .junk) [] [] [] e h [] φ a { w with drawn := w.drawn + 1 } := by
        refine ⟨S.hp, .refl _ _ _, .refl _, S.nt, rfl, rfl, fun t j _ hj => (by simp at hj), fun t _ => vTmpS_rel (LRel.start S.tm) t, fun t j _ hj => (by simp at hj), fun t _ => .refl _, fun x hx => (by cases hx), fun x hx => (by cases hx), fun x hx => (by cases hx), .nil, fun x hx => (by cases hx), .nil, fun i => (by simp), fun i o j hi => (by simp at hi), fun i o j hi => (by simp at hi)⟩
      obtain ⟨l', D', L', R', V', T', st', vs', e', h', pend', q1, q2, q3, q4, q5⟩ := advance hT hdst p.ord 0 0 [] _ _ _ _ _ _ _ I0 h3 hrun
      have hlen : p.ord.length ≤ ops.size := by simpa using Nat.le_of_ble_eq_true h4
      refine draw_main (w₀ := { w with drawn := w.drawn + 1 }) hT hdst hr (any_ md) S.df (fun ψ x a' w' hx hs ht hst => hq ψ x a' w' hx hs ht ⟨hst.os, hst.out⟩) ops.size 0 D' L' R' V' T' l' st' vs' e' h' pend' φ a _ outs _ q1 q2 q3 (fun y hy => hy) (by rw [q4]; simpa using hlen) q5 (by simp) (fun j hj => by
        rw [Array.getD_eq_getD_getElem?]; simp [hj])
    refine wpIn_region_draw fun t => ?_
    unfold Region.schedule
    split
    · exact wpAnyIn_sound _ _ _ _ _ (main .any)
    · split
      · exact wpAnyIn_sound _ _ _ _ _ (main .text)
      · exact wpAnyIn_sound _ _ _ _ _ (main .gc)
end
end Go.Proofs.YtjhionjmlcccjaaGreatDoor.Ev
namespace Go.Proofs.YtjhionjmlcccjaaGreatDoor.Ev
set_option linter.unusedVariables false
set_option linter.unusedSimpArgs false
open Go

/-! ## scopes -/
def noG (Q : Exit → Act → World → Prop) : Exit → Act → World → Prop
  | .goto _, _, _ => False
  | e, a, w => Q e a w
theorem wpIn_scope {F : Fence} {n : Nat} {P : Program} {c : Code} {Q : Exit → Act → World → Prop} {a : Act} {w : World} (h : c.wpIn F n P (noG Q) a w) : (Code.scope c).wpIn F n P Q a w := by
  intro b k cs hro hb hr
  have s1 : step P (lone (b.atR a (.code (.scope c) :: k)) cs w) = .next (lone (b.atR a (.code c :: .inScope c :: k)) cs w) := step_lone_go (by simp [stepG, stepG.exec, Frame.atR])
  have s2 : ∀ a w, step P (lone (b.atR a (.inScope c :: k)) cs w) = .next (lone (b.atR a k) cs w) := fun a w => step_lone_go (by simp [stepG, stepG.exec, Frame.atR])
  have h0 : (lone (b.atR a (.code (.scope c) :: k)) cs w).fenced P F := fenced_calm hb hr rfl
  obtain ⟨e, a₁, w₁, hq, harr⟩ := h b (.inScope c :: k) cs hro hb hr
  cases e with
  | normal => exact ⟨.normal, a₁, w₁, hq, .head h0 s1 (StepsIn.trans harr (.one (fenced_calm (fr := b.atR a₁ (.inScope c :: k)) hb hr rfl) (s2 _ _)))⟩
  | exit id =>
    have hx : exitTo id (.inScope c :: k) = exitTo id k := by simp [exitTo]
    exact ⟨.exit id, a₁, w₁, hq, fun k' hk => .head h0 s1 (harr.1 k' (by rw [hx]; exact hk)), fun hr' hk => let ⟨k₁, h1, h2⟩ := harr.2 hr' (by rw [hx]; exact hk); ⟨k₁, h1, .head h0 s1 h2⟩⟩
  | goto l => exact hq.elim
  | ret => exact ⟨.ret, a₁, w₁, hq, ArrivesIn.of_steps (b := b) (k := k) (e := .ret) (.one h0 s1) harr⟩
  | panic ch => exact ⟨.panic ch, a₁, w₁, hq, ArrivesIn.of_steps (b := b) (k := k) (e := .panic ch) (.one h0 s1) harr⟩
  | outgrown => exact ⟨.outgrown, a₁, w₁, hq, ArrivesIn.of_steps (b := b) (k := k) (e := .outgrown) (.one h0 s1) harr⟩

/-! ## statements -/
def exOf : AExit → Exit
  | .normal => .normal
  | .exit id => .exit id
  | .ret => .ret
/-- what is known of the calls of functions that have bodies -/
def BodyOK (P : Program) (call : Callee' → List AVal → Heap → M AVal) : Prop :=
  ∀ (f : FuncId) (φ : Ren) (h : Heap) (w : World) (args : List AVal) (args' : Array Value) (outs : List (AVal × Heap)), call (.body f) args h = some outs → VRelL φ args args'.toList → HRel P φ h w.heap →
    (callFunc f args').run P w = .ok (.enter f args') w ∧ CallsIn (W none) 0 P f args' w (endR (Good P φ h w outs))
section
variable {P : Program} {n₀ : Nat} {tt : TT}
theorem Tr.push (φ : Ren) (h : Heap) (hp : Array Obj) (o : Obj) : Tr φ h hp φ h (hp.push o) :=
  ⟨.refl _, Nat.le_refl _, fun _ h => .inl h, by simp, fun b hb _ => by rw [Array.getElem?_push_lt hb, Array.getElem?_eq_getElem hb], fun _ a => .inl a, fun _ _ _ _ h => h⟩
/-- a range over a function -/
theorem range_ok {fi : FI} {r : Rt} (hb : BodyOK P r.call) {g : Operand} {ps : Array Tmp} {assign body : Code} {e : Env} {h : Heap} {φ : Ren} {a : Act} {w : World} {outs : List ((AExit × Env) × Heap)}
    (hn : n₀ ≤ w.heap.size) (hrun : (cRange (loopObj (rndOf fi) ps.toList assign body) (vk ⟨fi.glob, [], fi.rnd⟩ g)).run r e h = some outs) (S : SRel P n₀ φ fi.glob fi.nt e h a w) {Q : Exit → Act → World → Prop}
    (hq : ∀ ψ x a' w', x ∈ outs → SRel P n₀ ψ fi.glob fi.nt x.1.2 x.2 a' w' → Tr φ h w.heap ψ x.2 w'.heap → Still w w' → Q (exOf x.1.1) a' w') : (Code.rangeFunc g ps assign body).wpIn (W none) 0 P Q a w := by
  have hrun : rangeC (loopObj (rndOf fi) ps.toList assign body) (vk ⟨fi.glob, [], fi.rnd⟩ g) r e h h.next = some outs := hrun
  obtain ⟨l1, h1, h2⟩ := bindM_some (show bindM (rangeV r h.next (h.alloc (loopObj (rndOf fi) ps.toList assign body e)) ((vk ⟨fi.glob, [], fi.rnd⟩ g).get [] e.tmps)) (fun _ h' => afterLoop h.next e h') = some outs from hrun)
  have hg := vk_rel (LRel.start (rnd := fi.rnd) S.tm) g (a := a)
  generalize (vk ⟨fi.glob, [], fi.rnd⟩ g).get [] e.tmps = gv at hg h1
  refine wpIn_rangeFunc fun fn _ => ?_
  -- the record and the block
  let lo : Loop := { state := .ready, pending := none, fn := fn, tmps := a.tmps, params := ps, assign := assign, body := body, defers := w.heap.size }
  let w₁ : World := { w with heap := (w.heap.push (.deferred (some []))).push (.loop lo) }
  have hent : (Instr.enterLoop fn a.tmps ps assign body none).run P w = .ok (w.heap.size + 1, [{ target := .collected w.heap.size, args := #[] }]) w₁ := by
    have e1 : (newObj (.deferred (some []))).run P w = .ok w.heap.size { w with heap := w.heap.push (.deferred (some [])) } := rfl
    have e2 : (newObj (.loop lo)).run P { w with heap := w.heap.push (.deferred (some [])) } = .ok (w.heap.size + 1) w₁ := by
      show Result.ok (w.heap.push (.deferred (some []))).size w₁ = _
      rw [Array.size_push]
    simp only [Instr.enterLoop, Sem.run_bind, e1, Result.andThen_ok, Sem.run_pure]
    show ((newObj (.loop lo)).run P _).andThen _ = _
    rw [e2]; rfl
  have Hp := S.hp.push (.deferred (some []))
  have A := Hp.alloc (cap := 0) (sz := 0) (ob := loopObj (rndOf fi) ps.toList assign body e) (o' := .loop lo)
    ⟨lo, rfl, rfl, rfl, rfl, rfl, rfl, S.nt, rfl, (S.tm.mono (φ.le_add h.next _ 0 0 0 S.hp.fresh))⟩
  have hsz : (w.heap.push (.deferred (some []))).size = w.heap.size + 1 := by simp
  rw [hsz] at A
  have T1 : Tr φ h w.heap (φ.add h.next (w.heap.size + 1) 0 0 0) (h.alloc (loopObj (rndOf fi) ps.toList assign body e)) w₁.heap := (Tr.push φ h w.heap _).trans A.2
  have hblk : (φ.add h.next (w.heap.size + 1) 0 0 0).blk h.next = w.heap.size + 1 := by simp [Ren.add]
  have mark : MarkOK n₀ (φ.add h.next (w.heap.size + 1) 0 0 0) (h.alloc (loopObj (rndOf fi) ps.toList assign body e)) w₁.heap w.heap.size := by
    refine ⟨hn, ?_, fun id hid => ?_⟩
    · show ((w.heap.push (.deferred (some []))).push (.loop lo))[w.heap.size]? = _
      rw [Array.getElem?_push_lt (by simp)]
      simp
    · rcases hid.1 with rfl | hd
      · rw [hblk]; omega
      · rw [(φ.le_add h.next (w.heap.size + 1) 0 0 0 S.hp.fresh).blk id hd]
        have := S.hp.bd id hd; omega
  have fresh : ∀ {eds : List (AVal × List AVal)} {ds : List Deferred}, DRel n₀ φ h w.heap eds ds → ∀ d ∈ ds, d.target ≠ .collected w.heap.size := by
    intro eds ds
    induction ds generalizing eds with
    | nil => intro _ d hd; cases hd
    | cons d ds ih =>
      intro hd d' hd' hc
      rcases hd with ⟨q, g1, g2, g3, g4⟩ | ⟨x, eds', g1, g2, ⟨fv, cap, g3⟩, g4⟩
      · rcases List.mem_cons.1 hd' with rfl | hd'
        · rw [g1] at hc; injection hc with hc
          have := (Array.getElem?_eq_some_iff.1 g2.2.1).1
          omega
        · exact ih g4 d' hd' hc
      · rcases List.mem_cons.1 hd' with rfl | hd'
        · rw [g3] at hc; cases hc
        · exact ih g4 d' hd' hc
  have hd1 : DRel n₀ (φ.add h.next (w.heap.size + 1) 0 0 0) (h.alloc (loopObj (rndOf fi) ps.toList assign body e)) w₁.heap e.defers ({ target := .collected w.heap.size, args := #[] } :: a.defers) :=
    .inl ⟨w.heap.size, rfl, mark, fresh S.df, S.df.tr T1⟩
  -- the call
  generalize hge : a.eval g = gx at hg
  cases hg <;> try (cases h1; done)
  rename_i gf gf' fs cs fs' cs' hfn hfs hcs
  cases gf <;> try (cases h1; done)
  rename_i f
  have hgf : gf' = .func f := hfn.symm
  subst hgf
  have le1 := φ.le_add h.next (w.heap.size + 1) 0 0 0 S.hp.fresh
  have hy : VRel (φ.add h.next (w.heap.size + 1) 0 0 0) (.func (.yield h.next) [] []) (.func (.yield (w.heap.size + 1)) #[] #[]) := .func _ _ _ _ _ _ ⟨.inl rfl, by rw [hblk]⟩ .nil .nil
  have hargs : VRelL (φ.add h.next (w.heap.size + 1) 0 0 0) (fs ++ (.func (.yield h.next) [] [] :: cs)) ((fs' ++ #[Value.func (.yield (w.heap.size + 1)) #[] #[]]) ++ cs').toList := by
    rw [Array.append_assoc]
    refine (hfs.mono le1).app ?_
    rw [Array.toList_append]
    exact .cons _ _ _ _ hy (hcs.mono le1)
  obtain ⟨c1, c2⟩ := hb f _ _ w₁ _ _ l1 h1 hargs A.1
  refine ⟨w.heap.size + 1, [{ target := .collected w.heap.size, args := #[] }], w₁, { target := .fn (.func f) cs', args := fs' ++ #[Value.func (.yield (w.heap.size + 1)) #[] #[]] }, w₁, f, _, w₁, hent, ?_, fun _ _ => trivial, c1, (by intro h; cases h), ?_⟩
  · show (Deferred.ofValue (a.eval g) _).run P w₁ = _
    have hmap : Array.map a.eval (rangeCall g (w.heap.size + 1)).args = #[Value.func (.yield (w.heap.size + 1)) #[] #[]] := by simp [rangeCall, Act.eval]
    rw [hge, hmap]; rfl
  · refine callsIn_W (CallsIn.mono c2 fun en w₃ hen => ?_)
    cases en with
    | panicked c => exact hen.elim
    | outgrown => exact hen.elim
    | returned v =>
      obtain ⟨ψ, vh, g1, g2, g3, g4, g5⟩ := hen
      obtain ⟨o2, g6, g7⟩ := h2 vh g1
      have hdom : ψ.dom h.next := g3.le.dom _ (.inl rfl)
      have hbk : ψ.blk h.next = w.heap.size + 1 := by rw [g3.le.blk _ (.inl rfl), hblk]
      have g6 : afterO h.next e vh.2 (vh.2.objs.get h.next) = some o2 := g6
      unfold afterO at g6
      split at g6
      case h_2 => cases g6
      rename_i lr hlr
      obtain ⟨o', q1, rm, q2, q3⟩ := g2.obj h.next _ hdom hlr
      subst q2
      rw [hbk] at q1
      have hget := rGetObj (P := P) q1 (by intro _ _ _ e; cases e)
      have hset := rSetObj (P := P) (o2 := .loop { rm with state := .exhausted }) q1 (by intro _ _ _ e; cases e)
      split at g6
      · cases g6
      · rename_i hns
        have hbusy : (rm.state == LoopState.busy) = false := by
          rw [q3.state]
          cases hs : lr.state <;> first | rfl | exact absurd hs (by simpa using hns)
        have hend : (Instr.endLoop (w.heap.size + 1)).run P w₃ = .ok rm.pending { w₃ with heap := w₃.heap.setIfInBounds (w.heap.size + 1) (.loop { rm with state := .exhausted }) } := by
          simp only [Instr.endLoop, Instr.getLoop, Sem.run_bind, hget, Result.andThen_ok, Sem.run_pure, hbusy, Bool.false_eq_true, if_false, hset]
        have U : Upd w₃.heap (w₃.heap.setIfInBounds (w.heap.size + 1) (.loop { rm with state := .exhausted })) (ψ.blk h.next) (.loop { rm with state := .exhausted }) := by
          rw [hbk]; exact setObj_upd q1
        have K := g2.upd (ob' := .loop { lr with state := .exhausted }) hdom hlr U ⟨_, rfl, rfl, q3.pending, q3.params, q3.assign, q3.body, q3.nt, q3.rnd, q3.tm⟩
        have T2 := T1.trans (g3.trans K.2)
        have S2 : SRel P n₀ ψ fi.glob fi.nt e (vh.2.upd h.next (.loop { lr with state := .exhausted })) { a with defers := { target := .collected w.heap.size, args := #[] } :: a.defers } { w₃ with heap := w₃.heap.setIfInBounds (w.heap.size + 1) (.loop { rm with state := .exhausted }) } :=
          ⟨S.tm.mono T2.le, S.nt, hd1.tr (g3.trans K.2), K.1⟩
        have st2 : Still w { w₃ with heap := w₃.heap.setIfInBounds (w.heap.size + 1) (.loop { rm with state := .exhausted }) } := ⟨g5.os, g5.out⟩
        generalize hw4 : ({ w₃ with heap := w₃.heap.setIfInBounds (w.heap.size + 1) (.loop { rm with state := .exhausted }) } : World) = w4 at hend S2 st2
        have hh : w4.heap = w₃.heap.setIfInBounds (w.heap.size + 1) (.loop { rm with state := .exhausted }) := by rw [← hw4]
        rw [← hh] at T2
        refine ⟨rm.pending, w4, hend, ?_⟩
        rw [q3.pending]
        unfold pendC at g6
        split at g6
        · rename_i hp
          rw [hp]
          have g6 : some [((AExit.normal, e), _)] = some o2 := g6
          injection g6 with g6
          exact hq ψ _ _ _ (g7 _ (by rw [← g6]; exact List.mem_singleton.2 rfl)) S2 T2 st2
        · rename_i hp
          rw [hp]
          have g6 : some [((AExit.ret, e), _)] = some o2 := g6
          injection g6 with g6
          exact wpIn_ret (hq ψ ((AExit.ret, e), _) _ _ (g7 _ (by rw [← g6]; exact List.mem_singleton.2 rfl)) S2 T2 st2)
        · rename_i id hp
          rw [hp]
          have g6 : some [((AExit.exit id, e), _)] = some o2 := g6
          injection g6 with g6
          exact wpIn_exit (hq ψ ((AExit.exit id, e), _) _ _ (g7 _ (by rw [← g6]; exact List.mem_singleton.2 rfl)) S2 T2 st2)
        · cases g6
end
/-! ## fewer objects: what holds of a heap holds of one that knows less -/
structure Less (h' h : Heap) : Prop where
  next : h.next ≤ h'.next
  sub : ∀ id o, h'.objs.get id = some o → h.objs.get id = some o
theorem Less.refl (h : Heap) : Less h h := ⟨Nat.le_refl _, fun _ _ k => k⟩
theorem Less.trans {a b c : Heap} (k : Less a b) (l : Less b c) : Less a c := ⟨Nat.le_trans l.next k.next, fun id o h => l.sub id o (k.sub id o h)⟩
section
variable {P : Program}
theorem HRel.less {φ : Ren} {h h' : Heap} {hp : Array Obj} (H : HRel P φ h hp) (L : Less h' h) : HRel P φ h' hp :=
  ⟨⟨fun id o hd ho => H.obj id o hd (L.sub id o ho), fun i j oi oj di dj hi hj e => H.inj i j oi oj di dj (L.sub _ _ hi) (L.sub _ _ hj) e, fun id hd => H.bd id hd, fun c hc => ⟨(H.fix c hc).1, fun i oi di hi => (H.fix c hc).2 i oi di (L.sub _ _ hi)⟩⟩,
    fun id hd => Nat.lt_of_lt_of_le (H.n id hd) L.next, fun id o ho => Nat.lt_of_lt_of_le (H.top id o (L.sub id o ho)) L.next⟩
theorem Tr.less {φ ψ : Ren} {h h1 h2 : Heap} {hp hq : Array Obj} (t : Tr φ h hp ψ h1 hq) (L : Less h2 h1) : Tr φ h hp ψ h2 hq :=
  ⟨t.le, Nat.le_trans t.next L.next, t.dom, t.size, t.keep, fun id hid => t.new id ⟨hid.1, let ⟨o, ho⟩ := hid.2; ⟨o, L.sub id o ho⟩⟩, fun id o hlt hd ho => t.stay id o hlt hd (L.sub id o ho)⟩
/-- branches may be dropped, and objects forgotten -/
theorem Good.less {φ : Ren} {h : Heap} {w : World} {outs outs' : List (AVal × Heap)} {x : Value} {w' : World} (g : Good P φ h w outs x w') (k : ∀ r ∈ outs, ∃ r' ∈ outs', r'.1 = r.1 ∧ Less r'.2 r.2) : Good P φ h w outs' x w' := by
  obtain ⟨ψ, vh, g1, g2, g3, g4, g5⟩ := g
  obtain ⟨r', k1, k2, k3⟩ := k vh g1
  exact ⟨ψ, r', k1, g2.less k3, g3.less k3, k2 ▸ g4, g5⟩
/-- a step from fewer objects is one from more -/
theorem Tr.from {φ ψ : Ren} {h h1 h2 : Heap} {hp hq : Array Obj} (t : Tr φ h1 hp ψ h2 hq) (L : Less h1 h) : Tr φ h hp ψ h2 hq :=
  ⟨t.le, Nat.le_trans L.next t.next, fun id hd => (t.dom id hd).imp (fun k => k) fun k => Nat.le_trans L.next k, t.size,
    fun b hb hno => t.keep b hb fun id hid => hno id ⟨hid.1, let ⟨o, ho⟩ := hid.2; ⟨o, L.sub id o ho⟩⟩,
    fun id hid => (t.new id hid).imp (fun k => ⟨k.1, let ⟨o, ho⟩ := k.2; ⟨o, L.sub id o ho⟩⟩) fun k => k.imp (fun k => k) fun ⟨j, hj, e⟩ => ⟨j, ⟨hj.1, let ⟨o, ho⟩ := hj.2; ⟨o, L.sub j o ho⟩⟩, e⟩,
    fun id o hlt hd ho => L.sub id o (t.stay id o (Nat.lt_of_lt_of_le hlt L.next) hd ho)⟩
theorem Good.from {φ : Ren} {h h1 : Heap} {w : World} {outs : List (AVal × Heap)} {x : Value} {w' : World} (g : Good P φ h1 w outs x w') (L : Less h1 h) : Good P φ h w outs x w' := by
  obtain ⟨ψ, vh, g1, g2, g3, g4, g5⟩ := g
  exact ⟨ψ, vh, g1, g2, g3.from L, g4, g5⟩
end
/-! ### the same objects -/
theorem nilL_iff {α : Type} {l : List α} (h : isNilL l = true) : l = [] := by cases l <;> first | rfl | cases h
theorem eqEnts_eq {d : Nat} : ∀ (l m : List Ent), eqEnts d l m = true → l = m
  | [], m, h => (nilL_iff h).symm
  | e :: es, m, h => by
    cases m with
    | nil => cases h
    | cons f fs =>
      unfold eqEnts at h
      dsimp only at h
      split at h
      · cases h
      · rename_i h1
        split at h
        · cases h
        · rename_i h2
          split at h
          · cases h
          · rename_i h3
            have e1 := Nat.eq_of_beq_eq_true h1
            have e2 := beqV_eq _ _ _ h2
            have e3 := beqV_eq _ _ _ h3
            obtain ⟨a, b, c⟩ := e
            obtain ⟨a', b', c'⟩ := f
            dsimp only at e1 e2 e3
            rw [e1, e2, e3, eqEnts_eq es fs h]
theorem eqNats_eq : ∀ (l m : List Nat), eqNats l m = true → l = m
  | [], m, h => (nilL_iff h).symm
  | a :: l, m, h => by
    cases m with
    | nil => cases h
    | cons b m =>
      unfold eqNats at h
      dsimp only at h
      split at h
      · rename_i h1
        rw [Nat.eq_of_beq_eq_true h1, eqNats_eq l m h]
      · cases h
theorem eqOV_eq {d : Nat} {a b : Option AVal} (h : eqOV d a b = true) : a = b := by
  unfold eqOV at h
  split at h
  · rfl
  · rw [beqV_eq _ _ _ h]
  · cases h
theorem eqRow_eq {d : Nat} : ∀ (n : Nat) (x y : T AVal), eqRow d n x y = true → x = y
  | 0, _, _, h => by cases h
  | n + 1, x, y, h => by
    cases x with
    | nil => cases y with
      | nil => rfl
      | node => cases h
    | node v a0 a1 a2 a3 a4 a5 a6 a7 => cases y with
      | nil => cases h
      | node w b0 b1 b2 b3 b4 b5 b6 b7 =>
        unfold eqRow at h
        dsimp only at h
        split at h
        · cases h
        · rename_i g
          split at h
          · cases h
          · rename_i h0
            split at h
            · cases h
            · rename_i h1
              split at h
              · cases h
              · rename_i h2
                split at h
                · cases h
                · rename_i h3
                  split at h
                  · cases h
                  · rename_i h4
                    split at h
                    · cases h
                    · rename_i h5
                      split at h
                      · cases h
                      · rename_i h6
                        rw [eqOV_eq g, eqRow_eq n _ _ h0, eqRow_eq n _ _ h1, eqRow_eq n _ _ h2, eqRow_eq n _ _ h3, eqRow_eq n _ _ h4, eqRow_eq n _ _ h5, eqRow_eq n _ _ h6, eqRow_eq n _ _ h]
theorem beqO_eq {a b : AObj} (h : beqO a b = true) : a = b := by
  unfold beqO at h
  split at h
  · split at h
    · cases h
    · rename_i h1
      split at h
      · cases h
      · rename_i h2
        split at h
        · cases h
        · rename_i h3
          rw [Nat.eq_of_beq_eq_true h1, eqLim_eq h2, Nat.eq_of_beq_eq_true h3, eqRow_eq _ _ _ h]
  · split at h
    · cases h
    · rename_i h1
      rw [Nat.eq_of_beq_eq_true h1, eqEnts_eq _ _ h]
  · split at h
    · cases h
    · rename_i h1
      split at h
      · cases h
      · rename_i h2
        split at h
        · cases h
        · rename_i h3
          rw [eqLim_eq h1, Nat.eq_of_beq_eq_true h2, Nat.eq_of_beq_eq_true h3, eqNats_eq _ _ h]
  · split at h
    · cases h
    · rename_i h1
      rw [Nat.eq_of_beq_eq_true h1, Nat.eq_of_beq_eq_true h]
  · cases h
/-! ### the intersection of tries -/
theorem get_nil {α : Type} : ∀ (d m : Nat), (gk d m).get (T.nil : T α) = none := by
  intro d
  induction d with
  | zero => intro m; rfl
  | succ d ih =>
    intro m
    cases m with
    | zero => rfl
    | succ m =>
      simp only [gk, gkSel_get]
      have : (T.nil : T α).ch (Nat.mod m 8) = .nil := by unfold T.ch; split <;> rfl
      rw [this]; exact ih _
theorem seqT_eq {α β : Type} (t : T α) (f : T α → β) : seqT t f = f t := by cases t <;> rfl
theorem seqO_eq {α β : Type} (t : Option α) (f : Option α → β) : seqO t f = f t := by cases t <;> rfl
theorem interV_some {α : Type} {p : α → α → Bool} {x y : Option α} {o : α} (hp : ∀ a b, p a b = true → a = b) (h : interV p x y = some o) : x = some o ∧ y = some o := by
  unfold interV at h
  split at h
  · cases h
  · split at h
    · cases h
    · split at h
      · rename_i hq
        injection h with h
        subst h
        exact ⟨rfl, by rw [hp _ _ hq]⟩
      · cases h
theorem gk_inter {α : Type} {p : α → α → Bool} (hp : ∀ a b, p a b = true → a = b) : ∀ (d n : Nat) (x y : T α) (k : Nat) (o : α), (gk d k).get (interN p n x y) = some o → (gk d k).get x = some o ∧ (gk d k).get y = some o
  | 0, n, x, y, k, o, h => by cases h
  | d + 1, 0, x, y, k, o, h => by
    have := get_nil (α := α) (d + 1) k
    rw [show interN p 0 x y = .nil from rfl, this] at h; cases h
  | d + 1, n + 1, x, y, k, o, h => by
    cases x with
    | nil =>
      rw [show interN p (n + 1) .nil y = .nil from rfl, get_nil] at h; cases h
    | node v a0 a1 a2 a3 a4 a5 a6 a7 => cases y with
      | nil => rw [show interN p (n + 1) (.node v a0 a1 a2 a3 a4 a5 a6 a7) .nil = .nil from rfl, get_nil] at h; cases h
      | node w b0 b1 b2 b3 b4 b5 b6 b7 =>
        have e : interN p (n + 1) (.node v a0 a1 a2 a3 a4 a5 a6 a7) (.node w b0 b1 b2 b3 b4 b5 b6 b7) = .node (interV p v w) (interN p n a0 b0) (interN p n a1 b1) (interN p n a2 b2) (interN p n a3 b3) (interN p n a4 b4) (interN p n a5 b5) (interN p n a6 b6) (interN p n a7 b7) := by
          conv => lhs; unfold interN
          simp only [seqO_eq, seqT_eq]
        rw [e] at h
        cases k with
        | zero => exact interV_some hp h
        | succ k =>
          have h : (gkSel (gk d (Nat.div k 8)) (Nat.mod k 8)).get _ = some o := h
          show (gkSel (gk d (Nat.div k 8)) (Nat.mod k 8)).get _ = some o ∧ (gkSel (gk d (Nat.div k 8)) (Nat.mod k 8)).get _ = some o
          generalize Nat.mod k 8 = j at h ⊢
          generalize Nat.div k 8 = m at h ⊢
          match j, h with
          | 0, h => exact gk_inter hp d n a0 b0 m o h
          | 1, h => exact gk_inter hp d n a1 b1 m o h
          | 2, h => exact gk_inter hp d n a2 b2 m o h
          | 3, h => exact gk_inter hp d n a3 b3 m o h
          | 4, h => exact gk_inter hp d n a4 b4 m o h
          | 5, h => exact gk_inter hp d n a5 b5 m o h
          | 6, h => exact gk_inter hp d n a6 b6 m o h
          | _ + 7, h => exact gk_inter hp d n a7 b7 m o h
theorem interH_less (a b : Heap) : Less (interH a b) a ∧ Less (interH a b) b := by
  have e : interH a b = ⟨maxN a.next b.next, interN beqO dep a.objs b.objs⟩ := by
    unfold interH; rw [seqN_eq, seqT_eq]
  rw [e]
  have h1 : a.next ≤ maxN a.next b.next ∧ b.next ≤ maxN a.next b.next := by
    unfold maxN
    split
    · rename_i h; exact ⟨Nat.le_of_ble_eq_true h, Nat.le_refl _⟩
    · rename_i h
      refine ⟨Nat.le_refl _, ?_⟩
      have : ¬ (a.next ≤ b.next) := fun k => by rw [Nat.ble_eq_true_of_le k] at h; cases h
      omega
  exact ⟨⟨h1.1, fun id o h => (gk_inter (fun _ _ => beqO_eq) _ _ _ _ _ _ h).1⟩, ⟨h1.2, fun id o h => (gk_inter (fun _ _ => beqO_eq) _ _ _ _ _ _ h).2⟩⟩
/-! ### merging -/
theorem many_ok {α : Type} {R : α → α → Prop} (hR : ∀ a, R a a) {f : List α → List α} (hf : ∀ l, ∀ r ∈ l, ∃ r' ∈ f l, R r' r) (l : List α) : ∀ r ∈ l, ∃ r' ∈ many f l, R r' r := by
  intro r hr
  cases l with
  | nil => cases hr
  | cons x l => cases l with
    | nil => exact ⟨r, hr, hR r⟩
    | cons y l => exact hf _ r hr
def MLe (a b : AVal × Heap) : Prop := a.1 = b.1 ∧ Less a.2 b.2
theorem insM_ok (x : AVal × Heap) : ∀ (l : List (AVal × Heap)), (∃ r' ∈ insM x l, MLe r' x) ∧ ∀ r ∈ l, ∃ r' ∈ insM x l, MLe r' r
  | [] => ⟨⟨x, List.mem_singleton.2 rfl, rfl, .refl _⟩, fun r hr => by cases hr⟩
  | y :: l => by
    unfold insM
    split
    · rename_i h
      have e := beqV_eq _ _ _ h
      have L := interH_less y.2 x.2
      refine ⟨⟨_, List.mem_cons_self, e.symm, L.2⟩, fun r hr => ?_⟩
      rcases List.mem_cons.1 hr with rfl | hr
      · exact ⟨_, List.mem_cons_self, rfl, L.1⟩
      · exact ⟨r, List.mem_cons_of_mem _ hr, rfl, .refl _⟩
    · obtain ⟨⟨r', h1, h2⟩, h3⟩ := insM_ok x l
      refine ⟨⟨r', List.mem_cons_of_mem _ h1, h2⟩, fun r hr => ?_⟩
      rcases List.mem_cons.1 hr with rfl | hr
      · exact ⟨r, List.mem_cons_self, rfl, .refl _⟩
      · obtain ⟨q, h4, h5⟩ := h3 r hr
        exact ⟨q, List.mem_cons_of_mem _ h4, h5⟩
theorem MLe.trans {a b c : AVal × Heap} (h : MLe a b) (k : MLe b c) : MLe a c := ⟨h.1.trans k.1, h.2.trans k.2⟩
theorem mergeL_ok : ∀ (l : List (AVal × Heap)), ∀ r ∈ l, ∃ r' ∈ mergeL l, MLe r' r
  | [], r, hr => by cases hr
  | x :: l, r, hr => by
    obtain ⟨h1, h2⟩ := insM_ok x (mergeL l)
    rcases List.mem_cons.1 hr with rfl | hr
    · exact h1
    · obtain ⟨q, h3, h4⟩ := mergeL_ok l r hr
      obtain ⟨s, h5, h6⟩ := h2 q h3
      exact ⟨s, h5, h6.trans h4⟩
theorem mergeIf_some {b : Bool} {m : M AVal} {outs : List (AVal × Heap)} (h : mergeIf b m = some outs) : ∃ l, m = some l ∧ ∀ r ∈ l, ∃ r' ∈ outs, r'.1 = r.1 ∧ Less r'.2 r.2 := by
  cases b with
  | false => exact ⟨outs, h, fun r hr => ⟨r, hr, rfl, .refl _⟩⟩
  | true =>
    cases m with
    | none => cases h
    | some l =>
      have h : some (many mergeL l) = some outs := h
      injection h with h
      subst h
      exact ⟨l, rfl, many_ok (R := MLe) (fun a => ⟨rfl, .refl _⟩) mergeL_ok l⟩
/-! behind a statement -/
structure ELe (x y : (AExit × Env) × Heap) : Prop where
  ex : x.1.1 = y.1.1
  tm : ∀ t v, x.1.2.tmps.get t = some v → y.1.2.tmps.get t = some v
  df : x.1.2.defers = y.1.2.defers
  hp : Less x.2 y.2
theorem ELe.refl (x : (AExit × Env) × Heap) : ELe x x := ⟨rfl, fun _ _ h => h, rfl, .refl _⟩
theorem ELe.trans {a b c : (AExit × Env) × Heap} (h : ELe a b) (k : ELe b c) : ELe a c := ⟨h.ex.trans k.ex, fun t v q => k.tm t v (h.tm t v q), h.df.trans k.df, h.hp.trans k.hp⟩
theorem eqEx_eq {a b : AExit} (h : eqEx a b = true) : a = b := by
  unfold eqEx at h
  split at h
  · rfl
  · rw [Nat.eq_of_beq_eq_true h]
  · rfl
  · cases h
theorem interE_ok {x y : (AExit × Env) × Heap} (h : sameE y.1 x.1 = true) : ELe (interE x y) x ∧ ELe (interE x y) y := by
  unfold sameE at h
  split at h
  · cases h
  · rename_i h1
    split at h
    · cases h
    · rename_i h2
      have e1 := eqEx_eq h1
      have e2 := nilL_iff h2
      have e3 := nilL_iff h
      have e : interE x y = ((x.1.1, ⟨interN (beqV 8) dep x.1.2.tmps y.1.2.tmps, x.1.2.defers⟩), interH x.2 y.2) := by
        unfold interE; rw [seqT_eq]
      rw [e]
      have L := interH_less x.2 y.2
      have g := fun t v => gk_inter (beqV_eq 8) dep dep x.1.2.tmps y.1.2.tmps t v
      exact ⟨⟨rfl, fun t v q => (g t v q).1, rfl, L.1⟩, ⟨e1.symm, fun t v q => (g t v q).2, by show x.1.2.defers = _; rw [e2, e3], L.2⟩⟩
theorem insE_ok (x : (AExit × Env) × Heap) : ∀ (l : List ((AExit × Env) × Heap)), (∃ r' ∈ insE x l, ELe r' x) ∧ ∀ r ∈ l, ∃ r' ∈ insE x l, ELe r' r
  | [] => ⟨⟨x, List.mem_singleton.2 rfl, .refl _⟩, fun r hr => by cases hr⟩
  | y :: l => by
    unfold insE
    split
    · rename_i h
      obtain ⟨L1, L2⟩ := interE_ok h
      refine ⟨⟨_, List.mem_cons_self, L2⟩, fun r hr => ?_⟩
      rcases List.mem_cons.1 hr with rfl | hr
      · exact ⟨_, List.mem_cons_self, L1⟩
      · exact ⟨r, List.mem_cons_of_mem _ hr, .refl _⟩
    · obtain ⟨⟨r', h1, h2⟩, h3⟩ := insE_ok x l
      refine ⟨⟨r', List.mem_cons_of_mem _ h1, h2⟩, fun r hr => ?_⟩
      rcases List.mem_cons.1 hr with rfl | hr
      · exact ⟨r, List.mem_cons_self, .refl _⟩
      · obtain ⟨q, h4, h5⟩ := h3 r hr
        exact ⟨q, List.mem_cons_of_mem _ h4, h5⟩
theorem mergeEL_ok : ∀ (l : List ((AExit × Env) × Heap)), ∀ r ∈ l, ∃ r' ∈ mergeEL l, ELe r' r
  | [], r, hr => by cases hr
  | x :: l, r, hr => by
    obtain ⟨h1, h2⟩ := insE_ok x (mergeEL l)
    rcases List.mem_cons.1 hr with rfl | hr
    · exact h1
    · obtain ⟨q, h3, h4⟩ := mergeEL_ok l r hr
      obtain ⟨s, h5, h6⟩ := h2 q h3
      exact ⟨s, h5, h6.trans h4⟩
theorem MarkOK.less {n₀ : Nat} {φ : Ren} {h h' : Heap} {hp : Array Obj} {r : Nat} (m : MarkOK n₀ φ h hp r) (L : Less h' h) : MarkOK n₀ φ h' hp r :=
  ⟨m.1, m.2.1, fun id hid => m.2.2 id ⟨hid.1, let ⟨o, ho⟩ := hid.2; ⟨o, L.sub id o ho⟩⟩⟩
theorem DRel.less {n₀ : Nat} {φ : Ren} {h h' : Heap} {hp : Array Obj} (L : Less h' h) : ∀ {ds : List Deferred} {eds : List (AVal × List AVal)}, DRel n₀ φ h hp eds ds → DRel n₀ φ h' hp eds ds
  | [], eds, d => d
  | d :: ds, eds, k => by
    rcases k with ⟨r, k1, k2, k3, k4⟩ | ⟨x, eds', k1, k2, k3, k4⟩
    · exact .inl ⟨r, k1, k2.less L, k3, k4.less L⟩
    · exact .inr ⟨x, eds', k1, k2, k3, k4.less L⟩
theorem SRel.less {P : Program} {n₀ : Nat} {φ : Ren} {glob nt : Nat} {x y : (AExit × Env) × Heap} {a : Act} {w : World} (S : SRel P n₀ φ glob nt y.1.2 y.2 a w) (L : ELe x y) : SRel P n₀ φ glob nt x.1.2 x.2 a w :=
  ⟨fun t v hv hg => S.tm t v (L.tm t v hv) hg, S.nt, L.df ▸ S.df.less L.hp, S.hp.less L.hp⟩
/-! ### calls that are known -/
theorem subV_ok {x y : Option AObj} (h : subV x y = true) {o : AObj} (hx : x = some o) : y = some o := by
  subst hx
  unfold subV at h
  dsimp only at h
  split at h
  · cases h
  · rw [beqO_eq h]
theorem gk_sub : ∀ (d n : Nat) (x y : T AObj), subN n x y = true → ∀ (k : Nat) (o : AObj), (gk d k).get x = some o → (gk d k).get y = some o
  | 0, n, x, y, hs, k, o, h => by cases h
  | d + 1, 0, x, y, hs, k, o, h => by cases hs
  | d + 1, n + 1, x, y, hs, k, o, h => by
    cases x with
    | nil => rw [get_nil] at h; cases h
    | node v a0 a1 a2 a3 a4 a5 a6 a7 => cases y with
      | nil => cases hs
      | node w b0 b1 b2 b3 b4 b5 b6 b7 =>
        unfold subN at hs
        dsimp only at hs
        split at hs
        · cases hs
        · rename_i g
          split at hs
          · cases hs
          · rename_i h0
            split at hs
            · cases hs
            · rename_i h1
              split at hs
              · cases hs
              · rename_i h2
                split at hs
                · cases hs
                · rename_i h3
                  split at hs
                  · cases hs
                  · rename_i h4
                    split at hs
                    · cases hs
                    · rename_i h5
                      split at hs
                      · cases hs
                      · rename_i h6
                        cases k with
                        | zero => exact subV_ok g h
                        | succ k =>
                          have h : (gkSel (gk d (Nat.div k 8)) (Nat.mod k 8)).get _ = some o := h
                          show (gkSel (gk d (Nat.div k 8)) (Nat.mod k 8)).get _ = some o
                          generalize Nat.mod k 8 = j at h ⊢
                          generalize Nat.div k 8 = m at h ⊢
                          match j, h with
                          | 0, h => exact gk_sub d n a0 b0 h0 m o h
                          | 1, h => exact gk_sub d n a1 b1 h1 m o h
                          | 2, h => exact gk_sub d n a2 b2 h2 m o h
                          | 3, h => exact gk_sub d n a3 b3 h3 m o h
                          | 4, h => exact gk_sub d n a4 b4 h4 m o h
                          | 5, h => exact gk_sub d n a5 b5 h5 m o h
                          | 6, h => exact gk_sub d n a6 b6 h6 m o h
                          | _ + 7, h => exact gk_sub d n a7 b7 hs m o h
theorem lessB_ok {a h : Heap} (k : lessB a h = true) : Less a h := by
  unfold lessB at k
  split at k
  · cases k
  · rename_i h1
    exact ⟨Nat.le_of_ble_eq_true h1, fun id o => gk_sub dep dep _ _ k id o⟩
theorem cpFind_some : ∀ {l : List CP} {args : List AVal} {h : Heap} {c : CP}, cpFind l args h = some c → c ∈ l ∧ c.args = args ∧ Less c.hin h
  | [], _, _, _, k => by cases k
  | d :: l, args, h, c, k => by
    unfold cpFind at k
    split at k
    · obtain ⟨h1, h2⟩ := cpFind_some k
      exact ⟨List.mem_cons_of_mem _ h1, h2⟩
    · rename_i h1
      split at k
      · rename_i h2
        injection k with k; subst k
        exact ⟨List.mem_cons_self, eqVL_eq (beqV_eq 8) _ _ h1, lessB_ok h2⟩
      · obtain ⟨h1, h2⟩ := cpFind_some k
        exact ⟨List.mem_cons_of_mem _ h1, h2⟩
theorem withCP_some {args : List AVal} {h : Heap} {m : M AVal} {o : Option (List CP)} {outs : List (AVal × Heap)} (k : withCP args h m o = some outs) : m = some outs ∨ ∃ l c, o = some l ∧ c ∈ l ∧ c.args = args ∧ Less c.hin h ∧ outs = [(c.v, c.hout)] := by
  unfold withCP at k
  split at k
  · exact .inl k
  · rename_i l
    cases hc : cpFind l args h with
    | none => rw [hc] at k; exact .inl k
    | some c =>
      rw [hc] at k
      have k : some [(c.v, c.hout)] = some outs := k
      injection k with k
      obtain ⟨h1, h2, h3⟩ := cpFind_some hc
      exact .inr ⟨l, c, rfl, h1, h2, h3, k.symm⟩
theorem runCov_some {m : M AVal} {v : AVal} {h : Heap} (k : runCov v h m = true) : ∃ l, m = some l ∧ ∀ x ∈ l, v = x.1 ∧ Less h x.2 := by
  unfold runCov at k
  split at k
  · cases k
  · rename_i l
    refine ⟨l, rfl, fun x hx => ?_⟩
    have := allB_iff.1 k x hx
    unfold covB at this
    split at this
    · rename_i e
      exact ⟨(beqV_eq _ _ _ e).symm, lessB_ok this⟩
    · cases this
end Go.Proofs.YtjhionjmlcccjaaGreatDoor.Ev
namespace Go.Proofs.YtjhionjmlcccjaaGreatDoor.Ev
set_option linter.unusedVariables false
set_option linter.unusedSimpArgs false
open Go
section
variable {P : Program} {n₀ : Nat} {tt : TT}
/-- what is done with what a statement comes to -/
def Fin (P : Program) (n₀ : Nat) (fi : FI) (φ : Ren) (h : Heap) (w : World) (outs : List ((AExit × Env) × Heap)) (Q : Exit → Act → World → Prop) : Prop :=
  ∀ ψ x a' w', x ∈ outs → SRel P n₀ ψ fi.glob fi.nt x.1.2 x.2 a' w' → Tr φ h w.heap ψ x.2 w'.heap → Still w w' → Q (exOf x.1.1) a' w'
theorem Fin.sub {fi : FI} {φ ψ : Ren} {h h' : Heap} {w w' : World} {outs outs' : List ((AExit × Env) × Heap)} {Q : Exit → Act → World → Prop} (F : Fin P n₀ fi φ h w outs Q) (t : Tr φ h w.heap ψ h' w'.heap) (s : Still w w') (hs : ∀ y ∈ outs', y ∈ outs) : Fin P n₀ fi ψ h' w' outs' Q :=
  fun χ x a2 w2 hx hS ht hst => F χ x a2 w2 (hs x hx) hS (t.trans ht) (s.trans hst)
theorem loop_ok {fi : FI} {r : Rt} {ro : Option Nat} {c : Code} {Q : Exit → Act → World → Prop}
    (ih : ∀ (e : Env) (h : Heap) (φ : Ren) (a : Act) (w : World) (outs : List ((AExit × Env) × Heap)) (Q : Exit → Act → World → Prop), (codeK fi tt c).run r e h = some outs → SRel P n₀ φ fi.glob fi.nt e h a w → n₀ ≤ w.heap.size → Fin P n₀ fi φ h w outs Q → c.wpIn (W ro) 0 P Q a w) :
    ∀ (n : Nat) (e : Env) (h : Heap) (φ : Ren) (a : Act) (w : World) (outs : List ((AExit × Env) × Heap)), iterK ((codeK fi tt c).run r) n e h = some outs → SRel P n₀ φ fi.glob fi.nt e h a w → n₀ ≤ w.heap.size → Fin P n₀ fi φ h w outs Q → Code.roundsIn (W ro) 0 P c Q n a w
  | 0, e, h, φ, a, w, outs, hr, _, _, _ => by cases hr
  | n + 1, e, h, φ, a, w, outs, hr, S, hn, F => by
    obtain ⟨l, h1, h2⟩ := bindM_some (show bindM ((codeK fi tt c).run r e h) (iterC (iterK ((codeK fi tt c).run r) n)) = some outs from hr)
    rw [roundsIn_succ]
    refine ih e h φ a w l _ h1 S hn fun ψ x a' w' hx hS ht hst => ?_
    obtain ⟨o, h3, h4⟩ := h2 x hx
    obtain ⟨⟨ex, e'⟩, h'⟩ := x
    cases ex with
    | normal =>
      have h3 : iterK ((codeK fi tt c).run r) n e' h' = some o := h3
      exact loop_ok ih n e' h' ψ a' w' o h3 hS (Nat.le_trans hn ht.size) (F.sub ht hst h4)
    | exit id =>
      have h3 : some [((AExit.exit id, e'), h')] = some o := h3
      injection h3 with h3
      exact F ψ ((AExit.exit id, e'), h') a' w' (h4 _ (by rw [← h3]; exact List.mem_singleton.2 rfl)) hS ht hst
    | ret =>
      have h3 : some [((AExit.ret, e'), h')] = some o := h3
      injection h3 with h3
      exact F ψ ((AExit.ret, e'), h') a' w' (h4 _ (by rw [← h3]; exact List.mem_singleton.2 rfl)) hS ht hst
/-- a statement, or several, that is sound: T says what it does -/
def StOK (P : Program) (n₀ : Nat) (fi : FI) (r : Rt) (k : CK) (T : (Exit → Act → World → Prop) → Act → World → Prop) : Prop :=
  ∀ (e : Env) (h : Heap) (φ : Ren) (a : Act) (w : World) (outs : List ((AExit × Env) × Heap)) (Q : Exit → Act → World → Prop), k.run r e h = some outs → SRel P n₀ φ fi.glob fi.nt e h a w → n₀ ≤ w.heap.size → Fin P n₀ fi φ h w outs Q → T Q a w
def MonoT (T : (Exit → Act → World → Prop) → Act → World → Prop) : Prop := ∀ (Q Q' : Exit → Act → World → Prop) a w, (∀ e a w, Q e a w → Q' e a w) → T Q a w → T Q' a w
theorem StOK.then {fi : FI} {r : Rt} {x y : CK} {T U : (Exit → Act → World → Prop) → Act → World → Prop} (h1 : StOK P n₀ fi r x T) (h2 : StOK P n₀ fi r y U) : StOK P n₀ fi r (cSeq x y) fun Q => T (Exit.then (U Q) Q) := by
  intro e h φ a w outs Q hrun S hn F
  obtain ⟨l, k1, k2⟩ := bindM_some (show bindM (x.run r e h) (seqC y r) = some outs from hrun)
  refine h1 e h φ a w l _ k1 S hn fun ψ x a' w' hx hS ht hst => ?_
  obtain ⟨o, h3, h4⟩ := k2 x hx
  obtain ⟨⟨ex, e'⟩, h'⟩ := x
  cases ex with
  | normal => exact h2 e' h' ψ a' w' o Q h3 hS (Nat.le_trans hn ht.size) (F.sub ht hst h4)
  | exit id =>
    have h3 : some [((AExit.exit id, e'), h')] = some o := h3
    injection h3 with h3
    exact F ψ ((AExit.exit id, e'), h') a' w' (h4 _ (by rw [← h3]; exact List.mem_singleton.2 rfl)) hS ht hst
  | ret =>
    have h3 : some [((AExit.ret, e'), h')] = some o := h3
    injection h3 with h3
    exact F ψ ((AExit.ret, e'), h') a' w' (h4 _ (by rw [← h3]; exact List.mem_singleton.2 rfl)) hS ht hst
theorem StOK.merge {fi : FI} {r : Rt} {x : CK} {T : (Exit → Act → World → Prop) → Act → World → Prop} (h1 : StOK P n₀ fi r x T) (b : Bool) : StOK P n₀ fi r (mergeC b x) T := by
  cases b with
  | false => exact h1
  | true =>
    intro e h φ a w outs Q hrun S hn F
    have hrun : mergeE (x.run r e h) = some outs := hrun
    cases hx : x.run r e h with
    | none => rw [hx] at hrun; cases hrun
    | some l =>
      rw [hx] at hrun
      have hrun : some (many mergeEL l) = some outs := hrun
      injection hrun with hrun
      refine h1 e h φ a w l Q hx S hn fun ψ y a' w' hy hS ht hst => ?_
      obtain ⟨z, g1, g2⟩ := many_ok (R := ELe) ELe.refl mergeEL_ok l y hy
      rw [hrun] at g1
      rw [← g2.ex]
      exact F ψ z a' w' g1 (hS.less g2) (ht.less g2.hp) hst
/-- behind nothing, and behind something -/
def Both (P : Program) (n₀ : Nat) (fi : FI) (tt : TT) (r : Rt) (ro : Option Nat) (c : Code) : Prop :=
  StOK P n₀ fi r (codeQ fi tt c none) (fun Q => c.wpIn (W ro) 0 P Q) ∧
  ∀ (k : CK) (T : (Exit → Act → World → Prop) → Act → World → Prop), MonoT T → StOK P n₀ fi r k T → StOK P n₀ fi r (codeQ fi tt c (some k)) fun Q => T (Exit.then (c.wpIn (W ro) 0 P Q) Q)
theorem both_of {fi : FI} {r : Rt} {ro : Option Nat} {c : Code} {x : CK} {b : Bool} (h : StOK P n₀ fi r x (fun Q => c.wpIn (W ro) 0 P Q)) (e : ∀ k, codeQ fi tt c k = mergeC b (thenK k x)) : Both P n₀ fi tt r ro c :=
  ⟨by rw [e]; exact StOK.merge h b, fun k T _ hk => by rw [e]; exact StOK.merge (StOK.then hk h) b⟩
theorem both_ok (hT : TTok P tt) {fi : FI} {ro : Option Nat} (hro : ro = none ∨ fi.rnd = true) {r : Rt} (hr : RtOK P r.call) (hb : BodyOK P r.call) : ∀ (c : Code), Both P n₀ fi tt r ro c := by
  have one : ∀ {x : AExit} {e : Env} {h : Heap} {φ : Ren} {a : Act} {w : World} {outs : List ((AExit × Env) × Heap)} {Q : Exit → Act → World → Prop}, (cExit x).run r e h = some outs → SRel P n₀ φ fi.glob fi.nt e h a w → Fin P n₀ fi φ h w outs Q → Q (exOf x) a w := by
    intro x e h φ a w outs Q hrun S F
    have hrun : some [((x, e), h)] = some outs := hrun
    injection hrun with hrun
    exact F φ ((x, e), h) a w (by rw [← hrun]; exact List.mem_singleton.2 rfl) S (.refl _ _ _) (.refl _)
  intro c
  induction c with
  | skip => exact both_of (b := false) (x := cExit .normal) (fun e h φ a w outs Q hrun S _ F => wpIn_skip (one (x := .normal) hrun S F)) fun k => rfl
  | label l => exact both_of (b := false) (x := cExit .normal) (fun e h φ a w outs Q hrun S _ F => wpIn_label (one (x := .normal) hrun S F)) fun k => rfl
  | exit id => exact both_of (b := false) (x := cExit (.exit id)) (fun e h φ a w outs Q hrun S _ F => wpIn_exit (one (x := .exit id) hrun S F)) fun k => rfl
  | ret => exact both_of (b := false) (x := cExit .ret) (fun e h φ a w outs Q hrun S _ F => wpIn_ret (one (x := .ret) hrun S F)) fun k => rfl
  | goto l => exact both_of (b := false) (x := cFail) (fun e h φ a w outs Q hrun _ _ _ => by cases hrun) fun k => rfl
  | refuse s => exact both_of (b := false) (x := cFail) (fun e h φ a w outs Q hrun _ _ _ => by cases hrun) fun k => rfl
  | region id ops draw =>
    refine both_of (b := Nat.testBit fi.mks (Nat.succ id)) (x := regionK fi tt id ops.toList draw) ?_ fun k => rfl
    intro e h φ a w outs Q hrun S hn F
    have fin : ∀ {s : StK}, (cRegion s).run r e h = some outs → ∃ l, s.run r [] e h = some l ∧ ∀ ψ x a' w', x ∈ l → SRel P n₀ ψ fi.glob fi.nt x.1 x.2 a' w' → Tr φ h w.heap ψ x.2 w'.heap → Still w w' → Q .normal a' w' := by
      intro s hs
      obtain ⟨l, h1, h2⟩ := bindM_some (show bindM (s.run r [] e h) (fun e h => ret1 (.normal, e) h) = some outs from hs)
      refine ⟨l, h1, fun ψ x a' w' hx hS ht hst => ?_⟩
      obtain ⟨o, h3, h4⟩ := h2 x hx
      have h3 : some [((AExit.normal, x.1), x.2)] = some o := h3
      injection h3 with h3
      exact F ψ ((AExit.normal, x.1), x.2) a' w' (h4 _ (by rw [← h3]; exact List.mem_singleton.2 rfl)) hS ht hst
    cases draw with
    | false =>
      obtain ⟨l, h1, h2⟩ := fin hrun
      exact region_ok hT hro hr h1 S h2
    | true =>
      obtain ⟨l, h1, h2⟩ := fin hrun
      exact draw_ok hT hr h1 S h2
  | seq c1 c2 ih1 ih2 =>
    refine ⟨?_, fun k T hm hk => ?_⟩
    · intro e h φ a w outs Q hrun S hn F
      exact wpIn_seq (ih2.2 (codeQ fi tt c1 none) (fun Q => c1.wpIn (W ro) 0 P Q) (fun Q Q' a w hq h => wpIn_mono h hq) ih1.1 e h φ a w outs Q hrun S hn F)
    · intro e h φ a w outs Q hrun S hn F
      have := ih2.2 (codeQ fi tt c1 (some k)) (fun Q => T (Exit.then (c1.wpIn (W ro) 0 P Q) Q)) (fun Q Q' a w hq h => hm _ _ a w (fun ex a w hx => by
        cases ex <;> first | exact wpIn_mono hx hq | exact hq _ a w hx) h) (ih1.2 k T hm hk) e h φ a w outs Q hrun S hn F
      refine hm _ _ a w (fun ex a w hx => ?_) this
      cases ex <;> first | exact wpIn_seq hx | exact hx
  | cond c c1 c2 ih1 ih2 =>
    refine both_of (b := false) (x := cCond (vk ⟨fi.glob, [], fi.rnd⟩ c) (codeQ fi tt c1 none) (codeQ fi tt c2 none)) ?_ fun k => rfl
    intro e h φ a w outs Q hrun S hn F
    have hrun : condC (codeQ fi tt c1 none) (codeQ fi tt c2 none) r e h ((vk ⟨fi.glob, [], fi.rnd⟩ c).get [] e.tmps) = some outs := hrun
    have hc := vk_rel (LRel.start (rnd := fi.rnd) S.tm) c (a := a)
    generalize (vk ⟨fi.glob, [], fi.rnd⟩ c).get [] e.tmps = cv at hc hrun
    generalize hce : a.eval c = ce at hc
    cases hc <;> try (cases hrun; done)
    rename_i b
    cases b with
    | true => exact wpIn_cond_true hce (ih1.1 e h φ a w outs Q hrun S hn F)
    | false => exact wpIn_cond_false hce (ih2.1 e h φ a w outs Q hrun S hn F)
  | block id c ih =>
    refine both_of (b := false) (x := cBlock id (codeQ fi tt c none)) ?_ fun k => rfl
    intro e h φ a w outs Q hrun S hn F
    obtain ⟨l, h1, h2⟩ := bindM_some (show bindM ((codeQ fi tt c none).run r e h) (blockC id) = some outs from hrun)
    refine wpIn_block (ih.1 e h φ a w l _ h1 S hn fun ψ x a' w' hx hS ht hst => ?_)
    obtain ⟨o, h3, h4⟩ := h2 x hx
    obtain ⟨⟨ex, e'⟩, h'⟩ := x
    cases ex with
    | normal =>
      have h3 : some [((AExit.normal, e'), h')] = some o := h3
      injection h3 with h3
      exact F ψ ((AExit.normal, e'), h') a' w' (h4 _ (by rw [← h3]; exact List.mem_singleton.2 rfl)) hS ht hst
    | ret =>
      have h3 : some [((AExit.ret, e'), h')] = some o := h3
      injection h3 with h3
      exact F ψ ((AExit.ret, e'), h') a' w' (h4 _ (by rw [← h3]; exact List.mem_singleton.2 rfl)) hS ht hst
    | exit id' =>
      have h3 : (match Nat.beq id' id with | true => ret1 (AExit.normal, e') h' | false => ret1 (AExit.exit id', e') h') = some o := h3
      show (if id' = id then Q .normal a' w' else Q (.exit id') a' w')
      rw [beq_dec] at h3
      by_cases hid : id' = id
      · rw [decide_eq_true hid] at h3
        rw [if_pos hid]
        have h3 : some [((AExit.normal, e'), h')] = some o := h3
        injection h3 with h3
        exact F ψ ((AExit.normal, e'), h') a' w' (h4 _ (by rw [← h3]; exact List.mem_singleton.2 rfl)) hS ht hst
      · rw [decide_eq_false hid] at h3
        rw [if_neg hid]
        have h3 : some [((AExit.exit id', e'), h')] = some o := h3
        injection h3 with h3
        exact F ψ ((AExit.exit id', e'), h') a' w' (h4 _ (by rw [← h3]; exact List.mem_singleton.2 rfl)) hS ht hst
  | loop c ih =>
    refine both_of (b := false) (x := cLoop (codeQ fi tt c none)) ?_ fun k => rfl
    intro e h φ a w outs Q hrun S hn F
    exact wpIn_loop_rounds 10000 (loop_ok (tt := tt) (c := c) ih.1 10000 e h φ a w outs hrun S hn F)
  | scope c ih =>
    refine both_of (b := false) (x := codeQ fi tt c none) ?_ fun k => rfl
    intro e h φ a w outs Q hrun S hn F
    refine wpIn_scope (ih.1 e h φ a w outs _ hrun S hn fun ψ x a' w' hx hS ht hst => ?_)
    have := F ψ x a' w' hx hS ht hst
    obtain ⟨⟨ex, e'⟩, h'⟩ := x
    cases ex <;> exact this
  | rangeFunc g ps assign body ih1 ih2 =>
    refine both_of (b := false) (x := match fi.rnd with | true => cFail | false => cRange (loopObj (rndOf fi) ps.toList assign body) (vk ⟨fi.glob, [], fi.rnd⟩ g)) ?_ fun k => rfl
    intro e h φ a w outs Q hrun S hn F
    have hrun : (match fi.rnd with | true => cFail | false => cRange (loopObj (rndOf fi) ps.toList assign body) (vk ⟨fi.glob, [], fi.rnd⟩ g)).run r e h = some outs := hrun
    cases hrnd : fi.rnd with
    | true => rw [hrnd] at hrun; cases hrun
    | false =>
      have hro : ro = none := hro.resolve_right (by rw [hrnd]; simp)
      subst hro
      have hrun2 : (cRange (loopObj (rndOf fi) ps.toList assign body) (vk ⟨fi.glob, [], fi.rnd⟩ g)).run r e h = some outs := by
        revert hrun; rw [hrnd]; exact id
      exact range_ok hb hn hrun2 S F
theorem code_ok (hT : TTok P tt) {fi : FI} {ro : Option Nat} (hro : ro = none ∨ fi.rnd = true) {r : Rt} (hr : RtOK P r.call) (hb : BodyOK P r.call) :
    ∀ (c : Code) (e : Env) (h : Heap) (φ : Ren) (a : Act) (w : World) (outs : List ((AExit × Env) × Heap)) (Q : Exit → Act → World → Prop), (codeK fi tt c).run r e h = some outs → SRel P n₀ φ fi.glob fi.nt e h a w → n₀ ≤ w.heap.size → Fin P n₀ fi φ h w outs Q → c.wpIn (W ro) 0 P Q a w :=
  fun c => (both_ok hT hro hr hb c).1
end
end Go.Proofs.YtjhionjmlcccjaaGreatDoor.Ev
