/- An evaluator over abstract values and the proof that what it reckons is what the model's calls do: part 8 of 9. -/
import Derived.Test.YtnfldenbeokblaaGreatDoorEvG
import Derived.LoopNIn
namespace Go.Proofs.YtnfldenbeokblaaGreatDoor.Ev
set_option linter.unusedVariables false
set_option linter.unusedSimpArgs false
open Go
theorem lst_true {listed : Array Bool} {n j : Nat} (hs : listed.size = n) (hj : j < n) : Lst listed j ↔ listed.getD j true = true := by
  unfold Lst
  rw [Array.getD_eq_getD_getElem?, Array.getD_eq_getD_getElem?, Array.getElem?_eq_getElem (by omega)]
  simp
theorem lst_lt {listed : Array Bool} {j : Nat} (h : Lst listed j) : j < listed.size := by
  unfold Lst at h
  rw [Array.getD_eq_getD_getElem?] at h
  rcases Nat.lt_or_ge j listed.size with h1 | h1
  · exact h1
  · rw [Array.getElem?_eq_none h1] at h; cases h
section
variable {P : Program} {n₀ : Nat} {tt : TT} {fi : FI} {ops : Array Oper} {base : Nat → AVal} {φ₀ : Ren} {h₀ : Heap} {w₀ : World} {ed : List (AVal × List AVal)} {ad : List Deferred}
/-- every order comes to what the plan comes to -/
theorem draw_main (hT : TTok P tt) (hdst : ∀ j o d, ops[j]? = some o → o.dst = some d → wrOf d ops.toList 0 = some j) {call : Callee' → List AVal → Heap → M AVal} (hcall : RtOK P call) {outs : List (Env × Heap)} {ro : Option Nat} {md : Region.Mode}
    (hall : ∀ listed : Array Bool, listed.size = ops.size → Region.ready md ops listed = [] → ∀ i, i < ops.size → Lst listed i) (hdf : DRel n₀ φ₀ h₀ w₀.heap ed ad) {Q : Exit → Act → World → Prop}
    (hq : ∀ ψ x a' w', x ∈ outs → SRel P n₀ ψ fi.glob fi.nt x.1 x.2 a' w' → Tr φ₀ h₀ w₀.heap ψ x.2 w'.heap → Still w₀ w' → Q .normal a' w') :
    ∀ (fuel : Nat) (S D L : Nat) (R : List (Nat × Nat)) (V : Nat → AVal) (T : List TE) (rest : List (Nat × Nat)) (st : List Tmp) (vs : List AVal) (e : Env) (h : Heap) (pend : List Pend) (φ : Ren) (a : Act) (w : World) (outs' : List (Env × Heap)) (listed : Array Bool),
      Inv P fi ops base φ₀ h₀ w₀ ed ad S D R V T st vs e h pend φ a w → planWalk ops.toList (effO fi tt) rest D L R = true → (planK fi tt ops.toList rest st).run ⟨call, pend⟩ vs e h = some outs' → (∀ y ∈ outs', y ∈ outs) →
      T.length + rest.length ≤ fuel → (rest = [] ∨ ∃ p l2 o, rest = p :: l2 ∧ ops[p.1]? = some o ∧ effO fi tt o = true) → listed.size = ops.size → (∀ j, j < ops.size → listed.getD j true = S.testBit j) →
      wpAnyIn (W ro) 0 P md ops Q fuel listed a w := by
  -- all is done
  have done : ∀ (S D L : Nat) (R : List (Nat × Nat)) (V : Nat → AVal) (T : List TE) (rest : List (Nat × Nat)) (st : List Tmp) (vs : List AVal) (e : Env) (h : Heap) (pend : List Pend) (φ : Ren) (a : Act) (w : World) (outs' : List (Env × Heap)),
      Inv P fi ops base φ₀ h₀ w₀ ed ad S D R V T st vs e h pend φ a w → planWalk ops.toList (effO fi tt) rest D L R = true → (planK fi tt ops.toList rest st).run ⟨call, pend⟩ vs e h = some outs' → (∀ y ∈ outs', y ∈ outs) →
      (∀ i, i < ops.size → S.testBit i = true) → Q .normal a w := by
    intro S D L R V T rest st vs e h pend φ a w outs' I hw hr hsub hS
    have hrest : rest = [] := by
      cases rest with
      | nil => rfl
      | cons p l =>
        exfalso
        obtain ⟨o, ho, hk, _⟩ := walk_cons hw
        have ho' : ops[p.1]? = some o := by simpa using ho
        have := (I.dS p.1).2 (.inl (hS p.1 (Array.getElem?_eq_some_iff.1 ho').1))
        rw [hk.new] at this; cases this
    subst hrest
    have hr : some [(e, h)] = some outs' := hr
    injection hr with hr
    refine hq φ (e, h) a w (hsub _ (by rw [← hr]; exact List.mem_singleton.2 rfl)) ⟨fun t v hv ht => ?_, I.nt, ?_, I.hp⟩ I.tr I.still
    · have henv : (vTmpS ⟨fi.glob, st, fi.rnd⟩ t).get vs e.tmps = v := by
        unfold vTmpS
        rw [show Nat.testBit fi.glob t = true from ht]
        show dflt ((gk dep t).get e.tmps) = v
        rw [show (gk dep t).get e.tmps = some v from hv]; rfl
      cases hwr : wrOf t ops.toList 0 with
      | none =>
        have h1 := I.enB t (fun j hj => by rw [hwr] at hj; cases hj)
        rw [henv] at h1
        exact h1.rel (I.mfB t (fun j hj => by rw [hwr] at hj; cases hj))
      | some j =>
        obtain ⟨oj, hoj, _⟩ := wrOf_dst hwr
        have hSj := hS j (Array.getElem?_eq_some_iff.1 hoj).1
        have h1 := I.enW t j hwr ((I.dS j).2 (.inl hSj))
        rw [henv] at h1
        exact h1.rel (I.mfW t j hwr hSj)
    · show DRel n₀ φ h w.heap e.defers a.defers
      rw [I.ed, I.ad]; exact hdf.tr I.tr
  intro fuel
  induction fuel with
  | zero =>
    intro S D L R V T rest st vs e h pend φ a w outs' listed I hw hr hsub hlen hhd hsz hls
    have hT0 : T = [] := List.length_eq_zero_iff.1 (by omega)
    have hr0 : rest = [] := List.length_eq_zero_iff.1 (by omega)
    have hS : ∀ i, i < ops.size → S.testBit i = true := by
      intro i hi
      rcases walk_all hw i (by simpa using hi) with h1 | ⟨p, h1, _⟩
      · rcases (I.dS i).1 h1 with h1 | ⟨x, h1, _⟩
        · exact h1
        · rw [hT0] at h1; cases h1
      · rw [hr0] at h1; cases h1
    refine ⟨?_, done S D L R V T rest st vs e h pend φ a w outs' I hw hr hsub hS⟩
    cases hrd : Region.ready md ops listed with
    | nil => rfl
    | cons i l =>
      exfalso
      have : i ∈ Region.ready md ops listed := by rw [hrd]; simp
      obtain ⟨h1, h2, _⟩ := mem_ready.1 this
      rw [hls i h1, hS i h1] at h2; cases h2
  | succ fuel ih =>
    intro S D L R V T rest st vs e h pend φ a w outs' listed I hw hr hsub hlen hhd hsz hls
    refine ⟨fun hrd => done S D L R V T rest st vs e h pend φ a w outs' I hw hr hsub fun i hi => ?_, fun i hi => ?_⟩
    · rw [← hls i hi]; exact (lst_true hsz hi).1 (hall listed hsz hrd i hi)
    · obtain ⟨h1, h2, o, ho, h3⟩ := mem_ready.1 hi
      have hSi : S.testBit i = false := by rw [← hls i h1]; exact h2
      have hp : ∀ j, (preds o.after.toList).testBit j = true → S.testBit j = true := by
        intro j hj
        obtain ⟨ed, g1, g2, g3⟩ := preds_test hj
        have hl := h3 ed g1 (binds_any g2)
        rw [g3] at hl
        have hlt : j < ops.size := by have := lst_lt hl; omega
        rw [← hls j hlt]; exact (lst_true hsz hlt).1 hl
      have hsz' : (listed.setIfInBounds i true).size = ops.size := by simpa using hsz
      have hls' : ∀ j, j < ops.size → (listed.setIfInBounds i true).getD j true = (Nat.lor (bit1 i) S).testBit j := by
        intro j hj
        rw [lor_test, bit1_test, ← hls j hj, Array.getD_eq_getD_getElem?, Array.getD_eq_getD_getElem?, Array.getElem?_setIfInBounds]
        by_cases hij : i = j
        · subst hij; simp [hsz, h1]
        · simp [hij]
      rcases walk_all hw i (by simpa using h1) with hD | ⟨p, hpr, hpi⟩
      · -- it has been done by the evaluator
        rcases (I.dS i).1 hD with hc | ⟨x, hx, hxi⟩
        · rw [hSi] at hc; cases hc
        · subst hxi
          have F := I.tf x hx
          have ho2 := F.op
          rw [ho] at ho2; injection ho2 with ho2
          refine t_step hdst I hx (by rw [← ho2]; exact hp) Q fun φ' a' w' I' => ?_
          have hlt : (T.filter fun z => z.i != x.i).length < T.length := by
            refine List.length_filter_lt_length_iff_exists.2 ⟨x, hx, by simp⟩
          exact ih _ D L R V _ rest st vs e h pend φ' a' w' outs' _ I' hw hr hsub (by omega) hhd hsz' hls'
      · -- it is the next effect
        rcases hhd with hhd | ⟨q, l2, oq, hrest, hoq, heq⟩
        · rw [hhd] at hpr; cases hpr
        · subst hrest
          obtain ⟨o2, ho2, hk, hw2⟩ := walk_cons hw
          have ho2' : ops[q.1]? = some o2 := by simpa using ho2
          rw [hoq] at ho2'; injection ho2' with ho2'
          subst ho2'
          rcases hw2 with ⟨_, R', hR, hw2⟩ | ⟨hc, _⟩
          · rcases List.mem_cons.1 hpr with hpq | hpl
            · subst hpq
              subst hpi
              rw [ho] at hoq; injection hoq with hoq; subst hoq
              refine e_step hT hdst I ho hk heq hp hR hcall hr Q fun V' st' vs' e' h' pend' outs2 φ' a' w' I' hr' hsub' => ?_
              obtain ⟨l3, D3, L3, R3, V3, T3, st3, vs3, e3, h3', pend3, q1, q2, q3, q4, q5⟩ := advance hT hdst l2 _ _ _ _ _ _ _ _ _ _ I' hw2 hr'
              have hlen' : T.length + (l2.length + 1) ≤ fuel + 1 := by simpa using hlen
              exact ih _ D3 L3 R3 V3 T3 l3 st3 vs3 e3 h3' pend3 φ' a' w' outs2 _ q1 q2 q3 (fun y hy => hsub y (hsub' y hy)) (by omega) q5 hsz' hls'
            · exfalso
              have SD : ∀ j, S.testBit j = true → D.testBit j = true := fun j hj => (I.dS j).2 (.inl hj)
              have hSq : S.testBit q.1 = false := by
                cases hs : S.testBit q.1 with
                | false => rfl
                | true => exact absurd (SD _ hs) (by rw [hk.new]; simp)
              have bne : bit1 q.1 ≠ 0 := fun e => by
                have := bit1_test q.1 q.1
                rw [e] at this; simp at this
              obtain ⟨o3, j, g1, g2, g3⟩ := walk_wait (S := S) hw2 bne (fun j hj => by rw [bit1_test] at hj; rw [← of_decide_eq_true hj]; exact hSq) (fun j hj => (sBit _ _ _).2 (.inr (SD j hj))) p hpl
              rw [hpi] at g1
              have g1' : ops[i]? = some o3 := by simpa using g1
              rw [ho] at g1'; injection g1' with g1'; subst g1'
              rw [hp j g2] at g3; cases g3
          · rw [heq] at hc; cases hc
/-- a region that draws its order -/
theorem draw_ok (hT : TTok P tt) {fi : FI} {ro : Option Nat} {id : Nat} {ops : Array Oper} {r : Rt} (hr : RtOK P r.call) {Q : Exit → Act → World → Prop} {e : Env} {h : Heap} {φ : Ren} {a : Act} {w : World} {pl : Option Plan} {outs : List (Env × Heap)}
    (hrun : (drawK fi tt ops.toList pl).run r [] e h = some outs) (S : SRel P n₀ φ fi.glob fi.nt e h a w)
    (hq : ∀ ψ x a' w', x ∈ outs → SRel P n₀ ψ fi.glob fi.nt x.1 x.2 a' w' → Tr φ h w.heap ψ x.2 w'.heap → Still w w' → Q .normal a' w') : (Code.region id ops true).wpIn (W ro) 0 P Q a w := by
  unfold drawK at hrun
  split at hrun
  · cases hrun
  · rename_i p
    split at hrun
    case h_2 => cases hrun
    rename_i hplan
    have hrun : (planK fi tt ops.toList p.ord []).run ⟨r.call, []⟩ [] e h = some outs := hrun
    obtain ⟨h1, h2⟩ := andB_true hplan
    obtain ⟨h2, h3⟩ := andB_true h2
    obtain ⟨h4, h3⟩ := andB_true h3
    have hdst : ∀ j o d, ops[j]? = some o → o.dst = some d → wrOf d ops.toList 0 = some j := by
      intro j o d ho hd
      have hj : j < ops.toList.length := by simpa using (Array.getElem?_eq_some_iff.1 ho).1
      rcases walk_all h3 j hj with hc | ⟨q, hq1, hq2⟩
      · simp at hc
      · rw [← hq2]
        exact walk_dst h3 q hq1 o d (by rw [hq2]; simpa using ho) hd
    have any_ : ∀ md : Region.Mode, ∀ listed : Array Bool, listed.size = ops.size → Region.ready md ops listed = [] → ∀ i, i < ops.size → Lst listed i := by
      intro md listed hsz hrd
      cases md with
      | text => exact topo_all (b := bText) (fun e he => by rw [bText_eq]; exact he) hsz hrd _ 0 h1 (fun j hj => by simp at hj)
      | gc => exact topo_all (b := bGc) (fun e he => by rw [bGc_eq]; exact he) hsz hrd _ 0 h2 (fun j hj => by simp at hj)
      | any => exact topo_all (b := bText) (fun e he => by rw [bText_eq]; exact binds_any he) hsz hrd _ 0 h1 (fun j hj => by simp at hj)
    have main : ∀ md : Region.Mode, wpAnyIn (W ro) 0 P md ops Q ops.size (Array.replicate ops.size false) a { w with drawn := w.drawn + 1 } := by
      intro md
      have I0 : Inv P fi ops (fun t => (vTmpS ⟨fi.glob, [], fi.rnd⟩ t).get [] e.tmps) φ h { w with drawn := w.drawn + 1 } e.defers a.defers 0 0 [] (fun _ => .junk) [] [] [] e h [] φ a { w with drawn := w.drawn + 1 } := by
        refine ⟨S.hp, .refl _ _ _, .refl _, S.nt, rfl, rfl, fun t j _ hj => (by simp at hj), fun t _ => vTmpS_rel (LRel.start S.tm) t, fun t j _ hj => (by simp at hj), fun t _ => .refl _, fun x hx => (by cases hx), fun x hx => (by cases hx), fun x hx => (by cases hx), .nil, fun x hx => (by cases hx), .nil, fun i => (by simp), fun i o j hi => (by simp at hi), fun i o j hi => (by simp at hi)⟩
      obtain ⟨l', D', L', R', V', T', st', vs', e', h', pend', q1, q2, q3, q4, q5⟩ := advance hT hdst p.ord 0 0 [] _ _ _ _ _ _ _ I0 h3 hrun
      have hlen : p.ord.length ≤ ops.size := by simpa using Nat.le_of_ble_eq_true h4
      refine draw_main (w₀ := { w with drawn := w.drawn + 1 }) hT hdst hr (any_ md) S.df (fun ψ x a' w' hx hs ht hst => hq ψ x a' w' hx hs ht ⟨hst.os, hst.out⟩) ops.size 0 D' L' R' V' T' l' st' vs' e' h' pend' φ a _ outs _ q1 q2 q3 (fun y hy => hy) (by rw [q4]; simpa using hlen) q5 (by simp) (fun j hj => by
        rw [Array.getD_eq_getD_getElem?]; simp [hj])
    refine wpIn_region_draw fun t => ?_
    unfold Region.schedule
    split
    · exact wpAnyIn_sound _ _ _ _ _ (main .any)
    · split
      · exact wpAnyIn_sound _ _ _ _ _ (main .text)
      · exact wpAnyIn_sound _ _ _ _ _ (main .gc)
end
end Go.Proofs.YtnfldenbeokblaaGreatDoor.Ev
namespace Go.Proofs.YtnfldenbeokblaaGreatDoor.Ev
set_option linter.unusedVariables false
set_option linter.unusedSimpArgs false
open Go

/-! ## scopes -/
def noG (Q : Exit → Act → World → Prop) : Exit → Act → World → Prop
  | .goto _, _, _ => False
  | e, a, w => Q e a w
theorem wpIn_scope {F : Fence} {n : Nat} {P : Program} {c : Code} {Q : Exit → Act → World → Prop} {a : Act} {w : World} (h : c.wpIn F n P (noG Q) a w) : (Code.scope c).wpIn F n P Q a w := by
  intro b k cs hro hb hr
  have s1 : step P (lone (b.atR a (.code (.scope c) :: k)) cs w) = .next (lone (b.atR a (.code c :: .inScope c :: k)) cs w) := step_lone_go (by simp [stepG, stepG.exec, Frame.atR])
  have s2 : ∀ a w, step P (lone (b.atR a (.inScope c :: k)) cs w) = .next (lone (b.atR a k) cs w) := fun a w => step_lone_go (by simp [stepG, stepG.exec, Frame.atR])
  have h0 : (lone (b.atR a (.code (.scope c) :: k)) cs w).fenced P F := fenced_calm hb hr rfl
  obtain ⟨e, a₁, w₁, hq, harr⟩ := h b (.inScope c :: k) cs hro hb hr
  cases e with
  | normal => exact ⟨.normal, a₁, w₁, hq, .head h0 s1 (StepsIn.trans harr (.one (fenced_calm (fr := b.atR a₁ (.inScope c :: k)) hb hr rfl) (s2 _ _)))⟩
  | exit id =>
    have hx : exitTo id (.inScope c :: k) = exitTo id k := by simp [exitTo]
    exact ⟨.exit id, a₁, w₁, hq, fun k' hk => .head h0 s1 (harr.1 k' (by rw [hx]; exact hk)), fun hr' hk => let ⟨k₁, h1, h2⟩ := harr.2 hr' (by rw [hx]; exact hk); ⟨k₁, h1, .head h0 s1 h2⟩⟩
  | goto l => exact hq.elim
  | ret => exact ⟨.ret, a₁, w₁, hq, ArrivesIn.of_steps (b := b) (k := k) (e := .ret) (.one h0 s1) harr⟩
  | panic ch => exact ⟨.panic ch, a₁, w₁, hq, ArrivesIn.of_steps (b := b) (k := k) (e := .panic ch) (.one h0 s1) harr⟩
  | outgrown => exact ⟨.outgrown, a₁, w₁, hq, ArrivesIn.of_steps (b := b) (k := k) (e := .outgrown) (.one h0 s1) harr⟩

/-! ## statements -/
def exOf : AExit → Exit
  | .normal => .normal
  | .exit id => .exit id
  | .ret => .ret
/-- what is known of the calls of functions that have bodies -/
def BodyOK (P : Program) (call : Callee' → List AVal → Heap → M AVal) : Prop :=
  ∀ (f : FuncId) (φ : Ren) (h : Heap) (w : World) (args : List AVal) (args' : Array Value) (outs : List (AVal × Heap)), call (.body f) args h = some outs → VRelL φ args args'.toList → HRel P φ h w.heap →
    (callFunc f args').run P w = .ok (.enter f args') w ∧ CallsIn (W none) 0 P f args' w (endR (Good P φ h w outs))
section
variable {P : Program} {n₀ : Nat} {tt : TT}
theorem Tr.push (φ : Ren) (h : Heap) (hp : Array Obj) (o : Obj) : Tr φ h hp φ h (hp.push o) :=
  ⟨.refl _, Nat.le_refl _, fun _ h => .inl h, by simp, fun b hb _ => by rw [Array.getElem?_push_lt hb, Array.getElem?_eq_getElem hb], fun _ a => .inl a, fun _ _ _ _ h => h⟩
/-- a range over a function -/
theorem range_ok {fi : FI} {r : Rt} (hb : BodyOK P r.call) {g : Operand} {ps : Array Tmp} {assign body : Code} {e : Env} {h : Heap} {φ : Ren} {a : Act} {w : World} {outs : List ((AExit × Env) × Heap)}
    (hn : n₀ ≤ w.heap.size) (hrun : (cRange (loopObj (rndOf fi) ps.toList assign body) (vk ⟨fi.glob, [], fi.rnd⟩ g)).run r e h = some outs) (S : SRel P n₀ φ fi.glob fi.nt e h a w) {Q : Exit → Act → World → Prop}
    (hq : ∀ ψ x a' w', x ∈ outs → SRel P n₀ ψ fi.glob fi.nt x.1.2 x.2 a' w' → Tr φ h w.heap ψ x.2 w'.heap → Still w w' → Q (exOf x.1.1) a' w') : (Code.rangeFunc g ps assign body).wpIn (W none) 0 P Q a w := by
  have hrun : rangeC (loopObj (rndOf fi) ps.toList assign body) (vk ⟨fi.glob, [], fi.rnd⟩ g) r e h h.next = some outs := hrun
  obtain ⟨l1, h1, h2⟩ := bindM_some (show bindM (rangeV r h.next (h.alloc (loopObj (rndOf fi) ps.toList assign body e)) ((vk ⟨fi.glob, [], fi.rnd⟩ g).get [] e.tmps)) (fun _ h' => afterLoop h.next e h') = some outs from hrun)
  have hg := vk_rel (LRel.start (rnd := fi.rnd) S.tm) g (a := a)
  generalize (vk ⟨fi.glob, [], fi.rnd⟩ g).get [] e.tmps = gv at hg h1
  refine wpIn_rangeFunc fun fn _ => ?_
  -- the record and the block
  let lo : Loop := { state := .ready, pending := none, fn := fn, tmps := a.tmps, params := ps, assign := assign, body := body, defers := w.heap.size }
  let w₁ : World := { w with heap := (w.heap.push (.deferred (some []))).push (.loop lo) }
  have hent : (Instr.enterLoop fn a.tmps ps assign body none).run P w = .ok (w.heap.size + 1, [{ target := .collected w.heap.size, args := #[] }]) w₁ := by
    have e1 : (newObj (.deferred (some []))).run P w = .ok w.heap.size { w with heap := w.heap.push (.deferred (some [])) } := rfl
    have e2 : (newObj (.loop lo)).run P { w with heap := w.heap.push (.deferred (some [])) } = .ok (w.heap.size + 1) w₁ := by
      show Result.ok (w.heap.push (.deferred (some []))).size w₁ = _
      rw [Array.size_push]
    simp only [Instr.enterLoop, Sem.run_bind, e1, Result.andThen_ok, Sem.run_pure]
    show ((newObj (.loop lo)).run P _).andThen _ = _
    rw [e2]; rfl
  have Hp := S.hp.push (.deferred (some []))
  have A := Hp.alloc (cap := 0) (sz := 0) (ob := loopObj (rndOf fi) ps.toList assign body e) (o' := .loop lo)
    ⟨lo, rfl, rfl, rfl, rfl, rfl, rfl, S.nt, rfl, (S.tm.mono (φ.le_add h.next _ 0 0 0 S.hp.fresh))⟩
  have hsz : (w.heap.push (.deferred (some []))).size = w.heap.size + 1 := by simp
  rw [hsz] at A
  have T1 : Tr φ h w.heap (φ.add h.next (w.heap.size + 1) 0 0 0) (h.alloc (loopObj (rndOf fi) ps.toList assign body e)) w₁.heap := (Tr.push φ h w.heap _).trans A.2
  have hblk : (φ.add h.next (w.heap.size + 1) 0 0 0).blk h.next = w.heap.size + 1 := by simp [Ren.add]
  have mark : MarkOK n₀ (φ.add h.next (w.heap.size + 1) 0 0 0) (h.alloc (loopObj (rndOf fi) ps.toList assign body e)) w₁.heap w.heap.size := by
    refine ⟨hn, ?_, fun id hid => ?_⟩
    · show ((w.heap.push (.deferred (some []))).push (.loop lo))[w.heap.size]? = _
      rw [Array.getElem?_push_lt (by simp)]
      simp
    · rcases hid.1 with rfl | hd
      · rw [hblk]; omega
      · rw [(φ.le_add h.next (w.heap.size + 1) 0 0 0 S.hp.fresh).blk id hd]
        have := S.hp.bd id hd; omega
  have fresh : ∀ {eds : List (AVal × List AVal)} {ds : List Deferred}, DRel n₀ φ h w.heap eds ds → ∀ d ∈ ds, d.target ≠ .collected w.heap.size := by
    intro eds ds
    induction ds generalizing eds with
    | nil => intro _ d hd; cases hd
    | cons d ds ih =>
      intro hd d' hd' hc
      rcases hd with ⟨q, g1, g2, g3, g4⟩ | ⟨x, eds', g1, g2, ⟨fv, cap, g3⟩, g4⟩
      · rcases List.mem_cons.1 hd' with rfl | hd'
        · rw [g1] at hc; injection hc with hc
          have := (Array.getElem?_eq_some_iff.1 g2.2.1).1
          omega
        · exact ih g4 d' hd' hc
      · rcases List.mem_cons.1 hd' with rfl | hd'
        · rw [g3] at hc; cases hc
        · exact ih g4 d' hd' hc
  have hd1 : DRel n₀ (φ.add h.next (w.heap.size + 1) 0 0 0) (h.alloc (loopObj (rndOf fi) ps.toList assign body e)) w₁.heap e.defers ({ target := .collected w.heap.size, args := #[] } :: a.defers) :=
    .inl ⟨w.heap.size, rfl, mark, fresh S.df, S.df.tr T1⟩
  -- the call
  generalize hge : a.eval g = gx at hg
  cases hg <;> try (cases h1; done)
  rename_i gf gf' fs cs fs' cs' hfn hfs hcs
  cases gf <;> try (cases h1; done)
  rename_i f
  have hgf : gf' = .func f := hfn.symm
  subst hgf
  have le1 := φ.le_add h.next (w.heap.size + 1) 0 0 0 S.hp.fresh
  have hy : VRel (φ.add h.next (w.heap.size + 1) 0 0 0) (.func (.yield h.next) [] []) (.func (.yield (w.heap.size + 1)) #[] #[]) := .func _ _ _ _ _ _ ⟨.inl rfl, by rw [hblk]⟩ .nil .nil
  have hargs : VRelL (φ.add h.next (w.heap.size + 1) 0 0 0) (fs ++ (.func (.yield h.next) [] [] :: cs)) ((fs' ++ #[Value.func (.yield (w.heap.size + 1)) #[] #[]]) ++ cs').toList := by
    rw [Array.append_assoc]
    refine (hfs.mono le1).app ?_
    rw [Array.toList_append]
    exact .cons _ _ _ _ hy (hcs.mono le1)
  obtain ⟨c1, c2⟩ := hb f _ _ w₁ _ _ l1 h1 hargs A.1
  refine ⟨w.heap.size + 1, [{ target := .collected w.heap.size, args := #[] }], w₁, { target := .fn (.func f) cs', args := fs' ++ #[Value.func (.yield (w.heap.size + 1)) #[] #[]] }, w₁, f, _, w₁, hent, ?_, fun _ _ => trivial, c1, (by intro h; cases h), ?_⟩
  · show (Deferred.ofValue (a.eval g) _).run P w₁ = _
    have hmap : Array.map a.eval (rangeCall g (w.heap.size + 1)).args = #[Value.func (.yield (w.heap.size + 1)) #[] #[]] := by simp [rangeCall, Act.eval]
    rw [hge, hmap]; rfl
  · refine callsIn_W (CallsIn.mono c2 fun en w₃ hen => ?_)
    cases en with
    | panicked c => exact hen.elim
    | outgrown => exact hen.elim
    | returned v =>
      obtain ⟨ψ, vh, g1, g2, g3, g4, g5⟩ := hen
      obtain ⟨o2, g6, g7⟩ := h2 vh g1
      have hdom : ψ.dom h.next := g3.le.dom _ (.inl rfl)
      have hbk : ψ.blk h.next = w.heap.size + 1 := by rw [g3.le.blk _ (.inl rfl), hblk]
      have g6 : afterO h.next e vh.2 (vh.2.objs.get h.next) = some o2 := g6
      unfold afterO at g6
      split at g6
      case h_2 => cases g6
      rename_i lr hlr
      obtain ⟨o', q1, rm, q2, q3⟩ := g2.obj h.next _ hdom hlr
      subst q2
      rw [hbk] at q1
      have hget := rGetObj (P := P) q1 (by intro _ _ _ e; cases e)
      have hset := rSetObj (P := P) (o2 := .loop { rm with state := .exhausted }) q1 (by intro _ _ _ e; cases e)
      split at g6
      · cases g6
      · rename_i hns
        have hbusy : (rm.state == LoopState.busy) = false := by
          rw [q3.state]
          cases hs : lr.state <;> first | rfl | exact absurd hs (by simpa using hns)
        have hend : (Instr.endLoop (w.heap.size + 1)).run P w₃ = .ok rm.pending { w₃ with heap := w₃.heap.setIfInBounds (w.heap.size + 1) (.loop { rm with state := .exhausted }) } := by
          simp only [Instr.endLoop, Instr.getLoop, Sem.run_bind, hget, Result.andThen_ok, Sem.run_pure, hbusy, Bool.false_eq_true, if_false, hset]
        have U : Upd w₃.heap (w₃.heap.setIfInBounds (w.heap.size + 1) (.loop { rm with state := .exhausted })) (ψ.blk h.next) (.loop { rm with state := .exhausted }) := by
          rw [hbk]; exact setObj_upd q1
        have K := g2.upd (ob' := .loop { lr with state := .exhausted }) hdom hlr U ⟨_, rfl, rfl, q3.pending, q3.params, q3.assign, q3.body, q3.nt, q3.rnd, q3.tm⟩
        have T2 := T1.trans (g3.trans K.2)
        have S2 : SRel P n₀ ψ fi.glob fi.nt e (vh.2.upd h.next (.loop { lr with state := .exhausted })) { a with defers := { target := .collected w.heap.size, args := #[] } :: a.defers } { w₃ with heap := w₃.heap.setIfInBounds (w.heap.size + 1) (.loop { rm with state := .exhausted }) } :=
          ⟨S.tm.mono T2.le, S.nt, hd1.tr (g3.trans K.2), K.1⟩
        have st2 : Still w { w₃ with heap := w₃.heap.setIfInBounds (w.heap.size + 1) (.loop { rm with state := .exhausted }) } := ⟨g5.os, g5.out⟩
        generalize hw4 : ({ w₃ with heap := w₃.heap.setIfInBounds (w.heap.size + 1) (.loop { rm with state := .exhausted }) } : World) = w4 at hend S2 st2
        have hh : w4.heap = w₃.heap.setIfInBounds (w.heap.size + 1) (.loop { rm with state := .exhausted }) := by rw [← hw4]
        rw [← hh] at T2
        refine ⟨rm.pending, w4, hend, ?_⟩
        rw [q3.pending]
        unfold pendC at g6
        split at g6
        · rename_i hp
          rw [hp]
          have g6 : some [((AExit.normal, e), _)] = some o2 := g6
          injection g6 with g6
          exact hq ψ _ _ _ (g7 _ (by rw [← g6]; exact List.mem_singleton.2 rfl)) S2 T2 st2
        · rename_i hp
          rw [hp]
          have g6 : some [((AExit.ret, e), _)] = some o2 := g6
          injection g6 with g6
          exact wpIn_ret (hq ψ ((AExit.ret, e), _) _ _ (g7 _ (by rw [← g6]; exact List.mem_singleton.2 rfl)) S2 T2 st2)
        · rename_i id hp
          rw [hp]
          have g6 : some [((AExit.exit id, e), _)] = some o2 := g6
          injection g6 with g6
          exact wpIn_exit (hq ψ ((AExit.exit id, e), _) _ _ (g7 _ (by rw [← g6]; exact List.mem_singleton.2 rfl)) S2 T2 st2)
        · cases g6
end
end Go.Proofs.YtnfldenbeokblaaGreatDoor.Ev
namespace Go.Proofs.YtnfldenbeokblaaGreatDoor.Ev
set_option linter.unusedVariables false
set_option linter.unusedSimpArgs false
open Go
section
variable {P : Program} {n₀ : Nat} {tt : TT}
/-- what is done with what a statement comes to -/
def Fin (P : Program) (n₀ : Nat) (fi : FI) (φ : Ren) (h : Heap) (w : World) (outs : List ((AExit × Env) × Heap)) (Q : Exit → Act → World → Prop) : Prop :=
  ∀ ψ x a' w', x ∈ outs → SRel P n₀ ψ fi.glob fi.nt x.1.2 x.2 a' w' → Tr φ h w.heap ψ x.2 w'.heap → Still w w' → Q (exOf x.1.1) a' w'
theorem Fin.sub {fi : FI} {φ ψ : Ren} {h h' : Heap} {w w' : World} {outs outs' : List ((AExit × Env) × Heap)} {Q : Exit → Act → World → Prop} (F : Fin P n₀ fi φ h w outs Q) (t : Tr φ h w.heap ψ h' w'.heap) (s : Still w w') (hs : ∀ y ∈ outs', y ∈ outs) : Fin P n₀ fi ψ h' w' outs' Q :=
  fun χ x a2 w2 hx hS ht hst => F χ x a2 w2 (hs x hx) hS (t.trans ht) (s.trans hst)
theorem loop_ok {fi : FI} {r : Rt} {ro : Option Nat} {c : Code} {Q : Exit → Act → World → Prop}
    (ih : ∀ (e : Env) (h : Heap) (φ : Ren) (a : Act) (w : World) (outs : List ((AExit × Env) × Heap)) (Q : Exit → Act → World → Prop), (codeK fi tt c).run r e h = some outs → SRel P n₀ φ fi.glob fi.nt e h a w → n₀ ≤ w.heap.size → Fin P n₀ fi φ h w outs Q → c.wpIn (W ro) 0 P Q a w) :
    ∀ (n : Nat) (e : Env) (h : Heap) (φ : Ren) (a : Act) (w : World) (outs : List ((AExit × Env) × Heap)), iterK ((codeK fi tt c).run r) n e h = some outs → SRel P n₀ φ fi.glob fi.nt e h a w → n₀ ≤ w.heap.size → Fin P n₀ fi φ h w outs Q → Code.roundsIn (W ro) 0 P c Q n a w
  | 0, e, h, φ, a, w, outs, hr, _, _, _ => by cases hr
  | n + 1, e, h, φ, a, w, outs, hr, S, hn, F => by
    obtain ⟨l, h1, h2⟩ := bindM_some (show bindM ((codeK fi tt c).run r e h) (iterC (iterK ((codeK fi tt c).run r) n)) = some outs from hr)
    rw [roundsIn_succ]
    refine ih e h φ a w l _ h1 S hn fun ψ x a' w' hx hS ht hst => ?_
    obtain ⟨o, h3, h4⟩ := h2 x hx
    obtain ⟨⟨ex, e'⟩, h'⟩ := x
    cases ex with
    | normal =>
      have h3 : iterK ((codeK fi tt c).run r) n e' h' = some o := h3
      exact loop_ok ih n e' h' ψ a' w' o h3 hS (Nat.le_trans hn ht.size) (F.sub ht hst h4)
    | exit id =>
      have h3 : some [((AExit.exit id, e'), h')] = some o := h3
      injection h3 with h3
      exact F ψ ((AExit.exit id, e'), h') a' w' (h4 _ (by rw [← h3]; exact List.mem_singleton.2 rfl)) hS ht hst
    | ret =>
      have h3 : some [((AExit.ret, e'), h')] = some o := h3
      injection h3 with h3
      exact F ψ ((AExit.ret, e'), h') a' w' (h4 _ (by rw [← h3]; exact List.mem_singleton.2 rfl)) hS ht hst
theorem code_ok (hT : TTok P tt) {fi : FI} {ro : Option Nat} (hro : ro = none ∨ fi.rnd = true) {r : Rt} (hr : RtOK P r.call) (hb : BodyOK P r.call) :
    ∀ (c : Code) (e : Env) (h : Heap) (φ : Ren) (a : Act) (w : World) (outs : List ((AExit × Env) × Heap)) (Q : Exit → Act → World → Prop), (codeK fi tt c).run r e h = some outs → SRel P n₀ φ fi.glob fi.nt e h a w → n₀ ≤ w.heap.size → Fin P n₀ fi φ h w outs Q → c.wpIn (W ro) 0 P Q a w := by
  have one : ∀ {x : AExit} {e : Env} {h : Heap} {φ : Ren} {a : Act} {w : World} {outs : List ((AExit × Env) × Heap)} {Q : Exit → Act → World → Prop}, (cExit x).run r e h = some outs → SRel P n₀ φ fi.glob fi.nt e h a w → Fin P n₀ fi φ h w outs Q → Q (exOf x) a w := by
    intro x e h φ a w outs Q hrun S F
    have hrun : some [((x, e), h)] = some outs := hrun
    injection hrun with hrun
    exact F φ ((x, e), h) a w (by rw [← hrun]; exact List.mem_singleton.2 rfl) S (.refl _ _ _) (.refl _)
  intro c
  induction c with
  | skip => exact fun e h φ a w outs Q hrun S _ F => wpIn_skip (one (x := .normal) hrun S F)
  | label l => exact fun e h φ a w outs Q hrun S _ F => wpIn_label (one (x := .normal) hrun S F)
  | exit id => exact fun e h φ a w outs Q hrun S _ F => wpIn_exit (one (x := .exit id) hrun S F)
  | ret => exact fun e h φ a w outs Q hrun S _ F => wpIn_ret (one (x := .ret) hrun S F)
  | goto l => exact fun e h φ a w outs Q hrun _ _ _ => by cases hrun
  | refuse s => exact fun e h φ a w outs Q hrun _ _ _ => by cases hrun
  | region id ops draw =>
    intro e h φ a w outs Q hrun S hn F
    have fin : ∀ {s : StK}, (cRegion s).run r e h = some outs → ∃ l, s.run r [] e h = some l ∧ ∀ ψ x a' w', x ∈ l → SRel P n₀ ψ fi.glob fi.nt x.1 x.2 a' w' → Tr φ h w.heap ψ x.2 w'.heap → Still w w' → Q .normal a' w' := by
      intro s hs
      obtain ⟨l, h1, h2⟩ := bindM_some (show bindM (s.run r [] e h) (fun e h => ret1 (.normal, e) h) = some outs from hs)
      refine ⟨l, h1, fun ψ x a' w' hx hS ht hst => ?_⟩
      obtain ⟨o, h3, h4⟩ := h2 x hx
      have h3 : some [((AExit.normal, x.1), x.2)] = some o := h3
      injection h3 with h3
      exact F ψ ((AExit.normal, x.1), x.2) a' w' (h4 _ (by rw [← h3]; exact List.mem_singleton.2 rfl)) hS ht hst
    cases draw with
    | false =>
      obtain ⟨l, h1, h2⟩ := fin hrun
      exact region_ok hT hro hr h1 S h2
    | true =>
      obtain ⟨l, h1, h2⟩ := fin hrun
      exact draw_ok hT hr h1 S h2
  | seq c1 c2 ih1 ih2 =>
    intro e h φ a w outs Q hrun S hn F
    obtain ⟨l, h1, h2⟩ := bindM_some (show bindM ((codeK fi tt c1).run r e h) (seqC (codeK fi tt c2) r) = some outs from hrun)
    refine wpIn_seq (ih1 e h φ a w l _ h1 S hn fun ψ x a' w' hx hS ht hst => ?_)
    obtain ⟨o, h3, h4⟩ := h2 x hx
    obtain ⟨⟨ex, e'⟩, h'⟩ := x
    cases ex with
    | normal => exact ih2 e' h' ψ a' w' o Q h3 hS (Nat.le_trans hn ht.size) (F.sub ht hst h4)
    | exit id =>
      have h3 : some [((AExit.exit id, e'), h')] = some o := h3
      injection h3 with h3
      exact F ψ ((AExit.exit id, e'), h') a' w' (h4 _ (by rw [← h3]; exact List.mem_singleton.2 rfl)) hS ht hst
    | ret =>
      have h3 : some [((AExit.ret, e'), h')] = some o := h3
      injection h3 with h3
      exact F ψ ((AExit.ret, e'), h') a' w' (h4 _ (by rw [← h3]; exact List.mem_singleton.2 rfl)) hS ht hst
  | cond c c1 c2 ih1 ih2 =>
    intro e h φ a w outs Q hrun S hn F
    have hrun : condC (codeK fi tt c1) (codeK fi tt c2) r e h ((vk ⟨fi.glob, [], fi.rnd⟩ c).get [] e.tmps) = some outs := hrun
    have hc := vk_rel (LRel.start (rnd := fi.rnd) S.tm) c (a := a)
    generalize (vk ⟨fi.glob, [], fi.rnd⟩ c).get [] e.tmps = cv at hc hrun
    generalize hce : a.eval c = ce at hc
    cases hc <;> try (cases hrun; done)
    rename_i b
    cases b with
    | true => exact wpIn_cond_true hce (ih1 e h φ a w outs Q hrun S hn F)
    | false => exact wpIn_cond_false hce (ih2 e h φ a w outs Q hrun S hn F)
  | block id c ih =>
    intro e h φ a w outs Q hrun S hn F
    obtain ⟨l, h1, h2⟩ := bindM_some (show bindM ((codeK fi tt c).run r e h) (blockC id) = some outs from hrun)
    refine wpIn_block (ih e h φ a w l _ h1 S hn fun ψ x a' w' hx hS ht hst => ?_)
    obtain ⟨o, h3, h4⟩ := h2 x hx
    obtain ⟨⟨ex, e'⟩, h'⟩ := x
    cases ex with
    | normal =>
      have h3 : some [((AExit.normal, e'), h')] = some o := h3
      injection h3 with h3
      exact F ψ ((AExit.normal, e'), h') a' w' (h4 _ (by rw [← h3]; exact List.mem_singleton.2 rfl)) hS ht hst
    | ret =>
      have h3 : some [((AExit.ret, e'), h')] = some o := h3
      injection h3 with h3
      exact F ψ ((AExit.ret, e'), h') a' w' (h4 _ (by rw [← h3]; exact List.mem_singleton.2 rfl)) hS ht hst
    | exit id' =>
      have h3 : (match Nat.beq id' id with | true => ret1 (AExit.normal, e') h' | false => ret1 (AExit.exit id', e') h') = some o := h3
      show (if id' = id then Q .normal a' w' else Q (.exit id') a' w')
      rw [beq_dec] at h3
      by_cases hid : id' = id
      · rw [decide_eq_true hid] at h3
        rw [if_pos hid]
        have h3 : some [((AExit.normal, e'), h')] = some o := h3
        injection h3 with h3
        exact F ψ ((AExit.normal, e'), h') a' w' (h4 _ (by rw [← h3]; exact List.mem_singleton.2 rfl)) hS ht hst
      · rw [decide_eq_false hid] at h3
        rw [if_neg hid]
        have h3 : some [((AExit.exit id', e'), h')] = some o := h3
        injection h3 with h3
        exact F ψ ((AExit.exit id', e'), h') a' w' (h4 _ (by rw [← h3]; exact List.mem_singleton.2 rfl)) hS ht hst
  | loop c ih =>
    intro e h φ a w outs Q hrun S hn F
    exact wpIn_loop_rounds 10000 (loop_ok ih 10000 e h φ a w outs hrun S hn F)
  | scope c ih =>
    intro e h φ a w outs Q hrun S hn F
    refine wpIn_scope (ih e h φ a w outs _ hrun S hn fun ψ x a' w' hx hS ht hst => ?_)
    have := F ψ x a' w' hx hS ht hst
    obtain ⟨⟨ex, e'⟩, h'⟩ := x
    cases ex <;> exact this
  | rangeFunc g ps assign body ih1 ih2 =>
    intro e h φ a w outs Q hrun S hn F
    have hrun : (match fi.rnd with | true => cFail | false => cRange (loopObj (rndOf fi) ps.toList assign body) (vk ⟨fi.glob, [], fi.rnd⟩ g)).run r e h = some outs := hrun
    cases hrnd : fi.rnd with
    | true => rw [hrnd] at hrun; cases hrun
    | false =>
      have hro : ro = none := hro.resolve_right (by rw [hrnd]; simp)
      subst hro
      have hrun2 : (cRange (loopObj (rndOf fi) ps.toList assign body) (vk ⟨fi.glob, [], fi.rnd⟩ g)).run r e h = some outs := by
        revert hrun; rw [hrnd]; exact id
      exact range_ok hb hn hrun2 S F
end
end Go.Proofs.YtnfldenbeokblaaGreatDoor.Ev
namespace Go.Proofs.YtnfldenbeokblaaGreatDoor.Ev
set_option linter.unusedVariables false
set_option linter.unusedSimpArgs false
open Go
section
variable {P : Program} {tt : TT}
theorem bindParams_ok {φ : Ren} {glob nt : Nat} : ∀ (ps : List Tmp) (as : List AVal) (as' : List Value) (t t' : T AVal) (tmps : Array Value), bindParams nt ps as t = some t' → VRelL φ as as' → TmRel φ glob t tmps → nt ≤ tmps.size →
    ps.length = as'.length ∧ TmRel φ glob t' ((ps.zip as').foldl (fun tmps (x : Tmp × Value) => tmps.setIfInBounds x.1 x.2) tmps) ∧ nt ≤ ((ps.zip as').foldl (fun tmps (x : Tmp × Value) => tmps.setIfInBounds x.1 x.2) tmps).size
  | [], [], as', t, t', tmps, h, hr, ht, hn => by
    cases hr
    injection h with h; subst h
    exact ⟨rfl, ht, hn⟩
  | [], _ :: _, as', t, t', tmps, h, hr, ht, hn => by cases h
  | _ :: _, [], as', t, t', tmps, h, hr, ht, hn => by cases h
  | p :: ps, a :: as, as', t, t', tmps, h, hr, ht, hn => by
    cases hr with
    | cons _ x _ xs hx hxs =>
      obtain ⟨h1, h2⟩ := when_some (show when (Nat.blt p nt) (bindParams nt ps as (t.put p a)) = some t' from h)
      rw [blt_dec] at h1
      have h1 := of_decide_eq_true h1
      have hlt : p < tmps.size := Nat.lt_of_lt_of_le h1 hn
      obtain ⟨g1, g2, g3⟩ := bindParams_ok ps as xs (t.put p a) t' (tmps.setIfInBounds p x) h2 hxs (fun q v hq hg => by
        rw [getD_set hlt]
        rcases T.get_put hq with ⟨e1, e2⟩ | ⟨e1, e2⟩
        · rw [if_pos e1, e2]; exact hx
        · rw [if_neg e1]; exact ht q v e2 hg) (by simpa using hn)
      exact ⟨by simp [g1], g2, g3⟩
/-- one round of a range over a function -/
theorem round_ok (hT : TTok P tt) {r : Rt} (hr : RtOK P r.call) (hb : BodyOK P r.call) {l : Nat} {φ : Ren} {h : Heap} {w : World} {args : List AVal} {args' : Array Value} {outs : List (AVal × Heap)} (hd : φ.dom l) (hrun : roundA tt l r args h (h.objs.get l) = some outs)
    (ha : VRelL φ args args'.toList) (H : HRel P φ h w.heap) : Res P (Good P φ h w outs) ((Instr.yield (φ.blk l) args').run P w) := by
  unfold roundA at hrun
  split at hrun
  case h_2 => cases hrun
  rename_i al hal
  obtain ⟨tm, h1, h2⟩ := ob_some hrun
  obtain ⟨l1, h3, h4⟩ := bindM_some h2
  obtain ⟨o', q1, rm, q2, q3⟩ := H.obj l _ hd hal
  subst q2
  have hget := rGetObj (P := P) q1 (by intro _ _ _ e; cases e)
  obtain ⟨g1, g2, g3⟩ := bindParams_ok (φ := φ) (glob := al.fi.glob) al.params args args'.toList al.tmps tm rm.tmps h1 ha q3.tm q3.nt
  have hsz : args'.size = rm.params.size := by
    have e1 : rm.params.size = al.params.length := by rw [← q3.params]; simp
    rw [e1, g1]; simp
  have hy : (Instr.yield (φ.blk l) args').run P w = .ok (.round (φ.blk l) rm.fn ((al.params.zip args'.toList).foldl (fun tmps (x : Tmp × Value) => tmps.setIfInBounds x.1 x.2) rm.tmps) rm.assign rm.body) w := by
    have hf : (rm.params.zip args').foldl (fun tmps (x : Tmp × Value) => tmps.setIfInBounds x.1 x.2) rm.tmps = (al.params.zip args'.toList).foldl (fun tmps (x : Tmp × Value) => tmps.setIfInBounds x.1 x.2) rm.tmps := by
      rw [← Array.foldl_toList, Array.toList_zip, q3.params]
    simp only [Instr.yield, Instr.getLoop, Sem.run_bind, hget, Result.andThen_ok, Sem.run_pure, hsz, ne_eq, not_true_eq_false, if_false]
    exact congrArg (fun t => Result.ok (Next.round (φ.blk l) rm.fn t rm.assign rm.body) w) hf
  rw [hy]
  refine roundIn_of_wpIn trivial ?_
  have S : SRel P 0 φ al.fi.glob al.fi.nt ⟨tm, []⟩ h { tmps := (al.params.zip args'.toList).foldl (fun tmps (x : Tmp × Value) => tmps.setIfInBounds x.1 x.2) rm.tmps, defers := [] } w := ⟨g2, g3, rfl, H⟩
  show rm.assign.wpIn (W (some (φ.blk l))) 0 P _ _ w
  rw [q3.assign]
  refine code_ok (n₀ := 0) hT (ro := some (φ.blk l)) (.inr q3.rnd) hr hb al.assign ⟨tm, []⟩ h φ _ w l1 _ h3 S (Nat.zero_le _) fun ψ x a' w' hx hS ht hst => ?_
  obtain ⟨o2, h5, h6⟩ := h4 x hx
  obtain ⟨⟨ex, e'⟩, h'⟩ := x
  cases ex with
  | exit id => cases h5
  | ret => cases h5
  | normal =>
    have hd2 : ψ.dom l := ht.le.dom l hd
    have hbk : ψ.blk l = φ.blk l := ht.le.blk l hd
    have h5 : beginBody (codeK al.fi tt al.body) l r e' h' (h'.objs.get l) = some o2 := h5
    unfold beginBody at h5
    split at h5
    case h_2 => cases h5
    rename_i a2 ha2
    split at h5
    case h_2 => cases h5
    rename_i hst2
    obtain ⟨l2, k1, k2⟩ := bindM_some h5
    obtain ⟨o3, p1, rm2, p2, p3⟩ := hS.hp.obj l _ hd2 ha2
    subst p2
    have hget2 := rGetObj (P := P) p1 (by intro _ _ _ e; cases e)
    have hset2 := rSetObj (P := P) (o2 := .loop { rm2 with state := .busy }) p1 (by intro _ _ _ e; cases e)
    have K := hS.hp.upd (ob' := .loop { a2 with state := .busy }) hd2 ha2 (setObj_upd (o2 := .loop { rm2 with state := .busy }) p1) ⟨_, rfl, rfl, p3.pending, p3.params, p3.assign, p3.body, p3.nt, p3.rnd, p3.tm⟩
    refine ⟨{ w' with heap := w'.heap.setIfInBounds (ψ.blk l) (.loop { rm2 with state := .busy }) }, ?_, ?_⟩
    · have hready : rm2.state = .ready := by rw [p3.state, hst2]
      rw [← hbk]
      simp only [Instr.beginRound, Instr.getLoop, Sem.run_bind, hget2, Result.andThen_ok, Sem.run_pure, hset2, hready]
    · show rm.body.wpIn (W (some (φ.blk l))) 0 P _ _ _
      rw [q3.body]
      have S2 : SRel P 0 ψ al.fi.glob al.fi.nt e' (h'.upd l (.loop { a2 with state := .busy })) a' { w' with heap := w'.heap.setIfInBounds (ψ.blk l) (.loop { rm2 with state := .busy }) } := ⟨hS.tm, hS.nt, hS.df.tr K.2, K.1⟩
      refine code_ok (n₀ := 0) hT (ro := some (φ.blk l)) (.inr q3.rnd) hr hb al.body e' _ ψ a' _ l2 _ k1 S2 (Nat.zero_le _) fun χ y a3 w3 hy3 hS3 ht3 hst3 => ?_
      obtain ⟨o4, k3, k4⟩ := k2 y hy3
      obtain ⟨⟨ex3, e3⟩, h3'⟩ := y
      have hd3 : χ.dom l := ht3.le.dom l hd2
      have hbk3 : χ.blk l = φ.blk l := by rw [ht3.le.blk l hd2, hbk]
      have k3 : (match e3.defers with | [] => endRound l ex3 h3' (h3'.objs.get l) | _ => none) = some o4 := k3
      split at k3
      case h_2 => cases k3
      unfold endRound at k3
      split at k3
      case h_2 => cases k3
      rename_i a4 ha4
      obtain ⟨o5, u1, rm4, u2, u3⟩ := hS3.hp.obj l _ hd3 ha4
      subst u2
      rw [hbk3] at u1
      have hget4 := rGetObj (P := P) u1 (by intro _ _ _ e; cases e)
      have TT := ht.trans (K.2.trans ht3)
      have stl : Still w w3 := hst.trans ((⟨rfl, rfl⟩ : Still w' { w' with heap := w'.heap.setIfInBounds (ψ.blk l) (.loop { rm2 with state := .busy }) }).trans hst3)
      have fin : ∀ (jump : Option Code) (st : LoopState) (b : Bool), jump.isNone = b → (st = if b then .ready else .done) → o4 = [(AVal.bool b, h3'.upd l (.loop { a4 with state := st, pending := jump }))] →
          ∃ v w', (Instr.endRound (φ.blk l) jump).run P w3 = .ok v w' ∧ endR (Good P φ h w outs) (.returned v) w' := by
        intro jump st b hj hst4 ho4
        have hset4 := rSetObj (P := P) (o2 := .loop { rm4 with state := st, pending := jump }) u1 (by intro _ _ _ e; cases e)
        have U : Upd w3.heap (w3.heap.setIfInBounds (φ.blk l) (.loop { rm4 with state := st, pending := jump })) (χ.blk l) (.loop { rm4 with state := st, pending := jump }) := by rw [hbk3]; exact setObj_upd u1
        have K4 := hS3.hp.upd (ob' := .loop { a4 with state := st, pending := jump }) hd3 ha4 U ⟨_, rfl, rfl, rfl, u3.params, u3.assign, u3.body, u3.nt, u3.rnd, u3.tm⟩
        refine ⟨.bool b, { w3 with heap := w3.heap.setIfInBounds (φ.blk l) (.loop { rm4 with state := st, pending := jump }) }, ?_, ?_⟩
        · have hst5 : (if b = true then LoopState.ready else LoopState.done) = st := by rw [hst4]
          simp only [Instr.endRound, Instr.getLoop, Sem.run_bind, hget4, Result.andThen_ok, Sem.run_pure, hj, hst5, hset4]
        · exact ⟨χ, (.bool b, _), h6 _ (k4 _ (by rw [ho4]; exact List.mem_singleton.2 rfl)), K4.1, TT.trans K4.2, .bool b, ⟨stl.os, stl.out⟩⟩
      cases ex3 with
      | normal =>
        have k3 : some [(AVal.bool true, _)] = some o4 := k3
        injection k3 with k3
        exact fin none .ready true rfl rfl k3.symm
      | ret =>
        have k3 : some [(AVal.bool false, _)] = some o4 := k3
        injection k3 with k3
        exact fin (some .ret) .done false rfl rfl k3.symm
      | exit id =>
        have k3 : some [(AVal.bool false, _)] = some o4 := k3
        injection k3 with k3
        exact fin (some (.exit id)) .done false rfl rfl k3.symm
end
end Go.Proofs.YtnfldenbeokblaaGreatDoor.Ev
namespace Go.Proofs.YtnfldenbeokblaaGreatDoor.Ev
set_option linter.unusedVariables false
set_option linter.unusedSimpArgs false
open Go

/-! ## what is left alone -/
structure Same (w w' : World) : Prop where
  size : w.heap.size ≤ w'.heap.size
  keep : ∀ b, b < w.heap.size → w'.heap[b]? = w.heap[b]?
  still : Still w w'
theorem HRel.grow {P : Program} {φ : Ren} {h : Heap} {hp hq : Array Obj} (H : HRel P φ h hp) (hs : hp.size ≤ hq.size) (hk : ∀ b, b < hp.size → hq[b]? = hp[b]?) : HRel P φ h hq ∧ Tr φ h hp φ h hq := by
  refine ⟨⟨⟨fun i o hi ho => ?_, H.inj, fun i hi => Nat.lt_of_lt_of_le (H.bd i hi) hs⟩, H.n, H.top⟩, .refl _, Nat.le_refl _, fun _ h => .inl h, hs, fun b hb _ => hk b hb, fun _ h => .inl h, fun _ _ _ _ h => h⟩
  obtain ⟨o', h1, h2⟩ := H.obj i o hi ho
  exact ⟨o', by rw [hk _ (H.bd i hi)]; exact h1, h2⟩
theorem HRel.same {P : Program} {φ : Ren} {h : Heap} {w w' : World} (H : HRel P φ h w.heap) (s : Same w w') : HRel P φ h w'.heap ∧ Tr φ h w.heap φ h w'.heap := H.grow s.size s.keep

/-! ## functions -/
structure DNop (P : Program) (f : FuncId) : Prop where
  enter : ∀ args w, (callFunc f args).run P w = .ok (.enter f args) w
  go : ∀ args w, CallsDIn (W none) 0 P f args .returning w fun e u' w' => (∃ v, e = .returned v) ∧ u' = .returning ∧ w'.heap = w.heap ∧ Still w w'
def ExtOK (P : Program) (f : FuncId) (x : Ext) : Prop := ∀ (φ : Ren) (h : Heap) (w : World) (args : List AVal) (args' : Array Value) (outs : List (AVal × Heap)), externA x args h = some outs → VRelL φ args args'.toList → HRel P φ h w.heap →
  Res P (Good P φ h w outs) ((callFunc f args').run P w)
def SumOK (P : Program) (f : FuncId) (s : SumK) : Prop := ∀ (args : List AVal) (v : AVal) (φ : Ren) (args' : Array Value) (w : World), s.f args = some v → VRelL φ args args'.toList →
  CallsIn (W none) 0 P f args' w (endR fun x w' => VRel φ v x ∧ Same w w')
structure PgOK (P : Program) (pg : Pg) : Prop where
  types : TTok P pg.types
  funcs : ∀ f fn, pg.funcs.get f = some fn → P.funcs[f]? = some fn
  named : ∀ f fn, pg.funcs.get f = some fn → (fn.name == "runtime.NumGoroutine") = false
  exts : ∀ f fn x, pg.funcs.get f = some fn → fn.body = none → pg.exts.get f = some x → ExtOK P f x
  dnop : ∀ f, pg.dnop.get f = some () → DNop P f
  sums : ∀ f fn s, pg.funcs.get f = some fn → pg.sums.get f = some s → fn.body.isSome = true ∧ SumOK P f s
section
variable {P : Program} {tt : TT} {pg : Pg}
theorem PgOK.enter (G : PgOK P pg) {f : FuncId} {fn : Func} (hf : pg.funcs.get f = some fn) (hb : fn.body.isSome = true) (args : Array Value) (w : World) : (callFunc f args).run P w = .ok (.enter f args) w := by
  have h1 := G.funcs f fn hf
  have h2 := G.named f fn hf
  have h3 : fn.body.isNone = false := by cases hq : fn.body <;> simp_all
  simp only [callFunc, Sem.run_bind, run_program, Result.andThen_ok, h1, h2, h3, Bool.false_eq_true, if_false, Sem.run_pure]
/-- the results of a function -/
theorem rk_ok (hT : TTok P tt) {glob : Nat} {φ : Ren} {ρ : T AVal} {h : Heap} {tmps : Array Value} (ht : TmRel φ glob ρ tmps) {x : ResultVar} {v : AVal} (hv : (rk glob tt x).get ρ h = some v) {w : World} (H : HRelR P φ h w.heap) :
    ∃ y, ((match x with | .tmp t => pure (tmps.getD t undef) | .cell a t => do loadVar t (← asAddr (tmps.getD a undef)) : Sem Value)).run P w = .ok y w ∧ VRel φ v y := by
  cases x with
  | tmp t =>
    have hv : some ((vTmpS ⟨glob, [], false⟩ t).get [] ρ) = some v := hv
    injection hv with hv
    exact ⟨_, rfl, by rw [← hv]; exact vTmpS_rel (LRel.start ht) t⟩
  | cell a t =>
    have hv : (match tt.get t with | some i => (⟨fun ρ h => loadV i h ((vTmpS ⟨glob, [], false⟩ a).get [] ρ)⟩ : RK) | none => ⟨fun _ _ => none⟩).get ρ h = some v := hv
    cases hi : tt.get t with
    | none => rw [hi] at hv; cases hv
    | some i =>
      rw [hi] at hv
      obtain ⟨k⟩ := hT t i hi
      obtain ⟨ad, y, h1, h2, h3⟩ := loadV_ok k H (vTmpS_rel (LRel.start (rnd := false) ht) a) (show loadV i h ((vTmpS ⟨glob, [], false⟩ a).get [] ρ) = some v from hv)
      refine ⟨y, ?_, h3⟩
      have has : (asAddr (.pointer (some ad))).run P w = .ok ad w := rfl
      simp only [h1, Sem.run_bind, has, Result.andThen_ok, h2]
theorem resL_ok (hT : TTok P tt) {glob : Nat} {φ : Ren} {ρ : T AVal} {h : Heap} {tmps : Array Value} (ht : TmRel φ glob ρ tmps) {w : World} (H : HRelR P φ h w.heap) : ∀ (l : List ResultVar) (vs : List AVal), resL glob tt ρ h l = some vs →
    ∃ ys : List Value, (l.mapM fun (x : ResultVar) => (match x with | .tmp t => pure (tmps.getD t undef) | .cell a t => do loadVar t (← asAddr (tmps.getD a undef)) : Sem Value)).run P w = .ok ys w ∧ VRelL φ vs ys
  | [], vs, hv => by
    have hv : some [] = some vs := hv
    injection hv with hv; subst hv
    exact ⟨[], by simp, .nil⟩
  | x :: l, vs, hv => by
    obtain ⟨v, h1, h2⟩ := ob_some (show ob ((rk glob tt x).get ρ h) (fun v => ob (resL glob tt ρ h l) fun vs => some (v :: vs)) = some vs from hv)
    obtain ⟨us, h3, h4⟩ := ob_some h2
    injection h4 with h4; subst h4
    obtain ⟨y, g1, g2⟩ := rk_ok hT ht h1 H
    obtain ⟨ys, g3, g4⟩ := resL_ok hT ht H l us h3
    refine ⟨y :: ys, ?_, .cons _ _ _ _ g2 g4⟩
    rw [List.mapM_cons]
    simp only [Sem.run_bind, g1, Result.andThen_ok, g3, Sem.run_pure]
theorem results_ok (hT : TTok P tt) {glob : Nat} {φ : Ren} {ρ : T AVal} {h : Heap} {tmps : Array Value} (ht : TmRel φ glob ρ tmps) {fn : Func} {vs : List AVal} (hv : resL glob tt ρ h fn.results.toList = some vs) {w : World} (H : HRelR P φ h w.heap) :
    ∃ y, (results fn tmps).run P w = .ok y w ∧ VRel φ (packR vs) y := by
  obtain ⟨ys, h1, h2⟩ := resL_ok hT ht H _ vs hv
  refine ⟨if h : ys.toArray.size = 1 then ys.toArray[0] else .tuple ys.toArray, ?_, ?_⟩
  · unfold results
    rw [Array.mapM_eq_mapM_toList]
    simp only [bind_map_left, Sem.run_bind, Sem.run_pure]
    exact congrArg (fun r : Result (List Value) => r.andThen fun a w' => Result.ok (if h : a.toArray.size = 1 then a.toArray[0] else .tuple a.toArray) w') h1
  · cases h2 with
    | nil => exact .tuple _ _ .nil
    | cons v x l xs hx hl =>
      cases hl with
      | nil => exact hx
      | cons v2 x2 l2 xs2 hx2 hl2 => exact .tuple _ _ (.cons _ _ _ _ hx (.cons _ _ _ _ hx2 hl2))
end
end Go.Proofs.YtnfldenbeokblaaGreatDoor.Ev
namespace Go.Proofs.YtnfldenbeokblaaGreatDoor.Ev
set_option linter.unusedVariables false
set_option linter.unusedSimpArgs false
open Go
theorem callsDIn_W {n n' : Nat} {P : Program} {f : FuncId} {args : Array Value} {u : FrameMode} {w : World} {R : Ending → FrameMode → World → Prop} (h : CallsDIn (W none) n P f args u w R) : CallsDIn (W none) n' P f args u w R :=
  ⟨trivial, fun c cs hu _ => h.2 c cs hu (W_room _ _)⟩
/-- a block that came behind the beginning changes -/
theorem Tr.late {φ₀ φ : Ren} {h₀ h : Heap} {hp₀ hp hq : Array Obj} (t : Tr φ₀ h₀ hp₀ φ h hp) {b : Nat} {o : Obj} (hb : hp₀.size ≤ b) (U : Upd hp hq b o) : Tr φ₀ h₀ hp₀ φ h hq :=
  ⟨t.le, t.next, t.dom, by rw [U.size]; exact t.size, fun k hk hno => by rw [U.other k (by omega)]; exact t.keep k hk hno, t.new, t.stay⟩
section
variable {P : Program} {tt : TT} {pg : Pg}
theorem leaves_ok (hT : TTok P tt) {dn : T Unit} (hdn : ∀ f, dn.get f = some () → DNop P f) {fn : Func} {glob n₀ : Nat} {φ₀ : Ren} {h₀ : Heap} {w₀ : World} (hn : n₀ = w₀.heap.size) {φ : Ren} {ρ : T AVal} {h : Heap} {tmps : Array Value} (ht : TmRel φ glob ρ tmps) {vs : List AVal} (hv : resL glob tt ρ h fn.results.toList = some vs) {outs : List (AVal × Heap)} (ho : (packR vs, h) ∈ outs) :
    ∀ (ds : List Deferred) (eds : List (AVal × List AVal)) (w : World), DRel n₀ φ h w.heap eds ds → defersOk dn eds = some () → HRel P φ h w.heap → Tr φ₀ h₀ w₀.heap φ h w.heap → Still w₀ w →
      LeavesInM (W none) 0 P fn tmps (endR (Good P φ₀ h₀ w₀ outs)) ds .returning w
  | [], eds, w, _, _, H, t, s => by
    obtain ⟨y, h1, h2⟩ := results_ok hT ht hv H.toHRelR
    exact ⟨y, h1, φ, _, ho, H, t, h2, s⟩
  | d :: ds, eds, w, D, hd, H, t, s => by
    refine ⟨by simp, ?_⟩
    rcases D with ⟨r, g1, g2, g3, g4⟩ | ⟨x, eds', g1, g2, g3, g4⟩
    · left
      have hget := rGetObj (P := P) g2.2.1 (by intro _ _ _ e; cases e)
      have hset := rSetObj (P := P) (o2 := .deferred none) g2.2.1 (by intro _ _ _ e; cases e)
      have U := setObj_upd (o2 := .deferred none) g2.2.1
      refine ⟨r, { w with heap := w.heap.setIfInBounds r (.deferred none) }, g1, ?_, ?_⟩
      · simp only [Instr.takeDeferred, Sem.run_bind, hget, Result.andThen_ok, hset, Sem.run_pure]
      · have H2 : HRel P φ h (w.heap.setIfInBounds r (.deferred none)) := H.other (b := r) (Nat.le_of_eq U.size.symm) (fun k hk _ => U.other k hk) g2.2.2
        have D2 : ∀ {eds : List (AVal × List AVal)} {ds : List Deferred}, (∀ d' ∈ ds, d'.target ≠ .collected r) → DRel n₀ φ h w.heap eds ds → DRel n₀ φ h (w.heap.setIfInBounds r (.deferred none)) eds ds := by
          intro eds ds
          induction ds generalizing eds with
          | nil => exact fun _ h => h
          | cons d ds ih =>
            intro hne hd
            rcases hd with ⟨q, k1, k2, k3, k4⟩ | ⟨x, eds', k1, k2, k3, k4⟩
            · refine .inl ⟨q, k1, ⟨k2.1, ?_, k2.2.2⟩, k3, ih (fun d' hd' => hne d' (List.mem_cons_of_mem _ hd')) k4⟩
              rw [U.other q (fun e => hne d List.mem_cons_self (by rw [k1, e]))]
              exact k2.2.1
            · exact .inr ⟨x, eds', k1, k2, k3, ih (fun d' hd' => hne d' (List.mem_cons_of_mem _ hd')) k4⟩
        exact leaves_ok hT hdn hn ht hv ho ds eds { w with heap := w.heap.setIfInBounds r (.deferred none) } (D2 g3 g4) hd H2 (t.late (by rw [← hn]; exact g2.1) U) ⟨s.os, s.out⟩
    · right
      subst g1
      obtain ⟨_, hd1, hd2⟩ := ob_some (show ob (deferOk dn x.1) (fun _ => defersOk dn eds') = some () from hd)
      obtain ⟨xv, xl⟩ := x
      have hd1 : deferOk dn xv = some _ := hd1
      unfold deferOk at hd1
      split at hd1
      case h_2 => cases hd1
      rename_i ga gb gfn
      split at hd1
      case h_2 => cases hd1
      rename_i f
      have hdf : dn.get f = some () := hd1
      obtain ⟨cap, hcap⟩ := g2 f ga gb rfl
      have N := hdn f hdf
      refine ⟨fun h => (by cases h), .func f, cap, f, d.args ++ cap, hcap, ?_, fun _ _ => trivial, ?_⟩
      · rw [hcap]; exact N.enter _ _
      · refine callsDIn_W ((N.go (d.args ++ cap) w).mono fun e u' w' he => ?_)
        obtain ⟨⟨v, rfl⟩, rfl, h3, h4⟩ := he
        exact leaves_ok hT hdn hn ht hv ho ds eds' w' (by rw [h3]; exact g4) hd2 (by rw [h3]; exact H) (by rw [h3]; exact t) (s.trans h4)
theorem body_ok (G : PgOK P pg) {r : Rt} (hr : RtOK P r.call) (hb : BodyOK P r.call) {f : FuncId} {fn : Func} {c : Code} (hf : pg.funcs.get f = some fn) (hbd : fn.body = some c) {fi : FI} (hnt : fi.nt = fn.ntmps) {φ : Ren} {h : Heap} {w : World} {args : List AVal} {args' : Array Value} {outs : List (AVal × Heap)}
    (hrun : (fBody pg.dnop fi.glob pg.types (codeK fi pg.types c) fn.results.toList).run r args h = some outs) (ha : VRelL φ args args'.toList) (H : HRel P φ h w.heap) : CallsIn (W none) 0 P f args' w (endR (Good P φ h w outs)) := by
  obtain ⟨l, h1, h2⟩ := bindM_some (show bindM ((codeK fi pg.types c).run r ⟨T.ofList args, []⟩ h) (finish pg.dnop fi.glob pg.types fn.results.toList) = some outs from hrun)
  refine callsIn_of_wp_marks (G.funcs f fn hf) hbd trivial ?_
  have S : SRel P w.heap.size φ fi.glob fi.nt ⟨T.ofList args, []⟩ h { tmps := args' ++ Array.replicate (fn.ntmps - args'.size) undef, defers := [] } w := by
    refine ⟨fun t v hv _ => ?_, by rw [hnt]; simp; omega, rfl, H⟩
    have hv := T.get_ofList hv
    obtain ⟨x, hx, hr⟩ := ha.get t v hv
    have hlt : t < args'.size := by simpa using (List.getElem?_eq_some_iff.1 hx).1
    have hx2 : args'[t]? = some x := by simpa using hx
    rw [Array.getD_eq_getD_getElem?, Array.getElem?_append_left hlt, hx2]
    exact hr
  refine code_ok (n₀ := w.heap.size) G.types (ro := none) (.inl rfl) hr hb c ⟨T.ofList args, []⟩ h φ _ w l _ h1 S (Nat.le_refl _) fun ψ x a' w' hx hS ht hst => ?_
  obtain ⟨o, h3, h4⟩ := h2 x hx
  obtain ⟨⟨ex, e'⟩, h'⟩ := x
  have fin : ex ≠ .exit 0 ∨ True → ob (defersOk pg.dnop e'.defers) (fun _ => resOf fi.glob pg.types fn.results.toList e' h') = some o → LeavesInM (W none) 0 P fn a'.tmps (endR (Good P φ h w outs)) a'.defers .returning w' := by
    intro _ h5
    obtain ⟨_, h6, h7⟩ := ob_some h5
    have h7 : (match resL fi.glob pg.types e'.tmps h' fn.results.toList with | some vs => ret1 (packR vs) h' | none => none) = some o := h7
    cases hv : resL fi.glob pg.types e'.tmps h' fn.results.toList with
    | none => rw [hv] at h7; cases h7
    | some vs =>
      rw [hv] at h7
      have h7 : some [(packR vs, h')] = some o := h7
      injection h7 with h7
      exact leaves_ok G.types G.dnop rfl hS.tm hv (h4 _ (by rw [← h7]; exact List.mem_singleton.2 rfl)) a'.defers e'.defers w' hS.df h6 hS.hp ht hst
  cases ex with
  | exit id => cases h3
  | normal => exact fin (.inr trivial) h3
  | ret => exact fin (.inr trivial) h3
/-- every call is sound -/
theorem call_ok (G : PgOK P pg) : ∀ n, RtOK P (call pg n) ∧ BodyOK P (call pg n)
  | 0 => ⟨⟨fun f φ h w args args' outs hc => (by cases hc), fun l φ h w args args' outs _ hc => (by cases hc)⟩, fun f φ h w args args' outs hc => (by cases hc)⟩
  | n + 1 => by
    obtain ⟨ih1, ih2⟩ := call_ok G n
    have fkr : ∀ (f : FuncId) (fn : Func) (c : Code) (φ : Ren) (h : Heap) (w : World) (args : List AVal) (args' : Array Value) (outs : List (AVal × Heap)), pg.funcs.get f = some fn → fn.body = some c → (pg.fk f).run ⟨call pg n, []⟩ args h = some outs → VRelL φ args args'.toList → HRel P φ h w.heap →
        CallsIn (W none) 0 P f args' w (endR (Good P φ h w outs)) := by
      intro f fn c φ h w args args' outs hf hb hrun ha H
      unfold Pg.fk at hrun
      rw [hf] at hrun
      have hk : fnK pg.dnop (fiOf fn.ntmps (pg.infos.get f)) pg.types fn (pg.exts.get f) = fBody pg.dnop (fiOf fn.ntmps (pg.infos.get f)).glob pg.types (codeK (fiOf fn.ntmps (pg.infos.get f)) pg.types c) fn.results.toList := by
        unfold fnK; rw [hb]
      have hrun : (withSum (fnK pg.dnop (fiOf fn.ntmps (pg.infos.get f)) pg.types fn (pg.exts.get f)) (pg.sums.get f)).run ⟨call pg n, []⟩ args h = some outs := hrun
      rw [hk] at hrun
      have hnt : (fiOf fn.ntmps (pg.infos.get f)).nt = fn.ntmps := by unfold fiOf; split <;> rfl
      cases hs : pg.sums.get f with
      | none =>
        rw [hs] at hrun
        exact body_ok G ih1 ih2 hf hb hnt hrun ha H
      | some s =>
        rw [hs] at hrun
        have hrun : sumRun s _ ⟨call pg n, []⟩ args h = some outs := hrun
        unfold sumRun at hrun
        split at hrun
        · rename_i v hv
          have hrun : some [(v, h)] = some outs := hrun
          injection hrun with hrun
          refine CallsIn.mono ((G.sums f fn s hf hs).2 args v φ args' w hv ha) (endR_mono fun x w' ⟨h1, h2⟩ => ?_)
          obtain ⟨g1, g2⟩ := H.same h2
          exact ⟨φ, (v, h), by rw [← hrun]; exact List.mem_singleton.2 rfl, g1, g2, h1, h2.still⟩
        · exact body_ok G ih1 ih2 hf hb hnt hrun ha H
    refine ⟨⟨fun f φ h w args args' outs hc ha H => ?_, fun l φ h w args args' outs hd hc ha H => round_ok G.types ih1 ih2 hd hc ha H⟩, fun f φ h w args args' outs hc ha H => ?_⟩
    · have hc : (pg.fk f).run ⟨call pg n, []⟩ args h = some outs := hc
      cases hf : pg.funcs.get f with
      | none => unfold Pg.fk at hc; rw [hf] at hc; cases hc
      | some fn =>
        cases hb : fn.body with
        | some c =>
          rw [G.enter hf (by rw [hb]; rfl)]
          exact fkr f fn c φ h w args args' outs hf hb hc ha H
        | none =>
          unfold Pg.fk at hc
          rw [hf] at hc
          have hc : (withSum (fnK pg.dnop (fiOf fn.ntmps (pg.infos.get f)) pg.types fn (pg.exts.get f)) (pg.sums.get f)).run ⟨call pg n, []⟩ args h = some outs := hc
          cases hs : pg.sums.get f with
          | some s => have := (G.sums f fn s hf hs).1; rw [hb] at this; cases this
          | none =>
            rw [hs] at hc
            have hc : (fnK pg.dnop (fiOf fn.ntmps (pg.infos.get f)) pg.types fn (pg.exts.get f)).run ⟨call pg n, []⟩ args h = some outs := hc
            unfold fnK at hc
            rw [hb] at hc
            cases hx : pg.exts.get f with
            | none => rw [hx] at hc; cases hc
            | some x =>
              rw [hx] at hc
              exact G.exts f fn x hf hb hx φ h w args args' outs hc ha H
    · obtain ⟨h1, h2⟩ := when_some (show when (hasBody (pg.funcs.get f)) ((pg.fk f).run ⟨call pg n, []⟩ args h) = some outs from hc)
      cases hf : pg.funcs.get f with
      | none => rw [hf] at h1; cases h1
      | some fn =>
        rw [hf] at h1
        cases hb : fn.body with
        | none =>
          have h1 : (match fn.body with | some _ => true | none => false) = true := h1
          rw [hb] at h1; cases h1
        | some c => exact ⟨G.enter hf (by rw [hb]; rfl) _ _, fkr f fn c φ h w args args' outs hf hb h2 ha H⟩
end
end Go.Proofs.YtnfldenbeokblaaGreatDoor.Ev
namespace Go.Proofs.YtnfldenbeokblaaGreatDoor.Ev
set_option linter.unusedVariables false
set_option linter.unusedSimpArgs false
open Go

/-! ## the table of types, out of the program -/
def fldOf (f : Field) : Nat × TypeId × Bool := (f.offset, f.type, decide (f.name ≠ "_"))
def mkTD : TypeDesc → TD
  | .bool => .bool
  | .int k => .int k
  | .string => .str
  | .pointer e => .ptr e
  | .slice e => .slice e
  | .array n e => .arr n e
  | .map k e => .map k e
  | .struct fs => .struct (mapL fldOf fs.toList)
  | .func _ _ _ => .func
  | .interface ms => .iface ms.isEmpty
  | .unsafePointer => .uptr
  | _ => .other
def stepOf (s : FieldStep) : Nat × Bool := (s.index, s.deref)
def methOf (m : Method) : String × List (Nat × Bool) × Option (FuncId × Bool) := (m.name, mapL stepOf m.path.toList, m.func)
def fldsOk (P : Program) : TypeDesc → Bool
  | .struct fs => allB (fun f => (P.info? f.type).isSome) fs.toList
  | _ => true
def mkTI2 (P : Program) (t : TypeId) (inf : TypeInfo) (desc : TypeDesc) (z : Value) : Option TI :=
  when (allB flatV z.cells.toList) <| when (Nat.beq z.cells.toList.length inf.size) <| when (Nat.ble inf.bytes 1000000) <| when (fldsOk P desc) <|
    some { desc := mkTD desc, size := inf.size, agg := isAggD desc, zero := ofConst z, zc := mapL ofCell z.cells.toList, cmp := inf.comparable,
           eqs := andB (isAggD desc) (andB (notB (P.stoodInHeld t)) (notB (P.eqGuardType P.depth t))), meths := mapL methOf inf.methods.toList }
def mkTI (P : Program) (t : TypeId) : Option TI := ob (P.info? t) fun inf => ob (P.underlying t) fun desc => ob inf.zero fun z => mkTI2 P t inf desc z
theorem mapL_eq {α β : Type} (f : α → β) : ∀ l : List α, mapL f l = l.map f
  | [] => rfl
  | a :: l => by simp [mapL, mapL_eq f l]
theorem mkTD_rel (d : TypeDesc) : TDRel (mkTD d) d := by
  cases d <;> first
    | rfl
    | exact ⟨_, rfl, mapL_eq _ _⟩
    | exact ⟨_, _, _, rfl⟩
    | exact ⟨_, rfl, rfl⟩
    | exact ⟨fun k h => (by cases h), fun e h => (by cases h)⟩
theorem findM_of (name : String) : ∀ (l : List Method) (f : FuncId) (p : Bool), findM name (mapL methOf l) = some ([], some (f, p)) → ∃ m, l.find? (fun x => x.name == name) = some m ∧ m.path = #[] ∧ m.func = some (f, p)
  | [], f, p, h => by cases h
  | m :: l, f, p, h => by
    have h : (match decide (m.name = name) with | true => some (mapL stepOf m.path.toList, m.func) | false => findM name (mapL methOf l)) = some ([], some (f, p)) := h
    by_cases hn : m.name = name
    · rw [decide_eq_true hn] at h
      injection h with h
      injection h with h1 h2
      refine ⟨m, by simp [hn], ?_, h2⟩
      rw [mapL_eq] at h1
      exact Array.toList_inj.1 (by simpa using h1)
    · rw [decide_eq_false hn] at h
      obtain ⟨m', h1, h2⟩ := findM_of name l f p h
      exact ⟨m', by rw [List.find?_cons_of_neg (by simpa using hn)]; exact h1, h2⟩
theorem mkTI_ok {P : Program} {t : TypeId} {i : TI} (h : mkTI P t = some i) : Nonempty (TIok P t i) := by
  obtain ⟨inf, h1, h⟩ := ob_some h
  obtain ⟨desc, h2, h⟩ := ob_some h
  obtain ⟨z, h3, h⟩ := ob_some h
  obtain ⟨g1, h⟩ := when_some h
  obtain ⟨g2, h⟩ := when_some h
  obtain ⟨g3, h⟩ := when_some h
  obtain ⟨g4, h⟩ := when_some h
  injection h with h
  subst h
  refine ⟨{ inf := inf, desc := desc, zero := z, hinfo := h1, hund := h2, hdesc := mkTD_rel desc, hsize := rfl, hagg := rfl, hzero := h3, hz := fun φ => ofConst_rel φ z, hzc := fun φ => mapL_rel φ _,
            hz1 := fun x hx => by rw [← flat_one]; exact allB_iff.1 g1 x hx, hzn := ?_, hcmp := fun h => h, heqs := fun h => ?_, hbytes := Nat.le_of_ble_eq_true g3, hfld := fun fs hfs f hf => ?_, hmeth := fun name f p hm => ?_ }⟩
  · show (mapL ofCell z.cells.toList).length = inf.size
    rw [mapL_eq, List.length_map]; exact beq_true g2
  · obtain ⟨_, h⟩ := andB_true h
    obtain ⟨h5, h6⟩ := andB_true h
    rw [notB_eq] at h5 h6
    exact ⟨by simpa using h5, by simpa using h6⟩
  · subst hfs
    exact allB_iff.1 g4 f hf
  · obtain ⟨m, k1, k2, k3⟩ := findM_of name inf.methods.toList f p hm
    exact ⟨m, by rw [← Array.find?_toList]; exact k1, k2, k3⟩

/-! ## tables by numbers -/
theorem get_nil {α : Type} : ∀ (d m : Nat), (gk d m).get (T.nil : T α) = none := by
  intro d
  induction d with
  | zero => intro m; rfl
  | succ d ih =>
    intro m
    cases m with
    | zero => rfl
    | succ m =>
      simp only [gk, gkSel_get]
      have : (T.nil : T α).ch (Nat.mod m 8) = .nil := by unfold T.ch; split <;> rfl
      rw [this]; exact ih _
theorem puts_mem {α : Type} : ∀ {l : List (Nat × α)} {n : Nat} {x : α}, (puts l).get n = some x → (n, x) ∈ l
  | [], n, x, h => by
    have := get_nil (α := α) dep n
    rw [show (puts ([] : List (Nat × α))).get n = none from this] at h; cases h
  | p :: l, n, x, h => by
    rcases T.get_put h with ⟨h1, h2⟩ | ⟨_, h2⟩
    · subst h1; subst h2; exact List.mem_cons_self
    · exact List.mem_cons_of_mem _ (puts_mem h2)
/-- the entries that are written out are those of the program -/
def tabOk (P : Program) : List (Nat × TI) → Prop := fun l => ∀ x ∈ l, mkTI P x.1 = some x.2
theorem tabOk_of {P : Program} {l : List (Nat × TI)} (h : mapL (fun x => mkTI P x.1) l = mapL (fun x => some x.2) l) : tabOk P l := by
  induction l with
  | nil => intro x hx; cases hx
  | cons a l ih =>
    injection h with h1 h2
    intro x hx
    rcases List.mem_cons.1 hx with rfl | hx
    · exact h1
    · exact ih h2 x hx
theorem tabOk_append {P : Program} {l m : List (Nat × TI)} (h : tabOk P l) (k : tabOk P m) : tabOk P (l ++ m) := fun x hx => by
  rcases List.mem_append.1 hx with hx | hx
  · exact h x hx
  · exact k x hx
theorem types_ok {P : Program} {l : List (Nat × TI)} (h : tabOk P l) : TTok P (puts l) := fun t i hi => mkTI_ok (h (t, i) (puts_mem hi))
end Go.Proofs.YtnfldenbeokblaaGreatDoor.Ev
namespace Go.Proofs.YtnfldenbeokblaaGreatDoor.Ev
set_option linter.unusedVariables false
set_option linter.unusedSimpArgs false
open Go

/-! ## values without memory -/
def closedL (p : AVal → Bool) : List AVal → Bool
  | [] => true
  | a :: l => match p a with | true => closedL p l | false => false
def closedV : Nat → AVal → Bool
  | 0, _ => false
  | d + 1, v => match v with
    | .bool _ | .int _ _ | .str _ | .nilPtr | .nilSlice | .nilMap | .nilFunc | .nilIface => true
    | .iface _ v => closedV d v
    | .agg l => closedL (closedV d) l
    | .tuple l => closedL (closedV d) l
    | _ => false
mutual
theorem VRel.closed {φ ψ : Ren} {v : AVal} {x : Value} (h : VRel ψ v x) (d : Nat) (hc : closedV d v = true) : VRel φ v x := by
  cases d with
  | zero => cases hc
  | succ d =>
    cases h with
    | bool b => exact .bool b
    | int k n => exact .int k n
    | str s => exact .str s
    | nilPtr => exact .nilPtr
    | ptr id off h => cases hc
    | nilSlice => exact .nilSlice
    | slice id off len lim a cap h hl ha hc' h0 hk => cases hc
    | nilMap => exact .nilMap
    | map r h => cases hc
    | func fn fn' a b a' b' h ha hb => cases hc
    | nilFunc => exact .nilFunc
    | iface t v v' h => exact .iface t v v' (h.closed d hc)
    | nilIface => exact .nilIface
    | agg l l' h h1 => exact .agg l l' (h.closed d hc) h1
    | tuple l l' h => exact .tuple l l' (h.closed d hc)
    | unk k n => cases hc
    | unkBool b => cases hc
    | modv k m r n h hm => cases hc
    | junk => cases hc
theorem VRelL.closed {φ ψ : Ren} {l : List AVal} {l' : List Value} (h : VRelL ψ l l') (d : Nat) (hc : closedL (closedV d) l = true) : VRelL φ l l' := by
  cases h with
  | nil => exact .nil
  | cons v v' l l' h hl =>
    have hc : (match closedV d v with | true => closedL (closedV d) l | false => false) = true := hc
    cases hv : closedV d v with
    | false => rw [hv] at hc; cases hc
    | true => rw [hv] at hc; exact .cons _ _ _ _ (h.closed d hv) (hl.closed d hc)
end
/-- no object -/
def Ren.none : Ren := ⟨fun _ => False, fun _ => 0, fun _ => 0, fun _ => 0, fun _ => 0⟩
theorem hrel0 (P : Program) (hp : Array Obj) : HRel P Ren.none h0 hp :=
  ⟨⟨fun _ _ h => h.elim, fun _ _ _ _ h => h.elim, fun _ h => h.elim⟩, fun _ h => h.elim, fun id o h => by
    have := get_nil (α := AObj) dep id
    rw [show h0.objs.get id = none from this] at h; cases h⟩
theorem runIs_some {m : M AVal} {v : AVal} (h : runIs m v = true) : ∃ l, m = some l ∧ ∀ x ∈ l, x.1 = v := by
  unfold runIs at h
  split at h
  · rename_i l
    exact ⟨l, rfl, fun x hx => beqV_eq 8 _ _ (allB_iff.1 h x hx)⟩
  · cases h
theorem tr0_same {ψ : Ren} {h : Heap} {w w' : World} (t : Tr Ren.none h0 w.heap ψ h w'.heap) (s : Still w w') : Same w w' :=
  ⟨t.size, fun b hb => t.keep b hb (fun _ hid => hid.1.elim), s⟩
section
variable {P : Program} {pg : Pg}
/-- a call that begins with no object, and comes to one value -/
theorem run_ok (G : PgOK P pg) {n : Nat} {f : FuncId} {fn : Func} (hf : pg.funcs.get f = some fn) (hb : fn.body.isSome = true) {args : List AVal} {v : AVal} (hrun : runIs (call pg n (.func f) args h0) v = true) {d : Nat} (hv : closedV d v = true)
    {args' : Array Value} (ha : VRelL Ren.none args args'.toList) (φ : Ren) (w : World) : CallsIn (W none) 0 P f args' w (endR fun x w' => VRel φ v x ∧ Same w w') := by
  obtain ⟨l, h1, h2⟩ := runIs_some hrun
  have R := (call_ok G n).1.fn f Ren.none h0 w args args' l h1 ha (hrel0 P w.heap)
  rw [G.enter hf hb] at R
  refine CallsIn.mono R (endR_mono fun x w' ⟨ψ, vh, g1, g2, g3, g4, g5⟩ => ?_)
  rw [h2 vh g1] at g4
  exact ⟨g4.closed d hv, tr0_same g3 g5⟩
/-- a function without arguments is known -/
theorem sum0_ok (G : PgOK P pg) {n : Nat} {f : FuncId} {fn : Func} (hf : pg.funcs.get f = some fn) (hb : fn.body.isSome = true) {v : AVal} (hrun : runIs (call pg n (.func f) [] h0) v = true) {d : Nat} (hv : closedV d v = true) : SumOK P f (sum0 v) := by
  intro args u φ args' w hu ha
  cases args with
  | cons a l => cases hu
  | nil =>
    have hu : some v = some u := hu
    injection hu with hu; subst hu
    obtain ⟨as⟩ := args'
    cases ha
    exact run_ok G hf hb hrun hv .nil φ w
/-- one more function is known -/
theorem PgOK.addSum (G : PgOK P pg) {f : FuncId} {fn : Func} (hf : pg.funcs.get f = some fn) (hb : fn.body.isSome = true) {s : SumK} (hs : SumOK P f s) : PgOK P { pg with sums := pg.sums.put f s } :=
  ⟨G.types, G.funcs, G.named, G.exts, G.dnop, fun g gn s' hg hs' => by
    rcases T.get_put hs' with ⟨e1, e2⟩ | ⟨_, e2⟩
    · subst e1; subst e2
      have hg : pg.funcs.get g = some gn := hg
      rw [hf] at hg; injection hg with hg; subst hg
      exact ⟨hb, hs⟩
    · exact G.sums g gn s' hg e2⟩
end
end Go.Proofs.YtnfldenbeokblaaGreatDoor.Ev
