/- An evaluator over abstract values and the proof that what it reckons is what the model's calls do: part 7 of 9. -/
import Derived.Test.YtjhionjmlcccjaaGreatDoorEvF
import Derived.OrdersIn
namespace Go.Proofs.YtjhionjmlcccjaaGreatDoor.Ev
set_option linter.unusedVariables false
set_option linter.unusedSimpArgs false
open Go

/-! ## deferred calls -/
def MarkOK (n₀ : Nat) (φ : Ren) (h : Heap) (hp : Array Obj) (r : Nat) : Prop := n₀ ≤ r ∧ hp[r]? = some (.deferred (some [])) ∧ ∀ id, Live φ h id → φ.blk id ≠ r
def DRel (n₀ : Nat) (φ : Ren) (h : Heap) (hp : Array Obj) : List (AVal × List AVal) → List Deferred → Prop
  | eds, [] => eds = []
  | eds, d :: ds => (∃ r, d.target = .collected r ∧ MarkOK n₀ φ h hp r ∧ (∀ d' ∈ ds, d'.target ≠ .collected r) ∧ DRel n₀ φ h hp eds ds) ∨
      (∃ x eds', eds = x :: eds' ∧ DEnt x d ∧ (∃ fv cap, d.target = .fn fv cap) ∧ DRel n₀ φ h hp eds' ds)
theorem MarkOK.tr {n₀ : Nat} {φ ψ : Ren} {h h' : Heap} {hp hq : Array Obj} {r : Nat} (m : MarkOK n₀ φ h hp r) (t : Tr φ h hp ψ h' hq) : MarkOK n₀ ψ h' hq r := by
  have hlt : r < hp.size := (Array.getElem?_eq_some_iff.1 m.2.1).1
  refine ⟨m.1, (t.keep r hlt m.2.2).trans m.2.1, fun id hid => ?_⟩
  rcases t.new id hid with h1 | h1 | ⟨j, hj, h1⟩
  · rw [t.le.blk _ h1.1]; exact m.2.2 id h1
  · omega
  · rw [h1]; exact m.2.2 j hj
theorem DRel.tr {n₀ : Nat} {φ ψ : Ren} {h h' : Heap} {hp hq : Array Obj} (t : Tr φ h hp ψ h' hq) : ∀ {eds : List (AVal × List AVal)} {ds : List Deferred}, DRel n₀ φ h hp eds ds → DRel n₀ ψ h' hq eds ds
  | _, [], d => d
  | _, _ :: ds, .inl ⟨r, h1, h2, h3, h4⟩ => .inl ⟨r, h1, h2.tr t, h3, DRel.tr t h4⟩
  | _, _ :: ds, .inr ⟨x, e, h1, h2, h3, h4⟩ => .inr ⟨x, e, h1, h2, h3, DRel.tr t h4⟩

/-! ## states -/
structure SRel (P : Program) (n₀ : Nat) (φ : Ren) (glob nt : Nat) (e : Env) (h : Heap) (a : Act) (w : World) : Prop where
  tm : TmRel φ glob e.tmps a.tmps
  nt : nt ≤ a.tmps.size
  df : DRel n₀ φ h w.heap e.defers a.defers
  hp : HRel P φ h w.heap
/-- within a region -/
structure LSt (P : Program) (n₀ : Nat) (φ : Ren) (sl : SL) (nt : Nat) (vs : List AVal) (e : Env) (h : Heap) (a : Act) (w : World) : Prop where
  tm : LRel φ sl vs e.tmps a.tmps
  nt : nt ≤ a.tmps.size
  df : DRel n₀ φ h w.heap e.defers a.defers
  hp : HRel P φ h w.heap
theorem LSt.srel {P : Program} {n₀ : Nat} {φ : Ren} {sl : SL} {nt : Nat} {vs : List AVal} {e : Env} {h : Heap} {a : Act} {w : World} (L : LSt P n₀ φ sl nt vs e h a w) : SRel P n₀ φ sl.glob nt e h a w := ⟨L.tm.tm, L.nt, L.df, L.hp⟩
theorem LSt.move {P : Program} {n₀ : Nat} {φ ψ : Ren} {sl : SL} {nt : Nat} {vs : List AVal} {e : Env} {h h' : Heap} {a : Act} {w w' : World} (L : LSt P n₀ φ sl nt vs e h a w) (H : HRel P ψ h' w'.heap) (t : Tr φ h w.heap ψ h' w'.heap) : LSt P n₀ ψ sl nt vs e h' a w' :=
  ⟨L.tm.mono t.le, L.nt, L.df.tr t, H⟩

/-! ## the monad -/
theorem appO_some {α : Type} {a b : M α} {l : List (α × Heap)} (h : appO a b = some l) : ∃ l1 l2, a = some l1 ∧ b = some l2 ∧ l = l1 ++ l2 := by
  unfold appO at h
  split at h
  · cases h
  · split at h
    · cases h
    · rename_i l1 _ l2; injection h with h; exact ⟨l1, l2, rfl, rfl, h.symm⟩
theorem bindMany_some {α β : Type} {f : α → Heap → M β} : ∀ {l : List (α × Heap)} {outs : List (β × Heap)}, bindMany f l = some outs → ∀ x ∈ l, ∃ o, f x.1 x.2 = some o ∧ ∀ y ∈ o, y ∈ outs
  | [], _, _, x, hx => by cases hx
  | z :: l, outs, h, x, hx => by
    obtain ⟨l1, l2, h1, h2, rfl⟩ := appO_some (show appO (f z.1 z.2) (bindMany f l) = some outs from h)
    rcases List.mem_cons.1 hx with rfl | hx
    · exact ⟨l1, h1, fun y hy => List.mem_append_left _ hy⟩
    · obtain ⟨o, h3, h4⟩ := bindMany_some h2 x hx
      exact ⟨o, h3, fun y hy => List.mem_append_right _ (h4 y hy)⟩
theorem bindM_some {α β : Type} {m : M α} {f : α → Heap → M β} {outs : List (β × Heap)} (h : bindM m f = some outs) : ∃ l, m = some l ∧ ∀ x ∈ l, ∃ o, f x.1 x.2 = some o ∧ ∀ y ∈ o, y ∈ outs := by
  unfold bindM at h
  split at h
  · cases h
  · rename_i l
    refine ⟨l, rfl, ?_⟩
    match l, h with
    | [], _ => intro x hx; cases hx
    | [z], h =>
      intro x hx
      simp only [List.mem_singleton] at hx
      subst hx
      exact ⟨outs, h, fun y hy => hy⟩
    | z :: z' :: l, h => exact bindMany_some (show bindMany f (z :: z' :: l) = some outs from h)
section
variable {P : Program} {n₀ : Nat} {tt : TT} {o : Oper}

/-- an operation, and what comes behind it -/
theorem stepK_ok {sl : SL} {ro : Option Nat} (hro : ro = none ∨ sl.rnd = true) {k : NK} {K : OpK} (hk : KOK P sl o K) {r : Rt} (hr : RtOK P r.call) {nt : Nat} {φ : Ren} {vs : List AVal} {e : Env} {h : Heap} {a : Act} {w : World} {outs : List (Env × Heap)}
    (hrun : (stepK k K).run r vs e h = some outs) (L : LSt P n₀ φ sl nt vs e h a w) (next : Act → World → Prop) (Q : Exit → Act → World → Prop)
    (hn : ∀ ψ h' e' a' w' v x outs', k.go r vs e' h' v = some outs' → (∀ y ∈ outs', y ∈ outs) → LSt P n₀ ψ sl nt vs e' h' a' w' → Tr φ h w.heap ψ h' w'.heap → Still w w' → VRel ψ v x → next (a'.put o.dst x) w') :
    o.wpIn (W ro) 0 P a w next Q := by
  refine ⟨fun _ _ => trivial, ?_⟩
  have semE : NotDefer o → o.semAt (W ro).round a.eval = execOp a.eval o := fun nd => Oper.semAt_eq _ _ _ nd
  have pure_ : ∀ {f : List AVal → T AVal → Option AVal} {v : AVal} {outs' : List (Env × Heap)}, NotDefer o → POK P sl o f → f vs e.tmps = some v → (∀ u, (∃ φ' x, VRel φ' v x ∧ (u = v ∨ VRel φ' u x)) → True) →
      (∀ x, VRel φ v x → ∃ u outs', VRel φ u x ∧ k.go r vs e h u = some outs' ∧ ∀ y ∈ outs', y ∈ outs) → o.uponIn (W ro) 0 P a next Q ((o.semAt (W ro).round a.eval).run P w) := by
    intro f v _ nd hp hf _ hg
    obtain ⟨x, h1, h2⟩ := hp φ vs e.tmps a w v (L.tm.ops o) hf
    rw [semE nd, h1]
    obtain ⟨u, outs', g1, g2, g3⟩ := hg x h2
    exact hn φ h e a w u x outs' g2 g3 L (.refl _ _ _) (.refl _) g1
  cases K with
  | p f =>
    have hrun : nStep k r vs e h (f vs e.tmps) = some outs := hrun
    cases hf : f vs e.tmps with
    | none => rw [hf] at hrun; cases hrun
    | some v =>
      rw [hf] at hrun
      rcases hk with hk | ⟨nd, hk⟩
      · rw [hk] at hf; cases hf
      · exact pure_ (outs' := outs) nd hk hf (fun _ _ => trivial) (fun x hx => ⟨v, outs, hx, hrun, fun y hy => hy⟩)
  | n f =>
    have hrun : nStep k r vs e h (f vs e.tmps h) = some outs := hrun
    cases hf : f vs e.tmps h with
    | none => rw [hf] at hrun; cases hrun
    | some v =>
      rw [hf] at hrun
      obtain ⟨nd, hk⟩ := hk
      obtain ⟨x, h1, h2⟩ := hk φ h vs e.tmps a w v (L.tm.ops o) L.hp.toHRelR hf
      rw [semE nd, h1]
      exact hn φ h e a w v x outs hrun (fun y hy => hy) L (.refl _ _ _) (.refl _) h2
  | u f =>
    have hrun : uStep k r vs e h (f vs e.tmps) = some outs := hrun
    cases hf : f vs e.tmps with
    | none => rw [hf] at hrun; cases hrun
    | some v =>
      rw [hf] at hrun
      obtain ⟨nd, hk⟩ := hk
      refine pure_ (outs' := outs) nd hk hf (fun _ _ => trivial) (fun x hx => ?_)
      by_cases hv : v = .unkBool
      · subst hv
        obtain ⟨l1, l2, h1, h2, rfl⟩ := appO_some (show appO (k.go r vs e h (.bool true)) (k.go r vs e h (.bool false)) = some outs from hrun)
        cases hx with
        | unkBool b =>
          cases b
          · exact ⟨_, l2, .bool false, h2, fun y hy => List.mem_append_right _ hy⟩
          · exact ⟨_, l1, .bool true, h1, fun y hy => List.mem_append_left _ hy⟩
      · have : uStep k r vs e h (some v) = k.go r vs e h v := by
          cases v <;> first | rfl | exact absurd rfl hv
        rw [this] at hrun
        exact ⟨v, outs, hx, hrun, fun y hy => hy⟩
  | a f =>
    have hrun : aStep k r vs e h (f vs e.tmps h.next) = some outs := hrun
    cases hf : f vs e.tmps h.next with
    | none => rw [hf] at hrun; cases hrun
    | some x =>
      rw [hf] at hrun
      obtain ⟨ob, v⟩ := x
      obtain ⟨nd, hk⟩ := hk
      obtain ⟨x, o', w', cap, sz, h1, h2, h3, h4, h5⟩ := hk φ vs e.tmps a w h.next ob v (L.tm.ops o) L.hp.fresh hf
      rw [semE nd, h1]
      have A := L.hp.alloc h4
      rw [← h2] at A
      exact hn _ (h.alloc ob) e a w' v x outs hrun (fun y hy => hy) (L.move A.1 A.2) A.2 h5 h3
  | e f =>
    obtain ⟨l, h1, h2⟩ := bindM_some (show bindM (f r vs e.tmps h) (fun v h' => k.go r vs e h' v) = some outs from hrun)
    obtain ⟨nd, hk⟩ := hk
    have R := hk r hr φ h vs e.tmps a w l (L.tm.ops o) L.hp h1
    rw [semE nd]
    refine R.upon Q ro 0 fun x w' ⟨ψ, vh, g1, g2, g3, g4, g5⟩ => ?_
    obtain ⟨o2, g6, g7⟩ := h2 vh g1
    exact hn ψ vh.2 e a w' vh.1 x o2 g6 g7 (L.move g2 g3) g3 g5 g4
  | d f =>
    have hrun : dStep k r vs e h (f vs e.tmps) = some outs := hrun
    obtain ⟨hrnd, hk⟩ := hk
    have hro : ro = none := hro.resolve_right (by rw [hrnd]; simp)
    subst hro
    cases hf : f vs e.tmps with
    | none => rw [hf] at hrun; cases hrun
    | some x =>
      rw [hf] at hrun
      obtain ⟨d, h1, h2, h3⟩ := hk φ vs e.tmps a w x (L.tm.ops o) hf
      show o.uponIn (W none) 0 P a next Q ((execOp a.eval o).run P w)
      rw [h1]
      have hrun : k.go r vs ⟨e.tmps, x :: e.defers⟩ h undefA = some outs := hrun
      exact hn φ h ⟨e.tmps, x :: e.defers⟩ { a with defers := d :: a.defers } w undefA undef outs hrun (fun y hy => hy) ⟨L.tm, L.nt, .inr ⟨x, e.defers, rfl, h2, h3, L.df⟩, L.hp⟩ (.refl _ _ _) (.refl _) (.junk _)
end
end Go.Proofs.YtjhionjmlcccjaaGreatDoor.Ev
namespace Go.Proofs.YtjhionjmlcccjaaGreatDoor.Ev
set_option linter.unusedVariables false
set_option linter.unusedSimpArgs false
open Go
section
variable {P : Program} {n₀ : Nat} {tt : TT} {o : Oper}
theorem dst_lt {tmps : Array Value} {d nt : Nat} (h : d < nt) (k : nt ≤ tmps.size) : d < tmps.size := Nat.lt_of_lt_of_le h k
theorem testBit_eq (a b : Nat) : Nat.testBit a b = a.testBit b := rfl
/-- the result goes to its destination -/
theorem goK_ok {fi : FI} {dst : Option Tmp} {st : List Tmp} {next : StK} {r : Rt} {vs : List AVal} {e : Env} {h : Heap} {v : AVal} {outs : List (Env × Heap)} (hrun : (goK next (dkOf fi dst)).go r vs e h v = some outs)
    {φ : Ren} {a : Act} {w : World} (L : LSt P n₀ φ ⟨fi.glob, st, fi.rnd⟩ fi.nt vs e h a w) {x : Value} (hv : VRel φ v x) :
    ∃ vs' e', next.run r vs' e' h = some outs ∧ LSt P n₀ φ ⟨fi.glob, pushT fi.glob st dst, fi.rnd⟩ fi.nt vs' e' h (a.put dst x) w := by
  cases dst with
  | none => exact ⟨vs, e, hrun, L⟩
  | some d =>
    unfold dkOf at hrun
    simp only at hrun
    rw [blt_dec] at hrun
    by_cases hd : d < fi.nt
    · rw [decide_eq_true hd] at hrun
      simp only at hrun
      have hsz : d < a.tmps.size := dst_lt hd L.nt
      have hnt : fi.nt ≤ (a.put (some d) x).tmps.size := by simpa [Act.put] using L.nt
      cases hg : Nat.testBit fi.glob d with
      | true =>
        rw [hg] at hrun
        rw [show pushT fi.glob st (some d) = st from by simp only [pushT, hg]]
        exact ⟨vs, ⟨(sk dep d).set (some v) e.tmps, e.defers⟩, hrun, ⟨L.tm.putG hg hsz hv, hnt, L.df, L.hp⟩⟩
      | false =>
        rw [hg] at hrun
        rw [show pushT fi.glob st (some d) = d :: st from by simp only [pushT, hg]]
        exact ⟨v :: vs, e, hrun, ⟨L.tm.putL hg hsz hv, hnt, L.df, L.hp⟩⟩
    · rw [decide_eq_false hd] at hrun
      cases hrun
/-- an operation that may not be wanted -/
theorem dstOf_some {ops : Array Oper} {j d : Nat} (h : dstOf ops.toList j = some d) : (ops[j]?).bind (·.dst) = some d := by
  obtain ⟨o, h1, h2⟩ := ob_some h
  rw [nth_eq] at h1
  have : ops[j]? = some o := by simpa using h1
  rw [this]; exact h2
theorem yielded_of {ops : Array Oper} {tmps : Array Value} {j d : Nat} (h : (ops[j]?).bind (·.dst) = some d) : yielded ops tmps j = match tmps[d]? with | some (.bool b) => some b | _ => none := by
  unfold yielded; rw [h]; rfl
theorem eqBool_dec (a b : Bool) : eqBool a b = decide (a = b) := by cases a <;> cases b <;> rfl
/-- what a guard's value says -/
theorem guard_ok {φ : Ren} {tmps : Array Value} {ops : Array Oper} {j d : Nat} {want : Bool} (hd : dstOf ops.toList j = some d) {v : AVal} (hv : VRel φ v (tmps.getD d undef)) (hg : o.guard = some (j, want)) :
    (∀ b, v = .bool b → Region.wanted o (yielded ops tmps) = decide (b = want)) ∧ (v = .tuple [] → Region.wanted o (yielded ops tmps) = false) := by
  have hy := yielded_of (tmps := tmps) (dstOf_some hd)
  have hw : Region.wanted o (yielded ops tmps) = (yielded ops tmps j == some want) := by simp [Region.wanted, hg]
  rw [hw, hy]
  constructor
  · rintro b rfl
    generalize hx : tmps.getD d undef = x at hv
    cases hv
    have : tmps[d]? = some (.bool b) := by
      rw [Array.getD_eq_getD_getElem?] at hx
      cases hq : tmps[d]? with
      | none => rw [hq] at hx; simp [undef] at hx
      | some y => rw [hq] at hx; simpa using hx
    rw [this]
    cases b <;> cases want <;> rfl
  · rintro rfl
    generalize hx : tmps.getD d undef = x at hv
    cases hv
    rename_i l' hl
    have : tmps[d]? = none ∨ ∃ z, tmps[d]? = some (.tuple z) := by
      rw [Array.getD_eq_getD_getElem?] at hx
      cases hq : tmps[d]? with
      | none => exact .inl rfl
      | some y => rw [hq] at hx; exact .inr ⟨l', by simpa using hx⟩
    rcases this with h | ⟨z, h⟩ <;> rw [h] <;> cases want <;> rfl
theorem skip_rel (φ : Ren) : VRel φ skipA undef := .tuple [] #[] .nil
/-- the operations of a region in their order -/
theorem opsK_ok (hT : TTok P tt) {fi : FI} {ro : Option Nat} (hro : ro = none ∨ fi.rnd = true) {ops : Array Oper} {r : Rt} (hr : RtOK P r.call) (Q : Exit → Act → World → Prop) :
    ∀ (l : List Oper) (i : Nat) (_ : ops.toList.drop i = l) (st : List Tmp) (vs : List AVal) (e : Env) (h : Heap) (φ : Ren) (a : Act) (w : World) (outs : List (Env × Heap)),
      (opsK fi tt ops.toList l st).run r vs e h = some outs → LSt P n₀ φ ⟨fi.glob, st, fi.rnd⟩ fi.nt vs e h a w →
      (∀ ψ x a' w', x ∈ outs → SRel P n₀ ψ fi.glob fi.nt x.1 x.2 a' w' → Tr φ h w.heap ψ x.2 w'.heap → Still w w' → Q .normal a' w') → wpOpsIn (W ro) 0 P ops Q (List.range' i l.length) a w := by
  intro l
  induction l with
  | nil =>
    intro i _ st vs e h φ a w outs hrun L hq
    have hrun : some [(e, h)] = some outs := hrun
    injection hrun with hrun
    exact hq φ (e, h) a w (by rw [← hrun]; exact List.mem_singleton.2 rfl) L.srel (.refl _ _ _) (.refl _)
  | cons o l ih =>
    intro i hi st vs e h φ a w outs hrun L hq
    have hlt : i < ops.toList.length := by
      rcases Nat.lt_or_ge i ops.toList.length with h1 | h1
      · exact h1
      · rw [List.drop_eq_nil_of_le h1] at hi; cases hi
    have hoi : ops[i]? = some o := by
      have : (ops.toList.drop i)[0]? = some o := by rw [hi]; rfl
      rw [List.getElem?_drop] at this
      simpa using this
    have hdrop : ops.toList.drop (i + 1) = l := by
      rw [← List.drop_drop, hi]; rfl
    rw [show (o :: l).length = l.length + 1 from rfl, List.range'_succ]
    simp only [wpOpsIn, hoi]
    -- what comes behind the operation
    have behind : ∀ ψ h' e' a' w' v x outs', (goK (opsK fi tt ops.toList l (pushT fi.glob st o.dst)) (dkOf fi o.dst)).go r vs e' h' v = some outs' → (∀ y ∈ outs', y ∈ outs) → LSt P n₀ ψ ⟨fi.glob, st, fi.rnd⟩ fi.nt vs e' h' a' w' →
        Tr φ h w.heap ψ h' w'.heap → Still w w' → VRel ψ v x → wpOpsIn (W ro) 0 P ops Q (List.range' (i + 1) l.length) (a'.put o.dst x) w' := by
      intro ψ h' e' a' w' v x outs' hgo hsub L' t s hv
      obtain ⟨vs2, e2, h1, h2⟩ := goK_ok hgo L' hv
      exact ih (i + 1) hdrop _ vs2 e2 h' ψ _ w' outs' h1 h2 fun χ y a2 w2 hy hs t2 s2 => hq χ y a2 w2 (hsub y hy) hs (t.trans t2) (s.trans s2)
    have hrun : (operK ⟨fi.glob, st, fi.rnd⟩ tt ops.toList o (goK (opsK fi tt ops.toList l (pushT fi.glob st o.dst)) (dkOf fi o.dst))).run r vs e h = some outs := hrun
    unfold operK at hrun
    split at hrun
    · rename_i hg
      have hwant : Region.wanted o (yielded ops a.tmps) = true := by simp [Region.wanted, hg]
      rw [if_pos hwant]
      exact stepK_ok hro (opK_ok hT rfl) hr hrun L _ Q behind
    · rename_i g hg
      obtain ⟨j, want⟩ := g
      unfold guardO at hrun
      split at hrun
      · rename_i d hd
        have hv := vTmpS_rel L.tm d
        obtain ⟨g1, g2⟩ := guard_ok (want := want) hd hv hg
        have hrun : guardRun want _ _ r vs e h ((vTmpS ⟨fi.glob, st, fi.rnd⟩ d).get vs e.tmps) = some outs := hrun
        generalize (vTmpS ⟨fi.glob, st, fi.rnd⟩ d).get vs e.tmps = gv at hrun g1 g2
        unfold guardRun at hrun
        split at hrun
        · rename_i b
          rw [eqBool_dec] at hrun
          have hwant := g1 b rfl
          by_cases hb : b = want
          · rw [decide_eq_true hb] at hrun hwant
            rw [if_pos hwant]
            exact stepK_ok hro (opK_ok hT rfl) hr hrun L _ Q behind
          · rw [decide_eq_false hb] at hrun hwant
            rw [if_neg (by rw [hwant]; simp)]
            exact ⟨fun _ _ => trivial, behind φ h e a w skipA undef outs hrun (fun y hy => hy) L (.refl _ _ _) (.refl _) (skip_rel φ)⟩
        · split at hrun
          · rw [if_neg (by rw [g2 rfl]; simp)]
            exact ⟨fun _ _ => trivial, behind φ h e a w skipA undef outs hrun (fun y hy => hy) L (.refl _ _ _) (.refl _) (skip_rel φ)⟩
          · cases hrun
        · cases hrun
      · cases hrun
theorem region_ok (hT : TTok P tt) {fi : FI} {ro : Option Nat} (hro : ro = none ∨ fi.rnd = true) {id : Nat} {ops : Array Oper} {r : Rt} (hr : RtOK P r.call) {Q : Exit → Act → World → Prop} {e : Env} {h : Heap} {φ : Ren} {a : Act} {w : World} {outs : List (Env × Heap)}
    (hrun : (opsK fi tt ops.toList ops.toList []).run r [] e h = some outs) (S : SRel P n₀ φ fi.glob fi.nt e h a w)
    (hq : ∀ ψ x a' w', x ∈ outs → SRel P n₀ ψ fi.glob fi.nt x.1 x.2 a' w' → Tr φ h w.heap ψ x.2 w'.heap → Still w w' → Q .normal a' w') : (Code.region id ops false).wpIn (W ro) 0 P Q a w := by
  refine wpIn_region ?_
  have := opsK_ok hT hro (ops := ops) hr Q ops.toList 0 rfl [] [] e h φ a w outs hrun ⟨LRel.start S.tm, S.nt, S.df, S.hp⟩ hq
  rw [List.range_eq_range']
  simpa using this
end
end Go.Proofs.YtjhionjmlcccjaaGreatDoor.Ev
namespace Go.Proofs.YtjhionjmlcccjaaGreatDoor.Ev
set_option linter.unusedVariables false
set_option linter.unusedSimpArgs false
open Go

/-! ## masks -/
theorem bit1_test (i j : Nat) : (bit1 i).testBit j = decide (i = j) := by
  have : bit1 i = 2 ^ i := by
    show 1 <<< i = 2 ^ i
    rw [Nat.shiftLeft_eq, Nat.one_mul]
  rw [this, Nat.testBit_two_pow]
theorem lor_test (a b j : Nat) : (Nat.lor a b).testBit j = (a.testBit j || b.testBit j) := Nat.testBit_or a b j
theorem land_test (a b j : Nat) : (Nat.land a b).testBit j = (a.testBit j && b.testBit j) := Nat.testBit_and a b j
theorem full_test (n j : Nat) : (Nat.sub (bit1 n) 1).testBit j = decide (j < n) := by
  have : bit1 n = 2 ^ n := by
    show 1 <<< n = 2 ^ n
    rw [Nat.shiftLeft_eq, Nat.one_mul]
  rw [this]; exact Nat.testBit_two_pow_sub_one n j
theorem beq_true {a b : Nat} (h : Nat.beq a b = true) : a = b := Nat.eq_of_beq_eq_true h
theorem subM_test {a b : Nat} (h : subM a b = true) {j : Nat} (hj : a.testBit j = true) : b.testBit j = true := by
  have h : Nat.land a b = a := beq_true h
  have h2 := land_test a b j
  rw [h, hj] at h2
  simpa using h2.symm
theorem land_ne {a b : Nat} (h : Nat.land a b ≠ 0) : ∃ j, a.testBit j = true ∧ b.testBit j = true := by
  obtain ⟨j, hj⟩ := Nat.exists_testBit_of_ne_zero h
  rw [land_test] at hj
  exact ⟨j, by simpa using hj⟩
theorem andB_eq (a b : Bool) : andB a b = (a && b) := by cases a <;> rfl
theorem orB_eq (a b : Bool) : orB a b = (a || b) := by cases a <;> rfl
theorem andB_true {a b : Bool} (h : andB a b = true) : a = true ∧ b = true := by rw [andB_eq] at h; simpa using h

/-! ## edges -/
theorem bAny_eq (e : Edge) : bAny e.ground = Region.binds .any e := by
  unfold bAny Region.binds; cases e.ground <;> rfl
theorem bText_eq (e : Edge) : bText e.ground = Region.binds .text e := by
  unfold bText Region.binds; cases e.ground <;> rfl
theorem bGc_eq (e : Edge) : bGc e.ground = Region.binds .gc e := by
  unfold bGc Region.binds; cases e.ground <;> rfl
theorem binds_any {md : Region.Mode} {e : Edge} (h : Region.binds .any e = true) : Region.binds md e = true := by
  revert h; unfold Region.binds; cases e.ground <;> simp
theorem preds_test : ∀ {l : List Edge} {j : Nat}, (preds l).testBit j = true → ∃ e ∈ l, Region.binds .any e = true ∧ e.on = j
  | [], j, h => by simp [preds] at h
  | e :: l, j, h => by
    unfold preds at h
    cases hb : bAny e.ground with
    | true =>
      rw [hb] at h
      have h : (Nat.lor (bit1 e.on) (preds l)).testBit j = true := h
      rw [lor_test, bit1_test] at h
      rcases Bool.or_eq_true_iff.1 h with h | h
      · exact ⟨e, by simp, by rw [← bAny_eq]; exact hb, of_decide_eq_true h⟩
      · obtain ⟨e', h1, h2⟩ := preds_test h
        exact ⟨e', by simp [h1], h2⟩
    | false =>
      rw [hb] at h
      obtain ⟨e', h1, h2⟩ := preds_test h
      exact ⟨e', by simp [h1], h2⟩
theorem edgesIn_mem {b : Ground → Bool} {D : Nat} : ∀ {l : List Edge}, edgesIn b D l = true → ∀ e ∈ l, b e.ground = true → D.testBit e.on = true
  | [], _, e, he, _ => by cases he
  | x :: l, h, e, he, hb => by
    unfold edgesIn at h
    cases hx : b x.ground with
    | true =>
      rw [hx] at h
      obtain ⟨h1, h2⟩ := andB_true h
      rcases List.mem_cons.1 he with rfl | he
      · exact h1
      · exact edgesIn_mem h2 e he hb
    | false =>
      rw [hx] at h
      rcases List.mem_cons.1 he with rfl | he
      · rw [hx] at hb; cases hb
      · exact edgesIn_mem h e he hb

/-! ## which operations are done -/
def Lst (listed : Array Bool) (j : Nat) : Prop := listed.getD j false = true
theorem mem_ready {md : Region.Mode} {ops : Array Oper} {listed : Array Bool} {i : Nat} : i ∈ Region.ready md ops listed ↔
    i < ops.size ∧ listed.getD i true = false ∧ ∃ o, ops[i]? = some o ∧ ∀ e ∈ o.after.toList, Region.binds md e = true → Lst listed e.on := by
  unfold Region.ready Lst
  rw [List.mem_filter, List.mem_range]
  constructor
  · rintro ⟨h1, h2⟩
    simp only [Bool.and_eq_true, Bool.not_eq_true'] at h2
    obtain ⟨h2, h3⟩ := h2
    refine ⟨h1, h2, ?_⟩
    cases ho : ops[i]? with
    | none => rw [ho] at h3; cases h3
    | some o =>
      rw [ho] at h3
      simp only [Option.map_some, Option.getD_some, Array.all_eq_true_iff_forall_mem, Bool.or_eq_true, Bool.not_eq_true'] at h3
      refine ⟨o, rfl, fun e he hb => ?_⟩
      rcases h3 e (by simpa using he) with h | h
      · rw [hb] at h; cases h
      · exact h
  · rintro ⟨h1, h2, o, ho, h3⟩
    refine ⟨h1, ?_⟩
    simp only [h2, ho, Option.map_some, Option.getD_some, Bool.not_false, Bool.true_and, Array.all_eq_true_iff_forall_mem, Bool.or_eq_true, Bool.not_eq_true']
    intro e he
    cases hb : Region.binds md e with
    | false => exact .inl rfl
    | true => exact .inr (h3 e (by simpa using he) hb)
theorem topo_all {md : Region.Mode} {b : Ground → Bool} (hb : ∀ e : Edge, Region.binds md e = true → b e.ground = true) {ops : Array Oper} {listed : Array Bool} (hsz : listed.size = ops.size) (hr : Region.ready md ops listed = []) :
    ∀ (l : List Nat) (D : Nat), topoOk b ops.toList l D = true → (∀ j, D.testBit j = true → Lst listed j) → ∀ i, i < ops.size → Lst listed i
  | [], D, h, hD, i, hi => by
    have h : D = Nat.sub (bit1 ops.toList.length) 1 := beq_true h
    refine hD i ?_
    rw [h, full_test]
    exact decide_eq_true (by simpa using hi)
  | k :: l, D, h, hD, i, hi => by
    unfold topoOk at h
    split at h
    · cases h
    · rename_i o ho
      obtain ⟨h1, h2⟩ := andB_true h
      rw [nth_eq] at ho
      have hok : ops[k]? = some o := by simpa using ho
      have hk : k < ops.size := (Array.getElem?_eq_some_iff.1 hok).1
      refine topo_all hb hsz hr l _ h2 (fun j hj => ?_) i hi
      rw [lor_test, bit1_test] at hj
      rcases Bool.or_eq_true_iff.1 hj with hj | hj
      · have hj := of_decide_eq_true hj
        subst hj
        by_cases hl : Lst listed k
        · exact hl
        · exfalso
          have : k ∈ Region.ready md ops listed := mem_ready.2 ⟨hk, by
            unfold Lst at hl
            rw [Array.getD_eq_getD_getElem?] at hl ⊢
            rw [Array.getElem?_eq_getElem (by omega)] at hl ⊢
            simpa using hl, o, hok, fun e he hbe => hD _ (edgesIn_mem h1 e he (hb e hbe))⟩
          rw [hr] at this; cases this
      · exact hD j hj

/-! ## the plan -/
theorem wrOf_spec {t : Tmp} : ∀ {l : List Oper} {k j : Nat}, wrOf t l k = some j → k ≤ j ∧ ∃ o, l[j - k]? = some o ∧ o.dst = some t
  | [], k, j, h => by cases h
  | o :: l, k, j, h => by
    unfold wrOf at h
    have go : wrOf t l (Nat.succ k) = some j → k ≤ j ∧ ∃ o', (o :: l)[j - k]? = some o' ∧ o'.dst = some t := by
      intro h
      obtain ⟨h1, o', h2, h3⟩ := wrOf_spec h
      have h1 : k + 1 ≤ j := h1
      refine ⟨by omega, o', ?_, h3⟩
      have : j - k = (j - (k + 1)) + 1 := by omega
      rw [this]; simpa using h2
    split at h
    · rename_i d hd
      split at h
      · rename_i hb
        injection h with h; subst h
        exact ⟨Nat.le_refl _, o, by simp, by rw [hd, beq_true hb]⟩
      · exact go h
    · exact go h
def Sub (u v : AVal) : Prop := u = .junk ∨ u = v
theorem Sub.refl (v : AVal) : Sub v v := .inr rfl
theorem Sub.trans {a b c : AVal} (h : Sub a b) (k : Sub b c) : Sub a c := by
  rcases h with h | rfl
  · exact .inl h
  · exact k
theorem Sub.rel {φ : Ren} {u v : AVal} {x : Value} (h : Sub u v) (k : VRel φ v x) : VRel φ u x := by
  rcases h with rfl | rfl
  · exact .junk x
  · exact k
structure OpOk (ops : List Oper) (i D L m : Nat) (o : Oper) : Prop where
  new : D.testBit i = false
  pre : ∀ j, m.testBit j = true → D.testBit j = true
  late : L ≠ 0 → ∃ j, m.testBit j = true ∧ L.testBit j = true
  opnd : ∀ t, Operand.tmp t ∈ o.op.operands.toList → ∀ j, wrOf t ops 0 = some j → m.testBit j = true ∨ (predsO (nth ops j)).testBit i = true
  dst : ∀ d, o.dst = some d → wrOf d ops 0 = some i
  guard : ∀ g, o.guard = some g → m.testBit g.1 = true
theorem opOk_some {ops : List Oper} {i D L m : Nat} {o : Oper} (h : opOk ops i D L m o = true) : OpOk ops i D L m o := by
  unfold opOk at h
  obtain ⟨h1, h⟩ := andB_true h
  obtain ⟨h2, h⟩ := andB_true h
  obtain ⟨h3, h⟩ := andB_true h
  obtain ⟨h4, h⟩ := andB_true h
  obtain ⟨h5, h6⟩ := andB_true h
  refine ⟨?_, fun j hj => subM_test h2 hj, fun hL => ?_, fun t ht j hj => ?_, fun d hd => ?_, fun g hg => ?_⟩
  · rw [notB_eq] at h1; simpa [hasM] using h1
  · split at h3
    · exact absurd rfl hL
    · rw [notB_eq] at h3
      refine land_ne (fun e => ?_)
      rw [e] at h3; cases h3
  · have := allB_iff.1 h4 _ ht
    have : inM ops i m (wrOf t ops 0) = true := this
    rw [hj] at this
    have : orB (hasM m j) (hasM (predsO (nth ops j)) i) = true := this
    rw [orB_eq] at this
    simpa [hasM] using this
  · rw [hd] at h5
    have h5 : isJust i (wrOf d ops 0) = true := h5
    unfold isJust at h5
    split at h5
    · cases h5
    · rename_i j hj; rw [hj, beq_true h5]
  · rw [hg] at h6; exact h6
/-- one step of the walk over a plan -/
theorem walk_cons {ops : List Oper} {eff : Oper → Bool} {p : Nat × Nat} {l : List (Nat × Nat)} {D L : Nat} {R : List (Nat × Nat)} (h : planWalk ops eff (p :: l) D L R = true) :
    ∃ o, ops[p.1]? = some o ∧ OpOk ops p.1 D L (preds o.after.toList) o ∧
      ((eff o = true ∧ ∃ R', dropR (preds o.after.toList) R = some R' ∧ planWalk ops eff l (Nat.lor (bit1 p.1) D) (bit1 p.1) R' = true) ∨
       (eff o = false ∧ planWalk ops eff l (Nat.lor (bit1 p.1) D) (lateM (bit1 p.1) L) ((p.1, p.2) :: R) = true)) := by
  unfold planWalk at h
  split at h
  · cases h
  · rename_i o ho
    rw [nth_eq] at ho
    split at h
    · cases h
    · rename_i hok
      refine ⟨o, ho, opOk_some hok, ?_⟩
      split at h
      · rename_i he
        split at h
        · cases h
        · rename_i R' hR; exact .inl ⟨he, R', hR, h⟩
      · rename_i he; exact .inr ⟨he, h⟩
theorem walk_all {ops : List Oper} {eff : Oper → Bool} : ∀ {l : List (Nat × Nat)} {D L : Nat} {R : List (Nat × Nat)}, planWalk ops eff l D L R = true → ∀ i, i < ops.length → D.testBit i = true ∨ ∃ p ∈ l, p.1 = i
  | [], D, L, R, h, i, hi => by
    have h : D = Nat.sub (bit1 ops.length) 1 := beq_true h
    left; rw [h, full_test]; exact decide_eq_true hi
  | p :: l, D, L, R, h, i, hi => by
    obtain ⟨o, _, _, h⟩ := walk_cons h
    have : (Nat.lor (bit1 p.1) D).testBit i = true ∨ ∃ q ∈ l, q.1 = i := by
      rcases h with ⟨_, R', _, h⟩ | ⟨_, h⟩ <;> exact walk_all h i hi
    rcases this with h | ⟨q, h1, h2⟩
    · rw [lor_test, bit1_test] at h
      rcases Bool.or_eq_true_iff.1 h with h | h
      · exact .inr ⟨p, by simp, of_decide_eq_true h⟩
      · exact .inl h
    · exact .inr ⟨q, by simp [h1], h2⟩
theorem walk_dst {ops : List Oper} {eff : Oper → Bool} : ∀ {l : List (Nat × Nat)} {D L : Nat} {R : List (Nat × Nat)}, planWalk ops eff l D L R = true → ∀ p ∈ l, ∀ o d, ops[p.1]? = some o → o.dst = some d → wrOf d ops 0 = some p.1
  | [], _, _, _, _, p, hp, _, _, _, _ => by cases hp
  | q :: l, D, L, R, h, p, hp, o, d, ho, hd => by
    obtain ⟨o', ho', hk, h⟩ := walk_cons h
    rcases List.mem_cons.1 hp with rfl | hp
    · rw [ho'] at ho; injection ho with ho; subst ho
      exact hk.dst d hd
    · rcases h with ⟨_, R', _, h⟩ | ⟨_, h⟩ <;> exact walk_dst h p hp o d ho hd
/-- what stands behind an effect in the plan waits for it -/
theorem walk_wait {ops : List Oper} {eff : Oper → Bool} {S : Nat} : ∀ {l : List (Nat × Nat)} {D L : Nat} {R : List (Nat × Nat)}, planWalk ops eff l D L R = true → L ≠ 0 → (∀ j, L.testBit j = true → S.testBit j = false) → (∀ j, S.testBit j = true → D.testBit j = true) →
    ∀ p ∈ l, ∃ o j, ops[p.1]? = some o ∧ (preds o.after.toList).testBit j = true ∧ S.testBit j = false
  | [], _, _, _, _, _, _, _, p, hp => by cases hp
  | q :: l, D, L, R, h, hL, hLS, hSD, p, hp => by
    obtain ⟨o', ho', hk, h⟩ := walk_cons h
    rcases List.mem_cons.1 hp with rfl | hp
    · obtain ⟨j, h1, h2⟩ := hk.late hL
      exact ⟨o', j, ho', h1, hLS j h2⟩
    · have hq : S.testBit q.1 = false := by
        cases hs : S.testBit q.1 with
        | false => rfl
        | true => exact absurd (hSD _ hs) (by rw [hk.new]; simp)
      have hSD' : ∀ j, S.testBit j = true → (Nat.lor (bit1 q.1) D).testBit j = true := fun j hj => by rw [lor_test, hSD j hj]; simp
      have b1 : ∀ j, (bit1 q.1).testBit j = true → S.testBit j = false := fun j hj => by
        rw [bit1_test] at hj; rw [← of_decide_eq_true hj]; exact hq
      have bne : bit1 q.1 ≠ 0 := fun e => by
        have := bit1_test q.1 q.1
        rw [e] at this; simp at this
      rcases h with ⟨_, R', _, h⟩ | ⟨_, h⟩
      · exact walk_wait h bne b1 hSD' p hp
      · obtain ⟨L', rfl⟩ : ∃ L', L = L' + 1 := ⟨L - 1, by omega⟩
        have h : planWalk ops eff l (Nat.lor (bit1 q.1) D) (Nat.lor (bit1 q.1) (L' + 1)) ((q.1, q.2) :: R) = true := h
        refine walk_wait h (fun e => bne ?_) (fun j hj => ?_) hSD' p hp
        · have := lor_test (bit1 q.1) (L' + 1) q.1
          rw [e, bit1_test] at this; simp at this
        · rw [lor_test] at hj
          rcases Bool.or_eq_true_iff.1 hj with hj | hj
          · exact b1 j hj
          · exact hLS j hj
end Go.Proofs.YtjhionjmlcccjaaGreatDoor.Ev
namespace Go.Proofs.YtjhionjmlcccjaaGreatDoor.Ev
set_option linter.unusedVariables false
set_option linter.unusedSimpArgs false
open Go

/-! ## memory that grows -/
theorem sk_get_ne {α : Type} (x : Option α) : ∀ (d n m : Nat) (t : T α), m ≠ n → (gk d m).get ((sk d n).set x t) = (gk d m).get t
  | 0, n, m, t, h => rfl
  | d + 1, n, m, t, h => by
    cases m with
    | zero =>
      cases n with
      | zero => exact absurd rfl h
      | succ n => simp only [gk, sk, skSel_val]
    | succ m =>
      cases n with
      | zero =>
        simp only [gk, sk, gkSel_get]
        have : (setHere x t).ch (Nat.mod m 8) = t.ch (Nat.mod m 8) := by
          unfold T.ch; split <;> (cases t <;> rfl)
        rw [this]
      | succ n =>
        have hm : Nat.mod m 8 < 8 := Nat.mod_lt _ (by omega)
        have hn : Nat.mod n 8 < 8 := Nat.mod_lt _ (by omega)
        simp only [gk, sk, gkSel_get]
        rw [skSel_ch _ _ _ _ _ hn hm]
        split
        · rename_i e
          have a1 : m % 8 = n % 8 := e
          rw [sk_get_ne x d _ _ _ (fun e2 => h (by have a2 : m / 8 = n / 8 := e2
                                                   omega)), e]
        · rfl
theorem T.get_put_ne {α : Type} {t : T α} {n m : Nat} {x : α} (h : m ≠ n) : (t.put n x).get m = t.get m := sk_get_ne (some x) dep n m t h
def Grw (k h : Heap) : Prop := ∀ id o, k.objs.get id = some o → h.objs.get id = some o
theorem Grw.refl (h : Heap) : Grw h h := fun _ _ h => h
theorem Grw.trans {a b c : Heap} (h : Grw a b) (k : Grw b c) : Grw a c := fun i o e => k i o (h i o e)
theorem Grw.alloc {h : Heap} (top : ∀ id o, h.objs.get id = some o → id < h.next) (ob : AObj) : Grw h (h.alloc ob) := by
  intro id o ho
  rw [Heap.alloc_objs, T.get_put_ne (Nat.ne_of_lt (top id o ho))]
  exact ho
theorem HRelR.ext {P : Program} {φ : Ren} {k h : Heap} {hp : Array Obj} (H : HRelR P φ h hp) (e : Grw k h) : HRelR P φ k hp :=
  ⟨fun i o d ho => H.obj i o d (e i o ho), fun i j oi oj di dj hi hj => H.inj i j oi oj di dj (e i oi hi) (e j oj hj), H.bd, fun c hc => ⟨(H.fix c hc).1, fun i oi di hi => (H.fix c hc).2 i oi di (e i oi hi)⟩⟩

/-! ## operations that the evaluator has done and the machine has not -/
inductive TK where
  | pure
  | read (f : Heap → Option AVal)
  | own (id : Nat) (ob : AObj)
  | skip
structure TE where
  i : Nat
  o : Oper
  v : AVal
  val : Operand → AVal
  k : TK
def OV (φ : Ren) (val : Operand → AVal) (a : Act) (o : Oper) : Prop := ∀ x ∈ o.op.operands, VRel φ (val x) (a.eval x)
def KF (P : Program) (h : Heap) (pend : List Pend) (R : List (Nat × Nat)) (x : TE) : Prop := match x.k with
  | .pure => NotDefer x.o ∧ ∀ φ a w, OV φ x.val a x.o → ∃ y, (execOp a.eval x.o).run P w = .ok (.value y) w ∧ VRel φ x.v y
  | .read f => NotDefer x.o ∧ (∀ φ hh a w u, OV φ x.val a x.o → HRelR P φ hh w.heap → f hh = some u → ∃ y, (execOp a.eval x.o).run P w = .ok (.value y) w ∧ VRel φ u y) ∧
      ∃ left k, f k = some x.v ∧ Grw k h ∧ (x.i, left) ∈ R ∧ (left = 0 ∨ ⟨f, x.v, left⟩ ∈ pend)
  | .own id ob => NotDefer x.o ∧ (∀ φ a w, OV φ x.val a x.o → ¬ φ.dom id → ∃ y o' w' cap sz, (execOp a.eval x.o).run P w = .ok (.value y) w' ∧ w'.heap = w.heap.push o' ∧
      VRel (φ.add id w.heap.size 0 cap sz) x.v y ∧ OObj P (φ.add id w.heap.size 0 cap sz) id ob o' ∧ Still w w') ∧ ∀ ob', h.objs.get id = some ob' → ob' = ob
  | .skip => x.v = skipA
def OpndF (ops : List Oper) (base V : Nat → AVal) (D i m : Nat) (val : Operand → AVal) : Operand → Prop
  | .tmp t => (∃ j, wrOf t ops 0 = some j ∧ m.testBit j = true ∧ D.testBit j = true ∧ Sub (val (.tmp t)) (V j)) ∨
      (Sub (val (.tmp t)) (base t) ∧ ∀ j, wrOf t ops 0 = some j → (predsO (nth ops j)).testBit i = true)
  | y => ∀ (φ : Ren) (a : Act), VRel φ (val y) (a.eval y)
structure TF (fi : FI) (ops : Array Oper) (base V : Nat → AVal) (D : Nat) (x : TE) : Prop where
  op : ops[x.i]? = some x.o
  val : V x.i = x.v
  inD : D.testBit x.i = true
  dlt : ∀ d, x.o.dst = some d → d < fi.nt
  guard : ∀ g, x.o.guard = some g → (preds x.o.after.toList).testBit g.1 = true ∧ D.testBit g.1 = true ∧ ∃ d, dstOf ops.toList g.1 = some d ∧
    ((x.k = .skip ∧ (V g.1 = .tuple [] ∨ ∃ b, V g.1 = .bool b ∧ b ≠ g.2)) ∨ (x.k ≠ .skip ∧ V g.1 = .bool g.2))
  noguard : x.o.guard = none → x.k ≠ .skip
  opnd : x.k ≠ .skip → ∀ y ∈ x.o.op.operands, OpndF ops.toList base V D x.i (preds x.o.after.toList) x.val y
theorem OpndF.mono {ops : List Oper} {base V V' : Nat → AVal} {D D' i m : Nat} {val : Operand → AVal} (hD : ∀ j, D.testBit j = true → D'.testBit j = true) (hV : ∀ j, D.testBit j = true → V' j = V j) {y : Operand} (h : OpndF ops base V D i m val y) :
    OpndF ops base V' D' i m val y := by
  cases y with
  | tmp t =>
    rcases h with ⟨j, h1, h2, h3, h4⟩ | h
    · exact .inl ⟨j, h1, h2, hD j h3, by rw [hV j h3]; exact h4⟩
    · exact .inr h
  | const v => exact h
  | global g => exact h
  | func f => exact h
theorem TF.mono {fi : FI} {ops : Array Oper} {base V V' : Nat → AVal} {D D' : Nat} {x : TE} (hD : ∀ j, D.testBit j = true → D'.testBit j = true) (hV : ∀ j, D.testBit j = true → V' j = V j) (h : TF fi ops base V D x) : TF fi ops base V' D' x := by
  refine ⟨h.op, by rw [hV _ h.inD]; exact h.val, hD _ h.inD, h.dlt, fun g hg => ?_, h.noguard, fun hk y hy => (h.opnd hk y hy).mono hD hV⟩
  obtain ⟨h1, h2, d, h3, h4⟩ := h.guard g hg
  exact ⟨h1, hD _ h2, d, h3, by rw [hV _ h2]; exact h4⟩

/-- the machine stands at S, the evaluator at D -/
structure Inv (P : Program) (fi : FI) (ops : Array Oper) (base : Nat → AVal) (φ₀ : Ren) (h₀ : Heap) (w₀ : World) (ed : List (AVal × List AVal)) (ad : List Deferred)
    (S D : Nat) (R : List (Nat × Nat)) (V : Nat → AVal) (T : List TE) (st : List Tmp) (vs : List AVal) (e : Env) (h : Heap) (pend : List Pend) (φ : Ren) (a : Act) (w : World) : Prop where
  hp : HRel P φ h w.heap
  tr : Tr φ₀ h₀ w₀.heap φ h w.heap
  still : Still w₀ w
  nt : fi.nt ≤ a.tmps.size
  ed : e.defers = ed
  ad : a.defers = ad
  mfW : ∀ t j, wrOf t ops.toList 0 = some j → S.testBit j = true → VRel φ (V j) (a.tmps.getD t undef)
  mfB : ∀ t, (∀ j, wrOf t ops.toList 0 = some j → S.testBit j = false) → VRel φ (base t) (a.tmps.getD t undef)
  enW : ∀ t j, wrOf t ops.toList 0 = some j → D.testBit j = true → Sub ((vTmpS ⟨fi.glob, st, fi.rnd⟩ t).get vs e.tmps) (V j)
  enB : ∀ t, (∀ j, wrOf t ops.toList 0 = some j → D.testBit j = false) → Sub ((vTmpS ⟨fi.glob, st, fi.rnd⟩ t).get vs e.tmps) (base t)
  tf : ∀ x ∈ T, TF fi ops base V D x
  kf : ∀ x ∈ T, KF P h pend R x
  tS : ∀ x ∈ T, S.testBit x.i = false
  tnd : T.Pairwise fun x y => x.i ≠ y.i
  own : ∀ x ∈ T, ∀ id ob, x.k = .own id ob → ¬ φ.dom id ∧ h₀.next ≤ id ∧ id < h.next
  ond : T.Pairwise fun x y => ∀ id ob id' ob', x.k = .own id ob → y.k = .own id' ob' → id ≠ id'
  dS : ∀ i, D.testBit i = true ↔ (S.testBit i = true ∨ ∃ x ∈ T, x.i = i)
  cl : ∀ i o j, S.testBit i = true → ops[i]? = some o → (preds o.after.toList).testBit j = true → S.testBit j = true
  dcl : ∀ i o j, D.testBit i = true → ops[i]? = some o → (preds o.after.toList).testBit j = true → D.testBit j = true

section
variable {P : Program} {n₀ : Nat} {tt : TT} {fi : FI} {ops : Array Oper} {base : Nat → AVal} {φ₀ : Ren} {h₀ : Heap} {w₀ : World} {ed : List (AVal × List AVal)} {ad : List Deferred}
  {S D : Nat} {R : List (Nat × Nat)} {V : Nat → AVal} {T : List TE} {st : List Tmp} {vs : List AVal} {e : Env} {h : Heap} {pend : List Pend} {φ : Ren} {a : Act} {w : World}
theorem wrOf_dst {t j : Nat} (hw : wrOf t ops.toList 0 = some j) : ∃ o, ops[j]? = some o ∧ o.dst = some t := by
  obtain ⟨_, o, h1, h2⟩ := wrOf_spec hw
  exact ⟨o, by simpa using h1, h2⟩
/-- the operands of a pending operation, at the machine -/
theorem Inv.ov (I : Inv P fi ops base φ₀ h₀ w₀ ed ad S D R V T st vs e h pend φ a w) {i : Nat} {o : Oper} (ho : ops[i]? = some o) (hi : S.testBit i = false) (hp : ∀ j, (preds o.after.toList).testBit j = true → S.testBit j = true)
    {val : Operand → AVal} (hf : ∀ y ∈ o.op.operands, OpndF ops.toList base V D i (preds o.after.toList) val y) : OV φ val a o := by
  intro y hy
  have hf := hf y hy
  cases y with
  | tmp t =>
    rcases hf with ⟨j, h1, h2, _, h4⟩ | ⟨h1, h2⟩
    · exact h4.rel (I.mfW t j h1 (hp j h2))
    · refine h1.rel (I.mfB t fun j hj => ?_)
      cases hs : S.testBit j with
      | false => rfl
      | true =>
        obtain ⟨oj, h3, _⟩ := wrOf_dst hj
        have h4 := h2 j hj
        rw [nth_eq] at h4
        have h5 : ops.toList[j]? = some oj := by simpa using h3
        rw [h5] at h4
        have := I.cl j oj i hs h3 h4
        rw [hi] at this; cases this
  | const v => exact hf φ a
  | global g => exact hf φ a
  | func f => exact hf φ a
/-- the machine has done one more -/
theorem put_mf (hdst : ∀ j o d, ops[j]? = some o → o.dst = some d → wrOf d ops.toList 0 = some j) {i : Nat} {o : Oper} (ho : ops[i]? = some o) (hlt : ∀ d, o.dst = some d → d < fi.nt) (hnt : fi.nt ≤ a.tmps.size) {y : Value} (hv : VRel φ (V i) y)
    (mfW : ∀ t j, wrOf t ops.toList 0 = some j → S.testBit j = true → VRel φ (V j) (a.tmps.getD t undef)) (mfB : ∀ t, (∀ j, wrOf t ops.toList 0 = some j → S.testBit j = false) → VRel φ (base t) (a.tmps.getD t undef)) :
    (∀ t j, wrOf t ops.toList 0 = some j → (Nat.lor (bit1 i) S).testBit j = true → VRel φ (V j) ((a.put o.dst y).tmps.getD t undef)) ∧
    (∀ t, (∀ j, wrOf t ops.toList 0 = some j → (Nat.lor (bit1 i) S).testBit j = false) → VRel φ (base t) ((a.put o.dst y).tmps.getD t undef)) ∧ fi.nt ≤ (a.put o.dst y).tmps.size ∧ (a.put o.dst y).defers = a.defers := by
  have bt : ∀ j, (Nat.lor (bit1 i) S).testBit j = true ↔ (i = j ∨ S.testBit j = true) := fun j => by rw [lor_test, bit1_test]; simp
  have bf : ∀ j, (Nat.lor (bit1 i) S).testBit j = false ↔ (i ≠ j ∧ S.testBit j = false) := fun j => by rw [lor_test, bit1_test]; simp
  cases hd : o.dst with
  | none =>
    refine ⟨fun t j hj hb => ?_, fun t hb => mfB t fun j hj => ((bf j).1 (hb j hj)).2, hnt, rfl⟩
    rcases (bt j).1 hb with rfl | hb
    · obtain ⟨o', h1, h2⟩ := wrOf_dst hj
      rw [ho] at h1; injection h1 with h1; subst h1
      rw [hd] at h2; cases h2
    · exact mfW t j hj hb
  | some d =>
    have hw := hdst i o d ho hd
    have hsz : d < a.tmps.size := Nat.lt_of_lt_of_le (hlt d hd) hnt
    have hget : ∀ t, (a.put (some d) y).tmps.getD t undef = if t = d then y else a.tmps.getD t undef := fun t => getD_set hsz
    refine ⟨fun t j hj hb => ?_, fun t hb => ?_, by simpa [Act.put] using hnt, rfl⟩
    · rw [hget]
      by_cases ht : t = d
      · rw [if_pos ht]; subst ht
        rw [hw] at hj; injection hj with hj; subst hj
        exact hv
      · rw [if_neg ht]
        rcases (bt j).1 hb with rfl | hb
        · obtain ⟨o', h1, h2⟩ := wrOf_dst hj
          rw [ho] at h1; injection h1 with h1; subst h1
          rw [hd] at h2; injection h2 with h2; exact absurd h2.symm ht
        · exact mfW t j hj hb
    · rw [hget]
      by_cases ht : t = d
      · subst ht
        have := ((bf i).1 (hb i hw)).1
        exact absurd rfl this
      · rw [if_neg ht]
        exact mfB t fun j hj => ((bf j).1 (hb j hj)).2
end
end Go.Proofs.YtjhionjmlcccjaaGreatDoor.Ev
namespace Go.Proofs.YtjhionjmlcccjaaGreatDoor.Ev
set_option linter.unusedVariables false
set_option linter.unusedSimpArgs false
open Go
theorem pw {α : Type} {R : α → α → Prop} (hs : ∀ x y, R x y → R y x) : ∀ {l : List α}, l.Pairwise R → ∀ x ∈ l, ∀ y ∈ l, x ≠ y → R x y
  | [], _, x, hx, _, _, _ => by cases hx
  | z :: l, h, x, hx, y, hy, hne => by
    obtain ⟨h1, h2⟩ := List.pairwise_cons.1 h
    rcases List.mem_cons.1 hx with ex | hx2 <;> rcases List.mem_cons.1 hy with ey | hy2
    · exact absurd (ex.trans ey.symm) hne
    · rw [ex]; exact h1 y hy2
    · rw [ey]; exact hs _ _ (h1 x hx2)
    · exact pw hs h2 x hx2 y hy2 hne
section
variable {P : Program} {n₀ : Nat} {tt : TT} {fi : FI} {ops : Array Oper} {base : Nat → AVal} {φ₀ : Ren} {h₀ : Heap} {w₀ : World} {ed : List (AVal × List AVal)} {ad : List Deferred}
  {S D : Nat} {R : List (Nat × Nat)} {V : Nat → AVal} {T : List TE} {st : List Tmp} {vs : List AVal} {e : Env} {h : Heap} {pend : List Pend} {φ : Ren} {a : Act} {w : World}
theorem sBit (i S j : Nat) : (Nat.lor (bit1 i) S).testBit j = true ↔ (i = j ∨ S.testBit j = true) := by rw [lor_test, bit1_test]; simp
theorem sBitF (i S j : Nat) : (Nat.lor (bit1 i) S).testBit j = false ↔ (i ≠ j ∧ S.testBit j = false) := by rw [lor_test, bit1_test]; simp
/-- the machine does what the evaluator has done before -/
theorem t_step (hdst : ∀ j o d, ops[j]? = some o → o.dst = some d → wrOf d ops.toList 0 = some j) (I : Inv P fi ops base φ₀ h₀ w₀ ed ad S D R V T st vs e h pend φ a w) {x : TE} (hx : x ∈ T)
    (hp : ∀ j, (preds x.o.after.toList).testBit j = true → S.testBit j = true) {ro : Option Nat} {K : Act → World → Prop} (Q : Exit → Act → World → Prop)
    (hK : ∀ φ' a' w', Inv P fi ops base φ₀ h₀ w₀ ed ad (Nat.lor (bit1 x.i) S) D R V (T.filter fun z => z.i != x.i) st vs e h pend φ' a' w' → K a' w') : wpOpIn (W ro) 0 P ops Q x.i K a w := by
  have F := I.tf x hx
  have F2 := I.kf x hx
  have memT : ∀ z, z ∈ T.filter (fun z => z.i != x.i) ↔ z ∈ T ∧ z.i ≠ x.i := by intro z; simp [List.mem_filter]
  have fin : ∀ φ' w' y, HRel P φ' h w'.heap → Tr φ₀ h₀ w₀.heap φ' h w'.heap → Still w₀ w' → φ.le φ' → VRel φ' x.v y → (∀ id, φ'.dom id → φ.dom id ∨ ∃ ob, x.k = .own id ob) → K (a.put x.o.dst y) w' := by
    intro φ' w' y H T' s le hv hdom
    obtain ⟨m1, m2, m3, m4⟩ := put_mf (base := base) (S := S) (V := V) (φ := φ') (y := y) hdst F.op F.dlt I.nt (by rw [F.val]; exact hv) (fun t j h1 h2 => (I.mfW t j h1 h2).mono le) (fun t h1 => (I.mfB t h1).mono le)
    refine hK φ' _ w' ⟨H, T', s, m3, I.ed, m4.trans I.ad, m1, m2, I.enW, I.enB, fun z hz => I.tf z ((memT z).1 hz).1, fun z hz => I.kf z ((memT z).1 hz).1, fun z hz => ?_, I.tnd.filter _, fun z hz id ob hk => ?_, I.ond.filter _, fun i => ?_, fun i o j hi ho hj => ?_, I.dcl⟩
    · obtain ⟨h1, h2⟩ := (memT z).1 hz
      exact (sBitF _ _ _).2 ⟨fun c => h2 c.symm, I.tS z h1⟩
    · obtain ⟨h1, h2⟩ := (memT z).1 hz
      obtain ⟨g1, g2, g3⟩ := I.own z h1 id ob hk
      refine ⟨fun hd => ?_, g2, g3⟩
      rcases hdom id hd with hd | ⟨ob', hd⟩
      · exact g1 hd
      · exact pw (fun x y hxy id ob id' ob' e1 e2 => (hxy id' ob' id ob e2 e1).symm) I.ond z h1 x hx (fun c => h2 (by rw [c])) id ob id ob' hk hd rfl
    · rw [sBit, I.dS]
      constructor
      · rintro (h1 | ⟨z, h1, h2⟩)
        · exact .inl (.inr h1)
        · by_cases hz : z.i = x.i
          · exact .inl (.inl (hz.symm.trans h2))
          · exact .inr ⟨z, (memT z).2 ⟨h1, hz⟩, h2⟩
      · rintro ((h1 | h1) | ⟨z, h1, h2⟩)
        · exact .inr ⟨x, hx, h1⟩
        · exact .inl h1
        · exact .inr ⟨z, ((memT z).1 h1).1, h2⟩
    · rw [sBit] at hi ⊢
      rcases hi with rfl | hi
      · rw [F.op] at ho; injection ho with ho; subst ho
        exact .inr (hp j hj)
      · exact .inr (I.cl i o j hi ho hj)
  unfold wpOpIn
  simp only [F.op]
  -- is it wanted?
  have want : Region.wanted x.o (yielded ops a.tmps) = true ↔ x.k ≠ .skip := by
    cases hg : x.o.guard with
    | none => exact ⟨fun _ => F.noguard hg, fun _ => by simp [Region.wanted, hg]⟩
    | some g =>
      obtain ⟨j, wt⟩ := g
      obtain ⟨h1, h2, d, h3, h4⟩ := F.guard _ hg
      have hd := dstOf_some h3
      obtain ⟨oj, ho, hod⟩ : ∃ oj, ops[j]? = some oj ∧ oj.dst = some d := by
        cases hq : ops[j]? with
        | none => rw [hq] at hd; cases hd
        | some oj => rw [hq] at hd; exact ⟨oj, rfl, hd⟩
      have hv := I.mfW d j (hdst j oj d ho hod) (hp j h1)
      obtain ⟨g1, g2⟩ := guard_ok (want := wt) h3 hv hg
      rcases h4 with ⟨h5, h6⟩ | ⟨h5, h6⟩
      · refine ⟨fun hw => ?_, fun c => absurd h5 c⟩
        exfalso
        rcases h6 with h6 | ⟨b, h6, h7⟩
        · rw [g2 h6] at hw; cases hw
        · rw [g1 b h6, decide_eq_false h7] at hw; cases hw
      · exact ⟨fun _ => h5, fun _ => by rw [g1 _ h6]; simp⟩
  have ov : x.k ≠ .skip → OV φ x.val a x.o := fun hk => I.ov F.op (I.tS x hx) hp (F.opnd hk)
  unfold KF at F2
  split at F2
  · -- pure
    rename_i hk
    obtain ⟨nd, hrun⟩ := F2
    have hns : x.k ≠ .skip := by rw [hk]; simp
    obtain ⟨y, h1, h2⟩ := hrun φ a w (ov hns)
    rw [if_pos (want.2 hns)]
    refine ⟨fun _ _ => trivial, ?_⟩
    rw [Oper.semAt_eq _ _ _ nd, h1]
    exact fin φ w y I.hp I.tr I.still (.refl φ) h2 (fun id hd => .inl hd)
  · -- a read
    rename_i f hk
    obtain ⟨nd, hrun, left, k, h1, h2, _⟩ := F2
    have hns : x.k ≠ .skip := by rw [hk]; simp
    obtain ⟨y, h3, h4⟩ := hrun φ k a w x.v (ov hns) (I.hp.toHRelR.ext h2) h1
    rw [if_pos (want.2 hns)]
    refine ⟨fun _ _ => trivial, ?_⟩
    rw [Oper.semAt_eq _ _ _ nd, h3]
    exact fin φ w y I.hp I.tr I.still (.refl φ) h4 (fun id hd => .inl hd)
  · -- an allocation
    rename_i id ob hk
    obtain ⟨nd, hrun, hob⟩ := F2
    have hns : x.k ≠ .skip := by rw [hk]; simp
    obtain ⟨g1, g2, g3⟩ := I.own x hx id ob hk
    obtain ⟨y, o', w', cap, sz, h1, h2, h3, h4, h5⟩ := hrun φ a w (ov hns) g1
    rw [if_pos (want.2 hns)]
    refine ⟨fun _ _ => trivial, ?_⟩
    rw [Oper.semAt_eq _ _ _ nd, h1]
    have H := I.hp.born (o' := o') (cap := cap) (sz := sz) g1 g3 (fun ob' h' => by rw [hob ob' h']; exact h4)
    have Tb := I.tr.born (o' := o') (cap := cap) (sz := sz) g1 g2
    rw [← h2] at H Tb
    exact fin _ w' y H Tb (I.still.trans h5) (φ.le_add _ _ _ _ _ g1) h3 (fun i hd => by
      rcases hd with rfl | hd
      · exact .inr ⟨ob, hk⟩
      · exact .inl hd)
  · -- not wanted
    rename_i hk
    rw [if_neg (fun c => want.1 c hk)]
    exact ⟨fun _ _ => trivial, fin φ w undef I.hp I.tr I.still (.refl φ) (by rw [F2]; exact skip_rel φ) (fun id hd => .inl hd)⟩
end
end Go.Proofs.YtjhionjmlcccjaaGreatDoor.Ev
namespace Go.Proofs.YtjhionjmlcccjaaGreatDoor.Ev
set_option linter.unusedVariables false
set_option linter.unusedSimpArgs false
open Go
theorem vLoc_ind : ∀ (st : List Tmp) (t : Tmp) (vs : List AVal) (ρ ρ' : T AVal), (vLoc t st).get vs ρ = (vLoc t st).get vs ρ'
  | [], t, vs, ρ, ρ' => rfl
  | d :: st, t, vs, ρ, ρ' => by
    unfold vLoc
    cases Nat.beq d t with
    | true => rfl
    | false => exact vLoc_ind st t (tlA vs) ρ ρ'
/-- a result is bound -/
theorem goK_bind {fi : FI} {dst : Option Tmp} {st : List Tmp} {next : StK} {r : Rt} {vs : List AVal} {e : Env} {h : Heap} {v : AVal} {outs : List (Env × Heap)} (hrun : (goK next (dkOf fi dst)).go r vs e h v = some outs) :
    (∀ d, dst = some d → d < fi.nt) ∧ ∃ vs' e', next.run r vs' e' h = some outs ∧ e'.defers = e.defers ∧
      ∀ t, (dst = some t → Sub ((vTmpS ⟨fi.glob, pushT fi.glob st dst, fi.rnd⟩ t).get vs' e'.tmps) v) ∧
        (dst ≠ some t → Sub ((vTmpS ⟨fi.glob, pushT fi.glob st dst, fi.rnd⟩ t).get vs' e'.tmps) ((vTmpS ⟨fi.glob, st, fi.rnd⟩ t).get vs e.tmps)) := by
  cases dst with
  | none => exact ⟨fun d h => (by cases h), vs, e, hrun, rfl, fun t => ⟨fun h => (by cases h), fun _ => .refl _⟩⟩
  | some d =>
    unfold dkOf at hrun
    simp only at hrun
    rw [blt_dec] at hrun
    by_cases hd : d < fi.nt
    · rw [decide_eq_true hd] at hrun
      simp only at hrun
      refine ⟨fun d' h => (by injection h with h; subst h; exact hd), ?_⟩
      cases hg : Nat.testBit fi.glob d with
      | true =>
        rw [hg] at hrun
        rw [show pushT fi.glob st (some d) = st from by simp only [pushT, hg]]
        refine ⟨vs, ⟨(sk dep d).set (some v) e.tmps, e.defers⟩, hrun, rfl, fun t => ?_⟩
        unfold vTmpS
        cases ht : Nat.testBit fi.glob t with
        | true =>
          show (some d = some t → Sub (dflt ((gk dep t).get ((sk dep d).set (some v) e.tmps))) v) ∧ (some d ≠ some t → Sub (dflt ((gk dep t).get ((sk dep d).set (some v) e.tmps))) (dflt ((gk dep t).get e.tmps)))
          cases hq : (gk dep t).get ((sk dep d).set (some v) e.tmps) with
          | none => exact ⟨fun _ => .inl rfl, fun _ => .inl rfl⟩
          | some y =>
            rcases sk_get (some v) dep d t e.tmps y hq with ⟨h1, h2⟩ | ⟨h1, h2⟩
            · injection h2 with h2; subst h2
              exact ⟨fun _ => .refl _, fun c => absurd (congrArg some h1.symm) c⟩
            · exact ⟨fun c => (by injection c with c; exact absurd c.symm h1), fun _ => by rw [h2]; exact .refl _⟩
        | false =>
          refine ⟨fun c => (by injection c with c; subst c; rw [hg] at ht; cases ht), fun _ => ?_⟩
          exact .inr (vLoc_ind _ _ _ _ _)
      | false =>
        rw [hg] at hrun
        rw [show pushT fi.glob st (some d) = d :: st from by simp only [pushT, hg]]
        refine ⟨v :: vs, e, hrun, rfl, fun t => ?_⟩
        unfold vTmpS
        cases ht : Nat.testBit fi.glob t with
        | true => exact ⟨fun c => (by injection c with c; subst c; rw [hg] at ht; cases ht), fun _ => .refl _⟩
        | false =>
          show (some d = some t → Sub ((vLoc t (d :: st)).get (v :: vs) e.tmps) v) ∧ (some d ≠ some t → Sub ((vLoc t (d :: st)).get (v :: vs) e.tmps) ((vLoc t st).get vs e.tmps))
          rw [show vLoc t (d :: st) = (match Nat.beq d t with | true => vHd | false => vTl (vLoc t st)) from rfl, beq_dec]
          by_cases hdt : d = t
          · rw [decide_eq_true hdt]
            exact ⟨fun _ => .refl _, fun c => absurd (congrArg some hdt) c⟩
          · rw [decide_eq_false hdt]
            exact ⟨fun c => (by injection c with c; exact absurd c hdt), fun _ => .refl _⟩
    · rw [decide_eq_false hd] at hrun
      cases hrun
def updV (V : Nat → AVal) (i : Nat) (v : AVal) : Nat → AVal := fun j => if j = i then v else V j
theorem updV_at (V : Nat → AVal) (i : Nat) (v : AVal) : updV V i v i = v := by simp [updV]
theorem updV_ne {V : Nat → AVal} {i : Nat} {v : AVal} {j : Nat} (h : j ≠ i) : updV V i v j = V j := by simp [updV, h]
section
variable {P : Program} {n₀ : Nat} {tt : TT} {fi : FI} {ops : Array Oper} {base : Nat → AVal} {φ₀ : Ren} {h₀ : Heap} {w₀ : World} {ed : List (AVal × List AVal)} {ad : List Deferred}
  {S D : Nat} {R : List (Nat × Nat)} {V : Nat → AVal} {T : List TE} {st : List Tmp} {vs : List AVal} {e : Env} {h : Heap} {pend : List Pend} {φ : Ren} {a : Act} {w : World}
/-- the evaluator's temporaries behind one more operation -/
theorem env_step (hdst : ∀ j o d, ops[j]? = some o → o.dst = some d → wrOf d ops.toList 0 = some j) (I : Inv P fi ops base φ₀ h₀ w₀ ed ad S D R V T st vs e h pend φ a w) {i : Nat} {o : Oper} (ho : ops[i]? = some o) (hi : D.testBit i = false) {v : AVal} {st' : List Tmp} {vs' : List AVal} {e' : Env}
    (hb : ∀ t, (o.dst = some t → Sub ((vTmpS ⟨fi.glob, st', fi.rnd⟩ t).get vs' e'.tmps) v) ∧ (o.dst ≠ some t → Sub ((vTmpS ⟨fi.glob, st', fi.rnd⟩ t).get vs' e'.tmps) ((vTmpS ⟨fi.glob, st, fi.rnd⟩ t).get vs e.tmps))) :
    (∀ t j, wrOf t ops.toList 0 = some j → (Nat.lor (bit1 i) D).testBit j = true → Sub ((vTmpS ⟨fi.glob, st', fi.rnd⟩ t).get vs' e'.tmps) (updV V i v j)) ∧
    (∀ t, (∀ j, wrOf t ops.toList 0 = some j → (Nat.lor (bit1 i) D).testBit j = false) → Sub ((vTmpS ⟨fi.glob, st', fi.rnd⟩ t).get vs' e'.tmps) (base t)) := by
  refine ⟨fun t j hj hD => ?_, fun t hn => ?_⟩
  · obtain ⟨oj, h1, h2⟩ := wrOf_dst hj
    rcases (sBit _ _ _).1 hD with rfl | hD
    · rw [ho] at h1; injection h1 with h1; subst h1
      rw [updV_at]; exact (hb t).1 h2
    · have hne : j ≠ i := fun c => by rw [c, hi] at hD; cases hD
      rw [updV_ne hne]
      refine ((hb t).2 fun c => ?_).trans (I.enW t j hj hD)
      have := hdst i o t ho c
      rw [hj] at this; injection this with this; exact hne this
  · refine ((hb t).2 fun c => ?_).trans (I.enB t fun j hj => ((sBitF _ _ _).1 (hn j hj)).2)
    have := hn i (hdst i o t ho c)
    exact absurd rfl ((sBitF _ _ _).1 this).1
/-- the operands of an operation of the plan, as they are when the evaluator comes to it -/
theorem opnd_now (I : Inv P fi ops base φ₀ h₀ w₀ ed ad S D R V T st vs e h pend φ a w) {i L : Nat} {o : Oper} (hk : OpOk ops.toList i D L (preds o.after.toList) o) :
    ∀ y ∈ o.op.operands, OpndF ops.toList base V D i (preds o.after.toList) (fun y => (vk ⟨fi.glob, st, fi.rnd⟩ y).get vs e.tmps) y := by
  intro y hy
  cases y with
  | tmp t =>
    show (∃ j, _ ∧ _ ∧ _ ∧ Sub ((vTmpS ⟨fi.glob, st, fi.rnd⟩ t).get vs e.tmps) (V j)) ∨ (Sub ((vTmpS ⟨fi.glob, st, fi.rnd⟩ t).get vs e.tmps) (base t) ∧ _)
    have ht : Operand.tmp t ∈ o.op.operands.toList := by simpa using hy
    cases hw : wrOf t ops.toList 0 with
    | none => exact .inr ⟨I.enB t (fun j hj => by rw [hw] at hj; cases hj), fun j hj => by cases hj⟩
    | some j =>
      rcases hk.opnd t ht j hw with h1 | h1
      · exact .inl ⟨j, rfl, h1, hk.pre j h1, I.enW t j hw (hk.pre j h1)⟩
      · refine .inr ⟨I.enB t fun j' hj' => ?_, fun j' hj' => ?_⟩
        · rw [hw] at hj'; injection hj' with hj'; subst hj'
          cases hD : D.testBit j with
          | false => rfl
          | true =>
            obtain ⟨oj, h2, _⟩ := wrOf_dst hw
            have h5 : ops.toList[j]? = some oj := by simpa using h2
            rw [nth_eq, h5] at h1
            have := I.dcl j oj i hD h2 h1
            rw [hk.new] at this; cases this
        · injection hj' with hj'; subst hj'; exact h1
  | const v => exact fun φ a => ofConst_rel φ v
  | global g => exact fun φ a => .junk _
  | func f => exact fun φ a => .func _ _ _ _ _ _ rfl .nil .nil
end
end Go.Proofs.YtjhionjmlcccjaaGreatDoor.Ev
namespace Go.Proofs.YtjhionjmlcccjaaGreatDoor.Ev
set_option linter.unusedVariables false
set_option linter.unusedSimpArgs false
open Go
section
variable {P : Program} {n₀ : Nat} {tt : TT} {fi : FI} {ops : Array Oper} {base : Nat → AVal} {φ₀ : Ren} {h₀ : Heap} {w₀ : World} {ed : List (AVal × List AVal)} {ad : List Deferred}
  {S D : Nat} {R : List (Nat × Nat)} {V : Nat → AVal} {T : List TE} {st : List Tmp} {vs : List AVal} {e : Env} {h : Heap} {pend : List Pend} {φ : Ren} {a : Act} {w : World}
/-- an operation without effect is done by the evaluator alone -/
theorem stepD_te {sl : SL} {o : Oper} {K : OpK} (hk : KOK P sl o K) (hE : isE K = false) {d : Nat} {k : NK} {call : Callee' → List AVal → Heap → M AVal} {outs : List (Env × Heap)} (hrun : (stepD d k K).run ⟨call, pend⟩ vs e h = some outs) (i : Nat) (R : List (Nat × Nat)) :
    ∃ v h' pend' tk, k.go ⟨call, pend'⟩ vs e h' v = some outs ∧ tk ≠ .skip ∧ ((h' = h ∧ ∀ id ob, tk ≠ .own id ob) ∨ ∃ ob, h' = h.alloc ob ∧ tk = .own h.next ob) ∧ (∀ q ∈ pend, q ∈ pend') ∧
      KF P h' pend' ((i, d) :: R) ⟨i, o, v, fun y => (vk sl y).get vs e.tmps, tk⟩ := by
  cases K with
  | p f =>
    have hrun : nStep k ⟨call, pend⟩ vs e h (f vs e.tmps) = some outs := hrun
    cases hf : f vs e.tmps with
    | none => rw [hf] at hrun; cases hrun
    | some v =>
      rw [hf] at hrun
      rcases hk with hk | ⟨nd, hk⟩
      · rw [hk] at hf; cases hf
      · exact ⟨v, h, pend, .pure, hrun, by simp, .inl ⟨rfl, by simp⟩, fun q hq => hq, nd, fun φ a w ho => hk φ vs e.tmps a w v ho hf⟩
  | n f =>
    obtain ⟨nd, hk⟩ := hk
    have fact : ∀ (φ : Ren) (hh : Heap) (a : Act) (w : World) (u : AVal), OV φ (fun y => (vk sl y).get vs e.tmps) a o → HRelR P φ hh w.heap → f vs e.tmps hh = some u → ∃ y, (execOp a.eval o).run P w = .ok (.value y) w ∧ VRel φ u y :=
      fun φ hh a w u ho H hf => hk φ hh vs e.tmps a w u ho H hf
    cases d with
    | zero =>
      have hrun : nStep k ⟨call, pend⟩ vs e h (f vs e.tmps h) = some outs := hrun
      cases hf : f vs e.tmps h with
      | none => rw [hf] at hrun; cases hrun
      | some v =>
        rw [hf] at hrun
        exact ⟨v, h, pend, .read (f vs e.tmps), hrun, by simp, .inl ⟨rfl, by simp⟩, fun q hq => hq, nd, fact, 0, h, hf, .refl h, by simp, .inl rfl⟩
    | succ d =>
      have hrun : nStepD (Nat.succ d) k ⟨call, pend⟩ vs e h (f vs e.tmps) (f vs e.tmps h) = some outs := hrun
      cases hf : f vs e.tmps h with
      | none => rw [hf] at hrun; cases hrun
      | some v =>
        rw [hf] at hrun
        exact ⟨v, h, ⟨f vs e.tmps, v, d + 1⟩ :: pend, .read (f vs e.tmps), hrun, by simp, .inl ⟨rfl, by simp⟩, fun q hq => by simp [hq], nd, fact, d + 1, h, hf, .refl h, by simp, .inr (by simp)⟩
  | u f =>
    have hrun : nStep k ⟨call, pend⟩ vs e h (ob (f vs e.tmps) noOpen) = some outs := hrun
    cases hf : ob (f vs e.tmps) noOpen with
    | none => rw [hf] at hrun; cases hrun
    | some v =>
      rw [hf] at hrun
      obtain ⟨v0, h1, h2⟩ := ob_some hf
      have : v0 = v := by
        unfold noOpen at h2
        split at h2
        · cases h2
        · injection h2
      subst this
      obtain ⟨nd, hk⟩ := hk
      exact ⟨v0, h, pend, .pure, hrun, by simp, .inl ⟨rfl, by simp⟩, fun q hq => hq, nd, fun φ a w ho => hk φ vs e.tmps a w v0 ho h1⟩
  | a f =>
    have hrun : aStep k ⟨call, pend⟩ vs e h (f vs e.tmps h.next) = some outs := hrun
    cases hf : f vs e.tmps h.next with
    | none => rw [hf] at hrun; cases hrun
    | some x =>
      rw [hf] at hrun
      obtain ⟨ob, v⟩ := x
      obtain ⟨nd, hk⟩ := hk
      refine ⟨v, h.alloc ob, pend, .own h.next ob, hrun, by simp, .inr ⟨ob, rfl, rfl⟩, fun q hq => hq, nd, fun φ a w ho hd => hk φ vs e.tmps a w h.next ob v ho hd hf, fun ob' h' => ?_⟩
      rw [Heap.alloc_objs] at h'
      rcases T.get_put h' with ⟨_, e1⟩ | ⟨e1, _⟩
      · exact e1
      · exact absurd rfl e1
  | e f => cases hE
  | d f => cases hrun
/-- one pending operation more -/
theorem add_te (hdst : ∀ j o d, ops[j]? = some o → o.dst = some d → wrOf d ops.toList 0 = some j) (I : Inv P fi ops base φ₀ h₀ w₀ ed ad S D R V T st vs e h pend φ a w) {i L d : Nat} {o : Oper} (ho : ops[i]? = some o)
    (hk : OpOk ops.toList i D L (preds o.after.toList) o) {v : AVal} {st' : List Tmp} {vs' : List AVal} {e' : Env} {h' : Heap} {pend' : List Pend} {tk : TK} (hlt : ∀ d, o.dst = some d → d < fi.nt)
    (hb : ∀ t, (o.dst = some t → Sub ((vTmpS ⟨fi.glob, st', fi.rnd⟩ t).get vs' e'.tmps) v) ∧ (o.dst ≠ some t → Sub ((vTmpS ⟨fi.glob, st', fi.rnd⟩ t).get vs' e'.tmps) ((vTmpS ⟨fi.glob, st, fi.rnd⟩ t).get vs e.tmps)))
    (hed : e'.defers = e.defers) (hh : (h' = h ∧ ∀ id ob, tk ≠ .own id ob) ∨ ∃ ob, h' = h.alloc ob ∧ tk = .own h.next ob) (hp : ∀ q ∈ pend, q ∈ pend')
    (kf : KF P h' pend' ((i, d) :: R) ⟨i, o, v, fun y => (vk ⟨fi.glob, st, fi.rnd⟩ y).get vs e.tmps, tk⟩)
    (hg : ∀ g, o.guard = some g → ∃ d, dstOf ops.toList g.1 = some d ∧ ((tk = .skip ∧ (V g.1 = .tuple [] ∨ ∃ b, V g.1 = .bool b ∧ b ≠ g.2)) ∨ (tk ≠ .skip ∧ V g.1 = .bool g.2)))
    (hng : o.guard = none → tk ≠ .skip) :
    Inv P fi ops base φ₀ h₀ w₀ ed ad S (Nat.lor (bit1 i) D) ((i, d) :: R) (updV V i v) (⟨i, o, v, fun y => (vk ⟨fi.glob, st, fi.rnd⟩ y).get vs e.tmps, tk⟩ :: T) st' vs' e' h' pend' φ a w := by
  have SD : ∀ j, S.testBit j = true → D.testBit j = true := fun j hj => (I.dS j).2 (.inl hj)
  have hSi : S.testBit i = false := by
    cases hs : S.testBit i with
    | false => rfl
    | true => exact absurd (SD i hs) (by rw [hk.new]; simp)
  have DD : ∀ j, D.testBit j = true → (Nat.lor (bit1 i) D).testBit j = true := fun j hj => (sBit _ _ _).2 (.inr hj)
  have Dne : ∀ j, D.testBit j = true → j ≠ i := fun j hj c => by rw [c, hk.new] at hj; cases hj
  have VV : ∀ j, D.testBit j = true → updV V i v j = V j := fun j hj => updV_ne (Dne j hj)
  have hHT : HRel P φ h' w.heap ∧ Tr φ₀ h₀ w₀.heap φ h' w.heap ∧ h.next ≤ h'.next ∧ Grw h h' ∧ (∀ id ob, id < h.next → h'.objs.get id = some ob → h.objs.get id = some ob) := by
    rcases hh with ⟨rfl, _⟩ | ⟨ob, rfl, _⟩
    · exact ⟨I.hp, I.tr, Nat.le_refl _, .refl _, fun _ _ _ h => h⟩
    · refine ⟨I.hp.pend ob, I.tr.trans (Tr.pend I.hp ob), by rw [Heap.alloc_next]; exact Nat.le_succ _, .alloc I.hp.top ob, fun id ob' hl hob => ?_⟩
      rw [Heap.alloc_objs, Ev.T.get_put_ne (Nat.ne_of_lt hl)] at hob
      exact hob
  obtain ⟨hH, hT, hnx, hgr, hold⟩ := hHT
  obtain ⟨e1, e2⟩ := env_step hdst I ho hk.new hb
  refine ⟨hH, hT, I.still, I.nt, hed.trans I.ed, I.ad, fun t j hj hs => by rw [VV j (SD j hs)]; exact I.mfW t j hj hs, I.mfB, e1, e2, fun x hx => ?_, fun x hx => ?_, fun x hx => ?_, ?_, fun x hx id ob hxk => ?_, ?_, fun j => ?_, I.cl, fun j o' m hj ho' hm => ?_⟩
  · rcases List.mem_cons.1 hx with rfl | hx
    · refine ⟨ho, updV_at _ _ _, (sBit _ _ _).2 (.inl rfl), hlt, fun g hgg => ?_, hng, fun _ y hy => (opnd_now I hk y hy).mono DD VV⟩
      have hgD := hk.pre _ (hk.guard g hgg)
      obtain ⟨dd, g1, g2⟩ := hg g hgg
      exact ⟨hk.guard g hgg, DD _ hgD, dd, g1, by rw [VV _ hgD]; exact g2⟩
    · exact (I.tf x hx).mono DD VV
  · rcases List.mem_cons.1 hx with rfl | hx
    · exact kf
    · have F := I.kf x hx
      have O := I.own x hx
      revert F O
      unfold KF
      cases x.k with
      | pure => exact fun F _ => F
      | read f =>
        rintro ⟨nd, f1, left, k, f2, f3, f4, f5⟩ _
        exact ⟨nd, f1, left, k, f2, f3.trans hgr, by simp [f4], f5.imp id (hp _)⟩
      | own id ob =>
        rintro ⟨nd, f1, f2⟩ O
        exact ⟨nd, f1, fun ob' hob => f2 ob' (hold id ob' (O id ob rfl).2.2 hob)⟩
      | skip => exact fun F _ => F
  · rcases List.mem_cons.1 hx with rfl | hx
    · exact hSi
    · exact I.tS x hx
  · refine List.pairwise_cons.2 ⟨fun x hx => ?_, I.tnd⟩
    exact (Dne _ (I.tf x hx).inD).symm
  · rcases List.mem_cons.1 hx with rfl | hx
    · have hxk : tk = .own id ob := hxk
      rcases hh with ⟨_, h1⟩ | ⟨ob', h1, h2⟩
      · exact absurd hxk (h1 id ob)
      · rw [h2] at hxk; injection hxk with e1 e2
        subst e1
        exact ⟨I.hp.fresh, I.tr.next, by rw [h1, Heap.alloc_next]; exact Nat.lt_succ_self _⟩
    · obtain ⟨g1, g2, g3⟩ := I.own x hx id ob hxk
      exact ⟨g1, g2, Nat.lt_of_lt_of_le g3 hnx⟩
  · refine List.pairwise_cons.2 ⟨fun x hx id ob id' ob' k1 k2 => ?_, I.ond⟩
    have k1 : tk = .own id ob := k1
    rcases hh with ⟨_, h1⟩ | ⟨ob2, h1, h2⟩
    · exact absurd k1 (h1 id ob)
    · rw [h2] at k1; injection k1 with e1 e2
      have := (I.own x hx id' ob' k2).2.2
      omega
  · rw [sBit, I.dS]
    constructor
    · rintro (h1 | h1 | ⟨x, h1, h2⟩)
      · exact .inr ⟨_, List.mem_cons_self, h1⟩
      · exact .inl h1
      · exact .inr ⟨x, List.mem_cons_of_mem _ h1, h2⟩
    · rintro (h1 | ⟨x, h1, h2⟩)
      · exact .inr (.inl h1)
      · rcases List.mem_cons.1 h1 with rfl | h1
        · exact .inl h2
        · exact .inr (.inr ⟨x, h1, h2⟩)
  · rcases (sBit _ _ _).1 hj with rfl | hj
    · rw [ho] at ho'; injection ho' with ho'; subst ho'
      exact DD m (hk.pre m hm)
    · exact DD m (I.dcl j o' m hj ho' hm)
end
end Go.Proofs.YtjhionjmlcccjaaGreatDoor.Ev
namespace Go.Proofs.YtjhionjmlcccjaaGreatDoor.Ev
set_option linter.unusedVariables false
set_option linter.unusedSimpArgs false
open Go
section
variable {P : Program} {n₀ : Nat} {tt : TT} {fi : FI} {ops : Array Oper} {base : Nat → AVal} {φ₀ : Ren} {h₀ : Heap} {w₀ : World} {ed : List (AVal × List AVal)} {ad : List Deferred}
  {S D : Nat} {R : List (Nat × Nat)} {V : Nat → AVal} {T : List TE} {st : List Tmp} {vs : List AVal} {e : Env} {h : Heap} {pend : List Pend} {φ : Ren} {a : Act} {w : World}
theorem planK_cons {p : Nat × Nat} {l : List (Nat × Nat)} {o : Oper} (ho : ops[p.1]? = some o) :
    planK fi tt ops.toList (p :: l) st = operD2 ⟨fi.glob, st, fi.rnd⟩ ops.toList o p.2 (effO fi tt o) (goK (planK fi tt ops.toList l (pushT fi.glob st o.dst)) (dkOf fi o.dst)) (opK ⟨fi.glob, st, fi.rnd⟩ tt o.op) := by
  have : nth ops.toList p.1 = some o := by rw [nth_eq]; simpa using ho
  rw [planK, this]
  rfl
theorem operD2_some {sl : SL} {l : List Oper} {o : Oper} {d : Nat} {ef : Bool} {k : NK} {K : OpK} {r : Rt} {outs : List (Env × Heap)} (h1 : (operD2 sl l o d ef k K).run r vs e h = some outs) :
    isE K = ef ∧ ((o.guard = none ∧ (stepD d k K).run r vs e h = some outs) ∨ ∃ g, o.guard = some g ∧ (guardO sl l g (noD ef k) (stepD d k K)).run r vs e h = some outs) := by
  unfold operD2 at h1
  rw [eqBool_dec] at h1
  by_cases he : ef = isE K
  · rw [decide_eq_true he] at h1
    refine ⟨he.symm, ?_⟩
    cases hg : o.guard with
    | none => rw [hg] at h1; exact .inl ⟨rfl, h1⟩
    | some g => rw [hg] at h1; exact .inr ⟨g, rfl, h1⟩
  · rw [decide_eq_false he] at h1
    cases h1
/-- a guard, at the evaluator -/
theorem guardO_some {sl : SL} {l : List Oper} {g : Nat × Bool} {no : NK} {k : StK} {r : Rt} {outs : List (Env × Heap)} (h1 : (guardO sl l g no k).run r vs e h = some outs) :
    ∃ d, dstOf l g.1 = some d ∧ (((vTmpS sl d).get vs e.tmps = .bool g.2 ∧ k.run r vs e h = some outs) ∨
      (((vTmpS sl d).get vs e.tmps = .tuple [] ∨ ∃ b, (vTmpS sl d).get vs e.tmps = .bool b ∧ b ≠ g.2) ∧ no.go r vs e h skipA = some outs)) := by
  unfold guardO at h1
  split at h1
  · rename_i d hd
    refine ⟨d, hd, ?_⟩
    have h1 : guardRun g.2 no k r vs e h ((vTmpS sl d).get vs e.tmps) = some outs := h1
    generalize (vTmpS sl d).get vs e.tmps = gv at h1
    unfold guardRun at h1
    split at h1
    · rename_i b
      rw [eqBool_dec] at h1
      by_cases hb : b = g.2
      · rw [decide_eq_true hb] at h1
        exact .inl ⟨by rw [hb], h1⟩
      · rw [decide_eq_false hb] at h1
        exact .inr ⟨.inr ⟨b, rfl, hb⟩, h1⟩
    · split at h1
      · exact .inr ⟨.inl rfl, h1⟩
      · cases h1
    · cases h1
  · cases h1
theorem Sub.eq {u v : AVal} (h : Sub u v) (hn : u ≠ .junk) : v = u := by
  rcases h with h | h
  · exact absurd h hn
  · exact h.symm
/-- the plan goes on by an operation without effect -/
theorem adv_one (hT : TTok P tt) (hdst : ∀ j o d, ops[j]? = some o → o.dst = some d → wrOf d ops.toList 0 = some j) (I : Inv P fi ops base φ₀ h₀ w₀ ed ad S D R V T st vs e h pend φ a w) {p : Nat × Nat} {l : List (Nat × Nat)} {L : Nat} {o : Oper}
    (ho : ops[p.1]? = some o) (hk : OpOk ops.toList p.1 D L (preds o.after.toList) o) (he : effO fi tt o = false) {call : Callee' → List AVal → Heap → M AVal} {outs : List (Env × Heap)} (hrun : (planK fi tt ops.toList (p :: l) st).run ⟨call, pend⟩ vs e h = some outs) :
    ∃ V' x st' vs' e' h' pend', Inv P fi ops base φ₀ h₀ w₀ ed ad S (Nat.lor (bit1 p.1) D) ((p.1, p.2) :: R) V' (x :: T) st' vs' e' h' pend' φ a w ∧ (planK fi tt ops.toList l st').run ⟨call, pend'⟩ vs' e' h' = some outs := by
  rw [planK_cons ho, he] at hrun
  obtain ⟨hE, hrun⟩ := operD2_some hrun
  have hK : KOK P ⟨fi.glob, st, fi.rnd⟩ o (opK ⟨fi.glob, st, fi.rnd⟩ tt o.op) := opK_ok hT rfl
  have run_ : (∀ g, o.guard = some g → ∃ d, dstOf ops.toList g.1 = some d ∧ V g.1 = .bool g.2) → (stepD p.2 (goK (planK fi tt ops.toList l (pushT fi.glob st o.dst)) (dkOf fi o.dst)) (opK ⟨fi.glob, st, fi.rnd⟩ tt o.op)).run ⟨call, pend⟩ vs e h = some outs →
      ∃ V' x st' vs' e' h' pend', Inv P fi ops base φ₀ h₀ w₀ ed ad S (Nat.lor (bit1 p.1) D) ((p.1, p.2) :: R) V' (x :: T) st' vs' e' h' pend' φ a w ∧ (planK fi tt ops.toList l st').run ⟨call, pend'⟩ vs' e' h' = some outs := by
    intro hg hr
    obtain ⟨v, h', pend', tk, g1, g2, g3, g4, g5⟩ := stepD_te (P := P) hK hE hr p.1 R
    obtain ⟨b1, vs', e', b2, b3, b4⟩ := goK_bind g1
    exact ⟨_, _, _, vs', e', h', pend', add_te hdst I ho hk b1 b4 b3 g3 g4 g5 (fun g hgg => let ⟨d, q1, q2⟩ := hg g hgg; ⟨d, q1, .inr ⟨g2, q2⟩⟩) (fun _ => g2), b2⟩
  rcases hrun with ⟨hg, hrun⟩ | ⟨g, hg, hrun⟩
  · exact run_ (fun g hgg => by rw [hg] at hgg; cases hgg) hrun
  · obtain ⟨d, hd, hrun⟩ := guardO_some hrun
    have hgD := hk.pre _ (hk.guard g hg)
    obtain ⟨oj, hoj, hod⟩ : ∃ oj, ops[g.1]? = some oj ∧ oj.dst = some d := by
      have := dstOf_some hd
      cases hq : ops[g.1]? with
      | none => rw [hq] at this; cases this
      | some oj => rw [hq] at this; exact ⟨oj, rfl, this⟩
    have hs := I.enW d g.1 (hdst g.1 oj d hoj hod) hgD
    rcases hrun with ⟨h1, h2⟩ | ⟨h1, h2⟩
    · rw [h1] at hs
      exact run_ (fun g' hgg => by rw [hg] at hgg; injection hgg with hgg; subst hgg; exact ⟨d, hd, hs.eq (by simp)⟩) h2
    · obtain ⟨b1, vs', e', b2, b3, b4⟩ := goK_bind (show (goK (planK fi tt ops.toList l (pushT fi.glob st o.dst)) (dkOf fi o.dst)).go ⟨call, pend⟩ vs e h skipA = some outs from h2)
      refine ⟨_, _, _, vs', e', h, pend, add_te (tk := .skip) hdst I ho hk b1 b4 b3 (.inl ⟨rfl, by simp⟩) (fun q hq => hq) rfl (fun g' hgg => ?_) (fun c => by rw [hg] at c; cases c), b2⟩
      rw [hg] at hgg; injection hgg with hgg; subst hgg
      refine ⟨d, hd, .inl ⟨rfl, ?_⟩⟩
      rcases h1 with h1 | ⟨b, h1, h3⟩
      · rw [h1] at hs; exact .inl (hs.eq (by simp))
      · rw [h1] at hs; exact .inr ⟨b, hs.eq (by simp), h3⟩
/-- the plan goes on up to the next effect -/
theorem advance (hT : TTok P tt) (hdst : ∀ j o d, ops[j]? = some o → o.dst = some d → wrOf d ops.toList 0 = some j) {call : Callee' → List AVal → Heap → M AVal} {outs : List (Env × Heap)} :
    ∀ (l : List (Nat × Nat)) (D L : Nat) (R : List (Nat × Nat)) (V : Nat → AVal) (T : List TE) (st : List Tmp) (vs : List AVal) (e : Env) (h : Heap) (pend : List Pend), Inv P fi ops base φ₀ h₀ w₀ ed ad S D R V T st vs e h pend φ a w →
      planWalk ops.toList (effO fi tt) l D L R = true → (planK fi tt ops.toList l st).run ⟨call, pend⟩ vs e h = some outs →
      ∃ l' D' L' R' V' T' st' vs' e' h' pend', Inv P fi ops base φ₀ h₀ w₀ ed ad S D' R' V' T' st' vs' e' h' pend' φ a w ∧ planWalk ops.toList (effO fi tt) l' D' L' R' = true ∧ (planK fi tt ops.toList l' st').run ⟨call, pend'⟩ vs' e' h' = some outs ∧
        T'.length + l'.length = T.length + l.length ∧ (l' = [] ∨ ∃ p l2 o, l' = p :: l2 ∧ ops[p.1]? = some o ∧ effO fi tt o = true)
  | [], D, L, R, V, T, st, vs, e, h, pend, I, hw, hr => ⟨[], D, L, R, V, T, st, vs, e, h, pend, I, hw, hr, rfl, .inl rfl⟩
  | p :: l, D, L, R, V, T, st, vs, e, h, pend, I, hw, hr => by
    obtain ⟨o, ho, hk, hw2⟩ := walk_cons hw
    have ho' : ops[p.1]? = some o := by simpa using ho
    rcases hw2 with ⟨he, _⟩ | ⟨he, hw2⟩
    · exact ⟨p :: l, D, L, R, V, T, st, vs, e, h, pend, I, hw, hr, rfl, .inr ⟨p, l, o, rfl, ho', he⟩⟩
    · obtain ⟨V', x, st', vs', e', h', pend', I', hr'⟩ := adv_one hT hdst I ho' hk he hr
      obtain ⟨l2, D2, L2, R2, V2, T2, st2, vs2, e2, h2, pend2, q1, q2, q3, q4, q5⟩ := advance hT hdst l _ _ _ _ _ _ _ _ _ _ I' hw2 hr'
      exact ⟨l2, D2, L2, R2, V2, T2, st2, vs2, e2, h2, pend2, q1, q2, q3, by rw [q4]; simp; omega, q5⟩
end
end Go.Proofs.YtjhionjmlcccjaaGreatDoor.Ev
