/- An evaluator over abstract values and the proof that what it reckons is what the model's calls do: part 10 of 10. -/
import Derived.Test.YtcbacbfjjahcbaaGreatDoorEvI
import Derived.Laws.Externs
import Derived.Lib.Bytealg
import Derived.Lib.MakeNoZero
import Derived.RecoverIn
import Derived.Lib.Overlaps
import Derived.Lib.IndexMore
namespace Go.Proofs.YtcbacbfjjahcbaaGreatDoor.Ev
set_option linter.unusedVariables false
set_option linter.unusedSimpArgs false
open Go
theorem callsDIn_W {n n' : Nat} {P : Program} {f : FuncId} {args : Array Value} {u : FrameMode} {w : World} {R : Ending → FrameMode → World → Prop} (h : CallsDIn (W none) n P f args u w R) : CallsDIn (W none) n' P f args u w R :=
  ⟨trivial, fun c cs hu _ => h.2 c cs hu (W_room _ _)⟩
/-- a block that came behind the beginning changes -/
theorem Tr.late {φ₀ φ : Ren} {h₀ h : Heap} {hp₀ hp hq : Array Obj} (t : Tr φ₀ h₀ hp₀ φ h hp) {b : Nat} {o : Obj} (hb : hp₀.size ≤ b) (U : Upd hp hq b o) : Tr φ₀ h₀ hp₀ φ h hq :=
  ⟨t.le, t.next, t.dom, by rw [U.size]; exact t.size, fun k hk hno => by rw [U.other k (by omega)]; exact t.keep k hk hno, t.new, t.stay⟩
section
variable {P : Program} {tt : TT} {pg : Pg}
theorem leaves_ok (hT : TTok P tt) {dn : T Unit} (hdn : ∀ f, dn.get f = some () → DNop P f) {fn : Func} {glob n₀ : Nat} {φ₀ : Ren} {h₀ : Heap} {w₀ : World} (hn : n₀ = w₀.heap.size) {φ : Ren} {ρ : T AVal} {h : Heap} {tmps : Array Value} (ht : TmRel φ glob ρ tmps) {vs : List AVal} (hv : resL glob tt ρ h fn.results.toList = some vs) {outs : List (AVal × Heap)} (ho : (packR vs, h) ∈ outs) :
    ∀ (ds : List Deferred) (eds : List (AVal × List AVal)) (w : World), DRel n₀ φ h w.heap eds ds → defersOk dn eds = some () → HRel P φ h w.heap → Tr φ₀ h₀ w₀.heap φ h w.heap → Still w₀ w →
      LeavesInM (W none) 0 P fn tmps (endR (Good P φ₀ h₀ w₀ outs)) ds .returning w
  | [], eds, w, _, _, H, t, s => by
    obtain ⟨y, h1, h2⟩ := results_ok hT ht hv H.toHRelR
    exact ⟨y, h1, φ, _, ho, H, t, h2, s⟩
  | d :: ds, eds, w, D, hd, H, t, s => by
    refine ⟨by simp, ?_⟩
    rcases D with ⟨r, g1, g2, g3, g4⟩ | ⟨x, eds', g1, g2, g3, g4⟩
    · left
      have hget := rGetObj (P := P) g2.2.1 (by intro _ _ _ e; cases e)
      have hset := rSetObj (P := P) (o2 := .deferred none) g2.2.1 (by intro _ _ _ e; cases e)
      have U := setObj_upd (o2 := .deferred none) g2.2.1
      refine ⟨r, { w with heap := w.heap.setIfInBounds r (.deferred none) }, g1, ?_, ?_⟩
      · simp only [Instr.takeDeferred, Sem.run_bind, hget, Result.andThen_ok, hset, Sem.run_pure]
      · have H2 : HRel P φ h (w.heap.setIfInBounds r (.deferred none)) := H.other (b := r) (Nat.le_of_eq U.size.symm) (fun k hk _ => U.other k hk) g2.2.2 (fun hc => by
          obtain ⟨m, cc, et, fz, k1, k2⟩ := (H.fix r hc).1
          rw [g2.2.1] at k1; cases k1)
        have D2 : ∀ {eds : List (AVal × List AVal)} {ds : List Deferred}, (∀ d' ∈ ds, d'.target ≠ .collected r) → DRel n₀ φ h w.heap eds ds → DRel n₀ φ h (w.heap.setIfInBounds r (.deferred none)) eds ds := by
          intro eds ds
          induction ds generalizing eds with
          | nil => exact fun _ h => h
          | cons d ds ih =>
            intro hne hd
            rcases hd with ⟨q, k1, k2, k3, k4⟩ | ⟨x, eds', k1, k2, k3, k4⟩
            · refine .inl ⟨q, k1, ⟨k2.1, ?_, k2.2.2⟩, k3, ih (fun d' hd' => hne d' (List.mem_cons_of_mem _ hd')) k4⟩
              rw [U.other q (fun e => hne d List.mem_cons_self (by rw [k1, e]))]
              exact k2.2.1
            · exact .inr ⟨x, eds', k1, k2, k3, ih (fun d' hd' => hne d' (List.mem_cons_of_mem _ hd')) k4⟩
        exact leaves_ok hT hdn hn ht hv ho ds eds { w with heap := w.heap.setIfInBounds r (.deferred none) } (D2 g3 g4) hd H2 (t.late (by rw [← hn]; exact g2.1) U) ⟨s.os, s.out⟩
    · right
      subst g1
      obtain ⟨_, hd1, hd2⟩ := ob_some (show ob (deferOk dn x.1) (fun _ => defersOk dn eds') = some () from hd)
      obtain ⟨xv, xl⟩ := x
      have hd1 : deferOk dn xv = some _ := hd1
      unfold deferOk at hd1
      split at hd1
      case h_2 => cases hd1
      rename_i ga gb gfn
      split at hd1
      case h_2 => cases hd1
      rename_i f
      have hdf : dn.get f = some () := hd1
      obtain ⟨cap, hcap⟩ := g2 f ga gb rfl
      have N := hdn f hdf
      refine ⟨fun h => (by cases h), .func f, cap, f, d.args ++ cap, hcap, ?_, fun _ _ => trivial, ?_⟩
      · rw [hcap]; exact N.enter _ _
      · refine callsDIn_W ((N.go (d.args ++ cap) w).mono fun e u' w' he => ?_)
        obtain ⟨⟨v, rfl⟩, rfl, h3, h4⟩ := he
        exact leaves_ok hT hdn hn ht hv ho ds eds' w' (by rw [h3]; exact g4) hd2 (by rw [h3]; exact H) (by rw [h3]; exact t) (s.trans h4)
theorem body_ok (G : PgOK P pg) {r : Rt} (hr : RtOK P r.call) (hb : BodyOK P r.call) {f : FuncId} {fn : Func} {c : Code} (hf : pg.funcs.get f = some fn) (hbd : fn.body = some c) {fi : FI} (hnt : fi.nt = fn.ntmps) {φ : Ren} {h : Heap} {w : World} {args : List AVal} {args' : Array Value} {outs : List (AVal × Heap)}
    (hrun : (fBody pg.dnop fi.glob pg.types (codeK fi pg.types c) fn.results.toList).run r args h = some outs) (ha : VRelL φ args args'.toList) (H : HRel P φ h w.heap) : CallsIn (W none) 0 P f args' w (endR (Good P φ h w outs)) := by
  obtain ⟨l, h1, h2⟩ := bindM_some (show bindM ((codeK fi pg.types c).run r ⟨T.ofList args, []⟩ h) (finish pg.dnop fi.glob pg.types fn.results.toList) = some outs from hrun)
  refine callsIn_of_wp_marks (G.funcs f fn hf) hbd trivial ?_
  have S : SRel P w.heap.size φ fi.glob fi.nt ⟨T.ofList args, []⟩ h { tmps := args' ++ Array.replicate (fn.ntmps - args'.size) undef, defers := [] } w := by
    refine ⟨fun t v hv _ => ?_, by rw [hnt]; simp; omega, rfl, H⟩
    have hv := T.get_ofList hv
    obtain ⟨x, hx, hr⟩ := ha.get t v hv
    have hlt : t < args'.size := by simpa using (List.getElem?_eq_some_iff.1 hx).1
    have hx2 : args'[t]? = some x := by simpa using hx
    rw [Array.getD_eq_getD_getElem?, Array.getElem?_append_left hlt, hx2]
    exact hr
  refine code_ok (n₀ := w.heap.size) G.types (ro := none) (.inl rfl) hr hb c ⟨T.ofList args, []⟩ h φ _ w l _ h1 S (Nat.le_refl _) fun ψ x a' w' hx hS ht hst => ?_
  obtain ⟨o, h3, h4⟩ := h2 x hx
  obtain ⟨⟨ex, e'⟩, h'⟩ := x
  have fin : ex ≠ .exit 0 ∨ True → ob (defersOk pg.dnop e'.defers) (fun _ => resOf fi.glob pg.types fn.results.toList e' h') = some o → LeavesInM (W none) 0 P fn a'.tmps (endR (Good P φ h w outs)) a'.defers .returning w' := by
    intro _ h5
    obtain ⟨_, h6, h7⟩ := ob_some h5
    have h7 : (match resL fi.glob pg.types e'.tmps h' fn.results.toList with | some vs => ret1 (packR vs) h' | none => none) = some o := h7
    cases hv : resL fi.glob pg.types e'.tmps h' fn.results.toList with
    | none => rw [hv] at h7; cases h7
    | some vs =>
      rw [hv] at h7
      have h7 : some [(packR vs, h')] = some o := h7
      injection h7 with h7
      exact leaves_ok G.types G.dnop rfl hS.tm hv (h4 _ (by rw [← h7]; exact List.mem_singleton.2 rfl)) a'.defers e'.defers w' hS.df h6 hS.hp ht hst
  cases ex with
  | exit id => cases h3
  | normal => exact fin (.inr trivial) h3
  | ret => exact fin (.inr trivial) h3
/-- every call is sound -/
theorem call_ok (G : PgOK P pg) : ∀ n, RtOK P (call pg n) ∧ BodyOK P (call pg n)
  | 0 => ⟨⟨fun f φ h w args args' outs hc => (by cases hc), fun l φ h w args args' outs _ hc => (by cases hc)⟩, fun f φ h w args args' outs hc => (by cases hc)⟩
  | n + 1 => by
    obtain ⟨ih1, ih2⟩ := call_ok G n
    have fkr : ∀ (f : FuncId) (fn : Func) (c : Code) (φ : Ren) (h : Heap) (w : World) (args : List AVal) (args' : Array Value) (outs : List (AVal × Heap)), pg.funcs.get f = some fn → fn.body = some c → (pg.fk f).run ⟨call pg n, []⟩ args h = some outs → VRelL φ args args'.toList → HRel P φ h w.heap →
        CallsIn (W none) 0 P f args' w (endR (Good P φ h w outs)) := by
      intro f fn c φ h w args args' outs hf hb hrun ha H
      unfold Pg.fk at hrun
      rw [hf] at hrun
      have hk : fnK pg.dnop (fiOf fn.ntmps (pg.marks.get f) (pg.infos.get f)) pg.types fn (pg.exts.get f) = fBody pg.dnop (fiOf fn.ntmps (pg.marks.get f) (pg.infos.get f)).glob pg.types (codeK (fiOf fn.ntmps (pg.marks.get f) (pg.infos.get f)) pg.types c) fn.results.toList := by
        unfold fnK; rw [hb]
      have hrun : (withSum (fnK pg.dnop (fiOf fn.ntmps (pg.marks.get f) (pg.infos.get f)) pg.types fn (pg.exts.get f)) (pg.sums.get f)).run ⟨call pg n, []⟩ args h = some outs := hrun
      rw [hk] at hrun
      have hnt : (fiOf fn.ntmps (pg.marks.get f) (pg.infos.get f)).nt = fn.ntmps := by unfold fiOf; split <;> rfl
      cases hs : pg.sums.get f with
      | none =>
        rw [hs] at hrun
        exact body_ok G ih1 ih2 hf hb hnt hrun ha H
      | some s =>
        rw [hs] at hrun
        have hrun : sumRun s _ ⟨call pg n, []⟩ args h = some outs := hrun
        unfold sumRun at hrun
        split at hrun
        · rename_i v hv
          have hrun : some [(v, h)] = some outs := hrun
          injection hrun with hrun
          refine CallsIn.mono ((G.sums f fn s hf hs).2 args v φ args' w hv ha fun b hb => (H.fix b hb).1) (endR_mono fun x w' ⟨h1, h2⟩ => ?_)
          obtain ⟨g1, g2⟩ := H.same h2
          exact ⟨φ, (v, h), by rw [← hrun]; exact List.mem_singleton.2 rfl, g1, g2, h1, h2.still⟩
        · exact body_ok G ih1 ih2 hf hb hnt hrun ha H
    have fnr : ∀ (f : FuncId) (φ : Ren) (h : Heap) (w : World) (args : List AVal) (args' : Array Value) (outs : List (AVal × Heap)), (pg.fk f).run ⟨call pg n, []⟩ args h = some outs → VRelL φ args args'.toList → HRel P φ h w.heap → Res P (Good P φ h w outs) ((callFunc f args').run P w) := by
      intro f φ h w args args' outs hc ha H
      cases hf : pg.funcs.get f with
      | none => unfold Pg.fk at hc; rw [hf] at hc; cases hc
      | some fn =>
        cases hb : fn.body with
        | some c =>
          rw [G.enter hf (by rw [hb]; rfl)]
          exact fkr f fn c φ h w args args' outs hf hb hc ha H
        | none =>
          unfold Pg.fk at hc
          rw [hf] at hc
          have hc : (withSum (fnK pg.dnop (fiOf fn.ntmps (pg.marks.get f) (pg.infos.get f)) pg.types fn (pg.exts.get f)) (pg.sums.get f)).run ⟨call pg n, []⟩ args h = some outs := hc
          cases hs : pg.sums.get f with
          | some s => have := (G.sums f fn s hf hs).1; rw [hb] at this; cases this
          | none =>
            rw [hs] at hc
            have hc : (fnK pg.dnop (fiOf fn.ntmps (pg.marks.get f) (pg.infos.get f)) pg.types fn (pg.exts.get f)).run ⟨call pg n, []⟩ args h = some outs := hc
            unfold fnK at hc
            rw [hb] at hc
            cases hx : pg.exts.get f with
            | none => rw [hx] at hc; cases hc
            | some x =>
              rw [hx] at hc
              exact G.exts f fn x hf hb hx φ h w args args' outs hc ha H
    refine ⟨⟨fun f φ h w args args' outs hc ha H => ?_, fun l φ h w args args' outs hd hc ha H => round_ok G.types ih1 ih2 hd hc ha H⟩, fun f φ h w args args' outs hc ha H => ?_⟩
    · have hc : withFr args h (withCP args h (mergeIf (Nat.testBit (markOf (pg.marks.get f)) 0) (padM (pg.pads.get f) h.next ((pg.fk f).run ⟨call pg n, []⟩ args (alignH h (pg.aligns.get f))))) (pg.cps.get f)) (pg.frs.get f) = some outs := hc
      rcases withFr_some hc with hc | ⟨l, c, k1, k2, k3, k4, k5⟩
      · rcases withCP_some hc with hc | ⟨l, c, k1, k2, k3, k4, k5⟩
        · obtain ⟨l, h1, h2⟩ := mergeIf_some hc
          obtain ⟨l2, h3, h4⟩ := padM_some h1
          have A := alignH_less h (pg.aligns.get f)
          exact Res.mono (fun v w' g => ((g.from A).less fun r hr => let ⟨r', a1, a2, a3⟩ := h4 r hr; ⟨r', a1, a2, a3⟩).less h2) (fnr f φ _ w args args' l2 h3 ha (H.less A))
        · obtain ⟨fn, hf, hb, hk⟩ := G.cps f l c k1 k2
          subst k5; subst k3
          rw [G.enter hf hb]
          exact CallsIn.mono (hk φ args' w ha (H.less k4)) (endR_mono fun x w' g => g.from k4)
      · obtain ⟨fn, hf, hb, hk⟩ := G.frs f l c k1 k2
        subst k5; subst k3
        rw [G.enter hf hb]
        exact CallsIn.mono (hk φ args' w ha (H.less k4)) (endR_mono fun x w' g => g.frame k4 H)
    · obtain ⟨h1, h2⟩ := when_some (show when (hasBody (pg.funcs.get f)) ((pg.fk f).run ⟨call pg n, []⟩ args h) = some outs from hc)
      cases hf : pg.funcs.get f with
      | none => rw [hf] at h1; cases h1
      | some fn =>
        rw [hf] at h1
        cases hb : fn.body with
        | none =>
          have h1 : (match fn.body with | some _ => true | none => false) = true := h1
          rw [hb] at h1; cases h1
        | some c => exact ⟨G.enter hf (by rw [hb]; rfl) _ _, fkr f fn c φ h w args args' outs hf hb h2 ha H⟩
end
end Go.Proofs.YtcbacbfjjahcbaaGreatDoor.Ev
namespace Go.Proofs.YtcbacbfjjahcbaaGreatDoor.Ev
set_option linter.unusedVariables false
set_option linter.unusedSimpArgs false
open Go

/-! ## the table of types, out of the program -/
def fldOf (f : Field) : Nat × TypeId × Bool := (f.offset, f.type, decide (f.name ≠ "_"))
def mkTD : TypeDesc → TD
  | .bool => .bool
  | .int k => .int k
  | .string => .str
  | .pointer e => .ptr e
  | .slice e => .slice e
  | .array n e => .arr n e
  | .map k e => .map k e
  | .struct fs => .struct (mapL fldOf fs.toList)
  | .func _ _ _ => .func
  | .interface ms => .iface ms.isEmpty
  | .unsafePointer => .uptr
  | _ => .other
def stepOf (s : FieldStep) : Nat × Bool := (s.index, s.deref)
def methOf (m : Method) : String × List (Nat × Bool) × Option (FuncId × Bool) := (m.name, mapL stepOf m.path.toList, m.func)
def fldsOk (P : Program) : TypeDesc → Bool
  | .struct fs => allB (fun f => (P.info? f.type).isSome) fs.toList
  | _ => true
def mkTI2 (P : Program) (t : TypeId) (inf : TypeInfo) (desc : TypeDesc) (z : Value) : Option TI :=
  when (allB flatV z.cells.toList) <| when (Nat.beq z.cells.toList.length inf.size) <| when (Nat.ble inf.bytes 1000000) <| when (fldsOk P desc) <|
    some { desc := mkTD desc, size := inf.size, agg := isAggD desc, zero := ofConst z, zc := mapL ofCell z.cells.toList, cmp := inf.comparable,
           eqs := andB (isAggD desc) (andB (notB (P.stoodInHeld t)) (notB (P.eqGuardType P.depth t))), meths := mapL methOf inf.methods.toList }
def mkTI (P : Program) (t : TypeId) : Option TI := ob (P.info? t) fun inf => ob (P.underlying t) fun desc => ob inf.zero fun z => mkTI2 P t inf desc z
theorem mapL_eq {α β : Type} (f : α → β) : ∀ l : List α, mapL f l = l.map f
  | [] => rfl
  | a :: l => by simp [mapL, mapL_eq f l]
theorem mkTD_rel (d : TypeDesc) : TDRel (mkTD d) d := by
  cases d <;> first
    | rfl
    | exact ⟨_, rfl, mapL_eq _ _⟩
    | exact ⟨_, _, _, rfl⟩
    | exact ⟨_, rfl, rfl⟩
    | exact ⟨fun k h => (by cases h), fun e h => (by cases h)⟩
theorem findM_of (name : String) : ∀ (l : List Method) (f : FuncId) (p : Bool), findM name (mapL methOf l) = some ([], some (f, p)) → ∃ m, l.find? (fun x => x.name == name) = some m ∧ m.path = #[] ∧ m.func = some (f, p)
  | [], f, p, h => by cases h
  | m :: l, f, p, h => by
    have h : (match decide (m.name = name) with | true => some (mapL stepOf m.path.toList, m.func) | false => findM name (mapL methOf l)) = some ([], some (f, p)) := h
    by_cases hn : m.name = name
    · rw [decide_eq_true hn] at h
      injection h with h
      injection h with h1 h2
      refine ⟨m, by simp [hn], ?_, h2⟩
      rw [mapL_eq] at h1
      exact Array.toList_inj.1 (by simpa using h1)
    · rw [decide_eq_false hn] at h
      obtain ⟨m', h1, h2⟩ := findM_of name l f p h
      exact ⟨m', by rw [List.find?_cons_of_neg (by simpa using hn)]; exact h1, h2⟩
theorem mkTI_ok {P : Program} {t : TypeId} {i : TI} (h : mkTI P t = some i) : Nonempty (TIok P t i) := by
  obtain ⟨inf, h1, h⟩ := ob_some h
  obtain ⟨desc, h2, h⟩ := ob_some h
  obtain ⟨z, h3, h⟩ := ob_some h
  obtain ⟨g1, h⟩ := when_some h
  obtain ⟨g2, h⟩ := when_some h
  obtain ⟨g3, h⟩ := when_some h
  obtain ⟨g4, h⟩ := when_some h
  injection h with h
  subst h
  refine ⟨{ inf := inf, desc := desc, zero := z, hinfo := h1, hund := h2, hdesc := mkTD_rel desc, hsize := rfl, hagg := rfl, hzero := h3, hz := fun φ => ofConst_rel φ z, hzc := fun φ => mapL_rel φ _,
            hz1 := fun x hx => by rw [← flat_one]; exact allB_iff.1 g1 x hx, hzn := ?_, hcmp := fun h => h, heqs := fun h => ?_, hbytes := Nat.le_of_ble_eq_true g3, hfld := fun fs hfs f hf => ?_, hmeth := fun name f p hm => ?_ }⟩
  · show (mapL ofCell z.cells.toList).length = inf.size
    rw [mapL_eq, List.length_map]; exact beq_true g2
  · obtain ⟨_, h⟩ := andB_true h
    obtain ⟨h5, h6⟩ := andB_true h
    rw [notB_eq] at h5 h6
    exact ⟨by simpa using h5, by simpa using h6⟩
  · subst hfs
    exact allB_iff.1 g4 f hf
  · obtain ⟨m, k1, k2, k3⟩ := findM_of name inf.methods.toList f p hm
    exact ⟨m, by rw [← Array.find?_toList]; exact k1, k2, k3⟩

/-! ## tables by numbers -/
theorem puts_mem {α : Type} : ∀ {l : List (Nat × α)} {n : Nat} {x : α}, (puts l).get n = some x → (n, x) ∈ l
  | [], n, x, h => by
    have := get_nil (α := α) dep n
    rw [show (puts ([] : List (Nat × α))).get n = none from this] at h; cases h
  | p :: l, n, x, h => by
    rcases T.get_put h with ⟨h1, h2⟩ | ⟨_, h2⟩
    · subst h1; subst h2; exact List.mem_cons_self
    · exact List.mem_cons_of_mem _ (puts_mem h2)
/-- the entries that are written out are those of the program -/
def tabOk (P : Program) : List (Nat × TI) → Prop := fun l => ∀ x ∈ l, mkTI P x.1 = some x.2
theorem tabOk_of {P : Program} {l : List (Nat × TI)} (h : mapL (fun x => mkTI P x.1) l = mapL (fun x => some x.2) l) : tabOk P l := by
  induction l with
  | nil => intro x hx; cases hx
  | cons a l ih =>
    injection h with h1 h2
    intro x hx
    rcases List.mem_cons.1 hx with rfl | hx
    · exact h1
    · exact ih h2 x hx
theorem tabOk_append {P : Program} {l m : List (Nat × TI)} (h : tabOk P l) (k : tabOk P m) : tabOk P (l ++ m) := fun x hx => by
  rcases List.mem_append.1 hx with hx | hx
  · exact h x hx
  · exact k x hx
theorem types_ok {P : Program} {l : List (Nat × TI)} (h : tabOk P l) : TTok P (puts l) := fun t i hi => mkTI_ok (h (t, i) (puts_mem hi))
end Go.Proofs.YtcbacbfjjahcbaaGreatDoor.Ev
namespace Go.Proofs.YtcbacbfjjahcbaaGreatDoor.Ev
set_option linter.unusedVariables false
set_option linter.unusedSimpArgs false
open Go

/-! ## values without memory -/
def closedL (p : AVal → Bool) : List AVal → Bool
  | [] => true
  | a :: l => match p a with | true => closedL p l | false => false
def closedV : Nat → AVal → Bool
  | 0, _ => false
  | d + 1, v => match v with
    | .bool _ | .int _ _ | .str _ | .nilPtr | .nilSlice | .nilMap | .nilFunc | .nilIface => true
    | .iface _ v => closedV d v
    | .agg l => closedL (closedV d) l
    | .tuple l => closedL (closedV d) l
    | _ => false
mutual
theorem VRel.closed {φ ψ : Ren} {v : AVal} {x : Value} (h : VRel ψ v x) (d : Nat) (hc : closedV d v = true) : VRel φ v x := by
  cases d with
  | zero => cases hc
  | succ d =>
    cases h with
    | bool b => exact .bool b
    | int k n => exact .int k n
    | str s => exact .str s
    | nilPtr => exact .nilPtr
    | ptr id off h => cases hc
    | nilSlice => exact .nilSlice
    | slice id off len lim a cap h hl ha hc' h0 hk => cases hc
    | nilMap => exact .nilMap
    | map r h => cases hc
    | func fn fn' a b a' b' h ha hb => cases hc
    | nilFunc => exact .nilFunc
    | iface t v v' h => exact .iface t v v' (h.closed d hc)
    | nilIface => exact .nilIface
    | agg l l' h h1 => exact .agg l l' (h.closed d hc) h1
    | tuple l l' h => exact .tuple l l' (h.closed d hc)
    | unk k n => cases hc
    | unkBool b => cases hc
    | modv k m r n h hm => cases hc
    | rng k lo hi n h h' => cases hc
    | ustr s => cases hc
    | uns r c h => cases hc
    | ulen r => cases hc
    | umin r => cases hc
    | cat p q c s h => cases hc
    | junk => cases hc
theorem VRelL.closed {φ ψ : Ren} {l : List AVal} {l' : List Value} (h : VRelL ψ l l') (d : Nat) (hc : closedL (closedV d) l = true) : VRelL φ l l' := by
  cases h with
  | nil => exact .nil
  | cons v v' l l' h hl =>
    have hc : (match closedV d v with | true => closedL (closedV d) l | false => false) = true := hc
    cases hv : closedV d v with
    | false => rw [hv] at hc; cases hc
    | true => rw [hv] at hc; exact .cons _ _ _ _ (h.closed d hv) (hl.closed d hc)
end
theorem hrel0 (P : Program) (hp : Array Obj) (hfx : ∀ b, MaxG P b → IntAt hp b) : HRel P Ren.none h0 hp :=
  ⟨⟨fun _ _ h => h.elim, fun _ _ _ _ h => h.elim, fun _ h => h.elim, fun b hb => ⟨hfx b hb, fun _ _ h => h.elim⟩⟩, fun _ h => h.elim, fun id o h => by
    have := get_nil (α := AObj) dep id
    rw [show h0.objs.get id = none from this] at h; cases h⟩
theorem runIs_some {m : M AVal} {v : AVal} (h : runIs m v = true) : ∃ l, m = some l ∧ ∀ x ∈ l, x.1 = v := by
  unfold runIs at h
  split at h
  · rename_i l
    exact ⟨l, rfl, fun x hx => beqV_eq 8 _ _ (allB_iff.1 h x hx)⟩
  · cases h
theorem tr0_same {ψ : Ren} {h : Heap} {w w' : World} (t : Tr Ren.none h0 w.heap ψ h w'.heap) (s : Still w w') : Same w w' :=
  ⟨t.size, fun b hb => t.keep b hb (fun _ hid => hid.1.elim), s⟩
section
variable {P : Program} {pg : Pg}
/-- a call that begins with no object, and comes to one value -/
theorem run_ok (G : PgOK P pg) {n : Nat} {f : FuncId} {fn : Func} (hf : pg.funcs.get f = some fn) (hb : fn.body.isSome = true) {args : List AVal} {v : AVal} (hrun : runIs (call pg n (.func f) args h0) v = true) {d : Nat} (hv : closedV d v = true)
    {args' : Array Value} (ha : VRelL Ren.none args args'.toList) (φ : Ren) (w : World) (hfx : ∀ b, MaxG P b → IntAt w.heap b) : CallsIn (W none) 0 P f args' w (endR fun x w' => VRel φ v x ∧ Same w w') := by
  obtain ⟨l, h1, h2⟩ := runIs_some hrun
  have R := (call_ok G n).1.fn f Ren.none h0 w args args' l h1 ha (hrel0 P w.heap hfx)
  rw [G.enter hf hb] at R
  refine CallsIn.mono R (endR_mono fun x w' ⟨ψ, vh, g1, g2, g3, g4, g5⟩ => ?_)
  rw [h2 vh g1] at g4
  exact ⟨g4.closed d hv, tr0_same g3 g5⟩
theorem hrelD (P : Program) (φ : Ren) (hd : ∀ id, ¬ φ.dom id) (hp : Array Obj) (hfx : ∀ b, MaxG P b → IntAt hp b) : HRel P φ h0 hp :=
  ⟨⟨fun id _ h => absurd h (hd id), fun i _ _ _ h => absurd h (hd i), fun id h => absurd h (hd id), fun b hb => ⟨hfx b hb, fun id _ h => absurd h (hd id)⟩⟩, fun id h => absurd h (hd id), fun id o h => by
    have := get_nil (α := AObj) dep id
    rw [show h0.objs.get id = none from this] at h; cases h⟩
/-- the same where unknown strings are among the arguments -/
theorem run_okD (G : PgOK P pg) {n : Nat} {f : FuncId} {fn : Func} (hf : pg.funcs.get f = some fn) (hb : fn.body.isSome = true) {args : List AVal} {v : AVal} (hrun : runIs (call pg n (.func f) args h0) v = true) {d : Nat} (hv : closedV d v = true)
    {φ : Ren} (hd : ∀ id, ¬ φ.dom id) {args' : Array Value} (ha : VRelL φ args args'.toList) (w : World) (hfx : ∀ b, MaxG P b → IntAt w.heap b) : CallsIn (W none) 0 P f args' w (endR fun x w' => VRel φ v x ∧ Same w w') := by
  obtain ⟨l, h1, h2⟩ := runIs_some hrun
  have R := (call_ok G n).1.fn f φ h0 w args args' l h1 ha (hrelD P φ hd w.heap hfx)
  rw [G.enter hf hb] at R
  refine CallsIn.mono R (endR_mono fun x w' ⟨ψ, vh, g1, g2, g3, g4, g5⟩ => ?_)
  rw [h2 vh g1] at g4
  exact ⟨g4.closed d hv, g3.size, fun b hb => g3.keep b hb (fun id hid => absurd hid.1 (hd id)), g5⟩
/-- a function without arguments is known -/
theorem sum0_ok (G : PgOK P pg) {n : Nat} {f : FuncId} {fn : Func} (hf : pg.funcs.get f = some fn) (hb : fn.body.isSome = true) {v : AVal} (hrun : runIs (call pg n (.func f) [] h0) v = true) {d : Nat} (hv : closedV d v = true) : SumOK P f (sum0 v) := by
  intro args u φ args' w hu ha hfx
  cases args with
  | cons a l => cases hu
  | nil =>
    have hu : some v = some u := hu
    injection hu with hu; subst hu
    obtain ⟨as⟩ := args'
    cases ha
    exact run_ok G hf hb hrun hv .nil φ w hfx
/-- one more function is known -/
theorem PgOK.addSum (G : PgOK P pg) {f : FuncId} {fn : Func} (hf : pg.funcs.get f = some fn) (hb : fn.body.isSome = true) {s : SumK} (hs : SumOK P f s) : PgOK P { pg with sums := pg.sums.put f s } :=
  ⟨G.types, G.funcs, G.named, G.exts, G.dnop, fun g gn s' hg hs' => by
    rcases T.get_put hs' with ⟨e1, e2⟩ | ⟨_, e2⟩
    · subst e1; subst e2
      have hg : pg.funcs.get g = some gn := hg
      rw [hf] at hg; injection hg with hg; subst hg
      exact ⟨hb, hs⟩
    · exact G.sums g gn s' hg e2, G.cps, G.frs⟩
/-- a call that is known: what a run comes to -/
theorem cp_ok (G : PgOK P pg) {n : Nat} {f : FuncId} {fn : Func} (hf : pg.funcs.get f = some fn) (hb : fn.body.isSome = true) {c : CP} (hrun : runCov c.v c.hout (call pg n (.func f) c.args c.hin) = true) : CPOK P f c := by
  intro φ args' w ha H
  obtain ⟨l, h1, h2⟩ := runCov_some hrun
  have R := (call_ok G n).1.fn f φ c.hin w c.args args' l h1 ha H
  rw [G.enter hf hb] at R
  exact CallsIn.mono R (endR_mono fun x w' g => g.less fun r hr => ⟨_, List.mem_singleton.2 rfl, (h2 r hr).1, (h2 r hr).2⟩)
/-- one more call is known -/
theorem PgOK.addCP (G : PgOK P pg) {f : FuncId} {fn : Func} (hf : pg.funcs.get f = some fn) (hb : fn.body.isSome = true) {l : List CP} (hs : ∀ c ∈ l, CPOK P f c) : PgOK P { pg with cps := pg.cps.put f l } :=
  ⟨G.types, G.funcs, G.named, G.exts, G.dnop, G.sums, fun g l' c hg hc => by
    rcases T.get_put hg with ⟨e1, e2⟩ | ⟨_, e2⟩
    · subst e1; subst e2
      exact ⟨fn, hf, hb, hs c hc⟩
    · exact G.cps g l' c e2 hc, G.frs⟩
/-- the same, with all other objects left as they are -/
theorem PgOK.addFr (G : PgOK P pg) {f : FuncId} {fn : Func} (hf : pg.funcs.get f = some fn) (hb : fn.body.isSome = true) {l : List CP} (hs : ∀ c ∈ l, CPOK P f c) : PgOK P { pg with frs := pg.frs.put f l } :=
  ⟨G.types, G.funcs, G.named, G.exts, G.dnop, G.sums, G.cps, fun g l' c hg hc => by
    rcases T.get_put hg with ⟨e1, e2⟩ | ⟨_, e2⟩
    · subst e1; subst e2
      exact ⟨fn, hf, hb, hs c hc⟩
    · exact G.frs g l' c e2 hc⟩
end
end Go.Proofs.YtcbacbfjjahcbaaGreatDoor.Ev
namespace Go.Proofs.YtcbacbfjjahcbaaGreatDoor.Ev
set_option linter.unusedVariables false
set_option linter.unusedSimpArgs false
open Go
theorem indexByteA_eq : ∀ (l : List UInt8) (c : UInt8) (k : Nat), indexByteA c.toNat (l.map UInt8.toNat) k = if Lib.indexByte l c = -1 then -1 else Lib.indexByte l c + k
  | [], c, k => rfl
  | b :: l, c, k => by
    have ih := indexByteA_eq l c (k + 1)
    have hge := Lib.indexByte_ge l c
    show (match Nat.beq b.toNat c.toNat with | true => Int.ofNat k | false => seqN (Nat.succ k) (indexByteA c.toNat (l.map UInt8.toNat))) = _
    rw [beq_dec]
    unfold Lib.indexByte
    by_cases hb : b = c
    · subst hb
      rw [decide_eq_true rfl]
      simp
    · have hn : ¬ b.toNat = c.toNat := fun e => hb (UInt8.toNat_inj.1 e)
      rw [decide_eq_false hn]
      simp only [seqN_eq]
      rw [show Nat.succ k = k + 1 from rfl, ih]
      have hbc : (b == c) = false := by simpa using hb
      rw [hbc]
      by_cases hm : Lib.indexByte l c = -1
      · simp [hm]
      · have hm2 : (Lib.indexByte l c == -1) = false := by simpa using hm
        have h0 : ¬ (Lib.indexByte l c + 1 = -1) := by omega
        simp only [hm, hm2, if_false, Bool.false_eq_true, h0]
        push_cast; omega
theorem countA_eq : ∀ (l : List UInt8) (c : UInt8) (n : Nat), countA c.toNat (l.map UInt8.toNat) n = n + Lib.countByte l c
  | [], c, n => rfl
  | b :: l, c, n => by
    show (match Nat.beq b.toNat c.toNat with | true => seqN (Nat.succ n) fun m => countA c.toNat (l.map UInt8.toNat) m | false => countA c.toNat (l.map UInt8.toNat) n) = _
    rw [beq_dec]
    unfold Lib.countByte
    rw [List.count_cons]
    by_cases hb : b = c
    · subst hb
      rw [decide_eq_true rfl]
      simp only [seqN_eq]
      rw [show Nat.succ n = n + 1 from rfl, countA_eq l b (n + 1)]
      unfold Lib.countByte
      simp; omega
    · have hn : ¬ b.toNat = c.toNat := fun e => hb (UInt8.toNat_inj.1 e)
      rw [decide_eq_false hn]
      have hbc : (b == c) = false := by simpa using hb
      simp only [hbc, Bool.false_eq_true, if_false, Nat.add_zero]
      rw [countA_eq l c n]; rfl
theorem byte_of (c : Nat) (h : c < 256) : c = (UInt8.ofNat c).toNat := by simp; omega
section
variable {P : Program} {f : FuncId} {fn : Func}
theorem extNoEscape (hf : P.funcs[f]? = some fn) (hname : (fn.name == "runtime.NumGoroutine") = false) (hb : fn.body.isNone = true) (hn : Extern.findNext fn = none) (he : Extern.find fn = some Extern.AbiNoEscape.same) : ExtOK P f .noEscape := by
  intro φ h w args args' outs hx ha H
  rw [run_callFunc_extern hf hname hb hn he]
  obtain ⟨l⟩ := args'
  cases ha with
  | nil => cases hx
  | cons v y l l' hy hl =>
    cases hl with
    | cons => cases hx
    | nil =>
      have hx : some [(v, h)] = some outs := hx
      injection hx with hx
      exact ⟨φ, (v, h), by rw [← hx]; exact List.mem_singleton.2 rfl, H, .refl _ _ _, hy, .refl _⟩
theorem str_byte {g : Nat → Nat → M AVal} {args : List AVal} {outs : List (AVal × Heap)} (hx : extStr g args = some outs) : ∃ s c, args = [.str s, .int .u8 (.ofNat c)] ∧ c < 256 ∧ g s c = some outs := by
  unfold extStr at hx
  split at hx
  · rename_i s c
    obtain ⟨h1, h2⟩ := when_some hx
    rw [blt_dec] at h1
    exact ⟨s, c, rfl, of_decide_eq_true h1, h2⟩
  · cases hx
theorem str_byte_rel {φ : Ren} {s c : Nat} {xs : List Value} (ha : VRelL φ [.str s, .int .u8 (.ofNat c)] xs) : ∃ st : ByteArray, xs = [.string st, .int .u8 (Int.ofNat c)] ∧ s = enc st.data.toList := by
  cases ha with
  | cons v y l l' hy hl =>
    cases hl with
    | cons v2 y2 l2 l2' hy2 hl2 =>
      cases hl2
      cases hy with
      | str st =>
        cases hy2
        exact ⟨st, rfl, rfl⟩
theorem extIndexByte (hf : P.funcs[f]? = some fn) (hname : (fn.name == "runtime.NumGoroutine") = false) (hb : fn.body.isNone = true) (hn : Extern.findNext fn = none) (he : Extern.find fn = some Extern.BytealgIndexByte.indexByte) : ExtOK P f .indexByte := by
  intro φ h w args args' outs hx ha H
  rw [run_callFunc_extern hf hname hb hn he]
  obtain ⟨l⟩ := args'
  obtain ⟨s, c, rfl, hc, h1⟩ := str_byte (show extStr (fun s c => seqI (indexByteA c (sBytes s) 0) fun i => ret1 (.int .i64 i) h) args = some outs from hx)
  obtain ⟨st, hl, rfl⟩ := str_byte_rel ha
  have hl : l = _ := hl
  subst hl
  rw [seqI_eq, sBytes_enc] at h1
  have h1 : some [(AVal.int .i64 (indexByteA c (st.data.toList.map UInt8.toNat) 0), h)] = some outs := h1
  injection h1 with h1
  have hrun : (Extern.BytealgIndexByte.indexByte ⟨[.string st, .int .u8 (Int.ofNat c)]⟩).run P w = .ok (.int .i64 (Lib.indexByte st.data.toList (UInt8.ofNat c))) w := Lib.run_indexByteString st (c : Int) w
  rw [hrun]
  refine ⟨φ, _, by rw [← h1]; exact List.mem_singleton.2 rfl, H, .refl _ _ _, ?_, .refl _⟩
  have hcc := byte_of c hc
  rw [show indexByteA c (st.data.toList.map UInt8.toNat) 0 = indexByteA (UInt8.ofNat c).toNat (st.data.toList.map UInt8.toNat) 0 from by rw [← hcc], indexByteA_eq]
  have : (if Lib.indexByte st.data.toList (UInt8.ofNat c) = -1 then (-1 : Int) else Lib.indexByte st.data.toList (UInt8.ofNat c) + ((0 : Nat) : Int)) = Lib.indexByte st.data.toList (UInt8.ofNat c) := by
    split
    · rename_i h; rw [h]
    · simp
  rw [this]; exact .int _ _
theorem extCount (hf : P.funcs[f]? = some fn) (hname : (fn.name == "runtime.NumGoroutine") = false) (hb : fn.body.isNone = true) (hn : Extern.findNext fn = none) (he : Extern.find fn = some Extern.BytealgCount.count) : ExtOK P f .count := by
  intro φ h w args args' outs hx ha H
  rw [run_callFunc_extern hf hname hb hn he]
  obtain ⟨l⟩ := args'
  obtain ⟨s, c, rfl, hc, h1⟩ := str_byte (show extStr (fun s c => seqN (countA c (sBytes s) 0) fun i => ret1 (.int .i64 (.ofNat i)) h) args = some outs from hx)
  obtain ⟨st, hl, rfl⟩ := str_byte_rel ha
  have hl : l = _ := hl
  subst hl
  rw [seqN_eq, sBytes_enc] at h1
  have h1 : some [(AVal.int .i64 (.ofNat (countA c (st.data.toList.map UInt8.toNat) 0)), h)] = some outs := h1
  injection h1 with h1
  have hrun : (Extern.BytealgCount.count ⟨[.string st, .int .u8 (Int.ofNat c)]⟩).run P w = .ok (.int .i64 (Lib.countByte st.data.toList (UInt8.ofNat c))) w := Lib.run_countString st (c : Int) w
  rw [hrun]
  refine ⟨φ, _, by rw [← h1]; exact List.mem_singleton.2 rfl, H, .refl _ _ _, ?_, .refl _⟩
  have hcc := byte_of c hc
  rw [show countA c (st.data.toList.map UInt8.toNat) 0 = countA (UInt8.ofNat c).toNat (st.data.toList.map UInt8.toNat) 0 from by rw [← hcc], countA_eq, Nat.zero_add]
  exact .int _ _
theorem extMakeNoZero (hf : P.funcs[f]? = some fn) (hname : (fn.name == "runtime.NumGoroutine") = false) (hb : fn.body.isNone = true) (hn : Extern.findNext fn = none) {t e : TypeId} (he : Extern.find fn = some (Extern.BytealgMakeNoZero.makeNoZero fn.params #[t])) (ht : P.underlying t = some (.slice e)) (h1c : P.cellsOf e = 1) : ExtOK P f (.makeNoZero e) := by
  intro φ h w args args' outs hx ha H
  rw [run_callFunc_extern hf hname hb hn he]
  obtain ⟨l⟩ := args'
  have hx2 : extRow e h args = some outs := hx
  clear hx
  unfold extRow at hx2
  split at hx2
  · rename_i n
    obtain ⟨h1, h2⟩ := when_some hx2
    have h1 := Nat.le_of_ble_eq_true h1
    have h2 : some [(AVal.slice h.next 0 n none, h.alloc (.cells .nil n none e))] = some outs := h2
    injection h2 with h2
    cases ha with
    | cons v y l l' hy hl =>
      cases hl
      cases hy
      obtain ⟨cs, g1, g2, _⟩ := Lib.run_makeNoZero (P := P) w fn.params t e ht n (by omega)
      have hrun : (Extern.BytealgMakeNoZero.makeNoZero fn.params #[t] ⟨[.int .i64 (Int.ofNat n)]⟩).run P w = .ok (.slice (some ⟨w.heap.size, 0, none⟩) n cs.size) (w.drew.drew.alloc (.cells cs e)) := g1
      rw [hrun]
      have A := H.alloc (cap := cs.size) (sz := P.cellsOf e) (ob := .cells .nil n none e) (o' := .cells cs e (0, 0)) ⟨cs, (0, 0), rfl, .inl rfl, by rw [add_off, add_cap]; omega, by rw [add_cap]; exact g2, (fun u hu => by cases hu), by rw [add_sz], by rw [add_off]; exact Nat.zero_mod _, fun k v hk => by
        have := get_nil (α := AVal) dep k
        rw [show (T.nil : T AVal).get k = none from this] at hk; cases hk⟩
      refine ⟨_, _, by rw [← h2]; exact List.mem_singleton.2 rfl, A.1, A.2, ?_, ⟨rfl, rfl⟩⟩
      exact new_slice (by rw [h1c]; omega) rfl cs.size (by rw [h1c]; omega) g2
  · cases hx2
end
end Go.Proofs.YtcbacbfjjahcbaaGreatDoor.Ev
namespace Go.Proofs.YtcbacbfjjahcbaaGreatDoor.Ev
set_option linter.unusedVariables false
set_option linter.unusedSimpArgs false
open Go
section
variable {P : Program} {tt : TT}
/-- a deferred function that asks recover, and does nothing where there is no panic -/
theorem dnop_ok (hT : TTok P tt) {f : FuncId} {fn : Func} (hf : P.funcs[f]? = some fn) (hname : (fn.name == "runtime.NumGoroutine") = false) {i0 i1 d0 d1 d2 d3 : Nat} {o0 o1 o2 o3 : Oper} {A : Code} {t yt : TypeId} {ti : TI} {em : Bool}
    (hb : fn.body = some (.seq (.region i0 #[o0, o1] false) (.seq (.region i1 #[o2, o3] false) (.cond (.tmp d3) A .skip)))) (hres : fn.results = #[])
    (h0 : o0.op = .call { callee := .builtin .recover, args := #[], argTypes := #[] } ∧ o0.dst = some d0 ∧ o0.guard = none) (h1 : o1.op = .assign (.tmp d0) ∧ o1.dst = some d1 ∧ o1.guard = none)
    (h2 : o2.op = .move (.tmp d1) ∧ o2.dst = some d2 ∧ o2.guard = none) (h3 : o3.op = .binOp .neq t (.tmp d2) (.const .nilIface) yt ∧ o3.dst = some d3 ∧ o3.guard = none)
    (ht : tt.get t = some ti) (hti : ti.desc = .iface em) (b0 : d0 < fn.ntmps) (b1 : d1 < fn.ntmps) (b2 : d2 < fn.ntmps) (b3 : d3 < fn.ntmps) : DNop P f := by
  obtain ⟨k⟩ := hT t ti ht
  refine ⟨fun args w => ?_, fun args w => ?_⟩
  · have h3 : fn.body.isNone = false := by rw [hb]; rfl
    simp only [callFunc, Sem.run_bind, run_program, Result.andThen_ok, hf, hname, h3, Bool.false_eq_true, if_false, Sem.run_pure]
  · refine callsDIn_of_wpSIn hf hb trivial fun c₀ cs hm => ?_
    have hsz : fn.ntmps ≤ (args ++ Array.replicate (fn.ntmps - args.size) undef).size := by simp; omega
    generalize args ++ Array.replicate (fn.ntmps - args.size) undef = tm at hsz
    have hrec : recoverD (c₀ :: cs) = none := by simp [recoverD, hm]
    have want : ∀ {o : Oper} (ops : Array Oper) (tm : Array Value), o.guard = none → Region.wanted o (yielded ops tm) = true := fun ops tm hg => by simp [Region.wanted, hg]
    have gd : ∀ (tm : Array Value) (d : Nat) (x : Value), d < tm.size → (tm.setIfInBounds d x).getD d undef = x := fun tm d x hd => by rw [getD_set hd, if_pos rfl]
    have e0 : ∀ (a : Act) (w : World), (execOp a.eval o0).run P w = .ok .recover w := by
      intro a w
      rw [exec_builtin h0.1 rfl]; rfl
    have e1 : ∀ (a : Act) (w : World), (execOp a.eval o1).run P w = .ok (.value (a.tmps.getD d0 undef)) w := by
      intro a w; simp [execOp, h1.1, Act.eval]
    have e2 : ∀ (a : Act) (w : World), (execOp a.eval o2).run P w = .ok (.value (a.tmps.getD d1 undef)) w := by
      intro a w; simp [execOp, h2.1, Act.eval]
    have e3 : ∀ (a : Act) (w : World), a.tmps.getD d2 undef = .nilIface → (execOp a.eval o3).run P w = .ok (.value (.bool false)) w := by
      intro a w hv
      have L : ORel Ren.none ⟨0, [d2], false⟩ [.nilIface] (.nil : T AVal) a o3 := by
        intro x hx
        rw [h3.1] at hx
        simp [Op.operands] at hx
        rcases hx with rfl | rfl
        · show VRel Ren.none ((vTmpS ⟨0, [d2], false⟩ d2).get [.nilIface] .nil) (a.eval (.tmp d2))
          have : (vTmpS ⟨0, [d2], false⟩ d2).get [.nilIface] (.nil : T AVal) = .nilIface := by
            unfold vTmpS
            rw [show Nat.testBit (SL.glob ⟨0, [d2], false⟩) d2 = false from Nat.zero_testBit d2]
            show (vLoc d2 [d2]).get [.nilIface] (.nil : T AVal) = .nilIface
            unfold vLoc
            rw [beq_dec, decide_eq_true rfl]; rfl
          rw [this]
          show VRel Ren.none .nilIface (a.tmps.getD d2 undef)
          rw [hv]; exact .nilIface
        · exact ofConst_rel Ren.none .nilIface
      obtain ⟨x, g1, g2⟩ := pIsNil (neg := true) (sl := ⟨0, [d2], false⟩) h3.1 k hti rfl Ren.none [.nilIface] (.nil : T AVal) a w (.bool false) L (by
        show ob (isNilIface ((vTmpS ⟨0, [d2], false⟩ d2).get [.nilIface] (.nil : T AVal))) (fun b => mkB (notB b)) = some (.bool false)
        have : (vTmpS ⟨0, [d2], false⟩ d2).get [.nilIface] (.nil : T AVal) = .nilIface := by
          unfold vTmpS
          rw [show Nat.testBit (SL.glob ⟨0, [d2], false⟩) d2 = false from Nat.zero_testBit d2]
          show (vLoc d2 [d2]).get [.nilIface] (.nil : T AVal) = .nilIface
          unfold vLoc
          rw [beq_dec, decide_eq_true rfl]; rfl
        rw [this]; rfl)
      cases g2
      exact g1
    refine wpSIn_seq (wpSIn_region ?_)
    show wpOpsSIn (W none) 0 P #[o0, o1] _ [0, 1] _ _ _
    have i0' : (#[o0, o1] : Array Oper)[0]? = some o0 := rfl
    have i1' : (#[o0, o1] : Array Oper)[1]? = some o1 := rfl
    simp only [wpOpsSIn, i0', i1', want _ _ h0.2.2, want _ _ h1.2.2, if_true, e0, e1, hrec]
    refine ⟨fun _ _ => trivial, fun _ _ => trivial, ?_⟩
    show (Code.seq _ _).wpSIn (W none) 0 P _ _ _ _
    refine wpSIn_seq (wpSIn_region ?_)
    show wpOpsSIn (W none) 0 P #[o2, o3] _ [0, 1] _ _ _
    have i2' : (#[o2, o3] : Array Oper)[0]? = some o2 := rfl
    have i3' : (#[o2, o3] : Array Oper)[1]? = some o3 := rfl
    have s0 : d0 < tm.size := by omega
    have hv0 : ((tm.setIfInBounds d0 .nilIface).getD d0 undef) = .nilIface := gd _ _ _ s0
    have hv1 : (((tm.setIfInBounds d0 .nilIface).setIfInBounds d1 .nilIface).getD d1 undef) = .nilIface := gd _ _ _ (by simp; omega)
    have hv2 : ((((tm.setIfInBounds d0 .nilIface).setIfInBounds d1 .nilIface).setIfInBounds d2 .nilIface).getD d2 undef) = .nilIface := gd _ _ _ (by simp; omega)
    have hv3 : (((((tm.setIfInBounds d0 .nilIface).setIfInBounds d1 .nilIface).setIfInBounds d2 .nilIface).setIfInBounds d3 (.bool false)).getD d3 undef) = .bool false := gd _ _ _ (by simp; omega)
    simp only [h0.2.1, h1.2.1, Act.put, hv0]
    simp only [wpOpsSIn, i2', i3', want _ _ h2.2.2, want _ _ h3.2.2, if_true, e2, h2.2.1, h3.2.1, Act.put, hv1]
    refine ⟨fun _ _ => trivial, fun _ _ => trivial, ?_⟩
    rw [e3 _ _ hv2]
    show (Code.cond _ _ _).wpSIn (W none) 0 P _ _ _ _
    refine wpSIn_cond (t := false) (by simpa [Act.eval] using hv3) ?_
    refine wpSIn_of_wpIn rfl (wpIn_skip ?_)
    refine ⟨rfl, .returning, by rw [← hm], .tuple #[], ?_, ⟨_, rfl⟩, rfl, rfl, .refl _⟩
    simp [results, hres]
end
end Go.Proofs.YtcbacbfjjahcbaaGreatDoor.Ev
namespace Go.Proofs.YtcbacbfjjahcbaaGreatDoor.Ev
set_option linter.unusedVariables false
set_option linter.unusedSimpArgs false
open Go
theorem beqA_eq : ∀ (a b : List AVal), beqA a b = true → a = b
  | [], [], _ => rfl
  | [], _ :: _, h => by cases h
  | _ :: _, [], h => by cases h
  | a :: l, b :: m, h => by
    have h : (match beqV 2 a b with | true => beqA l m | false => false) = true := h
    cases hb : beqV 2 a b with
    | false => rw [hb] at h; cases h
    | true =>
      rw [hb] at h
      rw [beqV_eq 2 a b hb, beqA_eq l m h]
theorem knownA_some : ∀ {l : List (List AVal × AVal)} {args : List AVal} {v : AVal}, knownA l args = some v → (args, v) ∈ l
  | [], _, _, h => by cases h
  | x :: l, args, v, h => by
    have h : (match beqA x.1 args with | true => some x.2 | false => knownA l args) = some v := h
    cases hb : beqA x.1 args with
    | false => rw [hb] at h; exact List.mem_cons_of_mem _ (knownA_some h)
    | true =>
      rw [hb] at h
      injection h with h'
      have e1 := beqA_eq _ _ hb
      subst e1
      rw [← h']
      exact List.mem_cons_self
/-- at arguments without memory a function is known -/
theorem sumL_ok {P : Program} {pg : Pg} (G : PgOK P pg) {n : Nat} {f : FuncId} {fn : Func} (hf : pg.funcs.get f = some fn) (hb : fn.body.isSome = true) {l : List (List AVal × AVal)} {d : Nat}
    (H : ∀ x ∈ l, closedL (closedV d) x.1 = true ∧ closedV d x.2 = true ∧ runIs (call pg n (.func f) x.1 h0) x.2 = true) : SumOK P f (sumL l) := by
  intro args v φ args' w hu ha hfx
  obtain ⟨h1, h2, h3⟩ := H _ (knownA_some (show knownA l args = some v from hu))
  exact run_ok G hf hb h3 h2 (VRelL.closed ha d h1) φ w hfx
end Go.Proofs.YtcbacbfjjahcbaaGreatDoor.Ev
namespace Go.Proofs.YtcbacbfjjahcbaaGreatDoor.Ev
set_option linter.unusedVariables false
set_option linter.unusedSimpArgs false
open Go
section
variable {P : Program} {f : FuncId} {fn : Func}
def ovlDo (tS : TypeId) (a b : Option Addr) (la lb : Nat) : Sem Value := do
    let some t := (#[tS, tS] : Array TypeId)[0]? | stuck "slices.overlaps: no parameter types"
    let .slice elem ← underlying t | stuck "slices.overlaps: slice type expected"
    let size ← sizeOf elem
    match a, b with
    | some a, some b =>
      if la = 0 ∨ lb = 0 ∨ size = 0 then pure (Value.bool false)
      else if a.block != b.block && (← frozen a) && (← frozen b) then unsupported .addressObserved
      else do
        if a.block != b.block then do
          noView a; noView b
          if ← mayBeOne a b then return Value.bool ((← choose (.extern "sameAddr.stringBytes" 2)) == 1)
        pure (Value.bool (a.block == b.block && a.off < b.off + lb * size && b.off < a.off + la * size))
    | _, _ => pure (Value.bool false)
/-- two slices, seen from outside -/
theorem ovl_do (tS tR : TypeId) (a b : Option Addr) (la ca lb cb : Nat) : Extern.SlicesOverlaps.overlaps #[tS, tS] #[tR] ⟨[.slice a la ca, .slice b lb cb]⟩ = ovlDo tS a b la lb := rfl
theorem ovl_nil {tS tR e : TypeId} (ht : P.underlying tS = some (.slice e)) {sz : Nat} (hz : ∀ w, (Go.sizeOf e).run P w = .ok sz w) (w : World) (a b : Option Addr) (la ca lb cb : Nat) (h : a = none ∨ b = none) :
    (Extern.SlicesOverlaps.overlaps #[tS, tS] #[tR] ⟨[.slice a la ca, .slice b lb cb]⟩).run P w = .ok (.bool false) w := by
  rw [ovl_do]
  rcases h with rfl | rfl
  · simp [ovlDo, run_underlying ht, hz]
  · cases a <;> simp [ovlDo, run_underlying ht, hz]
theorem ovl_zero {tS tR e : TypeId} (ht : P.underlying tS = some (.slice e)) {sz : Nat} (hz : ∀ w, (Go.sizeOf e).run P w = .ok sz w) (w : World) (a b : Addr) (la ca lb cb : Nat) (h : la = 0 ∨ lb = 0) :
    (Extern.SlicesOverlaps.overlaps #[tS, tS] #[tR] ⟨[.slice (some a) la ca, .slice (some b) lb cb]⟩).run P w = .ok (.bool false) w := by
  have h0 : la = 0 ∨ lb = 0 ∨ sz = 0 := h.elim .inl fun h => .inr (.inl h)
  rw [ovl_do]
  simp [ovlDo, run_underlying ht, hz, h0]
theorem ovl_same {tS tR e : TypeId} (ht : P.underlying tS = some (.slice e)) {sz : Nat} (hz : ∀ w, (Go.sizeOf e).run P w = .ok sz w) (w : World) (a b : Addr) (la ca lb cb : Nat) (h0 : ¬ (la = 0 ∨ lb = 0 ∨ sz = 0)) (hb : a.block = b.block) :
    (Extern.SlicesOverlaps.overlaps #[tS, tS] #[tR] ⟨[.slice (some a) la ca, .slice (some b) lb cb]⟩).run P w = .ok (.bool (decide (a.off < b.off + lb * sz) && decide (b.off < a.off + la * sz))) w := by
  have hnb : (a.block != b.block) = false := by simpa using hb
  have hnb' : (a.block == b.block) = true := by simpa using hb
  rw [ovl_do]
  simp [ovlDo, run_underlying ht, hz, h0, hnb, hnb']
theorem ovlIn_eq (sz oi li oj lj x : Nat) : (decide (x + oi < x + oj + lj * sz) && decide (x + oj < x + oi + li * sz)) = ovlIn sz oi li oj lj := by
  unfold ovlIn
  rw [blt_dec, blt_dec]
  have e1 : (x + oi < x + oj + lj * sz) ↔ (oi < Nat.add oj (Nat.mul lj sz)) := by show _ ↔ oi < oj + lj * sz; omega
  have e2 : (x + oj < x + oi + li * sz) ↔ (oj < Nat.add oi (Nat.mul li sz)) := by show _ ↔ oj < oi + li * sz; omega
  rw [decide_eq_decide.2 e1, decide_eq_decide.2 e2]
  cases decide (oi < Nat.add oj (Nat.mul lj sz)) <;> rfl
theorem ovl_row {φ : Ren} {h : Heap} {hp : Array Obj} (H : HRel P φ h hp) {i e : Nat} (hd : φ.dom i) (hr : ovlRow e (h.objs.get i) = true) (hu : P.underlying e ≠ some (.int .u8)) : ∃ cc : Array Value, hp[φ.blk i]? = some (.cells cc e (0, 0)) ∧ φ.off i + φ.cap i ≤ cc.size := by
  cases ho : h.objs.get i with
  | none => rw [ho] at hr; cases hr
  | some o =>
    rw [ho] at hr
    cases o with
    | cells c lo hi et =>
      have he : et = e := Nat.eq_of_beq_eq_true hr
      subst he
      obtain ⟨o', g1, cc, fz, g2, g3⟩ := H.obj i _ hd ho
      subst g2
      rcases g3.fz with rfl | ⟨k, _⟩
      · exact ⟨cc, g1, g3.fit⟩
      · exact absurd k hu
    | _ => cases hr
theorem extOverlaps (hf : P.funcs[f]? = some fn) (hname : (fn.name == "runtime.NumGoroutine") = false) (hb : fn.body.isNone = true) (hn : Extern.findNext fn = none) {tS tR e sz : Nat} (he : Extern.find fn = some (Extern.SlicesOverlaps.overlaps #[tS, tS] #[tR])) (ht : P.underlying tS = some (.slice e))
    (hz : ∀ w, (Go.sizeOf e).run P w = .ok sz w) (hc : P.cellsOf e = sz) (h0 : sz ≠ 0) (hu : P.underlying e ≠ some (.int .u8)) : ExtOK P f (.overlaps e sz) := by
  intro φ h w args args' outs hx ha H
  rw [run_callFunc_extern hf hname hb hn he]
  obtain ⟨l⟩ := args'
  have hx2 : ovl e sz h args = some outs := hx
  clear hx
  unfold ovl at hx2
  split at hx2
  · rename_i a b
    cases ha with
    | cons v y l l' hy hl =>
      cases hl with
      | cons v2 y2 l2 l2' hy2 hl2 =>
        cases hl2
        unfold ovl2 at hx2
        split at hx2
        · cases hy; cases hy2
          rw [show (Extern.SlicesOverlaps.overlaps #[tS, tS] #[tR] ⟨[.slice none 0 0, .slice none 0 0]⟩).run P w = .ok (.bool false) w from ovl_nil ht hz w _ _ _ _ _ _ (.inl rfl)]
          injection hx2 with hx2
          exact ⟨φ, _, by rw [← hx2]; exact List.mem_singleton.2 rfl, H, .refl _ _ _, .bool _, .refl _⟩
        · cases hy; cases hy2
          rw [ovl_nil ht hz w _ _ _ _ _ _ (.inl rfl)]
          injection hx2 with hx2
          exact ⟨φ, _, by rw [← hx2]; exact List.mem_singleton.2 rfl, H, .refl _ _ _, .bool _, .refl _⟩
        · cases hy; cases hy2
          rw [ovl_nil ht hz w _ _ _ _ _ _ (.inr rfl)]
          injection hx2 with hx2
          exact ⟨φ, _, by rw [← hx2]; exact List.mem_singleton.2 rfl, H, .refl _ _ _, .bool _, .refl _⟩
        · rename_i i oi li limi j oj lj limj
          cases hy with
          | slice _ _ _ _ a1 c1 d1 l1 ea1 x1 x2 x3 =>
          cases hy2 with
          | slice _ _ _ _ a2 c2 d2 l2 ea2 z1 z2 z3 =>
          unfold ovlS at hx2
          rw [beq_dec] at hx2
          by_cases hli : li = 0
          · rw [decide_eq_true hli] at hx2
            rw [ovl_zero ht hz w _ _ _ _ _ _ (.inl hli)]
            injection hx2 with hx2
            exact ⟨φ, _, by rw [← hx2]; exact List.mem_singleton.2 rfl, H, .refl _ _ _, .bool _, .refl _⟩
          · rw [decide_eq_false hli] at hx2
            rw [beq_dec] at hx2
            by_cases hlj : lj = 0
            · rw [decide_eq_true hlj] at hx2
              rw [ovl_zero ht hz w _ _ _ _ _ _ (.inr hlj)]
              injection hx2 with hx2
              exact ⟨φ, _, by rw [← hx2]; exact List.mem_singleton.2 rfl, H, .refl _ _ _, .bool _, .refl _⟩
            · rw [decide_eq_false hlj] at hx2
              rw [beq_dec] at hx2
              have h00 : ¬ (li = 0 ∨ lj = 0 ∨ sz = 0) := by omega
              obtain rfl := ea1 (by omega)
              obtain rfl := ea2 (by omega)
              by_cases hij : i = j
              · subst hij
                rw [decide_eq_true rfl] at hx2
                rw [ovl_same ht hz w (baseOf φ i oi) (baseOf φ i oj) _ _ _ _ h00 rfl]
                injection hx2 with hx2
                refine ⟨φ, _, by rw [← hx2]; exact List.mem_singleton.2 rfl, H, .refl _ _ _, ?_, .refl _⟩
                show VRel φ (.bool (ovlIn sz oi li oj lj)) (.bool (decide (φ.off i + oi < φ.off i + oj + lj * sz) && decide (φ.off i + oj < φ.off i + oi + li * sz)))
                rw [ovlIn_eq]
                exact .bool _
              · rw [decide_eq_false hij] at hx2
                obtain ⟨r1, hx2⟩ := when_some hx2
                obtain ⟨r2, hx2⟩ := when_some hx2
                obtain ⟨cc1, p1, p2⟩ := ovl_row H d1 r1 hu
                obtain ⟨cc2, q1, q2⟩ := ovl_row H d2 r2 hu
                have hne : φ.blk i ≠ φ.blk j := by
                  intro hc2
                  cases hoi : h.objs.get i with
                  | none => rw [hoi] at r1; cases r1
                  | some o1 =>
                    cases hoj : h.objs.get j with
                    | none => rw [hoj] at r2; cases r2
                    | some o2 => exact hij (H.inj i j _ _ d1 d2 hoi hoj hc2)
                have hk2 : cc2.size ≠ 0 := by
                  have : 0 < c2 * φ.sz j := by
                    have hs : φ.sz j ≠ 0 := by
                      cases hoj : h.objs.get j with
                      | none => rw [hoj] at r2; cases r2
                      | some o2 =>
                        rw [hoj] at r2
                        cases o2 with
                        | cells c lo hi et =>
                          have he2 : et = e := Nat.eq_of_beq_eq_true r2
                          subst he2
                          obtain ⟨o', g1, cc, fz, g2, g3⟩ := H.obj j _ d2 hoj
                          rw [← g3.sz, hc]; exact h0
                        | _ => cases r2
                    exact Nat.mul_pos (by omega) (by omega)
                  omega
                rw [show (Extern.SlicesOverlaps.overlaps #[tS, tS] #[tR] ⟨[.slice (some (baseOf φ i oi)) li c1, .slice (some (baseOf φ j oj)) lj c2]⟩).run P w = .ok (.bool false) w from
                  Lib.run_overlaps_apart w tS tR e ht sz hz (baseOf φ i oi) (baseOf φ j oj) li c1 lj c2 hne e e cc1.size cc2.size (by simp [World.shape?, baseOf, p1]) (by simp [World.shape?, baseOf, q1]) hk2 (by simp [World.frozen?, baseOf, p1]) (by simp [World.frozen?, baseOf, p1])]
                injection hx2 with hx2
                exact ⟨φ, _, by rw [← hx2]; exact List.mem_singleton.2 rfl, H, .refl _ _ _, .bool _, .refl _⟩
        · cases hx2
  · cases hx2
end
end Go.Proofs.YtcbacbfjjahcbaaGreatDoor.Ev
namespace Go.Proofs.YtcbacbfjjahcbaaGreatDoor.Ev
set_option linter.unusedVariables false
set_option linter.unusedSimpArgs false
open Go
theorem prefN_eq : ∀ (sub l : List UInt8), prefN (sub.map UInt8.toNat) (l.map UInt8.toNat) = sub.isPrefixOf l
  | [], l => by cases l <;> rfl
  | a :: t, [] => rfl
  | a :: t, b :: l => by
    show (match Nat.beq a.toNat b.toNat with | true => prefN (t.map UInt8.toNat) (l.map UInt8.toNat) | false => false) = (a == b && t.isPrefixOf l)
    rw [prefN_eq t l, beq_dec]
    by_cases h : a = b
    · subst h; simp
    · have h1 : ¬ a.toNat = b.toNat := fun e => h (UInt8.toNat_inj.1 e)
      rw [decide_eq_false h1]
      have : (a == b) = false := by simpa using h
      rw [this]; rfl
theorem contN_eq (sub : List UInt8) : ∀ l : List UInt8, contN (sub.map UInt8.toNat) (l.map UInt8.toNat) = Lib.contains l sub
  | [] => by cases sub <;> rfl
  | b :: l => by
    have ih := contN_eq sub l
    have hp := prefN_eq sub (b :: l)
    have hge := Lib.index_ge l sub
    show (match prefN (sub.map UInt8.toNat) ((b :: l).map UInt8.toNat) with | true => true | false => contN (sub.map UInt8.toNat) (l.map UInt8.toNat)) = _
    rw [hp, ih]
    unfold Lib.contains
    conv => rhs; unfold Lib.index
    cases h : sub.isPrefixOf (b :: l) with
    | true => simp
    | false =>
      simp only [Bool.false_eq_true, if_false]
      by_cases hm : Lib.index l sub = -1
      · rw [hm]; rfl
      · have hm2 : (Lib.index l sub == -1) = false := by simpa using hm
        rw [hm2]
        simp only [Bool.false_eq_true, if_false, decide_eq_decide]
        omega
theorem cellAt {w : World} {b : Nat} (h : IntAt w.heap b) : ∃ m, w.cell? ⟨b, 0, none⟩ = some (.int .i64 m) := by
  obtain ⟨m, cc, et, fz, h1, h2⟩ := h
  exact ⟨m, by simp [World.cell?, h1, h2]⟩
theorem intAt {w : World} {b : Nat} {m : Int} (h : w.cell? ⟨b, 0, none⟩ = some (.int .i64 m)) : IntAt w.heap b := by
  unfold World.cell? at h
  dsimp only at h
  split at h
  · rename_i c et fz hb
    exact ⟨m, c, et, fz, hb, by simpa using h⟩
  · cases h
/-- strings.Contains is known, at whatever strings -/
theorem contA_ok {P : Program} {f g : Nat} (hg : MaxG P g)
    (hc : ∀ (s sub : ByteArray) (m : Int) (w : World), s.size < 4294967281 → w.cell? ⟨g, 0, none⟩ = some (.int .i64 m) → Calls P f #[.string s, .string sub] w fun e w' => e = .returned (.bool (Lib.contains s.data.toList sub.data.toList)) ∧ w' = w) :
    SumOK P f ⟨contA⟩ := by
  intro args v φ args' w hu ha hfx
  have hu : contA args = some v := hu
  obtain ⟨as⟩ := args'
  unfold contA at hu
  split at hu
  case h_2 => cases hu
  obtain ⟨h1, h2⟩ := when_some hu
  rw [ble_dec] at h1
  have h1 := of_decide_eq_true h1
  cases ha with
  | cons _ x _ xs hx hxs =>
    cases hxs with
    | cons _ y _ ys hy hys =>
      cases hys
      cases hx with
      | str s =>
        cases hy with
        | str u =>
          rw [enc_len] at h1
          rw [sBytes_enc, sBytes_enc, contN_eq, mkB_eq] at h2
          injection h2 with h2
          obtain ⟨m, hm⟩ := cellAt (hfx g hg)
          refine callsIn_wide.2 (Calls.mono (hc s u m w (by
            have h3 : s.data.toList.length = s.data.size := Array.length_toList
            have h4 : s.size = s.data.size := rfl
            omega) hm) fun e w' ⟨k1, k2⟩ => ?_)
          subst k1; subst k2; subst h2
          exact ⟨.bool _, ⟨Nat.le_refl _, fun _ _ => rfl, .refl _⟩⟩
/-! ### two unknown strings -/
def cutS (s : ByteArray) : ByteArray := ⟨(s.data.toList.take 20).toArray⟩
theorem cutS_list (s : ByteArray) : (cutS s).data.toList = s.data.toList.take 20 := by simp [cutS]
theorem cutS_size (s : ByteArray) : (cutS s).size ≤ 20 := by
  rw [ba_size, cutS_list, List.length_take]; omega
/-- another string -/
def othS (c : ByteArray) : ByteArray := if c.size = 0 then ⟨#[0]⟩ else ⟨#[]⟩
theorem othS_ne (c : ByteArray) : othS c ≠ c := by
  unfold othS
  split
  · rename_i h; intro e; rw [← e] at h; exact absurd h (by decide)
  · rename_i h; intro e; rw [← e] at h; exact h rfl
theorem othS_size (c : ByteArray) : (othS c).size ≤ 20 := by
  unfold othS; split <;> decide
open Classical in
noncomputable def cy1 (a b : ByteArray) : ByteArray := if cutS b = cutS a then othS (cutS a) else cutS b
theorem cy1_ne (a b : ByteArray) : cy1 a b ≠ cutS a := by
  unfold cy1
  split
  · exact othS_ne _
  · rename_i h; exact h
theorem cy1_size (a b : ByteArray) : (cy1 a b).size ≤ 20 := by
  unfold cy1
  split
  · exact othS_size _
  · exact cutS_size _
noncomputable def cyS (a b : ByteArray) (i : Nat) : ByteArray := match i with
  | 0 => cutS a
  | _ => cy1 a b
def rawS (a b : ByteArray) (i : Nat) : ByteArray := match i with
  | 0 => a
  | _ => b
noncomputable def ren2 (a b : ByteArray) : Ren := Ren.of (rawS a b) (cyS a b) (fun i j hi hj h => by
  match i, j, hi, hj with
  | 0, 0, _, _ => rfl
  | 1, 1, _, _ => rfl
  | 0, 1, _, _ => exact absurd h.symm (cy1_ne a b)
  | 1, 0, _, _ => exact absurd h (cy1_ne a b)) (fun i => by
  match i with
  | 0 => exact cutS_size a
  | _ + 1 => exact cy1_size a b)
theorem ren2_dom (a b : ByteArray) (id : Nat) : ¬ (ren2 a b).dom id := fun h => h
theorem ren2_a (a b : ByteArray) : VRel (ren2 a b) (.uns 0 0) (.string a) := VRel.uns (φ := ren2 a b) 0 0 (cutS_list a).symm
/-- the second one, where the cuts differ -/
theorem ren2_b (a b : ByteArray) (h : cutS b ≠ cutS a) : VRel (ren2 a b) (.uns 1 1) (.string b) := VRel.uns (φ := ren2 a b) 1 1 (by
  show b.data.toList.take 20 = (cy1 a b).data.toList
  unfold cy1
  rw [if_neg h, cutS_list])
/-- and where they are the same -/
theorem ren2_c (a b : ByteArray) (h : cutS b = cutS a) : VRel (ren2 a b) (.uns 1 0) (.string b) := VRel.uns (φ := ren2 a b) 1 0 (by
  show b.data.toList.take 20 = (cutS a).data.toList
  rw [← h, cutS_list])
end Go.Proofs.YtcbacbfjjahcbaaGreatDoor.Ev
