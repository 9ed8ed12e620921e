/- An evaluator over abstract values and the proof that what it reckons is what the model's calls do: part 5 of 10. -/
import Derived.Test.YtcbacbfjjahcbaaGreatDoorEvD
import Derived.Laws.MakeOwn
import Derived.Laws.IdiomCopy
import Derived.Laws.Append
namespace Go.Proofs.YtcbacbfjjahcbaaGreatDoor.Ev
set_option linter.unusedVariables false
set_option linter.unusedSimpArgs false
open Go
section
variable {P : Program} {tt : TT} {sl : SL} {o : Oper}

/-- cells over others, for any cells -/
def setR {α : Type} : List α → Nat → List α → List α
  | [], _, _ => []
  | c :: cs, off, l => match off with
    | k + 1 => c :: setR cs k l
    | 0 => match l with
      | [] => c :: cs
      | v :: l => v :: setR cs 0 l
theorem setRg_eq : ∀ (cs : List AVal) (off : Nat) (l : List AVal), setRg cs off l = setR cs off l
  | [], _, _ => rfl
  | c :: cs, k + 1, l => by simp only [setRg, setR, setRg_eq cs k l]
  | c :: cs, 0, [] => rfl
  | c :: cs, 0, v :: l => by simp only [setRg, setR, setRg_eq cs 0 l]
theorem setR_nil {α : Type} : ∀ (cs : List α) (off : Nat), setR cs off [] = cs
  | [], _ => rfl
  | c :: cs, k + 1 => by simp only [setR, setR_nil cs k]
  | c :: cs, 0 => rfl
theorem setR_cons {α : Type} : ∀ (cs : List α) (off : Nat) (v : α) (l : List α), setR cs off (v :: l) = setR (cs.set off v) (off + 1) l
  | [], _, _, _ => rfl
  | c :: cs, 0, v, l => by simp [setR]
  | c :: cs, k + 1, v, l => by simp only [setR, List.set_cons_succ, setR_cons cs k v l]
theorem setR_rel {φ : Ren} : ∀ {cs : List AVal} {cs' : List Value} (off : Nat) {l : List AVal} {l' : List Value}, VRelL φ cs cs' → VRelL φ l l' → VRelL φ (setR cs off l) (setR cs' off l')
  | [], _, _, _, _, .nil, _ => .nil
  | c :: cs, _, k + 1, l, l', .cons _ x _ xs hx hxs, hl => .cons _ _ _ _ hx (setR_rel k hxs hl)
  | c :: cs, _, 0, _, _, .cons _ x _ xs hx hxs, .nil => .cons _ _ _ _ hx hxs
  | c :: cs, _, 0, _, _, .cons _ x _ xs hx hxs, .cons v y l l' hv hl => .cons _ _ _ _ hv (setR_rel 0 hxs hl)
theorem setR_mem {α : Type} {p : α → Prop} : ∀ {cs : List α} (off : Nat) {l : List α}, (∀ x ∈ cs, p x) → (∀ x ∈ l, p x) → ∀ x ∈ setR cs off l, p x
  | [], _, _, _, _, x, hx => by cases hx
  | c :: cs, k + 1, l, h1, h2, x, hx => by
    rcases List.mem_cons.1 hx with rfl | hx
    · exact h1 _ (by simp)
    · exact setR_mem k (fun y hy => h1 y (by simp [hy])) h2 x hx
  | c :: cs, 0, [], h1, h2, x, hx => h1 x hx
  | c :: cs, 0, v :: l, h1, h2, x, hx => by
    rcases List.mem_cons.1 hx with rfl | hx
    · exact h2 _ (by simp)
    · exact setR_mem 0 (fun y hy => h1 y (by simp [hy])) (fun y hy => h2 y (by simp [hy])) x hx
theorem setR_length {α : Type} : ∀ (cs : List α) (off : Nat) (l : List α), (setR cs off l).length = cs.length
  | [], _, _ => rfl
  | c :: cs, k + 1, l => by simp [setR, setR_length cs k l]
  | c :: cs, 0, [] => rfl
  | c :: cs, 0, v :: l => by simp [setR, setR_length cs 0 l]
theorem fold_set (off : Nat) : ∀ (l : List Value) (k : Nat) (cs : Array Value), ((l.zipIdx k).foldl (fun cs (c : Value × Nat) => cs.setIfInBounds (off + c.2) c.1) cs).toList = setR cs.toList (off + k) l
  | [], k, cs => by simp [setR_nil]
  | c :: l, k, cs => by
    simp only [List.zipIdx_cons, List.foldl_cons]
    rw [fold_set off l (k + 1)]
    rw [Array.toList_setIfInBounds, setR_cons]; rfl
theorem fill_ok {φ : Ren} {vs : List AVal} {ρ : T AVal} {a : Act} {place place' : Nat → Option (Nat × Nat)} (hpl : ∀ i q, place i = some q → place' i = some q) :
    ∀ (ps : List (Nat × Operand)) (cs : List AVal) (cs' : Array Value) (r : List AVal), (∀ p ∈ ps, VRel φ ((vk sl p.2).get vs ρ) (a.eval p.2)) → VRelL φ cs cs'.toList → (∀ x ∈ cs'.toList, x.oneCell' = true) →
      (partsK sl place ps).fill vs ρ cs = some r → ∃ r', Instr.fill place' cs' (ps.map fun p => (p.1, a.eval p.2)) = some r' ∧ VRelL φ r r'.toList ∧ (∀ x ∈ r'.toList, x.oneCell' = true) ∧ r.length = cs.length
  | [], cs, cs', r, _, hc, h1, h => by cases h; exact ⟨cs', rfl, hc, h1, rfl⟩
  | p :: ps, cs, cs', r, hp, hc, h1, h => by
    simp only [partsK] at h
    cases hq : place p.1 with
    | none => rw [hq] at h; cases h
    | some q =>
      rw [hq] at h
      obtain ⟨l, h2, h3⟩ := ob_some (show ob ((vk sl p.2).get vs ρ).cells (fun l => when (Nat.beq l.length q.2) (when (Nat.ble (Nat.add q.1 q.2) cs.length) ((partsK sl place ps).fill vs ρ (setRg cs q.1 l)))) = some r from h)
      obtain ⟨h4, h5⟩ := when_some h3
      obtain ⟨h6, h7⟩ := when_some h5
      rw [beq_dec] at h4
      rw [ble_dec] at h6
      have h4 : l.length = q.2 := of_decide_eq_true h4
      have h6 : q.1 + q.2 ≤ cs.length := of_decide_eq_true h6
      obtain ⟨g1, g2⟩ := cells_rel (hp p (by simp)) h2
      have hl : l.length = (a.eval p.2).cells.size := by rw [g1.length]; simp
      have hcl : cs.length = cs'.size := by rw [hc.length]; simp
      rw [setRg_eq] at h7
      have hfold : ((a.eval p.2).cells.zipIdx.foldl (fun cs (c, j) => cs.setIfInBounds (q.1 + j) c) cs').toList = setR cs'.toList q.1 (a.eval p.2).cells.toList := by
        have := fold_set q.1 (a.eval p.2).cells.toList 0 cs'
        rw [Nat.add_zero] at this
        rw [← this, ← Array.foldl_toList, Array.toList_zipIdx]
      obtain ⟨r', e1, e2, e3, e4⟩ := fill_ok hpl ps (setR cs q.1 l) ((a.eval p.2).cells.zipIdx.foldl (fun cs (c, j) => cs.setIfInBounds (q.1 + j) c) cs') r
        (fun p' hp' => hp p' (by simp [hp'])) (by rw [hfold]; exact setR_rel q.1 hc g1) (by rw [hfold]; exact setR_mem q.1 h1 g2) h7
      refine ⟨r', ?_, e2, e3, by rw [e4, setR_length]⟩
      simp only [List.map_cons, Instr.fill, hpl _ _ hq]
      rw [if_neg (by simp; omega)]
      exact e1
theorem parts_eq (ps : Array (Nat × Operand)) (a : Act) : (ps.map fun (i, x) => (i, a.eval x)).toList = ps.toList.map fun p => (p.1, a.eval p.2) := by
  rw [Array.toList_map]
theorem places_ok : ∀ (fs : List Field), (∀ f ∈ fs, (P.info? f.type).isSome = true) → ∃ places : List (Nat × Nat), fs.mapM (fun f => (P.info? f.type).map fun i => (f.offset, i.size)) = some places ∧
    ∀ (i : Nat) (f : Field) (inf : TypeInfo), fs[i]? = some f → P.info? f.type = some inf → places[i]? = some (f.offset, inf.size)
  | [], _ => ⟨[], rfl, by simp⟩
  | f :: fs, h => by
    obtain ⟨inf, h1⟩ := Option.isSome_iff_exists.1 (h f (by simp))
    obtain ⟨pl, h2, h3⟩ := places_ok fs (fun g hg => h g (by simp [hg]))
    refine ⟨(f.offset, inf.size) :: pl, by simp [List.mapM_cons, h1, h2], fun i g inf' hg hi => ?_⟩
    cases i with
    | zero =>
      simp at hg; subst hg
      rw [h1] at hi; injection hi with hi; subst hi; simp
    | succ i => simpa using h3 i g inf' (by simpa using hg) hi
theorem pBuildS (hT : TTok P tt) {t : TypeId} {ps : Array (Nat × Operand)} (ho : o.op = .build t ps) {i : TI} (k : TIok P t i) {fs : List (Nat × TypeId × Bool)} (hd : i.desc = .struct fs) :
    POK P sl o (fun vs ρ => ob ((partsK sl (fieldPl tt fs) ps.toList).fill vs ρ i.zc) fun cs => some (.agg cs)) := by
  intro φ vs ρ a w v hl hf
  obtain ⟨cs, h1, h2⟩ := ob_some hf
  injection h2 with h2; subst h2
  have hdd := k.hdesc
  rw [hd] at hdd
  obtain ⟨fields, hdd, hfs⟩ := hdd
  obtain ⟨pl, g1, g2⟩ := places_ok (P := P) fields.toList (k.hfld fields hdd)
  have hpl : ∀ j q, fieldPl tt fs j = some q → pl.toArray[j]? = some q := by
    intro j q hq
    obtain ⟨f, e1, e2⟩ := ob_some hq
    obtain ⟨ti, e3, e4⟩ := ob_some e2
    cases e4
    rw [nth_eq, hfs] at e1
    simp only [List.getElem?_map, Option.map_eq_some_iff] at e1
    obtain ⟨fd, e5, e6⟩ := e1
    subst e6
    obtain ⟨kt⟩ := hT _ _ e3
    have := g2 j fd kt.inf e5 kt.hinfo
    rw [kt.hsize] at this
    simpa using this
  obtain ⟨r', e1, e2, e3, _⟩ := fill_ok (sl := sl) (φ := φ) (a := a) hpl ps.toList i.zc k.zero.cells cs (fun p hp => hl.at ho (by simp [Op.operands]; exact ⟨p.1, by simpa using hp⟩)) (k.hzc φ) k.hz1 h1
  refine ⟨.agg r', ?_, .agg _ _ e2 e3⟩
  have hb : P.built t (ps.map fun (i, x) => (i, a.eval x)).toList = some r' := by
    rw [parts_eq]
    simp only [Program.built, k.hinfo, k.hund, hdd, k.hzero, g1]
    exact e1
  simp only [execOp, ho, Sem.run_bind, run_build w t _ r' hb]; rfl
theorem pBuildA {t : TypeId} {ps : Array (Nat × Operand)} (ho : o.op = .build t ps) {i : TI} (k : TIok P t i) {n : Nat} {e : TypeId} (hd : i.desc = .arr n e) {ei : TI} (ke : TIok P e ei) :
    POK P sl o (fun vs ρ => ob ((partsK sl (elemPl ei.size) ps.toList).fill vs ρ i.zc) fun cs => some (.agg cs)) := by
  intro φ vs ρ a w v hl hf
  obtain ⟨cs, h1, h2⟩ := ob_some hf
  injection h2 with h2; subst h2
  have hdd := k.hdesc
  rw [hd] at hdd
  have hdd : k.desc = .array n e := hdd
  obtain ⟨r', e1, e2, e3, _⟩ := fill_ok (sl := sl) (φ := φ) (a := a) (place' := fun i => some (i * ei.size, ei.size)) (fun i q h => h) ps.toList i.zc k.zero.cells cs
    (fun p hp => hl.at ho (by simp [Op.operands]; exact ⟨p.1, by simpa using hp⟩)) (k.hzc φ) k.hz1 h1
  refine ⟨.agg r', ?_, .agg _ _ e2 e3⟩
  have hb : P.built t (ps.map fun (i, x) => (i, a.eval x)).toList = some r' := by
    rw [parts_eq]
    simp only [Program.built, k.hinfo, k.hund, hdd, k.hzero, ke.hinfo, ke.hsize]
    exact e1
  simp only [execOp, ho, Sem.run_bind, run_build w t _ r' hb]; rfl
end
end Go.Proofs.YtcbacbfjjahcbaaGreatDoor.Ev
namespace Go.Proofs.YtcbacbfjjahcbaaGreatDoor.Ev
set_option linter.unusedVariables false
set_option linter.unusedSimpArgs false
open Go
section
variable {P : Program} {tt : TT} {sl : SL} {o : Oper}

/-- what is asked of an allocating closure -/
def AOK (P : Program) (sl : SL) (o : Oper) (f : List AVal → T AVal → Nat → Option (AObj × AVal)) : Prop :=
  ∀ (φ : Ren) (vs : List AVal) (ρ : T AVal) (a : Act) (w : World) (id : Nat) (ob : AObj) (v : AVal), ORel φ sl vs ρ a o → ¬ φ.dom id → f vs ρ id = some (ob, v) →
    ∃ x o' w' cap sz, (execOp a.eval o).run P w = .ok (.value x) w' ∧ w'.heap = w.heap.push o' ∧ VRel (φ.add id w.heap.size 0 cap sz) v x ∧ OObj P (φ.add id w.heap.size 0 cap sz) id ob o' ∧ Still w w'
section
variable {φ : Ren} {id b cap sz : Nat}
theorem add_blk : (φ.add id b 0 cap sz).blk id = b := by simp [Ren.add]
theorem add_off : (φ.add id b 0 cap sz).off id = 0 := by simp [Ren.add]
theorem add_cap : (φ.add id b 0 cap sz).cap id = cap := by simp [Ren.add]
theorem add_sz : (φ.add id b 0 cap sz).sz id = sz := by simp [Ren.add]
theorem add_dom : (φ.add id b 0 cap sz).dom id := .inl rfl
theorem add_base0 {k : Nat} : baseOf (φ.add id b 0 cap sz) id k = ⟨b, k, none⟩ := by simp [baseOf, Ren.add]
end
/-- a new row -/
theorem row_obj {φ : Ren} {id b cap : Nat} {et : TypeId} {l : List AVal} {cc : Array Value} (hd : ¬ φ.dom id) (hl : VRelL φ l cc.toList) (h1 : ∀ x ∈ cc.toList, x.oneCell' = true) (hc : cap = l.length) (hi : Option Nat) (hhi : ∀ u, hi = some u → cap ≤ u) :
    OObj P (φ.add id b 0 cap (P.cellsOf et)) id (.cells (T.ofList l) l.length hi et) (.cells cc et (0, 0)) := by
  have hs : cc.size = l.length := by rw [hl.length]; simp
  refine ⟨cc, (0, 0), rfl, .inl rfl, ?_, ?_, ?_, ?_, ?_, ?_⟩
  · rw [add_off, add_cap]; omega
  · rw [add_cap]; omega
  · intro u hu; rw [add_cap]; exact hhi u hu
  · rw [add_sz]
  · rw [add_off]; exact Nat.zero_mod _
  · intro k v hk
    have := T.get_ofList hk
    obtain ⟨x, hx, hr⟩ := hl.get k v this
    have hlt : k < l.length := (List.getElem?_eq_some_iff.1 this).1
    refine ⟨by rw [add_cap]; omega, x, by rw [add_off, Nat.zero_add]; simpa using hx, hr.mono (φ.le_add _ _ _ _ _ hd), h1 x (List.mem_of_getElem? hx)⟩
theorem rowObj_eq (et : TypeId) (l : List AVal) : rowObj et l = .cells (T.ofList l) l.length (some l.length) et := by simp [rowObj, seqN_eq]
theorem rowObjU_eq (et : TypeId) (l : List AVal) : rowObjU et l = .cells (T.ofList l) l.length none et := by simp [rowObjU, seqN_eq]
theorem aAlloc {e : TypeId} (ho : o.op = .alloc e) {i : TI} (k : TIok P e i) : AOK P sl o (fun _ _ id => some (rowObj e i.zc, .ptr id 0)) := by
  intro φ vs ρ a w id ob v hl hd hf
  cases hf
  refine ⟨.pointer (some ⟨w.heap.size, 0, none⟩), .cells k.zero.cells e (0, 0), { w with heap := w.heap.push (.cells k.zero.cells e (0, 0)) }, i.zc.length, P.cellsOf e, ?_, rfl, ?_, ?_, ⟨rfl, rfl⟩⟩
  · have hz := k.rZero (w := w)
    simp only [execOp, ho, Instr.alloc, Sem.run_bind, hz, Result.andThen_ok]
    rfl
  · rw [← add_base0 (φ := φ) (id := id)]; exact .ptr _ _ add_dom
  · rw [rowObj_eq]
    exact row_obj hd (k.hzc φ) k.hz1 rfl _ (fun u hu => by injection hu with hu; omega)
theorem aBox {e : TypeId} {x : Operand} (ho : o.op = .box e x) : AOK P sl o (fun vs ρ id => Ev.ob ((vk sl x).get vs ρ).cells fun l => some (rowObj e l, .ptr id 0)) := by
  intro φ vs ρ a w id ob v hl hd hf
  obtain ⟨l, h1, h2⟩ := ob_some hf
  cases h2
  obtain ⟨g1, g2⟩ := cells_rel (hl.at ho (x := x) (by simp [Op.operands])) h1
  refine ⟨.pointer (some ⟨w.heap.size, 0, none⟩), .cells (a.eval x).cells e (0, 0), { w with heap := w.heap.push (.cells (a.eval x).cells e (0, 0)) }, l.length, P.cellsOf e, ?_, rfl, ?_, ?_, ⟨rfl, rfl⟩⟩
  · simp only [execOp, ho, Instr.box, Sem.run_bind]
    rfl
  · rw [← add_base0 (φ := φ) (id := id)]; exact .ptr _ _ add_dom
  · rw [rowObj_eq]
    exact row_obj hd g1 g2 rfl _ (fun u hu => by injection hu with hu; omega)
theorem aMakeMap {t : TypeId} (ho : o.op = .makeMap t none) : AOK P sl o (fun _ _ id => some (.map [] 0, .map id)) := by
  intro φ vs ρ a w id ob v hl hd hf
  cases hf
  refine ⟨.map (some w.heap.size), .map #[] 0, { w with heap := w.heap.push (.map #[] 0) }, 0, 0, ?_, rfl, ?_, ⟨#[], rfl, .nil⟩, ⟨rfl, rfl⟩⟩
  · simp only [execOp, ho, Instr.makeMap, Sem.run_bind, Option.map_none]
    rfl
  · have : VRel (φ.add id w.heap.size 0 0 0) (.map id) (.map (some ((φ.add id w.heap.size 0 0 0).blk id))) := .map _ add_dom
    rw [add_blk] at this; exact this
theorem aMakeMapR {t : TypeId} {x : Operand} (ho : o.op = .makeMap t (some x)) {i : TI} (k : TIok P t i) {ka e : TypeId} (hd : i.desc = .map ka e) : AOK P sl o (fun vs ρ id => mkMapV id ((vk sl x).get vs ρ)) := by
  intro φ vs ρ a w id ob v hl hdm hf
  have hx := hl.at ho (x := x) (by simp [Op.operands])
  have hf : mkMapV _ _ = _ := hf
  generalize (vk sl x).get vs ρ = u at hx hf
  generalize he : a.eval x = y at hx
  have hdd := k.hdesc
  rw [hd] at hdd
  have hdd : k.desc = .map ka e := hdd
  cases hx <;> try (cases hf; done)
  cases hf
  refine ⟨.map (some w.heap.size), .map #[] 0, { w with heap := w.heap.push (.map #[] 0) }, 0, 0, ?_, rfl, ?_, ⟨#[], rfl, .nil⟩, ⟨rfl, rfl⟩⟩
  · simp only [execOp, ho, Instr.makeMap, Sem.run_bind, Option.map_some, he, k.rUnd, hdd, Result.andThen_ok]
    rfl
  · have : VRel (φ.add id w.heap.size 0 0 0) (.map id) (.map (some ((φ.add id w.heap.size 0 0 0).blk id))) := .map _ add_dom
    rw [add_blk] at this; exact this
end
end Go.Proofs.YtcbacbfjjahcbaaGreatDoor.Ev
namespace Go.Proofs.YtcbacbfjjahcbaaGreatDoor.Ev
set_option linter.unusedVariables false
set_option linter.unusedSimpArgs false
open Go
section
variable {P : Program} {tt : TT} {sl : SL} {o : Oper}

theorem repl_rel {φ : Ren} {l : List AVal} {l' : List Value} (h : VRelL φ l l') : ∀ (n : Nat) {acc : List AVal} {acc' : List Value}, VRelL φ acc acc' → VRelL φ (repl l n acc) (repl l' n acc')
  | 0, _, _, ha => ha
  | n + 1, _, _, ha => repl_rel h n (h.append ha)
theorem repl_length {α : Type} (l : List α) : ∀ (n : Nat) (acc : List α), (repl l n acc).length = n * l.length + acc.length
  | 0, acc => by simp [repl]
  | n + 1, acc => by
    simp only [repl]
    rw [repl_length l n, List.length_append, Nat.add_mul]; omega
theorem repl_mem {α : Type} {l : List α} {p : α → Prop} (h : ∀ x ∈ l, p x) : ∀ (n : Nat) {acc : List α}, (∀ x ∈ acc, p x) → ∀ x ∈ repl l n acc, p x
  | 0, _, ha, x, hx => ha x hx
  | n + 1, acc, ha, x, hx => repl_mem h n (acc := l ++ acc) (fun y hy => by
      rcases List.mem_append.1 hy with hy | hy
      · exact h y hy
      · exact ha y hy) x hx
theorem repl_flat {α : Type} (l : List α) : ∀ (n : Nat) (acc : List α), repl l n acc = (List.replicate n l).flatten ++ acc
  | 0, acc => by simp [repl]
  | n + 1, acc => by
    rw [repl, repl_flat l n, List.replicate_succ', List.flatten_append]; simp
theorem range_mod (z : Array Value) (hz : 0 < z.size) : ∀ n : Nat, (List.range (n * z.size)).map (fun i => z[i % z.size]!) = (List.replicate n z.toList).flatten
  | 0 => by simp
  | n + 1 => by
    rw [Nat.add_mul, Nat.one_mul, List.range_add, List.map_append, range_mod z hz n, List.replicate_succ', List.flatten_append, List.map_map]
    congr 1
    simp only [List.flatten_cons, List.flatten_nil, List.append_nil]
    apply List.ext_getElem
    · simp
    · intro i h1 h2
      have hi : i < z.size := by simpa using h1
      simp [Nat.mul_add_mod_self_right, Nat.mod_eq_of_lt hi, hi]
theorem repl_range (z : Array Value) (hz : 0 < z.size) (n : Nat) : ((Array.range (n * z.size)).map (z[· % z.size]!)).toList = repl z.toList n [] := by
  rw [repl_flat, List.append_nil, ← range_mod z hz n, Array.toList_map, Array.toList_range]
theorem zero_size {t : TypeId} {i : TI} (k : TIok P t i) : k.zero.cells.size = i.size := by
  have := (k.hzc Ren.none).length
  rw [k.hzn] at this
  rw [this]; simp
/-- a slice over a whole new row -/
theorem new_slice {φ : Ren} {id b cap sz len : Nat} {lim : Option Nat} (hl : len * sz ≤ cap) (hlim : lim = none) (c : Nat) (hc : c * sz = cap) (hlc : len ≤ c) :
    VRel (φ.add id b 0 cap sz) (.slice id 0 len lim) (.slice (some ⟨b, 0, none⟩) len c) := by
  refine .slice _ _ _ _ _ _ add_dom hlc (fun _ => by rw [add_base0]) (by rw [add_sz, add_cap]; omega) (fun _ => by rw [add_sz, add_cap]; omega) (fun k hk => by rw [hlim] at hk; cases hk)
theorem aBuildSlice {t : TypeId} {len : Nat} {ps : Array (Nat × Operand)} (ho : o.op = .buildSlice t len ps) {i : TI} (k : TIok P t i) {e : TypeId} (hd : i.desc = .slice e) {ei : TI} (ke : TIok P e ei) (hs : ei.size ≠ 0) (hb : Nat.mul len ei.size ≤ 100000) :
    AOK P sl o (fun vs ρ id => Ev.ob ((partsK sl (elemPl ei.size) ps.toList).fill vs ρ (repl ei.zc len [])) fun cs => some (rowObj e cs, .slice id 0 len none)) := by
  intro φ vs ρ a w id ob v hl hdm hf
  obtain ⟨cs, h1, h2⟩ := ob_some hf
  cases h2
  have hdd := k.hdesc
  rw [hd] at hdd
  have hdd : k.desc = .slice e := hdd
  have hzs := zero_size ke
  have hb : len * ei.size ≤ 100000 := hb
  have hrep : ((Array.range (len * ei.size)).map (ke.zero.cells[· % ke.zero.cells.size]!)).toList = repl ke.zero.cells.toList len [] := by
    rw [← hzs]; exact repl_range _ (by omega) len
  obtain ⟨r', e1, e2, e3, e4⟩ := fill_ok (sl := sl) (φ := φ) (a := a) (place' := fun i => some (i * ei.size, ei.size)) (fun i q h => h) ps.toList (repl ei.zc len []) ((Array.range (len * ei.size)).map (ke.zero.cells[· % ke.zero.cells.size]!)) cs
    (fun p hp => hl.at ho (by simp [Op.operands]; exact ⟨p.1, by simpa using hp⟩)) (by rw [hrep]; exact repl_rel (ke.hzc φ) len .nil) (by rw [hrep]; exact repl_mem ke.hz1 len (by simp)) h1
  have hlen : cs.length = len * ei.size := by rw [e4, repl_length, ke.hzn]; simp
  refine ⟨.slice (some ⟨w.heap.size, 0, none⟩) len len, .cells r' e (0, 0), w.alloc (.cells r' e), len * ei.size, P.cellsOf e, ?_, rfl, ?_, ?_, ⟨rfl, rfl⟩⟩
  · rw [← parts_eq] at e1
    by_cases h0 : len * ei.size = 0
    · have hl0 : len = 0 := by
        rcases Nat.mul_eq_zero.1 h0 with h | h
        · exact h
        · exact absurd h hs
      have hz := ke.rSize (w := w)
      simp only [execOp, ho, Instr.buildSlice, Sem.run_bind, k.rUnd, hdd, Result.andThen_ok, hz, h0]
      rw [h0] at e1
      have e1' : Instr.fill (fun i => some (i * ei.size, ei.size)) ((Array.range 0).map ((#[] : Array Value)[· % (#[] : Array Value).size]!)) (ps.map fun (i, x) => (i, a.eval x)).toList = some r' := by
        have : (Array.range 0).map ((#[] : Array Value)[· % (#[] : Array Value).size]!) = (Array.range 0).map (ke.zero.cells[· % ke.zero.cells.size]!) := by simp
        rw [this]; exact e1
      simp only [show ¬ ((0 : Nat) > 2 ^ 24) from by decide, if_false, if_true, Sem.run_bind, Sem.run_pure, Result.andThen_ok, e1', newRow]
      rfl
    · have := run_buildSlice (P := P) w t e len _ r' ke.inf ke.zero (by rw [k.hund, hdd]) ke.hinfo ke.hzero (by rw [ke.hsize]; omega) (by rw [ke.hsize]; exact h0) (by rw [ke.hsize]; exact e1)
      simp only [execOp, ho, Sem.run_bind, this]; rfl
  · rw [ke.cells]; exact new_slice (Nat.le_refl _) rfl len rfl (Nat.le_refl _)
  · rw [rowObj_eq]
    exact row_obj hdm e2 e3 hlen.symm _ (fun u hu => by injection hu with hu; omega)
theorem aMakeSlice {t : TypeId} {l c : Operand} (ho : o.op = .makeSlice t l c) {i : TI} (k : TIok P t i) {e : TypeId} (hd : i.desc = .slice e) {ei : TI} (ke : TIok P e ei) (hs : ei.size ≠ 0) :
    AOK P sl o (fun vs ρ id => natV (fun c => natV (fun l => mkRowV e ei.zc id l c) ((vk sl l).get vs ρ)) ((vk sl c).get vs ρ)) := by
  intro φ vs ρ a w id ob v hl hdm hf
  obtain ⟨kc, nc, h1, h2⟩ := natV_some hf
  obtain ⟨kl, nl, h3, h4⟩ := natV_some h2
  have hc := hl.at ho (x := c) (by simp [Op.operands])
  have hll := hl.at ho (x := l) (by simp [Op.operands])
  rw [h1] at hc
  rw [h3] at hll
  generalize hce : a.eval c = cv at hc
  generalize hle : a.eval l = lv at hll
  cases hc; cases hll
  obtain ⟨h5, h6⟩ := when_some h4
  obtain ⟨h7, h8⟩ := when_some h6
  cases h8
  rw [ble_dec] at h5 h7
  have h5 := of_decide_eq_true h5
  have h7 := of_decide_eq_true h7
  have hdd := k.hdesc
  rw [hd] at hdd
  have hdd : k.desc = .slice e := hdd
  have hzs := zero_size ke
  have hrep : ((Array.range (nc * ei.size)).map (ke.zero.cells[· % ke.zero.cells.size]!)).toList = repl ke.zero.cells.toList nc [] := by
    rw [← hzs]; exact repl_range _ (by omega) nc
  generalize hrow : ((Array.range (nc * ei.size)).map (ke.zero.cells[· % ke.zero.cells.size]!)) = row at hrep
  have hlen : (repl ei.zc nc []).length = nc * ei.size := by rw [repl_length, ke.hzn]; simp
  refine ⟨.slice (some ⟨w.heap.size, 0, none⟩) nl nc, .cells row e (0, 0), w.alloc (.cells row e), nc * ei.size, P.cellsOf e, ?_, rfl, ?_, ?_, ⟨rfl, rfl⟩⟩
  · have hby : ke.inf.bytes * nc ≤ 100000000000 := by
      calc ke.inf.bytes * nc ≤ 1000000 * 100000 := Nat.mul_le_mul ke.hbytes h7
        _ = _ := rfl
    have hby' : (ke.inf.bytes : Int) * (nc : Int) ≤ 281474976710656 := by
      have : ((ke.inf.bytes * nc : Nat) : Int) ≤ 281474976710656 := by omega
      rwa [Int.natCast_mul] at this
    have := run_make (P := P) w t e ke.inf ke.zero (by rw [k.hund, hdd]) ke.hinfo ke.hzero kl kc (nl : Int) (nc : Int) (by omega) (by omega) hby' (by omega)
    simp only [Int.toNat_natCast, ke.hsize] at this
    simp only [execOp, ho, Sem.run_bind, hce, hle, Int.ofNat_eq_natCast, this, Result.andThen_ok, Sem.run_pure, madeCells, hrow]
  · rw [ke.cells]; exact new_slice (Nat.mul_le_mul_right _ h5) rfl nc rfl h5
  · rw [rowObj_eq]
    rw [← hrow] at hrep ⊢
    exact row_obj hdm (by rw [hrep]; exact repl_rel (ke.hzc φ) nc .nil) (by rw [hrep]; exact repl_mem ke.hz1 nc (by simp)) hlen.symm _ (fun u hu => by injection hu with hu; omega)
end
end Go.Proofs.YtcbacbfjjahcbaaGreatDoor.Ev
namespace Go.Proofs.YtcbacbfjjahcbaaGreatDoor.Ev
set_option linter.unusedVariables false
set_option linter.unusedSimpArgs false
open Go
section
variable {P : Program} {tt : TT} {sl : SL} {o : Oper}

/-- what is asked of an effect that makes no call -/
def EOK (P : Program) (sl : SL) (o : Oper) (f : List AVal → T AVal → Heap → M AVal) : Prop :=
  ∀ (φ : Ren) (h : Heap) (vs : List AVal) (ρ : T AVal) (a : Act) (w : World) (outs : List (AVal × Heap)), ORel φ sl vs ρ a o → HRel P φ h w.heap → f vs ρ h = some outs →
    ∃ nx w' x ψ vh, (execOp a.eval o).run P w = .ok nx w' ∧ (nx = .value x ∨ (nx = .skip ∧ x = undef)) ∧ vh ∈ outs ∧ HRel P ψ vh.2 w'.heap ∧ Tr φ h w.heap ψ vh.2 w'.heap ∧ VRel ψ vh.1 x ∧ Still w w'
theorem setR_in {α : Type} {x : α} : ∀ (cs : List α) (o : Nat) (l : List α) (j : Nat), o ≤ j → j < cs.length → l[j - o]? = some x → (setR cs o l)[j]? = some x
  | [], _, _, j, _, h, _ => by simp at h
  | c :: cs, k + 1, l, j, h1, h2, h3 => by
    cases j with
    | zero => omega
    | succ j =>
      simp only [setR, List.getElem?_cons_succ]
      exact setR_in cs k l j (by omega) (by simpa using h2) (by rw [show j - k = j + 1 - (k + 1) from by omega]; exact h3)
  | c :: cs, 0, [], j, _, _, h3 => by simp at h3
  | c :: cs, 0, v :: l, 0, _, _, h3 => by simpa [setR] using h3
  | c :: cs, 0, v :: l, j + 1, _, h2, h3 => by
    simp only [setR, List.getElem?_cons_succ]
    exact setR_in cs 0 l j (by omega) (by simpa using h2) (by simpa using h3)
theorem setR_out {α : Type} : ∀ (cs : List α) (o : Nat) (l : List α) (j : Nat), (j < o ∨ o + l.length ≤ j) → (setR cs o l)[j]? = cs[j]?
  | [], _, _, j, _ => rfl
  | c :: cs, k + 1, l, j, h => by
    cases j with
    | zero => rfl
    | succ j => simp only [setR, List.getElem?_cons_succ]; exact setR_out cs k l j (by omega)
  | c :: cs, 0, [], j, _ => rfl
  | c :: cs, 0, v :: l, 0, h => by simp at h
  | c :: cs, 0, v :: l, j + 1, h => by
    simp only [setR, List.getElem?_cons_succ]
    exact setR_out cs 0 l j (by simp at h; omega)
theorem setCell_heap {w : World} {b o : Nat} {v : Value} {cc : Array Value} {et : TypeId} {fz : Nat × Nat} (hb : w.heap[b]? = some (.cells cc et fz)) :
    Upd w.heap (w.setCell ⟨b, o, none⟩ v).heap b (.cells (cc.setIfInBounds o v) et fz) := by
  have hlt := (Array.getElem?_eq_some_iff.1 hb).1
  refine ⟨by simp [World.setCell], ?_, fun k hk => ?_⟩
  · simp only [World.setCell, Array.getElem?_modify]; simp [hb]
  · simp only [World.setCell, Array.getElem?_modify]; rw [if_neg (fun e => hk e.symm)]
theorem setCells_heap {b : Nat} : ∀ (vs : List Value) (o : Nat) (w : World) (cc : Array Value) {et : TypeId} {fz : Nat × Nat}, w.heap[b]? = some (.cells cc et fz) →
    ∃ cc' : Array Value, Upd w.heap (w.setCells b o vs).heap b (.cells cc' et fz) ∧ cc'.toList = setR cc.toList o vs
  | [], o, w, cc, et, fz, hb => ⟨cc, ⟨rfl, hb, fun _ _ => rfl⟩, (setR_nil _ _).symm⟩
  | v :: vs, o, w, cc, et, fz, hb => by
    have U := setCell_heap (o := o) (v := v) hb
    obtain ⟨cc', U', e⟩ := setCells_heap vs (o + 1) (w.setCell ⟨b, o, none⟩ v) _ U.at_
    refine ⟨cc', ⟨U'.size.trans U.size, U'.at_, fun k hk => (U'.other k hk).trans (U.other k hk)⟩, ?_⟩
    rw [e, Array.toList_setIfInBounds, setR_cons]
theorem not_frozen {w : World} {et : TypeId} {cc : Array Value} {fz : Nat × Nat} {b k : Nat} (hb : w.heap[b]? = some (.cells cc et fz)) (hf : FzOk P et cc.size fz) (hk : k < cc.size) : w.frozen? ⟨b, k, none⟩ = false := by
  simp only [World.frozen?, hb]
  rcases hf with rfl | ⟨_, h⟩
  · simp
  · obtain ⟨lo, hi⟩ := fz
    simp at h ⊢; omega
theorem setCells_still {b : Nat} : ∀ (vs : List Value) (o : Nat) (w : World), Still w (w.setCells b o vs)
  | [], _, w => .refl w
  | v :: vs, o, w => (⟨rfl, rfl⟩ : Still w (w.setCell ⟨b, o, none⟩ v)).trans (setCells_still vs (o + 1) _)
/-- cells are written -/
theorem store_ok {φ : Ren} {h : Heap} {w : World} (H : HRel P φ h w.heap) {id off : Nat} (hd : φ.dom id) {l : List AVal} {l' : List Value} (hl : VRelL φ l l') (h1 : ∀ x ∈ l', x.oneCell' = true) {h' : Heap} (hs : storeAt id off l h = some h') :
    ∃ w', (storeCells (baseOf φ id off) l').run P w = .ok () w' ∧ HRel P φ h' w'.heap ∧ Tr φ h w.heap φ h' w'.heap ∧ Still w w' := by
  unfold storeAt storeObj at hs
  split at hs
  · rename_i c lo hi et hg
    obtain ⟨h2, h3⟩ := when_some hs
    rw [ble_dec] at h2
    have h2 : off + l.length ≤ lo := of_decide_eq_true h2
    injection h3 with h3; subst h3
    obtain ⟨o', g1, cc, fz, g2, R⟩ := H.obj id _ hd hg
    subst g2
    have hlen := hl.length
    have hfit := R.fit
    have hlo := R.lo
    have hin : ∀ j, j < l'.length → φ.off id + off + j < cc.size := fun j hj => by omega
    have hrun := run_storeCells_cells (P := P) (φ.blk id) (φ.off id + off) l' 0 w (fun j hj => by
        have := hin j hj
        simp [World.cell?, g1, this]) (fun j hj => not_frozen g1 R.fz (by have := hin j hj; simpa using this)) h1
    obtain ⟨cc', U, e⟩ := setCells_heap l' (φ.off id + off) w cc g1
    refine ⟨w.setCells (φ.blk id) (φ.off id + off) l', by simpa [baseOf] using hrun, ?_⟩
    have hsz : cc'.size = cc.size := by rw [← Array.length_toList, e, setR_length]; simp
    have HU := H.upd (ob' := .cells (T.putList off l c) lo hi et) hd hg U ?_
    · exact ⟨HU.1, HU.2, setCells_still _ _ _⟩
    refine ⟨cc', fz, rfl, by rw [hsz]; exact R.fz, by rw [hsz]; exact R.fit, R.lo, R.hi, R.sz, R.al, fun k v hk => ?_⟩
    rcases T.get_putList l off k c v hk with ⟨q1, q2⟩ | ⟨q1, q2⟩
    · obtain ⟨x, hx, hr⟩ := hl.get _ _ q2
      have hlt : k - off < l.length := (List.getElem?_eq_some_iff.1 q2).1
      refine ⟨by omega, x, ?_, hr, h1 x (List.mem_of_getElem? hx)⟩
      rw [← Array.getElem?_toList, e]
      exact setR_in _ _ _ _ (by omega) (by simp; omega) (by rw [show φ.off id + k - (φ.off id + off) = k - off from by omega]; exact hx)
    · obtain ⟨p1, x, p2, p3, p4⟩ := R.cell k v q2
      refine ⟨p1, x, ?_, p3, p4⟩
      rw [← Array.getElem?_toList, e, setR_out _ _ _ _ (by omega)]
      simpa using p2
  · cases hs
theorem okH_some {v : AVal} {oh : Option Heap} {outs : List (AVal × Heap)} (h : okH v oh = some outs) : ∃ h', oh = some h' ∧ outs = [(v, h')] := by
  unfold okH at h
  split at h
  · cases h; exact ⟨_, rfl, rfl⟩
  · cases h
theorem eStore {t : TypeId} {p x : Operand} (ho : o.op = .store t p x) {i : TI} (k : TIok P t i) : EOK P sl o (fun vs ρ h => storeV i.size ((vk sl x).get vs ρ) h ((vk sl p).get vs ρ)) := by
  intro φ h vs ρ a w outs hl H hf
  have hp := hl.at ho (x := p) (by simp [Op.operands])
  have hx := hl.at ho (x := x) (by simp [Op.operands])
  have hf : storeV _ _ _ _ = _ := hf
  generalize (vk sl p).get vs ρ = pv at hp hf
  generalize he : a.eval p = pe at hp
  cases hp <;> try (cases hf; done)
  rename_i id off hd
  obtain ⟨l, h1, h2⟩ := ob_some (show Ev.ob ((vk sl x).get vs ρ).cells (fun l => when (Nat.beq l.length i.size) (okH undefA (storeAt id off l h))) = some outs from hf)
  obtain ⟨h3, h4⟩ := when_some h2
  obtain ⟨h', h5, h6⟩ := okH_some h4
  rw [beq_dec] at h3
  have h3 := of_decide_eq_true h3
  obtain ⟨g1, g2⟩ := cells_rel hx h1
  obtain ⟨w', h7, h8, h9, h10⟩ := store_ok H hd g1 g2 h5
  refine ⟨.skip, w', undef, φ, (undefA, h'), ?_, .inr ⟨rfl, rfl⟩, by rw [h6]; simp, h8, h9, .junk _, h10⟩
  have hsz : (a.eval x).cells.size = i.size := by rw [← h3, g1.length]; simp
  have hz := k.rSize (w := w)
  simp only [execOp, ho, Instr.storeAt, he, Instr.sureAddr, Sem.run_bind, Sem.run_pure, Result.andThen_ok, storeVar, hz, hsz, ne_eq, not_true_eq_false, if_false, h7]
end
end Go.Proofs.YtcbacbfjjahcbaaGreatDoor.Ev
namespace Go.Proofs.YtcbacbfjjahcbaaGreatDoor.Ev
set_option linter.unusedVariables false
set_option linter.unusedSimpArgs false
open Go
section
variable {P : Program} {tt : TT} {sl : SL} {o : Oper}

/-- what is appended or copied -/
theorem bytesV_rel {φ : Ren} : ∀ l : List UInt8, VRelL φ (bytesV (l.map UInt8.toNat)) (l.map fun b => Value.int .u8 (b.toNat : Int))
  | [] => .nil
  | b :: l => .cons _ _ _ _ (.int _ _) (bytesV_rel l)
theorem first_ok {φ : Ren} {h : Heap} {w : World} (H : HRelR P φ h w.heap) {sz k m : Nat} {v : AVal} {x : Value} (hx : VRel φ v x) (hm : lenA v = some m) (hk : k ≤ m) {cs : List AVal} (hf : firstA sz k h v = some cs) :
    (Builtin.lenOf x).run P w = .ok m w ∧ ∃ cs' : Array Value, ((Builtin.firstCells sz k x).run P w = .ok cs' w ∧ (Builtin.firstCells sz k x).run P w.drew = .ok cs' w.drew) ∧ VRelL φ cs cs'.toList ∧ (∀ y ∈ cs'.toList, y.oneCell' = true) ∧ cs'.size = k * sz := by
  cases hx <;> try (cases hm; done)
  case nilSlice =>
    cases hm
    cases hf
    have : k = 0 := by omega
    subst this
    exact ⟨rfl, #[], ⟨rfl, rfl⟩, .nil, by simp, by simp⟩
  case slice id off len lim ad cap hd hlc ha hc h0 hk' =>
    injection hm with hm; subst hm
    obtain ⟨c, h1, h2⟩ := ob_some (show Ev.ob (h.row id) (fun c => loadN c (Nat.mul k sz) off) = some cs from hf)
    obtain ⟨lo, hi, et, cc, fz, _, hb, R⟩ := row_ok H hd h1
    obtain ⟨l', g1, _, g2, g3, g4⟩ := loadN_ok hb R _ off cs h2
    refine ⟨rfl, l'.toArray, ?_, by simpa using g2, by simpa using g3, by simpa using g1⟩
    by_cases hz : cap = 0
    · have h0 : k = 0 := by omega
      subst h0
      have g1 : l'.length = 0 * sz := g1
      have : l' = [] := List.length_eq_zero_iff.1 (by rw [g1]; simp)
      subst this
      exact ⟨by simp [Builtin.firstCells, loadCells, loadCellsFrom], by simp [Builtin.firstCells, loadCells, loadCellsFrom]⟩
    · rw [ha hz]
      exact ⟨rLoadCells g1 g4, rLoadCells (w := w.drew) g1 g4⟩
  case str s =>
    obtain ⟨hsz, hf⟩ := when_some (show when (Nat.beq sz 1) (Ev.ob (takeN k (sBytes (enc s.data.toList))) fun l => some (bytesV l)) = some cs from hf)
    rw [beq_dec] at hsz
    have hsz := of_decide_eq_true hsz
    subst hsz
    obtain ⟨l, h1, h2⟩ := ob_some hf
    cases h2
    rw [sBytes_enc] at h1
    obtain ⟨e1, e2⟩ := takeN_eq _ _ _ h1
    have hm : sLen (enc s.data.toList) = m := by injection hm
    rw [enc_len] at hm
    refine ⟨by rw [← hm, ← ba_size]; rfl, ((s.extract 0 k).data.map fun b => .int .u8 b.toNat), ⟨rfl, rfl⟩, ?_, ?_, ?_⟩
    · subst e1
      rw [Array.toList_map, ba_extract, ← List.map_take]
      exact bytesV_rel _
    · intro y hy
      rw [Array.toList_map] at hy
      obtain ⟨b, _, rfl⟩ := List.mem_map.1 hy
      rfl
    · have : ((s.extract 0 k).data.map fun b => (Value.int .u8 b.toNat)).size = (s.extract 0 k).data.toList.length := by simp
      rw [this, ba_extract]
      simp at hm ⊢; omega
theorem eCopy {c : Call} {d x : Operand} (ho : o.op = .call c) (hc : c.callee = .builtin .copy) (ha : c.args.toList = [d, x]) {t : TypeId} {ts : List TypeId} (ht : c.argTypes.toList = t :: ts) {i : TI} (k : TIok P t i) {e : TypeId} (hd : i.desc = .slice e) {ei : TI} (ke : TIok P e ei) :
    EOK P sl o (fun vs ρ h => Ev.ob (lenA ((vk sl x).get vs ρ)) fun m => copyV ei.size m ((vk sl x).get vs ρ) h ((vk sl d).get vs ρ)) := by
  intro φ h vs ρ a w outs hl H hf
  have hx := hl.at ho (x := x) (arg_mem hc (by rw [ha]; simp))
  have hdv := hl.at ho (x := d) (arg_mem hc (by rw [ha]; simp))
  obtain ⟨m, h1, h2⟩ := ob_some hf
  have hdd := k.hdesc
  rw [hd] at hdd
  have hdd : k.desc = .slice e := hdd
  have ex : ∀ {w' : World} {z : Value}, (Builtin.copy_ c.argTypes o.type #[a.eval d, a.eval x]).run P w = .ok z w' → (execOp a.eval o).run P w = .ok (.value z) w' := by
    intro w' z hz
    rw [exec_builtin ho hc, args_of ha]
    have : ∀ (k : Value → Sem Next), ((Builtin.copy_ c.argTypes o.type #[a.eval d, a.eval x]) >>= k).run P w = (k z).run P w' := by intro k; rw [Sem.run_bind, hz]; rfl
    exact this _
  have e0 : ((#[a.eval d, a.eval x] : Array Value)[0]?) = some (a.eval d) := rfl
  have e1 : ((#[a.eval d, a.eval x] : Array Value)[1]?) = some (a.eval x) := rfl
  have hsz := ke.rSize (w := w)
  generalize (vk sl d).get vs ρ = dv at hdv h2
  generalize hde : a.eval d = de at hdv
  generalize (vk sl x).get vs ρ = xv at hx h1 h2
  cases hdv <;> try (cases h2; done)
  case nilSlice =>
    cases h2
    have hlen : (Builtin.lenOf (a.eval x)).run P w = .ok m w ∧ (Builtin.firstCells ei.size 0 (a.eval x)).run P w = .ok #[] w := by
      generalize a.eval x = xe at hx
      cases hx <;> try (cases h1; done)
      case nilSlice => cases h1; exact ⟨rfl, rfl⟩
      case slice => injection h1 with h1; subst h1; exact ⟨rfl, by simp [Builtin.firstCells, loadCells, loadCellsFrom]⟩
      case str s =>
        have hm : sLen (enc s.data.toList) = m := by injection h1
        rw [enc_len, ← ba_size] at hm
        refine ⟨by rw [← hm]; rfl, ?_⟩
        have : (s.extract 0 0).data.map (fun b => Value.int .u8 b.toNat) = #[] := by
          apply Array.toList_inj.1
          rw [Array.toList_map, ba_extract]; simp
        simp only [Builtin.firstCells, this]; rfl
    refine ⟨_, w, _, φ, _, ex (z := goInt 0) ?_, .inl rfl, List.mem_singleton.2 rfl, H, .refl _ _ _, .int _ _, .refl _⟩
    rw [hde]
    have e0 : ((#[Value.slice none 0 0, a.eval x] : Array Value)[0]?) = some (.slice none 0 0) := rfl
    have e1 : ((#[Value.slice none 0 0, a.eval x] : Array Value)[1]?) = some (a.eval x) := rfl
    simp only [Builtin.copy_, argTy ht, e0, e1, Sem.run_bind, k.rUnd, hdd, Result.andThen_ok, hlen.1, hsz, Nat.min_zero, hlen.2]
    rfl
  case slice id off len lim ad cap hdom hlc had hcc h0 hk =>
    have h2 : seqN (minN m len) (fun k => Ev.ob (firstA ei.size k h xv) fun cs => okH (.int .i64 (.ofNat k)) (storeAt id off cs h)) = some outs := h2
    rw [seqN_eq, minN_eq] at h2
    obtain ⟨cs, h3, h4⟩ := ob_some h2
    obtain ⟨h', h5, h6⟩ := okH_some h4
    obtain ⟨g1, cs', g2, g3, g4, g5⟩ := first_ok H.toHRelR hx h1 (Nat.min_le_left m len) h3
    obtain ⟨w', g6, g7, g8, g9⟩ := store_ok H hdom g3 g4 h5
    refine ⟨_, w', _, φ, _, ex (z := goInt (Nat.min m len)) ?_, .inl rfl, by rw [h6]; exact List.mem_singleton.2 rfl, g7, g8, .int _ _, g9⟩
    rw [hde]
    have e0 : ((#[Value.slice (some ad) len cap, a.eval x] : Array Value)[0]?) = some (.slice (some ad) len cap) := rfl
    have e1 : ((#[Value.slice (some ad) len cap, a.eval x] : Array Value)[1]?) = some (a.eval x) := rfl
    have hst : (storeCells ad cs'.toList).run P w = .ok () w' := by
      by_cases hz : cap = 0
      · have hmin : min m len = 0 := by have : len = 0 := by omega
                                        rw [this]; simp
        rw [hmin, Nat.zero_mul] at g5
        have : cs' = #[] := Array.size_eq_zero_iff.1 g5
        subst this
        exact g6
      · rw [had hz]; exact g6
    have g2 : (Builtin.firstCells ei.size (Nat.min m len) (a.eval x)).run P w = .ok cs' w := g2.1
    simp only [Builtin.copy_, argTy ht, e0, e1, Sem.run_bind, k.rUnd, hdd, Result.andThen_ok, g1, hsz, g2, hst, Sem.run_pure]
end
end Go.Proofs.YtcbacbfjjahcbaaGreatDoor.Ev
namespace Go.Proofs.YtcbacbfjjahcbaaGreatDoor.Ev
set_option linter.unusedVariables false
set_option linter.unusedSimpArgs false
open Go
section
variable {P : Program} {tt : TT} {sl : SL} {o : Oper}

/-- the second argument's type: none, or not of numbers -/
def NoZeros (P : Program) (ats : Array TypeId) : Prop := ats[1]? = none ∨ ∃ u d, ats[1]? = some u ∧ P.underlying u = some d ∧ ∀ k, d ≠ .int k
theorem append_fits {ats : Array TypeId} {ty t e : TypeId} (h0 : ats[0]? = some t) (hz : NoZeros P ats) (ht : P.underlying t = some (.slice e)) {ei : TI} (ke : TIok P e ei) {w w' : World} {x : Value} {n sLen sCap : Nat} {b : Addr} {new : Array Value}
    (hn : (Builtin.lenOf x).run P w = .ok n w) (hfit : sLen + n ≤ sCap) (hx : (Builtin.firstCells ei.size n x).run P w = .ok new w) (hst : (storeCells (b.add (sLen * ei.size)) new.toList).run P w = .ok () w') :
    (Builtin.append_ ats ty #[.slice (some b) sLen sCap, x]).run P w = .ok (.slice (some b) (sLen + n) sCap) w' := by
  have e0 : ((#[Value.slice (some b) sLen sCap, x] : Array Value)[0]?) = some (.slice (some b) sLen sCap) := rfl
  have e1 : ((#[Value.slice (some b) sLen sCap, x] : Array Value)[1]?) = some x := rfl
  have hs := ke.rSize (w := w)
  rcases hz with h1 | ⟨u, d, h1, hu, hd⟩
  · simp only [Builtin.append_, h0, e0, e1, h1, Sem.run_bind, rUnd ht, Result.andThen_ok, hs, Sem.run_pure, Bool.false_eq_true, if_false, hn, hfit, if_true, Bool.not_false, hx, hst]
  · have : (match d with | .int _ => true | _ => false) = false := by cases d <;> first | rfl | exact absurd rfl (hd _)
    simp only [Builtin.append_, h0, e0, e1, h1, Sem.run_bind, rUnd ht, rUnd hu, Result.andThen_ok, hs, Sem.run_pure, this, Bool.false_eq_true, if_false, hn, hfit, if_true, Bool.not_false, hx, hst]
theorem append_grows {ats : Array TypeId} {ty t e : TypeId} (h0 : ats[0]? = some t) (hz : NoZeros P ats) (ht : P.underlying t = some (.slice e)) {ei : TI} (ke : TIok P e ei) {w : World} {x : Value} {n sLen sCap : Nat} {b : Option Addr} {old new : Array Value}
    (hn : (Builtin.lenOf x).run P w = .ok n w) (hfit : ¬ sLen + n ≤ sCap) (hsm : sLen + n ≤ 100000) (ho : (Builtin.firstCells ei.size sLen (.slice b sLen sCap)).run P w.drew = .ok old w.drew) (hx : (Builtin.firstCells ei.size n x).run P w.drew = .ok new w.drew) :
    (Builtin.append_ ats ty #[.slice b sLen sCap, x]).run P w = .ok (.slice (some ⟨w.heap.size, 0, none⟩) (sLen + n) (grownCap w (sLen + n) sCap e))
      (w.drew.alloc (.cells (old ++ new ++ Builtin.zeroCells ke.zero.cells (grownCap w (sLen + n) sCap e - (sLen + n))) e)) := by
  have e0 : ((#[Value.slice b sLen sCap, x] : Array Value)[0]?) = some (.slice b sLen sCap) := rfl
  have e1 : ((#[Value.slice b sLen sCap, x] : Array Value)[1]?) = some x := rfl
  have hs := ke.rSize (w := w)
  have hi := ke.rInfo (w := w)
  have hi' := ke.rInfo (w := w.drew)
  have hzv := ke.rZero (w := w.drew)
  have h63 : ¬ ((sLen + n : Nat) : Int) > IntKind.i64.max := by
    have : IntKind.i64.max = 9223372036854775807 := rfl
    rw [this]; omega
  have h48 : ¬ Builtin.nextslicecap (sLen + n) sCap * ke.inf.bytes > 2 ^ 48 := by
    have h1 : Builtin.nextslicecap (sLen + n) sCap ≤ 200000 := by have := nextslicecap_le (need := sLen + n) (old := sCap) (by omega); omega
    have h2 : Builtin.nextslicecap (sLen + n) sCap * ke.inf.bytes ≤ 200000 * 1000000 := Nat.mul_le_mul h1 ke.hbytes
    omega
  have hch : (choose (.appendCap (sLen + n) sCap e)).run P w = .ok (grownCap w (sLen + n) sCap e) w.drew := by
    simp [Question.forced, grownCap]
  rcases hz with h1 | ⟨u, d, h1, hu, hd⟩
  · simp only [Builtin.append_, h0, e0, e1, h1, Sem.run_bind, rUnd ht, Result.andThen_ok, hs, Sem.run_pure, Bool.false_eq_true, if_false, hn, hfit, Bool.not_false, if_true, hi, h63, false_and, h48, hch, run_askRoom, ho, hx, hzv, newRow, hi']
    rfl
  · have : (match d with | .int _ => true | _ => false) = false := by cases d <;> first | rfl | exact absurd rfl (hd _)
    simp only [Builtin.append_, h0, e0, e1, h1, Sem.run_bind, rUnd ht, rUnd hu, this, Result.andThen_ok, hs, Sem.run_pure, Bool.false_eq_true, if_false, hn, hfit, Bool.not_false, if_true, hi, h63, false_and, h48, hch, run_askRoom, ho, hx, hzv, newRow, hi']
    rfl
end
end Go.Proofs.YtcbacbfjjahcbaaGreatDoor.Ev
namespace Go.Proofs.YtcbacbfjjahcbaaGreatDoor.Ev
set_option linter.unusedVariables false
set_option linter.unusedSimpArgs false
open Go
section
variable {P : Program} {tt : TT} {sl : SL} {o : Oper}

/-- a block that is no living object's changes -/
theorem HRel.other {φ : Ren} {h : Heap} {hp hq : Array Obj} (H : HRel P φ h hp) {b : Nat} (hs : hp.size ≤ hq.size) (hk : ∀ k, k ≠ b → k < hp.size → hq[k]? = hp[k]?) (hno : ∀ i, Live φ h i → φ.blk i ≠ b) (hfx : ¬ MaxG P b) : HRel P φ h hq := by
  refine ⟨⟨fun i o hi ho => ?_, H.inj, fun i hi => Nat.lt_of_lt_of_le (H.bd i hi) hs, fun c hc => ⟨(H.fix c hc).1.keep (hk c (fun e => hfx (e ▸ hc)) (H.fix c hc).1.lt), (H.fix c hc).2⟩⟩, H.n, H.top⟩
  obtain ⟨o', h1, h2⟩ := H.obj i o hi ho
  exact ⟨o', by rw [hk _ (hno i ⟨hi, o, ho⟩) (H.bd i hi)]; exact h1, h2⟩
theorem row_objP {φ : Ren} {id b off cap : Nat} {et : TypeId} {l : List AVal} {l' : List Value} {cc : Array Value} {fz : Nat × Nat} (hd : ¬ φ.dom id) (hl : VRelL φ l l') (h1 : ∀ x ∈ l', x.oneCell' = true) (hfz : FzOk P et cc.size fz)
    (hfit : off + cap ≤ cc.size) (hlo : l.length ≤ cap) (hal : off % P.cellsOf et = 0) (hcell : ∀ k x, l'[k]? = some x → cc[off + k]? = some x) :
    OObj P (φ.add id b off cap (P.cellsOf et)) id (.cells (T.ofList l) l.length none et) (.cells cc et fz) := by
  have aoff : (φ.add id b off cap (P.cellsOf et)).off id = off := by simp [Ren.add]
  have acap : (φ.add id b off cap (P.cellsOf et)).cap id = cap := by simp [Ren.add]
  have asz : (φ.add id b off cap (P.cellsOf et)).sz id = P.cellsOf et := by simp [Ren.add]
  refine ⟨cc, fz, rfl, hfz, by rw [aoff, acap]; exact hfit, by rw [acap]; exact hlo, (fun u hu => by cases hu), asz.symm, by rw [aoff, asz]; exact hal, fun k v hk => ?_⟩
  have := T.get_ofList hk
  obtain ⟨x, hx, hr⟩ := hl.get k v this
  have hlt : k < l.length := (List.getElem?_eq_some_iff.1 this).1
  exact ⟨by rw [acap]; omega, x, by rw [aoff]; exact hcell k x hx, hr.mono (φ.le_add _ _ _ _ _ hd), h1 x (List.mem_of_getElem? hx)⟩
theorem drew_heap (w : World) : w.drew.heap = w.heap := rfl
theorem grown_ge (w : World) (need old : Nat) (e : TypeId) : need ≤ grownCap w need old e := by
  unfold grownCap; exact Nat.le_add_right _ _
theorem size_zeroCells (z : Array Value) (n : Nat) : (Builtin.zeroCells z n).size = n * z.size := by simp [Builtin.zeroCells]
/-- the row that an append makes -/
theorem grow_ok {φ : Ren} {h h1 : Heap} {w : World} (H1 : HRel P φ h1 w.heap) (T1 : Tr φ h w.heap φ h1 w.heap) {e : TypeId} {ei : TI} (ke : TIok P e ei) {oldA newA : List AVal} {old new : Array Value}
    (ho : VRelL φ oldA old.toList) (ho1 : ∀ y ∈ old.toList, y.oneCell' = true) (hn : VRelL φ newA new.toList) (hn1 : ∀ y ∈ new.toList, y.oneCell' = true) {sLen n sCap : Nat} (hos : old.size = sLen * ei.size) (hns : new.size = n * ei.size) {outs : List (AVal × Heap)}
    (hout : newRowU e (oldA ++ newA) (sLen + n) h1 = some outs) :
    ∃ ψ vh, vh ∈ outs ∧ HRel P ψ vh.2 (w.drew.alloc (.cells (old ++ new ++ Builtin.zeroCells ke.zero.cells (grownCap w (sLen + n) sCap e - (sLen + n))) e)).heap ∧
      Tr φ h w.heap ψ vh.2 (w.drew.alloc (.cells (old ++ new ++ Builtin.zeroCells ke.zero.cells (grownCap w (sLen + n) sCap e - (sLen + n))) e)).heap ∧
      VRel ψ vh.1 (.slice (some ⟨w.heap.size, 0, none⟩) (sLen + n) (grownCap w (sLen + n) sCap e)) := by
  have hge := grown_ge w (sLen + n) sCap e
  generalize grownCap w (sLen + n) sCap e = gc at hge
  have hl := ho.append hn
  have hlen : (oldA ++ newA).length = (sLen + n) * ei.size := by rw [hl.length, List.length_append]; simp [hos, hns, Nat.add_mul]
  have htot : (old ++ new ++ Builtin.zeroCells ke.zero.cells (gc - (sLen + n))).size = gc * ei.size := by
    simp only [Array.size_append, size_zeroCells, zero_size ke, hos, hns]
    rw [← Nat.add_mul, ← Nat.add_mul]; congr 1; omega
  have hmul : (sLen + n) * ei.size ≤ gc * ei.size := Nat.mul_le_mul_right _ hge
  have hout : some [(AVal.slice h1.next 0 (sLen + n) none, h1.alloc (rowObjU e (oldA ++ newA)))] = some outs := hout
  injection hout with hout
  have A := H1.alloc (cap := gc * ei.size) (sz := P.cellsOf e) (ob := rowObjU e (oldA ++ newA)) (o' := .cells (old ++ new ++ Builtin.zeroCells ke.zero.cells (gc - (sLen + n))) e (0, 0)) (by
    rw [rowObjU_eq]
    refine row_objP H1.fresh hl (fun x hx => ?_) (.inl rfl) (by omega) (by omega) (Nat.zero_mod _) (fun k x hx => ?_)
    · rcases List.mem_append.1 hx with hx | hx
      · exact ho1 x hx
      · exact hn1 x hx
    · rw [Nat.zero_add, ← Array.getElem?_toList, Array.toList_append, Array.toList_append]
      rw [List.getElem?_append_left (List.getElem?_eq_some_iff.1 hx).1]
      exact hx)
  refine ⟨_, _, by rw [← hout]; exact List.mem_singleton.2 rfl, A.1, T1.trans A.2, ?_⟩
  rw [ke.cells]
  exact new_slice hmul rfl gc rfl hge
end
end Go.Proofs.YtcbacbfjjahcbaaGreatDoor.Ev
namespace Go.Proofs.YtcbacbfjjahcbaaGreatDoor.Ev
set_option linter.unusedVariables false
set_option linter.unusedSimpArgs false
open Go
section
variable {P : Program} {tt : TT} {sl : SL} {o : Oper}

/-- the row that an append into an unknown capacity may leave in place: the old object is dead, a new one lies where it lay -/
theorem stay_ok {φ : Ren} {h : Heap} {w : World} (H : HRel P φ h w.heap) {e : TypeId} {ei : TI} (ke : TIok P e ei) {id off sLen cap n lo : Nat} {hi : Option Nat} {r : T AVal} {cc : Array Value} {fz : Nat × Nat}
    (hd : φ.dom id) (hg : h.objs.get id = some (.cells r lo hi e)) (hb : w.heap[φ.blk id]? = some (.cells cc e fz)) (R : RowOk P φ id r lo hi e cc fz) (hc : off + cap * φ.sz id ≤ φ.cap id) (hal : off % ei.size = 0)
    {oldA newA : List AVal} {new : List Value} (hold : loadN r (sLen * ei.size) off = some oldA) (hn : VRelL φ newA new) (hn1 : ∀ y ∈ new, y.oneCell' = true) (hns : new.length = n * ei.size) (hfit : sLen + n ≤ cap)
    {outs : List (AVal × Heap)} (hout : newRowU e (oldA ++ newA) (sLen + n) (h.kill id) = some outs) :
    ∃ w' ψ vh, (storeCells ((baseOf φ id off).add (sLen * ei.size)) new).run P w = .ok () w' ∧ vh ∈ outs ∧ HRel P ψ vh.2 w'.heap ∧ Tr φ h w.heap ψ vh.2 w'.heap ∧
      VRel ψ vh.1 (.slice (some (baseOf φ id off)) (sLen + n) cap) ∧ Still w w' := by
  have hsz : φ.sz id = ei.size := by rw [← R.sz, ke.cells]
  rw [hsz] at hc
  have hmul : (sLen + n) * ei.size ≤ cap * ei.size := Nat.mul_le_mul_right _ hfit
  have hadd : (sLen + n) * ei.size = sLen * ei.size + n * ei.size := Nat.add_mul _ _ _
  have hcap := R.fit
  have hin : ∀ j, j < new.length → φ.off id + (off + sLen * ei.size) + j < cc.size := fun j hj => by omega
  have hrun := run_storeCells_cells (P := P) (φ.blk id) (φ.off id + (off + sLen * ei.size)) new 0 w (fun j hj => by
      have := hin j hj
      simp [World.cell?, hb, this]) (fun j hj => not_frozen hb R.fz (by have := hin j hj; simpa using this)) hn1
  obtain ⟨cc', U, ecc⟩ := setCells_heap new (φ.off id + (off + sLen * ei.size)) w cc hb
  have hcsz : cc'.size = cc.size := by rw [← Array.length_toList, ecc, setR_length]; simp
  obtain ⟨old, g1, g1a, g2, g3, g4⟩ := loadN_ok hb R _ off oldA hold
  have hl := g2.append hn
  have hlen : (oldA ++ newA).length = (sLen + n) * ei.size := by rw [hl.length, List.length_append, g1, hns, hadd]
  have noone : ∀ i, Live φ (h.kill id) i → φ.blk i ≠ φ.blk id := by
    intro i hi e
    obtain ⟨di, ob, ho⟩ := hi
    obtain ⟨hne, ho⟩ := T.get_del ho
    exact hne (H.inj i id _ _ di hd ho hg e)
  have nfx : ¬ MaxG P (φ.blk id) := fun hc => (H.fix _ hc).2 id _ hd hg rfl
  have K := (H.kill id).other (b := φ.blk id) (Nat.le_of_eq U.size.symm) (fun k hk _ => U.other k hk) noone nfx
  have hfr : ¬ φ.dom h.next := H.fresh
  have K2 := (K.pend (rowObjU e (oldA ++ newA))).come (id := h.next) (b := φ.blk id) (off := φ.off id + off) (cap := cap * ei.size) (sz := P.cellsOf e) hfr (by rw [Heap.alloc_next]; exact Nat.lt_succ_self _) U.at_
    (fun i hi => by
      obtain ⟨di, ob, ho⟩ := hi
      rw [Heap.alloc_objs] at ho
      rcases T.get_put ho with ⟨e1, _⟩ | ⟨_, e1⟩
      · exact absurd di (by rw [e1]; exact hfr)
      · exact noone i ⟨di, ob, e1⟩)
    (fun ob ho => by
      rw [Heap.alloc_objs] at ho
      rcases T.get_put ho with ⟨_, e1⟩ | ⟨e1, _⟩
      · subst e1
        rw [rowObjU_eq]
        refine row_objP hfr hl (fun x hx => ?_) (by rw [hcsz]; exact R.fz) (by rw [hcsz]; omega) (by omega) ?_ (fun k x hx => ?_)
        · rcases List.mem_append.1 hx with hx | hx
          · exact g3 x hx
          · exact hn1 x hx
        · rw [ke.cells]
          have := R.al
          rw [hsz] at this
          rw [Nat.add_mod, this, hal]; simp
        · rw [← Array.getElem?_toList, ecc]
          by_cases hk : k < sLen * ei.size
          · rw [setR_out _ _ _ _ (by omega)]
            rw [List.getElem?_append_left (by omega)] at hx
            have := g4 k x hx
            simpa [World.cell?, baseOf, hb, Nat.add_assoc] using this
          · rw [List.getElem?_append_right (by omega), g1] at hx
            have hkl := (List.getElem?_eq_some_iff.1 hx).1
            exact setR_in _ _ _ _ (by omega) (by simp; omega) (by rw [show φ.off id + off + k - (φ.off id + (off + sLen * ei.size)) = k - sLen * ei.size from by omega]; exact hx)
      · exact absurd rfl e1) nfx
  have hout : some [(AVal.slice h.next 0 (sLen + n) none, (h.kill id).alloc (rowObjU e (oldA ++ newA)))] = some outs := hout
  injection hout with hout
  refine ⟨w.setCells (φ.blk id) (φ.off id + (off + sLen * ei.size)) new, _, _, ?_, by rw [← hout]; exact List.mem_singleton.2 rfl, K2, ?_, ?_, setCells_still _ _ _⟩
  · rw [add_base]; simpa [baseOf] using hrun
  · have le := φ.le_add h.next (φ.blk id) (φ.off id + off) (cap * ei.size) (P.cellsOf e) hfr
    refine ⟨le, by rw [Heap.alloc_next]; exact Nat.le_succ _, fun i hi => ?_, Nat.le_of_eq U.size.symm, fun b hbl hno => U.other b (fun e1 => hno id ⟨hd, _, hg⟩ e1.symm), fun i hi => ?_, fun i ob hlt hdi ho => ?_⟩
    · rcases hi with rfl | hi
      · exact .inr (Nat.le_refl _)
      · exact .inl hi
    · obtain ⟨di, ob, ho⟩ := hi
      rcases di with rfl | di
      · right; right
        exact ⟨id, ⟨hd, _, hg⟩, by simp [Ren.add]⟩
      · left
        rw [Heap.alloc_objs] at ho
        rcases T.get_put ho with ⟨e1, _⟩ | ⟨_, e1⟩
        · exact absurd di (by rw [e1]; exact hfr)
        · exact ⟨di, ob, (T.get_del e1).2⟩
    · rw [Heap.alloc_objs] at ho
      rcases T.get_put ho with ⟨e1, _⟩ | ⟨_, e1⟩
      · have : (h.kill id).next = h.next := rfl
        omega
      · exact (T.get_del e1).2
  · have hbase : baseOf (φ.add h.next (φ.blk id) (φ.off id + off) (cap * ei.size) (P.cellsOf e)) h.next 0 = baseOf φ id off := by simp [baseOf, Ren.add]
    have hszn : (φ.add h.next (φ.blk id) (φ.off id + off) (cap * ei.size) (P.cellsOf e)).sz h.next = ei.size := by simp [Ren.add, ke.cells]
    have hcapn : (φ.add h.next (φ.blk id) (φ.off id + off) (cap * ei.size) (P.cellsOf e)).cap h.next = cap * ei.size := by simp [Ren.add]
    exact .slice _ _ _ _ _ _ (.inl rfl) hfit (fun _ => hbase.symm) (by rw [hszn, hcapn]; omega) (fun _ => by rw [hszn, hcapn]; omega) (fun k hk => by cases hk)
end
end Go.Proofs.YtcbacbfjjahcbaaGreatDoor.Ev
namespace Go.Proofs.YtcbacbfjjahcbaaGreatDoor.Ev
set_option linter.unusedVariables false
set_option linter.unusedSimpArgs false
open Go
section
variable {P : Program} {tt : TT} {sl : SL} {o : Oper}

theorem capHi_ok {φ : Ren} {h : Heap} {hp : Array Obj} {id off : Nat} {e : TypeId} {lo : Nat} {hi : Option Nat} {r : T AVal} {cc : Array Value} {fz : Nat × Nat} (R : RowOk P φ id r lo hi e cc fz) {sz : Nat} (hsz : φ.sz id = sz) (hs : 0 < sz) {lim : Option Nat} {cap u : Nat}
    (hc : off + cap * φ.sz id ≤ φ.cap id) (hk : ∀ k, lim = some k → cap = k) (hu : capHi off sz lim (some (.cells r lo hi e)) = some u) : cap ≤ u := by
  unfold capHi at hu
  cases lim with
  | some k => injection hu with hu; rw [hk k rfl, hu]; exact Nat.le_refl _
  | none =>
    cases hi with
    | none => cases hu
    | some q =>
      have hu : Nat.div (Nat.sub q off) sz = u := by injection hu
      have hq := R.hi q rfl
      rw [hsz] at hc
      rw [← hu]
      show cap ≤ (q - off) / sz
      rw [Nat.le_div_iff_mul_le hs]; omega
/-- append: what it does, over what the model's operation is known to do -/
theorem app_ok {φ : Ren} {h : Heap} {w : World} (H : HRel P φ h w.heap) {e : TypeId} {ei : TI} (ke : TIok P e ei) (hpos : ei.size ≠ 0) {sv : AVal} {sx : Value} (hs : VRel φ sv sx) {n : Nat} {newA : List AVal} {new : Array Value}
    (hn : VRelL φ newA new.toList) (hn1 : ∀ y ∈ new.toList, y.oneCell' = true) (hns : new.size = n * ei.size) {outs : List (AVal × Heap)} (hout : appendV ei.size e n newA h sv = some outs) (R : Value → World → Prop)
    (hnil : sx = .slice none 0 0 → n = 0 → R (.slice none 0 0) w)
    (hfits : ∀ b sLen sCap w', sx = .slice (some b) sLen sCap → sLen + n ≤ sCap → (storeCells (b.add (sLen * ei.size)) new.toList).run P w = .ok () w' → R (.slice (some b) (sLen + n) sCap) w')
    (hgrows : ∀ b sLen sCap old, sx = .slice b sLen sCap → ¬ (sLen + n ≤ sCap) → sLen + n ≤ 100000 → (Builtin.firstCells ei.size sLen (.slice b sLen sCap)).run P w.drew = .ok old w.drew →
      R (.slice (some ⟨w.heap.size, 0, none⟩) (sLen + n) (grownCap w (sLen + n) sCap e)) (w.drew.alloc (.cells (old ++ new ++ Builtin.zeroCells ke.zero.cells (grownCap w (sLen + n) sCap e - (sLen + n))) e))) :
    ∃ x w' ψ vh, R x w' ∧ vh ∈ outs ∧ HRel P ψ vh.2 w'.heap ∧ Tr φ h w.heap ψ vh.2 w'.heap ∧ VRel ψ vh.1 x ∧ Still w w' := by
  cases hs <;> try (cases hout; done)
  case nilSlice =>
    cases n with
    | zero =>
      cases hout
      exact ⟨_, w, φ, _, hnil rfl rfl, List.mem_singleton.2 rfl, H, .refl _ _ _, .nilSlice, .refl _⟩
    | succ n =>
      obtain ⟨h1, h2⟩ := when_some (show when (Nat.ble (n + 1) 100000) (newRowU e newA (n + 1) h) = some outs from hout)
      rw [ble_dec] at h1
      have h1 := of_decide_eq_true h1
      obtain ⟨ψ, vh, g1, g2, g3, g4⟩ := grow_ok (sLen := 0) (n := n + 1) (sCap := 0) (old := #[]) (oldA := []) H (.refl _ _ _) ke .nil (by simp) hn hn1 (by simp) hns (by simpa using h2)
      exact ⟨_, _, ψ, vh, hgrows none 0 0 #[] rfl (by omega) (by omega) rfl, g1, g2, g3, g4, ⟨rfl, rfl⟩⟩
  case slice id off len lim ad cap hd hlc ha hc h0 hk =>
    have hout : (seqN (Nat.add len n) fun need => appSlice ei.size e id off len lim newA h (h.objs.get id) need) = some outs := hout
    rw [seqN_eq] at hout
    obtain ⟨c, h1, h2⟩ := ob_some (show Ev.ob (capLo off ei.size e lim (h.objs.get id)) (fun cap => match Nat.ble (Nat.add len n) cap with
      | true => okH (.slice id off (Nat.add len n) lim) (storeAt id (Nat.add off (Nat.mul len ei.size)) newA h)
      | false => when (Nat.beq (Nat.mod off ei.size) 0) <| Ev.ob (Ev.ob (rowOf (h.objs.get id)) fun c => loadN c (Nat.mul len ei.size) off) fun old =>
        when (Nat.ble (Nat.add len n) 100000) (newRowU e (old ++ newA) (Nat.add len n) (killUnless (capHi off ei.size lim (h.objs.get id)) id (Nat.add len n) h))) = some outs from hout)
    obtain ⟨hcc, hsz, r, lo, hi, cc, fz, hg, hb, R'⟩ := capLo_ok H.toHRelR hd ke h0 hk (by omega) h1
    rw [ble_dec] at h2
    by_cases hfit : Nat.add len n ≤ c
    · rw [decide_eq_true hfit] at h2
      obtain ⟨h', h3, h4⟩ := okH_some h2
      have hfit : len + n ≤ c := hfit
      obtain ⟨w', g1, g2, g3, g4⟩ := store_ok H hd hn hn1 h3
      refine ⟨_, w', φ, _, hfits ad len cap w' rfl (by omega) ?_, by rw [h4]; exact List.mem_singleton.2 rfl, g2, g3, .slice id off _ lim ad cap hd (by show len + n ≤ cap; omega) ha hc h0 hk, g4⟩
      by_cases hz : cap = 0
      · have : n = 0 := by omega
        subst this
        have : new = #[] := Array.size_eq_zero_iff.1 (by rw [hns]; simp)
        subst this
        exact g1
      · rw [ha hz, add_base]; exact g1
    · rw [decide_eq_false hfit] at h2
      obtain ⟨h3, h4⟩ := when_some h2
      rw [beq_dec] at h3
      have h3 : off % ei.size = 0 := of_decide_eq_true h3
      obtain ⟨oldA, h5, h6⟩ := ob_some h4
      obtain ⟨h7, h8⟩ := when_some h6
      rw [ble_dec] at h7
      have h7 : len + n ≤ 100000 := of_decide_eq_true h7
      rw [hg] at h5 h8
      have h5 : loadN r (len * ei.size) off = some oldA := h5
      have h8 : newRowU e (oldA ++ newA) (len + n) (killUnless (capHi off ei.size lim (some (.cells r lo hi e))) id (len + n) h) = some outs := h8
      by_cases hf2 : len + n ≤ cap
      · -- it fits after all
        have hkill : killUnless (capHi off ei.size lim (some (.cells r lo hi e))) id (len + n) h = h.kill id := by
          unfold killUnless
          split
          · rename_i u hu
            have := capHi_ok (h := h) (hp := w.heap) R' hsz (by omega) hc hk hu
            rw [blt_dec, decide_eq_false (by omega)]
          · rfl
        rw [hkill] at h8
        by_cases hz : cap = 0
        · -- nothing is there
          have hl0 : len = 0 := by omega
          have hn0 : n = 0 := by omega
          subst hl0; subst hn0
          exfalso; exact hfit (Nat.zero_le _)
        · obtain ⟨w', ψ, vh, g1, g2, g3, g4, g5, g6⟩ := stay_ok H ke hd hg hb R' hc h3 h5 hn hn1 (by simpa using hns) hf2 h8
          refine ⟨_, w', ψ, vh, hfits ad len cap w' rfl hf2 ?_, g2, g3, g4, ?_, g6⟩
          · rw [ha hz]; exact g1
          · rw [ha hz]; exact g5
      · have hld : ∃ old : Array Value, (Builtin.firstCells ei.size len (.slice (some ad) len cap)).run P w.drew = .ok old w.drew ∧ VRelL φ oldA old.toList ∧ (∀ y ∈ old.toList, y.oneCell' = true) ∧ old.size = len * ei.size := by
          have hb' : w.drew.heap[φ.blk id]? = some (.cells cc e fz) := hb
          obtain ⟨l', g1, _, g2, g3, g4⟩ := loadN_ok hb' R' _ off oldA h5
          refine ⟨l'.toArray, ?_, by simpa using g2, by simpa using g3, by simpa using g1⟩
          by_cases hz : cap = 0
          · have h0 : len = 0 := by omega
            subst h0
            have : l' = [] := List.length_eq_zero_iff.1 (by rw [g1]; simp)
            subst this
            simp [Builtin.firstCells, loadCells, loadCellsFrom]
          · rw [ha hz]; exact rLoadCells g1 g4
        obtain ⟨old, q1, q2, q3, q4⟩ := hld
        have hcase : killUnless (capHi off ei.size lim (some (.cells r lo hi e))) id (len + n) h = h ∨ killUnless (capHi off ei.size lim (some (.cells r lo hi e))) id (len + n) h = h.kill id := by
          unfold killUnless
          split
          · split
            · exact .inl rfl
            · exact .inr rfl
          · exact .inr rfl
        rcases hcase with hk1 | hk1 <;> rw [hk1] at h8
        · obtain ⟨ψ, vh, g1, g2, g3, g4⟩ := grow_ok (sCap := cap) H (.refl _ _ _) ke q2 q3 hn hn1 q4 hns h8
          exact ⟨_, _, ψ, vh, hgrows (some ad) len cap old rfl hf2 h7 q1, g1, g2, g3, g4, ⟨rfl, rfl⟩⟩
        · obtain ⟨ψ, vh, g1, g2, g3, g4⟩ := grow_ok (sCap := cap) (H.kill id) (.kill _ _ _ id) ke q2 q3 hn hn1 q4 hns h8
          exact ⟨_, _, ψ, vh, hgrows (some ad) len cap old rfl hf2 h7 q1, g1, g2, g3, g4, ⟨rfl, rfl⟩⟩
end
end Go.Proofs.YtcbacbfjjahcbaaGreatDoor.Ev
namespace Go.Proofs.YtcbacbfjjahcbaaGreatDoor.Ev
set_option linter.unusedVariables false
set_option linter.unusedSimpArgs false
open Go
section
variable {P : Program} {tt : TT} {sl : SL} {o : Oper}

theorem exec_app {c : Call} {s x : Operand} (ho : o.op = .call c) (hc : c.callee = .builtin .append) (ha : c.args.toList = [s, x]) {a : Act} {w w' : World} {z : Value}
    (h : (Builtin.append_ c.argTypes o.type #[a.eval s, a.eval x]).run P w = .ok z w') : (execOp a.eval o).run P w = .ok (.value z) w' := by
  rw [exec_builtin ho hc, args_of ha]
  have : ∀ (k : Value → Sem Next), ((Builtin.append_ c.argTypes o.type #[a.eval s, a.eval x]) >>= k).run P w = (k z).run P w' := by intro k; rw [Sem.run_bind, h]; rfl
  exact this _
theorem append_nil {ats : Array TypeId} {ty t e : TypeId} (h0 : ats[0]? = some t) (hz : NoZeros P ats) (ht : P.underlying t = some (.slice e)) {ei : TI} (ke : TIok P e ei) {w : World} {x : Value} {new : Array Value}
    (hn : (Builtin.lenOf x).run P w = .ok 0 w) (hx : (Builtin.firstCells ei.size 0 x).run P w = .ok new w) :
    (Builtin.append_ ats ty #[.slice none 0 0, x]).run P w = .ok (.slice none 0 0) w := by
  have e0 : ((#[Value.slice none 0 0, x] : Array Value)[0]?) = some (.slice none 0 0) := rfl
  have e1 : ((#[Value.slice none 0 0, x] : Array Value)[1]?) = some x := rfl
  have hs := ke.rSize (w := w)
  rcases hz with h1 | ⟨u, d, h1, hu, hd⟩
  · simp only [Builtin.append_, h0, e0, e1, h1, Sem.run_bind, rUnd ht, Result.andThen_ok, hs, Sem.run_pure, Bool.false_eq_true, if_false, hn, Nat.add_zero, Nat.le_refl, if_true, Bool.not_false, hx]
  · have : (match d with | .int _ => true | _ => false) = false := by cases d <;> first | rfl | exact absurd rfl (hd _)
    simp only [Builtin.append_, h0, e0, e1, h1, Sem.run_bind, rUnd ht, rUnd hu, Result.andThen_ok, hs, Sem.run_pure, this, Bool.false_eq_true, if_false, hn, Nat.add_zero, Nat.le_refl, if_true, Bool.not_false, hx]
theorem noZeros_of {c : Call} {t u : TypeId} {i : TI} (ht : c.argTypes.toList = [t, u]) (k : TIok P u i) (hd : ∀ q, i.desc ≠ .int q) : NoZeros P c.argTypes := by
  refine .inr ⟨u, k.desc, argTy1 ht, k.hund, fun q e => ?_⟩
  have := k.hdesc
  rw [e] at this
  revert this hd
  cases i.desc <;> intro hd h <;> simp only [TDRel] at h <;> first
    | (cases h; done)
    | (obtain ⟨_, h, _⟩ := h; cases h; done)
    | (obtain ⟨_, _, _, h⟩ := h; cases h; done)
    | exact absurd rfl (hd _)
    | exact absurd rfl (h.1 _)
theorem eAppend {c : Call} {s x : Operand} (ho : o.op = .call c) (hc : c.callee = .builtin .append) (ha : c.args.toList = [s, x]) {t : TypeId} {ts : List TypeId} (ht : c.argTypes.toList = t :: ts) (hz : NoZeros P c.argTypes) {i : TI} (k : TIok P t i) {e : TypeId} (hd : i.desc = .slice e)
    {ei : TI} (ke : TIok P e ei) (hpos : ei.size ≠ 0) :
    EOK P sl o (fun vs ρ h => Ev.ob (lenA ((vk sl x).get vs ρ)) fun m => Ev.ob (firstA ei.size m h ((vk sl x).get vs ρ)) fun new => appendV ei.size e m new h ((vk sl s).get vs ρ)) := by
  intro φ h vs ρ a w outs hl H hf
  have hx := hl.at ho (x := x) (arg_mem hc (by rw [ha]; simp))
  have hs := hl.at ho (x := s) (arg_mem hc (by rw [ha]; simp))
  obtain ⟨m, h1, h2⟩ := ob_some hf
  obtain ⟨newA, h3, h4⟩ := ob_some h2
  have hdd := k.hdesc
  rw [hd] at hdd
  have hdd : k.desc = .slice e := hdd
  have hu : P.underlying t = some (.slice e) := by rw [k.hund, hdd]
  obtain ⟨g1, new, g2, g3, g4, g5⟩ := first_ok H.toHRelR hx h1 (Nat.le_refl m) h3
  obtain ⟨z, w', ψ, vh, q1, q2, q3, q4, q5, q6⟩ := app_ok H ke hpos hs g3 g4 g5 h4 (fun z w' => (Builtin.append_ c.argTypes o.type #[a.eval s, a.eval x]).run P w = .ok z w')
    (fun e1 e2 => by subst e2; rw [e1]; exact append_nil (argTy ht) hz hu ke g1 g2.1)
    (fun b sLen sCap w' e1 hfit hst => by rw [e1]; exact append_fits (argTy ht) hz hu ke g1 hfit g2.1 hst)
    (fun b sLen sCap old e1 hfit hsm hold => by rw [e1]; exact append_grows (argTy ht) hz hu ke g1 hfit hsm hold g2.2)
  exact ⟨_, w', z, ψ, vh, exec_app ho hc ha q1, .inl rfl, q2, q3, q4, q5, q6⟩
/-! append of zero elements, as many as are asked for -/
theorem i64_small {n : Nat} (h : n ≤ 100000) : IntKind.i64.wrap (n : Int) = n := by rw [IntKind.wrap_i64]; omega
theorem zeroCells_0 (z : Array Value) : Builtin.zeroCells z 0 = #[] := by simp [Builtin.zeroCells]
theorem appZ_new {e : TypeId} {ei : TI} (ke : TIok P e ei) (hpos : ei.size ≠ 0) (n : Nat) (w : World) :
    (if n * ei.size = 0 then pure #[] else do pure (Builtin.zeroCells (← zeroValue e).cells n) : Sem (Array Value)).run P w = .ok (Builtin.zeroCells ke.zero.cells n) w := by
  have hzv := ke.rZero (w := w)
  by_cases h : n * ei.size = 0
  · have hn : n = 0 := (Nat.mul_eq_zero.1 h).resolve_right hpos
    subst hn
    simp [zeroCells_0]
  · simp only [h, if_false, Sem.run_bind, hzv, Result.andThen_ok, Sem.run_pure]
theorem appZ_big {e : TypeId} {ei : TI} (ke : TIok P e ei) {n : Nat} (hn : n ≤ 100000) : ¬ ((n : Int) * (ke.inf.bytes : Int) > 2 ^ 48) := by
  have h1 : n * ke.inf.bytes ≤ 100000 * 1000000 := Nat.mul_le_mul hn ke.hbytes
  have h2 : ((n * ke.inf.bytes : Nat) : Int) ≤ 100000000000 := by omega
  rw [Int.natCast_mul] at h2
  have h3 : (2 : Int) ^ 48 = 281474976710656 := by decide
  rw [h3]
  omega
theorem append_fitsZ {ats : Array TypeId} {ty t e u : TypeId} {k q : IntKind} (h0 : ats[0]? = some t) (h1 : ats[1]? = some u) (hu : P.underlying u = some (.int q)) (ht : P.underlying t = some (.slice e)) {ei : TI} (ke : TIok P e ei) (hpos : ei.size ≠ 0) {w w' : World} {n sLen sCap : Nat} {b : Addr}
    (hn : n ≤ 100000) (hfit : sLen + n ≤ sCap) (hst : (storeCells (b.add (sLen * ei.size)) (Builtin.zeroCells ke.zero.cells n).toList).run P w = .ok () w') :
    (Builtin.append_ ats ty #[.slice (some b) sLen sCap, .int k (n : Int)]).run P w = .ok (.slice (some b) (sLen + n) sCap) w' := by
  have e0 : ((#[Value.slice (some b) sLen sCap, .int k (n : Int)] : Array Value)[0]?) = some (.slice (some b) sLen sCap) := rfl
  have e1 : ((#[Value.slice (some b) sLen sCap, .int k (n : Int)] : Array Value)[1]?) = some (.int k (n : Int)) := rfl
  have hs := ke.rSize (w := w)
  have hw := appZ_new (P := P) ke hpos n w
  have hi := ke.rInfo (w := w)
  have g1 : (asInt (.int k (n : Int))).run P w = .ok (n : Int) w := rfl
  have g2 : ¬ ((n : Int) < 0) := by omega
  have g3 : ¬ ((n : Int) * (ke.inf.bytes : Int) > 2 ^ 48) := appZ_big ke hn
  simp only [Builtin.append_, h0, e0, e1, h1, Sem.run_bind, rUnd ht, rUnd hu, Result.andThen_ok, hs, Sem.run_pure, if_true, Bool.not_true, Bool.false_eq_true, if_false, g1, i64_small hn, g2, hi, g3, Int.toNat_natCast, hfit] at hw ⊢
  simp only [hw, Result.andThen_ok, hst, Sem.run_pure]
theorem append_nilZ {ats : Array TypeId} {ty t e u : TypeId} {k q : IntKind} (h0 : ats[0]? = some t) (h1 : ats[1]? = some u) (hu : P.underlying u = some (.int q)) (ht : P.underlying t = some (.slice e)) {ei : TI} (ke : TIok P e ei) (hpos : ei.size ≠ 0) {w : World} :
    (Builtin.append_ ats ty #[.slice none 0 0, .int k ((0 : Nat) : Int)]).run P w = .ok (.slice none 0 0) w := by
  have e0 : ((#[Value.slice none 0 0, .int k ((0 : Nat) : Int)] : Array Value)[0]?) = some (.slice none 0 0) := rfl
  have e1 : ((#[Value.slice none 0 0, .int k ((0 : Nat) : Int)] : Array Value)[1]?) = some (.int k ((0 : Nat) : Int)) := rfl
  have hs := ke.rSize (w := w)
  have hw := appZ_new (P := P) ke hpos 0 w
  have hi := ke.rInfo (w := w)
  have g1 : (asInt (.int k ((0 : Nat) : Int))).run P w = .ok ((0 : Nat) : Int) w := rfl
  have g2 : ¬ (((0 : Nat) : Int) < 0) := by omega
  have g3 : ¬ (((0 : Nat) : Int) * (ke.inf.bytes : Int) > 2 ^ 48) := appZ_big ke (by omega)
  simp only [Builtin.append_, h0, e0, e1, h1, Sem.run_bind, rUnd ht, rUnd hu, Result.andThen_ok, hs, Sem.run_pure, if_true, Bool.not_true, Bool.false_eq_true, if_false, g1, i64_small (show 0 ≤ 100000 by omega), g2, hi, g3, Int.toNat_natCast, Nat.add_zero, Nat.le_refl] at hw ⊢
  simp only [hw, Result.andThen_ok, Sem.run_pure]
theorem append_growsZ {ats : Array TypeId} {ty t e u : TypeId} {k q : IntKind} (h0 : ats[0]? = some t) (h1 : ats[1]? = some u) (hu : P.underlying u = some (.int q)) (ht : P.underlying t = some (.slice e)) {ei : TI} (ke : TIok P e ei) (hpos : ei.size ≠ 0) {w : World} {n sLen sCap : Nat} {b : Option Addr} {old : Array Value}
    (hn : n ≤ 100000) (hfit : ¬ sLen + n ≤ sCap) (hsm : sLen + n ≤ 100000) (ho : (Builtin.firstCells ei.size sLen (.slice b sLen sCap)).run P w.drew = .ok old w.drew) :
    (Builtin.append_ ats ty #[.slice b sLen sCap, .int k (n : Int)]).run P w = .ok (.slice (some ⟨w.heap.size, 0, none⟩) (sLen + n) (grownCap w (sLen + n) sCap e))
      (w.drew.alloc (.cells (old ++ Builtin.zeroCells ke.zero.cells n ++ Builtin.zeroCells ke.zero.cells (grownCap w (sLen + n) sCap e - (sLen + n))) e)) := by
  have e0 : ((#[Value.slice b sLen sCap, .int k (n : Int)] : Array Value)[0]?) = some (.slice b sLen sCap) := rfl
  have e1 : ((#[Value.slice b sLen sCap, .int k (n : Int)] : Array Value)[1]?) = some (.int k (n : Int)) := rfl
  have hs := ke.rSize (w := w)
  have hw := appZ_new (P := P) ke hpos n w.drew
  have hi := ke.rInfo (w := w)
  have hi' := ke.rInfo (w := w.drew)
  have hzv := ke.rZero (w := w.drew)
  have g1 : (asInt (.int k (n : Int))).run P w = .ok (n : Int) w := rfl
  have g2 : ¬ ((n : Int) < 0) := by omega
  have g3 : ¬ ((n : Int) * (ke.inf.bytes : Int) > 2 ^ 48) := appZ_big ke hn
  have h63 : ¬ ((sLen + n : Nat) : Int) > IntKind.i64.max := by
    have : IntKind.i64.max = 9223372036854775807 := rfl
    rw [this]; omega
  have h48 : ¬ Builtin.nextslicecap (sLen + n) sCap * ke.inf.bytes > 2 ^ 48 := by
    have h1 : Builtin.nextslicecap (sLen + n) sCap ≤ 200000 := by have := nextslicecap_le (need := sLen + n) (old := sCap) (by omega); omega
    have h2 : Builtin.nextslicecap (sLen + n) sCap * ke.inf.bytes ≤ 200000 * 1000000 := Nat.mul_le_mul h1 ke.hbytes
    omega
  have hch : (choose (.appendCap (sLen + n) sCap e)).run P w = .ok (grownCap w (sLen + n) sCap e) w.drew := by
    simp [Question.forced, grownCap]
  simp only [Builtin.append_, h0, e0, e1, h1, Sem.run_bind, rUnd ht, rUnd hu, Result.andThen_ok, hs, Sem.run_pure, if_true, Bool.not_true, Bool.false_eq_true, if_false, g1, i64_small hn, g2, hi, g3, Int.toNat_natCast, hfit, h63, false_and, h48, hch, run_askRoom, ho] at hw ⊢
  simp only [ho, hw, Result.andThen_ok, hzv, newRow, Sem.run_bind, Sem.run_pure, hi']
  rfl
theorem eAppendZ {c : Call} {s x : Operand} (ho : o.op = .call c) (hc : c.callee = .builtin .append) (ha : c.args.toList = [s, x]) {t u : TypeId} (ht : c.argTypes.toList = [t, u]) {i : TI} (k : TIok P t i) {e : TypeId} (hd : i.desc = .slice e)
    {xi : TI} (kx : TIok P u xi) {q : IntKind} (hq : xi.desc = .int q) {ei : TI} (ke : TIok P e ei) (hpos : ei.size ≠ 0) :
    EOK P sl o (fun vs ρ h => natV (fun m => when (Nat.ble m 100000) (appendV ei.size e m (repl ei.zc m []) h ((vk sl s).get vs ρ))) ((vk sl x).get vs ρ)) := by
  intro φ h vs ρ a w outs hl H hf
  have hx := hl.at ho (x := x) (arg_mem hc (by rw [ha]; simp))
  have hs := hl.at ho (x := s) (arg_mem hc (by rw [ha]; simp))
  have hf : natV (fun m => when (Nat.ble m 100000) (appendV ei.size e m (repl ei.zc m []) h ((vk sl s).get vs ρ))) ((vk sl x).get vs ρ) = some outs := hf
  have hdd := k.hdesc
  rw [hd] at hdd
  have hdd : k.desc = .slice e := hdd
  have hu : P.underlying t = some (.slice e) := by rw [k.hund, hdd]
  have hqd := kx.hdesc
  rw [hq] at hqd
  have hqd : kx.desc = .int q := hqd
  have hux : P.underlying u = some (.int q) := by rw [kx.hund, hqd]
  have ex := fun {w'} {z} => exec_app (P := P) (w := w) (w' := w') (z := z) ho hc ha (a := a)
  generalize (vk sl x).get vs ρ = xv at hx hf
  generalize a.eval x = xe at hx ex
  unfold natV at hf
  split at hf
  case h_2 => cases hf
  rename_i kk m
  cases hx
  obtain ⟨h1, h2⟩ := when_some hf
  rw [ble_dec] at h1
  have hm := of_decide_eq_true h1
  have hrep : (Builtin.zeroCells ke.zero.cells m).toList = repl ke.zero.cells.toList m [] := repl_range _ (by have := zero_size ke; omega) m
  obtain ⟨z, w', ψ, vh, q1, q2, q3, q4, q5, q6⟩ := app_ok (new := Builtin.zeroCells ke.zero.cells m) H ke hpos hs (by rw [hrep]; exact repl_rel (ke.hzc φ) m .nil) (by rw [hrep]; exact repl_mem ke.hz1 m (by simp)) (by rw [size_zeroCells, zero_size ke]) h2
    (fun z w' => (Builtin.append_ c.argTypes o.type #[a.eval s, .int kk (m : Int)]).run P w = .ok z w')
    (fun e1 e2 => by subst e2; rw [e1]; exact append_nilZ (argTy ht) (argTy1 ht) hux hu ke hpos)
    (fun b sLen sCap w' e1 hfit hst => by rw [e1]; exact append_fitsZ (argTy ht) (argTy1 ht) hux hu ke hpos hm hfit hst)
    (fun b sLen sCap old e1 hfit hsm hold => by rw [e1]; exact append_growsZ (argTy ht) (argTy1 ht) hux hu ke hpos hm hfit hsm hold)
  exact ⟨_, w', z, ψ, vh, ex q1, .inl rfl, q2, q3, q4, q5, q6⟩
end
end Go.Proofs.YtcbacbfjjahcbaaGreatDoor.Ev
