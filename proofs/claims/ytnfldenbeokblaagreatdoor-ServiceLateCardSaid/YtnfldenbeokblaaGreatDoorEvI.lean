/- An evaluator over abstract values and the proof that what it reckons is what the model's calls do: part 9 of 9. -/
import Derived.Test.YtnfldenbeokblaaGreatDoorEvH
import Derived.Laws.Externs
import Derived.Lib.Bytealg
import Derived.Lib.MakeNoZero
import Derived.RecoverIn
namespace Go.Proofs.YtnfldenbeokblaaGreatDoor.Ev
set_option linter.unusedVariables false
set_option linter.unusedSimpArgs false
open Go
theorem indexByteA_eq : ∀ (l : List UInt8) (c : UInt8) (k : Nat), indexByteA c.toNat (l.map UInt8.toNat) k = if Lib.indexByte l c = -1 then -1 else Lib.indexByte l c + k
  | [], c, k => rfl
  | b :: l, c, k => by
    have ih := indexByteA_eq l c (k + 1)
    have hge := Lib.indexByte_ge l c
    show (match Nat.beq b.toNat c.toNat with | true => Int.ofNat k | false => seqN (Nat.succ k) (indexByteA c.toNat (l.map UInt8.toNat))) = _
    rw [beq_dec]
    unfold Lib.indexByte
    by_cases hb : b = c
    · subst hb
      rw [decide_eq_true rfl]
      simp
    · have hn : ¬ b.toNat = c.toNat := fun e => hb (UInt8.toNat_inj.1 e)
      rw [decide_eq_false hn]
      simp only [seqN_eq]
      rw [show Nat.succ k = k + 1 from rfl, ih]
      have hbc : (b == c) = false := by simpa using hb
      rw [hbc]
      by_cases hm : Lib.indexByte l c = -1
      · simp [hm]
      · have hm2 : (Lib.indexByte l c == -1) = false := by simpa using hm
        have h0 : ¬ (Lib.indexByte l c + 1 = -1) := by omega
        simp only [hm, hm2, if_false, Bool.false_eq_true, h0]
        push_cast; omega
theorem countA_eq : ∀ (l : List UInt8) (c : UInt8) (n : Nat), countA c.toNat (l.map UInt8.toNat) n = n + Lib.countByte l c
  | [], c, n => rfl
  | b :: l, c, n => by
    show (match Nat.beq b.toNat c.toNat with | true => seqN (Nat.succ n) fun m => countA c.toNat (l.map UInt8.toNat) m | false => countA c.toNat (l.map UInt8.toNat) n) = _
    rw [beq_dec]
    unfold Lib.countByte
    rw [List.count_cons]
    by_cases hb : b = c
    · subst hb
      rw [decide_eq_true rfl]
      simp only [seqN_eq]
      rw [show Nat.succ n = n + 1 from rfl, countA_eq l b (n + 1)]
      unfold Lib.countByte
      simp; omega
    · have hn : ¬ b.toNat = c.toNat := fun e => hb (UInt8.toNat_inj.1 e)
      rw [decide_eq_false hn]
      have hbc : (b == c) = false := by simpa using hb
      simp only [hbc, Bool.false_eq_true, if_false, Nat.add_zero]
      rw [countA_eq l c n]; rfl
theorem byte_of (c : Nat) (h : c < 256) : c = (UInt8.ofNat c).toNat := by simp; omega
section
variable {P : Program} {f : FuncId} {fn : Func}
theorem extNoEscape (hf : P.funcs[f]? = some fn) (hname : (fn.name == "runtime.NumGoroutine") = false) (hb : fn.body.isNone = true) (hn : Extern.findNext fn = none) (he : Extern.find fn = some Extern.AbiNoEscape.same) : ExtOK P f .noEscape := by
  intro φ h w args args' outs hx ha H
  rw [run_callFunc_extern hf hname hb hn he]
  obtain ⟨l⟩ := args'
  cases ha with
  | nil => cases hx
  | cons v y l l' hy hl =>
    cases hl with
    | cons => cases hx
    | nil =>
      have hx : some [(v, h)] = some outs := hx
      injection hx with hx
      exact ⟨φ, (v, h), by rw [← hx]; exact List.mem_singleton.2 rfl, H, .refl _ _ _, hy, .refl _⟩
theorem str_byte {g : Nat → Nat → M AVal} {args : List AVal} {outs : List (AVal × Heap)} (hx : extStr g args = some outs) : ∃ s c, args = [.str s, .int .u8 (.ofNat c)] ∧ c < 256 ∧ g s c = some outs := by
  unfold extStr at hx
  split at hx
  · rename_i s c
    obtain ⟨h1, h2⟩ := when_some hx
    rw [blt_dec] at h1
    exact ⟨s, c, rfl, of_decide_eq_true h1, h2⟩
  · cases hx
theorem str_byte_rel {φ : Ren} {s c : Nat} {xs : List Value} (ha : VRelL φ [.str s, .int .u8 (.ofNat c)] xs) : ∃ st : ByteArray, xs = [.string st, .int .u8 (Int.ofNat c)] ∧ s = enc st.data.toList := by
  cases ha with
  | cons v y l l' hy hl =>
    cases hl with
    | cons v2 y2 l2 l2' hy2 hl2 =>
      cases hl2
      cases hy with
      | str st =>
        cases hy2
        exact ⟨st, rfl, rfl⟩
theorem extIndexByte (hf : P.funcs[f]? = some fn) (hname : (fn.name == "runtime.NumGoroutine") = false) (hb : fn.body.isNone = true) (hn : Extern.findNext fn = none) (he : Extern.find fn = some Extern.BytealgIndexByte.indexByte) : ExtOK P f .indexByte := by
  intro φ h w args args' outs hx ha H
  rw [run_callFunc_extern hf hname hb hn he]
  obtain ⟨l⟩ := args'
  obtain ⟨s, c, rfl, hc, h1⟩ := str_byte (show extStr (fun s c => seqI (indexByteA c (sBytes s) 0) fun i => ret1 (.int .i64 i) h) args = some outs from hx)
  obtain ⟨st, hl, rfl⟩ := str_byte_rel ha
  have hl : l = _ := hl
  subst hl
  rw [seqI_eq, sBytes_enc] at h1
  have h1 : some [(AVal.int .i64 (indexByteA c (st.data.toList.map UInt8.toNat) 0), h)] = some outs := h1
  injection h1 with h1
  have hrun : (Extern.BytealgIndexByte.indexByte ⟨[.string st, .int .u8 (Int.ofNat c)]⟩).run P w = .ok (.int .i64 (Lib.indexByte st.data.toList (UInt8.ofNat c))) w := Lib.run_indexByteString st (c : Int) w
  rw [hrun]
  refine ⟨φ, _, by rw [← h1]; exact List.mem_singleton.2 rfl, H, .refl _ _ _, ?_, .refl _⟩
  have hcc := byte_of c hc
  rw [show indexByteA c (st.data.toList.map UInt8.toNat) 0 = indexByteA (UInt8.ofNat c).toNat (st.data.toList.map UInt8.toNat) 0 from by rw [← hcc], indexByteA_eq]
  have : (if Lib.indexByte st.data.toList (UInt8.ofNat c) = -1 then (-1 : Int) else Lib.indexByte st.data.toList (UInt8.ofNat c) + ((0 : Nat) : Int)) = Lib.indexByte st.data.toList (UInt8.ofNat c) := by
    split
    · rename_i h; rw [h]
    · simp
  rw [this]; exact .int _ _
theorem extCount (hf : P.funcs[f]? = some fn) (hname : (fn.name == "runtime.NumGoroutine") = false) (hb : fn.body.isNone = true) (hn : Extern.findNext fn = none) (he : Extern.find fn = some Extern.BytealgCount.count) : ExtOK P f .count := by
  intro φ h w args args' outs hx ha H
  rw [run_callFunc_extern hf hname hb hn he]
  obtain ⟨l⟩ := args'
  obtain ⟨s, c, rfl, hc, h1⟩ := str_byte (show extStr (fun s c => seqN (countA c (sBytes s) 0) fun i => ret1 (.int .i64 (.ofNat i)) h) args = some outs from hx)
  obtain ⟨st, hl, rfl⟩ := str_byte_rel ha
  have hl : l = _ := hl
  subst hl
  rw [seqN_eq, sBytes_enc] at h1
  have h1 : some [(AVal.int .i64 (.ofNat (countA c (st.data.toList.map UInt8.toNat) 0)), h)] = some outs := h1
  injection h1 with h1
  have hrun : (Extern.BytealgCount.count ⟨[.string st, .int .u8 (Int.ofNat c)]⟩).run P w = .ok (.int .i64 (Lib.countByte st.data.toList (UInt8.ofNat c))) w := Lib.run_countString st (c : Int) w
  rw [hrun]
  refine ⟨φ, _, by rw [← h1]; exact List.mem_singleton.2 rfl, H, .refl _ _ _, ?_, .refl _⟩
  have hcc := byte_of c hc
  rw [show countA c (st.data.toList.map UInt8.toNat) 0 = countA (UInt8.ofNat c).toNat (st.data.toList.map UInt8.toNat) 0 from by rw [← hcc], countA_eq, Nat.zero_add]
  exact .int _ _
theorem extMakeNoZero (hf : P.funcs[f]? = some fn) (hname : (fn.name == "runtime.NumGoroutine") = false) (hb : fn.body.isNone = true) (hn : Extern.findNext fn = none) {t e : TypeId} (he : Extern.find fn = some (Extern.BytealgMakeNoZero.makeNoZero fn.params #[t])) (ht : P.underlying t = some (.slice e)) (h1c : P.cellsOf e = 1) : ExtOK P f (.makeNoZero e) := by
  intro φ h w args args' outs hx ha H
  rw [run_callFunc_extern hf hname hb hn he]
  obtain ⟨l⟩ := args'
  have hx2 : extRow e h args = some outs := hx
  clear hx
  unfold extRow at hx2
  split at hx2
  · rename_i n
    obtain ⟨h1, h2⟩ := when_some hx2
    have h1 := Nat.le_of_ble_eq_true h1
    have h2 : some [(AVal.slice h.next 0 n none, h.alloc (.cells .nil n none e))] = some outs := h2
    injection h2 with h2
    cases ha with
    | cons v y l l' hy hl =>
      cases hl
      cases hy
      obtain ⟨cs, g1, g2, _⟩ := Lib.run_makeNoZero (P := P) w fn.params t e ht n (by omega)
      have hrun : (Extern.BytealgMakeNoZero.makeNoZero fn.params #[t] ⟨[.int .i64 (Int.ofNat n)]⟩).run P w = .ok (.slice (some ⟨w.heap.size, 0, none⟩) n cs.size) (w.drew.drew.alloc (.cells cs e)) := g1
      rw [hrun]
      have A := H.alloc (cap := cs.size) (sz := P.cellsOf e) (ob := .cells .nil n none e) (o' := .cells cs e (0, 0)) ⟨cs, (0, 0), rfl, .inl rfl, by rw [add_off, add_cap]; omega, by rw [add_cap]; exact g2, (fun u hu => by cases hu), by rw [add_sz], by rw [add_off]; exact Nat.zero_mod _, fun k v hk => by
        have := get_nil (α := AVal) dep k
        rw [show (T.nil : T AVal).get k = none from this] at hk; cases hk⟩
      refine ⟨_, _, by rw [← h2]; exact List.mem_singleton.2 rfl, A.1, A.2, ?_, ⟨rfl, rfl⟩⟩
      exact new_slice (by rw [h1c]; omega) rfl cs.size (by rw [h1c]; omega) g2
  · cases hx2
end
end Go.Proofs.YtnfldenbeokblaaGreatDoor.Ev
namespace Go.Proofs.YtnfldenbeokblaaGreatDoor.Ev
set_option linter.unusedVariables false
set_option linter.unusedSimpArgs false
open Go
section
variable {P : Program} {tt : TT}
/-- a deferred function that asks recover, and does nothing where there is no panic -/
theorem dnop_ok (hT : TTok P tt) {f : FuncId} {fn : Func} (hf : P.funcs[f]? = some fn) (hname : (fn.name == "runtime.NumGoroutine") = false) {i0 i1 d0 d1 d2 d3 : Nat} {o0 o1 o2 o3 : Oper} {A : Code} {t yt : TypeId} {ti : TI} {em : Bool}
    (hb : fn.body = some (.seq (.region i0 #[o0, o1] false) (.seq (.region i1 #[o2, o3] false) (.cond (.tmp d3) A .skip)))) (hres : fn.results = #[])
    (h0 : o0.op = .call { callee := .builtin .recover, args := #[], argTypes := #[] } ∧ o0.dst = some d0 ∧ o0.guard = none) (h1 : o1.op = .assign (.tmp d0) ∧ o1.dst = some d1 ∧ o1.guard = none)
    (h2 : o2.op = .move (.tmp d1) ∧ o2.dst = some d2 ∧ o2.guard = none) (h3 : o3.op = .binOp .neq t (.tmp d2) (.const .nilIface) yt ∧ o3.dst = some d3 ∧ o3.guard = none)
    (ht : tt.get t = some ti) (hti : ti.desc = .iface em) (b0 : d0 < fn.ntmps) (b1 : d1 < fn.ntmps) (b2 : d2 < fn.ntmps) (b3 : d3 < fn.ntmps) : DNop P f := by
  obtain ⟨k⟩ := hT t ti ht
  refine ⟨fun args w => ?_, fun args w => ?_⟩
  · have h3 : fn.body.isNone = false := by rw [hb]; rfl
    simp only [callFunc, Sem.run_bind, run_program, Result.andThen_ok, hf, hname, h3, Bool.false_eq_true, if_false, Sem.run_pure]
  · refine callsDIn_of_wpSIn hf hb trivial fun c₀ cs hm => ?_
    have hsz : fn.ntmps ≤ (args ++ Array.replicate (fn.ntmps - args.size) undef).size := by simp; omega
    generalize args ++ Array.replicate (fn.ntmps - args.size) undef = tm at hsz
    have hrec : recoverD (c₀ :: cs) = none := by simp [recoverD, hm]
    have want : ∀ {o : Oper} (ops : Array Oper) (tm : Array Value), o.guard = none → Region.wanted o (yielded ops tm) = true := fun ops tm hg => by simp [Region.wanted, hg]
    have gd : ∀ (tm : Array Value) (d : Nat) (x : Value), d < tm.size → (tm.setIfInBounds d x).getD d undef = x := fun tm d x hd => by rw [getD_set hd, if_pos rfl]
    have e0 : ∀ (a : Act) (w : World), (execOp a.eval o0).run P w = .ok .recover w := by
      intro a w
      rw [exec_builtin h0.1 rfl]; rfl
    have e1 : ∀ (a : Act) (w : World), (execOp a.eval o1).run P w = .ok (.value (a.tmps.getD d0 undef)) w := by
      intro a w; simp [execOp, h1.1, Act.eval]
    have e2 : ∀ (a : Act) (w : World), (execOp a.eval o2).run P w = .ok (.value (a.tmps.getD d1 undef)) w := by
      intro a w; simp [execOp, h2.1, Act.eval]
    have e3 : ∀ (a : Act) (w : World), a.tmps.getD d2 undef = .nilIface → (execOp a.eval o3).run P w = .ok (.value (.bool false)) w := by
      intro a w hv
      have L : ORel Ren.none ⟨0, [d2], false⟩ [.nilIface] (.nil : T AVal) a o3 := by
        intro x hx
        rw [h3.1] at hx
        simp [Op.operands] at hx
        rcases hx with rfl | rfl
        · show VRel Ren.none ((vTmpS ⟨0, [d2], false⟩ d2).get [.nilIface] .nil) (a.eval (.tmp d2))
          have : (vTmpS ⟨0, [d2], false⟩ d2).get [.nilIface] (.nil : T AVal) = .nilIface := by
            unfold vTmpS
            rw [show Nat.testBit (SL.glob ⟨0, [d2], false⟩) d2 = false from Nat.zero_testBit d2]
            show (vLoc d2 [d2]).get [.nilIface] (.nil : T AVal) = .nilIface
            unfold vLoc
            rw [beq_dec, decide_eq_true rfl]; rfl
          rw [this]
          show VRel Ren.none .nilIface (a.tmps.getD d2 undef)
          rw [hv]; exact .nilIface
        · exact ofConst_rel Ren.none .nilIface
      obtain ⟨x, g1, g2⟩ := pIsNil (neg := true) (sl := ⟨0, [d2], false⟩) h3.1 k hti rfl Ren.none [.nilIface] (.nil : T AVal) a w (.bool false) L (by
        show ob (isNilIface ((vTmpS ⟨0, [d2], false⟩ d2).get [.nilIface] (.nil : T AVal))) (fun b => mkB (notB b)) = some (.bool false)
        have : (vTmpS ⟨0, [d2], false⟩ d2).get [.nilIface] (.nil : T AVal) = .nilIface := by
          unfold vTmpS
          rw [show Nat.testBit (SL.glob ⟨0, [d2], false⟩) d2 = false from Nat.zero_testBit d2]
          show (vLoc d2 [d2]).get [.nilIface] (.nil : T AVal) = .nilIface
          unfold vLoc
          rw [beq_dec, decide_eq_true rfl]; rfl
        rw [this]; rfl)
      cases g2
      exact g1
    refine wpSIn_seq (wpSIn_region ?_)
    show wpOpsSIn (W none) 0 P #[o0, o1] _ [0, 1] _ _ _
    have i0' : (#[o0, o1] : Array Oper)[0]? = some o0 := rfl
    have i1' : (#[o0, o1] : Array Oper)[1]? = some o1 := rfl
    simp only [wpOpsSIn, i0', i1', want _ _ h0.2.2, want _ _ h1.2.2, if_true, e0, e1, hrec]
    refine ⟨fun _ _ => trivial, fun _ _ => trivial, ?_⟩
    show (Code.seq _ _).wpSIn (W none) 0 P _ _ _ _
    refine wpSIn_seq (wpSIn_region ?_)
    show wpOpsSIn (W none) 0 P #[o2, o3] _ [0, 1] _ _ _
    have i2' : (#[o2, o3] : Array Oper)[0]? = some o2 := rfl
    have i3' : (#[o2, o3] : Array Oper)[1]? = some o3 := rfl
    have s0 : d0 < tm.size := by omega
    have hv0 : ((tm.setIfInBounds d0 .nilIface).getD d0 undef) = .nilIface := gd _ _ _ s0
    have hv1 : (((tm.setIfInBounds d0 .nilIface).setIfInBounds d1 .nilIface).getD d1 undef) = .nilIface := gd _ _ _ (by simp; omega)
    have hv2 : ((((tm.setIfInBounds d0 .nilIface).setIfInBounds d1 .nilIface).setIfInBounds d2 .nilIface).getD d2 undef) = .nilIface := gd _ _ _ (by simp; omega)
    have hv3 : (((((tm.setIfInBounds d0 .nilIface).setIfInBounds d1 .nilIface).setIfInBounds d2 .nilIface).setIfInBounds d3 (.bool false)).getD d3 undef) = .bool false := gd _ _ _ (by simp; omega)
    simp only [h0.2.1, h1.2.1, Act.put, hv0]
    simp only [wpOpsSIn, i2', i3', want _ _ h2.2.2, want _ _ h3.2.2, if_true, e2, h2.2.1, h3.2.1, Act.put, hv1]
    refine ⟨fun _ _ => trivial, fun _ _ => trivial, ?_⟩
    rw [e3 _ _ hv2]
    show (Code.cond _ _ _).wpSIn (W none) 0 P _ _ _ _
    refine wpSIn_cond (t := false) (by simpa [Act.eval] using hv3) ?_
    refine wpSIn_of_wpIn rfl (wpIn_skip ?_)
    refine ⟨rfl, .returning, by rw [← hm], .tuple #[], ?_, ⟨_, rfl⟩, rfl, rfl, .refl _⟩
    simp [results, hres]
end
end Go.Proofs.YtnfldenbeokblaaGreatDoor.Ev
namespace Go.Proofs.YtnfldenbeokblaaGreatDoor.Ev
set_option linter.unusedVariables false
set_option linter.unusedSimpArgs false
open Go
theorem beqA_eq : ∀ (a b : List AVal), beqA a b = true → a = b
  | [], [], _ => rfl
  | [], _ :: _, h => by cases h
  | _ :: _, [], h => by cases h
  | a :: l, b :: m, h => by
    have h : (match beqV 2 a b with | true => beqA l m | false => false) = true := h
    cases hb : beqV 2 a b with
    | false => rw [hb] at h; cases h
    | true =>
      rw [hb] at h
      rw [beqV_eq 2 a b hb, beqA_eq l m h]
theorem knownA_some : ∀ {l : List (List AVal × AVal)} {args : List AVal} {v : AVal}, knownA l args = some v → (args, v) ∈ l
  | [], _, _, h => by cases h
  | x :: l, args, v, h => by
    have h : (match beqA x.1 args with | true => some x.2 | false => knownA l args) = some v := h
    cases hb : beqA x.1 args with
    | false => rw [hb] at h; exact List.mem_cons_of_mem _ (knownA_some h)
    | true =>
      rw [hb] at h
      injection h with h'
      have e1 := beqA_eq _ _ hb
      subst e1
      rw [← h']
      exact List.mem_cons_self
/-- at arguments without memory a function is known -/
theorem sumL_ok {P : Program} {pg : Pg} (G : PgOK P pg) {n : Nat} {f : FuncId} {fn : Func} (hf : pg.funcs.get f = some fn) (hb : fn.body.isSome = true) {l : List (List AVal × AVal)} {d : Nat}
    (H : ∀ x ∈ l, closedL (closedV d) x.1 = true ∧ closedV d x.2 = true ∧ runIs (call pg n (.func f) x.1 h0) x.2 = true) : SumOK P f (sumL l) := by
  intro args v φ args' w hu ha
  obtain ⟨h1, h2, h3⟩ := H _ (knownA_some (show knownA l args = some v from hu))
  exact run_ok G hf hb h3 h2 (VRelL.closed ha d h1) φ w
end Go.Proofs.YtnfldenbeokblaaGreatDoor.Ev
