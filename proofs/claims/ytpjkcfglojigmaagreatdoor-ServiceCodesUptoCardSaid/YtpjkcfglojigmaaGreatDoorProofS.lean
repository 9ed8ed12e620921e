/- Whatever its integers and texts are, where they are together of bulk at most 1048576, mainlinelaw24.ServiceCodes returns true and leaves what it reads as it was: the row, with the listed variables laid as the row says, and its tied card. -/
import Derived.Test.YtpjkcfglojigmaaGreatDoorFin
import Derived.Test.YtpjkcfglojigmaaGreatDoorPost
import Derived.Test.YtpjkcfglojigmaaGreatDoorArr
import Derived.Test.YtpjkcfglojigmaaGreatDoorFjS
import Derived.Test.YtpjkcfglojigmaaGreatDoorFf
import Derived.Test.YtpjkcfglojigmaaGreatDoorTie
import Derived.Test.YtpjkcfglojigmaaGreatDoorCards
import Derived.ProofKit
import Derived.OpenShut
import Derived.LaidMore
import Derived.Lay
import Derived.SevenTiedAt
import Derived.Stop.Joined
import Derived.Deep.DeepHandedRow
import Derived.Deep.Modes
import Derived.JoinedCond
namespace Go.Proofs.YtpjkcfglojigmaaGreatDoor
open Go Go.ChangeShapes Go.WideShapes Go.ChangeAt Go.RowKit
set_option maxRecDepth 1000000
set_option linter.unusedVariables false
theorem own : ownKnob Tryz.prog.godebug = none := by kernel_rfl
theorem cells3 : Tryz.prog.cellsOf 3 = 1 := by kernel_rfl
theorem cells9 : Tryz.prog.cellsOf 9 = 1 := by kernel_rfl
theorem cells22 : Tryz.prog.cellsOf 22 = 6 := by kernel_rfl
theorem cells23 : Tryz.prog.cellsOf 23 = 2 := by kernel_rfl
theorem cells24 : Tryz.prog.cellsOf 24 = 3 := by kernel_rfl
theorem agg_of {W : World} {base t n e : Nat} {v : Value} (ht : Tryz.prog.underlying t = some (.array n e)) (h : Value.okWide Tryz.prog W .any base t v) : ∃ cs, v = .agg cs := by
  unfold Value.okWide at h
  rw [ht] at h
  obtain ⟨cs, h1, _⟩ := h
  exact ⟨cs, h1⟩
theorem agg_list {cs : Array Value} {l : List Value} (h : cs.toList = l) : Value.agg cs = .agg l.toArray := by rw [← h]
theorem contract (H : Type) (enc : TypeId × Value → H) (W : World) (base : Nat) (args : Array Value) (ds gs : List (DataW H)) (before : List MemPlace)
    (hval0 : ∀ (j : Nat) t v, Tryz.f3.params[j]? = some t → args[j]? = some v → Value.okWide Tryz.prog W .any base t v)
    (hW : DataW.Whole enc Tryz.prog Tryz.f3.params.toList Rows.serviceCodesSpec.vars false W args.toList ds gs before) (hk : Rows.uptoSmall H (ds ++ gs) = true) (hshape : W.ShapedOpen Tryz.prog) :
    Calls Tryz.prog 3 args W fun e W' => ∃ v, e = .returned v ∧ Rows.serviceCodesSpec.post enc Tryz.prog Tryz.f3 false true false false W args v W' := by
  have hval : ∀ (j : Nat) t v, Tryz.f3.params[j]? = some t → args[j]? = some v → Value.okWide Tryz.prog W .any base t v := hval0
  have hW' := hW
  obtain ⟨p, q, hA0, hV, rfl, _, _⟩ := hW
  have hA : DataW.TrodAll enc Tryz.prog W 0 (fun _ => true) true Tryz.f3.params.toList args.toList ds p := hA0
  rw [Tryz.params3] at hA hval
  obtain ⟨v0, vs0, d0, ds0, p0, q0, hargs, rfl, rfl, h0, r0⟩ := trodAll_cons hA
  obtain ⟨v1, vs1, d1, ds1, p1, q1, rfl, rfl, rfl, h1, r1⟩ := trodAll_cons r0
  obtain ⟨v2, vs2, d2, ds2, p2, q2, rfl, rfl, rfl, h2, r2⟩ := trodAll_cons r1
  obtain ⟨rfl, rfl, rfl⟩ := trodAll_nil r2
  obtain rfl : args = #[v0, v1, v2] := by cases args; simp_all
  obtain ⟨rfl, rfl⟩ := trodVars_none hV
  obtain ⟨c0, rfl⟩ := agg_of Tryz.underlying22 (hval 0 22 v0 rfl rfl)
  obtain ⟨c1, rfl⟩ := agg_of Tryz.underlying23 (hval 1 23 v1 rfl rfl)
  obtain ⟨c2, rfl⟩ := agg_of Tryz.underlying24 (hval 2 24 v2 rfl rfl)
  obtain ⟨rfl, l0, g0⟩ := ints_arr Tryz.underlying22 Tryz.underlying3 cells3 cells22 h0
  obtain ⟨rfl, l1, D1, rfl, m1, g1⟩ := strs_arr Tryz.underlying23 Tryz.underlying9 cells9 cells23 h1
  obtain ⟨rfl, l2, g2⟩ := ints_arr Tryz.underlying24 Tryz.underlying3 cells3 cells24 h2
  obtain ⟨a0, a1, a2, a3, a4, a5, e0⟩ := six l0
  obtain ⟨b0, b1, e1⟩ := two l1
  obtain ⟨x0, x1, x2, e2⟩ := three l2
  clear hA0 hval0 hval
  simp only [List.append_nil] at hW'
  have k0 : ∀ i (hi : i < [a0, a1, a2, a3, a4, a5].length), ∃ z, [a0, a1, a2, a3, a4, a5][i] = .int .i64 z ∧ (Lit.int .i64 z).wf = true := by rw [← e0]; exact g0
  have k1 : ∀ i (hi : i < [b0, b1].length), ∃ s : ByteArray, [b0, b1][i] = .string s ∧ D1[i]? = some (.lit (.string s.data.toList)) := by rw [← e1]; exact g1
  have k2 : ∀ i (hi : i < [x0, x1, x2].length), ∃ z, [x0, x1, x2][i] = .int .i64 z ∧ (Lit.int .i64 z).wf = true := by rw [← e2]; exact g2
  obtain ⟨n0, y0, w0⟩ := k0 0 (by simp)
  obtain ⟨n1, y1, w1⟩ := k0 1 (by simp)
  obtain ⟨n2, y2, w2⟩ := k0 2 (by simp)
  obtain ⟨n3, y3, w3⟩ := k0 3 (by simp)
  obtain ⟨n4, y4, w4⟩ := k0 4 (by simp)
  obtain ⟨n5, y5, w5⟩ := k0 5 (by simp)
  obtain ⟨t0, z0, u0⟩ := k1 0 (by simp)
  obtain ⟨t1, z1, u1⟩ := k1 1 (by simp)
  obtain ⟨q0, f0, v0⟩ := k2 0 (by simp)
  obtain ⟨q1, f1, v1⟩ := k2 1 (by simp)
  obtain ⟨q2, f2, v2⟩ := k2 2 (by simp)
  simp only [List.getElem_cons_zero, List.getElem_cons_succ] at y0 y1 y2 y3 y4 y5 z0 z1 f0 f1 f2
  subst y0 y1 y2 y3 y4 y5 z0 z1 f0 f1 f2
  have s0 : t0.size ≤ 2 ^ 24 := by
    have := str_le (l := [d0, .agg D1, d2] ++ []) (i := 0) (by simp) u0 hk
    have e : t0.size = t0.data.toList.length := (tb_len t0).symm
    omega
  have s1 : t1.size ≤ 2 ^ 24 := by
    have := str_le (l := [d0, .agg D1, d2] ++ []) (i := 1) (by simp) u1 hk
    have e : t1.size = t1.data.toList.length := (tb_len t1).symm
    omega
  have hc := lawAll n0 n1 n2 n3 n4 n5 t0 t1 q0 q1 q2 W (Ev.startFx W hshape) (wf_I64 w0) (wf_I64 w1) (wf_I64 w2) (wf_I64 w3) (wf_I64 w4) (wf_I64 w5) s0 s1 (wf_I64 v0) (wf_I64 v1) (wf_I64 v2)
  rw [← agg_list e0, ← agg_list e1, ← agg_list e2] at hc
  refine hc.mono fun e W' ⟨he, hg⟩ => ?_
  subst he
  exact ⟨_, rfl, Ev.post_of_old hW' (fun _ _ _ => (trodAll_cons_mk (shut_bool Tryz.underlying4 _) trodAll_mk0))
    (fun sp => (trodAll_cons_mk (Trod_any laidOut (by kernel_rfl) (of_decide_eq_true (by kernel_rfl)) (by kernel_rfl) (by kernel_rfl) h0 (fun _ h => by cases h))
      (trodAll_cons_mk (Trod_any laidOut (by kernel_rfl) (of_decide_eq_true (by kernel_rfl)) (by kernel_rfl) (by kernel_rfl) h1 (fun _ h => by cases h))
        (trodAll_cons_mk (Trod_any laidOut (by kernel_rfl) (of_decide_eq_true (by kernel_rfl)) (by kernel_rfl) (by kernel_rfl) h2 (fun _ h => by cases h)) trodAll_mk0))))
    (fun _ => rfl) hg (ok_one (by kernel_rfl) rfl (okWide_bool_mk Tryz.underlying4 _))⟩
theorem okW (os : Os) : Input.okWideB Tryz.checked.prog ((World.laidAll Tryz.prog os Rows.serviceCodesUptoRow.laid).forCall (fun _ _ => 0) ⟨#[], #[.agg #[.int .i64 0, .int .i64 0, .int .i64 0, .int .i64 0, .int .i64 0, .int .i64 0], .agg #[.string ⟨#[]⟩, .string ⟨#[]⟩], .agg #[.int .i64 0, .int .i64 0, .int .i64 0]], []⟩) 3 ⟨#[], #[.agg #[.int .i64 0, .int .i64 0, .int .i64 0, .int .i64 0, .int .i64 0, .int .i64 0], .agg #[.string ⟨#[]⟩, .string ⟨#[]⟩], .agg #[.int .i64 0, .int .i64 0, .int .i64 0]], []⟩ = true := by kernel_rfl
theorem readsW (os : Os) {H : Type} (enc : TypeId × Value → H) : ∃ places, DataW.whole enc Tryz.prog ((World.laidAll Tryz.prog os Rows.serviceCodesUptoRow.laid).forCall (fun _ _ => 0) ⟨#[], #[.agg #[.int .i64 0, .int .i64 0, .int .i64 0, .int .i64 0, .int .i64 0, .int .i64 0], .agg #[.string ⟨#[]⟩, .string ⟨#[]⟩], .agg #[.int .i64 0, .int .i64 0, .int .i64 0]], []⟩).memory Tryz.f3.params.toList Rows.serviceCodesSpec.vars false (#[.agg #[.int .i64 0, .int .i64 0, .int .i64 0, .int .i64 0, .int .i64 0, .int .i64 0], .agg #[.string ⟨#[]⟩, .string ⟨#[]⟩], .agg #[.int .i64 0, .int .i64 0, .int .i64 0]] : Array Value).toList 8 =
    some ([.agg [.lit (.int .i64 0), .lit (.int .i64 0), .lit (.int .i64 0), .lit (.int .i64 0), .lit (.int .i64 0), .lit (.int .i64 0)], .agg [.lit (.string []), .lit (.string [])], .agg [.lit (.int .i64 0), .lit (.int .i64 0), .lit (.int .i64 0)]], [], places) := ⟨[], by kernel_rfl⟩
theorem lifted (os : Os) (started : os.Started) (H : Type) (enc : TypeId × Value → H) (F : Stop.Interp) :
    ReturnsInHanded {} Tryz.checked os 3 .any ((Rows.OpenSpec.upto Rows.serviceCodesSpec).preRow enc Tryz.prog Tryz.f3 Rows.serviceCodesUptoRow.domain false Rows.serviceCodesUptoRow.laid) (((Rows.OpenSpec.upto Rows.serviceCodesSpec).at F).post enc Tryz.prog Tryz.f3 false true false false) := by
  obtain ⟨places, hx⟩ := readsW os enc
  refine returnsInHanded_of_row (C := Tryz.checked) (s := Rows.OpenSpec.upto Rows.serviceCodesSpec) own started (by kernel_rfl) Tryz.func3
    ⟨World.laidAll Tryz.prog os Rows.serviceCodesUptoRow.laid, fun _ _ => 0, ⟨#[], #[.agg #[.int .i64 0, .int .i64 0, .int .i64 0, .int .i64 0, .int .i64 0, .int .i64 0], .agg #[.string ⟨#[]⟩, .string ⟨#[]⟩], .agg #[.int .i64 0, .int .i64 0, .int .i64 0]], []⟩, World.laidAll_os _ _ _,
      World.shaped_of_ZipB (by kernel_rfl) (by kernel_rfl), (Input.okWide_of_okWideB (base := 0) (okW os)).1, (Input.okWide_of_okWideB (okW os)).2,
      OpenSpec.preRow_of_cond 8 hx (by kernel_rfl) (fun k hk => by cases hk; kernel_rfl) (by kernel_rfl) (by rw [MakeChecks.laidMetH_plain _ _ _ (by kernel_rfl)]; exact laidMet_laidAll _ (by kernel_rfl) (by kernel_rfl)), by
        simp only [Assume.holds]
        exact ⟨by simp, by simp, fun _ => Modest.zero, by simp, by simp⟩⟩ ?_
  intro W base args ds gs before hval hW _ hk _ hL hshape _
  exact contract H enc W base args ds gs before hval hW (hk _ rfl) hshape
theorem serviceCodesUpto_said : Rows.ServiceCodesUptoSaid :=
  OpenClaim.holds_of_cond 3 Tryz.f3 rfl rfl rfl rfl rfl rfl rfl ⟨rfl, rfl, rfl, rfl, rfl⟩ rfl rfl rfl rfl rfl (by kernel_rfl) Tryz.func3 joinedS
    (of_decide_eq_true (by kernel_rfl)) (by unfold Func.isWrapper; first | (rw [if_pos (by decide +kernel)]; kernel_rfl) | (rw [if_neg (by decide +kernel)]; exact ⟨rfl, rfl⟩))
    (fun os started H enc _ F => by rw [OpenClaim.pre_eq_preRow]; exact lifted os started H enc F)
theorem cardWf : Rows.serviceCodesUptoRow.wfByText (Rows.OpenSpec.upto Rows.serviceCodesSpec) = true := by kernel_rfl
theorem cardMain : Tryz.prog.mainIs = some (true, "3986d794aaff26bd16eef9fd1413861c7c6850634e5ccb3676eceaa2d3572583".toList) := by kernel_rfl
theorem cardLooks : true = Tryz.prog.looks [] := by kernel_rfl
theorem cardFunc : Tryz.prog.funcNamed "mainline/mainlinelaw24.ServiceCodes" = some 3 := by kernel_rfl
theorem serviceCodesUpto_card : Rows.ServiceCodesUptoCardSaid :=
  Claim7.holds_tied_plain_at .later [] [.data, .pinned] true (true, "3986d794aaff26bd16eef9fd1413861c7c6850634e5ccb3676eceaa2d3572583") true serviceCodesUpto_said (fun _ h => by cases h) cardWf (fun _ h => by cases h) serviceCodesUpto_row_tie rfl ⟨rfl, rfl⟩ cardMain rfl
    (fun f fn hf hfn => by
      obtain rfl : f = 3 := Option.some.inj (cardFunc.symm.trans hf) |>.symm
      obtain rfl : fn = Tryz.f3 := (Option.some.inj (Tryz.func3.symm.trans hfn)).symm
      exact ⟨cardLooks, fun j t ht => by
        rw [Tryz.params3] at ht
        have hm : t ∈ [22, 23, 24] := by simpa using Array.mem_of_getElem? ht
        have hall : ([22, 23, 24].all fun u => !Tryz.prog.wantsStandIn u) = true := by kernel_rfl
        exact (show Tryz.prog.wantsStandIn t = false by simpa using List.all_eq_true.1 hall t hm)⟩)
    (goes_none bodiesGo _).symm
#print axioms serviceCodesUpto_card
end Go.Proofs.YtpjkcfglojigmaaGreatDoor
