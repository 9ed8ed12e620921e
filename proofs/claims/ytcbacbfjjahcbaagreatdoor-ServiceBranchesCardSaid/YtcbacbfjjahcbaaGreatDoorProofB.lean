/- Whatever its byte and its text are, mainlinelaw24.ServiceBranches returns true and leaves what it reads as it was: the row, with the listed variables laid as the row says, and its tied card. -/
import Derived.Test.YtcbacbfjjahcbaaGreatDoorLawB
import Derived.Test.YtcbacbfjjahcbaaGreatDoorPost
import Derived.Test.YtcbacbfjjahcbaaGreatDoorFjB
import Derived.Test.YtcbacbfjjahcbaaGreatDoorFf
import Derived.Test.YtcbacbfjjahcbaaGreatDoorTie
import Derived.Test.YtcbacbfjjahcbaaGreatDoorCards
import Derived.ProofKit
import Derived.OpenShut
import Derived.ChangeMaps5
import Derived.LaidMore
import Derived.Lay
import Derived.SevenTiedAt
import Derived.Stop.Joined
namespace Go.Proofs.YtcbacbfjjahcbaaGreatDoor
open Go.ChangeShapes Go.WideShapes Go.ChangeAt Go.RowKit
theorem own : ownKnob Tryz.prog.godebug = none := by kernel_rfl
set_option maxRecDepth 100000 in
theorem lifted (os : Os) (started : os.Started) (H : Type) (enc : TypeId × Value → H) :
    ReturnsInHanded {} Tryz.checked os 4 .any (fun w args => (Rows.serviceBranchesSpec.pre enc Tryz.prog Tryz.f4 [] false w args ∧ laidMetH Tryz.prog Rows.serviceBranchesRow.laid w) ∧ sizedMet enc Tryz.prog Tryz.f4 (OpenSpec.ofChange Rows.serviceBranchesSpec) false w args)
      (Rows.serviceBranchesSpec.post enc Tryz.prog Tryz.f4 false true false false) := by
  have contract : ∀ (W : World) (base : Nat) (args : Array Value) (ds gs : List (DataW H)) (before : List MemPlace),
      (∀ (j : Nat) t v, Tryz.f4.params[j]? = some t → args[j]? = some v → Value.okWide Tryz.prog W .any base t v) →
      DataW.Whole enc Tryz.prog Tryz.f4.params.toList Rows.serviceBranchesSpec.vars false W args.toList ds gs before → W.ShapedOpen Tryz.prog →
      Calls Tryz.prog 4 args W fun e W' => ∃ v, e = .returned v ∧ Rows.serviceBranchesSpec.post enc Tryz.prog Tryz.f4 false true false false W args v W' := by
    intro W base args ds gs before hval0 hW hshape
    have hval : ∀ (j : Nat) t v, Tryz.f4.params[j]? = some t → args[j]? = some v → Value.okWide Tryz.prog W .any base t v := hval0
    have hW' := hW
    obtain ⟨p, q, hA0, hV, rfl, _, _⟩ := hW
    have hA : DataW.TrodAll enc Tryz.prog W 0 (fun _ => true) true Tryz.f4.params.toList args.toList ds p := hA0
    rw [Tryz.params4] at hA hval
    obtain ⟨v0, vs0, d0, ds0, p0, q0, hargs, rfl, rfl, h0, r0⟩ := trodAll_cons hA
    obtain ⟨v1, vs1, d1, ds1, p1, q1, rfl, rfl, rfl, h1, r1⟩ := trodAll_cons r0
    obtain ⟨rfl, rfl, rfl⟩ := trodAll_nil r1
    obtain rfl : args = #[v0, v1] := by cases args; simp_all
    obtain ⟨rfl, rfl⟩ := trodVars_none hV
    obtain ⟨a0, rfl, rfl, rfl, w0⟩ := open_int Tryz.underlying5 (hval 0 5 v0 rfl rfl) h0
    obtain ⟨a1, rfl, rfl, rfl, w1⟩ := Go.ChangeMaps.open_string Tryz.underlying9 (hval 1 9 v1 rfl rfl) h1
    clear hA0 hval0
    simp only [List.append_nil] at hW'
    have n0 : 0 ≤ a0 := by
      have w0' := w0
      simp only [Lit.wf, Bool.and_eq_true, decide_eq_true_eq] at w0'
      exact w0'.1
    refine (Ev.lawCalls a0 a1 n0 W (Ev.startFx W hshape)).mono fun e W' ⟨he, hg⟩ => ?_
    subst he
    exact ⟨_, rfl, Ev.post_of_old hW' (fun _ _ _ => (trodAll_cons_mk (shut_bool Tryz.underlying4 _) trodAll_mk0)) (fun sp => (trodAll_cons_mk (shut_int Tryz.underlying5 w0) (trodAll_cons_mk (Go.ChangeMaps.shut_string Tryz.underlying9 w1) trodAll_mk0))) (fun _ => rfl)
      hg (ok_one (by kernel_rfl) rfl (okWide_bool_mk Tryz.underlying4 _))⟩
  refine returnsInHanded_of_calls (C := Tryz.checked) own started (by kernel_rfl)
    (ChangeSpec.witness_shaped (enc := enc) (C := Tryz.checked) (os := os) (X := fun w _ => laidMetH Tryz.prog Rows.serviceBranchesRow.laid w) false (World.laidAll Tryz.prog os Rows.serviceBranchesRow.laid) #[.int .u8 0, .string ⟨#[]⟩] 8 (World.laidAll_os _ _ _)
      (World.shaped_of_ZipB (by kernel_rfl) (by kernel_rfl)) (by kernel_rfl) (by kernel_rfl) (by kernel_rfl)
      (by rw [MakeChecks.laidMetH_plain _ _ _ (by kernel_rfl)]; exact laidMet_laidAll _ (by kernel_rfl) (by kernel_rfl))) ?_
  intro w tape i _ hsh _ hok hpre _
  obtain ⟨_, _, _, fn', hfn', _, _, _, _, hv⟩ := hok
  obtain rfl : fn' = Tryz.f4 := Option.some.inj (hfn'.symm.trans Tryz.func4)
  obtain ⟨⟨⟨ds, gs, before, hw, _⟩, _⟩, _⟩ := hpre
  refine (contract (w.forCall tape i) w.heap.size i.args ds gs before hv (DataW.Whole.of_heap (w' := w.forCall tape i) (by rfl) hw) hsh).mono fun e W' ⟨v, he, hp⟩ => ?_
  subst he
  exact ChangeSpec.post_blind hp
theorem serviceBranches_said : Rows.ServiceBranchesSaid :=
  OpenClaim.holds_of_wide 4 Tryz.f4 rfl rfl rfl rfl rfl rfl rfl ⟨rfl, rfl, rfl, rfl, rfl⟩ rfl rfl rfl rfl rfl (by kernel_rfl) Tryz.func4 joinedB
    (of_decide_eq_true (by kernel_rfl)) (by unfold Func.isWrapper; first | (rw [if_pos (by decide +kernel)]; kernel_rfl) | (rw [if_neg (by decide +kernel)]; exact ⟨rfl, rfl⟩))
    (fun os started H enc _ => lifted os started H enc)
theorem cardWf : Rows.serviceBranchesRow.wfByText (OpenSpec.ofChange Rows.serviceBranchesSpec) = true := by kernel_rfl
theorem cardMain : Tryz.prog.mainIs = some (true, "95aa85b21691785d10cffae5ae81c5a18e4684e2e5dfbcc9b4e76b1c60493f20".toList) := by kernel_rfl
theorem cardLooks : true = Tryz.prog.looks [] := by kernel_rfl
theorem cardFunc : Tryz.prog.funcNamed "mainline/mainlinelaw24.ServiceBranches" = some 4 := by kernel_rfl
theorem serviceBranches_card : Rows.ServiceBranchesCardSaid :=
  Claim7.holds_tied_plain_at .later [] [.data, .pinned] true (true, "95aa85b21691785d10cffae5ae81c5a18e4684e2e5dfbcc9b4e76b1c60493f20") true serviceBranches_said (fun _ h => by cases h) cardWf (fun _ h => by cases h) serviceBranches_row_tie rfl ⟨rfl, rfl⟩ cardMain rfl
    (fun f fn hf hfn => by
      obtain rfl : f = 4 := Option.some.inj (cardFunc.symm.trans hf) |>.symm
      obtain rfl : fn = Tryz.f4 := (Option.some.inj (Tryz.func4.symm.trans hfn)).symm
      exact ⟨cardLooks, fun j t ht => by
        rw [Tryz.params4] at ht
        have hm : t ∈ [5, 9] := by simpa using Array.mem_of_getElem? ht
        have hall : ([5, 9].all fun u => !Tryz.prog.wantsStandIn u) = true := by kernel_rfl
        exact (show Tryz.prog.wantsStandIn t = false by simpa using List.all_eq_true.1 hall t hm)⟩)
    (goes_none bodiesGo _).symm
#print axioms serviceBranches_card
end Go.Proofs.YtcbacbfjjahcbaaGreatDoor
