/- For all arguments, impl.CloseGap answers what spec.CloseGap answers, leaves its arguments alone, and shares nothing of what it returns.
   The row of the law FnExactCloseGap, out of its walk. Conditions: none. -/
import Derived.Test.YtoomjghabiojkaaQFnExactCloseGap5
import Derived.Test.YtoomjghabiojkaaRows
import Derived.WalkKit
import Derived.ProofKit
import Derived.OpenShut
import Derived.ShutString
import Derived.ChangeOld
import Derived.Below
import Derived.SizedLaws
/- The law FnExactCloseGap. -/
namespace Go.Proofs.Ytoomjghabiojkaa.P
open Go.RowKit Go.Proofs.YtoomjghabiojkaaW.PrintWords Go.Proofs.YtoomjghabiojkaaW.Mine
set_option linter.unusedVariables false
theorem FnExactCloseGap_walk (w : World) (cs0 : Array Value) (a0 : ((List (List Int)) × ((Int × (Int × (Int × Int))) × (Int × Int)))) (hK0 : (Kd.pair (Kd.slice 119 (Kd.slice 5 (Kd.int .u8))) (Kd.pair (Kd.pair (Kd.int .i64) (Kd.pair (Kd.int .i64) (Kd.pair (Kd.int .i64) (Kd.int .i64)))) (Kd.pair (Kd.int .i64) (Kd.int .i64)))).K w a0 cs0.toList) (ok0 : ((∀ y1 ∈ a0.1, (∀ y2 ∈ y1, (Lit.int .u8 y2).wf = true)) ∧ (((Lit.int .i64 a0.2.1.1).wf = true ∧ ((Lit.int .i64 a0.2.1.2.1).wf = true ∧ ((Lit.int .i64 a0.2.1.2.2.1).wf = true ∧ (Lit.int .i64 a0.2.1.2.2.2).wf = true))) ∧ ((Lit.int .i64 a0.2.2.1).wf = true ∧ (Lit.int .i64 a0.2.2.2).wf = true)))) :
    Calls Try.prog 7 #[.agg cs0] w fun e w' => e = .returned (.bool true) ∧ Below w.heap.size w w' := by
  obtain ⟨m0, ⟨x00, x01, x02, x03⟩, x04, x05⟩ := a0
  obtain ⟨_, _, hcs0, ⟨A0, c0, rfl, hc0, hr0⟩, ⟨_, _, rfl, ⟨_, _, rfl, rfl, ⟨_, _, rfl, rfl, ⟨_, _, rfl, rfl, rfl⟩⟩⟩, ⟨_, _, rfl, rfl, rfl⟩⟩⟩ := hK0
  obtain rfl := agg_of hcs0
  obtain ⟨r, hz, hh⟩ := szGap_f m0 x00 x01 x02 x03 x04 x05 1048576 (by omega) (by omega) hr0.2.1 (C_inner_len hr0)
  rcases hh with ⟨hm, h5⟩ | rfl
  · have hs : -9223372036854775808 ≤ x01 ∧ x01 ≤ 9223372036854775807 := wf_i64 ok0.2.1.2.1
    have h6 := closeGap_ok m0 x00 x01 x02 x03 x04 x05
    exact FnExactCloseGap_run A0 c0 m0 x00 x01 x02 x03 x04 x05 _ _ _ _ _ _ _ _ _ _ _ _ _ _ _ _ _ _ _ _ _ _ _ _ w hr0 hc0 hz.rounds (toGap_f m0 _ _ _ _ _ _ hm) (specCloseGap_f m0 x00 x01 x02 x03 x04 x05 hm hs) (implCloseGap_f m0 x00 x01 x02 x03 x04 x05 hm) (eqGap_g _ _ _ _ _ _ _ h6).rounds (eqWindow_same _ _ _ _) (eqGap_g _ _ _ _ _ _ _ hm).rounds (markM _ hm) (markM _ h6) (heldGap_g _ _ _ _ _ _ _ h6).rounds (by omega) (markM_pos _) (markM_pos _)
  · exact FnExactCloseGap_run0 A0 c0 m0 x00 x01 x02 x03 x04 x05 _ w hr0 hc0 hz.rounds (by omega)
end Go.Proofs.Ytoomjghabiojkaa.P


namespace Go.Proofs.Ytoomjghabiojkaa.fnExactCloseGap
open Go.ChangeShapes Go.WideShapes Go.ChangeAt Go.RowKit Go.Proofs.YtoomjghabiojkaaW.PrintWords Go.Proofs.YtoomjghabiojkaaW.Mine Go.Proofs.Ytoomjghabiojkaa.P
open Go.ChangeMaps (open_string shut_string)
set_option linter.unusedVariables false
theorem own : ownKnob Try.prog.godebug = none := by kernel_rfl
theorem laidOut : laidOutB Try.prog = true := by kernel_rfl
set_option maxRecDepth 100000 in
theorem lifted (os : Os) (started : os.Started) (H : Type) (enc : TypeId × Value → H) :
    ReturnsInHanded {} Try.checked os 7 .any (Rows.fnExactCloseGapSpec.pre6 enc Try.prog Try.f7 Rows.fnExactCloseGapRow.domain false) (Rows.fnExactCloseGapSpec.post enc Try.prog Try.f7 false true false false) := by
  refine returnsInHanded_of_change_sized (C := Try.checked) own started (by kernel_rfl) Try.func7
    (ChangeSpec.witness6 (enc := enc) (C := Try.checked) false ⟨#[], #[.agg #[.slice none 0 0, .int .i64 0, .int .i64 0, .int .i64 0, .int .i64 0, .int .i64 0, .int .i64 0]], []⟩ 8 (by kernel_rfl) (by kernel_rfl) (by kernel_rfl) (by kernel_rfl)) ?_
  intro W base args ds gs before hval0 hW hcnd hsz0 _
  have hval : ∀ (j : Nat) t v, Try.f7.params[j]? = some t → args[j]? = some v → Value.okWide Try.prog W .any base t v := hval0
  have hW' := hW
  obtain ⟨p, q, hA0, hV, rfl, hfz, hnd⟩ := hW
  have hA : DataW.TrodAll enc Try.prog W 0 (fun _ => true) true Try.f7.params.toList args.toList ds p := hA0
  rw [Try.params7] at hA hval
  obtain ⟨v0, vs0, d0, ds0, p0, q0, hargs, rfl, rfl, h0, r0⟩ := trodAll_cons hA
  obtain ⟨rfl, rfl, rfl⟩ := trodAll_nil r0
  obtain rfl : args = #[v0] := by cases args; simp_all
  obtain ⟨rfl, rfl⟩ := trodVars_none hV
  have k0 := h0
  have lt0 : ∀ x ∈ p0, x.block < W.heap.size := by obtain ⟨m, hm⟩ := k0; exact DataW.trod_lt m _ _ _ hm
  obtain ⟨cs0, rfl, _⟩ := okWide_struct Try.underlying66 (hval 0 66 v0 rfl rfl)
  obtain ⟨a0, hK0, ok0⟩ : ∃ a : ((List (List Int)) × ((Int × (Int × (Int × Int))) × (Int × Int))), (Kd.pair (Kd.slice 119 (Kd.slice 5 (Kd.int .u8))) (Kd.pair (Kd.pair (Kd.int .i64) (Kd.pair (Kd.int .i64) (Kd.pair (Kd.int .i64) (Kd.int .i64)))) (Kd.pair (Kd.int .i64) (Kd.int .i64)))).K W a cs0.toList ∧ ((∀ y1 ∈ a.1, (∀ y2 ∈ y1, (Lit.int .u8 y2).wf = true)) ∧ (((Lit.int .i64 a.2.1.1).wf = true ∧ ((Lit.int .i64 a.2.1.2.1).wf = true ∧ ((Lit.int .i64 a.2.1.2.2.1).wf = true ∧ (Lit.int .i64 a.2.1.2.2.2).wf = true))) ∧ ((Lit.int .i64 a.2.2.1).wf = true ∧ (Lit.int .i64 a.2.2.2).wf = true))) := by obtain ⟨fuel, hf⟩ := h0; exact (ReadsK.struct Try.underlying66 (by kernel_rfl) (ReadsF.cons rfl (ReadsK.struct Try.underlying24 (by kernel_rfl) (ReadsF.last rfl (ReadsK.slice Try.underlying22 (by kernel_rfl) (ReadsK.slice Try.underlying119 (by kernel_rfl) (ReadsK.int Try.underlying5))) (by kernel_rfl))) (by kernel_rfl) (ReadsF.cons rfl (ReadsK.struct Try.underlying47 (by kernel_rfl) (ReadsF.cons rfl (ReadsK.int Try.underlying3) (by kernel_rfl) (ReadsF.cons rfl (ReadsK.int Try.underlying3) (by kernel_rfl) (ReadsF.cons rfl (ReadsK.int Try.underlying3) (by kernel_rfl) (ReadsF.last rfl (ReadsK.int Try.underlying3) (by kernel_rfl)))))) (by kernel_rfl) (ReadsF.cons rfl (ReadsK.int Try.underlying3) (by kernel_rfl) (ReadsF.last rfl (ReadsK.int Try.underlying3) (by kernel_rfl)))))) hf
  clear hA0 hval0 hsz0
  refine (FnExactCloseGap_walk W cs0 a0 hK0 ok0).mono fun e W' ⟨he, bel⟩ => ?_
  subst he
  exact ⟨_, rfl, _, _, _, [], _, [], hW', trodAll_mk1 (shut_bool Try.underlying4 _), (trodAll_cons_mk (Below.trod laidOut (by kernel_rfl) (of_decide_eq_true (by kernel_rfl)) k0 bel lt0) trodAll_mk0), rfl, bel.frame _, fun h => by cases h⟩
theorem over : Rows.fnExactCloseGapRow.holds Try.pinned (OpenSpec.ofChange Rows.fnExactCloseGapSpec) :=
  OpenClaim.holds_of_wide 7 Try.f7 rfl rfl rfl rfl rfl rfl rfl ⟨rfl, rfl, rfl, rfl, rfl⟩ rfl rfl rfl rfl rfl (by kernel_rfl) Try.func7 (by kernel_rfl)
    (of_decide_eq_true (by kernel_rfl)) (by unfold Func.isWrapper; first | (rw [if_pos (by decide +kernel)]; kernel_rfl) | (rw [if_neg (by decide +kernel)]; exact ⟨rfl, rfl⟩))
    (fun os started H enc _ => lifted os started H enc)
theorem proved : Rows.FnExactCloseGapSaid := over
end Go.Proofs.Ytoomjghabiojkaa.fnExactCloseGap
namespace Go.Proofs.Ytoomjghabiojkaa
theorem fnExactCloseGap_holds : Rows.FnExactCloseGapSaid := fnExactCloseGap.proved
#print axioms fnExactCloseGap_holds
end Go.Proofs.Ytoomjghabiojkaa


