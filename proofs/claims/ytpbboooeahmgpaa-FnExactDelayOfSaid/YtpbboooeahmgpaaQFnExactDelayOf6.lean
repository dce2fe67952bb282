/- For all arguments, impl.DelayOf answers what spec.DelayOf answers, leaves its arguments alone, and shares nothing of what it returns.
   The row of the law FnExactDelayOf, out of its walk. Conditions: none. -/
import Derived.Test.YtpbboooeahmgpaaQFnExactDelayOf5
import Derived.Test.YtpbboooeahmgpaaRows
import Derived.WalkKit
import Derived.ProofKit
import Derived.OpenShut
import Derived.ShutString
import Derived.ChangeOld
import Derived.Below
import Derived.SizedLaws
namespace Go.Proofs.Ytpbboooeahmgpaa.fnExactDelayOf
open Go.ChangeShapes Go.WideShapes Go.ChangeAt Go.RowKit Go.Proofs.YtpbboooeahmgpaaW.PrintWords Go.Proofs.YtpbboooeahmgpaaW.Mine Go.Proofs.Ytpbboooeahmgpaa.P
open Go.ChangeMaps (open_string shut_string)
set_option linter.unusedVariables false
theorem own : ownKnob Try.prog.godebug = none := by kernel_rfl
theorem laidOut : laidOutB Try.prog = true := by kernel_rfl
set_option maxRecDepth 100000 in
theorem lifted (os : Os) (started : os.Started) (H : Type) (enc : TypeId × Value → H) :
    ReturnsInHanded {} Try.checked os 4 .any (Rows.fnExactDelayOfSpec.pre6 enc Try.prog Try.f4 Rows.fnExactDelayOfRow.domain false) (Rows.fnExactDelayOfSpec.post enc Try.prog Try.f4 false true false false) := by
  refine returnsInHanded_of_change_sized (C := Try.checked) own started (by kernel_rfl) Try.func4
    (ChangeSpec.witness6 (enc := enc) (C := Try.checked) false ⟨#[], #[.agg #[.slice none 0 0], .slice none 0 0, .agg #[.int .i64 0, .int .i64 0, .int .i64 0, .int .i64 0, .bool false, .int .i64 0, .int .i64 0]], []⟩ 8 (by kernel_rfl) (by kernel_rfl) (by kernel_rfl) (by kernel_rfl)) ?_
  intro W base args ds gs before hval0 hW hcnd hsz0 _
  have hval : ∀ (j : Nat) t v, Try.f4.params[j]? = some t → args[j]? = some v → Value.okWide Try.prog W .any base t v := hval0
  have hW' := hW
  obtain ⟨p, q, hA0, hV, rfl, hfz, hnd⟩ := hW
  have hA : DataW.TrodAll enc Try.prog W 0 (fun _ => true) true Try.f4.params.toList args.toList ds p := hA0
  rw [Try.params4] at hA hval
  obtain ⟨v0, vs0, d0, ds0, p0, q0, hargs, rfl, rfl, h0, r0⟩ := trodAll_cons hA
  obtain ⟨v1, vs1, d1, ds1, p1, q1, rfl, rfl, rfl, h1, r1⟩ := trodAll_cons r0
  obtain ⟨v2, vs2, d2, ds2, p2, q2, rfl, rfl, rfl, h2, r2⟩ := trodAll_cons r1
  obtain ⟨rfl, rfl, rfl⟩ := trodAll_nil r2
  obtain rfl : args = #[v0, v1, v2] := by cases args; simp_all
  obtain ⟨rfl, rfl⟩ := trodVars_none hV
  have k0 := h0
  have lt0 : ∀ x ∈ p0, x.block < W.heap.size := by obtain ⟨m, hm⟩ := k0; exact DataW.trod_lt m _ _ _ hm
  obtain ⟨cs0, rfl, _⟩ := okWide_struct Try.underlying49 (hval 0 49 v0 rfl rfl)
  obtain ⟨a0, hK0, ok0⟩ : ∃ a : (List (List Int)), (Kd.slice 22 (Kd.slice 5 (Kd.int .u8))).K W a cs0.toList ∧ (∀ y1 ∈ a, (∀ y2 ∈ y1, (Lit.int .u8 y2).wf = true)) := by obtain ⟨fuel, hf⟩ := h0; exact (ReadsK.struct Try.underlying49 (by kernel_rfl) (ReadsF.last rfl (ReadsK.slice Try.underlying24 (by kernel_rfl) (ReadsK.slice Try.underlying22 (by kernel_rfl) (ReadsK.int Try.underlying5))) (by kernel_rfl))) hf
  have k1 := h1
  have lt1 : ∀ x ∈ p1, x.block < W.heap.size := by obtain ⟨m, hm⟩ := k1; exact DataW.trod_lt m _ _ _ hm
  obtain ⟨A1, len1, cap1, rfl⟩ := okWide_slice Try.underlying50 (hval 1 50 v1 rfl rfl)
  obtain ⟨a1, hK1, ok1⟩ : ∃ a : (List SlawsLoan), (Kd.slice 53 klawsLoan).K W a [.slice A1 len1 cap1] ∧ (∀ y1 ∈ a, (((Lit.int .i64 y1.f0.f0).wf = true ∧ (Lit.int .i64 y1.f0.f1).wf = true ∧ (Lit.int .i64 y1.f0.f2).wf = true ∧ (Lit.int .i64 y1.f0.f3).wf = true) ∧ True ∧ (Lit.int .i64 y1.f2).wf = true ∧ (Lit.int .i64 y1.f3).wf = true)) := by obtain ⟨fuel, hf⟩ := h1; exact (ReadsK.slice Try.underlying50 (by kernel_rfl) (ReadsK.iso (ReadsK.struct Try.underlying53 (by kernel_rfl) (ReadsF.cons rfl (ReadsK.iso (ReadsK.struct Try.underlying51 (by kernel_rfl) (ReadsF.cons rfl (ReadsK.int Try.underlying3) (by kernel_rfl) (ReadsF.cons rfl (ReadsK.int Try.underlying3) (by kernel_rfl) (ReadsF.cons rfl (ReadsK.int Try.underlying3) (by kernel_rfl) (ReadsF.last rfl (ReadsK.int Try.underlying3) (by kernel_rfl)))))) (fun x : SlawsWindow => (x.f0, x.f1, x.f2, x.f3)) (fun a => (⟨a.1, a.2.1, a.2.2.1, a.2.2.2⟩ : SlawsWindow)) (fun _ => rfl)) (by kernel_rfl) (ReadsF.cons rfl (ReadsK.bool Try.underlying4) (by kernel_rfl) (ReadsF.cons rfl (ReadsK.int Try.underlying3) (by kernel_rfl) (ReadsF.last rfl (ReadsK.int Try.underlying3) (by kernel_rfl)))))) (fun x : SlawsLoan => (x.f0, x.f1, x.f2, x.f3)) (fun a => (⟨a.1, a.2.1, a.2.2.1, a.2.2.2⟩ : SlawsLoan)) (fun _ => rfl))) hf
  have k2 := h2
  have lt2 : ∀ x ∈ p2, x.block < W.heap.size := by obtain ⟨m, hm⟩ := k2; exact DataW.trod_lt m _ _ _ hm
  obtain ⟨cs2, rfl, _⟩ := okWide_struct Try.underlying53 (hval 2 53 v2 rfl rfl)
  obtain ⟨a2, hK2, ok2⟩ : ∃ a : ((Int × (Int × (Int × Int))) × (Bool × (Int × Int))), (Kd.pair (Kd.pair (Kd.int .i64) (Kd.pair (Kd.int .i64) (Kd.pair (Kd.int .i64) (Kd.int .i64)))) (Kd.pair Kd.bool (Kd.pair (Kd.int .i64) (Kd.int .i64)))).K W a cs2.toList ∧ (((Lit.int .i64 a.1.1).wf = true ∧ ((Lit.int .i64 a.1.2.1).wf = true ∧ ((Lit.int .i64 a.1.2.2.1).wf = true ∧ (Lit.int .i64 a.1.2.2.2).wf = true))) ∧ (True ∧ ((Lit.int .i64 a.2.2.1).wf = true ∧ (Lit.int .i64 a.2.2.2).wf = true))) := by obtain ⟨fuel, hf⟩ := h2; exact (ReadsK.struct Try.underlying53 (by kernel_rfl) (ReadsF.cons rfl (ReadsK.struct Try.underlying51 (by kernel_rfl) (ReadsF.cons rfl (ReadsK.int Try.underlying3) (by kernel_rfl) (ReadsF.cons rfl (ReadsK.int Try.underlying3) (by kernel_rfl) (ReadsF.cons rfl (ReadsK.int Try.underlying3) (by kernel_rfl) (ReadsF.last rfl (ReadsK.int Try.underlying3) (by kernel_rfl)))))) (by kernel_rfl) (ReadsF.cons rfl (ReadsK.bool Try.underlying4) (by kernel_rfl) (ReadsF.cons rfl (ReadsK.int Try.underlying3) (by kernel_rfl) (ReadsF.last rfl (ReadsK.int Try.underlying3) (by kernel_rfl)))))) hf
  clear hA0 hval0 hsz0
  refine (FnExactDelayOf_walk W cs0 a0 hK0 ok0 A1 len1 cap1 a1 hK1 ok1 cs2 a2 hK2 ok2).mono fun e W' ⟨he, bel⟩ => ?_
  subst he
  exact ⟨_, rfl, _, _, _, [], _, [], hW', trodAll_mk1 (shut_bool Try.underlying4 _), (trodAll_cons_mk (Below.trod laidOut (by kernel_rfl) (of_decide_eq_true (by kernel_rfl)) k0 bel lt0) (trodAll_cons_mk (Below.trod laidOut (by kernel_rfl) (of_decide_eq_true (by kernel_rfl)) k1 bel lt1) (trodAll_cons_mk (Below.trod laidOut (by kernel_rfl) (of_decide_eq_true (by kernel_rfl)) k2 bel lt2) trodAll_mk0))), rfl, bel.frame _, fun h => by cases h⟩
theorem over : Rows.fnExactDelayOfRow.holds Try.pinned (OpenSpec.ofChange Rows.fnExactDelayOfSpec) :=
  OpenClaim.holds_of_wide 4 Try.f4 rfl rfl rfl rfl rfl rfl rfl ⟨rfl, rfl, rfl, rfl, rfl⟩ rfl rfl rfl rfl rfl (by kernel_rfl) Try.func4 (by kernel_rfl)
    (of_decide_eq_true (by kernel_rfl)) (by unfold Func.isWrapper; first | (rw [if_pos (by decide +kernel)]; kernel_rfl) | (rw [if_neg (by decide +kernel)]; exact ⟨rfl, rfl⟩))
    (fun os started H enc _ => lifted os started H enc)
theorem proved : Rows.FnExactDelayOfSaid := over
end Go.Proofs.Ytpbboooeahmgpaa.fnExactDelayOf
namespace Go.Proofs.Ytpbboooeahmgpaa
theorem fnExactDelayOf_holds : Rows.FnExactDelayOfSaid := fnExactDelayOf.proved
#print axioms fnExactDelayOf_holds
end Go.Proofs.Ytpbboooeahmgpaa


