/- For all arguments, impl.StraightRing answers what spec.StraightRing answers, leaves its arguments alone, and shares nothing of what it returns.
   The row of the law FnExactStraightRing, out of its walk. Conditions: none. -/
import Derived.Test.YtaieobidkmihkaaQFnExactStraightRing3
import Derived.Test.YtaieobidkmihkaaRows
import Derived.WalkKit
import Derived.ProofKit
import Derived.OpenShut
import Derived.ShutString
import Derived.ChangeOld
import Derived.Below
import Derived.SizedLaws
import Derived.Test.YtaieobidkmihkaaWApart
import Derived.Test.YtaieobidkmihkaaWFoot
import Derived.Test.YtaieobidkmihkaaWGuard
import Derived.Test.YtaieobidkmihkaaWKept
import Derived.Test.YtaieobidkmihkaaWLast
import Derived.Test.YtaieobidkmihkaaWMore
import Derived.Test.YtaieobidkmihkaaWN
import Derived.Test.YtaieobidkmihkaaWRepsOne
import Derived.Test.YtaieobidkmihkaaWShare
import Derived.Test.YtaieobidkmihkaaWTab
import Derived.Test.YtaieobidkmihkaaWWords
/- eqRing, as far as the laws need it: equal Rings are equal. -/
namespace Go.Proofs.Ytaieobidkmihkaa.P
open Go.RowKit Go.Proofs.YtaieobidkmihkaaW.PrintWords
set_option linter.unusedVariables false
def laws_eqRing.f (a0_0 a0_1 a0_2 a0_3 a0_4 a0_5 a1_0 a1_1 a1_2 a1_3 a1_4 a1_5 : Int) : Option Bool := if (a0_0 = a1_0 ∧ a0_1 = a1_1 ∧ a0_2 = a1_2 ∧ a0_3 = a1_3) ∧ a0_4 = a1_4 ∧ a0_5 = a1_5 then some true else none
theorem laws_eqRing.calls (a0_0 : Int) (a0_1 : Int) (a0_2 : Int) (a0_3 : Int) (a0_4 : Int) (a0_5 : Int) (a1_0 : Int) (a1_1 : Int) (a1_2 : Int) (a1_3 : Int) (a1_4 : Int) (a1_5 : Int) (r : Bool) (w : World) (h : laws_eqRing.f a0_0 a0_1 a0_2 a0_3 a0_4 a0_5 a1_0 a1_1 a1_2 a1_3 a1_4 a1_5 = some r) :
    Calls Try.prog 22 #[.agg #[.int .i64 a0_0, .int .i64 a0_1, .int .i64 a0_2, .int .i64 a0_3, .int .i64 a0_4, .int .i64 a0_5], .agg #[.int .i64 a1_0, .int .i64 a1_1, .int .i64 a1_2, .int .i64 a1_3, .int .i64 a1_4, .int .i64 a1_5]] w fun e w' => e = .returned (.bool r) ∧ Below w.heap.size w w' := by
  unfold laws_eqRing.f at h
  split at h
  next hh =>
    obtain rfl := Option.some.inj h
    obtain ⟨h1, rfl, rfl⟩ := hh
    exact laws_eqRing_w0 _ _ _ _ _ _ _ _ _ _ _ _ w (if_pos h1) (by simp) (by simp)
  next => cases h
end Go.Proofs.Ytaieobidkmihkaa.P


/- Rings: what is valid, and pushing. -/
namespace Go.Proofs.Ytaieobidkmihkaa.P
open Go.RowKit Go.Proofs.YtaieobidkmihkaaW.PrintWords
set_option linter.unusedVariables false
set_option linter.unusedSimpArgs false
def ringB (m : List (List Int)) (a s n c f k : Int) : Bool := memB m && (winB m a s n c && decide (0 ≤ f ∧ f < n ∧ 0 ≤ k ∧ k ≤ n))
structure RingOk (m : List (List Int)) (a s n c f k : Int) : Prop extends WinOk m a s n c where
  mem : memB m = true
  win : winB m a s n c = true
  f0 : 0 ≤ f
  f1 : f < n
  k0 : 0 ≤ k
  k1 : k ≤ n
theorem RingOk.of {m : List (List Int)} {a s n c f k : Int} (h : ringB m a s n c f k = true) : RingOk m a s n c f k := by
  unfold ringB at h
  simp only [Bool.and_eq_true, decide_eq_true_eq] at h
  exact ⟨WinOk.of h.1 h.2.1, h.1, h.2.1, h.2.2.1, h.2.2.2.1, h.2.2.2.2.1, h.2.2.2.2.2⟩
theorem isRing_f (m : List (List Int)) (a s n c f k : Int) (h : m.length ≤ 9223372036854775807) (hx : ∀ x ∈ m, x.length ≤ 9223372036854775807) : Ev (fun q => impl_isRing.f q m a s n c f k) (ringB m a s n c f k) := by
  refine Ev.bind (IsMemory_f m h) ?_
  unfold ringB
  by_cases h1 : memB m = true
  · have h2 : impl_Memory_hasRing.f m a s n c f k = some (winB m a s n c && decide (0 ≤ f ∧ f < n ∧ 0 ≤ k ∧ k ≤ n)) := by
      unfold impl_Memory_hasRing.f
      rw [hasWindow_f m a s n c h hx, Option.bind_some]
      by_cases h3 : winB m a s n c = true
      · have hw := WinOk.of h1 h3
        have := hw.n0; have := hw.n1; have := hw.c1
        rw [if_pos h3, wrap_ok (by omega) (by omega), within_f, Option.bind_some]
        by_cases h4 : 0 ≤ f ∧ f ≤ n - 1
        · rw [if_pos (decide_eq_true h4), within_f, Option.bind_some, h3, Bool.true_and]
          congr 1
          rw [decide_eq_decide]
          omega
        · rw [decide_eq_false h4, if_neg (by simp), h3, Bool.true_and]
          congr 1
          symm
          rw [decide_eq_false_iff_not]
          omega
      · rw [if_neg h3, Bool.eq_false_iff.2 h3, Bool.false_and]
    simp only [h1, if_true, h2, Option.bind_some, Bool.true_and]
    exact Ev.now _
  · simp only [h1, Bool.false_eq_true, if_false, Bool.false_and]
    exact Ev.now _
theorem l5Ring_f (m : List (List Int)) (a s n c f k : Int) (h : m.length ≤ 9223372036854775807) (hx : ∀ x ∈ m, x.length ≤ 9223372036854775807) (hs : -9223372036854775808 ≤ s ∧ s ≤ 9223372036854775807) : Ev (fun q => spec_l5Ring.f q m a s n c f k) (ringB m a s n c f k) := by
  refine Ev.bind (l2Window_f m a s n c h hx hs) ?_
  unfold ringB
  by_cases h1 : (memB m && winB m a s n c) = true
  · have h1' := h1
    simp only [Bool.and_eq_true] at h1'
    have hw := WinOk.of h1'.1 h1'.2
    have := hw.n0; have := hw.n1; have := hw.c1
    have hwr : wrap64 (n - 1) = n - 1 := wrap_ok (by omega) (by omega)
    simp only [h1, if_true, h1'.1, h1'.2, Bool.true_and, hwr, l1In_f, Option.bind_some]
    by_cases h2 : n > 0
    · simp only [if_pos h2]
      by_cases h4 : 0 ≤ f ∧ f ≤ n - 1
      · have h6 := decide_eq_true h4
        simp only [h6, if_true]
        have h5 : decide (0 ≤ k ∧ k ≤ n) = decide (0 ≤ f ∧ f < n ∧ 0 ≤ k ∧ k ≤ n) := by rw [decide_eq_decide]; omega
        rw [h5]
        exact Ev.now _
      · have h5 : decide (0 ≤ f ∧ f < n ∧ 0 ≤ k ∧ k ≤ n) = false := by rw [decide_eq_false_iff_not]; omega
        rw [h5]
        have h6 := decide_eq_false h4
        simp only [h6, Bool.false_eq_true, if_false]
        exact Ev.now _
    · have h5 : decide (0 ≤ f ∧ f < n ∧ 0 ≤ k ∧ k ≤ n) = false := by rw [decide_eq_false_iff_not]; omega
      rw [h5]
      simp only [if_neg h2]
      exact Ev.now _
  · have h3 := Bool.eq_false_iff.2 h1
    simp only [h3, Bool.false_eq_true, if_false]
    rw [← Bool.and_assoc, h3, Bool.false_and]
    exact Ev.now _
theorem toRing_f (a s n c f k : Int) : laws_toRing.f a s n c f k = some (a, s, n, c, f, k) := rfl
theorem eqRing_f (a s n c f k : Int) : laws_eqRing.f a s n c f k a s n c f k = some true := by simp [laws_eqRing.f, eqWindow_same]
end Go.Proofs.Ytaieobidkmihkaa.P


-- written by wip/gen_fn.py
namespace Go.Proofs.Ytaieobidkmihkaa.P
open Go.RowKit Go.Proofs.YtaieobidkmihkaaW.PrintWords Go.Proofs.YtaieobidkmihkaaW.PrintLast Go.Proofs.YtaieobidkmihkaaW.PrintMore Go.Proofs.YtaieobidkmihkaaW.Mine
open List (setIfInBounds_toArray set_cons_zero set_cons_succ)
attribute [local go_sem] max2_int min2_int max_two min_two max_three min_three max_four min_four
set_option linter.unusedVariables false
set_option linter.unusedSimpArgs false
set_option maxHeartbeats 8000000 in
set_option maxRecDepth 100000 in
theorem impl_Memory_turn_o {w w0 : World} {ts : List Th} {e lo hi c g cap : Nat} {A : Option Addr} {m : List (List Int)} {row : List Int} (q : Nat) (h0 : Stk w ts w0) (a1_0 : Int) (a1_1 : Int) (a1_2 : Int) (a1_3 : Int) (a2_0 : Int) (hq : ts[q]? = some (rowO 5 e w lo hi A m.length c m a1_0.toNat g cap row)) (F0 : 0 ≤ a1_0) (F1 : a1_0 < (m.length : Int)) (F2 : 0 ≤ a1_1) (F3 : 0 ≤ a1_2) (F4 : a1_1 + a1_2 ≤ (row.length : Int)) (F5 : row.length ≤ 64) (F6 : 0 ≤ a2_0) (F7 : a2_0 ≤ a1_2) :
    Calls Try.prog 76 #[.agg #[.slice A m.length c], .agg #[.int .i64 a1_0, .int .i64 a1_1, .int .i64 a1_2, .int .i64 a1_3], .int .i64 a2_0] w0 fun e_ w' => e_ = .returned (.tuple #[]) ∧ Wrote (rowO 5 e w lo hi A m.length c m a1_0.toNat g cap row) (rowO 5 e w lo hi A m.length c m a1_0.toNat g cap (revRow (revRow (revRow row (a1_1.toNat + 0) a2_0.toNat) (a1_1.toNat + a2_0.toNat) (a1_2.toNat - a2_0.toNat)) a1_1.toNat a1_2.toNat)) w0 w' := by
  have hle0 : row.length ≤ cap := by obtain ⟨_, _, _, _, _, _, h5⟩ := (show RowO 5 e w.heap.size lo hi A m.length c m a1_0.toNat g cap row w0 from h0.get q hq); exact h5.2.2.1
  have HZ := Aside0.mk h0; have HQ := Aside0.mk hq; have HS0 : Aside0 (Stk w [rowO 5 e w lo hi A m.length c m a1_0.toNat g cap row, frm w.heap.size lo w0, frm hi w0.heap.size w0] w0) := ⟨h0.frames q hq⟩; clear h0 hq
  go_enter Try.func76, Try.ntmps76
  refine reg (aF := ?_) (nw := ?_) [evB 0 3 [] 31 (fun s => #[.slice A m.length c]) 9999 [] (fun s => #[.slice A m.length c]), evB 1 4 [] 32 (fun s => #[.int .i64 a1_0, .int .i64 a1_1, .int .i64 a1_2, .int .i64 a1_3]) 9999 [] (fun s => #[.int .i64 a1_0, .int .i64 a1_1, .int .i64 a1_2, .int .i64 a1_3])] [] [] false 2 rfl rfl (by kernel_rfl) rfl (mf0) ?aF ?nw HS0.out ?hs ?_
  rotate_left 2
  case aF => intro s; simp only [putE, EvT.val, Act.put, setIfInBounds_toArray, set_cons_zero, set_cons_succ]; rfl
  case nw => intro s; simp only [thA, bsA, List.nil_append, List.cons_append, List.append_nil, if_true, if_false, Nat.reduceLT, set_cons_zero, set_cons_succ]; rfl
  case hs => exact ⟨bv rfl (fun s w => by go_simp; try rfl), bv rfl (fun s w => by go_simp; try rfl), trivial⟩
  intro s1 w1 h; have HS1 := Aside0.mk h; clear h HS0
  refine tl0 ?_
  refine reg0 (aF := ?_) [evL 0 7 [] (fun s => .agg #[.slice A m.length c]), evL 1 8 [] (fun s => .agg #[.int .i64 a1_0, .int .i64 a1_1, .int .i64 a1_2, .int .i64 a1_3]), evC 2 (some 9) [] (fun s x => .slice (seenA g a1_1 cap) a1_2.toNat (cap - a1_1.toNat)) (fun s x => [])] [3] false 4 rfl rfl (by kernel_rfl) rfl (fun _ => rfl) ?aF HS1.out ?hs ?_
  rotate_left 1
  case aF => intro s; simp only [putE, EvT.val, Act.put, setIfInBounds_toArray, set_cons_zero, set_cons_succ]; rfl
  case hs => exact ⟨ld rfl 0 (fun s => rfl) (fun s w h => by have h0 := h 0 _ rfl; clear h; go_simp; try rfl), ld rfl 1 (fun s => rfl) (fun s w h => by have h0 := h 0 _ rfl; have h1 := h 1 _ rfl; have h2 := h 2 _ rfl; have h3 := h 3 _ rfl; clear h; go_simp; try rfl), cl rfl (fun s => #[.agg #[.slice A m.length c], .agg #[.int .i64 a1_0, .int .i64 a1_1, .int .i64 a1_2, .int .i64 a1_3]]) Try.func72 (fun s w1 h => (seen_o 2 h rfl a1_0 a1_1 a1_2 a1_3 rfl (by omega) (by omega) (by omega) (by omega) (by omega) (by omega)).mono (by rintro e w2 ⟨rfl, hb⟩; exact fin0 hb)), trivial⟩
  intro s2 w2 h; have HS2 := Aside0.mk h; clear h HS1
  refine tlP (v := .slice (seenA g a1_1 cap) a1_2.toNat (cap - a1_1.toNat)) 6 rfl ?_
  refine tl0 ?_
  refine reg (aF := ?_) (nw := ?_) [evP 0 10 [] (fun s => .slice (seenA g a1_1 cap) a1_2.toNat (cap - a1_1.toNat)), evP 1 11 [] (fun s => .int .i64 a2_0), evP 2 12 [] (fun s => .slice (cutA (seenA g a1_1 cap) 0 (cap - a1_1.toNat)) a2_0.toNat (cap - a1_1.toNat)), evW 3 (some 13) [] (fun s => .tuple #[])] [] [⟨2, 3, [], fun s => rowO 5 e w lo hi A m.length c m a1_0.toNat g cap (revRow row (a1_1.toNat + 0) a2_0.toNat)⟩] false 4 rfl rfl (by kernel_rfl) rfl ((mf1 mf0)) ?aF ?nw HS2.out ?hs ?_
  rotate_left 2
  case aF => intro s; simp only [putE, EvT.val, Act.put, setIfInBounds_toArray, set_cons_zero, set_cons_succ]; rfl
  case nw => intro s; simp only [thA, bsA, List.nil_append, List.cons_append, List.append_nil, if_true, if_false, Nat.reduceLT, set_cons_zero, set_cons_succ]; rfl
  case hs => exact ⟨pu rfl, pu rfl, ch rfl (by omega) (by omega), cw rfl 0 2 rfl rfl (fun s => #[.slice (cutA (seenA g a1_1 cap) 0 (cap - a1_1.toNat)) a2_0.toNat (cap - a1_1.toNat)]) Try.func114 (fun s w1 h => rev_o 0 h rfl _ (a1_1.toNat + 0) a2_0.toNat _ ((al_seen a1_1 a1_2 (by omega) (by omega) (by omega)).cut 0 _ (by omega) (by omega)) (by omega) (by omega)), trivial⟩
  intro s3 w3 h; have HS3 := Aside0.mk h; clear h HS2
  refine tl0 ?_
  have := revRow_length row (a1_1.toNat + 0) a2_0.toNat (by omega)
  refine reg (aF := ?_) (nw := ?_) [evP 0 14 [] (fun s => .slice (seenA g a1_1 cap) a1_2.toNat (cap - a1_1.toNat)), evP 1 15 [] (fun s => .int .i64 a2_0), evP 2 16 [] (fun s => .slice (cutA (seenA g a1_1 cap) a2_0.toNat (cap - a1_1.toNat)) (a1_2.toNat - a2_0.toNat) ((cap - a1_1.toNat) - a2_0.toNat)), evW 3 (some 17) [] (fun s => .tuple #[])] [] [⟨2, 3, [], fun s => rowO 5 e w lo hi A m.length c m a1_0.toNat g cap (revRow (revRow row (a1_1.toNat + 0) a2_0.toNat) (a1_1.toNat + a2_0.toNat) (a1_2.toNat - a2_0.toNat))⟩] false 4 rfl rfl (by kernel_rfl) rfl ((mf1 mf0)) ?aF ?nw HS3.out ?hs ?_
  rotate_left 2
  case aF => intro s; simp only [putE, EvT.val, Act.put, setIfInBounds_toArray, set_cons_zero, set_cons_succ]; rfl
  case nw => intro s; simp only [thA, bsA, List.nil_append, List.cons_append, List.append_nil, if_true, if_false, Nat.reduceLT, set_cons_zero, set_cons_succ]; rfl
  case hs => exact ⟨pu rfl, pu rfl, cl_ rfl (by omega) (by omega), cw rfl 0 2 rfl rfl (fun s => #[.slice (cutA (seenA g a1_1 cap) a2_0.toNat (cap - a1_1.toNat)) (a1_2.toNat - a2_0.toNat) ((cap - a1_1.toNat) - a2_0.toNat)]) Try.func114 (fun s w1 h => rev_o 0 h rfl _ (a1_1.toNat + a2_0.toNat) (a1_2.toNat - a2_0.toNat) _ ((al_seen a1_1 a1_2 (by omega) (by omega) (by omega)).cut a2_0.toNat _ (by omega) (by omega)) (by omega) (by omega)), trivial⟩
  intro s4 w4 h; have HS4 := Aside0.mk h; clear h HS3
  refine tl0 ?_
  have := revRow_length (revRow row (a1_1.toNat + 0) a2_0.toNat) (a1_1.toNat + a2_0.toNat) (a1_2.toNat - a2_0.toNat) (by omega)
  refine regL (aF := ?_) (nw := ?_) [evP 0 18 [] (fun s => .slice (seenA g a1_1 cap) a1_2.toNat (cap - a1_1.toNat)), evW 1 (some 19) [] (fun s => .tuple #[])] [] [⟨2, 1, [], fun s => rowO 5 e w lo hi A m.length c m a1_0.toNat g cap (revRow (revRow (revRow row (a1_1.toNat + 0) a2_0.toNat) (a1_1.toNat + a2_0.toNat) (a1_2.toNat - a2_0.toNat)) a1_1.toNat a1_2.toNat)⟩] false 2 rfl rfl (by kernel_rfl) rfl ((mf1 mf0)) ?aF ?nw HS4.out ?hs ?_
  rotate_left 2
  case aF => intro s; simp only [putE, EvT.val, Act.put, setIfInBounds_toArray, set_cons_zero, set_cons_succ]; rfl
  case nw => intro s; simp only [thA, bsA, List.nil_append, List.cons_append, List.append_nil, if_true, if_false, Nat.reduceLT, set_cons_zero, set_cons_succ]; rfl
  case hs => exact ⟨pu rfl, cw rfl 0 2 rfl rfl (fun s => #[.slice (seenA g a1_1 cap) a1_2.toNat (cap - a1_1.toNat)]) Try.func114 (fun s w1 h => rev_o 0 h rfl _ a1_1.toNat a1_2.toNat _ (al_seen a1_1 a1_2 (by omega) (by omega) (by omega)) (by omega) (by omega)), trivial⟩
  intro s5 w5 h; have HS5 := Aside0.mk h; clear h HS4
  refine tlE ?_
  first | go_end0 | ((try simp only [Exit.inBlock, Exit.then]); refine bodyPost_ret (results_none rfl _ _ _) rfl ?_)
  exact ⟨by first | rfl | simp, HZ.out.unframe q HQ.out HS5.out 2 3 4 rfl rfl rfl⟩
end Go.Proofs.Ytaieobidkmihkaa.P


-- written by wip/gen_fn.py
namespace Go.Proofs.Ytaieobidkmihkaa.P
open Go.RowKit Go.Proofs.YtaieobidkmihkaaW.PrintWords Go.Proofs.YtaieobidkmihkaaW.PrintLast Go.Proofs.YtaieobidkmihkaaW.PrintMore Go.Proofs.YtaieobidkmihkaaW.Mine
open List (setIfInBounds_toArray set_cons_zero set_cons_succ)
attribute [local go_sem] max2_int min2_int max_two min_two max_three min_three max_four min_four
set_option linter.unusedVariables false
set_option linter.unusedSimpArgs false
set_option maxHeartbeats 8000000 in
set_option maxRecDepth 100000 in
theorem impl_StraightRing_w0 (A0_0 : Option Addr) (c0_0 : Nat) (l0_0 : List (List Int)) (a1_0 : Int) (a1_1 : Int) (a1_2 : Int) (a1_3 : Int) (a1_4 : Int) (a1_5 : Int) (w : World) (hr0_0 : Kd.C (Kd.slice 5 (Kd.int .u8)) w A0_0 l0_0.length l0_0) (hc0_0 : l0_0.length ≤ c0_0) (H1 : ∃ k, impl_isRing.f k l0_0 a1_0 a1_1 a1_2 a1_3 a1_4 a1_5 = some false) :
    Calls Try.prog 28 #[.agg #[.slice A0_0 l0_0.length c0_0], .agg #[.int .i64 a1_0, .int .i64 a1_1, .int .i64 a1_2, .int .i64 a1_3, .int .i64 a1_4, .int .i64 a1_5]] w fun e w' => ∃ v0_ : Value, e = .returned (.tuple #[.agg #[v0_], .agg #[.int .i64 0, .int .i64 0, .int .i64 0, .int .i64 0, .int .i64 0, .int .i64 0], .bool false]) ∧ Kd.S (Kd.slice 5 (Kd.int .u8)) 29 w' w.heap.size (fun _ => True) v0_ [] ∧ Below w.heap.size w w' := by
  have HR0_0 := Aside0.mk hr0_0; have HC0_0 := Aside0.mk hc0_0; clear hr0_0 hc0_0
  obtain ⟨k, H1_⟩ := H1; have H1 := Aside0.mk H1_; clear H1_
  have HS0 : Aside0 (Stk w [] w) := ⟨Stk.nil w⟩
  go_enter Try.func28, Try.ntmps28
  refine reg (aF := ?_) (nw := ?_) [evB 0 2 [] 31 (fun s => #[.slice A0_0 l0_0.length c0_0]) 9999 [] (fun s => #[.slice A0_0 l0_0.length c0_0]), evB 1 3 [] 34 (fun s => #[.int .i64 a1_0, .int .i64 a1_1, .int .i64 a1_2, .int .i64 a1_3, .int .i64 a1_4, .int .i64 a1_5]) 9999 [] (fun s => #[.int .i64 a1_0, .int .i64 a1_1, .int .i64 a1_2, .int .i64 a1_3, .int .i64 a1_4, .int .i64 a1_5]), evB 2 4 [] 31 (fun s => #[.slice none 0 0]) 9999 [] (fun s => #[.slice none 0 0]), evB 3 5 [] 34 (fun s => #[.int .i64 0, .int .i64 0, .int .i64 0, .int .i64 0, .int .i64 0, .int .i64 0]) 9999 [] (fun s => #[.int .i64 0, .int .i64 0, .int .i64 0, .int .i64 0, .int .i64 0, .int .i64 0]), evP 4 6 [] (fun s => .bool false)] [] [] false 5 rfl rfl (by kernel_rfl) rfl (mf0) ?aF ?nw HS0.out ?hs ?_
  rotate_left 2
  case aF => intro s; simp only [putE, EvT.val, Act.put, setIfInBounds_toArray, set_cons_zero, set_cons_succ]; rfl
  case nw => intro s; simp only [thA, bsA, List.nil_append, List.cons_append, List.append_nil, if_true, if_false, Nat.reduceLT, set_cons_zero, set_cons_succ]; rfl
  case hs => exact ⟨bv rfl (fun s w => by go_simp; try rfl), bv rfl (fun s w => by go_simp; try rfl), bv rfl (fun s w => by go_simp; try rfl), bv rfl (fun s w => by go_simp; try rfl), pu rfl, trivial⟩
  intro s1 w1 h; have HS1 := Aside0.mk h; clear h HS0
  refine tl0 ?_
  refine wp_seq ?_
  refine reg0 (aF := ?_) [evL 0 8 [] (fun s => .agg #[.slice A0_0 l0_0.length c0_0]), evL 1 9 [] (fun s => .agg #[.int .i64 a1_0, .int .i64 a1_1, .int .i64 a1_2, .int .i64 a1_3, .int .i64 a1_4, .int .i64 a1_5]), evC 2 (some 10) [] (fun s x => .bool false) (fun s x => []), evP 3 11 [] (fun s => .bool true)] [] false 4 rfl rfl (by kernel_rfl) rfl (fun _ => rfl) ?aF HS1.out ?hs ?_
  rotate_left 1
  case aF => intro s; simp only [putE, EvT.val, Act.put, setIfInBounds_toArray, set_cons_zero, set_cons_succ]; rfl
  case hs => exact ⟨ld rfl 0 (fun s => rfl) (fun s w h => by have h0 := h 0 _ rfl; clear h; go_simp; try rfl), ld rfl 1 (fun s => rfl) (fun s w h => by have h0 := h 0 _ rfl; have h1 := h 1 _ rfl; have h2 := h 2 _ rfl; have h3 := h 3 _ rfl; have h4 := h 4 _ rfl; have h5 := h 5 _ rfl; clear h; go_simp; try rfl), cl rfl (fun s => #[.agg #[.slice A0_0 l0_0.length c0_0], .agg #[.int .i64 a1_0, .int .i64 a1_1, .int .i64 a1_2, .int .i64 a1_3, .int .i64 a1_4, .int .i64 a1_5]]) Try.func70 (fun s w1 h => (impl_isRing.calls _ _ _ _ _ _ _ _ _ _ _ _ (Kd.C_below HR0_0.out h.hb) HC0_0.out H1.out).mono (by rintro e w2 ⟨rfl, hb⟩; exact fin0 hb)), pu rfl, trivial⟩
  intro s2 w2 h; have HS2 := Aside0.mk h; clear h HS1
  refine tl0 ?_
  refine wp_cond_true rfl ?_
  refine reg (aF := ?_) (nw := ?_) [evP 0 12 [] (fun s => .agg #[.slice none 0 0]), evP 1 13 [] (fun s => .agg #[.int .i64 0, .int .i64 0, .int .i64 0, .int .i64 0, .int .i64 0, .int .i64 0]), evS 2, evS 3] [4] [⟨2, 2, [], fun s => boxT (s1 2).lo #[.slice none 0 0] 31⟩, ⟨3, 3, [], fun s => boxT (s1 3).lo #[.int .i64 0, .int .i64 0, .int .i64 0, .int .i64 0, .int .i64 0, .int .i64 0] 34⟩] false 5 rfl rfl (by kernel_rfl) rfl ((mf1 (mf1 mf0))) ?aF ?nw HS2.out ?hs ?_
  rotate_left 2
  case aF => intro s; simp only [putE, EvT.val, Act.put, setIfInBounds_toArray, set_cons_zero, set_cons_succ]; rfl
  case nw => intro s; simp only [thA, bsA, List.nil_append, List.cons_append, List.append_nil, if_true, if_false, Nat.reduceLT, set_cons_zero, set_cons_succ]; rfl
  case hs => exact ⟨pu rfl (hr := fun s w => by go_simp; try rfl), pu rfl (hr := fun s w => by go_simp; try rfl), sb rfl 0 2 0 (fun s => [.slice none 0 0]) rfl rfl (fun s w h hf => by have h0 := h 0 _ rfl; have f0 := hf 0; clear h hf; go_simp; try rfl), sb rfl 1 3 0 (fun s => [.int .i64 0, .int .i64 0, .int .i64 0, .int .i64 0, .int .i64 0, .int .i64 0]) rfl rfl (fun s w h hf => by have h0 := h 0 _ rfl; have f0 := hf 0; have h1 := h 1 _ rfl; have f1 := hf 1; have h2 := h 2 _ rfl; have f2 := hf 2; have h3 := h 3 _ rfl; have f3 := hf 3; have h4 := h 4 _ rfl; have f4 := hf 4; have h5 := h 5 _ rfl; have f5 := hf 5; clear h hf; go_simp; try rfl), trivial⟩
  intro s3 w3 h; have HS3 := Aside0.mk h; clear h HS2
  refine tlP (v := .bool false) 6 rfl ?_
  refine tl0 ?_
  refine wp_ret ?_
  try simp only [Exit.inBlock, Exit.then]
  refine bodyPost_ret (results_list (rs := [.cell 4 31, .cell 5 34, .tmp 6]) rfl (by simp) (.cell (s1 2).lo 31 #[.slice none 0 0] (0, 0) _ rfl (show bx (s1 2).lo #[.slice none 0 0] 31 _ from HS3.out.get 2 rfl) Try.underlying31 rfl (by kernel_rfl) (.cell (s1 3).lo 34 #[.int .i64 0, .int .i64 0, .int .i64 0, .int .i64 0, .int .i64 0, .int .i64 0] (0, 0) _ rfl (show bx (s1 3).lo #[.int .i64 0, .int .i64 0, .int .i64 0, .int .i64 0, .int .i64 0, .int .i64 0] 34 _ from HS3.out.get 3 rfl) Try.underlying34 rfl (by kernel_rfl) (.tmp .nil)))) rfl ?_
  exact ⟨_, by first | rfl | simp, Kd.S_nil _ _ _ _ _, HS3.out.hb⟩
set_option maxHeartbeats 8000000 in
set_option maxRecDepth 100000 in
theorem impl_StraightRing_w1 (A0_0 : Option Addr) (c0_0 : Nat) (l0_0 : List (List Int)) (a1_0 : Int) (a1_1 : Int) (a1_2 : Int) (a1_3 : Int) (a1_4 : Int) (a1_5 : Int) (w : World) (hr0_0 : Kd.C (Kd.slice 5 (Kd.int .u8)) w A0_0 l0_0.length l0_0) (hc0_0 : l0_0.length ≤ c0_0) (H1 : ∃ k, impl_isRing.f k l0_0 a1_0 a1_1 a1_2 a1_3 a1_4 a1_5 = some true) (H2 : ∃ k, impl_Memory_own.f k l0_0 = some l0_0) (row : List Int) (ER0 : l0_0.getD a1_0.toNat [] = row) (F0 : 0 ≤ a1_0) (F1 : a1_0 < (l0_0.length : Int)) (F2 : 0 ≤ a1_1) (F3 : 0 ≤ a1_2) (F4 : a1_1 + a1_2 ≤ (row.length : Int)) (F5 : 0 < row.length) (F6 : row.length ≤ 64) (F7 : 0 ≤ a1_4) (F8 : a1_4 ≤ a1_2) :
    Calls Try.prog 28 #[.agg #[.slice A0_0 l0_0.length c0_0], .agg #[.int .i64 a1_0, .int .i64 a1_1, .int .i64 a1_2, .int .i64 a1_3, .int .i64 a1_4, .int .i64 a1_5]] w fun e w' => ∃ v0_ : Value, e = .returned (.tuple #[.agg #[v0_], .agg #[.int .i64 a1_0, .int .i64 a1_1, .int .i64 a1_2, .int .i64 a1_3, .int .i64 0, .int .i64 a1_5], .bool true]) ∧ Kd.S (Kd.slice 5 (Kd.int .u8)) 29 w' w.heap.size (fun _ => True) v0_ (l0_0.set a1_0.toNat (turnRow row a1_1.toNat a1_2.toNat a1_4.toNat)) ∧ Below w.heap.size w w' := by
  have HR0_0 := Aside0.mk hr0_0; have HC0_0 := Aside0.mk hc0_0; clear hr0_0 hc0_0
  obtain ⟨k, H1_⟩ := H1; have H1 := Aside0.mk H1_; clear H1_
  obtain ⟨k, H2_⟩ := H2; have H2 := Aside0.mk H2_; clear H2_
  have ER := Aside0.mk ER0; clear ER0
  have HS0 : Aside0 (Stk w [] w) := ⟨Stk.nil w⟩
  go_enter Try.func28, Try.ntmps28
  refine reg (aF := ?_) (nw := ?_) [evB 0 2 [] 31 (fun s => #[.slice A0_0 l0_0.length c0_0]) 9999 [] (fun s => #[.slice A0_0 l0_0.length c0_0]), evB 1 3 [] 34 (fun s => #[.int .i64 a1_0, .int .i64 a1_1, .int .i64 a1_2, .int .i64 a1_3, .int .i64 a1_4, .int .i64 a1_5]) 9999 [] (fun s => #[.int .i64 a1_0, .int .i64 a1_1, .int .i64 a1_2, .int .i64 a1_3, .int .i64 a1_4, .int .i64 a1_5]), evB 2 4 [] 31 (fun s => #[.slice none 0 0]) 9999 [] (fun s => #[.slice none 0 0]), evB 3 5 [] 34 (fun s => #[.int .i64 0, .int .i64 0, .int .i64 0, .int .i64 0, .int .i64 0, .int .i64 0]) 9999 [] (fun s => #[.int .i64 0, .int .i64 0, .int .i64 0, .int .i64 0, .int .i64 0, .int .i64 0]), evP 4 6 [] (fun s => .bool false)] [] [] false 5 rfl rfl (by kernel_rfl) rfl (mf0) ?aF ?nw HS0.out ?hs ?_
  rotate_left 2
  case aF => intro s; simp only [putE, EvT.val, Act.put, setIfInBounds_toArray, set_cons_zero, set_cons_succ]; rfl
  case nw => intro s; simp only [thA, bsA, List.nil_append, List.cons_append, List.append_nil, if_true, if_false, Nat.reduceLT, set_cons_zero, set_cons_succ]; rfl
  case hs => exact ⟨bv rfl (fun s w => by go_simp; try rfl), bv rfl (fun s w => by go_simp; try rfl), bv rfl (fun s w => by go_simp; try rfl), bv rfl (fun s w => by go_simp; try rfl), pu rfl, trivial⟩
  intro s1 w1 h; have HS1 := Aside0.mk h; clear h HS0
  refine tl0 ?_
  refine wp_seq ?_
  refine reg0 (aF := ?_) [evL 0 8 [] (fun s => .agg #[.slice A0_0 l0_0.length c0_0]), evL 1 9 [] (fun s => .agg #[.int .i64 a1_0, .int .i64 a1_1, .int .i64 a1_2, .int .i64 a1_3, .int .i64 a1_4, .int .i64 a1_5]), evC 2 (some 10) [] (fun s x => .bool true) (fun s x => []), evP 3 11 [] (fun s => .bool false)] [] false 4 rfl rfl (by kernel_rfl) rfl (fun _ => rfl) ?aF HS1.out ?hs ?_
  rotate_left 1
  case aF => intro s; simp only [putE, EvT.val, Act.put, setIfInBounds_toArray, set_cons_zero, set_cons_succ]; rfl
  case hs => exact ⟨ld rfl 0 (fun s => rfl) (fun s w h => by have h0 := h 0 _ rfl; clear h; go_simp; try rfl), ld rfl 1 (fun s => rfl) (fun s w h => by have h0 := h 0 _ rfl; have h1 := h 1 _ rfl; have h2 := h 2 _ rfl; have h3 := h 3 _ rfl; have h4 := h 4 _ rfl; have h5 := h 5 _ rfl; clear h; go_simp; try rfl), cl rfl (fun s => #[.agg #[.slice A0_0 l0_0.length c0_0], .agg #[.int .i64 a1_0, .int .i64 a1_1, .int .i64 a1_2, .int .i64 a1_3, .int .i64 a1_4, .int .i64 a1_5]]) Try.func70 (fun s w1 h => (impl_isRing.calls _ _ _ _ _ _ _ _ _ _ _ _ (Kd.C_below HR0_0.out h.hb) HC0_0.out H1.out).mono (by rintro e w2 ⟨rfl, hb⟩; exact fin0 hb)), pu rfl, trivial⟩
  intro s2 w2 h; have HS2 := Aside0.mk h; clear h HS1
  refine tl0 ?_
  refine wp_cond_false rfl ?_
  refine wp_skip ?_
  refine thN ?_
  refine reg (aF := ?_) (nw := ?_) [evL 0 14 [] (fun s => .agg #[.slice A0_0 l0_0.length c0_0]), evC 1 (some 15) [] (fun s x => .agg #[.slice x.A l0_0.length x.c]) (fun s x => [rowS (Kd.slice 5 (Kd.int .u8)) 29 w x.lo x.hi x.A x.c l0_0]), evB 2 7 [] 31 (fun s => #[.slice none 0 0]) 3 [1] (fun s => #[.slice (s 1).A l0_0.length (s 1).c]), evS 3] [] [] false 4 rfl rfl (by kernel_rfl) rfl (mf0) ?aF ?nw HS2.out ?hs ?_
  rotate_left 2
  case aF => intro s; simp only [putE, EvT.val, Act.put, setIfInBounds_toArray, set_cons_zero, set_cons_succ]; rfl
  case nw => intro s; simp only [thA, bsA, List.nil_append, List.cons_append, List.append_nil, if_true, if_false, Nat.reduceLT, set_cons_zero, set_cons_succ]; rfl
  case hs => exact ⟨ld rfl 0 (fun s => rfl) (fun s w h => by have h0 := h 0 _ rfl; clear h; go_simp; try rfl), cl rfl (fun s => #[.agg #[.slice A0_0 l0_0.length c0_0]]) Try.func71 (fun s w1 h => (impl_Memory_own.calls _ _ _ _ _ _ (Kd.C_below HR0_0.out h.hb) HC0_0.out H2.out).mono (by rintro e w2 ⟨v0_, rfl, ho0, hb⟩; obtain ⟨x, rfl, hx⟩ := fin_S ho0 hb h.hb.size; exact ⟨x, rfl, hx⟩)), bv rfl (fun s w => by go_simp; try rfl), st rfl 2 0 (fun s => [.slice (s 1).A l0_0.length (s 1).c]) rfl (fun s w h hf => by have h0 := h 0 _ rfl; have f0 := hf 0; clear h hf; go_simp; try rfl), trivial⟩
  intro s3 w3 h; have HS3 := Aside0.mk h; clear h HS2
  refine tl0 ?_
  obtain ⟨go1, capo1, hle1, h⟩ := HS3.out.openO 0 rfl (i := a1_0.toNat) (row := row) (by omega) ER.out (by omega); simp only [set_cons_zero, set_cons_succ] at h; have HSo1 := Aside0.mk h; clear h HS3
  refine reg (aF := ?_) (nw := ?_) [evL 0 16 [] (fun s => .agg #[.slice (s3 1).A l0_0.length (s3 1).c]), evP 1 17 [] (fun s => .pointer (some ⟨(s1 1).lo, 0, none⟩)), evL 2 18 [] (fun s => .agg #[.int .i64 a1_0, .int .i64 a1_1, .int .i64 a1_2, .int .i64 a1_3]), evP 3 19 [] (fun s => .pointer (some ⟨(s1 1).lo, 4, none⟩)), evL 4 20 [] (fun s => .int .i64 a1_4), evW 5 (some 21) [] (fun s => .tuple #[])] [] [⟨0, 5, [], fun s => rowO 5 29 w (s3 1).lo (s3 1).hi (s3 1).A l0_0.length (s3 1).c l0_0 a1_0.toNat go1 capo1 (turnRow row a1_1.toNat a1_2.toNat a1_4.toNat)⟩] false 6 rfl rfl (by kernel_rfl) rfl ((mf1 mf0)) ?aF ?nw HSo1.out ?hs ?_
  rotate_left 2
  case aF => intro s; simp only [putE, EvT.val, Act.put, setIfInBounds_toArray, set_cons_zero, set_cons_succ]; rfl
  case nw => intro s; simp only [thA, bsA, List.nil_append, List.cons_append, List.append_nil, if_true, if_false, Nat.reduceLT, set_cons_zero, set_cons_succ]; rfl
  case hs => exact ⟨ld rfl 1 (fun s => rfl) (fun s w h => by have h0 := h 0 _ rfl; clear h; go_simp; try rfl), pu rfl (hr := fun s w => by go_simp; try rfl), ld rfl 3 (fun s => rfl) (fun s w h => by have h0 := h 0 _ rfl; have h1 := h 1 _ rfl; have h2 := h 2 _ rfl; have h3 := h 3 _ rfl; have h4 := h 4 _ rfl; have h5 := h 5 _ rfl; clear h; go_simp; try rfl), pu rfl (hr := fun s w => by go_simp; try rfl), ld rfl 3 (fun s => rfl) (fun s w h => by have h0 := h 0 _ rfl; have h1 := h 1 _ rfl; have h2 := h 2 _ rfl; have h3 := h 3 _ rfl; have h4 := h 4 _ rfl; have h5 := h 5 _ rfl; clear h; go_simp; try rfl), cw rfl 0 0 rfl rfl (fun s => #[.agg #[.slice (s3 1).A l0_0.length (s3 1).c], .agg #[.int .i64 a1_0, .int .i64 a1_1, .int .i64 a1_2, .int .i64 a1_3], .int .i64 a1_4]) Try.func76 (fun s w1 h => impl_Memory_turn_o 0 h a1_0 a1_1 a1_2 a1_3 a1_4 rfl (by omega) (by omega) (by omega) (by omega) (by omega) (by omega) (by omega) (by omega)), trivial⟩
  intro s4 w4 h; have HS4 := Aside0.mk h; clear h HSo1
  refine tl0 ?_
  refine reg (aF := ?_) (nw := ?_) [evL 0 22 [] (fun s => .agg #[.slice (s3 1).A l0_0.length (s3 1).c]), evP 1 23 [] (fun s => .pointer (some ⟨(s1 1).lo, 0, none⟩)), evR 2 24 3 (fun s => .agg #[.int .i64 a1_0, .int .i64 a1_1, .int .i64 a1_2, .int .i64 a1_3]), evP 3 25 [] (fun s => .pointer (some ⟨(s1 1).lo, 5, none⟩)), evR 4 26 3 (fun s => .int .i64 a1_5), evP 5 27 [] (fun s => .agg #[.int .i64 a1_0, .int .i64 a1_1, .int .i64 a1_2, .int .i64 a1_3, .int .i64 0, .int .i64 a1_5]), evS 6, evS 7] [8] [⟨4, 6, [], fun s => boxT (s1 2).lo #[.slice (s3 1).A l0_0.length (s3 1).c] 31⟩, ⟨5, 7, [], fun s => boxT (s1 3).lo #[.int .i64 a1_0, .int .i64 a1_1, .int .i64 a1_2, .int .i64 a1_3, .int .i64 0, .int .i64 a1_5] 34⟩] true 9 rfl rfl (by kernel_rfl) rfl ((mf1 (mf1 mf0))) ?aF ?nw HS4.out ?hs ?_
  rotate_left 2
  case aF => intro s; simp only [putE, EvT.val, Act.put, setIfInBounds_toArray, set_cons_zero, set_cons_succ]; rfl
  case nw => intro s; simp only [thA, bsA, List.nil_append, List.cons_append, List.append_nil, if_true, if_false, Nat.reduceLT, set_cons_zero, set_cons_succ]; rfl
  case hs => exact ⟨ld rfl 1 (fun s => rfl) (fun s w h => by have h0 := h 0 _ rfl; clear h; go_simp; try rfl), pu rfl (hr := fun s w => by go_simp; try rfl), lr rfl 3 rfl (fun s w h => by have h0 := h 0 _ rfl; have h1 := h 1 _ rfl; have h2 := h 2 _ rfl; have h3 := h 3 _ rfl; have h4 := h 4 _ rfl; have h5 := h 5 _ rfl; clear h; go_simp; try rfl), pu rfl (hr := fun s w => by go_simp; try rfl), lr rfl 3 rfl (fun s w h => by have h0 := h 0 _ rfl; have h1 := h 1 _ rfl; have h2 := h 2 _ rfl; have h3 := h 3 _ rfl; have h4 := h 4 _ rfl; have h5 := h 5 _ rfl; clear h; go_simp; try rfl), pu rfl (hr := fun s w => by go_simp; try rfl), sb rfl 0 4 0 (fun s => [.slice (s3 1).A l0_0.length (s3 1).c]) rfl rfl (fun s w h hf => by have h0 := h 0 _ rfl; have f0 := hf 0; clear h hf; go_simp; try rfl), sb rfl 1 5 0 (fun s => [.int .i64 a1_0, .int .i64 a1_1, .int .i64 a1_2, .int .i64 a1_3, .int .i64 0, .int .i64 a1_5]) rfl rfl (fun s w h hf => by have h0 := h 0 _ rfl; have f0 := hf 0; have h1 := h 1 _ rfl; have f1 := hf 1; have h2 := h 2 _ rfl; have f2 := hf 2; have h3 := h 3 _ rfl; have f3 := hf 3; have h4 := h 4 _ rfl; have f4 := hf 4; have h5 := h 5 _ rfl; have f5 := hf 5; clear h hf; go_simp; try rfl), trivial⟩
  intro s5 w5 h; have HS5 := Aside0.mk h; clear h HS4
  refine tlP (v := .bool true) 6 rfl ?_
  refine tl0 ?_
  refine wp_ret ?_
  try simp only [Exit.inBlock, Exit.then]
  refine bodyPost_ret (results_list (rs := [.cell 4 31, .cell 5 34, .tmp 6]) rfl (by simp) (.cell (s1 2).lo 31 #[.slice (s3 1).A l0_0.length (s3 1).c] (0, 0) _ rfl (show bx (s1 2).lo #[.slice (s3 1).A l0_0.length (s3 1).c] 31 _ from HS5.out.get 4 rfl) Try.underlying31 rfl (by kernel_rfl) (.cell (s1 3).lo 34 #[.int .i64 a1_0, .int .i64 a1_1, .int .i64 a1_2, .int .i64 a1_3, .int .i64 0, .int .i64 a1_5] (0, 0) _ rfl (show bx (s1 3).lo #[.int .i64 a1_0, .int .i64 a1_1, .int .i64 a1_2, .int .i64 a1_3, .int .i64 0, .int .i64 a1_5] 34 _ from HS5.out.get 5 rfl) Try.underlying34 rfl (by kernel_rfl) (.tmp .nil)))) rfl ?_
  exact ⟨_, by first | rfl | simp, Kd.S_mono (RowO.kd (HS5.out.get 0 rfl)) (fun _ _ => trivial), HS5.out.hb⟩
end Go.Proofs.Ytaieobidkmihkaa.P


-- written by wip/gen_fn.py
namespace Go.Proofs.Ytaieobidkmihkaa.P
open Go.RowKit Go.Proofs.YtaieobidkmihkaaW.PrintWords Go.Proofs.YtaieobidkmihkaaW.PrintLast Go.Proofs.YtaieobidkmihkaaW.PrintMore Go.Proofs.YtaieobidkmihkaaW.Mine
open List (setIfInBounds_toArray set_cons_zero set_cons_succ)
attribute [local go_sem] max2_int min2_int max_two min_two max_three min_three max_four min_four
set_option linter.unusedVariables false
set_option linter.unusedSimpArgs false
set_option maxHeartbeats 8000000 in
set_option maxRecDepth 100000 in
theorem spec_StraightRing_w0 (A0_0 : Option Addr) (c0_0 : Nat) (l0_0 : List (List Int)) (a1_0 : Int) (a1_1 : Int) (a1_2 : Int) (a1_3 : Int) (a1_4 : Int) (a1_5 : Int) (w : World) (hr0_0 : Kd.C (Kd.slice 5 (Kd.int .u8)) w A0_0 l0_0.length l0_0) (hc0_0 : l0_0.length ≤ c0_0) (H1 : ∃ k, spec_l5Ring.f k l0_0 a1_0 a1_1 a1_2 a1_3 a1_4 a1_5 = some false) :
    Calls Try.prog 27 #[.agg #[.slice A0_0 l0_0.length c0_0], .agg #[.int .i64 a1_0, .int .i64 a1_1, .int .i64 a1_2, .int .i64 a1_3, .int .i64 a1_4, .int .i64 a1_5]] w fun e w' => ∃ v0_ : Value, e = .returned (.tuple #[.agg #[v0_], .agg #[.int .i64 0, .int .i64 0, .int .i64 0, .int .i64 0, .int .i64 0, .int .i64 0], .bool false]) ∧ Kd.S (Kd.slice 5 (Kd.int .u8)) 29 w' w.heap.size (fun _ => True) v0_ [] ∧ Below w.heap.size w w' := by
  have HR0_0 := Aside0.mk hr0_0; have HC0_0 := Aside0.mk hc0_0; clear hr0_0 hc0_0
  obtain ⟨k, H1_⟩ := H1; have H1 := Aside0.mk H1_; clear H1_
  have HS0 : Aside0 (Stk w [] w) := ⟨Stk.nil w⟩
  go_enter Try.func27, Try.ntmps27
  refine reg (aF := ?_) (nw := ?_) [evB 0 2 [] 31 (fun s => #[.slice A0_0 l0_0.length c0_0]) 9999 [] (fun s => #[.slice A0_0 l0_0.length c0_0]), evB 1 3 [] 34 (fun s => #[.int .i64 a1_0, .int .i64 a1_1, .int .i64 a1_2, .int .i64 a1_3, .int .i64 a1_4, .int .i64 a1_5]) 9999 [] (fun s => #[.int .i64 a1_0, .int .i64 a1_1, .int .i64 a1_2, .int .i64 a1_3, .int .i64 a1_4, .int .i64 a1_5]), evB 2 4 [] 31 (fun s => #[.slice none 0 0]) 9999 [] (fun s => #[.slice none 0 0]), evB 3 5 [] 34 (fun s => #[.int .i64 0, .int .i64 0, .int .i64 0, .int .i64 0, .int .i64 0, .int .i64 0]) 9999 [] (fun s => #[.int .i64 0, .int .i64 0, .int .i64 0, .int .i64 0, .int .i64 0, .int .i64 0]), evP 4 6 [] (fun s => .bool false)] [] [] false 5 rfl rfl (by kernel_rfl) rfl (mf0) ?aF ?nw HS0.out ?hs ?_
  rotate_left 2
  case aF => intro s; simp only [putE, EvT.val, Act.put, setIfInBounds_toArray, set_cons_zero, set_cons_succ]; rfl
  case nw => intro s; simp only [thA, bsA, List.nil_append, List.cons_append, List.append_nil, if_true, if_false, Nat.reduceLT, set_cons_zero, set_cons_succ]; rfl
  case hs => exact ⟨bv rfl (fun s w => by go_simp; try rfl), bv rfl (fun s w => by go_simp; try rfl), bv rfl (fun s w => by go_simp; try rfl), bv rfl (fun s w => by go_simp; try rfl), pu rfl, trivial⟩
  intro s1 w1 h; have HS1 := Aside0.mk h; clear h HS0
  refine tl0 ?_
  refine wp_seq ?_
  refine reg0 (aF := ?_) [evL 0 7 [] (fun s => .agg #[.slice A0_0 l0_0.length c0_0]), evL 1 8 [] (fun s => .agg #[.int .i64 a1_0, .int .i64 a1_1, .int .i64 a1_2, .int .i64 a1_3, .int .i64 a1_4, .int .i64 a1_5]), evC 2 (some 9) [] (fun s x => .bool false) (fun s x => []), evP 3 10 [] (fun s => .bool true)] [] false 4 rfl rfl (by kernel_rfl) rfl (fun _ => rfl) ?aF HS1.out ?hs ?_
  rotate_left 1
  case aF => intro s; simp only [putE, EvT.val, Act.put, setIfInBounds_toArray, set_cons_zero, set_cons_succ]; rfl
  case hs => exact ⟨ld rfl 0 (fun s => rfl) (fun s w h => by have h0 := h 0 _ rfl; clear h; go_simp; try rfl), ld rfl 1 (fun s => rfl) (fun s w h => by have h0 := h 0 _ rfl; have h1 := h 1 _ rfl; have h2 := h 2 _ rfl; have h3 := h 3 _ rfl; have h4 := h 4 _ rfl; have h5 := h 5 _ rfl; clear h; go_simp; try rfl), cl rfl (fun s => #[.agg #[.slice A0_0 l0_0.length c0_0], .agg #[.int .i64 a1_0, .int .i64 a1_1, .int .i64 a1_2, .int .i64 a1_3, .int .i64 a1_4, .int .i64 a1_5]]) Try.func65 (fun s w1 h => (spec_l5Ring.calls _ _ _ _ _ _ _ _ _ _ _ _ (Kd.C_below HR0_0.out h.hb) HC0_0.out H1.out).mono (by rintro e w2 ⟨rfl, hb⟩; exact fin0 hb)), pu rfl, trivial⟩
  intro s2 w2 h; have HS2 := Aside0.mk h; clear h HS1
  refine tl0 ?_
  refine wp_cond_true rfl ?_
  refine reg (aF := ?_) (nw := ?_) [evP 0 11 [] (fun s => .agg #[.slice none 0 0]), evP 1 12 [] (fun s => .agg #[.int .i64 0, .int .i64 0, .int .i64 0, .int .i64 0, .int .i64 0, .int .i64 0]), evS 2, evS 3] [4] [⟨2, 2, [], fun s => boxT (s1 2).lo #[.slice none 0 0] 31⟩, ⟨3, 3, [], fun s => boxT (s1 3).lo #[.int .i64 0, .int .i64 0, .int .i64 0, .int .i64 0, .int .i64 0, .int .i64 0] 34⟩] false 5 rfl rfl (by kernel_rfl) rfl ((mf1 (mf1 mf0))) ?aF ?nw HS2.out ?hs ?_
  rotate_left 2
  case aF => intro s; simp only [putE, EvT.val, Act.put, setIfInBounds_toArray, set_cons_zero, set_cons_succ]; rfl
  case nw => intro s; simp only [thA, bsA, List.nil_append, List.cons_append, List.append_nil, if_true, if_false, Nat.reduceLT, set_cons_zero, set_cons_succ]; rfl
  case hs => exact ⟨pu rfl (hr := fun s w => by go_simp; try rfl), pu rfl (hr := fun s w => by go_simp; try rfl), sb rfl 0 2 0 (fun s => [.slice none 0 0]) rfl rfl (fun s w h hf => by have h0 := h 0 _ rfl; have f0 := hf 0; clear h hf; go_simp; try rfl), sb rfl 1 3 0 (fun s => [.int .i64 0, .int .i64 0, .int .i64 0, .int .i64 0, .int .i64 0, .int .i64 0]) rfl rfl (fun s w h hf => by have h0 := h 0 _ rfl; have f0 := hf 0; have h1 := h 1 _ rfl; have f1 := hf 1; have h2 := h 2 _ rfl; have f2 := hf 2; have h3 := h 3 _ rfl; have f3 := hf 3; have h4 := h 4 _ rfl; have f4 := hf 4; have h5 := h 5 _ rfl; have f5 := hf 5; clear h hf; go_simp; try rfl), trivial⟩
  intro s3 w3 h; have HS3 := Aside0.mk h; clear h HS2
  refine tlP (v := .bool false) 6 rfl ?_
  refine tl0 ?_
  refine wp_ret ?_
  try simp only [Exit.inBlock, Exit.then]
  refine bodyPost_ret (results_list (rs := [.cell 4 31, .cell 5 34, .tmp 6]) rfl (by simp) (.cell (s1 2).lo 31 #[.slice none 0 0] (0, 0) _ rfl (show bx (s1 2).lo #[.slice none 0 0] 31 _ from HS3.out.get 2 rfl) Try.underlying31 rfl (by kernel_rfl) (.cell (s1 3).lo 34 #[.int .i64 0, .int .i64 0, .int .i64 0, .int .i64 0, .int .i64 0, .int .i64 0] (0, 0) _ rfl (show bx (s1 3).lo #[.int .i64 0, .int .i64 0, .int .i64 0, .int .i64 0, .int .i64 0, .int .i64 0] 34 _ from HS3.out.get 3 rfl) Try.underlying34 rfl (by kernel_rfl) (.tmp .nil)))) rfl ?_
  exact ⟨_, by first | rfl | simp, Kd.S_nil _ _ _ _ _, HS3.out.hb⟩
set_option maxHeartbeats 8000000 in
set_option maxRecDepth 100000 in
theorem spec_StraightRing_w1 (A0_0 : Option Addr) (c0_0 : Nat) (l0_0 : List (List Int)) (a1_0 : Int) (a1_1 : Int) (a1_2 : Int) (a1_3 : Int) (a1_4 : Int) (a1_5 : Int) (r2_0 : List (List Int)) (w : World) (hr0_0 : Kd.C (Kd.slice 5 (Kd.int .u8)) w A0_0 l0_0.length l0_0) (hc0_0 : l0_0.length ≤ c0_0) (H1 : ∃ k, spec_l5Ring.f k l0_0 a1_0 a1_1 a1_2 a1_3 a1_4 a1_5 = some true) (H2 : ∃ k, spec_l5Turn.f k l0_0 a1_0 a1_1 a1_2 a1_3 a1_4 = some r2_0) :
    Calls Try.prog 27 #[.agg #[.slice A0_0 l0_0.length c0_0], .agg #[.int .i64 a1_0, .int .i64 a1_1, .int .i64 a1_2, .int .i64 a1_3, .int .i64 a1_4, .int .i64 a1_5]] w fun e w' => ∃ v0_ : Value, e = .returned (.tuple #[.agg #[v0_], .agg #[.int .i64 a1_0, .int .i64 a1_1, .int .i64 a1_2, .int .i64 a1_3, .int .i64 0, .int .i64 a1_5], .bool true]) ∧ Kd.S (Kd.slice 5 (Kd.int .u8)) 29 w' w.heap.size (fun _ => True) v0_ r2_0 ∧ Below w.heap.size w w' := by
  have HR0_0 := Aside0.mk hr0_0; have HC0_0 := Aside0.mk hc0_0; clear hr0_0 hc0_0
  obtain ⟨k, H1_⟩ := H1; have H1 := Aside0.mk H1_; clear H1_
  obtain ⟨k, H2_⟩ := H2; have H2 := Aside0.mk H2_; clear H2_
  have HS0 : Aside0 (Stk w [] w) := ⟨Stk.nil w⟩
  go_enter Try.func27, Try.ntmps27
  refine reg (aF := ?_) (nw := ?_) [evB 0 2 [] 31 (fun s => #[.slice A0_0 l0_0.length c0_0]) 9999 [] (fun s => #[.slice A0_0 l0_0.length c0_0]), evB 1 3 [] 34 (fun s => #[.int .i64 a1_0, .int .i64 a1_1, .int .i64 a1_2, .int .i64 a1_3, .int .i64 a1_4, .int .i64 a1_5]) 9999 [] (fun s => #[.int .i64 a1_0, .int .i64 a1_1, .int .i64 a1_2, .int .i64 a1_3, .int .i64 a1_4, .int .i64 a1_5]), evB 2 4 [] 31 (fun s => #[.slice none 0 0]) 9999 [] (fun s => #[.slice none 0 0]), evB 3 5 [] 34 (fun s => #[.int .i64 0, .int .i64 0, .int .i64 0, .int .i64 0, .int .i64 0, .int .i64 0]) 9999 [] (fun s => #[.int .i64 0, .int .i64 0, .int .i64 0, .int .i64 0, .int .i64 0, .int .i64 0]), evP 4 6 [] (fun s => .bool false)] [] [] false 5 rfl rfl (by kernel_rfl) rfl (mf0) ?aF ?nw HS0.out ?hs ?_
  rotate_left 2
  case aF => intro s; simp only [putE, EvT.val, Act.put, setIfInBounds_toArray, set_cons_zero, set_cons_succ]; rfl
  case nw => intro s; simp only [thA, bsA, List.nil_append, List.cons_append, List.append_nil, if_true, if_false, Nat.reduceLT, set_cons_zero, set_cons_succ]; rfl
  case hs => exact ⟨bv rfl (fun s w => by go_simp; try rfl), bv rfl (fun s w => by go_simp; try rfl), bv rfl (fun s w => by go_simp; try rfl), bv rfl (fun s w => by go_simp; try rfl), pu rfl, trivial⟩
  intro s1 w1 h; have HS1 := Aside0.mk h; clear h HS0
  refine tl0 ?_
  refine wp_seq ?_
  refine reg0 (aF := ?_) [evL 0 7 [] (fun s => .agg #[.slice A0_0 l0_0.length c0_0]), evL 1 8 [] (fun s => .agg #[.int .i64 a1_0, .int .i64 a1_1, .int .i64 a1_2, .int .i64 a1_3, .int .i64 a1_4, .int .i64 a1_5]), evC 2 (some 9) [] (fun s x => .bool true) (fun s x => []), evP 3 10 [] (fun s => .bool false)] [] false 4 rfl rfl (by kernel_rfl) rfl (fun _ => rfl) ?aF HS1.out ?hs ?_
  rotate_left 1
  case aF => intro s; simp only [putE, EvT.val, Act.put, setIfInBounds_toArray, set_cons_zero, set_cons_succ]; rfl
  case hs => exact ⟨ld rfl 0 (fun s => rfl) (fun s w h => by have h0 := h 0 _ rfl; clear h; go_simp; try rfl), ld rfl 1 (fun s => rfl) (fun s w h => by have h0 := h 0 _ rfl; have h1 := h 1 _ rfl; have h2 := h 2 _ rfl; have h3 := h 3 _ rfl; have h4 := h 4 _ rfl; have h5 := h 5 _ rfl; clear h; go_simp; try rfl), cl rfl (fun s => #[.agg #[.slice A0_0 l0_0.length c0_0], .agg #[.int .i64 a1_0, .int .i64 a1_1, .int .i64 a1_2, .int .i64 a1_3, .int .i64 a1_4, .int .i64 a1_5]]) Try.func65 (fun s w1 h => (spec_l5Ring.calls _ _ _ _ _ _ _ _ _ _ _ _ (Kd.C_below HR0_0.out h.hb) HC0_0.out H1.out).mono (by rintro e w2 ⟨rfl, hb⟩; exact fin0 hb)), pu rfl, trivial⟩
  intro s2 w2 h; have HS2 := Aside0.mk h; clear h HS1
  refine tl0 ?_
  refine wp_cond_false rfl ?_
  refine wp_skip ?_
  refine thN ?_
  refine reg (aF := ?_) (nw := ?_) [evL 0 13 [] (fun s => .agg #[.slice A0_0 l0_0.length c0_0]), evP 1 14 [] (fun s => .pointer (some ⟨(s1 1).lo, 0, none⟩)), evL 2 15 [] (fun s => .agg #[.int .i64 a1_0, .int .i64 a1_1, .int .i64 a1_2, .int .i64 a1_3]), evP 3 16 [] (fun s => .pointer (some ⟨(s1 1).lo, 4, none⟩)), evL 4 17 [] (fun s => .int .i64 a1_4), evC 5 (some 18) [] (fun s x => .agg #[.slice x.A r2_0.length x.c]) (fun s x => [rowS (Kd.slice 5 (Kd.int .u8)) 29 w x.lo x.hi x.A x.c r2_0]), evP 6 19 [] (fun s => .pointer (some ⟨(s1 1).lo, 0, none⟩)), evR 7 20 1 (fun s => .agg #[.int .i64 a1_0, .int .i64 a1_1, .int .i64 a1_2, .int .i64 a1_3]), evP 8 21 [] (fun s => .pointer (some ⟨(s1 1).lo, 5, none⟩)), evR 9 22 1 (fun s => .int .i64 a1_5), evP 10 23 [] (fun s => .agg #[.int .i64 a1_0, .int .i64 a1_1, .int .i64 a1_2, .int .i64 a1_3, .int .i64 0, .int .i64 a1_5]), evS 11, evS 12] [13] [⟨2, 11, [5], fun s => boxT (s1 2).lo #[.slice (s 5).A r2_0.length (s 5).c] 31⟩, ⟨3, 12, [], fun s => boxT (s1 3).lo #[.int .i64 a1_0, .int .i64 a1_1, .int .i64 a1_2, .int .i64 a1_3, .int .i64 0, .int .i64 a1_5] 34⟩] true 14 rfl rfl (by kernel_rfl) rfl ((mf1 (mf1 mf0))) ?aF ?nw HS2.out ?hs ?_
  rotate_left 2
  case aF => intro s; simp only [putE, EvT.val, Act.put, setIfInBounds_toArray, set_cons_zero, set_cons_succ]; rfl
  case nw => intro s; simp only [thA, bsA, List.nil_append, List.cons_append, List.append_nil, if_true, if_false, Nat.reduceLT, set_cons_zero, set_cons_succ]; rfl
  case hs => exact ⟨ld rfl 0 (fun s => rfl) (fun s w h => by have h0 := h 0 _ rfl; clear h; go_simp; try rfl), pu rfl (hr := fun s w => by go_simp; try rfl), ld rfl 1 (fun s => rfl) (fun s w h => by have h0 := h 0 _ rfl; have h1 := h 1 _ rfl; have h2 := h 2 _ rfl; have h3 := h 3 _ rfl; have h4 := h 4 _ rfl; have h5 := h 5 _ rfl; clear h; go_simp; try rfl), pu rfl (hr := fun s w => by go_simp; try rfl), ld rfl 1 (fun s => rfl) (fun s w h => by have h0 := h 0 _ rfl; have h1 := h 1 _ rfl; have h2 := h 2 _ rfl; have h3 := h 3 _ rfl; have h4 := h 4 _ rfl; have h5 := h 5 _ rfl; clear h; go_simp; try rfl), cl rfl (fun s => #[.agg #[.slice A0_0 l0_0.length c0_0], .agg #[.int .i64 a1_0, .int .i64 a1_1, .int .i64 a1_2, .int .i64 a1_3], .int .i64 a1_4]) Try.func75 (fun s w1 h => (spec_l5Turn.calls _ _ _ _ _ _ _ _ _ _ _ (Kd.C_below HR0_0.out h.hb) HC0_0.out H2.out).mono (by rintro e w2 ⟨v0_, rfl, ho0, hb⟩; obtain ⟨x, rfl, hx⟩ := fin_S ho0 hb h.hb.size; exact ⟨x, rfl, hx⟩)), pu rfl (hr := fun s w => by go_simp; try rfl), lr rfl 1 rfl (fun s w h => by have h0 := h 0 _ rfl; have h1 := h 1 _ rfl; have h2 := h 2 _ rfl; have h3 := h 3 _ rfl; have h4 := h 4 _ rfl; have h5 := h 5 _ rfl; clear h; go_simp; try rfl), pu rfl (hr := fun s w => by go_simp; try rfl), lr rfl 1 rfl (fun s w h => by have h0 := h 0 _ rfl; have h1 := h 1 _ rfl; have h2 := h 2 _ rfl; have h3 := h 3 _ rfl; have h4 := h 4 _ rfl; have h5 := h 5 _ rfl; clear h; go_simp; try rfl), pu rfl (hr := fun s w => by go_simp; try rfl), sb rfl 0 2 0 (fun s => [.slice (s 5).A r2_0.length (s 5).c]) rfl rfl (fun s w h hf => by have h0 := h 0 _ rfl; have f0 := hf 0; clear h hf; go_simp; try rfl), sb rfl 1 3 0 (fun s => [.int .i64 a1_0, .int .i64 a1_1, .int .i64 a1_2, .int .i64 a1_3, .int .i64 0, .int .i64 a1_5]) rfl rfl (fun s w h hf => by have h0 := h 0 _ rfl; have f0 := hf 0; have h1 := h 1 _ rfl; have f1 := hf 1; have h2 := h 2 _ rfl; have f2 := hf 2; have h3 := h 3 _ rfl; have f3 := hf 3; have h4 := h 4 _ rfl; have f4 := hf 4; have h5 := h 5 _ rfl; have f5 := hf 5; clear h hf; go_simp; try rfl), trivial⟩
  intro s3 w3 h; have HS3 := Aside0.mk h; clear h HS2
  refine tlP (v := .bool true) 6 rfl ?_
  refine tl0 ?_
  refine wp_ret ?_
  try simp only [Exit.inBlock, Exit.then]
  refine bodyPost_ret (results_list (rs := [.cell 4 31, .cell 5 34, .tmp 6]) rfl (by simp) (.cell (s1 2).lo 31 #[.slice (s3 5).A r2_0.length (s3 5).c] (0, 0) _ rfl (show bx (s1 2).lo #[.slice (s3 5).A r2_0.length (s3 5).c] 31 _ from HS3.out.get 3 rfl) Try.underlying31 rfl (by kernel_rfl) (.cell (s1 3).lo 34 #[.int .i64 a1_0, .int .i64 a1_1, .int .i64 a1_2, .int .i64 a1_3, .int .i64 0, .int .i64 a1_5] (0, 0) _ rfl (show bx (s1 3).lo #[.int .i64 a1_0, .int .i64 a1_1, .int .i64 a1_2, .int .i64 a1_3, .int .i64 0, .int .i64 a1_5] 34 _ from HS3.out.get 4 rfl) Try.underlying34 rfl (by kernel_rfl) (.tmp .nil)))) rfl ?_
  exact ⟨_, by first | rfl | simp, Kd.S_mono (HS3.out.get 0 rfl) (fun _ _ => trivial), HS3.out.hb⟩
end Go.Proofs.Ytaieobidkmihkaa.P


/- StraightRing: the program's and the reference's. -/
namespace Go.Proofs.Ytaieobidkmihkaa.P
open Go.RowKit Go.Proofs.YtaieobidkmihkaaW.PrintWords
set_option linter.unusedVariables false
set_option linter.unusedSimpArgs false
def straightR (m : List (List Int)) (a s n c f k : Int) : List (List Int) × Int × Int × Int × Int × Int × Int × Bool := if ringB m a s n c f k = true then (putRow m a (turnRow (rowB m a) s.toNat n.toNat f.toNat), a, s, n, c, 0, k, true) else ([], 0, 0, 0, 0, 0, 0, false)
theorem straightR_ok (m : List (List Int)) (a s n c f k : Int) : okM (straightR m a s n c f k).1 := by
  unfold straightR
  split
  · rename_i h
    have hw := RingOk.of h
    have := hw.n0; have := hw.n1; have := hw.s0; have := hw.s1; have := hw.f0; have := hw.f1
    have hl := turnRow_length (rowB m a) s.toNat n.toNat f.toNat (by omega) (by omega)
    exact putRow_ok hw.mem (by rw [hl]; exact hw.r0) (by rw [hl]; exact hw.r1)
  · exact okM_nil
def impl_StraightRing.f (m : List (List Int)) (a s n c f k : Int) : Option (List (List Int) × Int × Int × Int × Int × Int × Int × Bool) := if okMb m = true then some (straightR m a s n c f k) else none
def spec_StraightRing.f (m : List (List Int)) (a s n c f k : Int) : Option (List (List Int) × Int × Int × Int × Int × Int × Int × Bool) := if (okMb m && decide (-9223372036854775808 ≤ s ∧ s ≤ 9223372036854775807)) = true then some (straightR m a s n c f k) else none
theorem impl_StraightRing.calls (A0_0 : Option Addr) (c0_0 : Nat) (l0_0 : List (List Int)) (a1_0 a1_1 a1_2 a1_3 a1_4 a1_5 : Int) (r1 : List (List Int)) (r2 r3 r4 r5 r6 r7 : Int) (r8 : Bool) (w : World) (hr0_0 : Kd.C (Kd.slice 5 (Kd.int .u8)) w A0_0 l0_0.length l0_0) (hc0_0 : l0_0.length ≤ c0_0) (h : impl_StraightRing.f l0_0 a1_0 a1_1 a1_2 a1_3 a1_4 a1_5 = some (r1, r2, r3, r4, r5, r6, r7, r8)) :
    Calls Try.prog 28 #[.agg #[.slice A0_0 l0_0.length c0_0], .agg #[.int .i64 a1_0, .int .i64 a1_1, .int .i64 a1_2, .int .i64 a1_3, .int .i64 a1_4, .int .i64 a1_5]] w fun e w' => ∃ v0_ : Value, e = .returned (.tuple #[.agg #[v0_], .agg #[.int .i64 r2, .int .i64 r3, .int .i64 r4, .int .i64 r5, .int .i64 r6, .int .i64 r7], .bool r8]) ∧ Kd.S (Kd.slice 5 (Kd.int .u8)) 29 w' w.heap.size (fun _ => True) v0_ r1 ∧ Below w.heap.size w w' := by
  unfold impl_StraightRing.f at h
  split at h
  next hh =>
    have hm := okM_of hh
    have hr := (isRing_f l0_0 a1_0 a1_1 a1_2 a1_3 a1_4 a1_5 hm.len hm.rows).rounds
    have h := Option.some.inj h
    unfold straightR at h
    by_cases h1 : ringB l0_0 a1_0 a1_1 a1_2 a1_3 a1_4 a1_5 = true
    · rw [if_pos h1] at h
      rw [h1] at hr
      cases h
      have hw := RingOk.of h1
      exact impl_StraightRing_w1 A0_0 c0_0 l0_0 a1_0 a1_1 a1_2 a1_3 a1_4 a1_5 w hr0_0 hc0_0 hr (own_f _ hm).rounds (rowB l0_0 a1_0) rfl hw.a0 hw.a1 hw.s0 hw.n0 (by have := hw.n1; have := hw.s1; omega) hw.r0 hw.r1 hw.f0 (by have := hw.f1; omega)
    · rw [if_neg h1] at h
      rw [Bool.eq_false_iff.2 h1] at hr
      cases h
      exact impl_StraightRing_w0 A0_0 c0_0 l0_0 a1_0 a1_1 a1_2 a1_3 a1_4 a1_5 w hr0_0 hc0_0 hr
  next => cases h
theorem spec_StraightRing.calls (A0_0 : Option Addr) (c0_0 : Nat) (l0_0 : List (List Int)) (a1_0 a1_1 a1_2 a1_3 a1_4 a1_5 : Int) (r1 : List (List Int)) (r2 r3 r4 r5 r6 r7 : Int) (r8 : Bool) (w : World) (hr0_0 : Kd.C (Kd.slice 5 (Kd.int .u8)) w A0_0 l0_0.length l0_0) (hc0_0 : l0_0.length ≤ c0_0) (h : spec_StraightRing.f l0_0 a1_0 a1_1 a1_2 a1_3 a1_4 a1_5 = some (r1, r2, r3, r4, r5, r6, r7, r8)) :
    Calls Try.prog 27 #[.agg #[.slice A0_0 l0_0.length c0_0], .agg #[.int .i64 a1_0, .int .i64 a1_1, .int .i64 a1_2, .int .i64 a1_3, .int .i64 a1_4, .int .i64 a1_5]] w fun e w' => ∃ v0_ : Value, e = .returned (.tuple #[.agg #[v0_], .agg #[.int .i64 r2, .int .i64 r3, .int .i64 r4, .int .i64 r5, .int .i64 r6, .int .i64 r7], .bool r8]) ∧ Kd.S (Kd.slice 5 (Kd.int .u8)) 29 w' w.heap.size (fun _ => True) v0_ r1 ∧ Below w.heap.size w w' := by
  unfold spec_StraightRing.f at h
  split at h
  next hh =>
    have hh2 : okMb l0_0 = true ∧ _ = true := (Bool.and_eq_true _ _).mp hh
    have hm := okM_of hh2.1
    have hs := of_decide_eq_true hh2.2
    have hr := (l5Ring_f l0_0 a1_0 a1_1 a1_2 a1_3 a1_4 a1_5 hm.len hm.rows hs).rounds
    have h := Option.some.inj h
    unfold straightR at h
    by_cases h1 : ringB l0_0 a1_0 a1_1 a1_2 a1_3 a1_4 a1_5 = true
    · rw [if_pos h1] at h
      rw [h1] at hr
      cases h
      have hw := RingOk.of h1
      exact spec_StraightRing_w1 A0_0 c0_0 l0_0 a1_0 a1_1 a1_2 a1_3 a1_4 a1_5 _ w hr0_0 hc0_0 hr (l5Turn_f l0_0 a1_0 a1_1 a1_2 a1_3 a1_4 hm hw.toWinOk hw.f0 (by have := hw.f1; omega)).rounds
    · rw [if_neg h1] at h
      rw [Bool.eq_false_iff.2 h1] at hr
      cases h
      exact spec_StraightRing_w0 A0_0 c0_0 l0_0 a1_0 a1_1 a1_2 a1_3 a1_4 a1_5 w hr0_0 hc0_0 hr
  next => cases h
theorem implStraight_f (m : List (List Int)) (a s n c f k : Int) (h : okM m) : impl_StraightRing.f m a s n c f k = some (straightR m a s n c f k) := if_pos (okMb_of h)
theorem specStraight_f (m : List (List Int)) (a s n c f k : Int) (h : okM m) (hs : -9223372036854775808 ≤ s ∧ s ≤ 9223372036854775807) : spec_StraightRing.f m a s n c f k = some (straightR m a s n c f k) := if_pos (by rw [okMb_of h, decide_eq_true hs]; rfl)
end Go.Proofs.Ytaieobidkmihkaa.P


/- From a row's reading of an argument to what the print's kinds say of it. -/
namespace Go.Proofs.YtaieobidkmihkaaW.Mine
open Go.RowKit Go.Proofs.YtaieobidkmihkaaW.PrintWords
set_option linter.unusedVariables false
/-- Whatever reads as data of type T is of the kind d, and ok. -/
def ReadsK {α : Type} (P : Program) (T : TypeId) (d : Kd α) (ok : α → Prop) : Prop :=
  ∀ {H : Type} {enc : TypeId × Value → H} {w : World} {base : Nat} {spare : Nat → Bool} {held : Bool} {fuel : Nat} {cs : List Value} {x : DataW H × List MemPlace}, DataW.trod enc P w base spare held fuel T cs = some x → ∃ a : α, d.K w a cs ∧ ok a
theorem ReadsK.int {P : Program} {T : TypeId} {k : IntKind} (hT : P.underlying T = some (.int k)) : ReadsK P T (Kd.int k) (fun n => (Lit.int k n).wf = true) := by
  intro H enc w base spare held fuel cs x h
  obtain ⟨n, rfl, _, hw⟩ := DataW.trod_int hT h
  exact ⟨n, rfl, hw⟩
theorem ReadsK.bool {P : Program} {T : TypeId} (hT : P.underlying T = some .bool) : ReadsK P T Kd.bool (fun _ => True) := by
  intro H enc w base spare held fuel cs x h
  obtain ⟨b, rfl, _⟩ := DataW.trod_bool hT h
  exact ⟨b, rfl, trivial⟩
theorem exists_list {α : Type} {n : Nat} {p : Nat → α → Prop} (h : ∀ i, i < n → ∃ a, p i a) : ∃ l : List α, l.length = n ∧ ∀ i a, l[i]? = some a → p i a := by
  induction n with
  | zero => exact ⟨[], rfl, fun i a hi => by simp at hi⟩
  | succ n ih =>
    obtain ⟨l, hl, hp⟩ := ih (fun i hi => h i (by omega))
    obtain ⟨a, ha⟩ := h n (by omega)
    refine ⟨l ++ [a], by simp [hl], fun i b hb => ?_⟩
    rcases Nat.lt_or_ge i n with hi | hi
    · rw [List.getElem?_append_left (by omega)] at hb
      exact hp i b hb
    · have hi2 : i = n := by
        have := (List.getElem?_eq_some_iff.1 hb).1
        simp [hl] at this
        omega
      subst hi2
      rw [← hl, List.getElem?_append_right (Nat.le_refl _)] at hb
      simp at hb
      rw [← hb]
      exact ha
theorem ReadsK.slice {α : Type} {P : Program} {T e : TypeId} {d : Kd α} {ok : α → Prop} (hT : P.underlying T = some (.slice e)) (hc : P.cellsOf e = d.sz) (h1 : ReadsK P e d ok) : ReadsK P T (Kd.slice e d) (fun xs => ∀ x ∈ xs, ok x) := by
  intro H enc w base spare held fuel cs x h
  rcases Deep.open_slice hT h with ⟨rfl, _⟩ | ⟨a, len, cap, m, n, D, Pl, rfl, hb, hl, hm, hmm, _, hx⟩
  · exact ⟨[], ⟨none, 0, rfl, Nat.le_refl _, rfl, by simp, fun h => absurd h (by simp)⟩, fun x hx => by simp at hx⟩
  · have hlm : len ≤ m := by rw [hmm]; split <;> omega
    obtain ⟨l, hll, hp⟩ := exists_list (n := len) (p := fun i y => ∃ cs', w.cells? base (a.add (i * P.cellsOf e)) (P.cellsOf e) = some cs' ∧ d.K w y cs' ∧ ok y) (fun i hi => by
      obtain ⟨cs', h2, h3⟩ := hx i (by omega)
      obtain ⟨y, hy, hok⟩ := h1 h3
      exact ⟨y, cs', h2, hy, hok⟩)
    refine ⟨l, ⟨some a, cap, by rw [hll], by omega, rfl, ?_, fun hn => ⟨a, rfl, fun j p hj => ?_⟩⟩, fun y hy => ?_⟩
    · rw [hll]; unfold maxLen at hm; omega
    · obtain ⟨cs', h2, h3, _⟩ := hp j p hj
      obtain ⟨_, hlen, hcell⟩ := World.cells?_some h2
      refine ⟨cs', by rw [hlen, hc], h3, fun i u hu => ?_⟩
      have hi : i < P.cellsOf e := by
        have := (List.getElem?_eq_some_iff.1 hu).1
        omega
      have h4 := hcell i hi
      rw [hu] at h4
      rw [← h4, ← hc]
      congr 1
      unfold Addr.add
      by_cases z1 : j * P.cellsOf e = 0 <;> by_cases z2 : i = 0 <;> simp [z1, z2, Nat.add_assoc]
    · obtain ⟨j, hj, rfl⟩ := List.mem_iff_getElem.1 hy
      obtain ⟨_, _, _, hok⟩ := hp j _ (List.getElem?_eq_getElem hj)
      exact hok
/-- The fields from offset o on. -/
def ReadsF {α : Type} (P : Program) (o : Nat) (fs : List Field) (d : Kd α) (ok : α → Prop) : Prop :=
  ∀ {H : Type} {enc : TypeId × Value → H} {w : World} {base : Nat} {spare : Nat → Bool} {held : Bool} {n : Nat} {cs : List Value}, (∀ f ∈ fs, ∃ x, DataW.trod enc P w base spare held n f.type ((cs.drop f.offset).take (P.cellsOf f.type)) = some x) → ∃ a : α, d.K w a ((cs.drop o).take d.sz) ∧ ok a
theorem ReadsF.last {α : Type} {P : Program} {o : Nat} {f : Field} {d : Kd α} {ok : α → Prop} (ho : f.offset = o) (h : ReadsK P f.type d ok) (hc : P.cellsOf f.type = d.sz) : ReadsF P o [f] d ok := by
  intro H enc w base spare held n cs hh
  obtain ⟨x, hx⟩ := hh f (by simp)
  rw [ho, hc] at hx
  exact h hx
theorem ReadsF.cons {α β : Type} {P : Program} {o : Nat} {f : Field} {fs : List Field} {d : Kd α} {d2 : Kd β} {ok : α → Prop} {ok2 : β → Prop} (ho : f.offset = o) (h : ReadsK P f.type d ok) (hc : P.cellsOf f.type = d.sz) (h2 : ReadsF P (o + d.sz) fs d2 ok2) : ReadsF P o (f :: fs) (Kd.pair d d2) (fun p => ok p.1 ∧ ok2 p.2) := by
  intro H enc w base spare held n cs hh
  obtain ⟨x, hx⟩ := hh f (by simp)
  rw [ho, hc] at hx
  obtain ⟨a, ha, hok⟩ := h hx
  obtain ⟨b, hb, hok2⟩ := h2 (fun g hg => hh g (by simp [hg]))
  refine ⟨(a, b), ⟨_, _, ?_, ha, hb⟩, hok, hok2⟩
  show (cs.drop o).take (d.sz + d2.sz) = _
  rw [List.take_add, List.drop_drop]
theorem ReadsK.struct {α : Type} {P : Program} {T : TypeId} {fs : Array Field} {d : Kd α} {ok : α → Prop} (hT : P.underlying T = some (.struct fs)) (hc : P.cellsOf T = d.sz) (h : ReadsF P 0 fs.toList d ok) : ReadsK P T d ok := by
  intro H enc w base spare held fuel cs x hx
  obtain ⟨xs, n, _, _, hl, hlen, hf⟩ := DataW.trod_struct hT hx
  obtain ⟨a, ha, hok⟩ := h (n := n) (cs := cs) (enc := enc) (w := w) (base := base) (spare := spare) (held := held) (fun f hf2 => by
    obtain ⟨i, hi, rfl⟩ := List.mem_iff_getElem.1 hf2
    have h1 := hf i fs[i] (by simp at hi; exact Array.getElem?_eq_getElem hi)
    have hi2 : i < xs.length := by simp at hi; omega
    rw [List.getElem?_eq_getElem hi2] at h1
    exact ⟨_, by simpa using h1⟩)
  refine ⟨a, ?_, hok⟩
  rwa [List.drop_zero, ← hc, ← hl, List.take_length] at ha
theorem agg_of {cs : Array Value} {L : List Value} (h : cs.toList = L) : cs = L.toArray := by rw [← h]
end Go.Proofs.YtaieobidkmihkaaW.Mine


-- written by wip/gen_law.py
namespace Go.Proofs.Ytaieobidkmihkaa.P
open Go.RowKit Go.Proofs.YtaieobidkmihkaaW.PrintWords Go.Proofs.YtaieobidkmihkaaW.PrintLast Go.Proofs.YtaieobidkmihkaaW.PrintMore Go.Proofs.YtaieobidkmihkaaW.Mine
open List (setIfInBounds_toArray set_cons_zero set_cons_succ)
attribute [local go_sem] max2_int min2_int max_two min_two max_three min_three max_four min_four
set_option linter.unusedVariables false
set_option linter.unusedSimpArgs false
set_option maxHeartbeats 8000000 in
set_option maxRecDepth 100000 in
theorem FnExactStraightRing_run0 (A0_0 : Option Addr) (c0_0 : Nat) (l0_0 : List (List Int)) (a1_0 : Int) (a1_1 : Int) (a1_2 : Int) (a1_3 : Int) (a1_4 : Int) (a1_5 : Int) (r1_0 : Int) (w : World) (hr0_0 : Kd.C (Kd.slice 5 (Kd.int .u8)) w A0_0 l0_0.length l0_0) (hc0_0 : l0_0.length ≤ c0_0) (H1 : ∃ k, laws_szMemory.f k l0_0 1048576 = some r1_0) (P_ : r1_0 < 0) :
    Calls Try.prog 4 #[.agg #[.slice A0_0 l0_0.length c0_0], .agg #[.int .i64 a1_0, .int .i64 a1_1, .int .i64 a1_2, .int .i64 a1_3, .int .i64 a1_4, .int .i64 a1_5]] w fun e w' => e = .returned (.bool true) ∧ Below w.heap.size w w' := by
  have HR0_0 := Aside0.mk hr0_0; have HC0_0 := Aside0.mk hc0_0; clear hr0_0 hc0_0
  obtain ⟨k, H1_⟩ := H1; have H1 := Aside0.mk H1_; clear H1_
  have Pb_ : decide (r1_0 < 0) = true := decide_eq_true P_; clear P_
  have HS0 : Aside0 (Stk w [] w) := ⟨Stk.nil w⟩
  go_enter Try.func4, Try.ntmps4
  refine reg (aF := ?_) (nw := ?_) [evB 0 2 [] 24 (fun s => #[.slice A0_0 l0_0.length c0_0]) 9999 [] (fun s => #[.slice A0_0 l0_0.length c0_0]), evB 1 3 [] 28 (fun s => #[.int .i64 a1_0, .int .i64 a1_1, .int .i64 a1_2, .int .i64 a1_3, .int .i64 a1_4, .int .i64 a1_5]) 9999 [] (fun s => #[.int .i64 a1_0, .int .i64 a1_1, .int .i64 a1_2, .int .i64 a1_3, .int .i64 a1_4, .int .i64 a1_5]), evP 2 4 [] (fun s => .bool false)] [] [] false 3 rfl rfl (by kernel_rfl) rfl (mf0) ?aF ?nw HS0.out ?hs ?_
  rotate_left 2
  case aF => intro s; simp only [putE, EvT.val, Act.put, setIfInBounds_toArray, set_cons_zero, set_cons_succ]; rfl
  case nw => intro s; simp only [thA, bsA, List.nil_append, List.cons_append, List.append_nil, if_true, if_false, Nat.reduceLT, set_cons_zero, set_cons_succ]; rfl
  case hs => exact ⟨bv rfl (fun s w => by go_simp; try rfl), bv rfl (fun s w => by go_simp; try rfl), pu rfl, trivial⟩
  intro s1 w1 h; have HS1 := Aside0.mk h; clear h HS0
  refine tl0 ?_
  refine reg0 (aF := ?_) [] [0] false 1 rfl rfl (by kernel_rfl) rfl (fun _ => rfl) ?aF HS1.out ?hs ?_
  rotate_left 1
  case aF => intro s; simp only [putE, EvT.val, Act.put, setIfInBounds_toArray, set_cons_zero, set_cons_succ]; rfl
  case hs => exact trivial
  intro s2 w2 h; have HS2 := Aside0.mk h; clear h HS1
  refine tlP (v := .int .i64 1048576) 5 rfl ?_
  refine tl0 ?_
  refine reg0 (aF := ?_) [evL 0 19 [] (fun s => .agg #[.slice A0_0 l0_0.length c0_0]), evP 1 20 [] (fun s => .int .i64 1048576), evC 2 (some 21) [] (fun s x => .int .i64 r1_0) (fun s x => [])] [3] false 4 rfl rfl (by kernel_rfl) rfl (fun _ => rfl) ?aF HS2.out ?hs ?_
  rotate_left 1
  case aF => intro s; simp only [putE, EvT.val, Act.put, setIfInBounds_toArray, set_cons_zero, set_cons_succ]; rfl
  case hs => exact ⟨ld rfl 0 (fun s => rfl) (fun s w h => by have h0 := h 0 _ rfl; clear h; go_simp; try rfl), pu rfl, cl rfl (fun s => #[.agg #[.slice A0_0 l0_0.length c0_0], .int .i64 1048576]) Try.func15 (fun s w1 h => (laws_szMemory.calls _ _ _ _ _ _ _ (Kd.C_below HR0_0.out h.hb) HC0_0.out H1.out).mono (by rintro e w2 ⟨rfl, hb⟩; exact fin0 hb)), trivial⟩
  intro s3 w3 h; have HS3 := Aside0.mk h; clear h HS2
  refine tlP (v := .int .i64 r1_0) 5 rfl ?_
  refine tl0 ?_
  refine wp_seq ?_
  refine reg0 (aF := ?_) [evP 0 22 [] (fun s => .int .i64 r1_0), evP 1 23 [] (fun s => .bool true)] [] false 2 rfl rfl (by kernel_rfl) rfl (fun _ => rfl) ?aF HS3.out ?hs ?_
  rotate_left 1
  case aF => intro s; simp only [putE, EvT.val, Act.put, setIfInBounds_toArray, set_cons_zero, set_cons_succ]; rfl
  case hs => exact ⟨pu rfl, pb (q := .lss) Pb_ rfl, trivial⟩
  intro s4 w4 h; have HS4 := Aside0.mk h; clear h HS3
  refine tl0 ?_
  refine wp_cond_true rfl ?_
  refine reg0 (aF := ?_) [] [0] false 1 rfl rfl (by kernel_rfl) rfl (fun _ => rfl) ?aF HS4.out ?hs ?_
  rotate_left 1
  case aF => intro s; simp only [putE, EvT.val, Act.put, setIfInBounds_toArray, set_cons_zero, set_cons_succ]; rfl
  case hs => exact trivial
  intro s5 w5 h; have HS5 := Aside0.mk h; clear h HS4
  refine tlP (v := .bool true) 4 rfl ?_
  refine tl0 ?_
  refine wp_ret ?_
  go_ret
  exact ⟨by first | rfl | simp, HS5.out.hb⟩
set_option maxHeartbeats 8000000 in
set_option maxRecDepth 100000 in
theorem FnExactStraightRing_run (A0_0 : Option Addr) (c0_0 : Nat) (l0_0 : List (List Int)) (a1_0 : Int) (a1_1 : Int) (a1_2 : Int) (a1_3 : Int) (a1_4 : Int) (a1_5 : Int) (r1_0 : Int) (r2_0 : List (List Int)) (r3_0 : Int) (r3_1 : Int) (r3_2 : Int) (r3_3 : Int) (r3_4 : Int) (r3_5 : Int) (r4_0 : List (List Int)) (r4_1 : Int) (r4_2 : Int) (r4_3 : Int) (r4_4 : Int) (r4_5 : Int) (r4_6 : Int) (r4_7 : Bool) (r9_0 : Int) (r9_1 : List (List Int)) (r10_0 : Int) (r10_1 : List (List Int)) (w : World) (hr0_0 : Kd.C (Kd.slice 5 (Kd.int .u8)) w A0_0 l0_0.length l0_0) (hc0_0 : l0_0.length ≤ c0_0) (H1 : ∃ k, laws_szMemory.f k l0_0 1048576 = some r1_0) (H2 : laws_toMemory.f l0_0 = some r2_0) (H3 : laws_toRing.f a1_0 a1_1 a1_2 a1_3 a1_4 a1_5 = some (r3_0, r3_1, r3_2, r3_3, r3_4, r3_5)) (H4 : spec_StraightRing.f r2_0 r3_0 r3_1 r3_2 r3_3 r3_4 r3_5 = some (r4_0, r4_1, r4_2, r4_3, r4_4, r4_5, r4_6, r4_7)) (H5 : impl_StraightRing.f r2_0 r3_0 r3_1 r3_2 r3_3 r3_4 r3_5 = some (r4_0, r4_1, r4_2, r4_3, r4_4, r4_5, r4_6, r4_7)) (H6 : ∃ k, laws_eqMemory.f k r4_0 r4_0 = some true) (H7 : laws_eqRing.f r4_1 r4_2 r4_3 r4_4 r4_5 r4_6 r4_1 r4_2 r4_3 r4_4 r4_5 r4_6 = some true) (H8 : ∃ k, laws_eqMemory.f k r2_0 r2_0 = some true) (H9 : laws_markMemory.f r2_0 1 = some (r9_0, r9_1)) (H10 : laws_markMemory.f r4_0 1 = some (r10_0, r10_1)) (H11 : ∃ k, laws_heldMemory.f k r10_1 1 = some r10_0) (N_r10_0 : ¬ r10_0 < 0) (N_r1_0 : ¬ r1_0 < 0) (N_r9_0 : ¬ r9_0 < 0) :
    Calls Try.prog 4 #[.agg #[.slice A0_0 l0_0.length c0_0], .agg #[.int .i64 a1_0, .int .i64 a1_1, .int .i64 a1_2, .int .i64 a1_3, .int .i64 a1_4, .int .i64 a1_5]] w fun e w' => e = .returned (.bool true) ∧ Below w.heap.size w w' := by
  have HR0_0 := Aside0.mk hr0_0; have HC0_0 := Aside0.mk hc0_0; clear hr0_0 hc0_0
  obtain ⟨k, H1_⟩ := H1; have H1 := Aside0.mk H1_; clear H1_
  have H2_ := Aside0.mk H2; clear H2; have H2 := H2_; clear H2_
  have H3_ := Aside0.mk H3; clear H3; have H3 := H3_; clear H3_
  have H4_ := Aside0.mk H4; clear H4; have H4 := H4_; clear H4_
  have H5_ := Aside0.mk H5; clear H5; have H5 := H5_; clear H5_
  obtain ⟨k, H6_⟩ := H6; have H6 := Aside0.mk H6_; clear H6_
  have H7_ := Aside0.mk H7; clear H7; have H7 := H7_; clear H7_
  obtain ⟨k, H8_⟩ := H8; have H8 := Aside0.mk H8_; clear H8_
  have H9_ := Aside0.mk H9; clear H9; have H9 := H9_; clear H9_
  have H10_ := Aside0.mk H10; clear H10; have H10 := H10_; clear H10_
  obtain ⟨k, H11_⟩ := H11; have H11 := Aside0.mk H11_; clear H11_
  have Nb_r10_0 : decide (r10_0 < 0) = false := decide_eq_false N_r10_0; clear N_r10_0
  have Nb_r1_0 : decide (r1_0 < 0) = false := decide_eq_false N_r1_0; clear N_r1_0
  have Nb_r9_0 : decide (r9_0 < 0) = false := decide_eq_false N_r9_0; clear N_r9_0
  have HS0 : Aside0 (Stk w [] w) := ⟨Stk.nil w⟩
  go_enter Try.func4, Try.ntmps4
  refine reg (aF := ?_) (nw := ?_) [evB 0 2 [] 24 (fun s => #[.slice A0_0 l0_0.length c0_0]) 9999 [] (fun s => #[.slice A0_0 l0_0.length c0_0]), evB 1 3 [] 28 (fun s => #[.int .i64 a1_0, .int .i64 a1_1, .int .i64 a1_2, .int .i64 a1_3, .int .i64 a1_4, .int .i64 a1_5]) 9999 [] (fun s => #[.int .i64 a1_0, .int .i64 a1_1, .int .i64 a1_2, .int .i64 a1_3, .int .i64 a1_4, .int .i64 a1_5]), evP 2 4 [] (fun s => .bool false)] [] [] false 3 rfl rfl (by kernel_rfl) rfl (mf0) ?aF ?nw HS0.out ?hs ?_
  rotate_left 2
  case aF => intro s; simp only [putE, EvT.val, Act.put, setIfInBounds_toArray, set_cons_zero, set_cons_succ]; rfl
  case nw => intro s; simp only [thA, bsA, List.nil_append, List.cons_append, List.append_nil, if_true, if_false, Nat.reduceLT, set_cons_zero, set_cons_succ]; rfl
  case hs => exact ⟨bv rfl (fun s w => by go_simp; try rfl), bv rfl (fun s w => by go_simp; try rfl), pu rfl, trivial⟩
  intro s1 w1 h; have HS1 := Aside0.mk h; clear h HS0
  refine tl0 ?_
  refine reg0 (aF := ?_) [] [0] false 1 rfl rfl (by kernel_rfl) rfl (fun _ => rfl) ?aF HS1.out ?hs ?_
  rotate_left 1
  case aF => intro s; simp only [putE, EvT.val, Act.put, setIfInBounds_toArray, set_cons_zero, set_cons_succ]; rfl
  case hs => exact trivial
  intro s2 w2 h; have HS2 := Aside0.mk h; clear h HS1
  refine tlP (v := .int .i64 1048576) 5 rfl ?_
  refine tl0 ?_
  refine reg0 (aF := ?_) [evL 0 19 [] (fun s => .agg #[.slice A0_0 l0_0.length c0_0]), evP 1 20 [] (fun s => .int .i64 1048576), evC 2 (some 21) [] (fun s x => .int .i64 r1_0) (fun s x => [])] [3] false 4 rfl rfl (by kernel_rfl) rfl (fun _ => rfl) ?aF HS2.out ?hs ?_
  rotate_left 1
  case aF => intro s; simp only [putE, EvT.val, Act.put, setIfInBounds_toArray, set_cons_zero, set_cons_succ]; rfl
  case hs => exact ⟨ld rfl 0 (fun s => rfl) (fun s w h => by have h0 := h 0 _ rfl; clear h; go_simp; try rfl), pu rfl, cl rfl (fun s => #[.agg #[.slice A0_0 l0_0.length c0_0], .int .i64 1048576]) Try.func15 (fun s w1 h => (laws_szMemory.calls _ _ _ _ _ _ _ (Kd.C_below HR0_0.out h.hb) HC0_0.out H1.out).mono (by rintro e w2 ⟨rfl, hb⟩; exact fin0 hb)), trivial⟩
  intro s3 w3 h; have HS3 := Aside0.mk h; clear h HS2
  refine tlP (v := .int .i64 r1_0) 5 rfl ?_
  refine tl0 ?_
  refine wp_seq ?_
  refine reg0 (aF := ?_) [evP 0 22 [] (fun s => .int .i64 r1_0), evP 1 23 [] (fun s => .bool false)] [] false 2 rfl rfl (by kernel_rfl) rfl (fun _ => rfl) ?aF HS3.out ?hs ?_
  rotate_left 1
  case aF => intro s; simp only [putE, EvT.val, Act.put, setIfInBounds_toArray, set_cons_zero, set_cons_succ]; rfl
  case hs => exact ⟨pu rfl, pb (q := .lss) Nb_r1_0 rfl, trivial⟩
  intro s4 w4 h; have HS4 := Aside0.mk h; clear h HS3
  refine tl0 ?_
  refine wp_cond_false rfl ?_
  refine wp_skip ?_
  refine thN ?_
  refine reg (aF := ?_) (nw := ?_) [evL 0 25 [] (fun s => .agg #[.slice A0_0 l0_0.length c0_0]), evC 1 (some 26) [] (fun s x => .agg #[.slice x.A r2_0.length x.c]) (fun s x => [rowS (Kd.slice 5 (Kd.int .u8)) 29 w x.lo x.hi x.A x.c r2_0]), evL 2 27 [] (fun s => .agg #[.int .i64 a1_0, .int .i64 a1_1, .int .i64 a1_2, .int .i64 a1_3, .int .i64 a1_4, .int .i64 a1_5]), evC 3 (some 28) [] (fun s x => .agg #[.int .i64 r3_0, .int .i64 r3_1, .int .i64 r3_2, .int .i64 r3_3, .int .i64 r3_4, .int .i64 r3_5]) (fun s x => []), evC 4 (some 29) [1] (fun s x => .tuple #[.agg #[.slice x.A r4_0.length x.c], .agg #[.int .i64 r4_1, .int .i64 r4_2, .int .i64 r4_3, .int .i64 r4_4, .int .i64 r4_5, .int .i64 r4_6], .bool r4_7]) (fun s x => [rowS (Kd.slice 5 (Kd.int .u8)) 29 w x.lo x.hi x.A x.c r4_0]), evP 5 24 [4] (fun s => .tuple #[.agg #[.slice (s 4).A r4_0.length (s 4).c], .agg #[.int .i64 r4_1, .int .i64 r4_2, .int .i64 r4_3, .int .i64 r4_4, .int .i64 r4_5, .int .i64 r4_6], .bool r4_7]), evP 6 30 [4] (fun s => .agg #[.slice (s 4).A r4_0.length (s 4).c]), evP 7 31 [] (fun s => .agg #[.int .i64 r4_1, .int .i64 r4_2, .int .i64 r4_3, .int .i64 r4_4, .int .i64 r4_5, .int .i64 r4_6]), evP 8 32 [] (fun s => .bool r4_7), evB 9 6 [] 31 (fun s => #[.slice none 0 0]) 11 [4] (fun s => #[.slice (s 4).A r4_0.length (s 4).c]), evB 10 7 [] 34 (fun s => #[.int .i64 0, .int .i64 0, .int .i64 0, .int .i64 0, .int .i64 0, .int .i64 0]) 12 [] (fun s => #[.int .i64 r4_1, .int .i64 r4_2, .int .i64 r4_3, .int .i64 r4_4, .int .i64 r4_5, .int .i64 r4_6]), evS 11, evS 12] [13] [] true 14 rfl rfl (by kernel_rfl) rfl (mf0) ?aF ?nw HS4.out ?hs ?_
  rotate_left 2
  case aF => intro s; simp only [putE, EvT.val, Act.put, setIfInBounds_toArray, set_cons_zero, set_cons_succ]; rfl
  case nw => intro s; simp only [thA, bsA, List.nil_append, List.cons_append, List.append_nil, if_true, if_false, Nat.reduceLT, set_cons_zero, set_cons_succ]; rfl
  case hs => exact ⟨ld rfl 0 (fun s => rfl) (fun s w h => by have h0 := h 0 _ rfl; clear h; go_simp; try rfl), cl rfl (fun s => #[.agg #[.slice A0_0 l0_0.length c0_0]]) Try.func17 (fun s w1 h => (laws_toMemory.calls _ _ _ _ _ (Kd.C_below HR0_0.out h.hb) HC0_0.out H2.out).mono (by rintro e w2 ⟨v0_, rfl, ho0, hb⟩; obtain ⟨x, rfl, hx⟩ := fin_S ho0 hb h.hb.size; exact ⟨x, rfl, hx⟩)), ld rfl 1 (fun s => rfl) (fun s w h => by have h0 := h 0 _ rfl; have h1 := h 1 _ rfl; have h2 := h 2 _ rfl; have h3 := h 3 _ rfl; have h4 := h 4 _ rfl; have h5 := h 5 _ rfl; clear h; go_simp; try rfl), cl rfl (fun s => #[.agg #[.int .i64 a1_0, .int .i64 a1_1, .int .i64 a1_2, .int .i64 a1_3, .int .i64 a1_4, .int .i64 a1_5]]) Try.func18 (fun s w1 h => (laws_toRing.calls _ _ _ _ _ _ _ _ _ _ _ _ _ H3.out).mono (by rintro e w2 ⟨rfl, hb⟩; exact fin0 hb)), cl rfl (fun s => #[.agg #[.slice (s 1).A r2_0.length (s 1).c], .agg #[.int .i64 r3_0, .int .i64 r3_1, .int .i64 r3_2, .int .i64 r3_3, .int .i64 r3_4, .int .i64 r3_5]]) Try.func27 (fun s w1 h => (spec_StraightRing.calls _ _ _ _ _ _ _ _ _ _ _ _ _ _ _ _ _ _ (Kd.S_reads' (h.get 0 rfl)).2.2 (Kd.S_reads' (h.get 0 rfl)).2.1 H4.out).mono (by rintro e w2 ⟨v0_, rfl, ho0, hb⟩; obtain ⟨x, rfl, hx⟩ := fin_S ho0 hb h.hb.size; exact ⟨x, rfl, hx⟩)), pu rfl, pu rfl, pu rfl, pu rfl, bv rfl (fun s w => by go_simp; try rfl), bv rfl (fun s w => by go_simp; try rfl), st rfl 9 0 (fun s => [.slice (s 4).A r4_0.length (s 4).c]) rfl (fun s w h hf => by have h0 := h 0 _ rfl; have f0 := hf 0; clear h hf; go_simp; try rfl), st rfl 10 0 (fun s => [.int .i64 r4_1, .int .i64 r4_2, .int .i64 r4_3, .int .i64 r4_4, .int .i64 r4_5, .int .i64 r4_6]) rfl (fun s w h hf => by have h0 := h 0 _ rfl; have f0 := hf 0; have h1 := h 1 _ rfl; have f1 := hf 1; have h2 := h 2 _ rfl; have f2 := hf 2; have h3 := h 3 _ rfl; have f3 := hf 3; have h4 := h 4 _ rfl; have f4 := hf 4; have h5 := h 5 _ rfl; have f5 := hf 5; clear h hf; go_simp; try rfl), trivial⟩
  intro s5 w5 h; have HS5 := Aside0.mk h; clear h HS4
  refine tlP (v := .bool r4_7) 8 rfl ?_
  refine tl0 ?_
  refine reg (aF := ?_) (nw := ?_) [evL 0 33 [] (fun s => .agg #[.slice A0_0 l0_0.length c0_0]), evC 1 (some 34) [] (fun s x => .agg #[.slice x.A r2_0.length x.c]) (fun s x => [rowS (Kd.slice 5 (Kd.int .u8)) 29 w x.lo x.hi x.A x.c r2_0]), evB 2 9 [] 31 (fun s => #[.slice none 0 0]) 3 [1] (fun s => #[.slice (s 1).A r2_0.length (s 1).c]), evS 3] [] [] false 4 rfl rfl (by kernel_rfl) rfl (mf0) ?aF ?nw HS5.out ?hs ?_
  rotate_left 2
  case aF => intro s; simp only [putE, EvT.val, Act.put, setIfInBounds_toArray, set_cons_zero, set_cons_succ]; rfl
  case nw => intro s; simp only [thA, bsA, List.nil_append, List.cons_append, List.append_nil, if_true, if_false, Nat.reduceLT, set_cons_zero, set_cons_succ]; rfl
  case hs => exact ⟨ld rfl 4 (fun s => rfl) (fun s w h => by have h0 := h 0 _ rfl; clear h; go_simp; try rfl), cl rfl (fun s => #[.agg #[.slice A0_0 l0_0.length c0_0]]) Try.func17 (fun s w1 h => (laws_toMemory.calls _ _ _ _ _ (Kd.C_below HR0_0.out h.hb) HC0_0.out H2.out).mono (by rintro e w2 ⟨v0_, rfl, ho0, hb⟩; obtain ⟨x, rfl, hx⟩ := fin_S ho0 hb h.hb.size; exact ⟨x, rfl, hx⟩)), bv rfl (fun s w => by go_simp; try rfl), st rfl 2 0 (fun s => [.slice (s 1).A r2_0.length (s 1).c]) rfl (fun s w h hf => by have h0 := h 0 _ rfl; have f0 := hf 0; clear h hf; go_simp; try rfl), trivial⟩
  intro s6 w6 h; have HS6 := Aside0.mk h; clear h HS5
  refine tl0 ?_
  refine reg (aF := ?_) (nw := ?_) [evR 0 36 1 (fun s => .agg #[.slice (s6 1).A r2_0.length (s6 1).c]), evL 1 37 [] (fun s => .agg #[.int .i64 a1_0, .int .i64 a1_1, .int .i64 a1_2, .int .i64 a1_3, .int .i64 a1_4, .int .i64 a1_5]), evC 2 (some 38) [] (fun s x => .agg #[.int .i64 r3_0, .int .i64 r3_1, .int .i64 r3_2, .int .i64 r3_3, .int .i64 r3_4, .int .i64 r3_5]) (fun s x => []), evC 3 (some 39) [] (fun s x => .tuple #[.agg #[.slice x.A r4_0.length x.c], .agg #[.int .i64 r4_1, .int .i64 r4_2, .int .i64 r4_3, .int .i64 r4_4, .int .i64 r4_5, .int .i64 r4_6], .bool r4_7]) (fun s x => [rowS (Kd.slice 5 (Kd.int .u8)) 29 w x.lo x.hi x.A x.c r4_0]), evP 4 35 [3] (fun s => .tuple #[.agg #[.slice (s 3).A r4_0.length (s 3).c], .agg #[.int .i64 r4_1, .int .i64 r4_2, .int .i64 r4_3, .int .i64 r4_4, .int .i64 r4_5, .int .i64 r4_6], .bool r4_7]), evP 5 40 [3] (fun s => .agg #[.slice (s 3).A r4_0.length (s 3).c]), evP 6 41 [] (fun s => .agg #[.int .i64 r4_1, .int .i64 r4_2, .int .i64 r4_3, .int .i64 r4_4, .int .i64 r4_5, .int .i64 r4_6]), evP 7 42 [] (fun s => .bool r4_7), evB 8 10 [] 31 (fun s => #[.slice none 0 0]) 10 [3] (fun s => #[.slice (s 3).A r4_0.length (s 3).c]), evB 9 11 [] 34 (fun s => #[.int .i64 0, .int .i64 0, .int .i64 0, .int .i64 0, .int .i64 0, .int .i64 0]) 11 [] (fun s => #[.int .i64 r4_1, .int .i64 r4_2, .int .i64 r4_3, .int .i64 r4_4, .int .i64 r4_5, .int .i64 r4_6]), evS 10, evS 11] [12] [] true 13 rfl rfl (by kernel_rfl) rfl (mf0) ?aF ?nw HS6.out ?hs ?_
  rotate_left 2
  case aF => intro s; simp only [putE, EvT.val, Act.put, setIfInBounds_toArray, set_cons_zero, set_cons_succ]; rfl
  case nw => intro s; simp only [thA, bsA, List.nil_append, List.cons_append, List.append_nil, if_true, if_false, Nat.reduceLT, set_cons_zero, set_cons_succ]; rfl
  case hs => exact ⟨lr rfl 1 rfl (fun s w h => by have h0 := h 0 _ rfl; clear h; go_simp; try rfl), ld rfl 7 (fun s => rfl) (fun s w h => by have h0 := h 0 _ rfl; have h1 := h 1 _ rfl; have h2 := h 2 _ rfl; have h3 := h 3 _ rfl; have h4 := h 4 _ rfl; have h5 := h 5 _ rfl; clear h; go_simp; try rfl), cl rfl (fun s => #[.agg #[.int .i64 a1_0, .int .i64 a1_1, .int .i64 a1_2, .int .i64 a1_3, .int .i64 a1_4, .int .i64 a1_5]]) Try.func18 (fun s w1 h => (laws_toRing.calls _ _ _ _ _ _ _ _ _ _ _ _ _ H3.out).mono (by rintro e w2 ⟨rfl, hb⟩; exact fin0 hb)), cl rfl (fun s => #[.agg #[.slice (s6 1).A r2_0.length (s6 1).c], .agg #[.int .i64 r3_0, .int .i64 r3_1, .int .i64 r3_2, .int .i64 r3_3, .int .i64 r3_4, .int .i64 r3_5]]) Try.func28 (fun s w1 h => (impl_StraightRing.calls _ _ _ _ _ _ _ _ _ _ _ _ _ _ _ _ _ _ (Kd.S_reads' (h.get 0 rfl)).2.2 (Kd.S_reads' (h.get 0 rfl)).2.1 H5.out).mono (by rintro e w2 ⟨v0_, rfl, ho0, hb⟩; obtain ⟨x, rfl, hx⟩ := fin_S ho0 hb h.hb.size; exact ⟨x, rfl, hx⟩)), pu rfl, pu rfl, pu rfl, pu rfl, bv rfl (fun s w => by go_simp; try rfl), bv rfl (fun s w => by go_simp; try rfl), st rfl 8 0 (fun s => [.slice (s 3).A r4_0.length (s 3).c]) rfl (fun s w h hf => by have h0 := h 0 _ rfl; have f0 := hf 0; clear h hf; go_simp; try rfl), st rfl 9 0 (fun s => [.int .i64 r4_1, .int .i64 r4_2, .int .i64 r4_3, .int .i64 r4_4, .int .i64 r4_5, .int .i64 r4_6]) rfl (fun s w h hf => by have h0 := h 0 _ rfl; have f0 := hf 0; have h1 := h 1 _ rfl; have f1 := hf 1; have h2 := h 2 _ rfl; have f2 := hf 2; have h3 := h 3 _ rfl; have f3 := hf 3; have h4 := h 4 _ rfl; have f4 := hf 4; have h5 := h 5 _ rfl; have f5 := hf 5; clear h hf; go_simp; try rfl), trivial⟩
  intro s7 w7 h; have HS7 := Aside0.mk h; clear h HS6
  refine tlP (v := .bool r4_7) 12 rfl ?_
  refine tl0 ?_
  refine wp_seq ?_
  refine reg0 (aF := ?_) [evL 0 43 [] (fun s => .agg #[.slice (s7 3).A r4_0.length (s7 3).c]), evL 1 44 [] (fun s => .agg #[.slice (s5 4).A r4_0.length (s5 4).c]), evC 2 (some 45) [] (fun s x => .bool true) (fun s x => []), evP 3 46 [] (fun s => .bool false), evP 4 47 [] (fun s => .bool false), evL 5 48 [] (fun s => .agg #[.int .i64 r4_1, .int .i64 r4_2, .int .i64 r4_3, .int .i64 r4_4, .int .i64 r4_5, .int .i64 r4_6]), evL 6 49 [] (fun s => .agg #[.int .i64 r4_1, .int .i64 r4_2, .int .i64 r4_3, .int .i64 r4_4, .int .i64 r4_5, .int .i64 r4_6]), evC 7 (some 50) [] (fun s x => .bool true) (fun s x => []), evP 8 51 [] (fun s => .bool false), evP 9 52 [] (fun s => .bool false), evP 10 53 [] (fun s => .bool false), evP 11 54 [] (fun s => .bool r4_7), evP 12 55 [] (fun s => .bool r4_7), evP 13 56 [] (fun s => .bool false), evP 14 57 [] (fun s => .bool false)] [] false 15 rfl rfl (by kernel_rfl) rfl (fun _ => rfl) ?aF HS7.out ?hs ?_
  rotate_left 1
  case aF => intro s; simp only [putE, EvT.val, Act.put, setIfInBounds_toArray, set_cons_zero, set_cons_succ]; rfl
  case hs => exact ⟨ld rfl 1 (fun s => rfl) (fun s w h => by have h0 := h 0 _ rfl; clear h; go_simp; try rfl), ld rfl 7 (fun s => rfl) (fun s w h => by have h0 := h 0 _ rfl; clear h; go_simp; try rfl), cl rfl (fun s => #[.agg #[.slice (s7 3).A r4_0.length (s7 3).c], .agg #[.slice (s5 4).A r4_0.length (s5 4).c]]) Try.func21 (fun s w1 h => (laws_eqMemory.calls _ _ _ _ _ _ _ _ _ (Kd.S_reads' (h.get 0 rfl)).2.2 (Kd.S_reads' (h.get 0 rfl)).2.1 (Kd.S_reads' (h.get 6 rfl)).2.2 (Kd.S_reads' (h.get 6 rfl)).2.1 H6.out).mono (by rintro e w2 ⟨rfl, hb⟩; exact fin0 hb)), pu rfl, pu rfl, ld rfl 2 (fun s => rfl) (fun s w h => by have h0 := h 0 _ rfl; have h1 := h 1 _ rfl; have h2 := h 2 _ rfl; have h3 := h 3 _ rfl; have h4 := h 4 _ rfl; have h5 := h 5 _ rfl; clear h; go_simp; try rfl), ld rfl 8 (fun s => rfl) (fun s w h => by have h0 := h 0 _ rfl; have h1 := h 1 _ rfl; have h2 := h 2 _ rfl; have h3 := h 3 _ rfl; have h4 := h 4 _ rfl; have h5 := h 5 _ rfl; clear h; go_simp; try rfl), cl rfl (fun s => #[.agg #[.int .i64 r4_1, .int .i64 r4_2, .int .i64 r4_3, .int .i64 r4_4, .int .i64 r4_5, .int .i64 r4_6], .agg #[.int .i64 r4_1, .int .i64 r4_2, .int .i64 r4_3, .int .i64 r4_4, .int .i64 r4_5, .int .i64 r4_6]]) Try.func22 (fun s w1 h => (laws_eqRing.calls _ _ _ _ _ _ _ _ _ _ _ _ _ _ H7.out).mono (by rintro e w2 ⟨rfl, hb⟩; exact fin0 hb)), pu rfl, pu rfl, pu rfl, pu rfl, pu rfl, pn Try.underlying4 rfl, pu rfl, trivial⟩
  intro s8 w8 h; have HS8 := Aside0.mk h; clear h HS7
  refine tl0 ?_
  refine wp_cond_false rfl ?_
  refine wp_skip ?_
  refine thN ?_
  refine wp_seq ?_
  refine reg (aF := ?_) (nw := ?_) [evR 0 58 4 (fun s => .agg #[.slice (s6 1).A r2_0.length (s6 1).c]), evL 1 59 [] (fun s => .agg #[.slice A0_0 l0_0.length c0_0]), evC 2 (some 60) [] (fun s x => .agg #[.slice x.A r2_0.length x.c]) (fun s x => [rowS (Kd.slice 5 (Kd.int .u8)) 29 w x.lo x.hi x.A x.c r2_0]), evC 3 (some 61) [2] (fun s x => .bool true) (fun s x => []), evP 4 62 [] (fun s => .bool false)] [] [] true 5 rfl rfl (by kernel_rfl) rfl (mf0) ?aF ?nw HS8.out ?hs ?_
  rotate_left 2
  case aF => intro s; simp only [putE, EvT.val, Act.put, setIfInBounds_toArray, set_cons_zero, set_cons_succ]; rfl
  case nw => intro s; simp only [thA, bsA, List.nil_append, List.cons_append, List.append_nil, if_true, if_false, Nat.reduceLT, set_cons_zero, set_cons_succ]; rfl
  case hs => exact ⟨lr rfl 4 rfl (fun s w h => by have h0 := h 0 _ rfl; clear h; go_simp; try rfl), ld rfl 9 (fun s => rfl) (fun s w h => by have h0 := h 0 _ rfl; clear h; go_simp; try rfl), cl rfl (fun s => #[.agg #[.slice A0_0 l0_0.length c0_0]]) Try.func17 (fun s w1 h => (laws_toMemory.calls _ _ _ _ _ (Kd.C_below HR0_0.out h.hb) HC0_0.out H2.out).mono (by rintro e w2 ⟨v0_, rfl, ho0, hb⟩; obtain ⟨x, rfl, hx⟩ := fin_S ho0 hb h.hb.size; exact ⟨x, rfl, hx⟩)), cl rfl (fun s => #[.agg #[.slice (s6 1).A r2_0.length (s6 1).c], .agg #[.slice (s 2).A r2_0.length (s 2).c]]) Try.func21 (fun s w1 h => (laws_eqMemory.calls _ _ _ _ _ _ _ _ _ (Kd.S_reads' (h.get 4 rfl)).2.2 (Kd.S_reads' (h.get 4 rfl)).2.1 (Kd.S_reads' (h.get 0 rfl)).2.2 (Kd.S_reads' (h.get 0 rfl)).2.1 H8.out).mono (by rintro e w2 ⟨rfl, hb⟩; exact fin0 hb)), pu rfl, trivial⟩
  intro s9 w9 h; have HS9 := Aside0.mk h; clear h HS8
  refine tl0 ?_
  refine wp_cond_false rfl ?_
  refine wp_skip ?_
  refine thN ?_
  refine reg0 (aF := ?_) [] [0] false 1 rfl rfl (by kernel_rfl) rfl (fun _ => rfl) ?aF HS9.out ?hs ?_
  rotate_left 1
  case aF => intro s; simp only [putE, EvT.val, Act.put, setIfInBounds_toArray, set_cons_zero, set_cons_succ]; rfl
  case hs => exact trivial
  intro s10 w10 h; have HS10 := Aside0.mk h; clear h HS9
  refine tlP (v := .int .i64 1) 13 rfl ?_
  refine tl0 ?_
  refine reg (aF := ?_) (nw := ?_) [evL 0 63 [] (fun s => .agg #[.slice (s6 1).A r2_0.length (s6 1).c]), evP 1 64 [] (fun s => .int .i64 1), evW 2 (some 65) [] (fun s => .int .i64 r9_0)] [3] [⟨4, 2, [], fun s => ⟨(s6 1).lo, (s6 1).hi, fun w_ => Kd.S (Kd.slice 5 (Kd.int .u8)) 29 w_ w.heap.size (fun k_ => (s6 1).lo ≤ k_ ∧ k_ < (s6 1).hi) (.slice (s6 1).A r2_0.length (s6 1).c) r9_1⟩⟩] false 4 rfl rfl (by kernel_rfl) rfl ((mf1 mf0)) ?aF ?nw HS10.out ?hs ?_
  rotate_left 2
  case aF => intro s; simp only [putE, EvT.val, Act.put, setIfInBounds_toArray, set_cons_zero, set_cons_succ]; rfl
  case nw => intro s; simp only [thA, bsA, List.nil_append, List.cons_append, List.append_nil, if_true, if_false, Nat.reduceLT, set_cons_zero, set_cons_succ]; rfl
  case hs => exact ⟨ld rfl 5 (fun s => rfl) (fun s w h => by have h0 := h 0 _ rfl; clear h; go_simp; try rfl), pu rfl, cw rfl 0 4 rfl rfl (fun s => #[.agg #[.slice (s6 1).A r2_0.length (s6 1).c], .int .i64 1]) Try.func24 (fun s w1 h => (laws_markMemory.calls (fun k_ => (s6 1).lo ≤ k_ ∧ k_ < (s6 1).hi) _ _ _ _ _ w _ h.hb (h.get 0 rfl) H9.out).mono (by rintro e w2 ⟨rfl, ho0, hb, hk⟩; exact ⟨rfl, Wrote.of 0 h rfl hb hk (fun w_ ha => S_again ho0 ha)⟩)), trivial⟩
  intro s11 w11 h; have HS11 := Aside0.mk h; clear h HS10
  refine tlP (v := .int .i64 r9_0) 13 rfl ?_
  refine tl0 ?_
  refine wp_seq ?_
  refine reg0 (aF := ?_) [evP 0 66 [] (fun s => .int .i64 r9_0), evP 1 67 [] (fun s => .bool false), evP 2 68 [] (fun s => .bool false), evL 3 69 [] (fun s => .agg #[.slice (s7 3).A r4_0.length (s7 3).c]), evL 4 70 [] (fun s => .agg #[.slice (s5 4).A r4_0.length (s5 4).c]), evC 5 (some 71) [] (fun s x => .bool true) (fun s x => []), evP 6 72 [] (fun s => .bool false), evP 7 73 [] (fun s => .bool false), evP 8 74 [] (fun s => .bool false), evL 9 75 [] (fun s => .agg #[.int .i64 r4_1, .int .i64 r4_2, .int .i64 r4_3, .int .i64 r4_4, .int .i64 r4_5, .int .i64 r4_6]), evL 10 76 [] (fun s => .agg #[.int .i64 r4_1, .int .i64 r4_2, .int .i64 r4_3, .int .i64 r4_4, .int .i64 r4_5, .int .i64 r4_6]), evC 11 (some 77) [] (fun s x => .bool true) (fun s x => []), evP 12 78 [] (fun s => .bool false), evP 13 79 [] (fun s => .bool false), evP 14 80 [] (fun s => .bool false), evP 15 81 [] (fun s => .bool r4_7), evP 16 82 [] (fun s => .bool r4_7), evP 17 83 [] (fun s => .bool false), evP 18 84 [] (fun s => .bool false)] [] false 19 rfl rfl (by kernel_rfl) rfl (fun _ => rfl) ?aF HS11.out ?hs ?_
  rotate_left 1
  case aF => intro s; simp only [putE, EvT.val, Act.put, setIfInBounds_toArray, set_cons_zero, set_cons_succ]; rfl
  case hs => exact ⟨pu rfl, pb (q := .lss) Nb_r9_0 rfl, pu rfl, ld rfl 2 (fun s => rfl) (fun s w h => by have h0 := h 0 _ rfl; clear h; go_simp; try rfl), ld rfl 8 (fun s => rfl) (fun s w h => by have h0 := h 0 _ rfl; clear h; go_simp; try rfl), cl rfl (fun s => #[.agg #[.slice (s7 3).A r4_0.length (s7 3).c], .agg #[.slice (s5 4).A r4_0.length (s5 4).c]]) Try.func21 (fun s w1 h => (laws_eqMemory.calls _ _ _ _ _ _ _ _ _ (Kd.S_reads' (h.get 1 rfl)).2.2 (Kd.S_reads' (h.get 1 rfl)).2.1 (Kd.S_reads' (h.get 7 rfl)).2.2 (Kd.S_reads' (h.get 7 rfl)).2.1 H6.out).mono (by rintro e w2 ⟨rfl, hb⟩; exact fin0 hb)), pu rfl, pu rfl, pu rfl, ld rfl 3 (fun s => rfl) (fun s w h => by have h0 := h 0 _ rfl; have h1 := h 1 _ rfl; have h2 := h 2 _ rfl; have h3 := h 3 _ rfl; have h4 := h 4 _ rfl; have h5 := h 5 _ rfl; clear h; go_simp; try rfl), ld rfl 9 (fun s => rfl) (fun s w h => by have h0 := h 0 _ rfl; have h1 := h 1 _ rfl; have h2 := h 2 _ rfl; have h3 := h 3 _ rfl; have h4 := h 4 _ rfl; have h5 := h 5 _ rfl; clear h; go_simp; try rfl), cl rfl (fun s => #[.agg #[.int .i64 r4_1, .int .i64 r4_2, .int .i64 r4_3, .int .i64 r4_4, .int .i64 r4_5, .int .i64 r4_6], .agg #[.int .i64 r4_1, .int .i64 r4_2, .int .i64 r4_3, .int .i64 r4_4, .int .i64 r4_5, .int .i64 r4_6]]) Try.func22 (fun s w1 h => (laws_eqRing.calls _ _ _ _ _ _ _ _ _ _ _ _ _ _ H7.out).mono (by rintro e w2 ⟨rfl, hb⟩; exact fin0 hb)), pu rfl, pu rfl, pu rfl, pu rfl, pu rfl, pn Try.underlying4 rfl, pu rfl, trivial⟩
  intro s12 w12 h; have HS12 := Aside0.mk h; clear h HS11
  refine tl0 ?_
  refine wp_cond_false rfl ?_
  refine wp_skip ?_
  refine thN ?_
  refine reg0 (aF := ?_) [] [0] false 1 rfl rfl (by kernel_rfl) rfl (fun _ => rfl) ?aF HS12.out ?hs ?_
  rotate_left 1
  case aF => intro s; simp only [putE, EvT.val, Act.put, setIfInBounds_toArray, set_cons_zero, set_cons_succ]; rfl
  case hs => exact trivial
  intro s13 w13 h; have HS13 := Aside0.mk h; clear h HS12
  refine tlP (v := .int .i64 1) 14 rfl ?_
  refine tl0 ?_
  refine reg (aF := ?_) (nw := ?_) [evL 0 85 [] (fun s => .agg #[.slice (s7 3).A r4_0.length (s7 3).c]), evP 1 86 [] (fun s => .int .i64 1), evW 2 (some 87) [] (fun s => .int .i64 r10_0)] [3] [⟨1, 2, [], fun s => ⟨(s7 3).lo, (s7 3).hi, fun w_ => Kd.S (Kd.slice 5 (Kd.int .u8)) 29 w_ w.heap.size (fun k_ => (s7 3).lo ≤ k_ ∧ k_ < (s7 3).hi) (.slice (s7 3).A r4_0.length (s7 3).c) r10_1⟩⟩] false 4 rfl rfl (by kernel_rfl) rfl ((mf1 mf0)) ?aF ?nw HS13.out ?hs ?_
  rotate_left 2
  case aF => intro s; simp only [putE, EvT.val, Act.put, setIfInBounds_toArray, set_cons_zero, set_cons_succ]; rfl
  case nw => intro s; simp only [thA, bsA, List.nil_append, List.cons_append, List.append_nil, if_true, if_false, Nat.reduceLT, set_cons_zero, set_cons_succ]; rfl
  case hs => exact ⟨ld rfl 2 (fun s => rfl) (fun s w h => by have h0 := h 0 _ rfl; clear h; go_simp; try rfl), pu rfl, cw rfl 0 1 rfl rfl (fun s => #[.agg #[.slice (s7 3).A r4_0.length (s7 3).c], .int .i64 1]) Try.func24 (fun s w1 h => (laws_markMemory.calls (fun k_ => (s7 3).lo ≤ k_ ∧ k_ < (s7 3).hi) _ _ _ _ _ w _ h.hb (h.get 0 rfl) H10.out).mono (by rintro e w2 ⟨rfl, ho0, hb, hk⟩; exact ⟨rfl, Wrote.of 0 h rfl hb hk (fun w_ ha => S_again ho0 ha)⟩)), trivial⟩
  intro s14 w14 h; have HS14 := Aside0.mk h; clear h HS13
  refine tlP (v := .int .i64 r10_0) 14 rfl ?_
  refine tl0 ?_
  refine reg0 (aF := ?_) [] [0] false 1 rfl rfl (by kernel_rfl) rfl (fun _ => rfl) ?aF HS14.out ?hs ?_
  rotate_left 1
  case aF => intro s; simp only [putE, EvT.val, Act.put, setIfInBounds_toArray, set_cons_zero, set_cons_succ]; rfl
  case hs => exact trivial
  intro s15 w15 h; have HS15 := Aside0.mk h; clear h HS14
  refine tlP (v := .int .i64 1) 15 rfl ?_
  refine tl0 ?_
  refine reg0 (aF := ?_) [evL 0 88 [] (fun s => .agg #[.slice (s7 3).A r4_0.length (s7 3).c]), evP 1 89 [] (fun s => .int .i64 1), evC 2 (some 90) [] (fun s x => .int .i64 r10_0) (fun s x => [])] [3] false 4 rfl rfl (by kernel_rfl) rfl (fun _ => rfl) ?aF HS15.out ?hs ?_
  rotate_left 1
  case aF => intro s; simp only [putE, EvT.val, Act.put, setIfInBounds_toArray, set_cons_zero, set_cons_succ]; rfl
  case hs => exact ⟨ld rfl 2 (fun s => rfl) (fun s w h => by have h0 := h 0 _ rfl; clear h; go_simp; try rfl), pu rfl, cl rfl (fun s => #[.agg #[.slice (s7 3).A r4_0.length (s7 3).c], .int .i64 1]) Try.func26 (fun s w1 h => by rw [show r4_0.length = r10_1.length from (Kd.S_reads' (h.get 1 rfl)).1]; exact (laws_heldMemory.calls _ _ _ _ _ _ _ ((Kd.S_reads' (h.get 1 rfl)).1 ▸ (Kd.S_reads' (h.get 1 rfl)).2.2) ((Kd.S_reads' (h.get 1 rfl)).1 ▸ (Kd.S_reads' (h.get 1 rfl)).2.1) H11.out).mono (by rintro e w2 ⟨rfl, hb⟩; exact fin0 hb)), trivial⟩
  intro s16 w16 h; have HS16 := Aside0.mk h; clear h HS15
  refine tlP (v := .int .i64 r10_0) 15 rfl ?_
  refine tl0 ?_
  refine wp_seq ?_
  refine reg0 (aF := ?_) [evP 0 91 [] (fun s => .int .i64 r10_0), evP 1 92 [] (fun s => .bool false)] [] false 2 rfl rfl (by kernel_rfl) rfl (fun _ => rfl) ?aF HS16.out ?hs ?_
  rotate_left 1
  case aF => intro s; simp only [putE, EvT.val, Act.put, setIfInBounds_toArray, set_cons_zero, set_cons_succ]; rfl
  case hs => exact ⟨pu rfl, pb (q := .lss) Nb_r10_0 rfl, trivial⟩
  intro s17 w17 h; have HS17 := Aside0.mk h; clear h HS16
  refine tl0 ?_
  refine wp_cond_false rfl ?_
  refine wp_skip ?_
  refine thN ?_
  refine wp_seq ?_
  refine reg0 (aF := ?_) [evP 0 93 [] (fun s => .int .i64 r10_0), evP 1 94 [] (fun s => .int .i64 r10_0), evP 2 95 [] (fun s => .bool false)] [] false 3 rfl rfl (by kernel_rfl) rfl (fun _ => rfl) ?aF HS17.out ?hs ?_
  rotate_left 1
  case aF => intro s; simp only [putE, EvT.val, Act.put, setIfInBounds_toArray, set_cons_zero, set_cons_succ]; rfl
  case hs => exact ⟨pu rfl, pu rfl, pb (q := .neq) (bne_self_eq_false _) rfl, trivial⟩
  intro s18 w18 h; have HS18 := Aside0.mk h; clear h HS17
  refine tl0 ?_
  refine wp_cond_false rfl ?_
  refine wp_skip ?_
  refine thN ?_
  refine reg (aF := ?_) (nw := ?_) [evL 0 97 [] (fun s => .agg #[.slice A0_0 l0_0.length c0_0]), evC 1 (some 98) [] (fun s x => .agg #[.slice x.A r2_0.length x.c]) (fun s x => [rowS (Kd.slice 5 (Kd.int .u8)) 29 w x.lo x.hi x.A x.c r2_0]), evL 2 99 [] (fun s => .agg #[.int .i64 a1_0, .int .i64 a1_1, .int .i64 a1_2, .int .i64 a1_3, .int .i64 a1_4, .int .i64 a1_5]), evC 3 (some 100) [] (fun s x => .agg #[.int .i64 r3_0, .int .i64 r3_1, .int .i64 r3_2, .int .i64 r3_3, .int .i64 r3_4, .int .i64 r3_5]) (fun s x => []), evC 4 (some 101) [1] (fun s x => .tuple #[.agg #[.slice x.A r4_0.length x.c], .agg #[.int .i64 r4_1, .int .i64 r4_2, .int .i64 r4_3, .int .i64 r4_4, .int .i64 r4_5, .int .i64 r4_6], .bool r4_7]) (fun s x => [rowS (Kd.slice 5 (Kd.int .u8)) 29 w x.lo x.hi x.A x.c r4_0]), evP 5 96 [4] (fun s => .tuple #[.agg #[.slice (s 4).A r4_0.length (s 4).c], .agg #[.int .i64 r4_1, .int .i64 r4_2, .int .i64 r4_3, .int .i64 r4_4, .int .i64 r4_5, .int .i64 r4_6], .bool r4_7]), evP 6 102 [4] (fun s => .agg #[.slice (s 4).A r4_0.length (s 4).c]), evP 7 103 [] (fun s => .agg #[.int .i64 r4_1, .int .i64 r4_2, .int .i64 r4_3, .int .i64 r4_4, .int .i64 r4_5, .int .i64 r4_6]), evP 8 104 [] (fun s => .bool r4_7), evB 9 16 [] 31 (fun s => #[.slice none 0 0]) 11 [4] (fun s => #[.slice (s 4).A r4_0.length (s 4).c]), evB 10 17 [] 34 (fun s => #[.int .i64 0, .int .i64 0, .int .i64 0, .int .i64 0, .int .i64 0, .int .i64 0]) 12 [] (fun s => #[.int .i64 r4_1, .int .i64 r4_2, .int .i64 r4_3, .int .i64 r4_4, .int .i64 r4_5, .int .i64 r4_6]), evS 11, evS 12] [13] [] true 14 rfl rfl (by kernel_rfl) rfl (mf0) ?aF ?nw HS18.out ?hs ?_
  rotate_left 2
  case aF => intro s; simp only [putE, EvT.val, Act.put, setIfInBounds_toArray, set_cons_zero, set_cons_succ]; rfl
  case nw => intro s; simp only [thA, bsA, List.nil_append, List.cons_append, List.append_nil, if_true, if_false, Nat.reduceLT, set_cons_zero, set_cons_succ]; rfl
  case hs => exact ⟨ld rfl 10 (fun s => rfl) (fun s w h => by have h0 := h 0 _ rfl; clear h; go_simp; try rfl), cl rfl (fun s => #[.agg #[.slice A0_0 l0_0.length c0_0]]) Try.func17 (fun s w1 h => (laws_toMemory.calls _ _ _ _ _ (Kd.C_below HR0_0.out h.hb) HC0_0.out H2.out).mono (by rintro e w2 ⟨v0_, rfl, ho0, hb⟩; obtain ⟨x, rfl, hx⟩ := fin_S ho0 hb h.hb.size; exact ⟨x, rfl, hx⟩)), ld rfl 11 (fun s => rfl) (fun s w h => by have h0 := h 0 _ rfl; have h1 := h 1 _ rfl; have h2 := h 2 _ rfl; have h3 := h 3 _ rfl; have h4 := h 4 _ rfl; have h5 := h 5 _ rfl; clear h; go_simp; try rfl), cl rfl (fun s => #[.agg #[.int .i64 a1_0, .int .i64 a1_1, .int .i64 a1_2, .int .i64 a1_3, .int .i64 a1_4, .int .i64 a1_5]]) Try.func18 (fun s w1 h => (laws_toRing.calls _ _ _ _ _ _ _ _ _ _ _ _ _ H3.out).mono (by rintro e w2 ⟨rfl, hb⟩; exact fin0 hb)), cl rfl (fun s => #[.agg #[.slice (s 1).A r2_0.length (s 1).c], .agg #[.int .i64 r3_0, .int .i64 r3_1, .int .i64 r3_2, .int .i64 r3_3, .int .i64 r3_4, .int .i64 r3_5]]) Try.func28 (fun s w1 h => (impl_StraightRing.calls _ _ _ _ _ _ _ _ _ _ _ _ _ _ _ _ _ _ (Kd.S_reads' (h.get 0 rfl)).2.2 (Kd.S_reads' (h.get 0 rfl)).2.1 H5.out).mono (by rintro e w2 ⟨v0_, rfl, ho0, hb⟩; obtain ⟨x, rfl, hx⟩ := fin_S ho0 hb h.hb.size; exact ⟨x, rfl, hx⟩)), pu rfl, pu rfl, pu rfl, pu rfl, bv rfl (fun s w => by go_simp; try rfl), bv rfl (fun s w => by go_simp; try rfl), st rfl 9 0 (fun s => [.slice (s 4).A r4_0.length (s 4).c]) rfl (fun s w h hf => by have h0 := h 0 _ rfl; have f0 := hf 0; clear h hf; go_simp; try rfl), st rfl 10 0 (fun s => [.int .i64 r4_1, .int .i64 r4_2, .int .i64 r4_3, .int .i64 r4_4, .int .i64 r4_5, .int .i64 r4_6]) rfl (fun s w h hf => by have h0 := h 0 _ rfl; have f0 := hf 0; have h1 := h 1 _ rfl; have f1 := hf 1; have h2 := h 2 _ rfl; have f2 := hf 2; have h3 := h 3 _ rfl; have f3 := hf 3; have h4 := h 4 _ rfl; have f4 := hf 4; have h5 := h 5 _ rfl; have f5 := hf 5; clear h hf; go_simp; try rfl), trivial⟩
  intro s19 w19 h; have HS19 := Aside0.mk h; clear h HS18
  refine tlP (v := .bool r4_7) 18 rfl ?_
  refine tl0 ?_
  refine wp_seq ?_
  refine reg0 (aF := ?_) [evL 0 105 [] (fun s => .agg #[.slice (s19 4).A r4_0.length (s19 4).c]), evL 1 106 [] (fun s => .agg #[.slice (s5 4).A r4_0.length (s5 4).c]), evC 2 (some 107) [] (fun s x => .bool true) (fun s x => []), evP 3 108 [] (fun s => .bool false), evP 4 109 [] (fun s => .bool false), evL 5 110 [] (fun s => .agg #[.int .i64 r4_1, .int .i64 r4_2, .int .i64 r4_3, .int .i64 r4_4, .int .i64 r4_5, .int .i64 r4_6]), evL 6 111 [] (fun s => .agg #[.int .i64 r4_1, .int .i64 r4_2, .int .i64 r4_3, .int .i64 r4_4, .int .i64 r4_5, .int .i64 r4_6]), evC 7 (some 112) [] (fun s x => .bool true) (fun s x => []), evP 8 113 [] (fun s => .bool false), evP 9 114 [] (fun s => .bool false), evP 10 115 [] (fun s => .bool false), evP 11 116 [] (fun s => .bool r4_7), evP 12 117 [] (fun s => .bool r4_7), evP 13 118 [] (fun s => .bool false), evP 14 119 [] (fun s => .bool false)] [] false 15 rfl rfl (by kernel_rfl) rfl (fun _ => rfl) ?aF HS19.out ?hs ?_
  rotate_left 1
  case aF => intro s; simp only [putE, EvT.val, Act.put, setIfInBounds_toArray, set_cons_zero, set_cons_succ]; rfl
  case hs => exact ⟨ld rfl 2 (fun s => rfl) (fun s w h => by have h0 := h 0 _ rfl; clear h; go_simp; try rfl), ld rfl 12 (fun s => rfl) (fun s w h => by have h0 := h 0 _ rfl; clear h; go_simp; try rfl), cl rfl (fun s => #[.agg #[.slice (s19 4).A r4_0.length (s19 4).c], .agg #[.slice (s5 4).A r4_0.length (s5 4).c]]) Try.func21 (fun s w1 h => (laws_eqMemory.calls _ _ _ _ _ _ _ _ _ (Kd.S_reads' (h.get 1 rfl)).2.2 (Kd.S_reads' (h.get 1 rfl)).2.1 (Kd.S_reads' (h.get 11 rfl)).2.2 (Kd.S_reads' (h.get 11 rfl)).2.1 H6.out).mono (by rintro e w2 ⟨rfl, hb⟩; exact fin0 hb)), pu rfl, pu rfl, ld rfl 3 (fun s => rfl) (fun s w h => by have h0 := h 0 _ rfl; have h1 := h 1 _ rfl; have h2 := h 2 _ rfl; have h3 := h 3 _ rfl; have h4 := h 4 _ rfl; have h5 := h 5 _ rfl; clear h; go_simp; try rfl), ld rfl 13 (fun s => rfl) (fun s w h => by have h0 := h 0 _ rfl; have h1 := h 1 _ rfl; have h2 := h 2 _ rfl; have h3 := h 3 _ rfl; have h4 := h 4 _ rfl; have h5 := h 5 _ rfl; clear h; go_simp; try rfl), cl rfl (fun s => #[.agg #[.int .i64 r4_1, .int .i64 r4_2, .int .i64 r4_3, .int .i64 r4_4, .int .i64 r4_5, .int .i64 r4_6], .agg #[.int .i64 r4_1, .int .i64 r4_2, .int .i64 r4_3, .int .i64 r4_4, .int .i64 r4_5, .int .i64 r4_6]]) Try.func22 (fun s w1 h => (laws_eqRing.calls _ _ _ _ _ _ _ _ _ _ _ _ _ _ H7.out).mono (by rintro e w2 ⟨rfl, hb⟩; exact fin0 hb)), pu rfl, pu rfl, pu rfl, pu rfl, pu rfl, pn Try.underlying4 rfl, pu rfl, trivial⟩
  intro s20 w20 h; have HS20 := Aside0.mk h; clear h HS19
  refine tl0 ?_
  refine wp_cond_false rfl ?_
  refine wp_skip ?_
  refine thN ?_
  refine reg0 (aF := ?_) [] [0] false 1 rfl rfl (by kernel_rfl) rfl (fun _ => rfl) ?aF HS20.out ?hs ?_
  rotate_left 1
  case aF => intro s; simp only [putE, EvT.val, Act.put, setIfInBounds_toArray, set_cons_zero, set_cons_succ]; rfl
  case hs => exact trivial
  intro s21 w21 h; have HS21 := Aside0.mk h; clear h HS20
  refine tlP (v := .int .i64 1) 15 rfl ?_
  refine tl0 ?_
  refine reg0 (aF := ?_) [evL 0 120 [] (fun s => .agg #[.slice (s7 3).A r4_0.length (s7 3).c]), evP 1 121 [] (fun s => .int .i64 1), evC 2 (some 122) [] (fun s x => .int .i64 r10_0) (fun s x => [])] [3] false 4 rfl rfl (by kernel_rfl) rfl (fun _ => rfl) ?aF HS21.out ?hs ?_
  rotate_left 1
  case aF => intro s; simp only [putE, EvT.val, Act.put, setIfInBounds_toArray, set_cons_zero, set_cons_succ]; rfl
  case hs => exact ⟨ld rfl 6 (fun s => rfl) (fun s w h => by have h0 := h 0 _ rfl; clear h; go_simp; try rfl), pu rfl, cl rfl (fun s => #[.agg #[.slice (s7 3).A r4_0.length (s7 3).c], .int .i64 1]) Try.func26 (fun s w1 h => by rw [show r4_0.length = r10_1.length from (Kd.S_reads' (h.get 5 rfl)).1]; exact (laws_heldMemory.calls _ _ _ _ _ _ _ ((Kd.S_reads' (h.get 5 rfl)).1 ▸ (Kd.S_reads' (h.get 5 rfl)).2.2) ((Kd.S_reads' (h.get 5 rfl)).1 ▸ (Kd.S_reads' (h.get 5 rfl)).2.1) H11.out).mono (by rintro e w2 ⟨rfl, hb⟩; exact fin0 hb)), trivial⟩
  intro s22 w22 h; have HS22 := Aside0.mk h; clear h HS21
  refine tlP (v := .int .i64 r10_0) 15 rfl ?_
  refine tl0 ?_
  refine wp_seq ?_
  refine reg0 (aF := ?_) [evP 0 123 [] (fun s => .int .i64 r10_0), evP 1 124 [] (fun s => .bool false)] [] false 2 rfl rfl (by kernel_rfl) rfl (fun _ => rfl) ?aF HS22.out ?hs ?_
  rotate_left 1
  case aF => intro s; simp only [putE, EvT.val, Act.put, setIfInBounds_toArray, set_cons_zero, set_cons_succ]; rfl
  case hs => exact ⟨pu rfl, pb (q := .lss) Nb_r10_0 rfl, trivial⟩
  intro s23 w23 h; have HS23 := Aside0.mk h; clear h HS22
  refine tl0 ?_
  refine wp_cond_false rfl ?_
  refine wp_skip ?_
  refine thN ?_
  refine wp_seq ?_
  refine reg0 (aF := ?_) [evP 0 125 [] (fun s => .int .i64 r10_0), evP 1 126 [] (fun s => .int .i64 r10_0), evP 2 127 [] (fun s => .bool false)] [] false 3 rfl rfl (by kernel_rfl) rfl (fun _ => rfl) ?aF HS23.out ?hs ?_
  rotate_left 1
  case aF => intro s; simp only [putE, EvT.val, Act.put, setIfInBounds_toArray, set_cons_zero, set_cons_succ]; rfl
  case hs => exact ⟨pu rfl, pu rfl, pb (q := .neq) (bne_self_eq_false _) rfl, trivial⟩
  intro s24 w24 h; have HS24 := Aside0.mk h; clear h HS23
  refine tl0 ?_
  refine wp_cond_false rfl ?_
  refine wp_skip ?_
  refine thN ?_
  refine reg0 (aF := ?_) [] [0] false 1 rfl rfl (by kernel_rfl) rfl (fun _ => rfl) ?aF HS24.out ?hs ?_
  rotate_left 1
  case aF => intro s; simp only [putE, EvT.val, Act.put, setIfInBounds_toArray, set_cons_zero, set_cons_succ]; rfl
  case hs => exact trivial
  intro s25 w25 h; have HS25 := Aside0.mk h; clear h HS24
  refine tlP (v := .bool true) 4 rfl ?_
  refine tl0 ?_
  refine wp_ret ?_
  go_ret
  exact ⟨by first | rfl | simp, HS25.out.hb⟩
end Go.Proofs.Ytaieobidkmihkaa.P


/- The law FnExactStraightRing. -/
namespace Go.Proofs.Ytaieobidkmihkaa.P
open Go.RowKit Go.Proofs.YtaieobidkmihkaaW.PrintWords Go.Proofs.YtaieobidkmihkaaW.Mine
set_option linter.unusedVariables false
theorem FnExactStraightRing_walk (w : World) (cs0 : Array Value) (a0 : (List (List Int))) (hK0 : (Kd.slice 29 (Kd.slice 5 (Kd.int .u8))).K w a0 cs0.toList) (ok0 : (∀ y1 ∈ a0, (∀ y2 ∈ y1, (Lit.int .u8 y2).wf = true))) (cs1 : Array Value) (a1 : ((Int × (Int × (Int × Int))) × (Int × Int))) (hK1 : (Kd.pair (Kd.pair (Kd.int .i64) (Kd.pair (Kd.int .i64) (Kd.pair (Kd.int .i64) (Kd.int .i64)))) (Kd.pair (Kd.int .i64) (Kd.int .i64))).K w a1 cs1.toList) (ok1 : (((Lit.int .i64 a1.1.1).wf = true ∧ ((Lit.int .i64 a1.1.2.1).wf = true ∧ ((Lit.int .i64 a1.1.2.2.1).wf = true ∧ (Lit.int .i64 a1.1.2.2.2).wf = true))) ∧ ((Lit.int .i64 a1.2.1).wf = true ∧ (Lit.int .i64 a1.2.2).wf = true))) :
    Calls Try.prog 4 #[.agg cs0, .agg cs1] w fun e w' => e = .returned (.bool true) ∧ Below w.heap.size w w' := by
  obtain ⟨A0, c0, hcs0, hc0, hr0⟩ := hK0
  obtain rfl := agg_of hcs0
  obtain ⟨⟨x10, x11, x12, x13⟩, x14, x15⟩ := a1
  obtain ⟨_, _, hcs1, ⟨_, _, rfl, rfl, ⟨_, _, rfl, rfl, ⟨_, _, rfl, rfl, rfl⟩⟩⟩, ⟨_, _, rfl, rfl, rfl⟩⟩ := hK1
  obtain rfl := agg_of hcs1
  obtain ⟨r, hz, hh⟩ := szMemory_f a0 1048576 (by omega) (by omega) hr0.2.1 (C_inner_len hr0)
  rcases hh with ⟨hm, h5⟩ | rfl
  · have hs : -9223372036854775808 ≤ x11 ∧ x11 ≤ 9223372036854775807 := wf_i64 ok1.1.2.1
    have h6 := straightR_ok a0 x10 x11 x12 x13 x14 x15
    exact FnExactStraightRing_run A0 c0 a0 x10 x11 x12 x13 x14 x15 _ _ _ _ _ _ _ _ _ _ _ _ _ _ _ _ _ _ _ _ w hr0 hc0 hz.rounds (toMemory_f a0 hm) (toRing_f _ _ _ _ _ _) (specStraight_f a0 x10 x11 x12 x13 x14 x15 hm hs) (implStraight_f a0 x10 x11 x12 x13 x14 x15 hm) (eqM _ h6).rounds (eqRing_f _ _ _ _ _ _) (eqM _ hm).rounds (markM _ hm) (markM _ h6) (heldMemory_f _ h6).rounds (markM_pos _) (by omega) (markM_pos _)
  · exact FnExactStraightRing_run0 A0 c0 a0 x10 x11 x12 x13 x14 x15 _ w hr0 hc0 hz.rounds (by omega)
end Go.Proofs.Ytaieobidkmihkaa.P


namespace Go.Proofs.Ytaieobidkmihkaa.fnExactStraightRing
open Go.ChangeShapes Go.WideShapes Go.ChangeAt Go.RowKit Go.Proofs.YtaieobidkmihkaaW.PrintWords Go.Proofs.YtaieobidkmihkaaW.Mine Go.Proofs.Ytaieobidkmihkaa.P
open Go.ChangeMaps (open_string shut_string)
set_option linter.unusedVariables false
theorem own : ownKnob Try.prog.godebug = none := by kernel_rfl
theorem laidOut : laidOutB Try.prog = true := by kernel_rfl
set_option maxRecDepth 100000 in
theorem lifted (os : Os) (started : os.Started) (H : Type) (enc : TypeId × Value → H) :
    ReturnsInHanded {} Try.checked os 4 .any (Rows.fnExactStraightRingSpec.pre6 enc Try.prog Try.f4 Rows.fnExactStraightRingRow.domain false) (Rows.fnExactStraightRingSpec.post enc Try.prog Try.f4 false true false false) := by
  refine returnsInHanded_of_change_sized (C := Try.checked) own started (by kernel_rfl) Try.func4
    (ChangeSpec.witness6 (enc := enc) (C := Try.checked) false ⟨#[], #[.agg #[.slice none 0 0], .agg #[.int .i64 0, .int .i64 0, .int .i64 0, .int .i64 0, .int .i64 0, .int .i64 0]], []⟩ 8 (by kernel_rfl) (by kernel_rfl) (by kernel_rfl) (by kernel_rfl)) ?_
  intro W base args ds gs before hval0 hW hcnd hsz0 _
  have hval : ∀ (j : Nat) t v, Try.f4.params[j]? = some t → args[j]? = some v → Value.okWide Try.prog W .any base t v := hval0
  have hW' := hW
  obtain ⟨p, q, hA0, hV, rfl, hfz, hnd⟩ := hW
  have hA : DataW.TrodAll enc Try.prog W 0 (fun _ => true) true Try.f4.params.toList args.toList ds p := hA0
  rw [Try.params4] at hA hval
  obtain ⟨v0, vs0, d0, ds0, p0, q0, hargs, rfl, rfl, h0, r0⟩ := trodAll_cons hA
  obtain ⟨v1, vs1, d1, ds1, p1, q1, rfl, rfl, rfl, h1, r1⟩ := trodAll_cons r0
  obtain ⟨rfl, rfl, rfl⟩ := trodAll_nil r1
  obtain rfl : args = #[v0, v1] := by cases args; simp_all
  obtain ⟨rfl, rfl⟩ := trodVars_none hV
  have k0 := h0
  have lt0 : ∀ x ∈ p0, x.block < W.heap.size := by obtain ⟨m, hm⟩ := k0; exact DataW.trod_lt m _ _ _ hm
  obtain ⟨cs0, rfl, _⟩ := okWide_struct Try.underlying24 (hval 0 24 v0 rfl rfl)
  obtain ⟨a0, hK0, ok0⟩ : ∃ a : (List (List Int)), (Kd.slice 29 (Kd.slice 5 (Kd.int .u8))).K W a cs0.toList ∧ (∀ y1 ∈ a, (∀ y2 ∈ y1, (Lit.int .u8 y2).wf = true)) := by obtain ⟨fuel, hf⟩ := h0; exact (ReadsK.struct Try.underlying24 (by kernel_rfl) (ReadsF.last rfl (ReadsK.slice Try.underlying22 (by kernel_rfl) (ReadsK.slice Try.underlying29 (by kernel_rfl) (ReadsK.int Try.underlying5))) (by kernel_rfl))) hf
  have k1 := h1
  have lt1 : ∀ x ∈ p1, x.block < W.heap.size := by obtain ⟨m, hm⟩ := k1; exact DataW.trod_lt m _ _ _ hm
  obtain ⟨cs1, rfl, _⟩ := okWide_struct Try.underlying28 (hval 1 28 v1 rfl rfl)
  obtain ⟨a1, hK1, ok1⟩ : ∃ a : ((Int × (Int × (Int × Int))) × (Int × Int)), (Kd.pair (Kd.pair (Kd.int .i64) (Kd.pair (Kd.int .i64) (Kd.pair (Kd.int .i64) (Kd.int .i64)))) (Kd.pair (Kd.int .i64) (Kd.int .i64))).K W a cs1.toList ∧ (((Lit.int .i64 a.1.1).wf = true ∧ ((Lit.int .i64 a.1.2.1).wf = true ∧ ((Lit.int .i64 a.1.2.2.1).wf = true ∧ (Lit.int .i64 a.1.2.2.2).wf = true))) ∧ ((Lit.int .i64 a.2.1).wf = true ∧ (Lit.int .i64 a.2.2).wf = true)) := by obtain ⟨fuel, hf⟩ := h1; exact (ReadsK.struct Try.underlying28 (by kernel_rfl) (ReadsF.cons rfl (ReadsK.struct Try.underlying26 (by kernel_rfl) (ReadsF.cons rfl (ReadsK.int Try.underlying3) (by kernel_rfl) (ReadsF.cons rfl (ReadsK.int Try.underlying3) (by kernel_rfl) (ReadsF.cons rfl (ReadsK.int Try.underlying3) (by kernel_rfl) (ReadsF.last rfl (ReadsK.int Try.underlying3) (by kernel_rfl)))))) (by kernel_rfl) (ReadsF.cons rfl (ReadsK.int Try.underlying3) (by kernel_rfl) (ReadsF.last rfl (ReadsK.int Try.underlying3) (by kernel_rfl))))) hf
  clear hA0 hval0 hsz0
  refine (FnExactStraightRing_walk W cs0 a0 hK0 ok0 cs1 a1 hK1 ok1).mono fun e W' ⟨he, bel⟩ => ?_
  subst he
  exact ⟨_, rfl, _, _, _, [], _, [], hW', trodAll_mk1 (shut_bool Try.underlying4 _), (trodAll_cons_mk (Below.trod laidOut (by kernel_rfl) (of_decide_eq_true (by kernel_rfl)) k0 bel lt0) (trodAll_cons_mk (Below.trod laidOut (by kernel_rfl) (of_decide_eq_true (by kernel_rfl)) k1 bel lt1) trodAll_mk0)), rfl, bel.frame _, fun h => by cases h⟩
theorem over : Rows.fnExactStraightRingRow.holds Try.pinned (OpenSpec.ofChange Rows.fnExactStraightRingSpec) :=
  OpenClaim.holds_of_wide 4 Try.f4 rfl rfl rfl rfl rfl rfl rfl ⟨rfl, rfl, rfl, rfl, rfl⟩ rfl rfl rfl rfl rfl (by kernel_rfl) Try.func4 (by kernel_rfl)
    (of_decide_eq_true (by kernel_rfl)) (by unfold Func.isWrapper; first | (rw [if_pos (by decide +kernel)]; kernel_rfl) | (rw [if_neg (by decide +kernel)]; exact ⟨rfl, rfl⟩))
    (fun os started H enc _ => lifted os started H enc)
theorem proved : Rows.FnExactStraightRingSaid := over
end Go.Proofs.Ytaieobidkmihkaa.fnExactStraightRing
namespace Go.Proofs.Ytaieobidkmihkaa
theorem fnExactStraightRing_holds : Rows.FnExactStraightRingSaid := fnExactStraightRing.proved
#print axioms fnExactStraightRing_holds
end Go.Proofs.Ytaieobidkmihkaa


