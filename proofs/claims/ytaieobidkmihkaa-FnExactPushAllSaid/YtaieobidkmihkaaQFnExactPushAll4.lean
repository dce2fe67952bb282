/- For all arguments, impl.PushAll answers what spec.PushAll answers, leaves its arguments alone, and shares nothing of what it returns.
   The row of the law FnExactPushAll, out of its walk. Conditions: none. -/
import Derived.Test.YtaieobidkmihkaaQFnExactPushAll3
import Derived.Test.YtaieobidkmihkaaRows
import Derived.WalkKit
import Derived.ProofKit
import Derived.OpenShut
import Derived.ShutString
import Derived.ChangeOld
import Derived.Below
import Derived.SizedLaws
import Derived.Test.YtaieobidkmihkaaWApart
import Derived.Test.YtaieobidkmihkaaWFoot
import Derived.Test.YtaieobidkmihkaaWGuard
import Derived.Test.YtaieobidkmihkaaWKept
import Derived.Test.YtaieobidkmihkaaWLast
import Derived.Test.YtaieobidkmihkaaWMore
import Derived.Test.YtaieobidkmihkaaWN
import Derived.Test.YtaieobidkmihkaaWRepsOne
import Derived.Test.YtaieobidkmihkaaWShare
import Derived.Test.YtaieobidkmihkaaWTab
import Derived.Test.YtaieobidkmihkaaWWords
-- written by wip/gen_law.py
namespace Go.Proofs.Ytaieobidkmihkaa.P
open Go.RowKit Go.Proofs.YtaieobidkmihkaaW.PrintWords Go.Proofs.YtaieobidkmihkaaW.PrintLast Go.Proofs.YtaieobidkmihkaaW.PrintMore Go.Proofs.YtaieobidkmihkaaW.Mine
open List (setIfInBounds_toArray set_cons_zero set_cons_succ)
attribute [local go_sem] max2_int min2_int max_two min_two max_three min_three max_four min_four
set_option linter.unusedVariables false
set_option linter.unusedSimpArgs false
set_option maxHeartbeats 8000000 in
set_option maxRecDepth 100000 in
theorem FnExactPushAll_run0 (A0_0 : Option Addr) (c0_0 : Nat) (l0_0 : List (List Int)) (a1_0 : Int) (a1_1 : Int) (a1_2 : Int) (a1_3 : Int) (a1_4 : Int) (a1_5 : Int) (A2_0 : Option Addr) (c2_0 : Nat) (l2_0 : List Int) (w : World) (hr0_0 : Kd.C (Kd.slice 5 (Kd.int .u8)) w A0_0 l0_0.length l0_0) (hc0_0 : l0_0.length ≤ c0_0) (hr2_0 : Kd.C (Kd.int .u8) w A2_0 l2_0.length l2_0) (hc2_0 : l2_0.length ≤ c2_0) (P_ : (l2_0.length : Int) > 1048576) :
    Calls Try.prog 3 #[.agg #[.slice A0_0 l0_0.length c0_0], .agg #[.int .i64 a1_0, .int .i64 a1_1, .int .i64 a1_2, .int .i64 a1_3, .int .i64 a1_4, .int .i64 a1_5], .slice A2_0 l2_0.length c2_0] w fun e w' => e = .returned (.bool true) ∧ Below w.heap.size w w' := by
  have HR0_0 := Aside0.mk hr0_0; have HC0_0 := Aside0.mk hc0_0; clear hr0_0 hc0_0
  have HR2_0 := Aside0.mk hr2_0; have HC2_0 := Aside0.mk hc2_0; clear hr2_0 hc2_0
  have Pb_ : decide ((l2_0.length : Int) > 1048576) = true := decide_eq_true P_; clear P_
  have HS0 : Aside0 (Stk w [] w) := ⟨Stk.nil w⟩
  go_enter Try.func3, Try.ntmps3
  refine reg (aF := ?_) (nw := ?_) [evB 0 3 [] 24 (fun s => #[.slice A0_0 l0_0.length c0_0]) 9999 [] (fun s => #[.slice A0_0 l0_0.length c0_0]), evB 1 4 [] 28 (fun s => #[.int .i64 a1_0, .int .i64 a1_1, .int .i64 a1_2, .int .i64 a1_3, .int .i64 a1_4, .int .i64 a1_5]) 9999 [] (fun s => #[.int .i64 a1_0, .int .i64 a1_1, .int .i64 a1_2, .int .i64 a1_3, .int .i64 a1_4, .int .i64 a1_5]), evP 2 6 [] (fun s => .bool false)] [] [] false 3 rfl rfl (by kernel_rfl) rfl (mf0) ?aF ?nw HS0.out ?hs ?_
  rotate_left 2
  case aF => intro s; simp only [putE, EvT.val, Act.put, setIfInBounds_toArray, set_cons_zero, set_cons_succ]; rfl
  case nw => intro s; simp only [thA, bsA, List.nil_append, List.cons_append, List.append_nil, if_true, if_false, Nat.reduceLT, set_cons_zero, set_cons_succ]; rfl
  case hs => exact ⟨bv rfl (fun s w => by go_simp; try rfl), bv rfl (fun s w => by go_simp; try rfl), pu rfl, trivial⟩
  intro s1 w1 h; have HS1 := Aside0.mk h; clear h HS0
  refine tl0 ?_
  refine wp_seq ?_
  refine reg0 (aF := ?_) [evP 0 25 [] (fun s => .slice A2_0 l2_0.length c2_0), evP 1 26 [] (fun s => .int .i64 (l2_0.length : Int)), evP 2 27 [] (fun s => .bool true)] [] false 3 rfl rfl (by kernel_rfl) rfl (fun _ => rfl) ?aF HS1.out ?hs ?_
  rotate_left 1
  case aF => intro s; simp only [putE, EvT.val, Act.put, setIfInBounds_toArray, set_cons_zero, set_cons_succ]; rfl
  case hs => exact ⟨pu rfl, pu rfl (hr := fun s w => by go_simp; try rfl), pb (q := .gtr) Pb_ rfl, trivial⟩
  intro s2 w2 h; have HS2 := Aside0.mk h; clear h HS1
  refine tl0 ?_
  refine wp_cond_true rfl ?_
  refine reg0 (aF := ?_) [] [0] false 1 rfl rfl (by kernel_rfl) rfl (fun _ => rfl) ?aF HS2.out ?hs ?_
  rotate_left 1
  case aF => intro s; simp only [putE, EvT.val, Act.put, setIfInBounds_toArray, set_cons_zero, set_cons_succ]; rfl
  case hs => exact trivial
  intro s3 w3 h; have HS3 := Aside0.mk h; clear h HS2
  refine tlP (v := .bool true) 6 rfl ?_
  refine tl0 ?_
  refine wp_ret ?_
  go_ret
  exact ⟨by first | rfl | simp, HS3.out.hb⟩
set_option maxHeartbeats 8000000 in
set_option maxRecDepth 100000 in
theorem FnExactPushAll_run1 (A0_0 : Option Addr) (c0_0 : Nat) (l0_0 : List (List Int)) (a1_0 : Int) (a1_1 : Int) (a1_2 : Int) (a1_3 : Int) (a1_4 : Int) (a1_5 : Int) (A2_0 : Option Addr) (c2_0 : Nat) (l2_0 : List Int) (r1_0 : Int) (w : World) (hr0_0 : Kd.C (Kd.slice 5 (Kd.int .u8)) w A0_0 l0_0.length l0_0) (hc0_0 : l0_0.length ≤ c0_0) (hr2_0 : Kd.C (Kd.int .u8) w A2_0 l2_0.length l2_0) (hc2_0 : l2_0.length ≤ c2_0) (H1 : ∃ k, laws_szMemory.f k l0_0 1048576 = some r1_0) (N_g1 : ¬ (l2_0.length : Int) > 1048576) (P_ : r1_0 < 0) :
    Calls Try.prog 3 #[.agg #[.slice A0_0 l0_0.length c0_0], .agg #[.int .i64 a1_0, .int .i64 a1_1, .int .i64 a1_2, .int .i64 a1_3, .int .i64 a1_4, .int .i64 a1_5], .slice A2_0 l2_0.length c2_0] w fun e w' => e = .returned (.bool true) ∧ Below w.heap.size w w' := by
  have HR0_0 := Aside0.mk hr0_0; have HC0_0 := Aside0.mk hc0_0; clear hr0_0 hc0_0
  have HR2_0 := Aside0.mk hr2_0; have HC2_0 := Aside0.mk hc2_0; clear hr2_0 hc2_0
  obtain ⟨k, H1_⟩ := H1; have H1 := Aside0.mk H1_; clear H1_
  have Nb_g1 : decide ((l2_0.length : Int) > 1048576) = false := decide_eq_false N_g1; clear N_g1
  have Pb_ : decide (r1_0 < 0) = true := decide_eq_true P_; clear P_
  have HS0 : Aside0 (Stk w [] w) := ⟨Stk.nil w⟩
  go_enter Try.func3, Try.ntmps3
  refine reg (aF := ?_) (nw := ?_) [evB 0 3 [] 24 (fun s => #[.slice A0_0 l0_0.length c0_0]) 9999 [] (fun s => #[.slice A0_0 l0_0.length c0_0]), evB 1 4 [] 28 (fun s => #[.int .i64 a1_0, .int .i64 a1_1, .int .i64 a1_2, .int .i64 a1_3, .int .i64 a1_4, .int .i64 a1_5]) 9999 [] (fun s => #[.int .i64 a1_0, .int .i64 a1_1, .int .i64 a1_2, .int .i64 a1_3, .int .i64 a1_4, .int .i64 a1_5]), evP 2 6 [] (fun s => .bool false)] [] [] false 3 rfl rfl (by kernel_rfl) rfl (mf0) ?aF ?nw HS0.out ?hs ?_
  rotate_left 2
  case aF => intro s; simp only [putE, EvT.val, Act.put, setIfInBounds_toArray, set_cons_zero, set_cons_succ]; rfl
  case nw => intro s; simp only [thA, bsA, List.nil_append, List.cons_append, List.append_nil, if_true, if_false, Nat.reduceLT, set_cons_zero, set_cons_succ]; rfl
  case hs => exact ⟨bv rfl (fun s w => by go_simp; try rfl), bv rfl (fun s w => by go_simp; try rfl), pu rfl, trivial⟩
  intro s1 w1 h; have HS1 := Aside0.mk h; clear h HS0
  refine tl0 ?_
  refine wp_seq ?_
  refine reg0 (aF := ?_) [evP 0 25 [] (fun s => .slice A2_0 l2_0.length c2_0), evP 1 26 [] (fun s => .int .i64 (l2_0.length : Int)), evP 2 27 [] (fun s => .bool false)] [] false 3 rfl rfl (by kernel_rfl) rfl (fun _ => rfl) ?aF HS1.out ?hs ?_
  rotate_left 1
  case aF => intro s; simp only [putE, EvT.val, Act.put, setIfInBounds_toArray, set_cons_zero, set_cons_succ]; rfl
  case hs => exact ⟨pu rfl, pu rfl (hr := fun s w => by go_simp; try rfl), pb (q := .gtr) Nb_g1 rfl, trivial⟩
  intro s2 w2 h; have HS2 := Aside0.mk h; clear h HS1
  refine tl0 ?_
  refine wp_cond_false rfl ?_
  refine wp_skip ?_
  refine thN ?_
  refine reg0 (aF := ?_) [] [0] false 1 rfl rfl (by kernel_rfl) rfl (fun _ => rfl) ?aF HS2.out ?hs ?_
  rotate_left 1
  case aF => intro s; simp only [putE, EvT.val, Act.put, setIfInBounds_toArray, set_cons_zero, set_cons_succ]; rfl
  case hs => exact trivial
  intro s3 w3 h; have HS3 := Aside0.mk h; clear h HS2
  refine tlP (v := .int .i64 1048576) 7 rfl ?_
  refine tl0 ?_
  refine reg0 (aF := ?_) [evL 0 28 [] (fun s => .agg #[.slice A0_0 l0_0.length c0_0]), evP 1 29 [] (fun s => .int .i64 1048576), evC 2 (some 30) [] (fun s x => .int .i64 r1_0) (fun s x => [])] [3] false 4 rfl rfl (by kernel_rfl) rfl (fun _ => rfl) ?aF HS3.out ?hs ?_
  rotate_left 1
  case aF => intro s; simp only [putE, EvT.val, Act.put, setIfInBounds_toArray, set_cons_zero, set_cons_succ]; rfl
  case hs => exact ⟨ld rfl 0 (fun s => rfl) (fun s w h => by have h0 := h 0 _ rfl; clear h; go_simp; try rfl), pu rfl, cl rfl (fun s => #[.agg #[.slice A0_0 l0_0.length c0_0], .int .i64 1048576]) Try.func15 (fun s w1 h => (laws_szMemory.calls _ _ _ _ _ _ _ (Kd.C_below HR0_0.out h.hb) HC0_0.out H1.out).mono (by rintro e w2 ⟨rfl, hb⟩; exact fin0 hb)), trivial⟩
  intro s4 w4 h; have HS4 := Aside0.mk h; clear h HS3
  refine tlP (v := .int .i64 r1_0) 7 rfl ?_
  refine tl0 ?_
  refine wp_seq ?_
  refine reg0 (aF := ?_) [evP 0 31 [] (fun s => .int .i64 r1_0), evP 1 32 [] (fun s => .bool true)] [] false 2 rfl rfl (by kernel_rfl) rfl (fun _ => rfl) ?aF HS4.out ?hs ?_
  rotate_left 1
  case aF => intro s; simp only [putE, EvT.val, Act.put, setIfInBounds_toArray, set_cons_zero, set_cons_succ]; rfl
  case hs => exact ⟨pu rfl, pb (q := .lss) Pb_ rfl, trivial⟩
  intro s5 w5 h; have HS5 := Aside0.mk h; clear h HS4
  refine tl0 ?_
  refine wp_cond_true rfl ?_
  refine reg0 (aF := ?_) [] [0] false 1 rfl rfl (by kernel_rfl) rfl (fun _ => rfl) ?aF HS5.out ?hs ?_
  rotate_left 1
  case aF => intro s; simp only [putE, EvT.val, Act.put, setIfInBounds_toArray, set_cons_zero, set_cons_succ]; rfl
  case hs => exact trivial
  intro s6 w6 h; have HS6 := Aside0.mk h; clear h HS5
  refine tlP (v := .bool true) 6 rfl ?_
  refine tl0 ?_
  refine wp_ret ?_
  go_ret
  exact ⟨by first | rfl | simp, HS6.out.hb⟩
set_option maxHeartbeats 8000000 in
set_option maxRecDepth 100000 in
theorem FnExactPushAll_run (A0_0 : Option Addr) (c0_0 : Nat) (l0_0 : List (List Int)) (a1_0 : Int) (a1_1 : Int) (a1_2 : Int) (a1_3 : Int) (a1_4 : Int) (a1_5 : Int) (A2_0 : Option Addr) (c2_0 : Nat) (l2_0 : List Int) (r1_0 : Int) (r2_0 : List (List Int)) (r3_0 : Int) (r3_1 : Int) (r3_2 : Int) (r3_3 : Int) (r3_4 : Int) (r3_5 : Int) (r4_0 : List Int) (r5_0 : List (List Int)) (r5_1 : Int) (r5_2 : Int) (r5_3 : Int) (r5_4 : Int) (r5_5 : Int) (r5_6 : Int) (r5_7 : Int) (r5_8 : Bool) (r11_0 : Int) (r11_1 : List (List Int)) (r12_0 : Int) (r12_1 : List Int) (r13_0 : Int) (r13_1 : List (List Int)) (w : World) (hr0_0 : Kd.C (Kd.slice 5 (Kd.int .u8)) w A0_0 l0_0.length l0_0) (hc0_0 : l0_0.length ≤ c0_0) (hr2_0 : Kd.C (Kd.int .u8) w A2_0 l2_0.length l2_0) (hc2_0 : l2_0.length ≤ c2_0) (H1 : ∃ k, laws_szMemory.f k l0_0 1048576 = some r1_0) (H2 : laws_toMemory.f l0_0 = some r2_0) (H3 : laws_toRing.f a1_0 a1_1 a1_2 a1_3 a1_4 a1_5 = some (r3_0, r3_1, r3_2, r3_3, r3_4, r3_5)) (H4 : ∃ k, laws_toByteS.f k l2_0 = some r4_0) (H5 : spec_PushAll.f r2_0 r3_0 r3_1 r3_2 r3_3 r3_4 r3_5 r4_0 = some (r5_0, r5_1, r5_2, r5_3, r5_4, r5_5, r5_6, r5_7, r5_8)) (H6 : impl_PushAll.f r2_0 r3_0 r3_1 r3_2 r3_3 r3_4 r3_5 r4_0 = some (r5_0, r5_1, r5_2, r5_3, r5_4, r5_5, r5_6, r5_7, r5_8)) (H7 : ∃ k, laws_eqMemory.f k r5_0 r5_0 = some true) (H8 : laws_eqRing.f r5_1 r5_2 r5_3 r5_4 r5_5 r5_6 r5_1 r5_2 r5_3 r5_4 r5_5 r5_6 = some true) (H9 : ∃ k, laws_eqMemory.f k r2_0 r2_0 = some true) (H10 : ∃ k, laws_eqByteS.f k r4_0 r4_0 = some true) (H11 : laws_markMemory.f r2_0 1 = some (r11_0, r11_1)) (H12 : ∃ k, laws_markByteS.f k r4_0 r11_0 = some (r12_0, r12_1)) (H13 : laws_markMemory.f r5_0 1 = some (r13_0, r13_1)) (H14 : ∃ k, laws_heldMemory.f k r13_1 1 = some r13_0) (N_g1 : ¬ (l2_0.length : Int) > 1048576) (N_r12_0 : ¬ r12_0 < 0) (N_r13_0 : ¬ r13_0 < 0) (N_r1_0 : ¬ r1_0 < 0) :
    Calls Try.prog 3 #[.agg #[.slice A0_0 l0_0.length c0_0], .agg #[.int .i64 a1_0, .int .i64 a1_1, .int .i64 a1_2, .int .i64 a1_3, .int .i64 a1_4, .int .i64 a1_5], .slice A2_0 l2_0.length c2_0] w fun e w' => e = .returned (.bool true) ∧ Below w.heap.size w w' := by
  have HR0_0 := Aside0.mk hr0_0; have HC0_0 := Aside0.mk hc0_0; clear hr0_0 hc0_0
  have HR2_0 := Aside0.mk hr2_0; have HC2_0 := Aside0.mk hc2_0; clear hr2_0 hc2_0
  obtain ⟨k, H1_⟩ := H1; have H1 := Aside0.mk H1_; clear H1_
  have H2_ := Aside0.mk H2; clear H2; have H2 := H2_; clear H2_
  have H3_ := Aside0.mk H3; clear H3; have H3 := H3_; clear H3_
  obtain ⟨k, H4_⟩ := H4; have H4 := Aside0.mk H4_; clear H4_
  have H5_ := Aside0.mk H5; clear H5; have H5 := H5_; clear H5_
  have H6_ := Aside0.mk H6; clear H6; have H6 := H6_; clear H6_
  obtain ⟨k, H7_⟩ := H7; have H7 := Aside0.mk H7_; clear H7_
  have H8_ := Aside0.mk H8; clear H8; have H8 := H8_; clear H8_
  obtain ⟨k, H9_⟩ := H9; have H9 := Aside0.mk H9_; clear H9_
  obtain ⟨k, H10_⟩ := H10; have H10 := Aside0.mk H10_; clear H10_
  have H11_ := Aside0.mk H11; clear H11; have H11 := H11_; clear H11_
  obtain ⟨k, H12_⟩ := H12; have H12 := Aside0.mk H12_; clear H12_
  have H13_ := Aside0.mk H13; clear H13; have H13 := H13_; clear H13_
  obtain ⟨k, H14_⟩ := H14; have H14 := Aside0.mk H14_; clear H14_
  have Nb_g1 : decide ((l2_0.length : Int) > 1048576) = false := decide_eq_false N_g1; clear N_g1
  have Nb_r12_0 : decide (r12_0 < 0) = false := decide_eq_false N_r12_0; clear N_r12_0
  have Nb_r13_0 : decide (r13_0 < 0) = false := decide_eq_false N_r13_0; clear N_r13_0
  have Nb_r1_0 : decide (r1_0 < 0) = false := decide_eq_false N_r1_0; clear N_r1_0
  have HS0 : Aside0 (Stk w [] w) := ⟨Stk.nil w⟩
  go_enter Try.func3, Try.ntmps3
  refine reg (aF := ?_) (nw := ?_) [evB 0 3 [] 24 (fun s => #[.slice A0_0 l0_0.length c0_0]) 9999 [] (fun s => #[.slice A0_0 l0_0.length c0_0]), evB 1 4 [] 28 (fun s => #[.int .i64 a1_0, .int .i64 a1_1, .int .i64 a1_2, .int .i64 a1_3, .int .i64 a1_4, .int .i64 a1_5]) 9999 [] (fun s => #[.int .i64 a1_0, .int .i64 a1_1, .int .i64 a1_2, .int .i64 a1_3, .int .i64 a1_4, .int .i64 a1_5]), evP 2 6 [] (fun s => .bool false)] [] [] false 3 rfl rfl (by kernel_rfl) rfl (mf0) ?aF ?nw HS0.out ?hs ?_
  rotate_left 2
  case aF => intro s; simp only [putE, EvT.val, Act.put, setIfInBounds_toArray, set_cons_zero, set_cons_succ]; rfl
  case nw => intro s; simp only [thA, bsA, List.nil_append, List.cons_append, List.append_nil, if_true, if_false, Nat.reduceLT, set_cons_zero, set_cons_succ]; rfl
  case hs => exact ⟨bv rfl (fun s w => by go_simp; try rfl), bv rfl (fun s w => by go_simp; try rfl), pu rfl, trivial⟩
  intro s1 w1 h; have HS1 := Aside0.mk h; clear h HS0
  refine tl0 ?_
  refine wp_seq ?_
  refine reg0 (aF := ?_) [evP 0 25 [] (fun s => .slice A2_0 l2_0.length c2_0), evP 1 26 [] (fun s => .int .i64 (l2_0.length : Int)), evP 2 27 [] (fun s => .bool false)] [] false 3 rfl rfl (by kernel_rfl) rfl (fun _ => rfl) ?aF HS1.out ?hs ?_
  rotate_left 1
  case aF => intro s; simp only [putE, EvT.val, Act.put, setIfInBounds_toArray, set_cons_zero, set_cons_succ]; rfl
  case hs => exact ⟨pu rfl, pu rfl (hr := fun s w => by go_simp; try rfl), pb (q := .gtr) Nb_g1 rfl, trivial⟩
  intro s2 w2 h; have HS2 := Aside0.mk h; clear h HS1
  refine tl0 ?_
  refine wp_cond_false rfl ?_
  refine wp_skip ?_
  refine thN ?_
  refine reg0 (aF := ?_) [] [0] false 1 rfl rfl (by kernel_rfl) rfl (fun _ => rfl) ?aF HS2.out ?hs ?_
  rotate_left 1
  case aF => intro s; simp only [putE, EvT.val, Act.put, setIfInBounds_toArray, set_cons_zero, set_cons_succ]; rfl
  case hs => exact trivial
  intro s3 w3 h; have HS3 := Aside0.mk h; clear h HS2
  refine tlP (v := .int .i64 1048576) 7 rfl ?_
  refine tl0 ?_
  refine reg0 (aF := ?_) [evL 0 28 [] (fun s => .agg #[.slice A0_0 l0_0.length c0_0]), evP 1 29 [] (fun s => .int .i64 1048576), evC 2 (some 30) [] (fun s x => .int .i64 r1_0) (fun s x => [])] [3] false 4 rfl rfl (by kernel_rfl) rfl (fun _ => rfl) ?aF HS3.out ?hs ?_
  rotate_left 1
  case aF => intro s; simp only [putE, EvT.val, Act.put, setIfInBounds_toArray, set_cons_zero, set_cons_succ]; rfl
  case hs => exact ⟨ld rfl 0 (fun s => rfl) (fun s w h => by have h0 := h 0 _ rfl; clear h; go_simp; try rfl), pu rfl, cl rfl (fun s => #[.agg #[.slice A0_0 l0_0.length c0_0], .int .i64 1048576]) Try.func15 (fun s w1 h => (laws_szMemory.calls _ _ _ _ _ _ _ (Kd.C_below HR0_0.out h.hb) HC0_0.out H1.out).mono (by rintro e w2 ⟨rfl, hb⟩; exact fin0 hb)), trivial⟩
  intro s4 w4 h; have HS4 := Aside0.mk h; clear h HS3
  refine tlP (v := .int .i64 r1_0) 7 rfl ?_
  refine tl0 ?_
  refine wp_seq ?_
  refine reg0 (aF := ?_) [evP 0 31 [] (fun s => .int .i64 r1_0), evP 1 32 [] (fun s => .bool false)] [] false 2 rfl rfl (by kernel_rfl) rfl (fun _ => rfl) ?aF HS4.out ?hs ?_
  rotate_left 1
  case aF => intro s; simp only [putE, EvT.val, Act.put, setIfInBounds_toArray, set_cons_zero, set_cons_succ]; rfl
  case hs => exact ⟨pu rfl, pb (q := .lss) Nb_r1_0 rfl, trivial⟩
  intro s5 w5 h; have HS5 := Aside0.mk h; clear h HS4
  refine tl0 ?_
  refine wp_cond_false rfl ?_
  refine wp_skip ?_
  refine thN ?_
  refine reg (aF := ?_) (nw := ?_) [evL 0 34 [] (fun s => .agg #[.slice A0_0 l0_0.length c0_0]), evC 1 (some 35) [] (fun s x => .agg #[.slice x.A r2_0.length x.c]) (fun s x => [rowS (Kd.slice 5 (Kd.int .u8)) 29 w x.lo x.hi x.A x.c r2_0]), evL 2 36 [] (fun s => .agg #[.int .i64 a1_0, .int .i64 a1_1, .int .i64 a1_2, .int .i64 a1_3, .int .i64 a1_4, .int .i64 a1_5]), evC 3 (some 37) [] (fun s x => .agg #[.int .i64 r3_0, .int .i64 r3_1, .int .i64 r3_2, .int .i64 r3_3, .int .i64 r3_4, .int .i64 r3_5]) (fun s x => []), evP 4 38 [] (fun s => .slice A2_0 l2_0.length c2_0), evC 5 (some 39) [] (fun s x => .slice x.A r4_0.length x.c) (fun s x => [rowR (Kd.int .u8) 5 w x.lo x.hi x.A x.c r4_0]), evC 6 (some 40) [1, 5] (fun s x => .tuple #[.agg #[.slice x.A r5_0.length x.c], .agg #[.int .i64 r5_1, .int .i64 r5_2, .int .i64 r5_3, .int .i64 r5_4, .int .i64 r5_5, .int .i64 r5_6], .int .i64 r5_7, .bool r5_8]) (fun s x => [rowS (Kd.slice 5 (Kd.int .u8)) 29 w x.lo x.hi x.A x.c r5_0]), evP 7 33 [6] (fun s => .tuple #[.agg #[.slice (s 6).A r5_0.length (s 6).c], .agg #[.int .i64 r5_1, .int .i64 r5_2, .int .i64 r5_3, .int .i64 r5_4, .int .i64 r5_5, .int .i64 r5_6], .int .i64 r5_7, .bool r5_8]), evP 8 41 [6] (fun s => .agg #[.slice (s 6).A r5_0.length (s 6).c]), evP 9 42 [] (fun s => .agg #[.int .i64 r5_1, .int .i64 r5_2, .int .i64 r5_3, .int .i64 r5_4, .int .i64 r5_5, .int .i64 r5_6]), evP 10 43 [] (fun s => .int .i64 r5_7), evP 11 44 [] (fun s => .bool r5_8), evB 12 8 [] 31 (fun s => #[.slice none 0 0]) 14 [6] (fun s => #[.slice (s 6).A r5_0.length (s 6).c]), evB 13 9 [] 34 (fun s => #[.int .i64 0, .int .i64 0, .int .i64 0, .int .i64 0, .int .i64 0, .int .i64 0]) 15 [] (fun s => #[.int .i64 r5_1, .int .i64 r5_2, .int .i64 r5_3, .int .i64 r5_4, .int .i64 r5_5, .int .i64 r5_6]), evS 14, evS 15, evP 16 10 [] (fun s => .int .i64 r5_7)] [17] [] true 18 rfl rfl (by kernel_rfl) rfl (mf0) ?aF ?nw HS5.out ?hs ?_
  rotate_left 2
  case aF => intro s; simp only [putE, EvT.val, Act.put, setIfInBounds_toArray, set_cons_zero, set_cons_succ]; rfl
  case nw => intro s; simp only [thA, bsA, List.nil_append, List.cons_append, List.append_nil, if_true, if_false, Nat.reduceLT, set_cons_zero, set_cons_succ]; rfl
  case hs => exact ⟨ld rfl 0 (fun s => rfl) (fun s w h => by have h0 := h 0 _ rfl; clear h; go_simp; try rfl), cl rfl (fun s => #[.agg #[.slice A0_0 l0_0.length c0_0]]) Try.func17 (fun s w1 h => (laws_toMemory.calls _ _ _ _ _ (Kd.C_below HR0_0.out h.hb) HC0_0.out H2.out).mono (by rintro e w2 ⟨v0_, rfl, ho0, hb⟩; obtain ⟨x, rfl, hx⟩ := fin_S ho0 hb h.hb.size; exact ⟨x, rfl, hx⟩)), ld rfl 1 (fun s => rfl) (fun s w h => by have h0 := h 0 _ rfl; have h1 := h 1 _ rfl; have h2 := h 2 _ rfl; have h3 := h 3 _ rfl; have h4 := h 4 _ rfl; have h5 := h 5 _ rfl; clear h; go_simp; try rfl), cl rfl (fun s => #[.agg #[.int .i64 a1_0, .int .i64 a1_1, .int .i64 a1_2, .int .i64 a1_3, .int .i64 a1_4, .int .i64 a1_5]]) Try.func18 (fun s w1 h => (laws_toRing.calls _ _ _ _ _ _ _ _ _ _ _ _ _ H3.out).mono (by rintro e w2 ⟨rfl, hb⟩; exact fin0 hb)), pu rfl, cl rfl (fun s => #[.slice A2_0 l2_0.length c2_0]) Try.func19 (fun s w1 h => (laws_toByteS.calls _ _ _ _ _ _ (Kd.C_below HR2_0.out h.hb) HC2_0.out H4.out).mono (by rintro e w2 ⟨v0_, rfl, ho0, hb⟩; obtain ⟨x, rfl, hx⟩ := fin_R ho0 hb h.hb.size; exact ⟨x, rfl, hx⟩)), cl rfl (fun s => #[.agg #[.slice (s 1).A r2_0.length (s 1).c], .agg #[.int .i64 r3_0, .int .i64 r3_1, .int .i64 r3_2, .int .i64 r3_3, .int .i64 r3_4, .int .i64 r3_5], .slice (s 5).A r4_0.length (s 5).c]) Try.func16 (fun s w1 h => (spec_PushAll.calls _ _ _ _ _ _ _ _ _ _ _ _ _ _ _ _ _ _ _ _ _ _ (Kd.S_reads' (h.get 0 rfl)).2.2 (Kd.S_reads' (h.get 0 rfl)).2.1 (Kd.R_reads' (h.get 1 rfl)).2.2 (Kd.R_reads' (h.get 1 rfl)).2.1 H5.out).mono (by rintro e w2 ⟨v0_, rfl, ho0, hb⟩; obtain ⟨x, rfl, hx⟩ := fin_S ho0 hb h.hb.size; exact ⟨x, rfl, hx⟩)), pu rfl, pu rfl, pu rfl, pu rfl, pu rfl, bv rfl (fun s w => by go_simp; try rfl), bv rfl (fun s w => by go_simp; try rfl), st rfl 12 0 (fun s => [.slice (s 6).A r5_0.length (s 6).c]) rfl (fun s w h hf => by have h0 := h 0 _ rfl; have f0 := hf 0; clear h hf; go_simp; try rfl), st rfl 13 0 (fun s => [.int .i64 r5_1, .int .i64 r5_2, .int .i64 r5_3, .int .i64 r5_4, .int .i64 r5_5, .int .i64 r5_6]) rfl (fun s w h hf => by have h0 := h 0 _ rfl; have f0 := hf 0; have h1 := h 1 _ rfl; have f1 := hf 1; have h2 := h 2 _ rfl; have f2 := hf 2; have h3 := h 3 _ rfl; have f3 := hf 3; have h4 := h 4 _ rfl; have f4 := hf 4; have h5 := h 5 _ rfl; have f5 := hf 5; clear h hf; go_simp; try rfl), pu rfl, trivial⟩
  intro s6 w6 h; have HS6 := Aside0.mk h; clear h HS5
  refine tlP (v := .bool r5_8) 11 rfl ?_
  refine tl0 ?_
  refine reg (aF := ?_) (nw := ?_) [evL 0 45 [] (fun s => .agg #[.slice A0_0 l0_0.length c0_0]), evC 1 (some 46) [] (fun s x => .agg #[.slice x.A r2_0.length x.c]) (fun s x => [rowS (Kd.slice 5 (Kd.int .u8)) 29 w x.lo x.hi x.A x.c r2_0]), evB 2 12 [] 31 (fun s => #[.slice none 0 0]) 3 [1] (fun s => #[.slice (s 1).A r2_0.length (s 1).c]), evS 3] [] [] false 4 rfl rfl (by kernel_rfl) rfl (mf0) ?aF ?nw HS6.out ?hs ?_
  rotate_left 2
  case aF => intro s; simp only [putE, EvT.val, Act.put, setIfInBounds_toArray, set_cons_zero, set_cons_succ]; rfl
  case nw => intro s; simp only [thA, bsA, List.nil_append, List.cons_append, List.append_nil, if_true, if_false, Nat.reduceLT, set_cons_zero, set_cons_succ]; rfl
  case hs => exact ⟨ld rfl 5 (fun s => rfl) (fun s w h => by have h0 := h 0 _ rfl; clear h; go_simp; try rfl), cl rfl (fun s => #[.agg #[.slice A0_0 l0_0.length c0_0]]) Try.func17 (fun s w1 h => (laws_toMemory.calls _ _ _ _ _ (Kd.C_below HR0_0.out h.hb) HC0_0.out H2.out).mono (by rintro e w2 ⟨v0_, rfl, ho0, hb⟩; obtain ⟨x, rfl, hx⟩ := fin_S ho0 hb h.hb.size; exact ⟨x, rfl, hx⟩)), bv rfl (fun s w => by go_simp; try rfl), st rfl 2 0 (fun s => [.slice (s 1).A r2_0.length (s 1).c]) rfl (fun s w h hf => by have h0 := h 0 _ rfl; have f0 := hf 0; clear h hf; go_simp; try rfl), trivial⟩
  intro s7 w7 h; have HS7 := Aside0.mk h; clear h HS6
  refine tl0 ?_
  refine reg (aF := ?_) (nw := ?_) [evP 0 47 [] (fun s => .slice A2_0 l2_0.length c2_0), evC 1 (some 48) [] (fun s x => .slice x.A r4_0.length x.c) (fun s x => [rowR (Kd.int .u8) 5 w x.lo x.hi x.A x.c r4_0])] [2] [] false 3 rfl rfl (by kernel_rfl) rfl (mf0) ?aF ?nw HS7.out ?hs ?_
  rotate_left 2
  case aF => intro s; simp only [putE, EvT.val, Act.put, setIfInBounds_toArray, set_cons_zero, set_cons_succ]; rfl
  case nw => intro s; simp only [thA, bsA, List.nil_append, List.cons_append, List.append_nil, if_true, if_false, Nat.reduceLT, set_cons_zero, set_cons_succ]; rfl
  case hs => exact ⟨pu rfl, cl rfl (fun s => #[.slice A2_0 l2_0.length c2_0]) Try.func19 (fun s w1 h => (laws_toByteS.calls _ _ _ _ _ _ (Kd.C_below HR2_0.out h.hb) HC2_0.out H4.out).mono (by rintro e w2 ⟨v0_, rfl, ho0, hb⟩; obtain ⟨x, rfl, hx⟩ := fin_R ho0 hb h.hb.size; exact ⟨x, rfl, hx⟩)), trivial⟩
  intro s8 w8 h; have HS8 := Aside0.mk h; clear h HS7
  refine tlP (v := .slice (s8 1).A r4_0.length (s8 1).c) 13 rfl ?_
  refine tl0 ?_
  refine reg (aF := ?_) (nw := ?_) [evR 0 50 2 (fun s => .agg #[.slice (s7 1).A r2_0.length (s7 1).c]), evL 1 51 [] (fun s => .agg #[.int .i64 a1_0, .int .i64 a1_1, .int .i64 a1_2, .int .i64 a1_3, .int .i64 a1_4, .int .i64 a1_5]), evC 2 (some 52) [] (fun s x => .agg #[.int .i64 r3_0, .int .i64 r3_1, .int .i64 r3_2, .int .i64 r3_3, .int .i64 r3_4, .int .i64 r3_5]) (fun s x => []), evP 3 53 [] (fun s => .slice (s8 1).A r4_0.length (s8 1).c), evC 4 (some 54) [] (fun s x => .tuple #[.agg #[.slice x.A r5_0.length x.c], .agg #[.int .i64 r5_1, .int .i64 r5_2, .int .i64 r5_3, .int .i64 r5_4, .int .i64 r5_5, .int .i64 r5_6], .int .i64 r5_7, .bool r5_8]) (fun s x => [rowS (Kd.slice 5 (Kd.int .u8)) 29 w x.lo x.hi x.A x.c r5_0]), evP 5 49 [4] (fun s => .tuple #[.agg #[.slice (s 4).A r5_0.length (s 4).c], .agg #[.int .i64 r5_1, .int .i64 r5_2, .int .i64 r5_3, .int .i64 r5_4, .int .i64 r5_5, .int .i64 r5_6], .int .i64 r5_7, .bool r5_8]), evP 6 55 [4] (fun s => .agg #[.slice (s 4).A r5_0.length (s 4).c]), evP 7 56 [] (fun s => .agg #[.int .i64 r5_1, .int .i64 r5_2, .int .i64 r5_3, .int .i64 r5_4, .int .i64 r5_5, .int .i64 r5_6]), evP 8 57 [] (fun s => .int .i64 r5_7), evP 9 58 [] (fun s => .bool r5_8), evB 10 14 [] 31 (fun s => #[.slice none 0 0]) 12 [4] (fun s => #[.slice (s 4).A r5_0.length (s 4).c]), evB 11 15 [] 34 (fun s => #[.int .i64 0, .int .i64 0, .int .i64 0, .int .i64 0, .int .i64 0, .int .i64 0]) 13 [] (fun s => #[.int .i64 r5_1, .int .i64 r5_2, .int .i64 r5_3, .int .i64 r5_4, .int .i64 r5_5, .int .i64 r5_6]), evS 12, evS 13, evP 14 16 [] (fun s => .int .i64 r5_7)] [15] [] true 16 rfl rfl (by kernel_rfl) rfl (mf0) ?aF ?nw HS8.out ?hs ?_
  rotate_left 2
  case aF => intro s; simp only [putE, EvT.val, Act.put, setIfInBounds_toArray, set_cons_zero, set_cons_succ]; rfl
  case nw => intro s; simp only [thA, bsA, List.nil_append, List.cons_append, List.append_nil, if_true, if_false, Nat.reduceLT, set_cons_zero, set_cons_succ]; rfl
  case hs => exact ⟨lr rfl 2 rfl (fun s w h => by have h0 := h 0 _ rfl; clear h; go_simp; try rfl), ld rfl 9 (fun s => rfl) (fun s w h => by have h0 := h 0 _ rfl; have h1 := h 1 _ rfl; have h2 := h 2 _ rfl; have h3 := h 3 _ rfl; have h4 := h 4 _ rfl; have h5 := h 5 _ rfl; clear h; go_simp; try rfl), cl rfl (fun s => #[.agg #[.int .i64 a1_0, .int .i64 a1_1, .int .i64 a1_2, .int .i64 a1_3, .int .i64 a1_4, .int .i64 a1_5]]) Try.func18 (fun s w1 h => (laws_toRing.calls _ _ _ _ _ _ _ _ _ _ _ _ _ H3.out).mono (by rintro e w2 ⟨rfl, hb⟩; exact fin0 hb)), pu rfl, cl rfl (fun s => #[.agg #[.slice (s7 1).A r2_0.length (s7 1).c], .agg #[.int .i64 r3_0, .int .i64 r3_1, .int .i64 r3_2, .int .i64 r3_3, .int .i64 r3_4, .int .i64 r3_5], .slice (s8 1).A r4_0.length (s8 1).c]) Try.func20 (fun s w1 h => (impl_PushAll.calls _ _ _ _ _ _ _ _ _ _ _ _ _ _ _ _ _ _ _ _ _ _ (Kd.S_reads' (h.get 1 rfl)).2.2 (Kd.S_reads' (h.get 1 rfl)).2.1 (Kd.R_reads' (h.get 0 rfl)).2.2 (Kd.R_reads' (h.get 0 rfl)).2.1 H6.out).mono (by rintro e w2 ⟨v0_, rfl, ho0, hb⟩; obtain ⟨x, rfl, hx⟩ := fin_S ho0 hb h.hb.size; exact ⟨x, rfl, hx⟩)), pu rfl, pu rfl, pu rfl, pu rfl, pu rfl, bv rfl (fun s w => by go_simp; try rfl), bv rfl (fun s w => by go_simp; try rfl), st rfl 10 0 (fun s => [.slice (s 4).A r5_0.length (s 4).c]) rfl (fun s w h hf => by have h0 := h 0 _ rfl; have f0 := hf 0; clear h hf; go_simp; try rfl), st rfl 11 0 (fun s => [.int .i64 r5_1, .int .i64 r5_2, .int .i64 r5_3, .int .i64 r5_4, .int .i64 r5_5, .int .i64 r5_6]) rfl (fun s w h hf => by have h0 := h 0 _ rfl; have f0 := hf 0; have h1 := h 1 _ rfl; have f1 := hf 1; have h2 := h 2 _ rfl; have f2 := hf 2; have h3 := h 3 _ rfl; have f3 := hf 3; have h4 := h 4 _ rfl; have f4 := hf 4; have h5 := h 5 _ rfl; have f5 := hf 5; clear h hf; go_simp; try rfl), pu rfl, trivial⟩
  intro s9 w9 h; have HS9 := Aside0.mk h; clear h HS8
  refine tlP (v := .bool r5_8) 17 rfl ?_
  refine tl0 ?_
  refine wp_seq ?_
  refine reg0 (aF := ?_) [evL 0 59 [] (fun s => .agg #[.slice (s9 4).A r5_0.length (s9 4).c]), evL 1 60 [] (fun s => .agg #[.slice (s6 6).A r5_0.length (s6 6).c]), evC 2 (some 61) [] (fun s x => .bool true) (fun s x => []), evP 3 62 [] (fun s => .bool false), evP 4 63 [] (fun s => .bool false), evL 5 64 [] (fun s => .agg #[.int .i64 r5_1, .int .i64 r5_2, .int .i64 r5_3, .int .i64 r5_4, .int .i64 r5_5, .int .i64 r5_6]), evL 6 65 [] (fun s => .agg #[.int .i64 r5_1, .int .i64 r5_2, .int .i64 r5_3, .int .i64 r5_4, .int .i64 r5_5, .int .i64 r5_6]), evC 7 (some 66) [] (fun s x => .bool true) (fun s x => []), evP 8 67 [] (fun s => .bool false), evP 9 68 [] (fun s => .bool false), evP 10 69 [] (fun s => .bool false), evP 11 70 [] (fun s => .int .i64 r5_7), evP 12 71 [] (fun s => .int .i64 r5_7), evP 13 72 [] (fun s => .bool false), evP 14 73 [] (fun s => .bool false), evP 15 74 [] (fun s => .bool false), evP 16 75 [] (fun s => .bool r5_8), evP 17 76 [] (fun s => .bool r5_8), evP 18 77 [] (fun s => .bool false), evP 19 78 [] (fun s => .bool false)] [] false 20 rfl rfl (by kernel_rfl) rfl (fun _ => rfl) ?aF HS9.out ?hs ?_
  rotate_left 1
  case aF => intro s; simp only [putE, EvT.val, Act.put, setIfInBounds_toArray, set_cons_zero, set_cons_succ]; rfl
  case hs => exact ⟨ld rfl 1 (fun s => rfl) (fun s w h => by have h0 := h 0 _ rfl; clear h; go_simp; try rfl), ld rfl 9 (fun s => rfl) (fun s w h => by have h0 := h 0 _ rfl; clear h; go_simp; try rfl), cl rfl (fun s => #[.agg #[.slice (s9 4).A r5_0.length (s9 4).c], .agg #[.slice (s6 6).A r5_0.length (s6 6).c]]) Try.func21 (fun s w1 h => (laws_eqMemory.calls _ _ _ _ _ _ _ _ _ (Kd.S_reads' (h.get 0 rfl)).2.2 (Kd.S_reads' (h.get 0 rfl)).2.1 (Kd.S_reads' (h.get 8 rfl)).2.2 (Kd.S_reads' (h.get 8 rfl)).2.1 H7.out).mono (by rintro e w2 ⟨rfl, hb⟩; exact fin0 hb)), pu rfl, pu rfl, ld rfl 2 (fun s => rfl) (fun s w h => by have h0 := h 0 _ rfl; have h1 := h 1 _ rfl; have h2 := h 2 _ rfl; have h3 := h 3 _ rfl; have h4 := h 4 _ rfl; have h5 := h 5 _ rfl; clear h; go_simp; try rfl), ld rfl 10 (fun s => rfl) (fun s w h => by have h0 := h 0 _ rfl; have h1 := h 1 _ rfl; have h2 := h 2 _ rfl; have h3 := h 3 _ rfl; have h4 := h 4 _ rfl; have h5 := h 5 _ rfl; clear h; go_simp; try rfl), cl rfl (fun s => #[.agg #[.int .i64 r5_1, .int .i64 r5_2, .int .i64 r5_3, .int .i64 r5_4, .int .i64 r5_5, .int .i64 r5_6], .agg #[.int .i64 r5_1, .int .i64 r5_2, .int .i64 r5_3, .int .i64 r5_4, .int .i64 r5_5, .int .i64 r5_6]]) Try.func22 (fun s w1 h => (laws_eqRing.calls _ _ _ _ _ _ _ _ _ _ _ _ _ _ H8.out).mono (by rintro e w2 ⟨rfl, hb⟩; exact fin0 hb)), pu rfl, pu rfl, pu rfl, pu rfl, pu rfl, pb (q := .neq) (bne_self_eq_false _) rfl, pu rfl, pu rfl, pu rfl, pu rfl, pn Try.underlying4 rfl, pu rfl, trivial⟩
  intro s10 w10 h; have HS10 := Aside0.mk h; clear h HS9
  refine tl0 ?_
  refine wp_cond_false rfl ?_
  refine wp_skip ?_
  refine thN ?_
  refine wp_seq ?_
  refine reg (aF := ?_) (nw := ?_) [evR 0 79 5 (fun s => .agg #[.slice (s7 1).A r2_0.length (s7 1).c]), evL 1 80 [] (fun s => .agg #[.slice A0_0 l0_0.length c0_0]), evC 2 (some 81) [] (fun s x => .agg #[.slice x.A r2_0.length x.c]) (fun s x => [rowS (Kd.slice 5 (Kd.int .u8)) 29 w x.lo x.hi x.A x.c r2_0]), evC 3 (some 82) [2] (fun s x => .bool true) (fun s x => []), evP 4 83 [] (fun s => .bool false)] [] [] true 5 rfl rfl (by kernel_rfl) rfl (mf0) ?aF ?nw HS10.out ?hs ?_
  rotate_left 2
  case aF => intro s; simp only [putE, EvT.val, Act.put, setIfInBounds_toArray, set_cons_zero, set_cons_succ]; rfl
  case nw => intro s; simp only [thA, bsA, List.nil_append, List.cons_append, List.append_nil, if_true, if_false, Nat.reduceLT, set_cons_zero, set_cons_succ]; rfl
  case hs => exact ⟨lr rfl 5 rfl (fun s w h => by have h0 := h 0 _ rfl; clear h; go_simp; try rfl), ld rfl 11 (fun s => rfl) (fun s w h => by have h0 := h 0 _ rfl; clear h; go_simp; try rfl), cl rfl (fun s => #[.agg #[.slice A0_0 l0_0.length c0_0]]) Try.func17 (fun s w1 h => (laws_toMemory.calls _ _ _ _ _ (Kd.C_below HR0_0.out h.hb) HC0_0.out H2.out).mono (by rintro e w2 ⟨v0_, rfl, ho0, hb⟩; obtain ⟨x, rfl, hx⟩ := fin_S ho0 hb h.hb.size; exact ⟨x, rfl, hx⟩)), cl rfl (fun s => #[.agg #[.slice (s7 1).A r2_0.length (s7 1).c], .agg #[.slice (s 2).A r2_0.length (s 2).c]]) Try.func21 (fun s w1 h => (laws_eqMemory.calls _ _ _ _ _ _ _ _ _ (Kd.S_reads' (h.get 5 rfl)).2.2 (Kd.S_reads' (h.get 5 rfl)).2.1 (Kd.S_reads' (h.get 0 rfl)).2.2 (Kd.S_reads' (h.get 0 rfl)).2.1 H9.out).mono (by rintro e w2 ⟨rfl, hb⟩; exact fin0 hb)), pu rfl, trivial⟩
  intro s11 w11 h; have HS11 := Aside0.mk h; clear h HS10
  refine tl0 ?_
  refine wp_cond_false rfl ?_
  refine wp_skip ?_
  refine thN ?_
  refine wp_seq ?_
  refine reg (aF := ?_) (nw := ?_) [evP 0 84 [] (fun s => .slice (s8 1).A r4_0.length (s8 1).c), evP 1 85 [] (fun s => .slice A2_0 l2_0.length c2_0), evC 2 (some 86) [] (fun s x => .slice x.A r4_0.length x.c) (fun s x => [rowR (Kd.int .u8) 5 w x.lo x.hi x.A x.c r4_0]), evC 3 (some 87) [2] (fun s x => .bool true) (fun s x => []), evP 4 88 [] (fun s => .bool false)] [] [] false 5 rfl rfl (by kernel_rfl) rfl (mf0) ?aF ?nw HS11.out ?hs ?_
  rotate_left 2
  case aF => intro s; simp only [putE, EvT.val, Act.put, setIfInBounds_toArray, set_cons_zero, set_cons_succ]; rfl
  case nw => intro s; simp only [thA, bsA, List.nil_append, List.cons_append, List.append_nil, if_true, if_false, Nat.reduceLT, set_cons_zero, set_cons_succ]; rfl
  case hs => exact ⟨pu rfl, pu rfl, cl rfl (fun s => #[.slice A2_0 l2_0.length c2_0]) Try.func19 (fun s w1 h => (laws_toByteS.calls _ _ _ _ _ _ (Kd.C_below HR2_0.out h.hb) HC2_0.out H4.out).mono (by rintro e w2 ⟨v0_, rfl, ho0, hb⟩; obtain ⟨x, rfl, hx⟩ := fin_R ho0 hb h.hb.size; exact ⟨x, rfl, hx⟩)), cl rfl (fun s => #[.slice (s8 1).A r4_0.length (s8 1).c, .slice (s 2).A r4_0.length (s 2).c]) Try.func23 (fun s w1 h => (laws_eqByteS.calls _ _ _ _ _ _ _ _ _ (Kd.R_reads' (h.get 5 rfl)).2.2 (Kd.R_reads' (h.get 5 rfl)).2.1 (Kd.R_reads' (h.get 0 rfl)).2.2 (Kd.R_reads' (h.get 0 rfl)).2.1 H10.out).mono (by rintro e w2 ⟨rfl, hd⟩; exact fin0 hd.below)), pu rfl, trivial⟩
  intro s12 w12 h; have HS12 := Aside0.mk h; clear h HS11
  refine tl0 ?_
  refine wp_cond_false rfl ?_
  refine wp_skip ?_
  refine thN ?_
  refine reg0 (aF := ?_) [] [0] false 1 rfl rfl (by kernel_rfl) rfl (fun _ => rfl) ?aF HS12.out ?hs ?_
  rotate_left 1
  case aF => intro s; simp only [putE, EvT.val, Act.put, setIfInBounds_toArray, set_cons_zero, set_cons_succ]; rfl
  case hs => exact trivial
  intro s13 w13 h; have HS13 := Aside0.mk h; clear h HS12
  refine tlP (v := .int .i64 1) 18 rfl ?_
  refine tl0 ?_
  refine reg (aF := ?_) (nw := ?_) [evL 0 89 [] (fun s => .agg #[.slice (s7 1).A r2_0.length (s7 1).c]), evP 1 90 [] (fun s => .int .i64 1), evW 2 (some 91) [] (fun s => .int .i64 r11_0)] [3] [⟨6, 2, [], fun s => ⟨(s7 1).lo, (s7 1).hi, fun w_ => Kd.S (Kd.slice 5 (Kd.int .u8)) 29 w_ w.heap.size (fun k_ => (s7 1).lo ≤ k_ ∧ k_ < (s7 1).hi) (.slice (s7 1).A r2_0.length (s7 1).c) r11_1⟩⟩] false 4 rfl rfl (by kernel_rfl) rfl ((mf1 mf0)) ?aF ?nw HS13.out ?hs ?_
  rotate_left 2
  case aF => intro s; simp only [putE, EvT.val, Act.put, setIfInBounds_toArray, set_cons_zero, set_cons_succ]; rfl
  case nw => intro s; simp only [thA, bsA, List.nil_append, List.cons_append, List.append_nil, if_true, if_false, Nat.reduceLT, set_cons_zero, set_cons_succ]; rfl
  case hs => exact ⟨ld rfl 7 (fun s => rfl) (fun s w h => by have h0 := h 0 _ rfl; clear h; go_simp; try rfl), pu rfl, cw rfl 0 6 rfl rfl (fun s => #[.agg #[.slice (s7 1).A r2_0.length (s7 1).c], .int .i64 1]) Try.func24 (fun s w1 h => (laws_markMemory.calls (fun k_ => (s7 1).lo ≤ k_ ∧ k_ < (s7 1).hi) _ _ _ _ _ w _ h.hb (h.get 0 rfl) H11.out).mono (by rintro e w2 ⟨rfl, ho0, hb, hk⟩; exact ⟨rfl, Wrote.of 0 h rfl hb hk (fun w_ ha => S_again ho0 ha)⟩)), trivial⟩
  intro s14 w14 h; have HS14 := Aside0.mk h; clear h HS13
  refine tlP (v := .int .i64 r11_0) 18 rfl ?_
  refine tl0 ?_
  refine reg (aF := ?_) (nw := ?_) [evP 0 92 [] (fun s => .slice (s8 1).A r4_0.length (s8 1).c), evP 1 93 [] (fun s => .int .i64 r11_0), evW 2 (some 94) [] (fun s => .int .i64 r12_0)] [3] [⟨5, 2, [], fun s => ⟨(s8 1).lo, (s8 1).hi, fun w_ => Kd.R (Kd.int .u8) 5 w_ w.heap.size (fun k_ => (s8 1).lo ≤ k_ ∧ k_ < (s8 1).hi) (.slice (s8 1).A r4_0.length (s8 1).c) r12_1⟩⟩] false 4 rfl rfl (by kernel_rfl) rfl ((mf1 mf0)) ?aF ?nw HS14.out ?hs ?_
  rotate_left 2
  case aF => intro s; simp only [putE, EvT.val, Act.put, setIfInBounds_toArray, set_cons_zero, set_cons_succ]; rfl
  case nw => intro s; simp only [thA, bsA, List.nil_append, List.cons_append, List.append_nil, if_true, if_false, Nat.reduceLT, set_cons_zero, set_cons_succ]; rfl
  case hs => exact ⟨pu rfl, pu rfl, cw rfl 0 5 rfl rfl (fun s => #[.slice (s8 1).A r4_0.length (s8 1).c, .int .i64 r11_0]) Try.func25 (fun s w1 h => (laws_markByteS.calls _ (fun k_ => (s8 1).lo ≤ k_ ∧ k_ < (s8 1).hi) _ _ _ _ _ w _ h.hb (h.get 0 rfl) H12.out).mono (by rintro e w2 ⟨rfl, ho0, hb, hk⟩; exact ⟨rfl, Wrote.of 0 h rfl hb hk (fun w_ ha => R_again (Kd.R_reok rfl ho0 (And.left (show Kd.R _ _ w1 _ _ _ _ from (h.get 0 rfl)))) ha)⟩)), trivial⟩
  intro s15 w15 h; have HS15 := Aside0.mk h; clear h HS14
  refine tlP (v := .int .i64 r12_0) 18 rfl ?_
  refine tl0 ?_
  refine wp_seq ?_
  refine reg0 (aF := ?_) [evP 0 95 [] (fun s => .int .i64 r12_0), evP 1 96 [] (fun s => .bool false), evP 2 97 [] (fun s => .bool false), evL 3 98 [] (fun s => .agg #[.slice (s9 4).A r5_0.length (s9 4).c]), evL 4 99 [] (fun s => .agg #[.slice (s6 6).A r5_0.length (s6 6).c]), evC 5 (some 100) [] (fun s x => .bool true) (fun s x => []), evP 6 101 [] (fun s => .bool false), evP 7 102 [] (fun s => .bool false), evP 8 103 [] (fun s => .bool false), evL 9 104 [] (fun s => .agg #[.int .i64 r5_1, .int .i64 r5_2, .int .i64 r5_3, .int .i64 r5_4, .int .i64 r5_5, .int .i64 r5_6]), evL 10 105 [] (fun s => .agg #[.int .i64 r5_1, .int .i64 r5_2, .int .i64 r5_3, .int .i64 r5_4, .int .i64 r5_5, .int .i64 r5_6]), evC 11 (some 106) [] (fun s x => .bool true) (fun s x => []), evP 12 107 [] (fun s => .bool false), evP 13 108 [] (fun s => .bool false), evP 14 109 [] (fun s => .bool false), evP 15 110 [] (fun s => .int .i64 r5_7), evP 16 111 [] (fun s => .int .i64 r5_7), evP 17 112 [] (fun s => .bool false), evP 18 113 [] (fun s => .bool false), evP 19 114 [] (fun s => .bool false), evP 20 115 [] (fun s => .bool r5_8), evP 21 116 [] (fun s => .bool r5_8), evP 22 117 [] (fun s => .bool false), evP 23 118 [] (fun s => .bool false)] [] false 24 rfl rfl (by kernel_rfl) rfl (fun _ => rfl) ?aF HS15.out ?hs ?_
  rotate_left 1
  case aF => intro s; simp only [putE, EvT.val, Act.put, setIfInBounds_toArray, set_cons_zero, set_cons_succ]; rfl
  case hs => exact ⟨pu rfl, pb (q := .lss) Nb_r12_0 rfl, pu rfl, ld rfl 3 (fun s => rfl) (fun s w h => by have h0 := h 0 _ rfl; clear h; go_simp; try rfl), ld rfl 11 (fun s => rfl) (fun s w h => by have h0 := h 0 _ rfl; clear h; go_simp; try rfl), cl rfl (fun s => #[.agg #[.slice (s9 4).A r5_0.length (s9 4).c], .agg #[.slice (s6 6).A r5_0.length (s6 6).c]]) Try.func21 (fun s w1 h => (laws_eqMemory.calls _ _ _ _ _ _ _ _ _ (Kd.S_reads' (h.get 2 rfl)).2.2 (Kd.S_reads' (h.get 2 rfl)).2.1 (Kd.S_reads' (h.get 10 rfl)).2.2 (Kd.S_reads' (h.get 10 rfl)).2.1 H7.out).mono (by rintro e w2 ⟨rfl, hb⟩; exact fin0 hb)), pu rfl, pu rfl, pu rfl, ld rfl 4 (fun s => rfl) (fun s w h => by have h0 := h 0 _ rfl; have h1 := h 1 _ rfl; have h2 := h 2 _ rfl; have h3 := h 3 _ rfl; have h4 := h 4 _ rfl; have h5 := h 5 _ rfl; clear h; go_simp; try rfl), ld rfl 12 (fun s => rfl) (fun s w h => by have h0 := h 0 _ rfl; have h1 := h 1 _ rfl; have h2 := h 2 _ rfl; have h3 := h 3 _ rfl; have h4 := h 4 _ rfl; have h5 := h 5 _ rfl; clear h; go_simp; try rfl), cl rfl (fun s => #[.agg #[.int .i64 r5_1, .int .i64 r5_2, .int .i64 r5_3, .int .i64 r5_4, .int .i64 r5_5, .int .i64 r5_6], .agg #[.int .i64 r5_1, .int .i64 r5_2, .int .i64 r5_3, .int .i64 r5_4, .int .i64 r5_5, .int .i64 r5_6]]) Try.func22 (fun s w1 h => (laws_eqRing.calls _ _ _ _ _ _ _ _ _ _ _ _ _ _ H8.out).mono (by rintro e w2 ⟨rfl, hb⟩; exact fin0 hb)), pu rfl, pu rfl, pu rfl, pu rfl, pu rfl, pb (q := .neq) (bne_self_eq_false _) rfl, pu rfl, pu rfl, pu rfl, pu rfl, pn Try.underlying4 rfl, pu rfl, trivial⟩
  intro s16 w16 h; have HS16 := Aside0.mk h; clear h HS15
  refine tl0 ?_
  refine wp_cond_false rfl ?_
  refine wp_skip ?_
  refine thN ?_
  refine reg0 (aF := ?_) [] [0] false 1 rfl rfl (by kernel_rfl) rfl (fun _ => rfl) ?aF HS16.out ?hs ?_
  rotate_left 1
  case aF => intro s; simp only [putE, EvT.val, Act.put, setIfInBounds_toArray, set_cons_zero, set_cons_succ]; rfl
  case hs => exact trivial
  intro s17 w17 h; have HS17 := Aside0.mk h; clear h HS16
  refine tlP (v := .int .i64 1) 19 rfl ?_
  refine tl0 ?_
  refine reg (aF := ?_) (nw := ?_) [evL 0 119 [] (fun s => .agg #[.slice (s9 4).A r5_0.length (s9 4).c]), evP 1 120 [] (fun s => .int .i64 1), evW 2 (some 121) [] (fun s => .int .i64 r13_0)] [3] [⟨2, 2, [], fun s => ⟨(s9 4).lo, (s9 4).hi, fun w_ => Kd.S (Kd.slice 5 (Kd.int .u8)) 29 w_ w.heap.size (fun k_ => (s9 4).lo ≤ k_ ∧ k_ < (s9 4).hi) (.slice (s9 4).A r5_0.length (s9 4).c) r13_1⟩⟩] false 4 rfl rfl (by kernel_rfl) rfl ((mf1 mf0)) ?aF ?nw HS17.out ?hs ?_
  rotate_left 2
  case aF => intro s; simp only [putE, EvT.val, Act.put, setIfInBounds_toArray, set_cons_zero, set_cons_succ]; rfl
  case nw => intro s; simp only [thA, bsA, List.nil_append, List.cons_append, List.append_nil, if_true, if_false, Nat.reduceLT, set_cons_zero, set_cons_succ]; rfl
  case hs => exact ⟨ld rfl 3 (fun s => rfl) (fun s w h => by have h0 := h 0 _ rfl; clear h; go_simp; try rfl), pu rfl, cw rfl 0 2 rfl rfl (fun s => #[.agg #[.slice (s9 4).A r5_0.length (s9 4).c], .int .i64 1]) Try.func24 (fun s w1 h => (laws_markMemory.calls (fun k_ => (s9 4).lo ≤ k_ ∧ k_ < (s9 4).hi) _ _ _ _ _ w _ h.hb (h.get 0 rfl) H13.out).mono (by rintro e w2 ⟨rfl, ho0, hb, hk⟩; exact ⟨rfl, Wrote.of 0 h rfl hb hk (fun w_ ha => S_again ho0 ha)⟩)), trivial⟩
  intro s18 w18 h; have HS18 := Aside0.mk h; clear h HS17
  refine tlP (v := .int .i64 r13_0) 19 rfl ?_
  refine tl0 ?_
  refine reg0 (aF := ?_) [] [0] false 1 rfl rfl (by kernel_rfl) rfl (fun _ => rfl) ?aF HS18.out ?hs ?_
  rotate_left 1
  case aF => intro s; simp only [putE, EvT.val, Act.put, setIfInBounds_toArray, set_cons_zero, set_cons_succ]; rfl
  case hs => exact trivial
  intro s19 w19 h; have HS19 := Aside0.mk h; clear h HS18
  refine tlP (v := .int .i64 1) 20 rfl ?_
  refine tl0 ?_
  refine reg0 (aF := ?_) [evL 0 122 [] (fun s => .agg #[.slice (s9 4).A r5_0.length (s9 4).c]), evP 1 123 [] (fun s => .int .i64 1), evC 2 (some 124) [] (fun s x => .int .i64 r13_0) (fun s x => [])] [3] false 4 rfl rfl (by kernel_rfl) rfl (fun _ => rfl) ?aF HS19.out ?hs ?_
  rotate_left 1
  case aF => intro s; simp only [putE, EvT.val, Act.put, setIfInBounds_toArray, set_cons_zero, set_cons_succ]; rfl
  case hs => exact ⟨ld rfl 3 (fun s => rfl) (fun s w h => by have h0 := h 0 _ rfl; clear h; go_simp; try rfl), pu rfl, cl rfl (fun s => #[.agg #[.slice (s9 4).A r5_0.length (s9 4).c], .int .i64 1]) Try.func26 (fun s w1 h => by rw [show r5_0.length = r13_1.length from (Kd.S_reads' (h.get 2 rfl)).1]; exact (laws_heldMemory.calls _ _ _ _ _ _ _ ((Kd.S_reads' (h.get 2 rfl)).1 ▸ (Kd.S_reads' (h.get 2 rfl)).2.2) ((Kd.S_reads' (h.get 2 rfl)).1 ▸ (Kd.S_reads' (h.get 2 rfl)).2.1) H14.out).mono (by rintro e w2 ⟨rfl, hb⟩; exact fin0 hb)), trivial⟩
  intro s20 w20 h; have HS20 := Aside0.mk h; clear h HS19
  refine tlP (v := .int .i64 r13_0) 20 rfl ?_
  refine tl0 ?_
  refine wp_seq ?_
  refine reg0 (aF := ?_) [evP 0 125 [] (fun s => .int .i64 r13_0), evP 1 126 [] (fun s => .bool false)] [] false 2 rfl rfl (by kernel_rfl) rfl (fun _ => rfl) ?aF HS20.out ?hs ?_
  rotate_left 1
  case aF => intro s; simp only [putE, EvT.val, Act.put, setIfInBounds_toArray, set_cons_zero, set_cons_succ]; rfl
  case hs => exact ⟨pu rfl, pb (q := .lss) Nb_r13_0 rfl, trivial⟩
  intro s21 w21 h; have HS21 := Aside0.mk h; clear h HS20
  refine tl0 ?_
  refine wp_cond_false rfl ?_
  refine wp_skip ?_
  refine thN ?_
  refine wp_seq ?_
  refine reg0 (aF := ?_) [evP 0 127 [] (fun s => .int .i64 r13_0), evP 1 128 [] (fun s => .int .i64 r13_0), evP 2 129 [] (fun s => .bool false)] [] false 3 rfl rfl (by kernel_rfl) rfl (fun _ => rfl) ?aF HS21.out ?hs ?_
  rotate_left 1
  case aF => intro s; simp only [putE, EvT.val, Act.put, setIfInBounds_toArray, set_cons_zero, set_cons_succ]; rfl
  case hs => exact ⟨pu rfl, pu rfl, pb (q := .neq) (bne_self_eq_false _) rfl, trivial⟩
  intro s22 w22 h; have HS22 := Aside0.mk h; clear h HS21
  refine tl0 ?_
  refine wp_cond_false rfl ?_
  refine wp_skip ?_
  refine thN ?_
  refine reg (aF := ?_) (nw := ?_) [evL 0 131 [] (fun s => .agg #[.slice A0_0 l0_0.length c0_0]), evC 1 (some 132) [] (fun s x => .agg #[.slice x.A r2_0.length x.c]) (fun s x => [rowS (Kd.slice 5 (Kd.int .u8)) 29 w x.lo x.hi x.A x.c r2_0]), evL 2 133 [] (fun s => .agg #[.int .i64 a1_0, .int .i64 a1_1, .int .i64 a1_2, .int .i64 a1_3, .int .i64 a1_4, .int .i64 a1_5]), evC 3 (some 134) [] (fun s x => .agg #[.int .i64 r3_0, .int .i64 r3_1, .int .i64 r3_2, .int .i64 r3_3, .int .i64 r3_4, .int .i64 r3_5]) (fun s x => []), evP 4 135 [] (fun s => .slice A2_0 l2_0.length c2_0), evC 5 (some 136) [] (fun s x => .slice x.A r4_0.length x.c) (fun s x => [rowR (Kd.int .u8) 5 w x.lo x.hi x.A x.c r4_0]), evC 6 (some 137) [1, 5] (fun s x => .tuple #[.agg #[.slice x.A r5_0.length x.c], .agg #[.int .i64 r5_1, .int .i64 r5_2, .int .i64 r5_3, .int .i64 r5_4, .int .i64 r5_5, .int .i64 r5_6], .int .i64 r5_7, .bool r5_8]) (fun s x => [rowS (Kd.slice 5 (Kd.int .u8)) 29 w x.lo x.hi x.A x.c r5_0]), evP 7 130 [6] (fun s => .tuple #[.agg #[.slice (s 6).A r5_0.length (s 6).c], .agg #[.int .i64 r5_1, .int .i64 r5_2, .int .i64 r5_3, .int .i64 r5_4, .int .i64 r5_5, .int .i64 r5_6], .int .i64 r5_7, .bool r5_8]), evP 8 138 [6] (fun s => .agg #[.slice (s 6).A r5_0.length (s 6).c]), evP 9 139 [] (fun s => .agg #[.int .i64 r5_1, .int .i64 r5_2, .int .i64 r5_3, .int .i64 r5_4, .int .i64 r5_5, .int .i64 r5_6]), evP 10 140 [] (fun s => .int .i64 r5_7), evP 11 141 [] (fun s => .bool r5_8), evB 12 21 [] 31 (fun s => #[.slice none 0 0]) 14 [6] (fun s => #[.slice (s 6).A r5_0.length (s 6).c]), evB 13 22 [] 34 (fun s => #[.int .i64 0, .int .i64 0, .int .i64 0, .int .i64 0, .int .i64 0, .int .i64 0]) 15 [] (fun s => #[.int .i64 r5_1, .int .i64 r5_2, .int .i64 r5_3, .int .i64 r5_4, .int .i64 r5_5, .int .i64 r5_6]), evS 14, evS 15, evP 16 23 [] (fun s => .int .i64 r5_7)] [17] [] true 18 rfl rfl (by kernel_rfl) rfl (mf0) ?aF ?nw HS22.out ?hs ?_
  rotate_left 2
  case aF => intro s; simp only [putE, EvT.val, Act.put, setIfInBounds_toArray, set_cons_zero, set_cons_succ]; rfl
  case nw => intro s; simp only [thA, bsA, List.nil_append, List.cons_append, List.append_nil, if_true, if_false, Nat.reduceLT, set_cons_zero, set_cons_succ]; rfl
  case hs => exact ⟨ld rfl 13 (fun s => rfl) (fun s w h => by have h0 := h 0 _ rfl; clear h; go_simp; try rfl), cl rfl (fun s => #[.agg #[.slice A0_0 l0_0.length c0_0]]) Try.func17 (fun s w1 h => (laws_toMemory.calls _ _ _ _ _ (Kd.C_below HR0_0.out h.hb) HC0_0.out H2.out).mono (by rintro e w2 ⟨v0_, rfl, ho0, hb⟩; obtain ⟨x, rfl, hx⟩ := fin_S ho0 hb h.hb.size; exact ⟨x, rfl, hx⟩)), ld rfl 14 (fun s => rfl) (fun s w h => by have h0 := h 0 _ rfl; have h1 := h 1 _ rfl; have h2 := h 2 _ rfl; have h3 := h 3 _ rfl; have h4 := h 4 _ rfl; have h5 := h 5 _ rfl; clear h; go_simp; try rfl), cl rfl (fun s => #[.agg #[.int .i64 a1_0, .int .i64 a1_1, .int .i64 a1_2, .int .i64 a1_3, .int .i64 a1_4, .int .i64 a1_5]]) Try.func18 (fun s w1 h => (laws_toRing.calls _ _ _ _ _ _ _ _ _ _ _ _ _ H3.out).mono (by rintro e w2 ⟨rfl, hb⟩; exact fin0 hb)), pu rfl, cl rfl (fun s => #[.slice A2_0 l2_0.length c2_0]) Try.func19 (fun s w1 h => (laws_toByteS.calls _ _ _ _ _ _ (Kd.C_below HR2_0.out h.hb) HC2_0.out H4.out).mono (by rintro e w2 ⟨v0_, rfl, ho0, hb⟩; obtain ⟨x, rfl, hx⟩ := fin_R ho0 hb h.hb.size; exact ⟨x, rfl, hx⟩)), cl rfl (fun s => #[.agg #[.slice (s 1).A r2_0.length (s 1).c], .agg #[.int .i64 r3_0, .int .i64 r3_1, .int .i64 r3_2, .int .i64 r3_3, .int .i64 r3_4, .int .i64 r3_5], .slice (s 5).A r4_0.length (s 5).c]) Try.func20 (fun s w1 h => (impl_PushAll.calls _ _ _ _ _ _ _ _ _ _ _ _ _ _ _ _ _ _ _ _ _ _ (Kd.S_reads' (h.get 0 rfl)).2.2 (Kd.S_reads' (h.get 0 rfl)).2.1 (Kd.R_reads' (h.get 1 rfl)).2.2 (Kd.R_reads' (h.get 1 rfl)).2.1 H6.out).mono (by rintro e w2 ⟨v0_, rfl, ho0, hb⟩; obtain ⟨x, rfl, hx⟩ := fin_S ho0 hb h.hb.size; exact ⟨x, rfl, hx⟩)), pu rfl, pu rfl, pu rfl, pu rfl, pu rfl, bv rfl (fun s w => by go_simp; try rfl), bv rfl (fun s w => by go_simp; try rfl), st rfl 12 0 (fun s => [.slice (s 6).A r5_0.length (s 6).c]) rfl (fun s w h hf => by have h0 := h 0 _ rfl; have f0 := hf 0; clear h hf; go_simp; try rfl), st rfl 13 0 (fun s => [.int .i64 r5_1, .int .i64 r5_2, .int .i64 r5_3, .int .i64 r5_4, .int .i64 r5_5, .int .i64 r5_6]) rfl (fun s w h hf => by have h0 := h 0 _ rfl; have f0 := hf 0; have h1 := h 1 _ rfl; have f1 := hf 1; have h2 := h 2 _ rfl; have f2 := hf 2; have h3 := h 3 _ rfl; have f3 := hf 3; have h4 := h 4 _ rfl; have f4 := hf 4; have h5 := h 5 _ rfl; have f5 := hf 5; clear h hf; go_simp; try rfl), pu rfl, trivial⟩
  intro s23 w23 h; have HS23 := Aside0.mk h; clear h HS22
  refine tlP (v := .bool r5_8) 24 rfl ?_
  refine tl0 ?_
  refine wp_seq ?_
  refine reg0 (aF := ?_) [evL 0 142 [] (fun s => .agg #[.slice (s23 6).A r5_0.length (s23 6).c]), evL 1 143 [] (fun s => .agg #[.slice (s6 6).A r5_0.length (s6 6).c]), evC 2 (some 144) [] (fun s x => .bool true) (fun s x => []), evP 3 145 [] (fun s => .bool false), evP 4 146 [] (fun s => .bool false), evL 5 147 [] (fun s => .agg #[.int .i64 r5_1, .int .i64 r5_2, .int .i64 r5_3, .int .i64 r5_4, .int .i64 r5_5, .int .i64 r5_6]), evL 6 148 [] (fun s => .agg #[.int .i64 r5_1, .int .i64 r5_2, .int .i64 r5_3, .int .i64 r5_4, .int .i64 r5_5, .int .i64 r5_6]), evC 7 (some 149) [] (fun s x => .bool true) (fun s x => []), evP 8 150 [] (fun s => .bool false), evP 9 151 [] (fun s => .bool false), evP 10 152 [] (fun s => .bool false), evP 11 153 [] (fun s => .int .i64 r5_7), evP 12 154 [] (fun s => .int .i64 r5_7), evP 13 155 [] (fun s => .bool false), evP 14 156 [] (fun s => .bool false), evP 15 157 [] (fun s => .bool false), evP 16 158 [] (fun s => .bool r5_8), evP 17 159 [] (fun s => .bool r5_8), evP 18 160 [] (fun s => .bool false), evP 19 161 [] (fun s => .bool false)] [] false 20 rfl rfl (by kernel_rfl) rfl (fun _ => rfl) ?aF HS23.out ?hs ?_
  rotate_left 1
  case aF => intro s; simp only [putE, EvT.val, Act.put, setIfInBounds_toArray, set_cons_zero, set_cons_succ]; rfl
  case hs => exact ⟨ld rfl 3 (fun s => rfl) (fun s w h => by have h0 := h 0 _ rfl; clear h; go_simp; try rfl), ld rfl 16 (fun s => rfl) (fun s w h => by have h0 := h 0 _ rfl; clear h; go_simp; try rfl), cl rfl (fun s => #[.agg #[.slice (s23 6).A r5_0.length (s23 6).c], .agg #[.slice (s6 6).A r5_0.length (s6 6).c]]) Try.func21 (fun s w1 h => (laws_eqMemory.calls _ _ _ _ _ _ _ _ _ (Kd.S_reads' (h.get 2 rfl)).2.2 (Kd.S_reads' (h.get 2 rfl)).2.1 (Kd.S_reads' (h.get 15 rfl)).2.2 (Kd.S_reads' (h.get 15 rfl)).2.1 H7.out).mono (by rintro e w2 ⟨rfl, hb⟩; exact fin0 hb)), pu rfl, pu rfl, ld rfl 4 (fun s => rfl) (fun s w h => by have h0 := h 0 _ rfl; have h1 := h 1 _ rfl; have h2 := h 2 _ rfl; have h3 := h 3 _ rfl; have h4 := h 4 _ rfl; have h5 := h 5 _ rfl; clear h; go_simp; try rfl), ld rfl 17 (fun s => rfl) (fun s w h => by have h0 := h 0 _ rfl; have h1 := h 1 _ rfl; have h2 := h 2 _ rfl; have h3 := h 3 _ rfl; have h4 := h 4 _ rfl; have h5 := h 5 _ rfl; clear h; go_simp; try rfl), cl rfl (fun s => #[.agg #[.int .i64 r5_1, .int .i64 r5_2, .int .i64 r5_3, .int .i64 r5_4, .int .i64 r5_5, .int .i64 r5_6], .agg #[.int .i64 r5_1, .int .i64 r5_2, .int .i64 r5_3, .int .i64 r5_4, .int .i64 r5_5, .int .i64 r5_6]]) Try.func22 (fun s w1 h => (laws_eqRing.calls _ _ _ _ _ _ _ _ _ _ _ _ _ _ H8.out).mono (by rintro e w2 ⟨rfl, hb⟩; exact fin0 hb)), pu rfl, pu rfl, pu rfl, pu rfl, pu rfl, pb (q := .neq) (bne_self_eq_false _) rfl, pu rfl, pu rfl, pu rfl, pu rfl, pn Try.underlying4 rfl, pu rfl, trivial⟩
  intro s24 w24 h; have HS24 := Aside0.mk h; clear h HS23
  refine tl0 ?_
  refine wp_cond_false rfl ?_
  refine wp_skip ?_
  refine thN ?_
  refine reg0 (aF := ?_) [] [0] false 1 rfl rfl (by kernel_rfl) rfl (fun _ => rfl) ?aF HS24.out ?hs ?_
  rotate_left 1
  case aF => intro s; simp only [putE, EvT.val, Act.put, setIfInBounds_toArray, set_cons_zero, set_cons_succ]; rfl
  case hs => exact trivial
  intro s25 w25 h; have HS25 := Aside0.mk h; clear h HS24
  refine tlP (v := .int .i64 1) 20 rfl ?_
  refine tl0 ?_
  refine reg0 (aF := ?_) [evL 0 162 [] (fun s => .agg #[.slice (s9 4).A r5_0.length (s9 4).c]), evP 1 163 [] (fun s => .int .i64 1), evC 2 (some 164) [] (fun s x => .int .i64 r13_0) (fun s x => [])] [3] false 4 rfl rfl (by kernel_rfl) rfl (fun _ => rfl) ?aF HS25.out ?hs ?_
  rotate_left 1
  case aF => intro s; simp only [putE, EvT.val, Act.put, setIfInBounds_toArray, set_cons_zero, set_cons_succ]; rfl
  case hs => exact ⟨ld rfl 8 (fun s => rfl) (fun s w h => by have h0 := h 0 _ rfl; clear h; go_simp; try rfl), pu rfl, cl rfl (fun s => #[.agg #[.slice (s9 4).A r5_0.length (s9 4).c], .int .i64 1]) Try.func26 (fun s w1 h => by rw [show r5_0.length = r13_1.length from (Kd.S_reads' (h.get 7 rfl)).1]; exact (laws_heldMemory.calls _ _ _ _ _ _ _ ((Kd.S_reads' (h.get 7 rfl)).1 ▸ (Kd.S_reads' (h.get 7 rfl)).2.2) ((Kd.S_reads' (h.get 7 rfl)).1 ▸ (Kd.S_reads' (h.get 7 rfl)).2.1) H14.out).mono (by rintro e w2 ⟨rfl, hb⟩; exact fin0 hb)), trivial⟩
  intro s26 w26 h; have HS26 := Aside0.mk h; clear h HS25
  refine tlP (v := .int .i64 r13_0) 20 rfl ?_
  refine tl0 ?_
  refine wp_seq ?_
  refine reg0 (aF := ?_) [evP 0 165 [] (fun s => .int .i64 r13_0), evP 1 166 [] (fun s => .bool false)] [] false 2 rfl rfl (by kernel_rfl) rfl (fun _ => rfl) ?aF HS26.out ?hs ?_
  rotate_left 1
  case aF => intro s; simp only [putE, EvT.val, Act.put, setIfInBounds_toArray, set_cons_zero, set_cons_succ]; rfl
  case hs => exact ⟨pu rfl, pb (q := .lss) Nb_r13_0 rfl, trivial⟩
  intro s27 w27 h; have HS27 := Aside0.mk h; clear h HS26
  refine tl0 ?_
  refine wp_cond_false rfl ?_
  refine wp_skip ?_
  refine thN ?_
  refine wp_seq ?_
  refine reg0 (aF := ?_) [evP 0 167 [] (fun s => .int .i64 r13_0), evP 1 168 [] (fun s => .int .i64 r13_0), evP 2 169 [] (fun s => .bool false)] [] false 3 rfl rfl (by kernel_rfl) rfl (fun _ => rfl) ?aF HS27.out ?hs ?_
  rotate_left 1
  case aF => intro s; simp only [putE, EvT.val, Act.put, setIfInBounds_toArray, set_cons_zero, set_cons_succ]; rfl
  case hs => exact ⟨pu rfl, pu rfl, pb (q := .neq) (bne_self_eq_false _) rfl, trivial⟩
  intro s28 w28 h; have HS28 := Aside0.mk h; clear h HS27
  refine tl0 ?_
  refine wp_cond_false rfl ?_
  refine wp_skip ?_
  refine thN ?_
  refine reg0 (aF := ?_) [] [0] false 1 rfl rfl (by kernel_rfl) rfl (fun _ => rfl) ?aF HS28.out ?hs ?_
  rotate_left 1
  case aF => intro s; simp only [putE, EvT.val, Act.put, setIfInBounds_toArray, set_cons_zero, set_cons_succ]; rfl
  case hs => exact trivial
  intro s29 w29 h; have HS29 := Aside0.mk h; clear h HS28
  refine tlP (v := .bool true) 6 rfl ?_
  refine tl0 ?_
  refine wp_ret ?_
  go_ret
  exact ⟨by first | rfl | simp, HS29.out.hb⟩
end Go.Proofs.Ytaieobidkmihkaa.P


/- The law FnExactPushAll. -/
namespace Go.Proofs.Ytaieobidkmihkaa.P
open Go.RowKit Go.Proofs.YtaieobidkmihkaaW.PrintWords Go.Proofs.YtaieobidkmihkaaW.Mine
set_option linter.unusedVariables false
theorem FnExactPushAll_walk (w : World) (cs0 : Array Value) (a0 : (List (List Int))) (hK0 : (Kd.slice 29 (Kd.slice 5 (Kd.int .u8))).K w a0 cs0.toList) (ok0 : (∀ y1 ∈ a0, (∀ y2 ∈ y1, (Lit.int .u8 y2).wf = true))) (cs1 : Array Value) (a1 : ((Int × (Int × (Int × Int))) × (Int × Int))) (hK1 : (Kd.pair (Kd.pair (Kd.int .i64) (Kd.pair (Kd.int .i64) (Kd.pair (Kd.int .i64) (Kd.int .i64)))) (Kd.pair (Kd.int .i64) (Kd.int .i64))).K w a1 cs1.toList) (ok1 : (((Lit.int .i64 a1.1.1).wf = true ∧ ((Lit.int .i64 a1.1.2.1).wf = true ∧ ((Lit.int .i64 a1.1.2.2.1).wf = true ∧ (Lit.int .i64 a1.1.2.2.2).wf = true))) ∧ ((Lit.int .i64 a1.2.1).wf = true ∧ (Lit.int .i64 a1.2.2).wf = true))) (A2 : Option Addr) (len2 cap2 : Nat) (a2 : (List Int)) (hK2 : (Kd.slice 5 (Kd.int .u8)).K w a2 [.slice A2 len2 cap2]) (ok2 : (∀ y1 ∈ a2, (Lit.int .u8 y1).wf = true)) :
    Calls Try.prog 3 #[.agg cs0, .agg cs1, .slice A2 len2 cap2] w fun e w' => e = .returned (.bool true) ∧ Below w.heap.size w w' := by
  obtain ⟨A0, c0, hcs0, hc0, hr0⟩ := hK0
  obtain rfl := agg_of hcs0
  obtain ⟨⟨x10, x11, x12, x13⟩, x14, x15⟩ := a1
  obtain ⟨_, _, hcs1, ⟨_, _, rfl, rfl, ⟨_, _, rfl, rfl, ⟨_, _, rfl, rfl, rfl⟩⟩⟩, ⟨_, _, rfl, rfl, rfl⟩⟩ := hK1
  obtain rfl := agg_of hcs1
  obtain ⟨_, _, he2, hc2, hr2⟩ := hK2
  cases he2
  by_cases hg : (a2.length : Int) > 1048576
  · exact FnExactPushAll_run0 A0 c0 a0 x10 x11 x12 x13 x14 x15 _ _ a2 w hr0 hc0 hr2 hc2 hg
  have hl : a2.length ≤ 1048576 := by omega
  obtain ⟨r, hz, hh⟩ := szMemory_f a0 1048576 (by omega) (by omega) hr0.2.1 (C_inner_len hr0)
  rcases hh with ⟨hm, h5⟩ | rfl
  · have hs : -9223372036854775808 ≤ x11 ∧ x11 ≤ 9223372036854775807 := wf_i64 ok1.1.2.1
    have h6 := pushAllB_ok a0 x10 x11 x12 x13 x14 x15 a2
    exact FnExactPushAll_run A0 c0 a0 x10 x11 x12 x13 x14 x15 _ _ a2 _ _ _ _ _ _ _ _ _ _ _ _ _ _ _ _ _ _ _ _ _ _ _ _ w hr0 hc0 hr2 hc2 hz.rounds (toMemory_f a0 hm) (toRing_f _ _ _ _ _ _) (toByteS_f a2 (by omega)).rounds (specPushAll_f a0 x10 x11 x12 x13 x14 x15 a2 hm hs) (implPushAll_f a0 x10 x11 x12 x13 x14 x15 a2 hm) (eqM _ h6).rounds (eqRing_f _ _ _ _ _ _) (eqM _ hm).rounds (eqByteS_f a2 (by omega)).rounds (markM _ hm) (markByteS_f a2 _ (by omega) (by have := hm.2.2; omega)).rounds (markM _ h6) (heldMemory_f _ h6).rounds hg (by omega) (markM_pos _) (by omega)
  · exact FnExactPushAll_run1 A0 c0 a0 x10 x11 x12 x13 x14 x15 _ _ a2 _ w hr0 hc0 hr2 hc2 hz.rounds hg (by omega)
end Go.Proofs.Ytaieobidkmihkaa.P


namespace Go.Proofs.Ytaieobidkmihkaa.fnExactPushAll
open Go.ChangeShapes Go.WideShapes Go.ChangeAt Go.RowKit Go.Proofs.YtaieobidkmihkaaW.PrintWords Go.Proofs.YtaieobidkmihkaaW.Mine Go.Proofs.Ytaieobidkmihkaa.P
open Go.ChangeMaps (open_string shut_string)
set_option linter.unusedVariables false
theorem own : ownKnob Try.prog.godebug = none := by kernel_rfl
theorem laidOut : laidOutB Try.prog = true := by kernel_rfl
set_option maxRecDepth 100000 in
theorem lifted (os : Os) (started : os.Started) (H : Type) (enc : TypeId × Value → H) :
    ReturnsInHanded {} Try.checked os 3 .any (Rows.fnExactPushAllSpec.pre6 enc Try.prog Try.f3 Rows.fnExactPushAllRow.domain false) (Rows.fnExactPushAllSpec.post enc Try.prog Try.f3 false true false false) := by
  refine returnsInHanded_of_change_sized (C := Try.checked) own started (by kernel_rfl) Try.func3
    (ChangeSpec.witness6 (enc := enc) (C := Try.checked) false ⟨#[], #[.agg #[.slice none 0 0], .agg #[.int .i64 0, .int .i64 0, .int .i64 0, .int .i64 0, .int .i64 0, .int .i64 0], .slice none 0 0], []⟩ 8 (by kernel_rfl) (by kernel_rfl) (by kernel_rfl) (by kernel_rfl)) ?_
  intro W base args ds gs before hval0 hW hcnd hsz0 _
  have hval : ∀ (j : Nat) t v, Try.f3.params[j]? = some t → args[j]? = some v → Value.okWide Try.prog W .any base t v := hval0
  have hW' := hW
  obtain ⟨p, q, hA0, hV, rfl, hfz, hnd⟩ := hW
  have hA : DataW.TrodAll enc Try.prog W 0 (fun _ => true) true Try.f3.params.toList args.toList ds p := hA0
  rw [Try.params3] at hA hval
  obtain ⟨v0, vs0, d0, ds0, p0, q0, hargs, rfl, rfl, h0, r0⟩ := trodAll_cons hA
  obtain ⟨v1, vs1, d1, ds1, p1, q1, rfl, rfl, rfl, h1, r1⟩ := trodAll_cons r0
  obtain ⟨v2, vs2, d2, ds2, p2, q2, rfl, rfl, rfl, h2, r2⟩ := trodAll_cons r1
  obtain ⟨rfl, rfl, rfl⟩ := trodAll_nil r2
  obtain rfl : args = #[v0, v1, v2] := by cases args; simp_all
  obtain ⟨rfl, rfl⟩ := trodVars_none hV
  have k0 := h0
  have lt0 : ∀ x ∈ p0, x.block < W.heap.size := by obtain ⟨m, hm⟩ := k0; exact DataW.trod_lt m _ _ _ hm
  obtain ⟨cs0, rfl, _⟩ := okWide_struct Try.underlying24 (hval 0 24 v0 rfl rfl)
  obtain ⟨a0, hK0, ok0⟩ : ∃ a : (List (List Int)), (Kd.slice 29 (Kd.slice 5 (Kd.int .u8))).K W a cs0.toList ∧ (∀ y1 ∈ a, (∀ y2 ∈ y1, (Lit.int .u8 y2).wf = true)) := by obtain ⟨fuel, hf⟩ := h0; exact (ReadsK.struct Try.underlying24 (by kernel_rfl) (ReadsF.last rfl (ReadsK.slice Try.underlying22 (by kernel_rfl) (ReadsK.slice Try.underlying29 (by kernel_rfl) (ReadsK.int Try.underlying5))) (by kernel_rfl))) hf
  have k1 := h1
  have lt1 : ∀ x ∈ p1, x.block < W.heap.size := by obtain ⟨m, hm⟩ := k1; exact DataW.trod_lt m _ _ _ hm
  obtain ⟨cs1, rfl, _⟩ := okWide_struct Try.underlying28 (hval 1 28 v1 rfl rfl)
  obtain ⟨a1, hK1, ok1⟩ : ∃ a : ((Int × (Int × (Int × Int))) × (Int × Int)), (Kd.pair (Kd.pair (Kd.int .i64) (Kd.pair (Kd.int .i64) (Kd.pair (Kd.int .i64) (Kd.int .i64)))) (Kd.pair (Kd.int .i64) (Kd.int .i64))).K W a cs1.toList ∧ (((Lit.int .i64 a.1.1).wf = true ∧ ((Lit.int .i64 a.1.2.1).wf = true ∧ ((Lit.int .i64 a.1.2.2.1).wf = true ∧ (Lit.int .i64 a.1.2.2.2).wf = true))) ∧ ((Lit.int .i64 a.2.1).wf = true ∧ (Lit.int .i64 a.2.2).wf = true)) := by obtain ⟨fuel, hf⟩ := h1; exact (ReadsK.struct Try.underlying28 (by kernel_rfl) (ReadsF.cons rfl (ReadsK.struct Try.underlying26 (by kernel_rfl) (ReadsF.cons rfl (ReadsK.int Try.underlying3) (by kernel_rfl) (ReadsF.cons rfl (ReadsK.int Try.underlying3) (by kernel_rfl) (ReadsF.cons rfl (ReadsK.int Try.underlying3) (by kernel_rfl) (ReadsF.last rfl (ReadsK.int Try.underlying3) (by kernel_rfl)))))) (by kernel_rfl) (ReadsF.cons rfl (ReadsK.int Try.underlying3) (by kernel_rfl) (ReadsF.last rfl (ReadsK.int Try.underlying3) (by kernel_rfl))))) hf
  have k2 := h2
  have lt2 : ∀ x ∈ p2, x.block < W.heap.size := by obtain ⟨m, hm⟩ := k2; exact DataW.trod_lt m _ _ _ hm
  obtain ⟨A2, len2, cap2, rfl⟩ := okWide_slice Try.underlying29 (hval 2 29 v2 rfl rfl)
  obtain ⟨a2, hK2, ok2⟩ : ∃ a : (List Int), (Kd.slice 5 (Kd.int .u8)).K W a [.slice A2 len2 cap2] ∧ (∀ y1 ∈ a, (Lit.int .u8 y1).wf = true) := by obtain ⟨fuel, hf⟩ := h2; exact (ReadsK.slice Try.underlying29 (by kernel_rfl) (ReadsK.int Try.underlying5)) hf
  clear hA0 hval0 hsz0
  refine (FnExactPushAll_walk W cs0 a0 hK0 ok0 cs1 a1 hK1 ok1 A2 len2 cap2 a2 hK2 ok2).mono fun e W' ⟨he, bel⟩ => ?_
  subst he
  exact ⟨_, rfl, _, _, _, [], _, [], hW', trodAll_mk1 (shut_bool Try.underlying4 _), (trodAll_cons_mk (Below.trod laidOut (by kernel_rfl) (of_decide_eq_true (by kernel_rfl)) k0 bel lt0) (trodAll_cons_mk (Below.trod laidOut (by kernel_rfl) (of_decide_eq_true (by kernel_rfl)) k1 bel lt1) (trodAll_cons_mk (Below.trod laidOut (by kernel_rfl) (of_decide_eq_true (by kernel_rfl)) k2 bel lt2) trodAll_mk0))), rfl, bel.frame _, fun h => by cases h⟩
theorem over : Rows.fnExactPushAllRow.holds Try.pinned (OpenSpec.ofChange Rows.fnExactPushAllSpec) :=
  OpenClaim.holds_of_wide 3 Try.f3 rfl rfl rfl rfl rfl rfl rfl ⟨rfl, rfl, rfl, rfl, rfl⟩ rfl rfl rfl rfl rfl (by kernel_rfl) Try.func3 (by kernel_rfl)
    (of_decide_eq_true (by kernel_rfl)) (by unfold Func.isWrapper; first | (rw [if_pos (by decide +kernel)]; kernel_rfl) | (rw [if_neg (by decide +kernel)]; exact ⟨rfl, rfl⟩))
    (fun os started H enc _ => lifted os started H enc)
theorem proved : Rows.FnExactPushAllSaid := over
end Go.Proofs.Ytaieobidkmihkaa.fnExactPushAll
namespace Go.Proofs.Ytaieobidkmihkaa
theorem fnExactPushAll_holds : Rows.FnExactPushAllSaid := fnExactPushAll.proved
#print axioms fnExactPushAll_holds
end Go.Proofs.Ytaieobidkmihkaa


