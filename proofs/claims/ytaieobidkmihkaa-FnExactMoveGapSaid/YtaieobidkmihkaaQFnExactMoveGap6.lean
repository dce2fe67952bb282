/- For all arguments, impl.MoveGap answers what spec.MoveGap answers, leaves its arguments alone, and shares nothing of what it returns.
   The row of the law FnExactMoveGap, out of its walk. Conditions: none. -/
import Derived.Test.YtaieobidkmihkaaQFnExactMoveGap5
import Derived.Test.YtaieobidkmihkaaRows
import Derived.WalkKit
import Derived.ProofKit
import Derived.OpenShut
import Derived.ShutString
import Derived.ChangeOld
import Derived.Below
import Derived.SizedLaws
-- written by wip/gen_law.py
namespace Go.Proofs.Ytaieobidkmihkaa.P
open Go.RowKit Go.Proofs.YtaieobidkmihkaaW.PrintWords Go.Proofs.YtaieobidkmihkaaW.PrintLast Go.Proofs.YtaieobidkmihkaaW.PrintMore Go.Proofs.YtaieobidkmihkaaW.Mine
open List (setIfInBounds_toArray set_cons_zero set_cons_succ)
attribute [local go_sem] max2_int min2_int max_two min_two max_three min_three max_four min_four
set_option linter.unusedVariables false
set_option linter.unusedSimpArgs false
set_option maxHeartbeats 8000000 in
set_option maxRecDepth 100000 in
theorem FnExactMoveGap_run0 (A0_0 : Option Addr) (c0_0 : Nat) (l0_0 : List (List Int)) (a0_1 : Int) (a0_2 : Int) (a0_3 : Int) (a0_4 : Int) (a0_5 : Int) (a0_6 : Int) (a1_0 : Int) (r1_0 : Int) (w : World) (hr0_0 : Kd.C (Kd.slice 5 (Kd.int .u8)) w A0_0 l0_0.length l0_0) (hc0_0 : l0_0.length ≤ c0_0) (H1 : ∃ k, laws_szGap.f k l0_0 a0_1 a0_2 a0_3 a0_4 a0_5 a0_6 1048576 = some r1_0) (P_ : r1_0 < 0) :
    Calls Try.prog 13 #[.agg #[.slice A0_0 l0_0.length c0_0, .int .i64 a0_1, .int .i64 a0_2, .int .i64 a0_3, .int .i64 a0_4, .int .i64 a0_5, .int .i64 a0_6], .int .i64 a1_0] w fun e w' => e = .returned (.bool true) ∧ Below w.heap.size w w' := by
  have HR0_0 := Aside0.mk hr0_0; have HC0_0 := Aside0.mk hc0_0; clear hr0_0 hc0_0
  obtain ⟨k, H1_⟩ := H1; have H1 := Aside0.mk H1_; clear H1_
  have Pb_ : decide (r1_0 < 0) = true := decide_eq_true P_; clear P_
  have HS0 : Aside0 (Stk w [] w) := ⟨Stk.nil w⟩
  go_enter Try.func13, Try.ntmps13
  refine reg (aF := ?_) (nw := ?_) [evB 0 2 [] 50 (fun s => #[.slice A0_0 l0_0.length c0_0, .int .i64 a0_1, .int .i64 a0_2, .int .i64 a0_3, .int .i64 a0_4, .int .i64 a0_5, .int .i64 a0_6]) 9999 [] (fun s => #[.slice A0_0 l0_0.length c0_0, .int .i64 a0_1, .int .i64 a0_2, .int .i64 a0_3, .int .i64 a0_4, .int .i64 a0_5, .int .i64 a0_6]), evP 1 4 [] (fun s => .bool false)] [] [] false 2 rfl rfl (by kernel_rfl) rfl (mf0) ?aF ?nw HS0.out ?hs ?_
  rotate_left 2
  case aF => intro s; simp only [putE, EvT.val, Act.put, setIfInBounds_toArray, set_cons_zero, set_cons_succ]; rfl
  case nw => intro s; simp only [thA, bsA, List.nil_append, List.cons_append, List.append_nil, if_true, if_false, Nat.reduceLT, set_cons_zero, set_cons_succ]; rfl
  case hs => exact ⟨bv rfl (fun s w => by go_simp; try rfl), pu rfl, trivial⟩
  intro s1 w1 h; have HS1 := Aside0.mk h; clear h HS0
  refine tl0 ?_
  refine reg0 (aF := ?_) [] [0] false 1 rfl rfl (by kernel_rfl) rfl (fun _ => rfl) ?aF HS1.out ?hs ?_
  rotate_left 1
  case aF => intro s; simp only [putE, EvT.val, Act.put, setIfInBounds_toArray, set_cons_zero, set_cons_succ]; rfl
  case hs => exact trivial
  intro s2 w2 h; have HS2 := Aside0.mk h; clear h HS1
  refine tlP (v := .int .i64 1048576) 5 rfl ?_
  refine tl0 ?_
  refine reg0 (aF := ?_) [evL 0 19 [] (fun s => .agg #[.slice A0_0 l0_0.length c0_0, .int .i64 a0_1, .int .i64 a0_2, .int .i64 a0_3, .int .i64 a0_4, .int .i64 a0_5, .int .i64 a0_6]), evP 1 20 [] (fun s => .int .i64 1048576), evC 2 (some 21) [] (fun s x => .int .i64 r1_0) (fun s x => [])] [3] false 4 rfl rfl (by kernel_rfl) rfl (fun _ => rfl) ?aF HS2.out ?hs ?_
  rotate_left 1
  case aF => intro s; simp only [putE, EvT.val, Act.put, setIfInBounds_toArray, set_cons_zero, set_cons_succ]; rfl
  case hs => exact ⟨ld rfl 0 (fun s => rfl) (fun s w h => by have h0 := h 0 _ rfl; have h1 := h 1 _ rfl; have h2 := h 2 _ rfl; have h3 := h 3 _ rfl; have h4 := h 4 _ rfl; have h5 := h 5 _ rfl; have h6 := h 6 _ rfl; clear h; go_simp; try rfl), pu rfl, cl rfl (fun s => #[.agg #[.slice A0_0 l0_0.length c0_0, .int .i64 a0_1, .int .i64 a0_2, .int .i64 a0_3, .int .i64 a0_4, .int .i64 a0_5, .int .i64 a0_6], .int .i64 1048576]) Try.func29 (fun s w1 h => (laws_szGap.calls _ _ _ _ _ _ _ _ _ _ _ _ _ (Kd.C_below HR0_0.out h.hb) HC0_0.out H1.out).mono (by rintro e w2 ⟨rfl, hb⟩; exact fin0 hb)), trivial⟩
  intro s3 w3 h; have HS3 := Aside0.mk h; clear h HS2
  refine tlP (v := .int .i64 r1_0) 5 rfl ?_
  refine tl0 ?_
  refine wp_seq ?_
  refine reg0 (aF := ?_) [evP 0 22 [] (fun s => .int .i64 r1_0), evP 1 23 [] (fun s => .bool true)] [] false 2 rfl rfl (by kernel_rfl) rfl (fun _ => rfl) ?aF HS3.out ?hs ?_
  rotate_left 1
  case aF => intro s; simp only [putE, EvT.val, Act.put, setIfInBounds_toArray, set_cons_zero, set_cons_succ]; rfl
  case hs => exact ⟨pu rfl, pb (q := .lss) Pb_ rfl, trivial⟩
  intro s4 w4 h; have HS4 := Aside0.mk h; clear h HS3
  refine tl0 ?_
  refine wp_cond_true rfl ?_
  refine reg0 (aF := ?_) [] [0] false 1 rfl rfl (by kernel_rfl) rfl (fun _ => rfl) ?aF HS4.out ?hs ?_
  rotate_left 1
  case aF => intro s; simp only [putE, EvT.val, Act.put, setIfInBounds_toArray, set_cons_zero, set_cons_succ]; rfl
  case hs => exact trivial
  intro s5 w5 h; have HS5 := Aside0.mk h; clear h HS4
  refine tlP (v := .bool true) 4 rfl ?_
  refine tl0 ?_
  refine wp_ret ?_
  go_ret
  exact ⟨by first | rfl | simp, HS5.out.hb⟩
set_option maxHeartbeats 8000000 in
set_option maxRecDepth 100000 in
theorem FnExactMoveGap_run (A0_0 : Option Addr) (c0_0 : Nat) (l0_0 : List (List Int)) (a0_1 : Int) (a0_2 : Int) (a0_3 : Int) (a0_4 : Int) (a0_5 : Int) (a0_6 : Int) (a1_0 : Int) (r1_0 : Int) (r2_0 : List (List Int)) (r2_1 : Int) (r2_2 : Int) (r2_3 : Int) (r2_4 : Int) (r2_5 : Int) (r2_6 : Int) (r3_0 : List (List Int)) (r3_1 : Int) (r3_2 : Int) (r3_3 : Int) (r3_4 : Int) (r3_5 : Int) (r3_6 : Int) (r3_7 : Int) (r3_8 : Bool) (r7_0 : Int) (r7_1 : List (List Int)) (r8_0 : Int) (r8_1 : List (List Int)) (w : World) (hr0_0 : Kd.C (Kd.slice 5 (Kd.int .u8)) w A0_0 l0_0.length l0_0) (hc0_0 : l0_0.length ≤ c0_0) (H1 : ∃ k, laws_szGap.f k l0_0 a0_1 a0_2 a0_3 a0_4 a0_5 a0_6 1048576 = some r1_0) (H2 : laws_toGap.f l0_0 a0_1 a0_2 a0_3 a0_4 a0_5 a0_6 = some (r2_0, r2_1, r2_2, r2_3, r2_4, r2_5, r2_6)) (H3 : ∃ k, spec_MoveGap.f k r2_0 r2_1 r2_2 r2_3 r2_4 r2_5 r2_6 a1_0 = some (r3_0, r3_1, r3_2, r3_3, r3_4, r3_5, r3_6, r3_7, r3_8)) (H4 : impl_MoveGap.f r2_0 r2_1 r2_2 r2_3 r2_4 r2_5 r2_6 a1_0 = some (r3_0, r3_1, r3_2, r3_3, r3_4, r3_5, r3_6, r3_7, r3_8)) (H5 : ∃ k, laws_eqGap.f k r3_0 r3_1 r3_2 r3_3 r3_4 r3_5 r3_6 r3_0 r3_1 r3_2 r3_3 r3_4 r3_5 r3_6 = some true) (H6 : ∃ k, laws_eqGap.f k r2_0 r2_1 r2_2 r2_3 r2_4 r2_5 r2_6 r2_0 r2_1 r2_2 r2_3 r2_4 r2_5 r2_6 = some true) (H7 : laws_markGap.f r2_0 1 = some (r7_0, r7_1)) (H8 : laws_markGap.f r3_0 1 = some (r8_0, r8_1)) (H9 : ∃ k, laws_heldGap.f k r8_1 r3_1 r3_2 r3_3 r3_4 r3_5 r3_6 1 = some r8_0) (N_r1_0 : ¬ r1_0 < 0) (N_r7_0 : ¬ r7_0 < 0) (N_r8_0 : ¬ r8_0 < 0) :
    Calls Try.prog 13 #[.agg #[.slice A0_0 l0_0.length c0_0, .int .i64 a0_1, .int .i64 a0_2, .int .i64 a0_3, .int .i64 a0_4, .int .i64 a0_5, .int .i64 a0_6], .int .i64 a1_0] w fun e w' => e = .returned (.bool true) ∧ Below w.heap.size w w' := by
  have HR0_0 := Aside0.mk hr0_0; have HC0_0 := Aside0.mk hc0_0; clear hr0_0 hc0_0
  obtain ⟨k, H1_⟩ := H1; have H1 := Aside0.mk H1_; clear H1_
  have H2_ := Aside0.mk H2; clear H2; have H2 := H2_; clear H2_
  obtain ⟨k, H3_⟩ := H3; have H3 := Aside0.mk H3_; clear H3_
  have H4_ := Aside0.mk H4; clear H4; have H4 := H4_; clear H4_
  obtain ⟨k, H5_⟩ := H5; have H5 := Aside0.mk H5_; clear H5_
  obtain ⟨k, H6_⟩ := H6; have H6 := Aside0.mk H6_; clear H6_
  have H7_ := Aside0.mk H7; clear H7; have H7 := H7_; clear H7_
  have H8_ := Aside0.mk H8; clear H8; have H8 := H8_; clear H8_
  obtain ⟨k, H9_⟩ := H9; have H9 := Aside0.mk H9_; clear H9_
  have Nb_r1_0 : decide (r1_0 < 0) = false := decide_eq_false N_r1_0; clear N_r1_0
  have Nb_r7_0 : decide (r7_0 < 0) = false := decide_eq_false N_r7_0; clear N_r7_0
  have Nb_r8_0 : decide (r8_0 < 0) = false := decide_eq_false N_r8_0; clear N_r8_0
  have HS0 : Aside0 (Stk w [] w) := ⟨Stk.nil w⟩
  go_enter Try.func13, Try.ntmps13
  refine reg (aF := ?_) (nw := ?_) [evB 0 2 [] 50 (fun s => #[.slice A0_0 l0_0.length c0_0, .int .i64 a0_1, .int .i64 a0_2, .int .i64 a0_3, .int .i64 a0_4, .int .i64 a0_5, .int .i64 a0_6]) 9999 [] (fun s => #[.slice A0_0 l0_0.length c0_0, .int .i64 a0_1, .int .i64 a0_2, .int .i64 a0_3, .int .i64 a0_4, .int .i64 a0_5, .int .i64 a0_6]), evP 1 4 [] (fun s => .bool false)] [] [] false 2 rfl rfl (by kernel_rfl) rfl (mf0) ?aF ?nw HS0.out ?hs ?_
  rotate_left 2
  case aF => intro s; simp only [putE, EvT.val, Act.put, setIfInBounds_toArray, set_cons_zero, set_cons_succ]; rfl
  case nw => intro s; simp only [thA, bsA, List.nil_append, List.cons_append, List.append_nil, if_true, if_false, Nat.reduceLT, set_cons_zero, set_cons_succ]; rfl
  case hs => exact ⟨bv rfl (fun s w => by go_simp; try rfl), pu rfl, trivial⟩
  intro s1 w1 h; have HS1 := Aside0.mk h; clear h HS0
  refine tl0 ?_
  refine reg0 (aF := ?_) [] [0] false 1 rfl rfl (by kernel_rfl) rfl (fun _ => rfl) ?aF HS1.out ?hs ?_
  rotate_left 1
  case aF => intro s; simp only [putE, EvT.val, Act.put, setIfInBounds_toArray, set_cons_zero, set_cons_succ]; rfl
  case hs => exact trivial
  intro s2 w2 h; have HS2 := Aside0.mk h; clear h HS1
  refine tlP (v := .int .i64 1048576) 5 rfl ?_
  refine tl0 ?_
  refine reg0 (aF := ?_) [evL 0 19 [] (fun s => .agg #[.slice A0_0 l0_0.length c0_0, .int .i64 a0_1, .int .i64 a0_2, .int .i64 a0_3, .int .i64 a0_4, .int .i64 a0_5, .int .i64 a0_6]), evP 1 20 [] (fun s => .int .i64 1048576), evC 2 (some 21) [] (fun s x => .int .i64 r1_0) (fun s x => [])] [3] false 4 rfl rfl (by kernel_rfl) rfl (fun _ => rfl) ?aF HS2.out ?hs ?_
  rotate_left 1
  case aF => intro s; simp only [putE, EvT.val, Act.put, setIfInBounds_toArray, set_cons_zero, set_cons_succ]; rfl
  case hs => exact ⟨ld rfl 0 (fun s => rfl) (fun s w h => by have h0 := h 0 _ rfl; have h1 := h 1 _ rfl; have h2 := h 2 _ rfl; have h3 := h 3 _ rfl; have h4 := h 4 _ rfl; have h5 := h 5 _ rfl; have h6 := h 6 _ rfl; clear h; go_simp; try rfl), pu rfl, cl rfl (fun s => #[.agg #[.slice A0_0 l0_0.length c0_0, .int .i64 a0_1, .int .i64 a0_2, .int .i64 a0_3, .int .i64 a0_4, .int .i64 a0_5, .int .i64 a0_6], .int .i64 1048576]) Try.func29 (fun s w1 h => (laws_szGap.calls _ _ _ _ _ _ _ _ _ _ _ _ _ (Kd.C_below HR0_0.out h.hb) HC0_0.out H1.out).mono (by rintro e w2 ⟨rfl, hb⟩; exact fin0 hb)), trivial⟩
  intro s3 w3 h; have HS3 := Aside0.mk h; clear h HS2
  refine tlP (v := .int .i64 r1_0) 5 rfl ?_
  refine tl0 ?_
  refine wp_seq ?_
  refine reg0 (aF := ?_) [evP 0 22 [] (fun s => .int .i64 r1_0), evP 1 23 [] (fun s => .bool false)] [] false 2 rfl rfl (by kernel_rfl) rfl (fun _ => rfl) ?aF HS3.out ?hs ?_
  rotate_left 1
  case aF => intro s; simp only [putE, EvT.val, Act.put, setIfInBounds_toArray, set_cons_zero, set_cons_succ]; rfl
  case hs => exact ⟨pu rfl, pb (q := .lss) Nb_r1_0 rfl, trivial⟩
  intro s4 w4 h; have HS4 := Aside0.mk h; clear h HS3
  refine tl0 ?_
  refine wp_cond_false rfl ?_
  refine wp_skip ?_
  refine thN ?_
  refine reg (aF := ?_) (nw := ?_) [evL 0 25 [] (fun s => .agg #[.slice A0_0 l0_0.length c0_0, .int .i64 a0_1, .int .i64 a0_2, .int .i64 a0_3, .int .i64 a0_4, .int .i64 a0_5, .int .i64 a0_6]), evC 1 (some 26) [] (fun s x => .agg #[.slice x.A r2_0.length x.c, .int .i64 r2_1, .int .i64 r2_2, .int .i64 r2_3, .int .i64 r2_4, .int .i64 r2_5, .int .i64 r2_6]) (fun s x => [rowS (Kd.slice 5 (Kd.int .u8)) 29 w x.lo x.hi x.A x.c r2_0]), evP 2 27 [] (fun s => .int .i64 a1_0), evC 3 (some 28) [1] (fun s x => .tuple #[.agg #[.slice x.A r3_0.length x.c, .int .i64 r3_1, .int .i64 r3_2, .int .i64 r3_3, .int .i64 r3_4, .int .i64 r3_5, .int .i64 r3_6], .int .i64 r3_7, .bool r3_8]) (fun s x => [rowS (Kd.slice 5 (Kd.int .u8)) 29 w x.lo x.hi x.A x.c r3_0]), evP 4 24 [3] (fun s => .tuple #[.agg #[.slice (s 3).A r3_0.length (s 3).c, .int .i64 r3_1, .int .i64 r3_2, .int .i64 r3_3, .int .i64 r3_4, .int .i64 r3_5, .int .i64 r3_6], .int .i64 r3_7, .bool r3_8]), evP 5 29 [3] (fun s => .agg #[.slice (s 3).A r3_0.length (s 3).c, .int .i64 r3_1, .int .i64 r3_2, .int .i64 r3_3, .int .i64 r3_4, .int .i64 r3_5, .int .i64 r3_6]), evP 6 30 [] (fun s => .int .i64 r3_7), evP 7 31 [] (fun s => .bool r3_8), evB 8 6 [] 53 (fun s => #[.slice none 0 0, .int .i64 0, .int .i64 0, .int .i64 0, .int .i64 0, .int .i64 0, .int .i64 0]) 9 [3] (fun s => #[.slice (s 3).A r3_0.length (s 3).c, .int .i64 r3_1, .int .i64 r3_2, .int .i64 r3_3, .int .i64 r3_4, .int .i64 r3_5, .int .i64 r3_6]), evS 9, evP 10 7 [] (fun s => .int .i64 r3_7)] [11] [] false 12 rfl rfl (by kernel_rfl) rfl (mf0) ?aF ?nw HS4.out ?hs ?_
  rotate_left 2
  case aF => intro s; simp only [putE, EvT.val, Act.put, setIfInBounds_toArray, set_cons_zero, set_cons_succ]; rfl
  case nw => intro s; simp only [thA, bsA, List.nil_append, List.cons_append, List.append_nil, if_true, if_false, Nat.reduceLT, set_cons_zero, set_cons_succ]; rfl
  case hs => exact ⟨ld rfl 0 (fun s => rfl) (fun s w h => by have h0 := h 0 _ rfl; have h1 := h 1 _ rfl; have h2 := h 2 _ rfl; have h3 := h 3 _ rfl; have h4 := h 4 _ rfl; have h5 := h 5 _ rfl; have h6 := h 6 _ rfl; clear h; go_simp; try rfl), cl rfl (fun s => #[.agg #[.slice A0_0 l0_0.length c0_0, .int .i64 a0_1, .int .i64 a0_2, .int .i64 a0_3, .int .i64 a0_4, .int .i64 a0_5, .int .i64 a0_6]]) Try.func31 (fun s w1 h => (laws_toGap.calls _ _ _ _ _ _ _ _ _ _ _ _ _ _ _ _ _ (Kd.C_below HR0_0.out h.hb) HC0_0.out H2.out).mono (by rintro e w2 ⟨v0_, rfl, ho0, hb⟩; obtain ⟨x, rfl, hx⟩ := fin_S ho0 hb h.hb.size; exact ⟨x, rfl, hx⟩)), pu rfl, cl rfl (fun s => #[.agg #[.slice (s 1).A r2_0.length (s 1).c, .int .i64 r2_1, .int .i64 r2_2, .int .i64 r2_3, .int .i64 r2_4, .int .i64 r2_5, .int .i64 r2_6], .int .i64 a1_0]) Try.func61 (fun s w1 h => (spec_MoveGap.calls _ _ _ _ _ _ _ _ _ _ _ _ _ _ _ _ _ _ _ _ _ (Kd.S_reads' (h.get 0 rfl)).2.2 (Kd.S_reads' (h.get 0 rfl)).2.1 H3.out).mono (by rintro e w2 ⟨v0_, rfl, ho0, hb⟩; obtain ⟨x, rfl, hx⟩ := fin_S ho0 hb h.hb.size; exact ⟨x, rfl, hx⟩)), pu rfl, pu rfl, pu rfl, pu rfl, bv rfl (fun s w => by go_simp; try rfl), st rfl 8 0 (fun s => [.slice (s 3).A r3_0.length (s 3).c, .int .i64 r3_1, .int .i64 r3_2, .int .i64 r3_3, .int .i64 r3_4, .int .i64 r3_5, .int .i64 r3_6]) rfl (fun s w h hf => by have h0 := h 0 _ rfl; have f0 := hf 0; have h1 := h 1 _ rfl; have f1 := hf 1; have h2 := h 2 _ rfl; have f2 := hf 2; have h3 := h 3 _ rfl; have f3 := hf 3; have h4 := h 4 _ rfl; have f4 := hf 4; have h5 := h 5 _ rfl; have f5 := hf 5; have h6 := h 6 _ rfl; have f6 := hf 6; clear h hf; go_simp; try rfl), pu rfl, trivial⟩
  intro s5 w5 h; have HS5 := Aside0.mk h; clear h HS4
  refine tlP (v := .bool r3_8) 8 rfl ?_
  refine tl0 ?_
  refine reg (aF := ?_) (nw := ?_) [evL 0 32 [] (fun s => .agg #[.slice A0_0 l0_0.length c0_0, .int .i64 a0_1, .int .i64 a0_2, .int .i64 a0_3, .int .i64 a0_4, .int .i64 a0_5, .int .i64 a0_6]), evC 1 (some 33) [] (fun s x => .agg #[.slice x.A r2_0.length x.c, .int .i64 r2_1, .int .i64 r2_2, .int .i64 r2_3, .int .i64 r2_4, .int .i64 r2_5, .int .i64 r2_6]) (fun s x => [rowS (Kd.slice 5 (Kd.int .u8)) 29 w x.lo x.hi x.A x.c r2_0]), evB 2 9 [] 53 (fun s => #[.slice none 0 0, .int .i64 0, .int .i64 0, .int .i64 0, .int .i64 0, .int .i64 0, .int .i64 0]) 3 [1] (fun s => #[.slice (s 1).A r2_0.length (s 1).c, .int .i64 r2_1, .int .i64 r2_2, .int .i64 r2_3, .int .i64 r2_4, .int .i64 r2_5, .int .i64 r2_6]), evS 3] [] [] false 4 rfl rfl (by kernel_rfl) rfl (mf0) ?aF ?nw HS5.out ?hs ?_
  rotate_left 2
  case aF => intro s; simp only [putE, EvT.val, Act.put, setIfInBounds_toArray, set_cons_zero, set_cons_succ]; rfl
  case nw => intro s; simp only [thA, bsA, List.nil_append, List.cons_append, List.append_nil, if_true, if_false, Nat.reduceLT, set_cons_zero, set_cons_succ]; rfl
  case hs => exact ⟨ld rfl 3 (fun s => rfl) (fun s w h => by have h0 := h 0 _ rfl; have h1 := h 1 _ rfl; have h2 := h 2 _ rfl; have h3 := h 3 _ rfl; have h4 := h 4 _ rfl; have h5 := h 5 _ rfl; have h6 := h 6 _ rfl; clear h; go_simp; try rfl), cl rfl (fun s => #[.agg #[.slice A0_0 l0_0.length c0_0, .int .i64 a0_1, .int .i64 a0_2, .int .i64 a0_3, .int .i64 a0_4, .int .i64 a0_5, .int .i64 a0_6]]) Try.func31 (fun s w1 h => (laws_toGap.calls _ _ _ _ _ _ _ _ _ _ _ _ _ _ _ _ _ (Kd.C_below HR0_0.out h.hb) HC0_0.out H2.out).mono (by rintro e w2 ⟨v0_, rfl, ho0, hb⟩; obtain ⟨x, rfl, hx⟩ := fin_S ho0 hb h.hb.size; exact ⟨x, rfl, hx⟩)), bv rfl (fun s w => by go_simp; try rfl), st rfl 2 0 (fun s => [.slice (s 1).A r2_0.length (s 1).c, .int .i64 r2_1, .int .i64 r2_2, .int .i64 r2_3, .int .i64 r2_4, .int .i64 r2_5, .int .i64 r2_6]) rfl (fun s w h hf => by have h0 := h 0 _ rfl; have f0 := hf 0; have h1 := h 1 _ rfl; have f1 := hf 1; have h2 := h 2 _ rfl; have f2 := hf 2; have h3 := h 3 _ rfl; have f3 := hf 3; have h4 := h 4 _ rfl; have f4 := hf 4; have h5 := h 5 _ rfl; have f5 := hf 5; have h6 := h 6 _ rfl; have f6 := hf 6; clear h hf; go_simp; try rfl), trivial⟩
  intro s6 w6 h; have HS6 := Aside0.mk h; clear h HS5
  refine tl0 ?_
  refine reg (aF := ?_) (nw := ?_) [evL 0 35 [] (fun s => .agg #[.slice (s6 1).A r2_0.length (s6 1).c, .int .i64 r2_1, .int .i64 r2_2, .int .i64 r2_3, .int .i64 r2_4, .int .i64 r2_5, .int .i64 r2_6]), evP 1 36 [] (fun s => .int .i64 a1_0), evC 2 (some 37) [] (fun s x => .tuple #[.agg #[.slice x.A r3_0.length x.c, .int .i64 r3_1, .int .i64 r3_2, .int .i64 r3_3, .int .i64 r3_4, .int .i64 r3_5, .int .i64 r3_6], .int .i64 r3_7, .bool r3_8]) (fun s x => [rowS (Kd.slice 5 (Kd.int .u8)) 29 w x.lo x.hi x.A x.c r3_0]), evP 3 34 [2] (fun s => .tuple #[.agg #[.slice (s 2).A r3_0.length (s 2).c, .int .i64 r3_1, .int .i64 r3_2, .int .i64 r3_3, .int .i64 r3_4, .int .i64 r3_5, .int .i64 r3_6], .int .i64 r3_7, .bool r3_8]), evP 4 38 [2] (fun s => .agg #[.slice (s 2).A r3_0.length (s 2).c, .int .i64 r3_1, .int .i64 r3_2, .int .i64 r3_3, .int .i64 r3_4, .int .i64 r3_5, .int .i64 r3_6]), evP 5 39 [] (fun s => .int .i64 r3_7), evP 6 40 [] (fun s => .bool r3_8), evB 7 10 [] 53 (fun s => #[.slice none 0 0, .int .i64 0, .int .i64 0, .int .i64 0, .int .i64 0, .int .i64 0, .int .i64 0]) 8 [2] (fun s => #[.slice (s 2).A r3_0.length (s 2).c, .int .i64 r3_1, .int .i64 r3_2, .int .i64 r3_3, .int .i64 r3_4, .int .i64 r3_5, .int .i64 r3_6]), evS 8, evP 9 11 [] (fun s => .int .i64 r3_7)] [10] [] false 11 rfl rfl (by kernel_rfl) rfl (mf0) ?aF ?nw HS6.out ?hs ?_
  rotate_left 2
  case aF => intro s; simp only [putE, EvT.val, Act.put, setIfInBounds_toArray, set_cons_zero, set_cons_succ]; rfl
  case nw => intro s; simp only [thA, bsA, List.nil_append, List.cons_append, List.append_nil, if_true, if_false, Nat.reduceLT, set_cons_zero, set_cons_succ]; rfl
  case hs => exact ⟨ld rfl 1 (fun s => rfl) (fun s w h => by have h0 := h 0 _ rfl; have h1 := h 1 _ rfl; have h2 := h 2 _ rfl; have h3 := h 3 _ rfl; have h4 := h 4 _ rfl; have h5 := h 5 _ rfl; have h6 := h 6 _ rfl; clear h; go_simp; try rfl), pu rfl, cl rfl (fun s => #[.agg #[.slice (s6 1).A r2_0.length (s6 1).c, .int .i64 r2_1, .int .i64 r2_2, .int .i64 r2_3, .int .i64 r2_4, .int .i64 r2_5, .int .i64 r2_6], .int .i64 a1_0]) Try.func62 (fun s w1 h => (impl_MoveGap.calls _ _ _ _ _ _ _ _ _ _ _ _ _ _ _ _ _ _ _ _ (Kd.S_reads' (h.get 0 rfl)).2.2 (Kd.S_reads' (h.get 0 rfl)).2.1 H4.out).mono (by rintro e w2 ⟨v0_, rfl, ho0, hb⟩; obtain ⟨x, rfl, hx⟩ := fin_S ho0 hb h.hb.size; exact ⟨x, rfl, hx⟩)), pu rfl, pu rfl, pu rfl, pu rfl, bv rfl (fun s w => by go_simp; try rfl), st rfl 7 0 (fun s => [.slice (s 2).A r3_0.length (s 2).c, .int .i64 r3_1, .int .i64 r3_2, .int .i64 r3_3, .int .i64 r3_4, .int .i64 r3_5, .int .i64 r3_6]) rfl (fun s w h hf => by have h0 := h 0 _ rfl; have f0 := hf 0; have h1 := h 1 _ rfl; have f1 := hf 1; have h2 := h 2 _ rfl; have f2 := hf 2; have h3 := h 3 _ rfl; have f3 := hf 3; have h4 := h 4 _ rfl; have f4 := hf 4; have h5 := h 5 _ rfl; have f5 := hf 5; have h6 := h 6 _ rfl; have f6 := hf 6; clear h hf; go_simp; try rfl), pu rfl, trivial⟩
  intro s7 w7 h; have HS7 := Aside0.mk h; clear h HS6
  refine tlP (v := .bool r3_8) 12 rfl ?_
  refine tl0 ?_
  refine wp_seq ?_
  refine reg0 (aF := ?_) [evL 0 41 [] (fun s => .agg #[.slice (s7 2).A r3_0.length (s7 2).c, .int .i64 r3_1, .int .i64 r3_2, .int .i64 r3_3, .int .i64 r3_4, .int .i64 r3_5, .int .i64 r3_6]), evL 1 42 [] (fun s => .agg #[.slice (s5 3).A r3_0.length (s5 3).c, .int .i64 r3_1, .int .i64 r3_2, .int .i64 r3_3, .int .i64 r3_4, .int .i64 r3_5, .int .i64 r3_6]), evC 2 (some 43) [] (fun s x => .bool true) (fun s x => []), evP 3 44 [] (fun s => .bool false), evP 4 45 [] (fun s => .bool false), evP 5 46 [] (fun s => .int .i64 r3_7), evP 6 47 [] (fun s => .int .i64 r3_7), evP 7 48 [] (fun s => .bool false), evP 8 49 [] (fun s => .bool false), evP 9 50 [] (fun s => .bool false), evP 10 51 [] (fun s => .bool r3_8), evP 11 52 [] (fun s => .bool r3_8), evP 12 53 [] (fun s => .bool false), evP 13 54 [] (fun s => .bool false)] [] false 14 rfl rfl (by kernel_rfl) rfl (fun _ => rfl) ?aF HS7.out ?hs ?_
  rotate_left 1
  case aF => intro s; simp only [putE, EvT.val, Act.put, setIfInBounds_toArray, set_cons_zero, set_cons_succ]; rfl
  case hs => exact ⟨ld rfl 1 (fun s => rfl) (fun s w h => by have h0 := h 0 _ rfl; have h1 := h 1 _ rfl; have h2 := h 2 _ rfl; have h3 := h 3 _ rfl; have h4 := h 4 _ rfl; have h5 := h 5 _ rfl; have h6 := h 6 _ rfl; clear h; go_simp; try rfl), ld rfl 6 (fun s => rfl) (fun s w h => by have h0 := h 0 _ rfl; have h1 := h 1 _ rfl; have h2 := h 2 _ rfl; have h3 := h 3 _ rfl; have h4 := h 4 _ rfl; have h5 := h 5 _ rfl; have h6 := h 6 _ rfl; clear h; go_simp; try rfl), cl rfl (fun s => #[.agg #[.slice (s7 2).A r3_0.length (s7 2).c, .int .i64 r3_1, .int .i64 r3_2, .int .i64 r3_3, .int .i64 r3_4, .int .i64 r3_5, .int .i64 r3_6], .agg #[.slice (s5 3).A r3_0.length (s5 3).c, .int .i64 r3_1, .int .i64 r3_2, .int .i64 r3_3, .int .i64 r3_4, .int .i64 r3_5, .int .i64 r3_6]]) Try.func33 (fun s w1 h => (laws_eqGap.calls _ _ _ _ _ _ _ _ _ _ _ _ _ _ _ _ _ _ _ _ _ (Kd.S_reads' (h.get 0 rfl)).2.2 (Kd.S_reads' (h.get 0 rfl)).2.1 (Kd.S_reads' (h.get 5 rfl)).2.2 (Kd.S_reads' (h.get 5 rfl)).2.1 H5.out).mono (by rintro e w2 ⟨rfl, hb⟩; exact fin0 hb)), pu rfl, pu rfl, pu rfl, pu rfl, pb (q := .neq) (bne_self_eq_false _) rfl, pu rfl, pu rfl, pu rfl, pu rfl, pn Try.underlying4 rfl, pu rfl, trivial⟩
  intro s8 w8 h; have HS8 := Aside0.mk h; clear h HS7
  refine tl0 ?_
  refine wp_cond_false rfl ?_
  refine wp_skip ?_
  refine thN ?_
  refine wp_seq ?_
  refine reg (aF := ?_) (nw := ?_) [evR 0 55 3 (fun s => .agg #[.slice (s6 1).A r2_0.length (s6 1).c, .int .i64 r2_1, .int .i64 r2_2, .int .i64 r2_3, .int .i64 r2_4, .int .i64 r2_5, .int .i64 r2_6]), evL 1 56 [] (fun s => .agg #[.slice A0_0 l0_0.length c0_0, .int .i64 a0_1, .int .i64 a0_2, .int .i64 a0_3, .int .i64 a0_4, .int .i64 a0_5, .int .i64 a0_6]), evC 2 (some 57) [] (fun s x => .agg #[.slice x.A r2_0.length x.c, .int .i64 r2_1, .int .i64 r2_2, .int .i64 r2_3, .int .i64 r2_4, .int .i64 r2_5, .int .i64 r2_6]) (fun s x => [rowS (Kd.slice 5 (Kd.int .u8)) 29 w x.lo x.hi x.A x.c r2_0]), evC 3 (some 58) [2] (fun s x => .bool true) (fun s x => []), evP 4 59 [] (fun s => .bool false)] [] [] true 5 rfl rfl (by kernel_rfl) rfl (mf0) ?aF ?nw HS8.out ?hs ?_
  rotate_left 2
  case aF => intro s; simp only [putE, EvT.val, Act.put, setIfInBounds_toArray, set_cons_zero, set_cons_succ]; rfl
  case nw => intro s; simp only [thA, bsA, List.nil_append, List.cons_append, List.append_nil, if_true, if_false, Nat.reduceLT, set_cons_zero, set_cons_succ]; rfl
  case hs => exact ⟨lr rfl 3 rfl (fun s w h => by have h0 := h 0 _ rfl; have h1 := h 1 _ rfl; have h2 := h 2 _ rfl; have h3 := h 3 _ rfl; have h4 := h 4 _ rfl; have h5 := h 5 _ rfl; have h6 := h 6 _ rfl; clear h; go_simp; try rfl), ld rfl 7 (fun s => rfl) (fun s w h => by have h0 := h 0 _ rfl; have h1 := h 1 _ rfl; have h2 := h 2 _ rfl; have h3 := h 3 _ rfl; have h4 := h 4 _ rfl; have h5 := h 5 _ rfl; have h6 := h 6 _ rfl; clear h; go_simp; try rfl), cl rfl (fun s => #[.agg #[.slice A0_0 l0_0.length c0_0, .int .i64 a0_1, .int .i64 a0_2, .int .i64 a0_3, .int .i64 a0_4, .int .i64 a0_5, .int .i64 a0_6]]) Try.func31 (fun s w1 h => (laws_toGap.calls _ _ _ _ _ _ _ _ _ _ _ _ _ _ _ _ _ (Kd.C_below HR0_0.out h.hb) HC0_0.out H2.out).mono (by rintro e w2 ⟨v0_, rfl, ho0, hb⟩; obtain ⟨x, rfl, hx⟩ := fin_S ho0 hb h.hb.size; exact ⟨x, rfl, hx⟩)), cl rfl (fun s => #[.agg #[.slice (s6 1).A r2_0.length (s6 1).c, .int .i64 r2_1, .int .i64 r2_2, .int .i64 r2_3, .int .i64 r2_4, .int .i64 r2_5, .int .i64 r2_6], .agg #[.slice (s 2).A r2_0.length (s 2).c, .int .i64 r2_1, .int .i64 r2_2, .int .i64 r2_3, .int .i64 r2_4, .int .i64 r2_5, .int .i64 r2_6]]) Try.func33 (fun s w1 h => (laws_eqGap.calls _ _ _ _ _ _ _ _ _ _ _ _ _ _ _ _ _ _ _ _ _ (Kd.S_reads' (h.get 3 rfl)).2.2 (Kd.S_reads' (h.get 3 rfl)).2.1 (Kd.S_reads' (h.get 0 rfl)).2.2 (Kd.S_reads' (h.get 0 rfl)).2.1 H6.out).mono (by rintro e w2 ⟨rfl, hb⟩; exact fin0 hb)), pu rfl, trivial⟩
  intro s9 w9 h; have HS9 := Aside0.mk h; clear h HS8
  refine tl0 ?_
  refine wp_cond_false rfl ?_
  refine wp_skip ?_
  refine thN ?_
  refine reg0 (aF := ?_) [] [0] false 1 rfl rfl (by kernel_rfl) rfl (fun _ => rfl) ?aF HS9.out ?hs ?_
  rotate_left 1
  case aF => intro s; simp only [putE, EvT.val, Act.put, setIfInBounds_toArray, set_cons_zero, set_cons_succ]; rfl
  case hs => exact trivial
  intro s10 w10 h; have HS10 := Aside0.mk h; clear h HS9
  refine tlP (v := .int .i64 1) 13 rfl ?_
  refine tl0 ?_
  refine reg (aF := ?_) (nw := ?_) [evL 0 60 [] (fun s => .agg #[.slice (s6 1).A r2_0.length (s6 1).c, .int .i64 r2_1, .int .i64 r2_2, .int .i64 r2_3, .int .i64 r2_4, .int .i64 r2_5, .int .i64 r2_6]), evP 1 61 [] (fun s => .int .i64 1), evW 2 (some 62) [] (fun s => .int .i64 r7_0)] [3] [⟨3, 2, [], fun s => ⟨(s6 1).lo, (s6 1).hi, fun w_ => Kd.S (Kd.slice 5 (Kd.int .u8)) 29 w_ w.heap.size (fun k_ => (s6 1).lo ≤ k_ ∧ k_ < (s6 1).hi) (.slice (s6 1).A r2_0.length (s6 1).c) r7_1⟩⟩] false 4 rfl rfl (by kernel_rfl) rfl ((mf1 mf0)) ?aF ?nw HS10.out ?hs ?_
  rotate_left 2
  case aF => intro s; simp only [putE, EvT.val, Act.put, setIfInBounds_toArray, set_cons_zero, set_cons_succ]; rfl
  case nw => intro s; simp only [thA, bsA, List.nil_append, List.cons_append, List.append_nil, if_true, if_false, Nat.reduceLT, set_cons_zero, set_cons_succ]; rfl
  case hs => exact ⟨ld rfl 4 (fun s => rfl) (fun s w h => by have h0 := h 0 _ rfl; have h1 := h 1 _ rfl; have h2 := h 2 _ rfl; have h3 := h 3 _ rfl; have h4 := h 4 _ rfl; have h5 := h 5 _ rfl; have h6 := h 6 _ rfl; clear h; go_simp; try rfl), pu rfl, cw rfl 0 3 rfl rfl (fun s => #[.agg #[.slice (s6 1).A r2_0.length (s6 1).c, .int .i64 r2_1, .int .i64 r2_2, .int .i64 r2_3, .int .i64 r2_4, .int .i64 r2_5, .int .i64 r2_6], .int .i64 1]) Try.func34 (fun s w1 h => (laws_markGap.calls (fun k_ => (s6 1).lo ≤ k_ ∧ k_ < (s6 1).hi) _ _ _ _ _ _ _ _ _ _ _ w _ h.hb (h.get 0 rfl) H7.out).mono (by rintro e w2 ⟨rfl, ho0, hb, hk⟩; exact ⟨rfl, Wrote.of 0 h rfl hb hk (fun w_ ha => S_again ho0 ha)⟩)), trivial⟩
  intro s11 w11 h; have HS11 := Aside0.mk h; clear h HS10
  refine tlP (v := .int .i64 r7_0) 13 rfl ?_
  refine tl0 ?_
  refine wp_seq ?_
  refine reg0 (aF := ?_) [evP 0 63 [] (fun s => .int .i64 r7_0), evP 1 64 [] (fun s => .bool false), evP 2 65 [] (fun s => .bool false), evL 3 66 [] (fun s => .agg #[.slice (s7 2).A r3_0.length (s7 2).c, .int .i64 r3_1, .int .i64 r3_2, .int .i64 r3_3, .int .i64 r3_4, .int .i64 r3_5, .int .i64 r3_6]), evL 4 67 [] (fun s => .agg #[.slice (s5 3).A r3_0.length (s5 3).c, .int .i64 r3_1, .int .i64 r3_2, .int .i64 r3_3, .int .i64 r3_4, .int .i64 r3_5, .int .i64 r3_6]), evC 5 (some 68) [] (fun s x => .bool true) (fun s x => []), evP 6 69 [] (fun s => .bool false), evP 7 70 [] (fun s => .bool false), evP 8 71 [] (fun s => .bool false), evP 9 72 [] (fun s => .int .i64 r3_7), evP 10 73 [] (fun s => .int .i64 r3_7), evP 11 74 [] (fun s => .bool false), evP 12 75 [] (fun s => .bool false), evP 13 76 [] (fun s => .bool false), evP 14 77 [] (fun s => .bool r3_8), evP 15 78 [] (fun s => .bool r3_8), evP 16 79 [] (fun s => .bool false), evP 17 80 [] (fun s => .bool false)] [] false 18 rfl rfl (by kernel_rfl) rfl (fun _ => rfl) ?aF HS11.out ?hs ?_
  rotate_left 1
  case aF => intro s; simp only [putE, EvT.val, Act.put, setIfInBounds_toArray, set_cons_zero, set_cons_succ]; rfl
  case hs => exact ⟨pu rfl, pb (q := .lss) Nb_r7_0 rfl, pu rfl, ld rfl 2 (fun s => rfl) (fun s w h => by have h0 := h 0 _ rfl; have h1 := h 1 _ rfl; have h2 := h 2 _ rfl; have h3 := h 3 _ rfl; have h4 := h 4 _ rfl; have h5 := h 5 _ rfl; have h6 := h 6 _ rfl; clear h; go_simp; try rfl), ld rfl 7 (fun s => rfl) (fun s w h => by have h0 := h 0 _ rfl; have h1 := h 1 _ rfl; have h2 := h 2 _ rfl; have h3 := h 3 _ rfl; have h4 := h 4 _ rfl; have h5 := h 5 _ rfl; have h6 := h 6 _ rfl; clear h; go_simp; try rfl), cl rfl (fun s => #[.agg #[.slice (s7 2).A r3_0.length (s7 2).c, .int .i64 r3_1, .int .i64 r3_2, .int .i64 r3_3, .int .i64 r3_4, .int .i64 r3_5, .int .i64 r3_6], .agg #[.slice (s5 3).A r3_0.length (s5 3).c, .int .i64 r3_1, .int .i64 r3_2, .int .i64 r3_3, .int .i64 r3_4, .int .i64 r3_5, .int .i64 r3_6]]) Try.func33 (fun s w1 h => (laws_eqGap.calls _ _ _ _ _ _ _ _ _ _ _ _ _ _ _ _ _ _ _ _ _ (Kd.S_reads' (h.get 1 rfl)).2.2 (Kd.S_reads' (h.get 1 rfl)).2.1 (Kd.S_reads' (h.get 6 rfl)).2.2 (Kd.S_reads' (h.get 6 rfl)).2.1 H5.out).mono (by rintro e w2 ⟨rfl, hb⟩; exact fin0 hb)), pu rfl, pu rfl, pu rfl, pu rfl, pu rfl, pb (q := .neq) (bne_self_eq_false _) rfl, pu rfl, pu rfl, pu rfl, pu rfl, pn Try.underlying4 rfl, pu rfl, trivial⟩
  intro s12 w12 h; have HS12 := Aside0.mk h; clear h HS11
  refine tl0 ?_
  refine wp_cond_false rfl ?_
  refine wp_skip ?_
  refine thN ?_
  refine reg0 (aF := ?_) [] [0] false 1 rfl rfl (by kernel_rfl) rfl (fun _ => rfl) ?aF HS12.out ?hs ?_
  rotate_left 1
  case aF => intro s; simp only [putE, EvT.val, Act.put, setIfInBounds_toArray, set_cons_zero, set_cons_succ]; rfl
  case hs => exact trivial
  intro s13 w13 h; have HS13 := Aside0.mk h; clear h HS12
  refine tlP (v := .int .i64 1) 14 rfl ?_
  refine tl0 ?_
  refine reg (aF := ?_) (nw := ?_) [evL 0 81 [] (fun s => .agg #[.slice (s7 2).A r3_0.length (s7 2).c, .int .i64 r3_1, .int .i64 r3_2, .int .i64 r3_3, .int .i64 r3_4, .int .i64 r3_5, .int .i64 r3_6]), evP 1 82 [] (fun s => .int .i64 1), evW 2 (some 83) [] (fun s => .int .i64 r8_0)] [3] [⟨1, 2, [], fun s => ⟨(s7 2).lo, (s7 2).hi, fun w_ => Kd.S (Kd.slice 5 (Kd.int .u8)) 29 w_ w.heap.size (fun k_ => (s7 2).lo ≤ k_ ∧ k_ < (s7 2).hi) (.slice (s7 2).A r3_0.length (s7 2).c) r8_1⟩⟩] false 4 rfl rfl (by kernel_rfl) rfl ((mf1 mf0)) ?aF ?nw HS13.out ?hs ?_
  rotate_left 2
  case aF => intro s; simp only [putE, EvT.val, Act.put, setIfInBounds_toArray, set_cons_zero, set_cons_succ]; rfl
  case nw => intro s; simp only [thA, bsA, List.nil_append, List.cons_append, List.append_nil, if_true, if_false, Nat.reduceLT, set_cons_zero, set_cons_succ]; rfl
  case hs => exact ⟨ld rfl 2 (fun s => rfl) (fun s w h => by have h0 := h 0 _ rfl; have h1 := h 1 _ rfl; have h2 := h 2 _ rfl; have h3 := h 3 _ rfl; have h4 := h 4 _ rfl; have h5 := h 5 _ rfl; have h6 := h 6 _ rfl; clear h; go_simp; try rfl), pu rfl, cw rfl 0 1 rfl rfl (fun s => #[.agg #[.slice (s7 2).A r3_0.length (s7 2).c, .int .i64 r3_1, .int .i64 r3_2, .int .i64 r3_3, .int .i64 r3_4, .int .i64 r3_5, .int .i64 r3_6], .int .i64 1]) Try.func34 (fun s w1 h => (laws_markGap.calls (fun k_ => (s7 2).lo ≤ k_ ∧ k_ < (s7 2).hi) _ _ _ _ _ _ _ _ _ _ _ w _ h.hb (h.get 0 rfl) H8.out).mono (by rintro e w2 ⟨rfl, ho0, hb, hk⟩; exact ⟨rfl, Wrote.of 0 h rfl hb hk (fun w_ ha => S_again ho0 ha)⟩)), trivial⟩
  intro s14 w14 h; have HS14 := Aside0.mk h; clear h HS13
  refine tlP (v := .int .i64 r8_0) 14 rfl ?_
  refine tl0 ?_
  refine reg0 (aF := ?_) [] [0] false 1 rfl rfl (by kernel_rfl) rfl (fun _ => rfl) ?aF HS14.out ?hs ?_
  rotate_left 1
  case aF => intro s; simp only [putE, EvT.val, Act.put, setIfInBounds_toArray, set_cons_zero, set_cons_succ]; rfl
  case hs => exact trivial
  intro s15 w15 h; have HS15 := Aside0.mk h; clear h HS14
  refine tlP (v := .int .i64 1) 15 rfl ?_
  refine tl0 ?_
  refine reg0 (aF := ?_) [evL 0 84 [] (fun s => .agg #[.slice (s7 2).A r3_0.length (s7 2).c, .int .i64 r3_1, .int .i64 r3_2, .int .i64 r3_3, .int .i64 r3_4, .int .i64 r3_5, .int .i64 r3_6]), evP 1 85 [] (fun s => .int .i64 1), evC 2 (some 86) [] (fun s x => .int .i64 r8_0) (fun s x => [])] [3] false 4 rfl rfl (by kernel_rfl) rfl (fun _ => rfl) ?aF HS15.out ?hs ?_
  rotate_left 1
  case aF => intro s; simp only [putE, EvT.val, Act.put, setIfInBounds_toArray, set_cons_zero, set_cons_succ]; rfl
  case hs => exact ⟨ld rfl 2 (fun s => rfl) (fun s w h => by have h0 := h 0 _ rfl; have h1 := h 1 _ rfl; have h2 := h 2 _ rfl; have h3 := h 3 _ rfl; have h4 := h 4 _ rfl; have h5 := h 5 _ rfl; have h6 := h 6 _ rfl; clear h; go_simp; try rfl), pu rfl, cl rfl (fun s => #[.agg #[.slice (s7 2).A r3_0.length (s7 2).c, .int .i64 r3_1, .int .i64 r3_2, .int .i64 r3_3, .int .i64 r3_4, .int .i64 r3_5, .int .i64 r3_6], .int .i64 1]) Try.func35 (fun s w1 h => by rw [show r3_0.length = r8_1.length from (Kd.S_reads' (h.get 1 rfl)).1]; exact (laws_heldGap.calls _ _ _ _ _ _ _ _ _ _ _ _ _ ((Kd.S_reads' (h.get 1 rfl)).1 ▸ (Kd.S_reads' (h.get 1 rfl)).2.2) ((Kd.S_reads' (h.get 1 rfl)).1 ▸ (Kd.S_reads' (h.get 1 rfl)).2.1) H9.out).mono (by rintro e w2 ⟨rfl, hb⟩; exact fin0 hb)), trivial⟩
  intro s16 w16 h; have HS16 := Aside0.mk h; clear h HS15
  refine tlP (v := .int .i64 r8_0) 15 rfl ?_
  refine tl0 ?_
  refine wp_seq ?_
  refine reg0 (aF := ?_) [evP 0 87 [] (fun s => .int .i64 r8_0), evP 1 88 [] (fun s => .bool false)] [] false 2 rfl rfl (by kernel_rfl) rfl (fun _ => rfl) ?aF HS16.out ?hs ?_
  rotate_left 1
  case aF => intro s; simp only [putE, EvT.val, Act.put, setIfInBounds_toArray, set_cons_zero, set_cons_succ]; rfl
  case hs => exact ⟨pu rfl, pb (q := .lss) Nb_r8_0 rfl, trivial⟩
  intro s17 w17 h; have HS17 := Aside0.mk h; clear h HS16
  refine tl0 ?_
  refine wp_cond_false rfl ?_
  refine wp_skip ?_
  refine thN ?_
  refine wp_seq ?_
  refine reg0 (aF := ?_) [evP 0 89 [] (fun s => .int .i64 r8_0), evP 1 90 [] (fun s => .int .i64 r8_0), evP 2 91 [] (fun s => .bool false)] [] false 3 rfl rfl (by kernel_rfl) rfl (fun _ => rfl) ?aF HS17.out ?hs ?_
  rotate_left 1
  case aF => intro s; simp only [putE, EvT.val, Act.put, setIfInBounds_toArray, set_cons_zero, set_cons_succ]; rfl
  case hs => exact ⟨pu rfl, pu rfl, pb (q := .neq) (bne_self_eq_false _) rfl, trivial⟩
  intro s18 w18 h; have HS18 := Aside0.mk h; clear h HS17
  refine tl0 ?_
  refine wp_cond_false rfl ?_
  refine wp_skip ?_
  refine thN ?_
  refine reg (aF := ?_) (nw := ?_) [evL 0 93 [] (fun s => .agg #[.slice A0_0 l0_0.length c0_0, .int .i64 a0_1, .int .i64 a0_2, .int .i64 a0_3, .int .i64 a0_4, .int .i64 a0_5, .int .i64 a0_6]), evC 1 (some 94) [] (fun s x => .agg #[.slice x.A r2_0.length x.c, .int .i64 r2_1, .int .i64 r2_2, .int .i64 r2_3, .int .i64 r2_4, .int .i64 r2_5, .int .i64 r2_6]) (fun s x => [rowS (Kd.slice 5 (Kd.int .u8)) 29 w x.lo x.hi x.A x.c r2_0]), evP 2 95 [] (fun s => .int .i64 a1_0), evC 3 (some 96) [1] (fun s x => .tuple #[.agg #[.slice x.A r3_0.length x.c, .int .i64 r3_1, .int .i64 r3_2, .int .i64 r3_3, .int .i64 r3_4, .int .i64 r3_5, .int .i64 r3_6], .int .i64 r3_7, .bool r3_8]) (fun s x => [rowS (Kd.slice 5 (Kd.int .u8)) 29 w x.lo x.hi x.A x.c r3_0]), evP 4 92 [3] (fun s => .tuple #[.agg #[.slice (s 3).A r3_0.length (s 3).c, .int .i64 r3_1, .int .i64 r3_2, .int .i64 r3_3, .int .i64 r3_4, .int .i64 r3_5, .int .i64 r3_6], .int .i64 r3_7, .bool r3_8]), evP 5 97 [3] (fun s => .agg #[.slice (s 3).A r3_0.length (s 3).c, .int .i64 r3_1, .int .i64 r3_2, .int .i64 r3_3, .int .i64 r3_4, .int .i64 r3_5, .int .i64 r3_6]), evP 6 98 [] (fun s => .int .i64 r3_7), evP 7 99 [] (fun s => .bool r3_8), evB 8 16 [] 53 (fun s => #[.slice none 0 0, .int .i64 0, .int .i64 0, .int .i64 0, .int .i64 0, .int .i64 0, .int .i64 0]) 9 [3] (fun s => #[.slice (s 3).A r3_0.length (s 3).c, .int .i64 r3_1, .int .i64 r3_2, .int .i64 r3_3, .int .i64 r3_4, .int .i64 r3_5, .int .i64 r3_6]), evS 9, evP 10 17 [] (fun s => .int .i64 r3_7)] [11] [] false 12 rfl rfl (by kernel_rfl) rfl (mf0) ?aF ?nw HS18.out ?hs ?_
  rotate_left 2
  case aF => intro s; simp only [putE, EvT.val, Act.put, setIfInBounds_toArray, set_cons_zero, set_cons_succ]; rfl
  case nw => intro s; simp only [thA, bsA, List.nil_append, List.cons_append, List.append_nil, if_true, if_false, Nat.reduceLT, set_cons_zero, set_cons_succ]; rfl
  case hs => exact ⟨ld rfl 8 (fun s => rfl) (fun s w h => by have h0 := h 0 _ rfl; have h1 := h 1 _ rfl; have h2 := h 2 _ rfl; have h3 := h 3 _ rfl; have h4 := h 4 _ rfl; have h5 := h 5 _ rfl; have h6 := h 6 _ rfl; clear h; go_simp; try rfl), cl rfl (fun s => #[.agg #[.slice A0_0 l0_0.length c0_0, .int .i64 a0_1, .int .i64 a0_2, .int .i64 a0_3, .int .i64 a0_4, .int .i64 a0_5, .int .i64 a0_6]]) Try.func31 (fun s w1 h => (laws_toGap.calls _ _ _ _ _ _ _ _ _ _ _ _ _ _ _ _ _ (Kd.C_below HR0_0.out h.hb) HC0_0.out H2.out).mono (by rintro e w2 ⟨v0_, rfl, ho0, hb⟩; obtain ⟨x, rfl, hx⟩ := fin_S ho0 hb h.hb.size; exact ⟨x, rfl, hx⟩)), pu rfl, cl rfl (fun s => #[.agg #[.slice (s 1).A r2_0.length (s 1).c, .int .i64 r2_1, .int .i64 r2_2, .int .i64 r2_3, .int .i64 r2_4, .int .i64 r2_5, .int .i64 r2_6], .int .i64 a1_0]) Try.func62 (fun s w1 h => (impl_MoveGap.calls _ _ _ _ _ _ _ _ _ _ _ _ _ _ _ _ _ _ _ _ (Kd.S_reads' (h.get 0 rfl)).2.2 (Kd.S_reads' (h.get 0 rfl)).2.1 H4.out).mono (by rintro e w2 ⟨v0_, rfl, ho0, hb⟩; obtain ⟨x, rfl, hx⟩ := fin_S ho0 hb h.hb.size; exact ⟨x, rfl, hx⟩)), pu rfl, pu rfl, pu rfl, pu rfl, bv rfl (fun s w => by go_simp; try rfl), st rfl 8 0 (fun s => [.slice (s 3).A r3_0.length (s 3).c, .int .i64 r3_1, .int .i64 r3_2, .int .i64 r3_3, .int .i64 r3_4, .int .i64 r3_5, .int .i64 r3_6]) rfl (fun s w h hf => by have h0 := h 0 _ rfl; have f0 := hf 0; have h1 := h 1 _ rfl; have f1 := hf 1; have h2 := h 2 _ rfl; have f2 := hf 2; have h3 := h 3 _ rfl; have f3 := hf 3; have h4 := h 4 _ rfl; have f4 := hf 4; have h5 := h 5 _ rfl; have f5 := hf 5; have h6 := h 6 _ rfl; have f6 := hf 6; clear h hf; go_simp; try rfl), pu rfl, trivial⟩
  intro s19 w19 h; have HS19 := Aside0.mk h; clear h HS18
  refine tlP (v := .bool r3_8) 18 rfl ?_
  refine tl0 ?_
  refine wp_seq ?_
  refine reg0 (aF := ?_) [evL 0 100 [] (fun s => .agg #[.slice (s19 3).A r3_0.length (s19 3).c, .int .i64 r3_1, .int .i64 r3_2, .int .i64 r3_3, .int .i64 r3_4, .int .i64 r3_5, .int .i64 r3_6]), evL 1 101 [] (fun s => .agg #[.slice (s5 3).A r3_0.length (s5 3).c, .int .i64 r3_1, .int .i64 r3_2, .int .i64 r3_3, .int .i64 r3_4, .int .i64 r3_5, .int .i64 r3_6]), evC 2 (some 102) [] (fun s x => .bool true) (fun s x => []), evP 3 103 [] (fun s => .bool false), evP 4 104 [] (fun s => .bool false), evP 5 105 [] (fun s => .int .i64 r3_7), evP 6 106 [] (fun s => .int .i64 r3_7), evP 7 107 [] (fun s => .bool false), evP 8 108 [] (fun s => .bool false), evP 9 109 [] (fun s => .bool false), evP 10 110 [] (fun s => .bool r3_8), evP 11 111 [] (fun s => .bool r3_8), evP 12 112 [] (fun s => .bool false), evP 13 113 [] (fun s => .bool false)] [] false 14 rfl rfl (by kernel_rfl) rfl (fun _ => rfl) ?aF HS19.out ?hs ?_
  rotate_left 1
  case aF => intro s; simp only [putE, EvT.val, Act.put, setIfInBounds_toArray, set_cons_zero, set_cons_succ]; rfl
  case hs => exact ⟨ld rfl 2 (fun s => rfl) (fun s w h => by have h0 := h 0 _ rfl; have h1 := h 1 _ rfl; have h2 := h 2 _ rfl; have h3 := h 3 _ rfl; have h4 := h 4 _ rfl; have h5 := h 5 _ rfl; have h6 := h 6 _ rfl; clear h; go_simp; try rfl), ld rfl 10 (fun s => rfl) (fun s w h => by have h0 := h 0 _ rfl; have h1 := h 1 _ rfl; have h2 := h 2 _ rfl; have h3 := h 3 _ rfl; have h4 := h 4 _ rfl; have h5 := h 5 _ rfl; have h6 := h 6 _ rfl; clear h; go_simp; try rfl), cl rfl (fun s => #[.agg #[.slice (s19 3).A r3_0.length (s19 3).c, .int .i64 r3_1, .int .i64 r3_2, .int .i64 r3_3, .int .i64 r3_4, .int .i64 r3_5, .int .i64 r3_6], .agg #[.slice (s5 3).A r3_0.length (s5 3).c, .int .i64 r3_1, .int .i64 r3_2, .int .i64 r3_3, .int .i64 r3_4, .int .i64 r3_5, .int .i64 r3_6]]) Try.func33 (fun s w1 h => (laws_eqGap.calls _ _ _ _ _ _ _ _ _ _ _ _ _ _ _ _ _ _ _ _ _ (Kd.S_reads' (h.get 1 rfl)).2.2 (Kd.S_reads' (h.get 1 rfl)).2.1 (Kd.S_reads' (h.get 9 rfl)).2.2 (Kd.S_reads' (h.get 9 rfl)).2.1 H5.out).mono (by rintro e w2 ⟨rfl, hb⟩; exact fin0 hb)), pu rfl, pu rfl, pu rfl, pu rfl, pb (q := .neq) (bne_self_eq_false _) rfl, pu rfl, pu rfl, pu rfl, pu rfl, pn Try.underlying4 rfl, pu rfl, trivial⟩
  intro s20 w20 h; have HS20 := Aside0.mk h; clear h HS19
  refine tl0 ?_
  refine wp_cond_false rfl ?_
  refine wp_skip ?_
  refine thN ?_
  refine reg0 (aF := ?_) [] [0] false 1 rfl rfl (by kernel_rfl) rfl (fun _ => rfl) ?aF HS20.out ?hs ?_
  rotate_left 1
  case aF => intro s; simp only [putE, EvT.val, Act.put, setIfInBounds_toArray, set_cons_zero, set_cons_succ]; rfl
  case hs => exact trivial
  intro s21 w21 h; have HS21 := Aside0.mk h; clear h HS20
  refine tlP (v := .int .i64 1) 15 rfl ?_
  refine tl0 ?_
  refine reg0 (aF := ?_) [evL 0 114 [] (fun s => .agg #[.slice (s7 2).A r3_0.length (s7 2).c, .int .i64 r3_1, .int .i64 r3_2, .int .i64 r3_3, .int .i64 r3_4, .int .i64 r3_5, .int .i64 r3_6]), evP 1 115 [] (fun s => .int .i64 1), evC 2 (some 116) [] (fun s x => .int .i64 r8_0) (fun s x => [])] [3] false 4 rfl rfl (by kernel_rfl) rfl (fun _ => rfl) ?aF HS21.out ?hs ?_
  rotate_left 1
  case aF => intro s; simp only [putE, EvT.val, Act.put, setIfInBounds_toArray, set_cons_zero, set_cons_succ]; rfl
  case hs => exact ⟨ld rfl 5 (fun s => rfl) (fun s w h => by have h0 := h 0 _ rfl; have h1 := h 1 _ rfl; have h2 := h 2 _ rfl; have h3 := h 3 _ rfl; have h4 := h 4 _ rfl; have h5 := h 5 _ rfl; have h6 := h 6 _ rfl; clear h; go_simp; try rfl), pu rfl, cl rfl (fun s => #[.agg #[.slice (s7 2).A r3_0.length (s7 2).c, .int .i64 r3_1, .int .i64 r3_2, .int .i64 r3_3, .int .i64 r3_4, .int .i64 r3_5, .int .i64 r3_6], .int .i64 1]) Try.func35 (fun s w1 h => by rw [show r3_0.length = r8_1.length from (Kd.S_reads' (h.get 4 rfl)).1]; exact (laws_heldGap.calls _ _ _ _ _ _ _ _ _ _ _ _ _ ((Kd.S_reads' (h.get 4 rfl)).1 ▸ (Kd.S_reads' (h.get 4 rfl)).2.2) ((Kd.S_reads' (h.get 4 rfl)).1 ▸ (Kd.S_reads' (h.get 4 rfl)).2.1) H9.out).mono (by rintro e w2 ⟨rfl, hb⟩; exact fin0 hb)), trivial⟩
  intro s22 w22 h; have HS22 := Aside0.mk h; clear h HS21
  refine tlP (v := .int .i64 r8_0) 15 rfl ?_
  refine tl0 ?_
  refine wp_seq ?_
  refine reg0 (aF := ?_) [evP 0 117 [] (fun s => .int .i64 r8_0), evP 1 118 [] (fun s => .bool false)] [] false 2 rfl rfl (by kernel_rfl) rfl (fun _ => rfl) ?aF HS22.out ?hs ?_
  rotate_left 1
  case aF => intro s; simp only [putE, EvT.val, Act.put, setIfInBounds_toArray, set_cons_zero, set_cons_succ]; rfl
  case hs => exact ⟨pu rfl, pb (q := .lss) Nb_r8_0 rfl, trivial⟩
  intro s23 w23 h; have HS23 := Aside0.mk h; clear h HS22
  refine tl0 ?_
  refine wp_cond_false rfl ?_
  refine wp_skip ?_
  refine thN ?_
  refine wp_seq ?_
  refine reg0 (aF := ?_) [evP 0 119 [] (fun s => .int .i64 r8_0), evP 1 120 [] (fun s => .int .i64 r8_0), evP 2 121 [] (fun s => .bool false)] [] false 3 rfl rfl (by kernel_rfl) rfl (fun _ => rfl) ?aF HS23.out ?hs ?_
  rotate_left 1
  case aF => intro s; simp only [putE, EvT.val, Act.put, setIfInBounds_toArray, set_cons_zero, set_cons_succ]; rfl
  case hs => exact ⟨pu rfl, pu rfl, pb (q := .neq) (bne_self_eq_false _) rfl, trivial⟩
  intro s24 w24 h; have HS24 := Aside0.mk h; clear h HS23
  refine tl0 ?_
  refine wp_cond_false rfl ?_
  refine wp_skip ?_
  refine thN ?_
  refine reg0 (aF := ?_) [] [0] false 1 rfl rfl (by kernel_rfl) rfl (fun _ => rfl) ?aF HS24.out ?hs ?_
  rotate_left 1
  case aF => intro s; simp only [putE, EvT.val, Act.put, setIfInBounds_toArray, set_cons_zero, set_cons_succ]; rfl
  case hs => exact trivial
  intro s25 w25 h; have HS25 := Aside0.mk h; clear h HS24
  refine tlP (v := .bool true) 4 rfl ?_
  refine tl0 ?_
  refine wp_ret ?_
  go_ret
  exact ⟨by first | rfl | simp, HS25.out.hb⟩
end Go.Proofs.Ytaieobidkmihkaa.P


/- The law FnExactMoveGap. -/
namespace Go.Proofs.Ytaieobidkmihkaa.P
open Go.RowKit Go.Proofs.YtaieobidkmihkaaW.PrintWords Go.Proofs.YtaieobidkmihkaaW.Mine
set_option linter.unusedVariables false
theorem FnExactMoveGap_walk (w : World) (cs0 : Array Value) (a0 : ((List (List Int)) × ((Int × (Int × (Int × Int))) × (Int × Int)))) (hK0 : (Kd.pair (Kd.slice 29 (Kd.slice 5 (Kd.int .u8))) (Kd.pair (Kd.pair (Kd.int .i64) (Kd.pair (Kd.int .i64) (Kd.pair (Kd.int .i64) (Kd.int .i64)))) (Kd.pair (Kd.int .i64) (Kd.int .i64)))).K w a0 cs0.toList) (ok0 : ((∀ y1 ∈ a0.1, (∀ y2 ∈ y1, (Lit.int .u8 y2).wf = true)) ∧ (((Lit.int .i64 a0.2.1.1).wf = true ∧ ((Lit.int .i64 a0.2.1.2.1).wf = true ∧ ((Lit.int .i64 a0.2.1.2.2.1).wf = true ∧ (Lit.int .i64 a0.2.1.2.2.2).wf = true))) ∧ ((Lit.int .i64 a0.2.2.1).wf = true ∧ (Lit.int .i64 a0.2.2.2).wf = true)))) (a1 : Int) (w1 : (Lit.int .i64 a1).wf = true) :
    Calls Try.prog 13 #[.agg cs0, .int .i64 a1] w fun e w' => e = .returned (.bool true) ∧ Below w.heap.size w w' := by
  obtain ⟨m0, ⟨x00, x01, x02, x03⟩, x04, x05⟩ := a0
  obtain ⟨_, _, hcs0, ⟨A0, c0, rfl, hc0, hr0⟩, ⟨_, _, rfl, ⟨_, _, rfl, rfl, ⟨_, _, rfl, rfl, ⟨_, _, rfl, rfl, rfl⟩⟩⟩, ⟨_, _, rfl, rfl, rfl⟩⟩⟩ := hK0
  obtain rfl := agg_of hcs0
  obtain ⟨r, hz, hh⟩ := szGap_f m0 x00 x01 x02 x03 x04 x05 1048576 (by omega) (by omega) hr0.2.1 (C_inner_len hr0)
  rcases hh with ⟨hm, h5⟩ | rfl
  · have hs : -9223372036854775808 ≤ x01 ∧ x01 ≤ 9223372036854775807 := wf_i64 ok0.2.1.2.1
    have h6 := moveGap_ok m0 x00 x01 x02 x03 x04 x05 a1
    exact FnExactMoveGap_run A0 c0 m0 x00 x01 x02 x03 x04 x05 a1 _ _ _ _ _ _ _ _ _ _ _ _ _ _ _ _ _ _ _ _ _ w hr0 hc0 hz.rounds (toGap_f m0 _ _ _ _ _ _ hm) (specMoveGap_f m0 x00 x01 x02 x03 x04 x05 a1 hm hs).rounds (implMoveGap_f m0 x00 x01 x02 x03 x04 x05 a1 hm) (eqGap_g _ _ _ _ _ _ _ h6).rounds (eqGap_g _ _ _ _ _ _ _ hm).rounds (markM _ hm) (markM _ h6) (heldGap_g _ _ _ _ _ _ _ h6).rounds (by omega) (markM_pos _) (markM_pos _)
  · exact FnExactMoveGap_run0 A0 c0 m0 x00 x01 x02 x03 x04 x05 a1 _ w hr0 hc0 hz.rounds (by omega)
end Go.Proofs.Ytaieobidkmihkaa.P


namespace Go.Proofs.Ytaieobidkmihkaa.fnExactMoveGap
open Go.ChangeShapes Go.WideShapes Go.ChangeAt Go.RowKit Go.Proofs.YtaieobidkmihkaaW.PrintWords Go.Proofs.YtaieobidkmihkaaW.Mine Go.Proofs.Ytaieobidkmihkaa.P
open Go.ChangeMaps (open_string shut_string)
set_option linter.unusedVariables false
theorem own : ownKnob Try.prog.godebug = none := by kernel_rfl
theorem laidOut : laidOutB Try.prog = true := by kernel_rfl
set_option maxRecDepth 100000 in
theorem lifted (os : Os) (started : os.Started) (H : Type) (enc : TypeId × Value → H) :
    ReturnsInHanded {} Try.checked os 13 .any (Rows.fnExactMoveGapSpec.pre6 enc Try.prog Try.f13 Rows.fnExactMoveGapRow.domain false) (Rows.fnExactMoveGapSpec.post enc Try.prog Try.f13 false true false false) := by
  refine returnsInHanded_of_change_sized (C := Try.checked) own started (by kernel_rfl) Try.func13
    (ChangeSpec.witness6 (enc := enc) (C := Try.checked) false ⟨#[], #[.agg #[.slice none 0 0, .int .i64 0, .int .i64 0, .int .i64 0, .int .i64 0, .int .i64 0, .int .i64 0], .int .i64 0], []⟩ 8 (by kernel_rfl) (by kernel_rfl) (by kernel_rfl) (by kernel_rfl)) ?_
  intro W base args ds gs before hval0 hW hcnd hsz0 _
  have hval : ∀ (j : Nat) t v, Try.f13.params[j]? = some t → args[j]? = some v → Value.okWide Try.prog W .any base t v := hval0
  have hW' := hW
  obtain ⟨p, q, hA0, hV, rfl, hfz, hnd⟩ := hW
  have hA : DataW.TrodAll enc Try.prog W 0 (fun _ => true) true Try.f13.params.toList args.toList ds p := hA0
  rw [Try.params13] at hA hval
  obtain ⟨v0, vs0, d0, ds0, p0, q0, hargs, rfl, rfl, h0, r0⟩ := trodAll_cons hA
  obtain ⟨v1, vs1, d1, ds1, p1, q1, rfl, rfl, rfl, h1, r1⟩ := trodAll_cons r0
  obtain ⟨rfl, rfl, rfl⟩ := trodAll_nil r1
  obtain rfl : args = #[v0, v1] := by cases args; simp_all
  obtain ⟨rfl, rfl⟩ := trodVars_none hV
  have k0 := h0
  have lt0 : ∀ x ∈ p0, x.block < W.heap.size := by obtain ⟨m, hm⟩ := k0; exact DataW.trod_lt m _ _ _ hm
  obtain ⟨cs0, rfl, _⟩ := okWide_struct Try.underlying50 (hval 0 50 v0 rfl rfl)
  obtain ⟨a0, hK0, ok0⟩ : ∃ a : ((List (List Int)) × ((Int × (Int × (Int × Int))) × (Int × Int))), (Kd.pair (Kd.slice 29 (Kd.slice 5 (Kd.int .u8))) (Kd.pair (Kd.pair (Kd.int .i64) (Kd.pair (Kd.int .i64) (Kd.pair (Kd.int .i64) (Kd.int .i64)))) (Kd.pair (Kd.int .i64) (Kd.int .i64)))).K W a cs0.toList ∧ ((∀ y1 ∈ a.1, (∀ y2 ∈ y1, (Lit.int .u8 y2).wf = true)) ∧ (((Lit.int .i64 a.2.1.1).wf = true ∧ ((Lit.int .i64 a.2.1.2.1).wf = true ∧ ((Lit.int .i64 a.2.1.2.2.1).wf = true ∧ (Lit.int .i64 a.2.1.2.2.2).wf = true))) ∧ ((Lit.int .i64 a.2.2.1).wf = true ∧ (Lit.int .i64 a.2.2.2).wf = true))) := by obtain ⟨fuel, hf⟩ := h0; exact (ReadsK.struct Try.underlying50 (by kernel_rfl) (ReadsF.cons rfl (ReadsK.struct Try.underlying24 (by kernel_rfl) (ReadsF.last rfl (ReadsK.slice Try.underlying22 (by kernel_rfl) (ReadsK.slice Try.underlying29 (by kernel_rfl) (ReadsK.int Try.underlying5))) (by kernel_rfl))) (by kernel_rfl) (ReadsF.cons rfl (ReadsK.struct Try.underlying26 (by kernel_rfl) (ReadsF.cons rfl (ReadsK.int Try.underlying3) (by kernel_rfl) (ReadsF.cons rfl (ReadsK.int Try.underlying3) (by kernel_rfl) (ReadsF.cons rfl (ReadsK.int Try.underlying3) (by kernel_rfl) (ReadsF.last rfl (ReadsK.int Try.underlying3) (by kernel_rfl)))))) (by kernel_rfl) (ReadsF.cons rfl (ReadsK.int Try.underlying3) (by kernel_rfl) (ReadsF.last rfl (ReadsK.int Try.underlying3) (by kernel_rfl)))))) hf
  obtain ⟨a1, rfl, rfl, rfl, w1⟩ := open_int Try.underlying3 (hval 1 3 v1 rfl rfl) h1
  clear hA0 hval0 hsz0
  refine (FnExactMoveGap_walk W cs0 a0 hK0 ok0 a1 w1).mono fun e W' ⟨he, bel⟩ => ?_
  subst he
  exact ⟨_, rfl, _, _, _, [], _, [], hW', trodAll_mk1 (shut_bool Try.underlying4 _), (trodAll_cons_mk (Below.trod laidOut (by kernel_rfl) (of_decide_eq_true (by kernel_rfl)) k0 bel lt0) (trodAll_cons_mk (shut_int Try.underlying3 w1) trodAll_mk0)), rfl, bel.frame _, fun h => by cases h⟩
theorem over : Rows.fnExactMoveGapRow.holds Try.pinned (OpenSpec.ofChange Rows.fnExactMoveGapSpec) :=
  OpenClaim.holds_of_wide 13 Try.f13 rfl rfl rfl rfl rfl rfl rfl ⟨rfl, rfl, rfl, rfl, rfl⟩ rfl rfl rfl rfl rfl (by kernel_rfl) Try.func13 (by kernel_rfl)
    (of_decide_eq_true (by kernel_rfl)) (by unfold Func.isWrapper; first | (rw [if_pos (by decide +kernel)]; kernel_rfl) | (rw [if_neg (by decide +kernel)]; exact ⟨rfl, rfl⟩))
    (fun os started H enc _ => lifted os started H enc)
theorem proved : Rows.FnExactMoveGapSaid := over
end Go.Proofs.Ytaieobidkmihkaa.fnExactMoveGap
namespace Go.Proofs.Ytaieobidkmihkaa
theorem fnExactMoveGap_holds : Rows.FnExactMoveGapSaid := fnExactMoveGap.proved
#print axioms fnExactMoveGap_holds
end Go.Proofs.Ytaieobidkmihkaa


