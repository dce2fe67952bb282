/- For all arguments, impl.CopyInto answers what spec.CopyInto answers, leaves its arguments alone, and shares nothing of what it returns.
   The row of the law FnExactCopyInto, out of its walk. Conditions: none. -/
import Derived.Test.YtpnoakpdmojgeaaQFnExactCopyInto3
import Derived.Test.YtpnoakpdmojgeaaRows
import Derived.WalkKit
import Derived.ProofKit
import Derived.OpenShut
import Derived.ShutString
import Derived.ChangeOld
import Derived.Below
import Derived.SizedLaws
import Derived.Test.YtpnoakpdmojgeaaWApart
import Derived.Test.YtpnoakpdmojgeaaWFoot
import Derived.Test.YtpnoakpdmojgeaaWGuard
import Derived.Test.YtpnoakpdmojgeaaWKept
import Derived.Test.YtpnoakpdmojgeaaWLast
import Derived.Test.YtpnoakpdmojgeaaWMore
import Derived.Test.YtpnoakpdmojgeaaWN
import Derived.Test.YtpnoakpdmojgeaaWRepsOne
import Derived.Test.YtpnoakpdmojgeaaWShare
import Derived.Test.YtpnoakpdmojgeaaWTab
import Derived.Test.YtpnoakpdmojgeaaWWords
-- written by wip/gen_law.py
namespace Go.Proofs.Ytpnoakpdmojgeaa.P
open Go.RowKit Go.Proofs.YtpnoakpdmojgeaaW.PrintWords Go.Proofs.YtpnoakpdmojgeaaW.PrintLast Go.Proofs.YtpnoakpdmojgeaaW.PrintMore Go.Proofs.YtpnoakpdmojgeaaW.Mine
open List (setIfInBounds_toArray set_cons_zero set_cons_succ)
attribute [local go_sem] max2_int min2_int max_two min_two max_three min_three max_four min_four
set_option linter.unusedVariables false
set_option linter.unusedSimpArgs false
set_option maxHeartbeats 8000000 in
set_option maxRecDepth 100000 in
theorem FnExactCopyInto_run0 (A0_0 : Option Addr) (c0_0 : Nat) (l0_0 : List (List Int)) (a1_0 : Int) (a1_1 : Int) (a1_2 : Int) (a1_3 : Int) (a2_0 : Int) (a2_1 : Int) (a2_2 : Int) (a2_3 : Int) (r1_0 : Int) (w : World) (hr0_0 : Kd.C (Kd.slice 5 (Kd.int .u8)) w A0_0 l0_0.length l0_0) (hc0_0 : l0_0.length ≤ c0_0) (H1 : ∃ k, laws_szMemory.f k l0_0 1048576 = some r1_0) (P_ : r1_0 < 0) :
    Calls Try.prog 11 #[.agg #[.slice A0_0 l0_0.length c0_0], .agg #[.int .i64 a1_0, .int .i64 a1_1, .int .i64 a1_2, .int .i64 a1_3], .agg #[.int .i64 a2_0, .int .i64 a2_1, .int .i64 a2_2, .int .i64 a2_3]] w fun e w' => e = .returned (.bool true) ∧ Below w.heap.size w w' := by
  have HR0_0 := Aside0.mk hr0_0; have HC0_0 := Aside0.mk hc0_0; clear hr0_0 hc0_0
  obtain ⟨k, H1_⟩ := H1; have H1 := Aside0.mk H1_; clear H1_
  have Pb_ : decide (r1_0 < 0) = true := decide_eq_true P_; clear P_
  have HS0 : Aside0 (Stk w [] w) := ⟨Stk.nil w⟩
  go_enter Try.func11, Try.ntmps11
  refine reg (aF := ?_) (nw := ?_) [evB 0 3 [] 31 (fun s => #[.slice A0_0 l0_0.length c0_0]) 9999 [] (fun s => #[.slice A0_0 l0_0.length c0_0]), evB 1 4 [] 54 (fun s => #[.int .i64 a1_0, .int .i64 a1_1, .int .i64 a1_2, .int .i64 a1_3]) 9999 [] (fun s => #[.int .i64 a1_0, .int .i64 a1_1, .int .i64 a1_2, .int .i64 a1_3]), evB 2 5 [] 54 (fun s => #[.int .i64 a2_0, .int .i64 a2_1, .int .i64 a2_2, .int .i64 a2_3]) 9999 [] (fun s => #[.int .i64 a2_0, .int .i64 a2_1, .int .i64 a2_2, .int .i64 a2_3]), evP 3 6 [] (fun s => .bool false)] [] [] false 4 rfl rfl (by kernel_rfl) rfl (mf0) ?aF ?nw HS0.out ?hs ?_
  rotate_left 2
  case aF => intro s; simp only [putE, EvT.val, Act.put, setIfInBounds_toArray, set_cons_zero, set_cons_succ]; rfl
  case nw => intro s; simp only [thA, bsA, List.nil_append, List.cons_append, List.append_nil, if_true, if_false, Nat.reduceLT, set_cons_zero, set_cons_succ]; rfl
  case hs => exact ⟨bv rfl (fun s w => by go_simp; try rfl), bv rfl (fun s w => by go_simp; try rfl), bv rfl (fun s w => by go_simp; try rfl), pu rfl, trivial⟩
  intro s1 w1 h; have HS1 := Aside0.mk h; clear h HS0
  refine tl0 ?_
  refine reg0 (aF := ?_) [] [0] false 1 rfl rfl (by kernel_rfl) rfl (fun _ => rfl) ?aF HS1.out ?hs ?_
  rotate_left 1
  case aF => intro s; simp only [putE, EvT.val, Act.put, setIfInBounds_toArray, set_cons_zero, set_cons_succ]; rfl
  case hs => exact trivial
  intro s2 w2 h; have HS2 := Aside0.mk h; clear h HS1
  refine tlP (v := .int .i64 1048576) 7 rfl ?_
  refine tl0 ?_
  refine reg0 (aF := ?_) [evL 0 21 [] (fun s => .agg #[.slice A0_0 l0_0.length c0_0]), evP 1 22 [] (fun s => .int .i64 1048576), evC 2 (some 23) [] (fun s x => .int .i64 r1_0) (fun s x => [])] [3] false 4 rfl rfl (by kernel_rfl) rfl (fun _ => rfl) ?aF HS2.out ?hs ?_
  rotate_left 1
  case aF => intro s; simp only [putE, EvT.val, Act.put, setIfInBounds_toArray, set_cons_zero, set_cons_succ]; rfl
  case hs => exact ⟨ld rfl 0 (fun s => rfl) (fun s w h => by have h0 := h 0 _ rfl; clear h; go_simp; try rfl), pu rfl, cl rfl (fun s => #[.agg #[.slice A0_0 l0_0.length c0_0], .int .i64 1048576]) Try.func19 (fun s w1 h => (laws_szMemory.calls _ _ _ _ _ _ _ (Kd.C_below HR0_0.out h.hb) HC0_0.out H1.out).mono (by rintro e w2 ⟨rfl, hb⟩; exact fin0 hb)), trivial⟩
  intro s3 w3 h; have HS3 := Aside0.mk h; clear h HS2
  refine tlP (v := .int .i64 r1_0) 7 rfl ?_
  refine tl0 ?_
  refine wp_seq ?_
  refine reg0 (aF := ?_) [evP 0 24 [] (fun s => .int .i64 r1_0), evP 1 25 [] (fun s => .bool true)] [] false 2 rfl rfl (by kernel_rfl) rfl (fun _ => rfl) ?aF HS3.out ?hs ?_
  rotate_left 1
  case aF => intro s; simp only [putE, EvT.val, Act.put, setIfInBounds_toArray, set_cons_zero, set_cons_succ]; rfl
  case hs => exact ⟨pu rfl, pb (q := .lss) Pb_ rfl, trivial⟩
  intro s4 w4 h; have HS4 := Aside0.mk h; clear h HS3
  refine tl0 ?_
  refine wp_cond_true rfl ?_
  refine reg0 (aF := ?_) [] [0] false 1 rfl rfl (by kernel_rfl) rfl (fun _ => rfl) ?aF HS4.out ?hs ?_
  rotate_left 1
  case aF => intro s; simp only [putE, EvT.val, Act.put, setIfInBounds_toArray, set_cons_zero, set_cons_succ]; rfl
  case hs => exact trivial
  intro s5 w5 h; have HS5 := Aside0.mk h; clear h HS4
  refine tlP (v := .bool true) 6 rfl ?_
  refine tl0 ?_
  refine wp_ret ?_
  go_ret
  exact ⟨by first | rfl | simp, HS5.out.hb⟩
set_option maxHeartbeats 8000000 in
set_option maxRecDepth 100000 in
theorem FnExactCopyInto_run (A0_0 : Option Addr) (c0_0 : Nat) (l0_0 : List (List Int)) (a1_0 : Int) (a1_1 : Int) (a1_2 : Int) (a1_3 : Int) (a2_0 : Int) (a2_1 : Int) (a2_2 : Int) (a2_3 : Int) (r1_0 : Int) (r2_0 : List (List Int)) (r3_0 : Int) (r3_1 : Int) (r3_2 : Int) (r3_3 : Int) (r4_0 : Int) (r4_1 : Int) (r4_2 : Int) (r4_3 : Int) (r5_0 : List (List Int)) (r5_1 : Int) (r5_2 : Bool) (r9_0 : Int) (r9_1 : List (List Int)) (r10_0 : Int) (r10_1 : List (List Int)) (w : World) (hr0_0 : Kd.C (Kd.slice 5 (Kd.int .u8)) w A0_0 l0_0.length l0_0) (hc0_0 : l0_0.length ≤ c0_0) (H1 : ∃ k, laws_szMemory.f k l0_0 1048576 = some r1_0) (H2 : laws_toMemory.f l0_0 = some r2_0) (H3 : laws_toWindow.f a1_0 a1_1 a1_2 a1_3 = some (r3_0, r3_1, r3_2, r3_3)) (H4 : laws_toWindow.f a2_0 a2_1 a2_2 a2_3 = some (r4_0, r4_1, r4_2, r4_3)) (H5 : ∃ k, spec_CopyInto.f k r2_0 r3_0 r3_1 r3_2 r3_3 r4_0 r4_1 r4_2 r4_3 = some (r5_0, r5_1, r5_2)) (H6 : impl_CopyInto.f r2_0 r3_0 r3_1 r3_2 r3_3 r4_0 r4_1 r4_2 r4_3 = some (r5_0, r5_1, r5_2)) (H7 : ∃ k, laws_eqMemory.f k r5_0 r5_0 = some true) (H8 : ∃ k, laws_eqMemory.f k r2_0 r2_0 = some true) (H9 : laws_markMemory.f r2_0 1 = some (r9_0, r9_1)) (H10 : laws_markMemory.f r5_0 1 = some (r10_0, r10_1)) (H11 : ∃ k, laws_heldMemory.f k r10_1 1 = some r10_0) (N_r10_0 : ¬ r10_0 < 0) (N_r1_0 : ¬ r1_0 < 0) (N_r9_0 : ¬ r9_0 < 0) :
    Calls Try.prog 11 #[.agg #[.slice A0_0 l0_0.length c0_0], .agg #[.int .i64 a1_0, .int .i64 a1_1, .int .i64 a1_2, .int .i64 a1_3], .agg #[.int .i64 a2_0, .int .i64 a2_1, .int .i64 a2_2, .int .i64 a2_3]] w fun e w' => e = .returned (.bool true) ∧ Below w.heap.size w w' := by
  have HR0_0 := Aside0.mk hr0_0; have HC0_0 := Aside0.mk hc0_0; clear hr0_0 hc0_0
  obtain ⟨k, H1_⟩ := H1; have H1 := Aside0.mk H1_; clear H1_
  have H2_ := Aside0.mk H2; clear H2; have H2 := H2_; clear H2_
  have H3_ := Aside0.mk H3; clear H3; have H3 := H3_; clear H3_
  have H4_ := Aside0.mk H4; clear H4; have H4 := H4_; clear H4_
  obtain ⟨k, H5_⟩ := H5; have H5 := Aside0.mk H5_; clear H5_
  have H6_ := Aside0.mk H6; clear H6; have H6 := H6_; clear H6_
  obtain ⟨k, H7_⟩ := H7; have H7 := Aside0.mk H7_; clear H7_
  obtain ⟨k, H8_⟩ := H8; have H8 := Aside0.mk H8_; clear H8_
  have H9_ := Aside0.mk H9; clear H9; have H9 := H9_; clear H9_
  have H10_ := Aside0.mk H10; clear H10; have H10 := H10_; clear H10_
  obtain ⟨k, H11_⟩ := H11; have H11 := Aside0.mk H11_; clear H11_
  have Nb_r10_0 : decide (r10_0 < 0) = false := decide_eq_false N_r10_0; clear N_r10_0
  have Nb_r1_0 : decide (r1_0 < 0) = false := decide_eq_false N_r1_0; clear N_r1_0
  have Nb_r9_0 : decide (r9_0 < 0) = false := decide_eq_false N_r9_0; clear N_r9_0
  have HS0 : Aside0 (Stk w [] w) := ⟨Stk.nil w⟩
  go_enter Try.func11, Try.ntmps11
  refine reg (aF := ?_) (nw := ?_) [evB 0 3 [] 31 (fun s => #[.slice A0_0 l0_0.length c0_0]) 9999 [] (fun s => #[.slice A0_0 l0_0.length c0_0]), evB 1 4 [] 54 (fun s => #[.int .i64 a1_0, .int .i64 a1_1, .int .i64 a1_2, .int .i64 a1_3]) 9999 [] (fun s => #[.int .i64 a1_0, .int .i64 a1_1, .int .i64 a1_2, .int .i64 a1_3]), evB 2 5 [] 54 (fun s => #[.int .i64 a2_0, .int .i64 a2_1, .int .i64 a2_2, .int .i64 a2_3]) 9999 [] (fun s => #[.int .i64 a2_0, .int .i64 a2_1, .int .i64 a2_2, .int .i64 a2_3]), evP 3 6 [] (fun s => .bool false)] [] [] false 4 rfl rfl (by kernel_rfl) rfl (mf0) ?aF ?nw HS0.out ?hs ?_
  rotate_left 2
  case aF => intro s; simp only [putE, EvT.val, Act.put, setIfInBounds_toArray, set_cons_zero, set_cons_succ]; rfl
  case nw => intro s; simp only [thA, bsA, List.nil_append, List.cons_append, List.append_nil, if_true, if_false, Nat.reduceLT, set_cons_zero, set_cons_succ]; rfl
  case hs => exact ⟨bv rfl (fun s w => by go_simp; try rfl), bv rfl (fun s w => by go_simp; try rfl), bv rfl (fun s w => by go_simp; try rfl), pu rfl, trivial⟩
  intro s1 w1 h; have HS1 := Aside0.mk h; clear h HS0
  refine tl0 ?_
  refine reg0 (aF := ?_) [] [0] false 1 rfl rfl (by kernel_rfl) rfl (fun _ => rfl) ?aF HS1.out ?hs ?_
  rotate_left 1
  case aF => intro s; simp only [putE, EvT.val, Act.put, setIfInBounds_toArray, set_cons_zero, set_cons_succ]; rfl
  case hs => exact trivial
  intro s2 w2 h; have HS2 := Aside0.mk h; clear h HS1
  refine tlP (v := .int .i64 1048576) 7 rfl ?_
  refine tl0 ?_
  refine reg0 (aF := ?_) [evL 0 21 [] (fun s => .agg #[.slice A0_0 l0_0.length c0_0]), evP 1 22 [] (fun s => .int .i64 1048576), evC 2 (some 23) [] (fun s x => .int .i64 r1_0) (fun s x => [])] [3] false 4 rfl rfl (by kernel_rfl) rfl (fun _ => rfl) ?aF HS2.out ?hs ?_
  rotate_left 1
  case aF => intro s; simp only [putE, EvT.val, Act.put, setIfInBounds_toArray, set_cons_zero, set_cons_succ]; rfl
  case hs => exact ⟨ld rfl 0 (fun s => rfl) (fun s w h => by have h0 := h 0 _ rfl; clear h; go_simp; try rfl), pu rfl, cl rfl (fun s => #[.agg #[.slice A0_0 l0_0.length c0_0], .int .i64 1048576]) Try.func19 (fun s w1 h => (laws_szMemory.calls _ _ _ _ _ _ _ (Kd.C_below HR0_0.out h.hb) HC0_0.out H1.out).mono (by rintro e w2 ⟨rfl, hb⟩; exact fin0 hb)), trivial⟩
  intro s3 w3 h; have HS3 := Aside0.mk h; clear h HS2
  refine tlP (v := .int .i64 r1_0) 7 rfl ?_
  refine tl0 ?_
  refine wp_seq ?_
  refine reg0 (aF := ?_) [evP 0 24 [] (fun s => .int .i64 r1_0), evP 1 25 [] (fun s => .bool false)] [] false 2 rfl rfl (by kernel_rfl) rfl (fun _ => rfl) ?aF HS3.out ?hs ?_
  rotate_left 1
  case aF => intro s; simp only [putE, EvT.val, Act.put, setIfInBounds_toArray, set_cons_zero, set_cons_succ]; rfl
  case hs => exact ⟨pu rfl, pb (q := .lss) Nb_r1_0 rfl, trivial⟩
  intro s4 w4 h; have HS4 := Aside0.mk h; clear h HS3
  refine tl0 ?_
  refine wp_cond_false rfl ?_
  refine wp_skip ?_
  refine thN ?_
  refine reg (aF := ?_) (nw := ?_) [evL 0 27 [] (fun s => .agg #[.slice A0_0 l0_0.length c0_0]), evC 1 (some 28) [] (fun s x => .agg #[.slice x.A r2_0.length x.c]) (fun s x => [rowS (Kd.slice 5 (Kd.int .u8)) 67 w x.lo x.hi x.A x.c r2_0]), evL 2 29 [] (fun s => .agg #[.int .i64 a1_0, .int .i64 a1_1, .int .i64 a1_2, .int .i64 a1_3]), evC 3 (some 30) [] (fun s x => .agg #[.int .i64 r3_0, .int .i64 r3_1, .int .i64 r3_2, .int .i64 r3_3]) (fun s x => []), evL 4 31 [] (fun s => .agg #[.int .i64 a2_0, .int .i64 a2_1, .int .i64 a2_2, .int .i64 a2_3]), evC 5 (some 32) [] (fun s x => .agg #[.int .i64 r4_0, .int .i64 r4_1, .int .i64 r4_2, .int .i64 r4_3]) (fun s x => []), evC 6 (some 33) [1] (fun s x => .tuple #[.agg #[.slice x.A r5_0.length x.c], .int .i64 r5_1, .bool r5_2]) (fun s x => [rowS (Kd.slice 5 (Kd.int .u8)) 67 w x.lo x.hi x.A x.c r5_0]), evP 7 26 [6] (fun s => .tuple #[.agg #[.slice (s 6).A r5_0.length (s 6).c], .int .i64 r5_1, .bool r5_2]), evP 8 34 [6] (fun s => .agg #[.slice (s 6).A r5_0.length (s 6).c]), evP 9 35 [] (fun s => .int .i64 r5_1), evP 10 36 [] (fun s => .bool r5_2), evB 11 8 [] 33 (fun s => #[.slice none 0 0]) 12 [6] (fun s => #[.slice (s 6).A r5_0.length (s 6).c]), evS 12, evP 13 9 [] (fun s => .int .i64 r5_1)] [14] [] true 15 rfl rfl (by kernel_rfl) rfl (mf0) ?aF ?nw HS4.out ?hs ?_
  rotate_left 2
  case aF => intro s; simp only [putE, EvT.val, Act.put, setIfInBounds_toArray, set_cons_zero, set_cons_succ]; rfl
  case nw => intro s; simp only [thA, bsA, List.nil_append, List.cons_append, List.append_nil, if_true, if_false, Nat.reduceLT, set_cons_zero, set_cons_succ]; rfl
  case hs => exact ⟨ld rfl 0 (fun s => rfl) (fun s w h => by have h0 := h 0 _ rfl; clear h; go_simp; try rfl), cl rfl (fun s => #[.agg #[.slice A0_0 l0_0.length c0_0]]) Try.func21 (fun s w1 h => (laws_toMemory.calls _ _ _ _ _ (Kd.C_below HR0_0.out h.hb) HC0_0.out H2.out).mono (by rintro e w2 ⟨v0_, rfl, ho0, hb⟩; obtain ⟨x, rfl, hx⟩ := fin_S ho0 hb h.hb.size; exact ⟨x, rfl, hx⟩)), ld rfl 1 (fun s => rfl) (fun s w h => by have h0 := h 0 _ rfl; have h1 := h 1 _ rfl; have h2 := h 2 _ rfl; have h3 := h 3 _ rfl; clear h; go_simp; try rfl), cl rfl (fun s => #[.agg #[.int .i64 a1_0, .int .i64 a1_1, .int .i64 a1_2, .int .i64 a1_3]]) Try.func33 (fun s w1 h => (laws_toWindow.calls _ _ _ _ _ _ _ _ _ H3.out).mono (by rintro e w2 ⟨rfl, hb⟩; exact fin0 hb)), ld rfl 2 (fun s => rfl) (fun s w h => by have h0 := h 0 _ rfl; have h1 := h 1 _ rfl; have h2 := h 2 _ rfl; have h3 := h 3 _ rfl; clear h; go_simp; try rfl), cl rfl (fun s => #[.agg #[.int .i64 a2_0, .int .i64 a2_1, .int .i64 a2_2, .int .i64 a2_3]]) Try.func33 (fun s w1 h => (laws_toWindow.calls _ _ _ _ _ _ _ _ _ H4.out).mono (by rintro e w2 ⟨rfl, hb⟩; exact fin0 hb)), cl rfl (fun s => #[.agg #[.slice (s 1).A r2_0.length (s 1).c], .agg #[.int .i64 r3_0, .int .i64 r3_1, .int .i64 r3_2, .int .i64 r3_3], .agg #[.int .i64 r4_0, .int .i64 r4_1, .int .i64 r4_2, .int .i64 r4_3]]) Try.func58 (fun s w1 h => (spec_CopyInto.calls _ _ _ _ _ _ _ _ _ _ _ _ _ _ _ _ (Kd.S_reads' (h.get 0 rfl)).2.2 (Kd.S_reads' (h.get 0 rfl)).2.1 H5.out).mono (by rintro e w2 ⟨v0_, rfl, ho0, hb⟩; obtain ⟨x, rfl, hx⟩ := fin_S ho0 hb h.hb.size; exact ⟨x, rfl, hx⟩)), pu rfl, pu rfl, pu rfl, pu rfl, bv rfl (fun s w => by go_simp; try rfl), st rfl 11 0 (fun s => [.slice (s 6).A r5_0.length (s 6).c]) rfl (fun s w h hf => by have h0 := h 0 _ rfl; have f0 := hf 0; clear h hf; go_simp; try rfl), pu rfl, trivial⟩
  intro s5 w5 h; have HS5 := Aside0.mk h; clear h HS4
  refine tlP (v := .bool r5_2) 10 rfl ?_
  refine tl0 ?_
  refine reg (aF := ?_) (nw := ?_) [evL 0 37 [] (fun s => .agg #[.slice A0_0 l0_0.length c0_0]), evC 1 (some 38) [] (fun s x => .agg #[.slice x.A r2_0.length x.c]) (fun s x => [rowS (Kd.slice 5 (Kd.int .u8)) 67 w x.lo x.hi x.A x.c r2_0]), evB 2 11 [] 33 (fun s => #[.slice none 0 0]) 3 [1] (fun s => #[.slice (s 1).A r2_0.length (s 1).c]), evS 3] [] [] false 4 rfl rfl (by kernel_rfl) rfl (mf0) ?aF ?nw HS5.out ?hs ?_
  rotate_left 2
  case aF => intro s; simp only [putE, EvT.val, Act.put, setIfInBounds_toArray, set_cons_zero, set_cons_succ]; rfl
  case nw => intro s; simp only [thA, bsA, List.nil_append, List.cons_append, List.append_nil, if_true, if_false, Nat.reduceLT, set_cons_zero, set_cons_succ]; rfl
  case hs => exact ⟨ld rfl 3 (fun s => rfl) (fun s w h => by have h0 := h 0 _ rfl; clear h; go_simp; try rfl), cl rfl (fun s => #[.agg #[.slice A0_0 l0_0.length c0_0]]) Try.func21 (fun s w1 h => (laws_toMemory.calls _ _ _ _ _ (Kd.C_below HR0_0.out h.hb) HC0_0.out H2.out).mono (by rintro e w2 ⟨v0_, rfl, ho0, hb⟩; obtain ⟨x, rfl, hx⟩ := fin_S ho0 hb h.hb.size; exact ⟨x, rfl, hx⟩)), bv rfl (fun s w => by go_simp; try rfl), st rfl 2 0 (fun s => [.slice (s 1).A r2_0.length (s 1).c]) rfl (fun s w h hf => by have h0 := h 0 _ rfl; have f0 := hf 0; clear h hf; go_simp; try rfl), trivial⟩
  intro s6 w6 h; have HS6 := Aside0.mk h; clear h HS5
  refine tl0 ?_
  refine reg (aF := ?_) (nw := ?_) [evR 0 40 1 (fun s => .agg #[.slice (s6 1).A r2_0.length (s6 1).c]), evL 1 41 [] (fun s => .agg #[.int .i64 a1_0, .int .i64 a1_1, .int .i64 a1_2, .int .i64 a1_3]), evC 2 (some 42) [] (fun s x => .agg #[.int .i64 r3_0, .int .i64 r3_1, .int .i64 r3_2, .int .i64 r3_3]) (fun s x => []), evL 3 43 [] (fun s => .agg #[.int .i64 a2_0, .int .i64 a2_1, .int .i64 a2_2, .int .i64 a2_3]), evC 4 (some 44) [] (fun s x => .agg #[.int .i64 r4_0, .int .i64 r4_1, .int .i64 r4_2, .int .i64 r4_3]) (fun s x => []), evC 5 (some 45) [] (fun s x => .tuple #[.agg #[.slice x.A r5_0.length x.c], .int .i64 r5_1, .bool r5_2]) (fun s x => [rowS (Kd.slice 5 (Kd.int .u8)) 67 w x.lo x.hi x.A x.c r5_0]), evP 6 39 [5] (fun s => .tuple #[.agg #[.slice (s 5).A r5_0.length (s 5).c], .int .i64 r5_1, .bool r5_2]), evP 7 46 [5] (fun s => .agg #[.slice (s 5).A r5_0.length (s 5).c]), evP 8 47 [] (fun s => .int .i64 r5_1), evP 9 48 [] (fun s => .bool r5_2), evB 10 12 [] 33 (fun s => #[.slice none 0 0]) 11 [5] (fun s => #[.slice (s 5).A r5_0.length (s 5).c]), evS 11, evP 12 13 [] (fun s => .int .i64 r5_1)] [13] [] true 14 rfl rfl (by kernel_rfl) rfl (mf0) ?aF ?nw HS6.out ?hs ?_
  rotate_left 2
  case aF => intro s; simp only [putE, EvT.val, Act.put, setIfInBounds_toArray, set_cons_zero, set_cons_succ]; rfl
  case nw => intro s; simp only [thA, bsA, List.nil_append, List.cons_append, List.append_nil, if_true, if_false, Nat.reduceLT, set_cons_zero, set_cons_succ]; rfl
  case hs => exact ⟨lr rfl 1 rfl (fun s w h => by have h0 := h 0 _ rfl; clear h; go_simp; try rfl), ld rfl 6 (fun s => rfl) (fun s w h => by have h0 := h 0 _ rfl; have h1 := h 1 _ rfl; have h2 := h 2 _ rfl; have h3 := h 3 _ rfl; clear h; go_simp; try rfl), cl rfl (fun s => #[.agg #[.int .i64 a1_0, .int .i64 a1_1, .int .i64 a1_2, .int .i64 a1_3]]) Try.func33 (fun s w1 h => (laws_toWindow.calls _ _ _ _ _ _ _ _ _ H3.out).mono (by rintro e w2 ⟨rfl, hb⟩; exact fin0 hb)), ld rfl 7 (fun s => rfl) (fun s w h => by have h0 := h 0 _ rfl; have h1 := h 1 _ rfl; have h2 := h 2 _ rfl; have h3 := h 3 _ rfl; clear h; go_simp; try rfl), cl rfl (fun s => #[.agg #[.int .i64 a2_0, .int .i64 a2_1, .int .i64 a2_2, .int .i64 a2_3]]) Try.func33 (fun s w1 h => (laws_toWindow.calls _ _ _ _ _ _ _ _ _ H4.out).mono (by rintro e w2 ⟨rfl, hb⟩; exact fin0 hb)), cl rfl (fun s => #[.agg #[.slice (s6 1).A r2_0.length (s6 1).c], .agg #[.int .i64 r3_0, .int .i64 r3_1, .int .i64 r3_2, .int .i64 r3_3], .agg #[.int .i64 r4_0, .int .i64 r4_1, .int .i64 r4_2, .int .i64 r4_3]]) Try.func59 (fun s w1 h => (impl_CopyInto.calls _ _ _ _ _ _ _ _ _ _ _ _ _ _ _ (Kd.S_reads' (h.get 0 rfl)).2.2 (Kd.S_reads' (h.get 0 rfl)).2.1 H6.out).mono (by rintro e w2 ⟨v0_, rfl, ho0, hb⟩; obtain ⟨x, rfl, hx⟩ := fin_S ho0 hb h.hb.size; exact ⟨x, rfl, hx⟩)), pu rfl, pu rfl, pu rfl, pu rfl, bv rfl (fun s w => by go_simp; try rfl), st rfl 10 0 (fun s => [.slice (s 5).A r5_0.length (s 5).c]) rfl (fun s w h hf => by have h0 := h 0 _ rfl; have f0 := hf 0; clear h hf; go_simp; try rfl), pu rfl, trivial⟩
  intro s7 w7 h; have HS7 := Aside0.mk h; clear h HS6
  refine tlP (v := .bool r5_2) 14 rfl ?_
  refine tl0 ?_
  refine wp_seq ?_
  refine reg0 (aF := ?_) [evL 0 49 [] (fun s => .agg #[.slice (s7 5).A r5_0.length (s7 5).c]), evL 1 50 [] (fun s => .agg #[.slice (s5 6).A r5_0.length (s5 6).c]), evC 2 (some 51) [] (fun s x => .bool true) (fun s x => []), evP 3 52 [] (fun s => .bool false), evP 4 53 [] (fun s => .bool false), evP 5 54 [] (fun s => .int .i64 r5_1), evP 6 55 [] (fun s => .int .i64 r5_1), evP 7 56 [] (fun s => .bool false), evP 8 57 [] (fun s => .bool false), evP 9 58 [] (fun s => .bool false), evP 10 59 [] (fun s => .bool r5_2), evP 11 60 [] (fun s => .bool r5_2), evP 12 61 [] (fun s => .bool false), evP 13 62 [] (fun s => .bool false)] [] false 14 rfl rfl (by kernel_rfl) rfl (fun _ => rfl) ?aF HS7.out ?hs ?_
  rotate_left 1
  case aF => intro s; simp only [putE, EvT.val, Act.put, setIfInBounds_toArray, set_cons_zero, set_cons_succ]; rfl
  case hs => exact ⟨ld rfl 1 (fun s => rfl) (fun s w h => by have h0 := h 0 _ rfl; clear h; go_simp; try rfl), ld rfl 6 (fun s => rfl) (fun s w h => by have h0 := h 0 _ rfl; clear h; go_simp; try rfl), cl rfl (fun s => #[.agg #[.slice (s7 5).A r5_0.length (s7 5).c], .agg #[.slice (s5 6).A r5_0.length (s5 6).c]]) Try.func23 (fun s w1 h => (laws_eqMemory.calls _ _ _ _ _ _ _ _ _ (Kd.S_reads' (h.get 0 rfl)).2.2 (Kd.S_reads' (h.get 0 rfl)).2.1 (Kd.S_reads' (h.get 5 rfl)).2.2 (Kd.S_reads' (h.get 5 rfl)).2.1 H7.out).mono (by rintro e w2 ⟨rfl, hb⟩; exact fin0 hb)), pu rfl, pu rfl, pu rfl, pu rfl, pb (q := .neq) (bne_self_eq_false _) rfl, pu rfl, pu rfl, pu rfl, pu rfl, pn Try.underlying4 rfl, pu rfl, trivial⟩
  intro s8 w8 h; have HS8 := Aside0.mk h; clear h HS7
  refine tl0 ?_
  refine wp_cond_false rfl ?_
  refine wp_skip ?_
  refine thN ?_
  refine wp_seq ?_
  refine reg (aF := ?_) (nw := ?_) [evR 0 63 3 (fun s => .agg #[.slice (s6 1).A r2_0.length (s6 1).c]), evL 1 64 [] (fun s => .agg #[.slice A0_0 l0_0.length c0_0]), evC 2 (some 65) [] (fun s x => .agg #[.slice x.A r2_0.length x.c]) (fun s x => [rowS (Kd.slice 5 (Kd.int .u8)) 67 w x.lo x.hi x.A x.c r2_0]), evC 3 (some 66) [2] (fun s x => .bool true) (fun s x => []), evP 4 67 [] (fun s => .bool false)] [] [] true 5 rfl rfl (by kernel_rfl) rfl (mf0) ?aF ?nw HS8.out ?hs ?_
  rotate_left 2
  case aF => intro s; simp only [putE, EvT.val, Act.put, setIfInBounds_toArray, set_cons_zero, set_cons_succ]; rfl
  case nw => intro s; simp only [thA, bsA, List.nil_append, List.cons_append, List.append_nil, if_true, if_false, Nat.reduceLT, set_cons_zero, set_cons_succ]; rfl
  case hs => exact ⟨lr rfl 3 rfl (fun s w h => by have h0 := h 0 _ rfl; clear h; go_simp; try rfl), ld rfl 7 (fun s => rfl) (fun s w h => by have h0 := h 0 _ rfl; clear h; go_simp; try rfl), cl rfl (fun s => #[.agg #[.slice A0_0 l0_0.length c0_0]]) Try.func21 (fun s w1 h => (laws_toMemory.calls _ _ _ _ _ (Kd.C_below HR0_0.out h.hb) HC0_0.out H2.out).mono (by rintro e w2 ⟨v0_, rfl, ho0, hb⟩; obtain ⟨x, rfl, hx⟩ := fin_S ho0 hb h.hb.size; exact ⟨x, rfl, hx⟩)), cl rfl (fun s => #[.agg #[.slice (s6 1).A r2_0.length (s6 1).c], .agg #[.slice (s 2).A r2_0.length (s 2).c]]) Try.func23 (fun s w1 h => (laws_eqMemory.calls _ _ _ _ _ _ _ _ _ (Kd.S_reads' (h.get 3 rfl)).2.2 (Kd.S_reads' (h.get 3 rfl)).2.1 (Kd.S_reads' (h.get 0 rfl)).2.2 (Kd.S_reads' (h.get 0 rfl)).2.1 H8.out).mono (by rintro e w2 ⟨rfl, hb⟩; exact fin0 hb)), pu rfl, trivial⟩
  intro s9 w9 h; have HS9 := Aside0.mk h; clear h HS8
  refine tl0 ?_
  refine wp_cond_false rfl ?_
  refine wp_skip ?_
  refine thN ?_
  refine reg0 (aF := ?_) [] [0] false 1 rfl rfl (by kernel_rfl) rfl (fun _ => rfl) ?aF HS9.out ?hs ?_
  rotate_left 1
  case aF => intro s; simp only [putE, EvT.val, Act.put, setIfInBounds_toArray, set_cons_zero, set_cons_succ]; rfl
  case hs => exact trivial
  intro s10 w10 h; have HS10 := Aside0.mk h; clear h HS9
  refine tlP (v := .int .i64 1) 15 rfl ?_
  refine tl0 ?_
  refine reg (aF := ?_) (nw := ?_) [evL 0 68 [] (fun s => .agg #[.slice (s6 1).A r2_0.length (s6 1).c]), evP 1 69 [] (fun s => .int .i64 1), evW 2 (some 70) [] (fun s => .int .i64 r9_0)] [3] [⟨3, 2, [], fun s => ⟨(s6 1).lo, (s6 1).hi, fun w_ => Kd.S (Kd.slice 5 (Kd.int .u8)) 67 w_ w.heap.size (fun k_ => (s6 1).lo ≤ k_ ∧ k_ < (s6 1).hi) (.slice (s6 1).A r2_0.length (s6 1).c) r9_1⟩⟩] false 4 rfl rfl (by kernel_rfl) rfl ((mf1 mf0)) ?aF ?nw HS10.out ?hs ?_
  rotate_left 2
  case aF => intro s; simp only [putE, EvT.val, Act.put, setIfInBounds_toArray, set_cons_zero, set_cons_succ]; rfl
  case nw => intro s; simp only [thA, bsA, List.nil_append, List.cons_append, List.append_nil, if_true, if_false, Nat.reduceLT, set_cons_zero, set_cons_succ]; rfl
  case hs => exact ⟨ld rfl 4 (fun s => rfl) (fun s w h => by have h0 := h 0 _ rfl; clear h; go_simp; try rfl), pu rfl, cw rfl 0 3 rfl rfl (fun s => #[.agg #[.slice (s6 1).A r2_0.length (s6 1).c], .int .i64 1]) Try.func25 (fun s w1 h => (laws_markMemory.calls (fun k_ => (s6 1).lo ≤ k_ ∧ k_ < (s6 1).hi) _ _ _ _ _ w _ h.hb (h.get 0 rfl) H9.out).mono (by rintro e w2 ⟨rfl, ho0, hb, hk⟩; exact ⟨rfl, Wrote.of 0 h rfl hb hk (fun w_ ha => S_again ho0 ha)⟩)), trivial⟩
  intro s11 w11 h; have HS11 := Aside0.mk h; clear h HS10
  refine tlP (v := .int .i64 r9_0) 15 rfl ?_
  refine tl0 ?_
  refine wp_seq ?_
  refine reg0 (aF := ?_) [evP 0 71 [] (fun s => .int .i64 r9_0), evP 1 72 [] (fun s => .bool false), evP 2 73 [] (fun s => .bool false), evL 3 74 [] (fun s => .agg #[.slice (s7 5).A r5_0.length (s7 5).c]), evL 4 75 [] (fun s => .agg #[.slice (s5 6).A r5_0.length (s5 6).c]), evC 5 (some 76) [] (fun s x => .bool true) (fun s x => []), evP 6 77 [] (fun s => .bool false), evP 7 78 [] (fun s => .bool false), evP 8 79 [] (fun s => .bool false), evP 9 80 [] (fun s => .int .i64 r5_1), evP 10 81 [] (fun s => .int .i64 r5_1), evP 11 82 [] (fun s => .bool false), evP 12 83 [] (fun s => .bool false), evP 13 84 [] (fun s => .bool false), evP 14 85 [] (fun s => .bool r5_2), evP 15 86 [] (fun s => .bool r5_2), evP 16 87 [] (fun s => .bool false), evP 17 88 [] (fun s => .bool false)] [] false 18 rfl rfl (by kernel_rfl) rfl (fun _ => rfl) ?aF HS11.out ?hs ?_
  rotate_left 1
  case aF => intro s; simp only [putE, EvT.val, Act.put, setIfInBounds_toArray, set_cons_zero, set_cons_succ]; rfl
  case hs => exact ⟨pu rfl, pb (q := .lss) Nb_r9_0 rfl, pu rfl, ld rfl 2 (fun s => rfl) (fun s w h => by have h0 := h 0 _ rfl; clear h; go_simp; try rfl), ld rfl 7 (fun s => rfl) (fun s w h => by have h0 := h 0 _ rfl; clear h; go_simp; try rfl), cl rfl (fun s => #[.agg #[.slice (s7 5).A r5_0.length (s7 5).c], .agg #[.slice (s5 6).A r5_0.length (s5 6).c]]) Try.func23 (fun s w1 h => (laws_eqMemory.calls _ _ _ _ _ _ _ _ _ (Kd.S_reads' (h.get 1 rfl)).2.2 (Kd.S_reads' (h.get 1 rfl)).2.1 (Kd.S_reads' (h.get 6 rfl)).2.2 (Kd.S_reads' (h.get 6 rfl)).2.1 H7.out).mono (by rintro e w2 ⟨rfl, hb⟩; exact fin0 hb)), pu rfl, pu rfl, pu rfl, pu rfl, pu rfl, pb (q := .neq) (bne_self_eq_false _) rfl, pu rfl, pu rfl, pu rfl, pu rfl, pn Try.underlying4 rfl, pu rfl, trivial⟩
  intro s12 w12 h; have HS12 := Aside0.mk h; clear h HS11
  refine tl0 ?_
  refine wp_cond_false rfl ?_
  refine wp_skip ?_
  refine thN ?_
  refine reg0 (aF := ?_) [] [0] false 1 rfl rfl (by kernel_rfl) rfl (fun _ => rfl) ?aF HS12.out ?hs ?_
  rotate_left 1
  case aF => intro s; simp only [putE, EvT.val, Act.put, setIfInBounds_toArray, set_cons_zero, set_cons_succ]; rfl
  case hs => exact trivial
  intro s13 w13 h; have HS13 := Aside0.mk h; clear h HS12
  refine tlP (v := .int .i64 1) 16 rfl ?_
  refine tl0 ?_
  refine reg (aF := ?_) (nw := ?_) [evL 0 89 [] (fun s => .agg #[.slice (s7 5).A r5_0.length (s7 5).c]), evP 1 90 [] (fun s => .int .i64 1), evW 2 (some 91) [] (fun s => .int .i64 r10_0)] [3] [⟨1, 2, [], fun s => ⟨(s7 5).lo, (s7 5).hi, fun w_ => Kd.S (Kd.slice 5 (Kd.int .u8)) 67 w_ w.heap.size (fun k_ => (s7 5).lo ≤ k_ ∧ k_ < (s7 5).hi) (.slice (s7 5).A r5_0.length (s7 5).c) r10_1⟩⟩] false 4 rfl rfl (by kernel_rfl) rfl ((mf1 mf0)) ?aF ?nw HS13.out ?hs ?_
  rotate_left 2
  case aF => intro s; simp only [putE, EvT.val, Act.put, setIfInBounds_toArray, set_cons_zero, set_cons_succ]; rfl
  case nw => intro s; simp only [thA, bsA, List.nil_append, List.cons_append, List.append_nil, if_true, if_false, Nat.reduceLT, set_cons_zero, set_cons_succ]; rfl
  case hs => exact ⟨ld rfl 2 (fun s => rfl) (fun s w h => by have h0 := h 0 _ rfl; clear h; go_simp; try rfl), pu rfl, cw rfl 0 1 rfl rfl (fun s => #[.agg #[.slice (s7 5).A r5_0.length (s7 5).c], .int .i64 1]) Try.func25 (fun s w1 h => (laws_markMemory.calls (fun k_ => (s7 5).lo ≤ k_ ∧ k_ < (s7 5).hi) _ _ _ _ _ w _ h.hb (h.get 0 rfl) H10.out).mono (by rintro e w2 ⟨rfl, ho0, hb, hk⟩; exact ⟨rfl, Wrote.of 0 h rfl hb hk (fun w_ ha => S_again ho0 ha)⟩)), trivial⟩
  intro s14 w14 h; have HS14 := Aside0.mk h; clear h HS13
  refine tlP (v := .int .i64 r10_0) 16 rfl ?_
  refine tl0 ?_
  refine reg0 (aF := ?_) [] [0] false 1 rfl rfl (by kernel_rfl) rfl (fun _ => rfl) ?aF HS14.out ?hs ?_
  rotate_left 1
  case aF => intro s; simp only [putE, EvT.val, Act.put, setIfInBounds_toArray, set_cons_zero, set_cons_succ]; rfl
  case hs => exact trivial
  intro s15 w15 h; have HS15 := Aside0.mk h; clear h HS14
  refine tlP (v := .int .i64 1) 17 rfl ?_
  refine tl0 ?_
  refine reg0 (aF := ?_) [evL 0 92 [] (fun s => .agg #[.slice (s7 5).A r5_0.length (s7 5).c]), evP 1 93 [] (fun s => .int .i64 1), evC 2 (some 94) [] (fun s x => .int .i64 r10_0) (fun s x => [])] [3] false 4 rfl rfl (by kernel_rfl) rfl (fun _ => rfl) ?aF HS15.out ?hs ?_
  rotate_left 1
  case aF => intro s; simp only [putE, EvT.val, Act.put, setIfInBounds_toArray, set_cons_zero, set_cons_succ]; rfl
  case hs => exact ⟨ld rfl 2 (fun s => rfl) (fun s w h => by have h0 := h 0 _ rfl; clear h; go_simp; try rfl), pu rfl, cl rfl (fun s => #[.agg #[.slice (s7 5).A r5_0.length (s7 5).c], .int .i64 1]) Try.func26 (fun s w1 h => by rw [show r5_0.length = r10_1.length from (Kd.S_reads' (h.get 1 rfl)).1]; exact (laws_heldMemory.calls _ _ _ _ _ _ _ ((Kd.S_reads' (h.get 1 rfl)).1 ▸ (Kd.S_reads' (h.get 1 rfl)).2.2) ((Kd.S_reads' (h.get 1 rfl)).1 ▸ (Kd.S_reads' (h.get 1 rfl)).2.1) H11.out).mono (by rintro e w2 ⟨rfl, hb⟩; exact fin0 hb)), trivial⟩
  intro s16 w16 h; have HS16 := Aside0.mk h; clear h HS15
  refine tlP (v := .int .i64 r10_0) 17 rfl ?_
  refine tl0 ?_
  refine wp_seq ?_
  refine reg0 (aF := ?_) [evP 0 95 [] (fun s => .int .i64 r10_0), evP 1 96 [] (fun s => .bool false)] [] false 2 rfl rfl (by kernel_rfl) rfl (fun _ => rfl) ?aF HS16.out ?hs ?_
  rotate_left 1
  case aF => intro s; simp only [putE, EvT.val, Act.put, setIfInBounds_toArray, set_cons_zero, set_cons_succ]; rfl
  case hs => exact ⟨pu rfl, pb (q := .lss) Nb_r10_0 rfl, trivial⟩
  intro s17 w17 h; have HS17 := Aside0.mk h; clear h HS16
  refine tl0 ?_
  refine wp_cond_false rfl ?_
  refine wp_skip ?_
  refine thN ?_
  refine wp_seq ?_
  refine reg0 (aF := ?_) [evP 0 97 [] (fun s => .int .i64 r10_0), evP 1 98 [] (fun s => .int .i64 r10_0), evP 2 99 [] (fun s => .bool false)] [] false 3 rfl rfl (by kernel_rfl) rfl (fun _ => rfl) ?aF HS17.out ?hs ?_
  rotate_left 1
  case aF => intro s; simp only [putE, EvT.val, Act.put, setIfInBounds_toArray, set_cons_zero, set_cons_succ]; rfl
  case hs => exact ⟨pu rfl, pu rfl, pb (q := .neq) (bne_self_eq_false _) rfl, trivial⟩
  intro s18 w18 h; have HS18 := Aside0.mk h; clear h HS17
  refine tl0 ?_
  refine wp_cond_false rfl ?_
  refine wp_skip ?_
  refine thN ?_
  refine reg (aF := ?_) (nw := ?_) [evL 0 101 [] (fun s => .agg #[.slice A0_0 l0_0.length c0_0]), evC 1 (some 102) [] (fun s x => .agg #[.slice x.A r2_0.length x.c]) (fun s x => [rowS (Kd.slice 5 (Kd.int .u8)) 67 w x.lo x.hi x.A x.c r2_0]), evL 2 103 [] (fun s => .agg #[.int .i64 a1_0, .int .i64 a1_1, .int .i64 a1_2, .int .i64 a1_3]), evC 3 (some 104) [] (fun s x => .agg #[.int .i64 r3_0, .int .i64 r3_1, .int .i64 r3_2, .int .i64 r3_3]) (fun s x => []), evL 4 105 [] (fun s => .agg #[.int .i64 a2_0, .int .i64 a2_1, .int .i64 a2_2, .int .i64 a2_3]), evC 5 (some 106) [] (fun s x => .agg #[.int .i64 r4_0, .int .i64 r4_1, .int .i64 r4_2, .int .i64 r4_3]) (fun s x => []), evC 6 (some 107) [1] (fun s x => .tuple #[.agg #[.slice x.A r5_0.length x.c], .int .i64 r5_1, .bool r5_2]) (fun s x => [rowS (Kd.slice 5 (Kd.int .u8)) 67 w x.lo x.hi x.A x.c r5_0]), evP 7 100 [6] (fun s => .tuple #[.agg #[.slice (s 6).A r5_0.length (s 6).c], .int .i64 r5_1, .bool r5_2]), evP 8 108 [6] (fun s => .agg #[.slice (s 6).A r5_0.length (s 6).c]), evP 9 109 [] (fun s => .int .i64 r5_1), evP 10 110 [] (fun s => .bool r5_2), evB 11 18 [] 33 (fun s => #[.slice none 0 0]) 12 [6] (fun s => #[.slice (s 6).A r5_0.length (s 6).c]), evS 12, evP 13 19 [] (fun s => .int .i64 r5_1)] [14] [] true 15 rfl rfl (by kernel_rfl) rfl (mf0) ?aF ?nw HS18.out ?hs ?_
  rotate_left 2
  case aF => intro s; simp only [putE, EvT.val, Act.put, setIfInBounds_toArray, set_cons_zero, set_cons_succ]; rfl
  case nw => intro s; simp only [thA, bsA, List.nil_append, List.cons_append, List.append_nil, if_true, if_false, Nat.reduceLT, set_cons_zero, set_cons_succ]; rfl
  case hs => exact ⟨ld rfl 8 (fun s => rfl) (fun s w h => by have h0 := h 0 _ rfl; clear h; go_simp; try rfl), cl rfl (fun s => #[.agg #[.slice A0_0 l0_0.length c0_0]]) Try.func21 (fun s w1 h => (laws_toMemory.calls _ _ _ _ _ (Kd.C_below HR0_0.out h.hb) HC0_0.out H2.out).mono (by rintro e w2 ⟨v0_, rfl, ho0, hb⟩; obtain ⟨x, rfl, hx⟩ := fin_S ho0 hb h.hb.size; exact ⟨x, rfl, hx⟩)), ld rfl 9 (fun s => rfl) (fun s w h => by have h0 := h 0 _ rfl; have h1 := h 1 _ rfl; have h2 := h 2 _ rfl; have h3 := h 3 _ rfl; clear h; go_simp; try rfl), cl rfl (fun s => #[.agg #[.int .i64 a1_0, .int .i64 a1_1, .int .i64 a1_2, .int .i64 a1_3]]) Try.func33 (fun s w1 h => (laws_toWindow.calls _ _ _ _ _ _ _ _ _ H3.out).mono (by rintro e w2 ⟨rfl, hb⟩; exact fin0 hb)), ld rfl 10 (fun s => rfl) (fun s w h => by have h0 := h 0 _ rfl; have h1 := h 1 _ rfl; have h2 := h 2 _ rfl; have h3 := h 3 _ rfl; clear h; go_simp; try rfl), cl rfl (fun s => #[.agg #[.int .i64 a2_0, .int .i64 a2_1, .int .i64 a2_2, .int .i64 a2_3]]) Try.func33 (fun s w1 h => (laws_toWindow.calls _ _ _ _ _ _ _ _ _ H4.out).mono (by rintro e w2 ⟨rfl, hb⟩; exact fin0 hb)), cl rfl (fun s => #[.agg #[.slice (s 1).A r2_0.length (s 1).c], .agg #[.int .i64 r3_0, .int .i64 r3_1, .int .i64 r3_2, .int .i64 r3_3], .agg #[.int .i64 r4_0, .int .i64 r4_1, .int .i64 r4_2, .int .i64 r4_3]]) Try.func59 (fun s w1 h => (impl_CopyInto.calls _ _ _ _ _ _ _ _ _ _ _ _ _ _ _ (Kd.S_reads' (h.get 0 rfl)).2.2 (Kd.S_reads' (h.get 0 rfl)).2.1 H6.out).mono (by rintro e w2 ⟨v0_, rfl, ho0, hb⟩; obtain ⟨x, rfl, hx⟩ := fin_S ho0 hb h.hb.size; exact ⟨x, rfl, hx⟩)), pu rfl, pu rfl, pu rfl, pu rfl, bv rfl (fun s w => by go_simp; try rfl), st rfl 11 0 (fun s => [.slice (s 6).A r5_0.length (s 6).c]) rfl (fun s w h hf => by have h0 := h 0 _ rfl; have f0 := hf 0; clear h hf; go_simp; try rfl), pu rfl, trivial⟩
  intro s19 w19 h; have HS19 := Aside0.mk h; clear h HS18
  refine tlP (v := .bool r5_2) 20 rfl ?_
  refine tl0 ?_
  refine wp_seq ?_
  refine reg0 (aF := ?_) [evL 0 111 [] (fun s => .agg #[.slice (s19 6).A r5_0.length (s19 6).c]), evL 1 112 [] (fun s => .agg #[.slice (s5 6).A r5_0.length (s5 6).c]), evC 2 (some 113) [] (fun s x => .bool true) (fun s x => []), evP 3 114 [] (fun s => .bool false), evP 4 115 [] (fun s => .bool false), evP 5 116 [] (fun s => .int .i64 r5_1), evP 6 117 [] (fun s => .int .i64 r5_1), evP 7 118 [] (fun s => .bool false), evP 8 119 [] (fun s => .bool false), evP 9 120 [] (fun s => .bool false), evP 10 121 [] (fun s => .bool r5_2), evP 11 122 [] (fun s => .bool r5_2), evP 12 123 [] (fun s => .bool false), evP 13 124 [] (fun s => .bool false)] [] false 14 rfl rfl (by kernel_rfl) rfl (fun _ => rfl) ?aF HS19.out ?hs ?_
  rotate_left 1
  case aF => intro s; simp only [putE, EvT.val, Act.put, setIfInBounds_toArray, set_cons_zero, set_cons_succ]; rfl
  case hs => exact ⟨ld rfl 2 (fun s => rfl) (fun s w h => by have h0 := h 0 _ rfl; clear h; go_simp; try rfl), ld rfl 10 (fun s => rfl) (fun s w h => by have h0 := h 0 _ rfl; clear h; go_simp; try rfl), cl rfl (fun s => #[.agg #[.slice (s19 6).A r5_0.length (s19 6).c], .agg #[.slice (s5 6).A r5_0.length (s5 6).c]]) Try.func23 (fun s w1 h => (laws_eqMemory.calls _ _ _ _ _ _ _ _ _ (Kd.S_reads' (h.get 1 rfl)).2.2 (Kd.S_reads' (h.get 1 rfl)).2.1 (Kd.S_reads' (h.get 9 rfl)).2.2 (Kd.S_reads' (h.get 9 rfl)).2.1 H7.out).mono (by rintro e w2 ⟨rfl, hb⟩; exact fin0 hb)), pu rfl, pu rfl, pu rfl, pu rfl, pb (q := .neq) (bne_self_eq_false _) rfl, pu rfl, pu rfl, pu rfl, pu rfl, pn Try.underlying4 rfl, pu rfl, trivial⟩
  intro s20 w20 h; have HS20 := Aside0.mk h; clear h HS19
  refine tl0 ?_
  refine wp_cond_false rfl ?_
  refine wp_skip ?_
  refine thN ?_
  refine reg0 (aF := ?_) [] [0] false 1 rfl rfl (by kernel_rfl) rfl (fun _ => rfl) ?aF HS20.out ?hs ?_
  rotate_left 1
  case aF => intro s; simp only [putE, EvT.val, Act.put, setIfInBounds_toArray, set_cons_zero, set_cons_succ]; rfl
  case hs => exact trivial
  intro s21 w21 h; have HS21 := Aside0.mk h; clear h HS20
  refine tlP (v := .int .i64 1) 17 rfl ?_
  refine tl0 ?_
  refine reg0 (aF := ?_) [evL 0 125 [] (fun s => .agg #[.slice (s7 5).A r5_0.length (s7 5).c]), evP 1 126 [] (fun s => .int .i64 1), evC 2 (some 127) [] (fun s x => .int .i64 r10_0) (fun s x => [])] [3] false 4 rfl rfl (by kernel_rfl) rfl (fun _ => rfl) ?aF HS21.out ?hs ?_
  rotate_left 1
  case aF => intro s; simp only [putE, EvT.val, Act.put, setIfInBounds_toArray, set_cons_zero, set_cons_succ]; rfl
  case hs => exact ⟨ld rfl 5 (fun s => rfl) (fun s w h => by have h0 := h 0 _ rfl; clear h; go_simp; try rfl), pu rfl, cl rfl (fun s => #[.agg #[.slice (s7 5).A r5_0.length (s7 5).c], .int .i64 1]) Try.func26 (fun s w1 h => by rw [show r5_0.length = r10_1.length from (Kd.S_reads' (h.get 4 rfl)).1]; exact (laws_heldMemory.calls _ _ _ _ _ _ _ ((Kd.S_reads' (h.get 4 rfl)).1 ▸ (Kd.S_reads' (h.get 4 rfl)).2.2) ((Kd.S_reads' (h.get 4 rfl)).1 ▸ (Kd.S_reads' (h.get 4 rfl)).2.1) H11.out).mono (by rintro e w2 ⟨rfl, hb⟩; exact fin0 hb)), trivial⟩
  intro s22 w22 h; have HS22 := Aside0.mk h; clear h HS21
  refine tlP (v := .int .i64 r10_0) 17 rfl ?_
  refine tl0 ?_
  refine wp_seq ?_
  refine reg0 (aF := ?_) [evP 0 128 [] (fun s => .int .i64 r10_0), evP 1 129 [] (fun s => .bool false)] [] false 2 rfl rfl (by kernel_rfl) rfl (fun _ => rfl) ?aF HS22.out ?hs ?_
  rotate_left 1
  case aF => intro s; simp only [putE, EvT.val, Act.put, setIfInBounds_toArray, set_cons_zero, set_cons_succ]; rfl
  case hs => exact ⟨pu rfl, pb (q := .lss) Nb_r10_0 rfl, trivial⟩
  intro s23 w23 h; have HS23 := Aside0.mk h; clear h HS22
  refine tl0 ?_
  refine wp_cond_false rfl ?_
  refine wp_skip ?_
  refine thN ?_
  refine wp_seq ?_
  refine reg0 (aF := ?_) [evP 0 130 [] (fun s => .int .i64 r10_0), evP 1 131 [] (fun s => .int .i64 r10_0), evP 2 132 [] (fun s => .bool false)] [] false 3 rfl rfl (by kernel_rfl) rfl (fun _ => rfl) ?aF HS23.out ?hs ?_
  rotate_left 1
  case aF => intro s; simp only [putE, EvT.val, Act.put, setIfInBounds_toArray, set_cons_zero, set_cons_succ]; rfl
  case hs => exact ⟨pu rfl, pu rfl, pb (q := .neq) (bne_self_eq_false _) rfl, trivial⟩
  intro s24 w24 h; have HS24 := Aside0.mk h; clear h HS23
  refine tl0 ?_
  refine wp_cond_false rfl ?_
  refine wp_skip ?_
  refine thN ?_
  refine reg0 (aF := ?_) [] [0] false 1 rfl rfl (by kernel_rfl) rfl (fun _ => rfl) ?aF HS24.out ?hs ?_
  rotate_left 1
  case aF => intro s; simp only [putE, EvT.val, Act.put, setIfInBounds_toArray, set_cons_zero, set_cons_succ]; rfl
  case hs => exact trivial
  intro s25 w25 h; have HS25 := Aside0.mk h; clear h HS24
  refine tlP (v := .bool true) 6 rfl ?_
  refine tl0 ?_
  refine wp_ret ?_
  go_ret
  exact ⟨by first | rfl | simp, HS25.out.hb⟩
end Go.Proofs.Ytpnoakpdmojgeaa.P


/- The law FnExactCopyInto. -/
namespace Go.Proofs.Ytpnoakpdmojgeaa.P
open Go.RowKit Go.Proofs.YtpnoakpdmojgeaaW.PrintWords Go.Proofs.YtpnoakpdmojgeaaW.Mine
set_option linter.unusedVariables false
theorem FnExactCopyInto_walk (w : World) (cs0 : Array Value) (a0 : (List (List Int))) (hK0 : (Kd.slice 67 (Kd.slice 5 (Kd.int .u8))).K w a0 cs0.toList) (ok0 : (∀ y1 ∈ a0, (∀ y2 ∈ y1, (Lit.int .u8 y2).wf = true))) (cs1 : Array Value) (a1 : (Int × (Int × (Int × Int)))) (hK1 : (Kd.pair (Kd.int .i64) (Kd.pair (Kd.int .i64) (Kd.pair (Kd.int .i64) (Kd.int .i64)))).K w a1 cs1.toList) (ok1 : ((Lit.int .i64 a1.1).wf = true ∧ ((Lit.int .i64 a1.2.1).wf = true ∧ ((Lit.int .i64 a1.2.2.1).wf = true ∧ (Lit.int .i64 a1.2.2.2).wf = true)))) (cs2 : Array Value) (a2 : (Int × (Int × (Int × Int)))) (hK2 : (Kd.pair (Kd.int .i64) (Kd.pair (Kd.int .i64) (Kd.pair (Kd.int .i64) (Kd.int .i64)))).K w a2 cs2.toList) (ok2 : ((Lit.int .i64 a2.1).wf = true ∧ ((Lit.int .i64 a2.2.1).wf = true ∧ ((Lit.int .i64 a2.2.2.1).wf = true ∧ (Lit.int .i64 a2.2.2.2).wf = true)))) :
    Calls Try.prog 11 #[.agg cs0, .agg cs1, .agg cs2] w fun e w' => e = .returned (.bool true) ∧ Below w.heap.size w w' := by
  obtain ⟨A0, c0, hcs0, hc0, hr0⟩ := hK0
  obtain rfl := agg_of hcs0
  obtain ⟨x10, x11, x12, x13⟩ := a1
  obtain ⟨_, _, hcs1, rfl, ⟨_, _, rfl, rfl, ⟨_, _, rfl, rfl, rfl⟩⟩⟩ := hK1
  obtain rfl := agg_of hcs1
  obtain ⟨x20, x21, x22, x23⟩ := a2
  obtain ⟨_, _, hcs2, rfl, ⟨_, _, rfl, rfl, ⟨_, _, rfl, rfl, rfl⟩⟩⟩ := hK2
  obtain rfl := agg_of hcs2
  obtain ⟨r, hz, hh⟩ := szMemory_f a0 1048576 (by omega) (by omega) hr0.2.1 (C_inner_len hr0)
  rcases hh with ⟨hm, h5⟩ | rfl
  · have hs : -9223372036854775808 ≤ x11 ∧ x11 ≤ 9223372036854775807 := wf_i64 ok1.2.1
    have ht : -9223372036854775808 ≤ x21 ∧ x21 ≤ 9223372036854775807 := wf_i64 ok2.2.1
    have h6 := copyInto_ok a0 x10 x11 x12 x13 x20 x21 x22 x23
    exact FnExactCopyInto_run A0 c0 a0 x10 x11 x12 x13 x20 x21 x22 x23 _ _ _ _ _ _ _ _ _ _ _ _ _ _ _ _ _ w hr0 hc0 hz.rounds (toMemory_f a0 hm) rfl rfl (specCopyInto_f a0 x10 x11 x12 x13 x20 x21 x22 x23 hm hs ht).rounds (implCopyInto_f a0 x10 x11 x12 x13 x20 x21 x22 x23 hm) (eqM _ h6).rounds (eqM _ hm).rounds (markM _ hm) (markM _ h6) (heldMemory_f _ h6).rounds (markM_pos _) (by omega) (markM_pos _)
  · exact FnExactCopyInto_run0 A0 c0 a0 x10 x11 x12 x13 x20 x21 x22 x23 _ w hr0 hc0 hz.rounds (by omega)
end Go.Proofs.Ytpnoakpdmojgeaa.P


namespace Go.Proofs.Ytpnoakpdmojgeaa.fnExactCopyInto
open Go.ChangeShapes Go.WideShapes Go.ChangeAt Go.RowKit Go.Proofs.YtpnoakpdmojgeaaW.PrintWords Go.Proofs.YtpnoakpdmojgeaaW.Mine Go.Proofs.Ytpnoakpdmojgeaa.P
open Go.ChangeMaps (open_string shut_string)
set_option linter.unusedVariables false
theorem own : ownKnob Try.prog.godebug = none := by kernel_rfl
theorem laidOut : laidOutB Try.prog = true := by kernel_rfl
set_option maxRecDepth 100000 in
theorem lifted (os : Os) (started : os.Started) (H : Type) (enc : TypeId × Value → H) :
    ReturnsInHanded {} Try.checked os 11 .any (Rows.fnExactCopyIntoSpec.pre6 enc Try.prog Try.f11 Rows.fnExactCopyIntoRow.domain false) (Rows.fnExactCopyIntoSpec.post enc Try.prog Try.f11 false true false false) := by
  refine returnsInHanded_of_change_sized (C := Try.checked) own started (by kernel_rfl) Try.func11
    (ChangeSpec.witness6 (enc := enc) (C := Try.checked) false ⟨#[], #[.agg #[.slice none 0 0], .agg #[.int .i64 0, .int .i64 0, .int .i64 0, .int .i64 0], .agg #[.int .i64 0, .int .i64 0, .int .i64 0, .int .i64 0]], []⟩ 8 (by kernel_rfl) (by kernel_rfl) (by kernel_rfl) (by kernel_rfl)) ?_
  intro W base args ds gs before hval0 hW hcnd hsz0 _
  have hval : ∀ (j : Nat) t v, Try.f11.params[j]? = some t → args[j]? = some v → Value.okWide Try.prog W .any base t v := hval0
  have hW' := hW
  obtain ⟨p, q, hA0, hV, rfl, hfz, hnd⟩ := hW
  have hA : DataW.TrodAll enc Try.prog W 0 (fun _ => true) true Try.f11.params.toList args.toList ds p := hA0
  rw [Try.params11] at hA hval
  obtain ⟨v0, vs0, d0, ds0, p0, q0, hargs, rfl, rfl, h0, r0⟩ := trodAll_cons hA
  obtain ⟨v1, vs1, d1, ds1, p1, q1, rfl, rfl, rfl, h1, r1⟩ := trodAll_cons r0
  obtain ⟨v2, vs2, d2, ds2, p2, q2, rfl, rfl, rfl, h2, r2⟩ := trodAll_cons r1
  obtain ⟨rfl, rfl, rfl⟩ := trodAll_nil r2
  obtain rfl : args = #[v0, v1, v2] := by cases args; simp_all
  obtain ⟨rfl, rfl⟩ := trodVars_none hV
  have k0 := h0
  have lt0 : ∀ x ∈ p0, x.block < W.heap.size := by obtain ⟨m, hm⟩ := k0; exact DataW.trod_lt m _ _ _ hm
  obtain ⟨cs0, rfl, _⟩ := okWide_struct Try.underlying31 (hval 0 31 v0 rfl rfl)
  obtain ⟨a0, hK0, ok0⟩ : ∃ a : (List (List Int)), (Kd.slice 67 (Kd.slice 5 (Kd.int .u8))).K W a cs0.toList ∧ (∀ y1 ∈ a, (∀ y2 ∈ y1, (Lit.int .u8 y2).wf = true)) := by obtain ⟨fuel, hf⟩ := h0; exact (ReadsK.struct Try.underlying31 (by kernel_rfl) (ReadsF.last rfl (ReadsK.slice Try.underlying29 (by kernel_rfl) (ReadsK.slice Try.underlying67 (by kernel_rfl) (ReadsK.int Try.underlying5))) (by kernel_rfl))) hf
  have k1 := h1
  have lt1 : ∀ x ∈ p1, x.block < W.heap.size := by obtain ⟨m, hm⟩ := k1; exact DataW.trod_lt m _ _ _ hm
  obtain ⟨cs1, rfl, _⟩ := okWide_struct Try.underlying54 (hval 1 54 v1 rfl rfl)
  obtain ⟨a1, hK1, ok1⟩ : ∃ a : (Int × (Int × (Int × Int))), (Kd.pair (Kd.int .i64) (Kd.pair (Kd.int .i64) (Kd.pair (Kd.int .i64) (Kd.int .i64)))).K W a cs1.toList ∧ ((Lit.int .i64 a.1).wf = true ∧ ((Lit.int .i64 a.2.1).wf = true ∧ ((Lit.int .i64 a.2.2.1).wf = true ∧ (Lit.int .i64 a.2.2.2).wf = true))) := by obtain ⟨fuel, hf⟩ := h1; exact (ReadsK.struct Try.underlying54 (by kernel_rfl) (ReadsF.cons rfl (ReadsK.int Try.underlying3) (by kernel_rfl) (ReadsF.cons rfl (ReadsK.int Try.underlying3) (by kernel_rfl) (ReadsF.cons rfl (ReadsK.int Try.underlying3) (by kernel_rfl) (ReadsF.last rfl (ReadsK.int Try.underlying3) (by kernel_rfl)))))) hf
  have k2 := h2
  have lt2 : ∀ x ∈ p2, x.block < W.heap.size := by obtain ⟨m, hm⟩ := k2; exact DataW.trod_lt m _ _ _ hm
  obtain ⟨cs2, rfl, _⟩ := okWide_struct Try.underlying54 (hval 2 54 v2 rfl rfl)
  obtain ⟨a2, hK2, ok2⟩ : ∃ a : (Int × (Int × (Int × Int))), (Kd.pair (Kd.int .i64) (Kd.pair (Kd.int .i64) (Kd.pair (Kd.int .i64) (Kd.int .i64)))).K W a cs2.toList ∧ ((Lit.int .i64 a.1).wf = true ∧ ((Lit.int .i64 a.2.1).wf = true ∧ ((Lit.int .i64 a.2.2.1).wf = true ∧ (Lit.int .i64 a.2.2.2).wf = true))) := by obtain ⟨fuel, hf⟩ := h2; exact (ReadsK.struct Try.underlying54 (by kernel_rfl) (ReadsF.cons rfl (ReadsK.int Try.underlying3) (by kernel_rfl) (ReadsF.cons rfl (ReadsK.int Try.underlying3) (by kernel_rfl) (ReadsF.cons rfl (ReadsK.int Try.underlying3) (by kernel_rfl) (ReadsF.last rfl (ReadsK.int Try.underlying3) (by kernel_rfl)))))) hf
  clear hA0 hval0 hsz0
  refine (FnExactCopyInto_walk W cs0 a0 hK0 ok0 cs1 a1 hK1 ok1 cs2 a2 hK2 ok2).mono fun e W' ⟨he, bel⟩ => ?_
  subst he
  exact ⟨_, rfl, _, _, _, [], _, [], hW', trodAll_mk1 (shut_bool Try.underlying4 _), (trodAll_cons_mk (Below.trod laidOut (by kernel_rfl) (of_decide_eq_true (by kernel_rfl)) k0 bel lt0) (trodAll_cons_mk (Below.trod laidOut (by kernel_rfl) (of_decide_eq_true (by kernel_rfl)) k1 bel lt1) (trodAll_cons_mk (Below.trod laidOut (by kernel_rfl) (of_decide_eq_true (by kernel_rfl)) k2 bel lt2) trodAll_mk0))), rfl, bel.frame _, fun h => by cases h⟩
theorem over : Rows.fnExactCopyIntoRow.holds Try.pinned (OpenSpec.ofChange Rows.fnExactCopyIntoSpec) :=
  OpenClaim.holds_of_wide 11 Try.f11 rfl rfl rfl rfl rfl rfl rfl ⟨rfl, rfl, rfl, rfl, rfl⟩ rfl rfl rfl rfl rfl (by kernel_rfl) Try.func11 (by kernel_rfl)
    (of_decide_eq_true (by kernel_rfl)) (by unfold Func.isWrapper; first | (rw [if_pos (by decide +kernel)]; kernel_rfl) | (rw [if_neg (by decide +kernel)]; exact ⟨rfl, rfl⟩))
    (fun os started H enc _ => lifted os started H enc)
theorem proved : Rows.FnExactCopyIntoSaid := over
end Go.Proofs.Ytpnoakpdmojgeaa.fnExactCopyInto
namespace Go.Proofs.Ytpnoakpdmojgeaa
theorem fnExactCopyInto_holds : Rows.FnExactCopyIntoSaid := fnExactCopyInto.proved
#print axioms fnExactCopyInto_holds
end Go.Proofs.Ytpnoakpdmojgeaa


