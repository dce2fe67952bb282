/- Part 5 of the proof of the law FnExactMoveGap: contracts of the functions that it reaches. -/
import Derived.Test.YtaieobidkmihkaaQFnExactMoveGap4
-- written by wip/gen_fn.py
namespace Go.Proofs.Ytaieobidkmihkaa.P
open Go.RowKit Go.Proofs.YtaieobidkmihkaaW.PrintWords Go.Proofs.YtaieobidkmihkaaW.PrintLast Go.Proofs.YtaieobidkmihkaaW.PrintMore Go.Proofs.YtaieobidkmihkaaW.Mine
open List (setIfInBounds_toArray set_cons_zero set_cons_succ)
attribute [local go_sem] max2_int min2_int max_two min_two max_three min_three max_four min_four
set_option linter.unusedVariables false
set_option linter.unusedSimpArgs false
set_option maxHeartbeats 8000000 in
set_option maxRecDepth 100000 in
theorem impl_MoveGap_w0 (A0_0 : Option Addr) (c0_0 : Nat) (l0_0 : List (List Int)) (a0_1 : Int) (a0_2 : Int) (a0_3 : Int) (a0_4 : Int) (a0_5 : Int) (a0_6 : Int) (a1_0 : Int) (w : World) (hr0_0 : Kd.C (Kd.slice 5 (Kd.int .u8)) w A0_0 l0_0.length l0_0) (hc0_0 : l0_0.length ≤ c0_0) (H1 : impl_IsGap.f l0_0 a0_1 a0_2 a0_3 a0_4 a0_5 a0_6 = some false) :
    Calls Try.prog 62 #[.agg #[.slice A0_0 l0_0.length c0_0, .int .i64 a0_1, .int .i64 a0_2, .int .i64 a0_3, .int .i64 a0_4, .int .i64 a0_5, .int .i64 a0_6], .int .i64 a1_0] w fun e w' => ∃ v0_ : Value, e = .returned (.tuple #[.agg #[v0_, .int .i64 0, .int .i64 0, .int .i64 0, .int .i64 0, .int .i64 0, .int .i64 0], .int .i64 0, .bool false]) ∧ Kd.S (Kd.slice 5 (Kd.int .u8)) 29 w' w.heap.size (fun _ => True) v0_ [] ∧ Below w.heap.size w w' := by
  have HR0_0 := Aside0.mk hr0_0; have HC0_0 := Aside0.mk hc0_0; clear hr0_0 hc0_0
  have H1_ := Aside0.mk H1; clear H1; have H1 := H1_; clear H1_
  have HS0 : Aside0 (Stk w [] w) := ⟨Stk.nil w⟩
  go_enter Try.func62, Try.ntmps62
  refine reg (aF := ?_) (nw := ?_) [evB 0 2 [] 53 (fun s => #[.slice A0_0 l0_0.length c0_0, .int .i64 a0_1, .int .i64 a0_2, .int .i64 a0_3, .int .i64 a0_4, .int .i64 a0_5, .int .i64 a0_6]) 9999 [] (fun s => #[.slice A0_0 l0_0.length c0_0, .int .i64 a0_1, .int .i64 a0_2, .int .i64 a0_3, .int .i64 a0_4, .int .i64 a0_5, .int .i64 a0_6]), evB 1 4 [] 53 (fun s => #[.slice none 0 0, .int .i64 0, .int .i64 0, .int .i64 0, .int .i64 0, .int .i64 0, .int .i64 0]) 9999 [] (fun s => #[.slice none 0 0, .int .i64 0, .int .i64 0, .int .i64 0, .int .i64 0, .int .i64 0, .int .i64 0]), evP 2 5 [] (fun s => .int .i64 0), evP 3 6 [] (fun s => .bool false)] [] [] false 4 rfl rfl (by kernel_rfl) rfl (mf0) ?aF ?nw HS0.out ?hs ?_
  rotate_left 2
  case aF => intro s; simp only [putE, EvT.val, Act.put, setIfInBounds_toArray, set_cons_zero, set_cons_succ]; rfl
  case nw => intro s; simp only [thA, bsA, List.nil_append, List.cons_append, List.append_nil, if_true, if_false, Nat.reduceLT, set_cons_zero, set_cons_succ]; rfl
  case hs => exact ⟨bv rfl (fun s w => by go_simp; try rfl), bv rfl (fun s w => by go_simp; try rfl), pu rfl, pu rfl, trivial⟩
  intro s1 w1 h; have HS1 := Aside0.mk h; clear h HS0
  refine tl0 ?_
  refine wp_seq ?_
  refine reg0 (aF := ?_) [evL 0 9 [] (fun s => .agg #[.slice A0_0 l0_0.length c0_0, .int .i64 a0_1, .int .i64 a0_2, .int .i64 a0_3, .int .i64 a0_4, .int .i64 a0_5, .int .i64 a0_6]), evC 1 (some 10) [] (fun s x => .bool false) (fun s x => []), evP 2 11 [] (fun s => .bool true), evP 3 12 [] (fun s => .bool true), evP 4 13 [] (fun s => undef), evP 5 14 [] (fun s => undef), evP 6 15 [] (fun s => undef), evP 7 16 [] (fun s => undef), evP 8 17 [] (fun s => undef), evP 9 18 [] (fun s => .bool true)] [] false 10 rfl rfl (by kernel_rfl) rfl (fun _ => rfl) ?aF HS1.out ?hs ?_
  rotate_left 1
  case aF => intro s; simp only [putE, EvT.val, Act.put, setIfInBounds_toArray, set_cons_zero, set_cons_succ]; rfl
  case hs => exact ⟨ld rfl 0 (fun s => rfl) (fun s w h => by have h0 := h 0 _ rfl; have h1 := h 1 _ rfl; have h2 := h 2 _ rfl; have h3 := h 3 _ rfl; have h4 := h 4 _ rfl; have h5 := h 5 _ rfl; have h6 := h 6 _ rfl; clear h; go_simp; try rfl), cl rfl (fun s => #[.agg #[.slice A0_0 l0_0.length c0_0, .int .i64 a0_1, .int .i64 a0_2, .int .i64 a0_3, .int .i64 a0_4, .int .i64 a0_5, .int .i64 a0_6]]) Try.func80 (fun s w1 h => (impl_IsGap.calls _ _ _ _ _ _ _ _ _ _ _ (Kd.C_below HR0_0.out h.hb) HC0_0.out H1.out).mono (by rintro e w2 ⟨rfl, hb⟩; exact fin0 hb)), pu rfl, pu rfl, pf rfl, pf rfl, pf rfl, pf rfl, pf rfl, pu rfl, trivial⟩
  intro s2 w2 h; have HS2 := Aside0.mk h; clear h HS1
  refine tl0 ?_
  refine wp_cond_true rfl ?_
  refine reg (aF := ?_) (nw := ?_) [evP 0 19 [] (fun s => .agg #[.slice none 0 0, .int .i64 0, .int .i64 0, .int .i64 0, .int .i64 0, .int .i64 0, .int .i64 0]), evS 1] [2, 3] [⟨1, 1, [], fun s => boxT (s1 1).lo #[.slice none 0 0, .int .i64 0, .int .i64 0, .int .i64 0, .int .i64 0, .int .i64 0, .int .i64 0] 53⟩] false 4 rfl rfl (by kernel_rfl) rfl ((mf1 mf0)) ?aF ?nw HS2.out ?hs ?_
  rotate_left 2
  case aF => intro s; simp only [putE, EvT.val, Act.put, setIfInBounds_toArray, set_cons_zero, set_cons_succ]; rfl
  case nw => intro s; simp only [thA, bsA, List.nil_append, List.cons_append, List.append_nil, if_true, if_false, Nat.reduceLT, set_cons_zero, set_cons_succ]; rfl
  case hs => exact ⟨pu rfl (hr := fun s w => by go_simp; try rfl), sb rfl 0 1 0 (fun s => [.slice none 0 0, .int .i64 0, .int .i64 0, .int .i64 0, .int .i64 0, .int .i64 0, .int .i64 0]) rfl rfl (fun s w h hf => by have h0 := h 0 _ rfl; have f0 := hf 0; have h1 := h 1 _ rfl; have f1 := hf 1; have h2 := h 2 _ rfl; have f2 := hf 2; have h3 := h 3 _ rfl; have f3 := hf 3; have h4 := h 4 _ rfl; have f4 := hf 4; have h5 := h 5 _ rfl; have f5 := hf 5; have h6 := h 6 _ rfl; have f6 := hf 6; clear h hf; go_simp; try rfl), trivial⟩
  intro s3 w3 h; have HS3 := Aside0.mk h; clear h HS2
  refine tlP (v := .int .i64 0) 5 rfl ?_
  simp only [Act.put, setIfInBounds_toArray, set_cons_zero, set_cons_succ]
  refine tlP (v := .bool false) 6 rfl ?_
  simp only [Act.put, setIfInBounds_toArray, set_cons_zero, set_cons_succ]
  refine tl0 ?_
  refine wp_ret ?_
  try simp only [Exit.inBlock, Exit.then]
  refine bodyPost_ret (results_list (rs := [.cell 4 53, .tmp 5, .tmp 6]) rfl (by simp) (.cell (s1 1).lo 53 #[.slice none 0 0, .int .i64 0, .int .i64 0, .int .i64 0, .int .i64 0, .int .i64 0, .int .i64 0] (0, 0) _ rfl (show bx (s1 1).lo #[.slice none 0 0, .int .i64 0, .int .i64 0, .int .i64 0, .int .i64 0, .int .i64 0, .int .i64 0] 53 _ from HS3.out.get 1 rfl) Try.underlying53 rfl (by kernel_rfl) (.tmp (.tmp .nil)))) rfl ?_
  exact ⟨_, by first | rfl | simp, Kd.S_nil _ _ _ _ _, HS3.out.hb⟩
set_option maxHeartbeats 8000000 in
set_option maxRecDepth 100000 in
theorem impl_MoveGap_w1 (A0_0 : Option Addr) (c0_0 : Nat) (l0_0 : List (List Int)) (a0_1 : Int) (a0_2 : Int) (a0_3 : Int) (a0_4 : Int) (a0_5 : Int) (a0_6 : Int) (a1_0 : Int) (r2_0 : Int) (w : World) (hr0_0 : Kd.C (Kd.slice 5 (Kd.int .u8)) w A0_0 l0_0.length l0_0) (hc0_0 : l0_0.length ≤ c0_0) (H1 : impl_IsGap.f l0_0 a0_1 a0_2 a0_3 a0_4 a0_5 a0_6 = some true) (H2 : impl_Gap_length.f l0_0 a0_1 a0_2 a0_3 a0_4 a0_5 a0_6 = some r2_0) (H3 : impl_within.f a1_0 0 r2_0 = some false) :
    Calls Try.prog 62 #[.agg #[.slice A0_0 l0_0.length c0_0, .int .i64 a0_1, .int .i64 a0_2, .int .i64 a0_3, .int .i64 a0_4, .int .i64 a0_5, .int .i64 a0_6], .int .i64 a1_0] w fun e w' => ∃ v0_ : Value, e = .returned (.tuple #[.agg #[v0_, .int .i64 0, .int .i64 0, .int .i64 0, .int .i64 0, .int .i64 0, .int .i64 0], .int .i64 0, .bool false]) ∧ Kd.S (Kd.slice 5 (Kd.int .u8)) 29 w' w.heap.size (fun _ => True) v0_ [] ∧ Below w.heap.size w w' := by
  have HR0_0 := Aside0.mk hr0_0; have HC0_0 := Aside0.mk hc0_0; clear hr0_0 hc0_0
  have H1_ := Aside0.mk H1; clear H1; have H1 := H1_; clear H1_
  have H2_ := Aside0.mk H2; clear H2; have H2 := H2_; clear H2_
  have H3_ := Aside0.mk H3; clear H3; have H3 := H3_; clear H3_
  have HS0 : Aside0 (Stk w [] w) := ⟨Stk.nil w⟩
  go_enter Try.func62, Try.ntmps62
  refine reg (aF := ?_) (nw := ?_) [evB 0 2 [] 53 (fun s => #[.slice A0_0 l0_0.length c0_0, .int .i64 a0_1, .int .i64 a0_2, .int .i64 a0_3, .int .i64 a0_4, .int .i64 a0_5, .int .i64 a0_6]) 9999 [] (fun s => #[.slice A0_0 l0_0.length c0_0, .int .i64 a0_1, .int .i64 a0_2, .int .i64 a0_3, .int .i64 a0_4, .int .i64 a0_5, .int .i64 a0_6]), evB 1 4 [] 53 (fun s => #[.slice none 0 0, .int .i64 0, .int .i64 0, .int .i64 0, .int .i64 0, .int .i64 0, .int .i64 0]) 9999 [] (fun s => #[.slice none 0 0, .int .i64 0, .int .i64 0, .int .i64 0, .int .i64 0, .int .i64 0, .int .i64 0]), evP 2 5 [] (fun s => .int .i64 0), evP 3 6 [] (fun s => .bool false)] [] [] false 4 rfl rfl (by kernel_rfl) rfl (mf0) ?aF ?nw HS0.out ?hs ?_
  rotate_left 2
  case aF => intro s; simp only [putE, EvT.val, Act.put, setIfInBounds_toArray, set_cons_zero, set_cons_succ]; rfl
  case nw => intro s; simp only [thA, bsA, List.nil_append, List.cons_append, List.append_nil, if_true, if_false, Nat.reduceLT, set_cons_zero, set_cons_succ]; rfl
  case hs => exact ⟨bv rfl (fun s w => by go_simp; try rfl), bv rfl (fun s w => by go_simp; try rfl), pu rfl, pu rfl, trivial⟩
  intro s1 w1 h; have HS1 := Aside0.mk h; clear h HS0
  refine tl0 ?_
  refine wp_seq ?_
  refine reg0 (aF := ?_) [evL 0 9 [] (fun s => .agg #[.slice A0_0 l0_0.length c0_0, .int .i64 a0_1, .int .i64 a0_2, .int .i64 a0_3, .int .i64 a0_4, .int .i64 a0_5, .int .i64 a0_6]), evC 1 (some 10) [] (fun s x => .bool true) (fun s x => []), evP 2 11 [] (fun s => .bool false), evP 3 12 [] (fun s => .bool false), evP 4 13 [] (fun s => .int .i64 a1_0), evL 5 14 [] (fun s => .agg #[.slice A0_0 l0_0.length c0_0, .int .i64 a0_1, .int .i64 a0_2, .int .i64 a0_3, .int .i64 a0_4, .int .i64 a0_5, .int .i64 a0_6]), evC 6 (some 15) [] (fun s x => .int .i64 r2_0) (fun s x => []), evC 7 (some 16) [] (fun s x => .bool false) (fun s x => []), evP 8 17 [] (fun s => .bool true), evP 9 18 [] (fun s => .bool true)] [] false 10 rfl rfl (by kernel_rfl) rfl (fun _ => rfl) ?aF HS1.out ?hs ?_
  rotate_left 1
  case aF => intro s; simp only [putE, EvT.val, Act.put, setIfInBounds_toArray, set_cons_zero, set_cons_succ]; rfl
  case hs => exact ⟨ld rfl 0 (fun s => rfl) (fun s w h => by have h0 := h 0 _ rfl; have h1 := h 1 _ rfl; have h2 := h 2 _ rfl; have h3 := h 3 _ rfl; have h4 := h 4 _ rfl; have h5 := h 5 _ rfl; have h6 := h 6 _ rfl; clear h; go_simp; try rfl), cl rfl (fun s => #[.agg #[.slice A0_0 l0_0.length c0_0, .int .i64 a0_1, .int .i64 a0_2, .int .i64 a0_3, .int .i64 a0_4, .int .i64 a0_5, .int .i64 a0_6]]) Try.func80 (fun s w1 h => (impl_IsGap.calls _ _ _ _ _ _ _ _ _ _ _ (Kd.C_below HR0_0.out h.hb) HC0_0.out H1.out).mono (by rintro e w2 ⟨rfl, hb⟩; exact fin0 hb)), pu rfl, pu rfl, pu rfl, ld rfl 0 (fun s => rfl) (fun s w h => by have h0 := h 0 _ rfl; have h1 := h 1 _ rfl; have h2 := h 2 _ rfl; have h3 := h 3 _ rfl; have h4 := h 4 _ rfl; have h5 := h 5 _ rfl; have h6 := h 6 _ rfl; clear h; go_simp; try rfl), cl rfl (fun s => #[.agg #[.slice A0_0 l0_0.length c0_0, .int .i64 a0_1, .int .i64 a0_2, .int .i64 a0_3, .int .i64 a0_4, .int .i64 a0_5, .int .i64 a0_6]]) Try.func105 (fun s w1 h => (impl_Gap_length.calls _ _ _ _ _ _ _ _ _ _ _ (Kd.C_below HR0_0.out h.hb) HC0_0.out H2.out).mono (by rintro e w2 ⟨rfl, hb⟩; exact fin0 hb)), cl rfl (fun s => #[.int .i64 a1_0, .int .i64 0, .int .i64 r2_0]) Try.func81 (fun s w1 h => (impl_within.calls _ _ _ _ _ H3.out).mono (by rintro e w2 ⟨rfl, hd⟩; exact fin0 hd.below)), pu rfl, pu rfl, trivial⟩
  intro s2 w2 h; have HS2 := Aside0.mk h; clear h HS1
  refine tl0 ?_
  refine wp_cond_true rfl ?_
  refine reg (aF := ?_) (nw := ?_) [evP 0 19 [] (fun s => .agg #[.slice none 0 0, .int .i64 0, .int .i64 0, .int .i64 0, .int .i64 0, .int .i64 0, .int .i64 0]), evS 1] [2, 3] [⟨1, 1, [], fun s => boxT (s1 1).lo #[.slice none 0 0, .int .i64 0, .int .i64 0, .int .i64 0, .int .i64 0, .int .i64 0, .int .i64 0] 53⟩] false 4 rfl rfl (by kernel_rfl) rfl ((mf1 mf0)) ?aF ?nw HS2.out ?hs ?_
  rotate_left 2
  case aF => intro s; simp only [putE, EvT.val, Act.put, setIfInBounds_toArray, set_cons_zero, set_cons_succ]; rfl
  case nw => intro s; simp only [thA, bsA, List.nil_append, List.cons_append, List.append_nil, if_true, if_false, Nat.reduceLT, set_cons_zero, set_cons_succ]; rfl
  case hs => exact ⟨pu rfl (hr := fun s w => by go_simp; try rfl), sb rfl 0 1 0 (fun s => [.slice none 0 0, .int .i64 0, .int .i64 0, .int .i64 0, .int .i64 0, .int .i64 0, .int .i64 0]) rfl rfl (fun s w h hf => by have h0 := h 0 _ rfl; have f0 := hf 0; have h1 := h 1 _ rfl; have f1 := hf 1; have h2 := h 2 _ rfl; have f2 := hf 2; have h3 := h 3 _ rfl; have f3 := hf 3; have h4 := h 4 _ rfl; have f4 := hf 4; have h5 := h 5 _ rfl; have f5 := hf 5; have h6 := h 6 _ rfl; have f6 := hf 6; clear h hf; go_simp; try rfl), trivial⟩
  intro s3 w3 h; have HS3 := Aside0.mk h; clear h HS2
  refine tlP (v := .int .i64 0) 5 rfl ?_
  simp only [Act.put, setIfInBounds_toArray, set_cons_zero, set_cons_succ]
  refine tlP (v := .bool false) 6 rfl ?_
  simp only [Act.put, setIfInBounds_toArray, set_cons_zero, set_cons_succ]
  refine tl0 ?_
  refine wp_ret ?_
  try simp only [Exit.inBlock, Exit.then]
  refine bodyPost_ret (results_list (rs := [.cell 4 53, .tmp 5, .tmp 6]) rfl (by simp) (.cell (s1 1).lo 53 #[.slice none 0 0, .int .i64 0, .int .i64 0, .int .i64 0, .int .i64 0, .int .i64 0, .int .i64 0] (0, 0) _ rfl (show bx (s1 1).lo #[.slice none 0 0, .int .i64 0, .int .i64 0, .int .i64 0, .int .i64 0, .int .i64 0, .int .i64 0] 53 _ from HS3.out.get 1 rfl) Try.underlying53 rfl (by kernel_rfl) (.tmp (.tmp .nil)))) rfl ?_
  exact ⟨_, by first | rfl | simp, Kd.S_nil _ _ _ _ _, HS3.out.hb⟩
set_option maxHeartbeats 8000000 in
set_option maxRecDepth 100000 in
theorem impl_MoveGap_w2 (A0_0 : Option Addr) (c0_0 : Nat) (l0_0 : List (List Int)) (a0_1 : Int) (a0_2 : Int) (a0_3 : Int) (a0_4 : Int) (a0_5 : Int) (a0_6 : Int) (a1_0 : Int) (r2_0 : Int) (r4_0 : List (List Int)) (r4_1 : Int) (r4_2 : Int) (r4_3 : Int) (r4_4 : Int) (r4_5 : Int) (r4_6 : Int) (w : World) (hr0_0 : Kd.C (Kd.slice 5 (Kd.int .u8)) w A0_0 l0_0.length l0_0) (hc0_0 : l0_0.length ≤ c0_0) (H1 : impl_IsGap.f l0_0 a0_1 a0_2 a0_3 a0_4 a0_5 a0_6 = some true) (H2 : impl_Gap_length.f l0_0 a0_1 a0_2 a0_3 a0_4 a0_5 a0_6 = some r2_0) (H3 : impl_within.f a1_0 0 r2_0 = some true) (H4 : ∃ k, impl_Gap_own.f k l0_0 a0_1 a0_2 a0_3 a0_4 a0_5 a0_6 = some (r4_0, r4_1, r4_2, r4_3, r4_4, r4_5, r4_6)) (HWO0 : WinOk r4_0 r4_1 r4_2 r4_3 r4_4) (F0 : 0 ≤ r4_5) (F1 : r4_5 ≤ r4_6) (F2 : r4_6 ≤ r4_3) (F3 : 0 ≤ a1_0) (F4 : a1_0 + (r4_6 - r4_5) ≤ r4_3) :
    Calls Try.prog 62 #[.agg #[.slice A0_0 l0_0.length c0_0, .int .i64 a0_1, .int .i64 a0_2, .int .i64 a0_3, .int .i64 a0_4, .int .i64 a0_5, .int .i64 a0_6], .int .i64 a1_0] w fun e w' => ∃ v0_ : Value, e = .returned (.tuple #[.agg #[v0_, .int .i64 r4_1, .int .i64 r4_2, .int .i64 r4_3, .int .i64 r4_4, .int .i64 a1_0, .int .i64 (r4_6 + (a1_0 - r4_5))], .int .i64 (moveCost r4_5 a1_0), .bool true]) ∧ Kd.S (Kd.slice 5 (Kd.int .u8)) 29 w' w.heap.size (fun _ => True) v0_ (putRow r4_0 r4_1 (moveRow (rowB r4_0 r4_1) r4_2 r4_3 r4_5 r4_6 a1_0)) ∧ Below w.heap.size w w' := by
  have HR0_0 := Aside0.mk hr0_0; have HC0_0 := Aside0.mk hc0_0; clear hr0_0 hc0_0
  have H1_ := Aside0.mk H1; clear H1; have H1 := H1_; clear H1_
  have H2_ := Aside0.mk H2; clear H2; have H2 := H2_; clear H2_
  have H3_ := Aside0.mk H3; clear H3; have H3 := H3_; clear H3_
  obtain ⟨k, H4_⟩ := H4; have H4 := Aside0.mk H4_; clear H4_
  have HWO := Aside0.mk HWO0; clear HWO0
  have HS0 : Aside0 (Stk w [] w) := ⟨Stk.nil w⟩
  go_enter Try.func62, Try.ntmps62
  refine reg (aF := ?_) (nw := ?_) [evB 0 2 [] 53 (fun s => #[.slice A0_0 l0_0.length c0_0, .int .i64 a0_1, .int .i64 a0_2, .int .i64 a0_3, .int .i64 a0_4, .int .i64 a0_5, .int .i64 a0_6]) 9999 [] (fun s => #[.slice A0_0 l0_0.length c0_0, .int .i64 a0_1, .int .i64 a0_2, .int .i64 a0_3, .int .i64 a0_4, .int .i64 a0_5, .int .i64 a0_6]), evB 1 4 [] 53 (fun s => #[.slice none 0 0, .int .i64 0, .int .i64 0, .int .i64 0, .int .i64 0, .int .i64 0, .int .i64 0]) 9999 [] (fun s => #[.slice none 0 0, .int .i64 0, .int .i64 0, .int .i64 0, .int .i64 0, .int .i64 0, .int .i64 0]), evP 2 5 [] (fun s => .int .i64 0), evP 3 6 [] (fun s => .bool false)] [] [] false 4 rfl rfl (by kernel_rfl) rfl (mf0) ?aF ?nw HS0.out ?hs ?_
  rotate_left 2
  case aF => intro s; simp only [putE, EvT.val, Act.put, setIfInBounds_toArray, set_cons_zero, set_cons_succ]; rfl
  case nw => intro s; simp only [thA, bsA, List.nil_append, List.cons_append, List.append_nil, if_true, if_false, Nat.reduceLT, set_cons_zero, set_cons_succ]; rfl
  case hs => exact ⟨bv rfl (fun s w => by go_simp; try rfl), bv rfl (fun s w => by go_simp; try rfl), pu rfl, pu rfl, trivial⟩
  intro s1 w1 h; have HS1 := Aside0.mk h; clear h HS0
  refine tl0 ?_
  refine wp_seq ?_
  refine reg0 (aF := ?_) [evL 0 9 [] (fun s => .agg #[.slice A0_0 l0_0.length c0_0, .int .i64 a0_1, .int .i64 a0_2, .int .i64 a0_3, .int .i64 a0_4, .int .i64 a0_5, .int .i64 a0_6]), evC 1 (some 10) [] (fun s x => .bool true) (fun s x => []), evP 2 11 [] (fun s => .bool false), evP 3 12 [] (fun s => .bool false), evP 4 13 [] (fun s => .int .i64 a1_0), evL 5 14 [] (fun s => .agg #[.slice A0_0 l0_0.length c0_0, .int .i64 a0_1, .int .i64 a0_2, .int .i64 a0_3, .int .i64 a0_4, .int .i64 a0_5, .int .i64 a0_6]), evC 6 (some 15) [] (fun s x => .int .i64 r2_0) (fun s x => []), evC 7 (some 16) [] (fun s x => .bool true) (fun s x => []), evP 8 17 [] (fun s => .bool false), evP 9 18 [] (fun s => .bool false)] [] false 10 rfl rfl (by kernel_rfl) rfl (fun _ => rfl) ?aF HS1.out ?hs ?_
  rotate_left 1
  case aF => intro s; simp only [putE, EvT.val, Act.put, setIfInBounds_toArray, set_cons_zero, set_cons_succ]; rfl
  case hs => exact ⟨ld rfl 0 (fun s => rfl) (fun s w h => by have h0 := h 0 _ rfl; have h1 := h 1 _ rfl; have h2 := h 2 _ rfl; have h3 := h 3 _ rfl; have h4 := h 4 _ rfl; have h5 := h 5 _ rfl; have h6 := h 6 _ rfl; clear h; go_simp; try rfl), cl rfl (fun s => #[.agg #[.slice A0_0 l0_0.length c0_0, .int .i64 a0_1, .int .i64 a0_2, .int .i64 a0_3, .int .i64 a0_4, .int .i64 a0_5, .int .i64 a0_6]]) Try.func80 (fun s w1 h => (impl_IsGap.calls _ _ _ _ _ _ _ _ _ _ _ (Kd.C_below HR0_0.out h.hb) HC0_0.out H1.out).mono (by rintro e w2 ⟨rfl, hb⟩; exact fin0 hb)), pu rfl, pu rfl, pu rfl, ld rfl 0 (fun s => rfl) (fun s w h => by have h0 := h 0 _ rfl; have h1 := h 1 _ rfl; have h2 := h 2 _ rfl; have h3 := h 3 _ rfl; have h4 := h 4 _ rfl; have h5 := h 5 _ rfl; have h6 := h 6 _ rfl; clear h; go_simp; try rfl), cl rfl (fun s => #[.agg #[.slice A0_0 l0_0.length c0_0, .int .i64 a0_1, .int .i64 a0_2, .int .i64 a0_3, .int .i64 a0_4, .int .i64 a0_5, .int .i64 a0_6]]) Try.func105 (fun s w1 h => (impl_Gap_length.calls _ _ _ _ _ _ _ _ _ _ _ (Kd.C_below HR0_0.out h.hb) HC0_0.out H2.out).mono (by rintro e w2 ⟨rfl, hb⟩; exact fin0 hb)), cl rfl (fun s => #[.int .i64 a1_0, .int .i64 0, .int .i64 r2_0]) Try.func81 (fun s w1 h => (impl_within.calls _ _ _ _ _ H3.out).mono (by rintro e w2 ⟨rfl, hd⟩; exact fin0 hd.below)), pu rfl, pu rfl, trivial⟩
  intro s2 w2 h; have HS2 := Aside0.mk h; clear h HS1
  refine tl0 ?_
  refine wp_cond_false rfl ?_
  refine wp_skip ?_
  refine thN ?_
  refine reg (aF := ?_) (nw := ?_) [evL 0 20 [] (fun s => .agg #[.slice A0_0 l0_0.length c0_0, .int .i64 a0_1, .int .i64 a0_2, .int .i64 a0_3, .int .i64 a0_4, .int .i64 a0_5, .int .i64 a0_6]), evC 1 (some 21) [] (fun s x => .agg #[.slice x.A r4_0.length x.c, .int .i64 r4_1, .int .i64 r4_2, .int .i64 r4_3, .int .i64 r4_4, .int .i64 r4_5, .int .i64 r4_6]) (fun s x => [rowS (Kd.slice 5 (Kd.int .u8)) 29 w x.lo x.hi x.A x.c r4_0]), evB 2 7 [] 53 (fun s => #[.slice none 0 0, .int .i64 0, .int .i64 0, .int .i64 0, .int .i64 0, .int .i64 0, .int .i64 0]) 3 [1] (fun s => #[.slice (s 1).A r4_0.length (s 1).c, .int .i64 r4_1, .int .i64 r4_2, .int .i64 r4_3, .int .i64 r4_4, .int .i64 r4_5, .int .i64 r4_6]), evS 3] [] [] false 4 rfl rfl (by kernel_rfl) rfl (mf0) ?aF ?nw HS2.out ?hs ?_
  rotate_left 2
  case aF => intro s; simp only [putE, EvT.val, Act.put, setIfInBounds_toArray, set_cons_zero, set_cons_succ]; rfl
  case nw => intro s; simp only [thA, bsA, List.nil_append, List.cons_append, List.append_nil, if_true, if_false, Nat.reduceLT, set_cons_zero, set_cons_succ]; rfl
  case hs => exact ⟨ld rfl 0 (fun s => rfl) (fun s w h => by have h0 := h 0 _ rfl; have h1 := h 1 _ rfl; have h2 := h 2 _ rfl; have h3 := h 3 _ rfl; have h4 := h 4 _ rfl; have h5 := h 5 _ rfl; have h6 := h 6 _ rfl; clear h; go_simp; try rfl), cl rfl (fun s => #[.agg #[.slice A0_0 l0_0.length c0_0, .int .i64 a0_1, .int .i64 a0_2, .int .i64 a0_3, .int .i64 a0_4, .int .i64 a0_5, .int .i64 a0_6]]) Try.func82 (fun s w1 h => (impl_Gap_own.calls _ _ _ _ _ _ _ _ _ _ _ _ _ _ _ _ _ _ (Kd.C_below HR0_0.out h.hb) HC0_0.out H4.out).mono (by rintro e w2 ⟨v0_, rfl, ho0, hb⟩; obtain ⟨x, rfl, hx⟩ := fin_S ho0 hb h.hb.size; exact ⟨x, rfl, hx⟩)), bv rfl (fun s w => by go_simp; try rfl), st rfl 2 0 (fun s => [.slice (s 1).A r4_0.length (s 1).c, .int .i64 r4_1, .int .i64 r4_2, .int .i64 r4_3, .int .i64 r4_4, .int .i64 r4_5, .int .i64 r4_6]) rfl (fun s w h hf => by have h0 := h 0 _ rfl; have f0 := hf 0; have h1 := h 1 _ rfl; have f1 := hf 1; have h2 := h 2 _ rfl; have f2 := hf 2; have h3 := h 3 _ rfl; have f3 := hf 3; have h4 := h 4 _ rfl; have f4 := hf 4; have h5 := h 5 _ rfl; have f5 := hf 5; have h6 := h 6 _ rfl; have f6 := hf 6; clear h hf; go_simp; try rfl), trivial⟩
  intro s3 w3 h; have HS3 := Aside0.mk h; clear h HS2
  refine tl0 ?_
  refine reg0 (aF := ?_) [evP 0 22 [] (fun s => .int .i64 a1_0)] [1, 2] false 3 rfl rfl (by kernel_rfl) rfl (fun _ => rfl) ?aF HS3.out ?hs ?_
  rotate_left 1
  case aF => intro s; simp only [putE, EvT.val, Act.put, setIfInBounds_toArray, set_cons_zero, set_cons_succ]; rfl
  case hs => exact ⟨pu rfl, trivial⟩
  intro s4 w4 h; have HS4 := Aside0.mk h; clear h HS3
  have hbx_ := HS4.out.get 1 rfl; have hS_ := HS4.out.get 0 rfl; have hap_ := HS4.out.apartOf 1 0 (by decide) rfl rfl
  refine tlCall (some 23) rfl #[.pointer (some ⟨(s3 2).lo, 0, none⟩), .int .i64 a1_0] Try.func106 (impl_Gap_move_c (x := a1_0) hbx_ hS_ (fun k hk e_ => by subst e_; rcases hap_ with h_ | h_ <;> (have h1_ := hk.1; have h2_ := hk.2; simp only [boxT, rowS] at h_; omega)) HWO.out (by omega) (by omega) (by omega) (by omega) (by omega)) (fun e_ wq1 hR => ?_)
  obtain ⟨rfl, hos_, hK_, hbx2_, hS2_⟩ := hR; refine ⟨_, rfl, ?_⟩; have h := HS4.out.step2 1 0 (by decide) rfl rfl hos_ hK_ hbx2_ (fun w'' ha => S_again hS2_ ha); simp only [set_cons_zero, set_cons_succ] at h; have HQ1 := Aside0.mk h; clear h hbx_ hS_ hap_ hos_ hK_ hbx2_ hS2_ HS4
  simp only [Act.put, setIfInBounds_toArray, set_cons_zero, set_cons_succ]
  refine tlP (v := .int .i64 (moveCost r4_5 a1_0)) 8 rfl ?_
  simp only [Act.put, setIfInBounds_toArray, set_cons_zero, set_cons_succ]
  refine tl0 ?_
  refine reg (aF := ?_) (nw := ?_) [evL 0 24 [] (fun s => .agg #[.slice (s3 1).A r4_0.length (s3 1).c, .int .i64 r4_1, .int .i64 r4_2, .int .i64 r4_3, .int .i64 r4_4, .int .i64 a1_0, .int .i64 (r4_6 + (a1_0 - r4_5))]), evP 1 25 [] (fun s => .int .i64 (moveCost r4_5 a1_0)), evS 2] [3, 4] [⟨3, 2, [], fun s => boxT (s1 1).lo #[.slice (s3 1).A r4_0.length (s3 1).c, .int .i64 r4_1, .int .i64 r4_2, .int .i64 r4_3, .int .i64 r4_4, .int .i64 a1_0, .int .i64 (r4_6 + (a1_0 - r4_5))] 53⟩] false 5 rfl rfl (by kernel_rfl) rfl ((mf1 mf0)) ?aF ?nw HQ1.out ?hs ?_
  rotate_left 2
  case aF => intro s; simp only [putE, EvT.val, Act.put, setIfInBounds_toArray, set_cons_zero, set_cons_succ]; rfl
  case nw => intro s; simp only [thA, bsA, List.nil_append, List.cons_append, List.append_nil, if_true, if_false, Nat.reduceLT, set_cons_zero, set_cons_succ]; rfl
  case hs => exact ⟨ld rfl 1 (fun s => rfl) (fun s w h => by have h0 := h 0 _ rfl; have h1 := h 1 _ rfl; have h2 := h 2 _ rfl; have h3 := h 3 _ rfl; have h4 := h 4 _ rfl; have h5 := h 5 _ rfl; have h6 := h 6 _ rfl; clear h; go_simp; try rfl), pu rfl, sb rfl 0 3 0 (fun s => [.slice (s3 1).A r4_0.length (s3 1).c, .int .i64 r4_1, .int .i64 r4_2, .int .i64 r4_3, .int .i64 r4_4, .int .i64 a1_0, .int .i64 (r4_6 + (a1_0 - r4_5))]) rfl rfl (fun s w h hf => by have h0 := h 0 _ rfl; have f0 := hf 0; have h1 := h 1 _ rfl; have f1 := hf 1; have h2 := h 2 _ rfl; have f2 := hf 2; have h3 := h 3 _ rfl; have f3 := hf 3; have h4 := h 4 _ rfl; have f4 := hf 4; have h5 := h 5 _ rfl; have f5 := hf 5; have h6 := h 6 _ rfl; have f6 := hf 6; clear h hf; go_simp; try rfl), trivial⟩
  intro s5 w5 h; have HS5 := Aside0.mk h; clear h HQ1
  refine tlP (v := .int .i64 (moveCost r4_5 a1_0)) 5 rfl ?_
  simp only [Act.put, setIfInBounds_toArray, set_cons_zero, set_cons_succ]
  refine tlP (v := .bool true) 6 rfl ?_
  simp only [Act.put, setIfInBounds_toArray, set_cons_zero, set_cons_succ]
  refine tl0 ?_
  refine wp_ret ?_
  try simp only [Exit.inBlock, Exit.then]
  refine bodyPost_ret (results_list (rs := [.cell 4 53, .tmp 5, .tmp 6]) rfl (by simp) (.cell (s1 1).lo 53 #[.slice (s3 1).A r4_0.length (s3 1).c, .int .i64 r4_1, .int .i64 r4_2, .int .i64 r4_3, .int .i64 r4_4, .int .i64 a1_0, .int .i64 (r4_6 + (a1_0 - r4_5))] (0, 0) _ rfl (show bx (s1 1).lo #[.slice (s3 1).A r4_0.length (s3 1).c, .int .i64 r4_1, .int .i64 r4_2, .int .i64 r4_3, .int .i64 r4_4, .int .i64 a1_0, .int .i64 (r4_6 + (a1_0 - r4_5))] 53 _ from HS5.out.get 3 rfl) Try.underlying53 rfl (by kernel_rfl) (.tmp (.tmp .nil)))) rfl ?_
  exact ⟨_, by first | rfl | simp, Kd.S_mono (HS5.out.get 0 rfl) (fun _ _ => trivial), HS5.out.hb⟩
end Go.Proofs.Ytaieobidkmihkaa.P


namespace Go.Proofs.Ytaieobidkmihkaa.P
open Go.RowKit Go.Proofs.YtaieobidkmihkaaW.PrintWords Go.Proofs.YtaieobidkmihkaaW.PrintLast Go.Proofs.YtaieobidkmihkaaW.PrintMore
attribute [local go_sem] max2_int min2_int max_two min_two max_three min_three max_four min_four   -- for this text's walks alone
set_option linter.unusedVariables false
set_option linter.unusedSimpArgs false

/-! ### spec_l6Long: function 103 -/
def spec_l6Long.f (l0_0 : List (List Int)) (a0_1 : Int) (a0_2 : Int) (a0_3 : Int) (a0_4 : Int) (a0_5 : Int) (a0_6 : Int) : Option (Int) := some (wrap64 (a0_3 - (wrap64 (a0_6 - a0_5))))
set_option maxHeartbeats 8000000 in
set_option maxRecDepth 100000 in
theorem spec_l6Long.calls (A0_0 : Option Addr) (c0_0 : Nat) (l0_0 : List (List Int)) (a0_1 : Int) (a0_2 : Int) (a0_3 : Int) (a0_4 : Int) (a0_5 : Int) (a0_6 : Int) (r : Int) (w : World) (hr0_0 : Kd.C (Kd.slice 5 (Kd.int .u8)) w A0_0 l0_0.length l0_0) (hc0_0 : l0_0.length ≤ c0_0) (h : spec_l6Long.f l0_0 a0_1 a0_2 a0_3 a0_4 a0_5 a0_6 = some r) :
    Calls Try.prog 103 #[.agg #[.slice A0_0 l0_0.length c0_0, .int .i64 a0_1, .int .i64 a0_2, .int .i64 a0_3, .int .i64 a0_4, .int .i64 a0_5, .int .i64 a0_6]] w fun e w' => e = .returned (.int .i64 r) ∧ Below w.heap.size w w' := by
  have hu53 := Try.underlying53
  have HR0_0 := Aside0.mk hr0_0
  have HC0_0 := Aside0.mk hc0_0
  clear hr0_0 hc0_0
  have HB := Aside0.mk (Below.refl w.heap.size w)
  have H : (some (wrap64 (a0_3 - (wrap64 (a0_6 - a0_5))))) = some r := h
  clear h
  obtain rfl := Option.some.inj H
  go_enter Try.func103, Try.ntmps103
  go_wp2_with (first | ((with_reducible refine gate_dst (N := 1) rfl ?_); refine box_event ?hg (N := 1) ?hd (cs := #[.slice A0_0 l0_0.length c0_0, .int .i64 a0_1, .int .i64 a0_2, .int .i64 a0_3, .int .i64 a0_4, .int .i64 a0_5, .int .i64 a0_6]) (t := 53) ?hr ?_; (case hd => rfl); (case hg => rfl); (case hr => first | (go_simp; done) | (go_simp; rfl)); intro gb1231 hg w2 hbox hb; have n0_ := Aside0.mk (below_step (by repeat (first | (with_reducible first | exact HB.out | apply below_alloc | apply pw_below_drewN | apply below_drew1) | exact HB.out)) hb); have n1_ := Aside0.mk (hbox); have n2_ := Aside0.mk ((by rw [hg]; exact (below_size (by repeat (first | (with_reducible first | exact HB.out | apply below_alloc | apply pw_below_drewN | apply below_drew1) | exact HB.out))) : w.heap.size ≤ gb1231)); have n3_ := Aside0.mk ((by rw [hg]; exact (below_size (by repeat (first | (with_reducible first | exact HB.out | apply below_alloc | apply pw_below_drewN | apply below_drew1) | exact HB.out))) : w.heap.size ≤ gb1231)); clear HB; have HB := n0_; have BK1231 := n1_; have GW1231 := n2_; have GE1231 := n3_; clear n0_ n1_ n2_ n3_; clear hb hbox hg; have hcz3_0 : w2.cell? ⟨gb1231, 0, none⟩ = some (.slice A0_0 l0_0.length c0_0) := (blk_cell BK1231.out 0).trans rfl; have hcz3_1 : w2.cell? ⟨gb1231, 1, none⟩ = some (.int .i64 a0_1) := (blk_cell BK1231.out 1).trans rfl; have hcz3_2 : w2.cell? ⟨gb1231, 2, none⟩ = some (.int .i64 a0_2) := (blk_cell BK1231.out 2).trans rfl; have hcz3_3 : w2.cell? ⟨gb1231, 3, none⟩ = some (.int .i64 a0_3) := (blk_cell BK1231.out 3).trans rfl; have hcz3_4 : w2.cell? ⟨gb1231, 4, none⟩ = some (.int .i64 a0_4) := (blk_cell BK1231.out 4).trans rfl; have hcz3_5 : w2.cell? ⟨gb1231, 5, none⟩ = some (.int .i64 a0_5) := (blk_cell BK1231.out 5).trans rfl; have hcz3_6 : w2.cell? ⟨gb1231, 6, none⟩ = some (.int .i64 a0_6) := (blk_cell BK1231.out 6).trans rfl; have hfz3_0 := blk_frozen BK1231.out 0; have hfz3_1 := blk_frozen BK1231.out 1; have hfz3_2 := blk_frozen BK1231.out 2; have hfz3_3 := blk_frozen BK1231.out 3; have hfz3_4 := blk_frozen BK1231.out 4; have hfz3_5 := blk_frozen BK1231.out 5; have hfz3_6 := blk_frozen BK1231.out 6))
  go_ret
  exact ⟨by first | rfl | (simp [errW_none, errW_some] <;> rfl) | (simp [*, errW_none, errW_some] <;> rfl), by repeat (first | (with_reducible first | exact HB.out | apply below_alloc | apply pw_below_drewN | apply below_drew1 | refine below_set ?_ GE1231.out) | exact HB.out)⟩

end Go.Proofs.Ytaieobidkmihkaa.P


namespace Go.Proofs.Ytaieobidkmihkaa.P
open Go.RowKit Go.Proofs.YtaieobidkmihkaaW.PrintWords Go.Proofs.YtaieobidkmihkaaW.PrintLast Go.Proofs.YtaieobidkmihkaaW.PrintMore
attribute [local go_sem] max2_int min2_int max_two min_two max_three min_three max_four min_four   -- for this text's walks alone
set_option linter.unusedVariables false
set_option linter.unusedSimpArgs false

/-! ### spec_l6Move: function 104 -/
def spec_l6Move.f (k : Nat) (l0_0 : List (List Int)) (a0_1 : Int) (a0_2 : Int) (a0_3 : Int) (a0_4 : Int) (a0_5 : Int) (a0_6 : Int) (a1 : Int) : Option ((List (List Int)) × Int × Int × Int × Int × Int × Int × Int) := (spec_l2Bytes.f k l0_0 a0_1 a0_2 a0_3 a0_4).bind fun t1234 => (if a1 ≤ a0_5 then (if 0 ≤ a1 then (if a0_5 ≤ (t1234.length : Int) then ((spec_l2Write.f k l0_0 a0_1 a0_2 a0_3 a0_4 (wrap64 (a1 + (wrap64 (a0_6 - a0_5)))) ((t1234.take (a0_5 : Int).toNat).drop (a1 : Int).toNat)).bind fun t1241 => (some (t1241, a0_1, a0_2, a0_3, a0_4, a1, wrap64 (a1 + (wrap64 (a0_6 - a0_5))), wrap64 (a0_5 - a1)))) else (none)) else (none)) else (if 0 ≤ a0_6 then (if a0_6 ≤ (wrap64 (a1 + (wrap64 (a0_6 - a0_5)))) then (if (wrap64 (a1 + (wrap64 (a0_6 - a0_5)))) ≤ (t1234.length : Int) then ((spec_l2Write.f k l0_0 a0_1 a0_2 a0_3 a0_4 a0_5 ((t1234.take ((wrap64 (a1 + (wrap64 (a0_6 - a0_5)))) : Int).toNat).drop (a0_6 : Int).toNat)).bind fun t1249 => (some (t1249, a0_1, a0_2, a0_3, a0_4, a1, wrap64 (a1 + (wrap64 (a0_6 - a0_5))), wrap64 (a1 - a0_5)))) else (none)) else (none)) else (none)))
def spec_l6Move.T1 : Bool × List (List Nat × List Nat) := (true, [([], []), ([0], [0]), ([], []), ([2], [2]), ([1, 3], [1, 3]), ([], []), ([5], [5]), ([], []), ([7], [7]), ([6, 8], [6, 8]), ([4, 4, 0, 1, 2, 3, 4], [4]), ([9, 10, 0, 1, 2, 3, 4, 5, 6, 7, 8, 9, 10], [9])])
def spec_l6Move.B1 : List Nat := [0, 1, 0, 4, 15, 0, 32, 0, 128, 480, 31, 2047]
theorem spec_l6Move.tab1 : rtab .any (opsOf Try.f104 1) = spec_l6Move.T1 := by kernel_rfl
theorem spec_l6Move.bits1 : waitsOk spec_l6Move.T1.2 spec_l6Move.B1 = true := by kernel_rfl
def spec_l6Move.T3 : Bool × List (List Nat × List Nat) := (true, [([], []), ([0], [0]), ([], []), ([2], [2]), ([], []), ([], []), ([4, 5], [4, 5]), ([], []), ([], []), ([], []), ([9], [9]), ([7, 8, 10], [7, 8, 10]), ([1, 3, 6, 11], [1, 3, 6, 11]), ([], []), ([13, 12, 12, 0, 1, 2, 3, 4, 5, 6, 7, 8, 9, 10, 11, 12, 13], [12, 13])])
def spec_l6Move.B3 : List Nat := [0, 1, 0, 4, 0, 0, 48, 0, 0, 0, 512, 1920, 4095, 0, 16383]
theorem spec_l6Move.tab3 : rtab .any (opsOf Try.f104 3) = spec_l6Move.T3 := by kernel_rfl
theorem spec_l6Move.bits3 : waitsOk spec_l6Move.T3.2 spec_l6Move.B3 = true := by kernel_rfl
def spec_l6Move.T4 : Bool × List (List Nat × List Nat) := (true, [([], []), ([], []), ([1], [1]), ([], []), ([], []), ([], []), ([4, 5], [4, 5]), ([0, 2, 3, 6], [0, 2, 3, 6]), ([], []), ([8], [8]), ([], []), ([9, 10], [9, 10]), ([7, 0, 1, 2, 3, 4, 5, 6, 7], [7]), ([11, 12, 0, 1, 2, 3, 4, 5, 6, 7, 8, 9, 10, 11, 12], [11])])
def spec_l6Move.B4 : List Nat := [0, 0, 2, 0, 0, 0, 48, 127, 0, 256, 0, 1792, 255, 8191]
theorem spec_l6Move.tab4 : rtab .any (opsOf Try.f104 4) = spec_l6Move.T4 := by kernel_rfl
theorem spec_l6Move.bits4 : waitsOk spec_l6Move.T4.2 spec_l6Move.B4 = true := by kernel_rfl
def spec_l6Move.T5 : Bool × List (List Nat × List Nat) := (true, [([], []), ([0], [0]), ([], []), ([2], [2]), ([], []), ([4], [4]), ([], []), ([], []), ([7], [7]), ([], []), ([], []), ([9, 10], [9, 10]), ([6, 8, 11], [6, 8, 11]), ([1, 3, 5, 12], [1, 3, 5, 12]), ([], []), ([14, 13, 13, 0, 1, 2, 3, 4, 5, 6, 7, 8, 9, 10, 11, 12, 13, 14], [13, 14])])
def spec_l6Move.B5 : List Nat := [0, 1, 0, 4, 0, 16, 0, 0, 128, 0, 0, 1536, 4032, 8191, 0, 32767]
theorem spec_l6Move.tab5 : rtab .any (opsOf Try.f104 5) = spec_l6Move.T5 := by kernel_rfl
theorem spec_l6Move.bits5 : waitsOk spec_l6Move.T5.2 spec_l6Move.B5 = true := by kernel_rfl
def spec_l6Move.T6 : Bool × List (List Nat × List Nat) := (true, [([], []), ([], []), ([1], [1]), ([], []), ([], []), ([], []), ([4, 5], [4, 5]), ([0, 2, 3, 6], [0, 2, 3, 6]), ([], []), ([], []), ([9], [9]), ([8, 10], [8, 10]), ([7, 0, 1, 2, 3, 4, 5, 6, 7], [7]), ([11, 12, 0, 1, 2, 3, 4, 5, 6, 7, 8, 9, 10, 11, 12], [11])])
def spec_l6Move.B6 : List Nat := [0, 0, 2, 0, 0, 0, 48, 127, 0, 0, 512, 1792, 255, 8191]
theorem spec_l6Move.tab6 : rtab .any (opsOf Try.f104 6) = spec_l6Move.T6 := by kernel_rfl
theorem spec_l6Move.bits6 : waitsOk spec_l6Move.T6.2 spec_l6Move.B6 = true := by kernel_rfl
set_option maxHeartbeats 8000000 in
set_option maxRecDepth 100000 in
theorem spec_l6Move.calls (k : Nat) (A0_0 : Option Addr) (c0_0 : Nat) (l0_0 : List (List Int)) (a0_1 : Int) (a0_2 : Int) (a0_3 : Int) (a0_4 : Int) (a0_5 : Int) (a0_6 : Int) (a1 : Int) (r1 : List (List Int)) (r2 : Int) (r3 : Int) (r4 : Int) (r5 : Int) (r6 : Int) (r7 : Int) (r8 : Int) (w : World) (hr0_0 : Kd.C (Kd.slice 5 (Kd.int .u8)) w A0_0 l0_0.length l0_0) (hc0_0 : l0_0.length ≤ c0_0) (h : spec_l6Move.f k l0_0 a0_1 a0_2 a0_3 a0_4 a0_5 a0_6 a1 = some (r1, r2, r3, r4, r5, r6, r7, r8)) :
    Calls Try.prog 104 #[.agg #[.slice A0_0 l0_0.length c0_0, .int .i64 a0_1, .int .i64 a0_2, .int .i64 a0_3, .int .i64 a0_4, .int .i64 a0_5, .int .i64 a0_6], .int .i64 a1] w fun e w' => ∃ v0_ : Value, e = .returned (.tuple #[.agg #[v0_, .int .i64 r2, .int .i64 r3, .int .i64 r4, .int .i64 r5, .int .i64 r6, .int .i64 r7], .int .i64 r8]) ∧ Kd.S (Kd.slice 5 (Kd.int .u8)) 29 w' w.heap.size (fun _ => True) v0_ r1 ∧ Below w.heap.size w w' := by
  have hu53 := Try.underlying53
  have hu31 := Try.underlying31
  have hu32 := Try.underlying32
  have HR0_0 := Aside0.mk hr0_0
  have HC0_0 := Aside0.mk hc0_0
  clear hr0_0 hc0_0
  have HB := Aside0.mk (Below.refl w.heap.size w)
  have H : ((spec_l2Bytes.f k l0_0 a0_1 a0_2 a0_3 a0_4).bind fun t1234 => (if a1 ≤ a0_5 then (if 0 ≤ a1 then (if a0_5 ≤ (t1234.length : Int) then ((spec_l2Write.f k l0_0 a0_1 a0_2 a0_3 a0_4 (wrap64 (a1 + (wrap64 (a0_6 - a0_5)))) ((t1234.take (a0_5 : Int).toNat).drop (a1 : Int).toNat)).bind fun t1241 => (some (t1241, a0_1, a0_2, a0_3, a0_4, a1, wrap64 (a1 + (wrap64 (a0_6 - a0_5))), wrap64 (a0_5 - a1)))) else (none)) else (none)) else (if 0 ≤ a0_6 then (if a0_6 ≤ (wrap64 (a1 + (wrap64 (a0_6 - a0_5)))) then (if (wrap64 (a1 + (wrap64 (a0_6 - a0_5)))) ≤ (t1234.length : Int) then ((spec_l2Write.f k l0_0 a0_1 a0_2 a0_3 a0_4 a0_5 ((t1234.take ((wrap64 (a1 + (wrap64 (a0_6 - a0_5)))) : Int).toNat).drop (a0_6 : Int).toNat)).bind fun t1249 => (some (t1249, a0_1, a0_2, a0_3, a0_4, a1, wrap64 (a1 + (wrap64 (a0_6 - a0_5))), wrap64 (a1 - a0_5)))) else (none)) else (none)) else (none)))) = some (r1, r2, r3, r4, r5, r6, r7, r8) := h
  clear h
  replace H := Option.bind_eq_some_iff.mp H
  obtain ⟨t1234, A30, H⟩ := H
  replace H : (if a1 ≤ a0_5 then (if 0 ≤ a1 then (if a0_5 ≤ (t1234.length : Int) then ((spec_l2Write.f k l0_0 a0_1 a0_2 a0_3 a0_4 (wrap64 (a1 + (wrap64 (a0_6 - a0_5)))) ((t1234.take (a0_5 : Int).toNat).drop (a1 : Int).toNat)).bind fun t1241 => (some (t1241, a0_1, a0_2, a0_3, a0_4, a1, wrap64 (a1 + (wrap64 (a0_6 - a0_5))), wrap64 (a0_5 - a1)))) else (none)) else (none)) else (if 0 ≤ a0_6 then (if a0_6 ≤ (wrap64 (a1 + (wrap64 (a0_6 - a0_5)))) then (if (wrap64 (a1 + (wrap64 (a0_6 - a0_5)))) ≤ (t1234.length : Int) then ((spec_l2Write.f k l0_0 a0_1 a0_2 a0_3 a0_4 a0_5 ((t1234.take ((wrap64 (a1 + (wrap64 (a0_6 - a0_5)))) : Int).toNat).drop (a0_6 : Int).toNat)).bind fun t1249 => (some (t1249, a0_1, a0_2, a0_3, a0_4, a1, wrap64 (a1 + (wrap64 (a0_6 - a0_5))), wrap64 (a1 - a0_5)))) else (none)) else (none)) else (none))) = some (r1, r2, r3, r4, r5, r6, r7, r8) := H
  have A3 := Aside0.mk A30
  clear A30
  by_cases c4 : a1 ≤ a0_5
  · rw [if_pos c4] at H
    have c4b0 : decide (a1 ≤ a0_5) = true := decide_eq_true c4
    clear c4
    by_cases c5 : 0 ≤ a1
    · rw [if_pos c5] at H
      have c5b0 := eq_true c5
      have c5b1 : decide (0 ≤ a1) = true := decide_eq_true c5
      clear c5
      have c6b0 := eq_true (of_decide_eq_true (by first | (with_reducible assumption) | assumption) : a1 ≤ a0_5)
      by_cases c7 : a0_5 ≤ (t1234.length : Int)
      · rw [if_pos c7] at H
        have c7b0 := eq_true c7
        have c7b1 : decide (a0_5 ≤ (t1234.length : Int)) = true := decide_eq_true c7
        clear c7
        obtain ⟨y1237, hy1237⟩ : ∃ y_ : List Int, y_ = ((t1234.take (a0_5 : Int).toNat).drop (a1 : Int).toNat) := ⟨_, rfl⟩
        replace H : ((spec_l2Write.f k l0_0 a0_1 a0_2 a0_3 a0_4 (wrap64 (a1 + (wrap64 (a0_6 - a0_5)))) y1237).bind fun t1241 => (some (t1241, a0_1, a0_2, a0_3, a0_4, a1, wrap64 (a1 + (wrap64 (a0_6 - a0_5))), wrap64 (a0_5 - a1)))) = some (r1, r2, r3, r4, r5, r6, r7, r8) := by first | (rw [hy1237]; with_reducible exact H) | (have H2_ := (Option.bind_some _ _).symm.trans H; rw [hy1237]; with_reducible exact H2_) | (have H2_ := (Option.bind_some _ _).symm.trans H; with_reducible exact H2_) | with_reducible exact H | (rw [hy1237]; exact H) | exact H
        have Ny1237 := Aside0.mk hy1237
        clear hy1237
        replace H := Option.bind_eq_some_iff.mp H
        obtain ⟨t1241, A80, H⟩ := H
        replace H : (some (t1241, a0_1, a0_2, a0_3, a0_4, a1, wrap64 (a1 + (wrap64 (a0_6 - a0_5))), wrap64 (a0_5 - a1))) = some (r1, r2, r3, r4, r5, r6, r7, r8) := H
        have A8 := Aside0.mk A80
        clear A80
        simp only [Option.some.injEq, Prod.mk.injEq] at H
        obtain ⟨rfl, rfl, rfl, rfl, rfl, rfl, rfl, rfl⟩ := H
        go_enter Try.func104, Try.ntmps104
        try go_wp2_with (first | ((with_reducible refine gate_dst (N := 2) rfl ?_); refine box_event ?hg (N := 2) ?hd (cs := #[.slice A0_0 l0_0.length c0_0, .int .i64 a0_1, .int .i64 a0_2, .int .i64 a0_3, .int .i64 a0_4, .int .i64 a0_5, .int .i64 a0_6]) (t := 53) ?hr ?_; (case hd => rfl); (case hg => rfl); (case hr => first | (go_simp; done) | (go_simp; rfl)); intro gb1232 hg w9 hbox hb; have n0_ := Aside0.mk (below_step (by repeat (first | (with_reducible first | exact HB.out | apply below_alloc | apply pw_below_drewN | apply below_drew1) | exact HB.out)) hb); have n1_ := Aside0.mk (hbox); have n2_ := Aside0.mk ((by rw [hg]; exact (below_size (by repeat (first | (with_reducible first | exact HB.out | apply below_alloc | apply pw_below_drewN | apply below_drew1) | exact HB.out))) : w.heap.size ≤ gb1232)); have n3_ := Aside0.mk ((by rw [hg]; exact (below_size (by repeat (first | (with_reducible first | exact HB.out | apply below_alloc | apply pw_below_drewN | apply below_drew1) | exact HB.out))) : w.heap.size ≤ gb1232)); clear HB; have HB := n0_; have BK1232 := n1_; have GW1232 := n2_; have GE1232 := n3_; clear n0_ n1_ n2_ n3_; clear hb hbox hg) | ((with_reducible refine gate_dst (N := 4) rfl ?_); refine box_event ?hg (N := 4) ?hd (cs := #[.slice none 0 0, .int .i64 0, .int .i64 0, .int .i64 0, .int .i64 0, .int .i64 0, .int .i64 0]) (t := 53) ?hr ?_; (case hd => rfl); (case hg => rfl); (case hr => first | (go_simp; done) | (go_simp; rfl)); intro gb1233 hg w10 hbox hb; have n0_ := Aside0.mk (blk_below (g := gb1232) (o := .cells #[.slice A0_0 l0_0.length c0_0, .int .i64 a0_1, .int .i64 a0_2, .int .i64 a0_3, .int .i64 a0_4, .int .i64 a0_5, .int .i64 a0_6] 53 (0, 0)) (by (with_reducible repeat (first | refine blk_drewN ?_ _ | refine blk_drew ?_ | refine blk_alloc ?_ _)); exact BK1232.out) hb); have n1_ := Aside0.mk (below_step (by repeat (first | (with_reducible first | exact HB.out | apply below_alloc | apply pw_below_drewN | apply below_drew1 | refine below_set ?_ GE1232.out) | exact HB.out)) hb); have n2_ := Aside0.mk (hbox); have n3_ := Aside0.mk ((by rw [hg]; exact (below_size (by repeat (first | (with_reducible first | exact HB.out | apply below_alloc | apply pw_below_drewN | apply below_drew1 | refine below_set ?_ GE1232.out) | exact HB.out))) : w.heap.size ≤ gb1233)); have n4_ := Aside0.mk ((by rw [hg]; exact (below_size (by repeat (first | (with_reducible first | exact HB.out | apply below_alloc | apply pw_below_drewN | apply below_drew1 | refine below_set ?_ GE1232.out) | exact HB.out))) : w.heap.size ≤ gb1233)); have n5_ := Aside0.mk ((by rw [hg]; exact Nat.ne_of_lt (blk_lt (g := gb1232) (o := .cells #[.slice A0_0 l0_0.length c0_0, .int .i64 a0_1, .int .i64 a0_2, .int .i64 a0_3, .int .i64 a0_4, .int .i64 a0_5, .int .i64 a0_6] 53 (0, 0)) (by (with_reducible repeat (first | refine blk_drewN ?_ _ | refine blk_drew ?_ | refine blk_alloc ?_ _)); exact BK1232.out)) : gb1232 ≠ gb1233)); have n6_ := Aside0.mk ((by rw [hg]; exact Nat.ne_of_gt (blk_lt (g := gb1232) (o := .cells #[.slice A0_0 l0_0.length c0_0, .int .i64 a0_1, .int .i64 a0_2, .int .i64 a0_3, .int .i64 a0_4, .int .i64 a0_5, .int .i64 a0_6] 53 (0, 0)) (by (with_reducible repeat (first | refine blk_drewN ?_ _ | refine blk_drew ?_ | refine blk_alloc ?_ _)); exact BK1232.out)) : gb1233 ≠ gb1232)); clear BK1232; clear HB; have BK1232 := n0_; have HB := n1_; have BK1233 := n2_; have GW1233 := n3_; have GE1233 := n4_; have NB1232_1233 := n5_; have NB1233_1232 := n6_; clear n0_ n1_ n2_ n3_ n4_ n5_ n6_; clear hb hbox hg))
        have n0_ := Aside0.mk (blk_drew BK1232.out)
        have n1_ := Aside0.mk (blk_drew BK1233.out)
        have n2_ := Aside0.mk (below_drew1 HB.out)
        clear BK1232
        clear BK1233
        clear HB
        have BK1232 := n0_
        have BK1233 := n1_
        have HB := n2_
        clear n0_ n1_ n2_
        refine start_ (n := 12) (S := fun w' => w'.cell? ⟨gb1232, 0, none⟩ = some (.slice A0_0 l0_0.length c0_0) ∧ w'.cell? ⟨gb1232, 1, none⟩ = some (.int .i64 a0_1) ∧ w'.cell? ⟨gb1232, 2, none⟩ = some (.int .i64 a0_2) ∧ w'.cell? ⟨gb1232, 3, none⟩ = some (.int .i64 a0_3) ∧ w'.cell? ⟨gb1232, 4, none⟩ = some (.int .i64 a0_4) ∧ w'.cell? ⟨gb1232, 5, none⟩ = some (.int .i64 a0_5) ∧ w'.cell? ⟨gb1232, 6, none⟩ = some (.int .i64 a0_6)) (ds := []) #[false, false, false, false, false, false, false, false, false, false, false, false] (by kernel_rfl) rfl rfl ⟨(blk_cell BK1232.out 0).trans rfl, (blk_cell BK1232.out 1).trans rfl, (blk_cell BK1232.out 2).trans rfl, (blk_cell BK1232.out 3).trans rfl, (blk_cell BK1232.out 4).trans rfl, (blk_cell BK1232.out 5).trans rfl, (blk_cell BK1232.out 6).trans rfl⟩ (fun hHeld => ?_); refine with_tabW spec_l6Move.tab1 spec_l6Move.bits1 (fun HT_ HW_ => ?_)
        generalize w10.drew = w11 at BK1232 BK1233 HB hHeld ⊢
        refine pure_ (i := 0) (N := some 10) (v := ?_) (a' := ?_) #[true, false, false, false, false, false, false, false, false, false, false, false] rfl rfl (any_of HT_.out (by kernel_rfl)) (fun _ _ _ h => h) (Or.inl ⟨by rfl, ?_⟩) ?_ ?_
        rotate_left
        · intro w'
          go_simp
          with_reducible rfl
        rotate_left
        · simp only [Act.put, List.setIfInBounds_toArray, List.set_cons_zero, List.set_cons_succ, i64_w, i32_w]
          rfl
        refine pure_ (i := 2) (N := some 12) (v := ?_) (a' := ?_) #[true, false, true, false, false, false, false, false, false, false, false, false] rfl rfl (any_of HT_.out (by kernel_rfl)) (fun _ _ _ h => h) (Or.inl ⟨by rfl, ?_⟩) ?_ ?_
        rotate_left
        · intro w'
          go_simp
          with_reducible rfl
        rotate_left
        · simp only [Act.put, List.setIfInBounds_toArray, List.set_cons_zero, List.set_cons_succ, i64_w, i32_w]
          rfl
        refine pure_ (i := 5) (N := some 15) (v := ?_) (a' := ?_) #[true, false, true, false, false, true, false, false, false, false, false, false] rfl rfl (any_of HT_.out (by kernel_rfl)) (fun _ _ _ h => h) (Or.inl ⟨by rfl, ?_⟩) ?_ ?_
        rotate_left
        · intro w'
          go_simp
          with_reducible rfl
        rotate_left
        · simp only [Act.put, List.setIfInBounds_toArray, List.set_cons_zero, List.set_cons_succ, i64_w, i32_w]
          rfl
        refine pure_ (i := 7) (N := some 17) (v := ?_) (a' := ?_) #[true, false, true, false, false, true, false, true, false, false, false, false] rfl rfl (any_of HT_.out (by kernel_rfl)) (fun _ _ _ h => h) (Or.inl ⟨by rfl, ?_⟩) ?_ ?_
        rotate_left
        · intro w'
          go_simp
          with_reducible rfl
        rotate_left
        · simp only [Act.put, List.setIfInBounds_toArray, List.set_cons_zero, List.set_cons_succ, i64_w, i32_w]
          rfl
        refine take_ (i := 1) (N := some 11) (v := ?_) (a' := ?_) #[true, true, true, false, false, true, false, true, false, false, false, false] rfl rfl (take_ofW HT_.out HW_.out (by kernel_rfl)) (fun _ _ _ h => h) (Or.inl ⟨by rfl, ?_⟩) hHeld ?_ ?_
        rotate_left
        · rintro w' ⟨s0, s1, s2, s3, s4, s5, s6⟩
          go_simp
          with_reducible rfl
        rotate_left
        · simp only [Act.put, List.setIfInBounds_toArray, List.set_cons_zero, List.set_cons_succ, i64_w, i32_w]
          rfl
        refine take_ (i := 3) (N := some 13) (v := ?_) (a' := ?_) #[true, true, true, true, false, true, false, true, false, false, false, false] rfl rfl (take_ofW HT_.out HW_.out (by kernel_rfl)) (fun _ _ _ h => h) (Or.inl ⟨by rfl, ?_⟩) hHeld ?_ ?_
        rotate_left
        · rintro w' ⟨s0, s1, s2, s3, s4, s5, s6⟩
          go_simp
          with_reducible rfl
        rotate_left
        · simp only [Act.put, List.setIfInBounds_toArray, List.set_cons_zero, List.set_cons_succ, i64_w, i32_w]
          rfl
        refine take_ (i := 6) (N := some 16) (v := ?_) (a' := ?_) #[true, true, true, true, false, true, true, true, false, false, false, false] rfl rfl (take_ofW HT_.out HW_.out (by kernel_rfl)) (fun _ _ _ h => h) (Or.inl ⟨by rfl, ?_⟩) hHeld ?_ ?_
        rotate_left
        · rintro w' ⟨s0, s1, s2, s3, s4, s5, s6⟩
          go_simp
          with_reducible rfl
        rotate_left
        · simp only [Act.put, List.setIfInBounds_toArray, List.set_cons_zero, List.set_cons_succ, i64_w, i32_w]
          rfl
        refine take_ (i := 8) (N := some 18) (v := ?_) (a' := ?_) #[true, true, true, true, false, true, true, true, true, false, false, false] rfl rfl (take_ofW HT_.out HW_.out (by kernel_rfl)) (fun _ _ _ h => h) (Or.inl ⟨by rfl, ?_⟩) hHeld ?_ ?_
        rotate_left
        · rintro w' ⟨s0, s1, s2, s3, s4, s5, s6⟩
          go_simp
          with_reducible rfl
        rotate_left
        · simp only [Act.put, List.setIfInBounds_toArray, List.set_cons_zero, List.set_cons_succ, i64_w, i32_w]
          rfl
        refine pure_ (i := 9) (N := some 19) (v := ?_) (a' := ?_) #[true, true, true, true, false, true, true, true, true, true, false, false] rfl rfl (any_of HT_.out (by kernel_rfl)) (fun _ _ _ h => h) (Or.inl ⟨by rfl, ?_⟩) ?_ ?_
        rotate_left
        · intro w'
          go_simp
          with_reducible rfl
        rotate_left
        · simp only [Act.put, List.setIfInBounds_toArray, List.set_cons_zero, List.set_cons_succ, i64_w, i32_w]
          rfl
        refine one_ (i := 4) (N := some 14) #[true, true, true, true, true, true, true, true, true, true, false, false] rfl rfl (one_of HT_.out (by kernel_rfl)) (by decide) (fun K hK => ?_)
        refine goes_ Try.func98 (by kernel_rfl) rfl #[.agg #[.slice A0_0 l0_0.length c0_0], .agg #[.int .i64 a0_1, .int .i64 a0_2, .int .i64 a0_3, .int .i64 a0_4]] (by rfl) rfl rfl (by (try simp only [List.map_toArray, List.map_cons, List.map_nil]); first | done | rfl | (simp only [List.length_drop, List.length_take]; rfl)) ?_
        with_reducible refine (spec_l2Bytes.calls k _ _ l0_0 a0_1 a0_2 a0_3 a0_4 t1234 _ ?side1 ?side2 A3.out).mono ?_
        (case side1 => repeat (first | exact (Kd.C_below HR0_0.out HB.out) | (with_reducible refine Kd.C_alloc ?_ _) | (with_reducible refine Kd.C_drewN ?_ _) | (with_reducible refine Kd.C_drew ?_)))
        (case side2 => exact HC0_0.out)
        rintro e w12 ⟨v1235, rfl, ho0, hb⟩
        refine ⟨_, rfl, ?_⟩
        have n0_ := Aside0.mk (Kd.R_lower ho0 (below_size (by repeat (first | (with_reducible first | exact HB.out | apply below_alloc | apply pw_below_drewN | apply below_drew1 | refine below_set ?_ GE1232.out | refine below_set ?_ GE1233.out) | exact HB.out))))
        have n1_ := Aside0.mk (blk_below (g := gb1232) (o := .cells #[.slice A0_0 l0_0.length c0_0, .int .i64 a0_1, .int .i64 a0_2, .int .i64 a0_3, .int .i64 a0_4, .int .i64 a0_5, .int .i64 a0_6] 53 (0, 0)) (by (with_reducible repeat (first | refine blk_drewN ?_ _ | refine blk_drew ?_ | refine blk_alloc ?_ _)); exact BK1232.out) hb)
        have n2_ := Aside0.mk (blk_below (g := gb1233) (o := .cells #[.slice none 0 0, .int .i64 0, .int .i64 0, .int .i64 0, .int .i64 0, .int .i64 0, .int .i64 0] 53 (0, 0)) (by (with_reducible repeat (first | refine blk_drewN ?_ _ | refine blk_drew ?_ | refine blk_alloc ?_ _)); exact BK1233.out) hb)
        have n3_ := Aside0.mk (below_step (by repeat (first | (with_reducible first | exact HB.out | apply below_alloc | apply pw_below_drewN | apply below_drew1 | refine below_set ?_ GE1232.out | refine below_set ?_ GE1233.out) | exact HB.out)) hb)
        clear BK1232
        clear BK1233
        clear HB
        have HO1236 := n0_
        have BK1232 := n1_
        have BK1233 := n2_
        have HB := n3_
        clear n0_ n1_ n2_ n3_
        (try clear hb)
        (try clear hb2)
        (try clear hk)
        (try clear hi)
        (try clear ho0)
        refine hK.out _ _ ⟨(blk_cell BK1232.out 0).trans rfl, (blk_cell BK1232.out 1).trans rfl, (blk_cell BK1232.out 2).trans rfl, (blk_cell BK1232.out 3).trans rfl, (blk_cell BK1232.out 4).trans rfl, (blk_cell BK1232.out 5).trans rfl, (blk_cell BK1232.out 6).trans rfl⟩ (fun hHeld => ?_)
        clear hK K
        refine norm_ (a' := ?_) ?_ ?_
        rotate_left
        · show Act.put _ (some 14) _ = _
          simp only [Act.put, List.setIfInBounds_toArray, List.set_cons_zero, List.set_cons_succ, i64_w, i32_w]
          rfl
        refine pure_ (i := 10) (N := some 6) (v := ?_) (a' := ?_) #[true, true, true, true, true, true, true, true, true, true, true, false] rfl rfl (any_of HT_.out (by kernel_rfl)) (fun _ _ _ h => h) (Or.inl ⟨by rfl, ?_⟩) ?_ ?_
        rotate_left
        · intro w'
          go_simp
          with_reducible rfl
        rotate_left
        · simp only [Act.put, List.setIfInBounds_toArray, List.set_cons_zero, List.set_cons_succ, i64_w, i32_w]
          rfl
        refine pure_ (i := 11) (N := some 7) (v := ?_) (a' := ?_) #[true, true, true, true, true, true, true, true, true, true, true, true] rfl rfl (any_of HT_.out (by kernel_rfl)) (fun _ _ _ h => h) (Or.inl ⟨by rfl, ?_⟩) ?_ ?_
        rotate_left
        · intro w'
          go_simp
          with_reducible rfl
        rotate_left
        · simp only [Act.put, List.setIfInBounds_toArray, List.set_cons_zero, List.set_cons_succ, i64_w, i32_w]
          rfl
        refine done_ (done_of HT_.out (by kernel_rfl)) ?_
        have hnb13 := NB1232_1233.out
        have hnc13 := NB1233_1232.out
        have hcz14_0 : w12.cell? ⟨gb1232, 0, none⟩ = some (.slice A0_0 l0_0.length c0_0) := (blk_cell BK1232.out 0).trans rfl
        have hcz14_1 : w12.cell? ⟨gb1232, 1, none⟩ = some (.int .i64 a0_1) := (blk_cell BK1232.out 1).trans rfl
        have hcz14_2 : w12.cell? ⟨gb1232, 2, none⟩ = some (.int .i64 a0_2) := (blk_cell BK1232.out 2).trans rfl
        have hcz14_3 : w12.cell? ⟨gb1232, 3, none⟩ = some (.int .i64 a0_3) := (blk_cell BK1232.out 3).trans rfl
        have hcz14_4 : w12.cell? ⟨gb1232, 4, none⟩ = some (.int .i64 a0_4) := (blk_cell BK1232.out 4).trans rfl
        have hcz14_5 : w12.cell? ⟨gb1232, 5, none⟩ = some (.int .i64 a0_5) := (blk_cell BK1232.out 5).trans rfl
        have hcz14_6 : w12.cell? ⟨gb1232, 6, none⟩ = some (.int .i64 a0_6) := (blk_cell BK1232.out 6).trans rfl
        have hfz14_0 := blk_frozen BK1232.out 0
        have hfz14_1 := blk_frozen BK1232.out 1
        have hfz14_2 := blk_frozen BK1232.out 2
        have hfz14_3 := blk_frozen BK1232.out 3
        have hfz14_4 := blk_frozen BK1232.out 4
        have hfz14_5 := blk_frozen BK1232.out 5
        have hfz14_6 := blk_frozen BK1232.out 6
        try go_wp2
        have n0_ := Aside0.mk (Kd.R_drew HO1236.out)
        have n1_ := Aside0.mk (blk_drew BK1232.out)
        have n2_ := Aside0.mk (blk_drew BK1233.out)
        have n3_ := Aside0.mk (below_drew1 HB.out)
        clear HO1236
        clear BK1232
        clear BK1233
        clear HB
        have HO1236 := n0_
        have BK1232 := n1_
        have BK1233 := n2_
        have HB := n3_
        clear n0_ n1_ n2_ n3_
        obtain ⟨Ao17, co17, eo17⟩ := Kd.R_slice HO1236.out
        (first | subst eo17 | (injection eo17 with f1_ f2_ f3_; have f4_ := f1_.symm; have f5_ := f3_.symm; clear f1_ f2_ f3_; subst f4_; subst f5_))
        have q16 : (a0_5 : Int) ≤ ((t1234.length : Int) : Int) := of_decide_eq_true (by first | (with_reducible assumption) | assumption)
        obtain ⟨i016, hi016, _, hsz16, _⟩ := info_parts info5
        have hroom16 : t1234.length ≤ co17 := (Kd.R_reads' HO1236.out).2.1
        have hC16 : Kd.C (Kd.int .u8) _ Ao17 t1234.length t1234 := (Kd.R_reads' HO1236.out).2.2
        have ql16 : (a1 : Int) ≤ (a0_5 : Int) := of_decide_eq_true (by first | (with_reducible assumption) | assumption)
        have q016 : (0 : Int) ≤ (a1 : Int) := of_decide_eq_true (by first | (with_reducible assumption) | assumption)
        have hcut16 := cut_mid (P := Try.prog) 29 5 .i64 .i64 Try.underlying29 hi016 1 hsz16 Ao17 t1234.length co17 a1 a0_5 q016 ql16 q16 hroom16
        have hr16 := Kd.C_mid (lo := (a1 : Int).toNat) (hi := (a0_5 : Int).toNat) (c := co17) hC16 (by omega) (by omega) hroom16
        obtain ⟨A16, hA16⟩ : ∃ A1, A1 = (if co17 = (a1 : Int).toNat then Ao17 else (Ao17 : Option Addr).map (·.add ((a1 : Int).toNat * 1))) := ⟨_, rfl⟩
        obtain ⟨c16, hc16⟩ : ∃ c1, c1 = co17 - (a1 : Int).toNat := ⟨_, rfl⟩
        have hy16 : y1237.length = (a0_5 : Int).toNat - (a1 : Int).toNat := (by rw [Ny1237.out, List.length_drop, List.length_take] <;> omega)
        rw [show ((t1234).take (a0_5 : Int).toNat).drop (a1 : Int).toNat = y1237 from Ny1237.out.symm] at hr16
        replace hr16 : Kd.C (Kd.int .u8) _ A16 y1237.length y1237 := (by rw [hA16]; exact hr16)
        rw [← hy16, ← hA16, ← hc16] at hcut16
        have HR1240 := Aside0.mk hr16
        have HC1240 := Aside0.mk (show y1237.length ≤ c16 from by rw [hy16, hc16]; exact Nat.sub_le_sub_right (Nat.le_trans (by omega) hroom16) _)
        clear hr16 hC16 hroom16 hi016 hsz16 hc16
        have KY16 := Aside0.mk hy16
        have KA16 := Aside0.mk hA16
        clear hy16 hA16
        have KL16 := Aside0.mk (show (a0_5 : Int).toNat ≤ t1234.length from by omega)
        have KM16 := Aside0.mk (show (a1 : Int).toNat ≤ (a0_5 : Int).toNat from by omega)
        replace q16 := eq_true q16
        refine start_ (n := 15) (S := fun w' => w'.cell? ⟨gb1232, 0, none⟩ = some (.slice A0_0 l0_0.length c0_0) ∧ w'.cell? ⟨gb1232, 1, none⟩ = some (.int .i64 a0_1) ∧ w'.cell? ⟨gb1232, 2, none⟩ = some (.int .i64 a0_2) ∧ w'.cell? ⟨gb1232, 3, none⟩ = some (.int .i64 a0_3) ∧ w'.cell? ⟨gb1232, 4, none⟩ = some (.int .i64 a0_4) ∧ w'.cell? ⟨gb1232, 5, none⟩ = some (.int .i64 a0_5) ∧ w'.cell? ⟨gb1232, 6, none⟩ = some (.int .i64 a0_6)) (ds := []) #[false, false, false, false, false, false, false, false, false, false, false, false, false, false, false] (by kernel_rfl) rfl rfl ⟨(blk_cell BK1232.out 0).trans rfl, (blk_cell BK1232.out 1).trans rfl, (blk_cell BK1232.out 2).trans rfl, (blk_cell BK1232.out 3).trans rfl, (blk_cell BK1232.out 4).trans rfl, (blk_cell BK1232.out 5).trans rfl, (blk_cell BK1232.out 6).trans rfl⟩ (fun hHeld => ?_); refine with_tabW spec_l6Move.tab3 spec_l6Move.bits3 (fun HT_ HW_ => ?_)
        generalize w12.drew = w15 at HO1236 BK1232 BK1233 HB HR1240 hHeld ⊢
        refine pure_ (i := 0) (N := some 24) (v := ?_) (a' := ?_) #[true, false, false, false, false, false, false, false, false, false, false, false, false, false, false] rfl rfl (any_of HT_.out (by kernel_rfl)) (fun _ _ _ h => h) (Or.inl ⟨by rfl, ?_⟩) ?_ ?_
        rotate_left
        · intro w'
          go_simp
          with_reducible rfl
        rotate_left
        · simp only [Act.put, List.setIfInBounds_toArray, List.set_cons_zero, List.set_cons_succ, i64_w, i32_w]
          rfl
        refine pure_ (i := 2) (N := some 26) (v := ?_) (a' := ?_) #[true, false, true, false, false, false, false, false, false, false, false, false, false, false, false] rfl rfl (any_of HT_.out (by kernel_rfl)) (fun _ _ _ h => h) (Or.inl ⟨by rfl, ?_⟩) ?_ ?_
        rotate_left
        · intro w'
          go_simp
          with_reducible rfl
        rotate_left
        · simp only [Act.put, List.setIfInBounds_toArray, List.set_cons_zero, List.set_cons_succ, i64_w, i32_w]
          rfl
        refine pure_ (i := 4) (N := some 28) (v := ?_) (a' := ?_) #[true, false, true, false, true, false, false, false, false, false, false, false, false, false, false] rfl rfl (any_of HT_.out (by kernel_rfl)) (fun _ _ _ h => h) (Or.inl ⟨by rfl, ?_⟩) ?_ ?_
        rotate_left
        · intro w'
          go_simp
          with_reducible rfl
        rotate_left
        · simp only [Act.put, List.setIfInBounds_toArray, List.set_cons_zero, List.set_cons_succ, i64_w, i32_w]
          rfl
        refine pure_ (i := 5) (N := some 29) (v := ?_) (a' := ?_) #[true, false, true, false, true, true, false, false, false, false, false, false, false, false, false] rfl rfl (any_of HT_.out (by kernel_rfl)) (fun _ _ _ h => h) (Or.inl ⟨by rfl, ?_⟩) ?_ ?_
        rotate_left
        · intro w'
          go_simp
          with_reducible rfl
        rotate_left
        · simp only [Act.put, List.setIfInBounds_toArray, List.set_cons_zero, List.set_cons_succ, i64_w, i32_w]
          rfl
        refine pure_ (i := 6) (N := some 30) (v := ?_) (a' := ?_) #[true, false, true, false, true, true, true, false, false, false, false, false, false, false, false] rfl rfl (any_of HT_.out (by kernel_rfl)) (fun _ _ _ h => h) (Or.inl ⟨by rfl, ?_⟩) ?_ ?_
        rotate_left
        · intro w'
          go_simp
          with_reducible rfl
        rotate_left
        · simp only [Act.put, List.setIfInBounds_toArray, List.set_cons_zero, List.set_cons_succ, i64_w, i32_w]
          rfl
        refine pure_ (i := 7) (N := some 31) (v := ?_) (a' := ?_) #[true, false, true, false, true, true, true, true, false, false, false, false, false, false, false] rfl rfl (any_of HT_.out (by kernel_rfl)) (fun _ _ _ h => h) (Or.inl ⟨by rfl, ?_⟩) ?_ ?_
        rotate_left
        · intro w'
          go_simp
          with_reducible rfl
        rotate_left
        · simp only [Act.put, List.setIfInBounds_toArray, List.set_cons_zero, List.set_cons_succ, i64_w, i32_w]
          rfl
        refine pure_ (i := 8) (N := some 32) (v := ?_) (a' := ?_) #[true, false, true, false, true, true, true, true, true, false, false, false, false, false, false] rfl rfl (any_of HT_.out (by kernel_rfl)) (fun _ _ _ h => h) (Or.inl ⟨by rfl, ?_⟩) ?_ ?_
        rotate_left
        · intro w'
          go_simp
          with_reducible rfl
        rotate_left
        · simp only [Act.put, List.setIfInBounds_toArray, List.set_cons_zero, List.set_cons_succ, i64_w, i32_w]
          rfl
        refine pure_ (i := 9) (N := some 33) (v := ?_) (a' := ?_) #[true, false, true, false, true, true, true, true, true, true, false, false, false, false, false] rfl rfl (any_of HT_.out (by kernel_rfl)) (fun _ _ _ h => h) (Or.inl ⟨by rfl, ?_⟩) ?_ ?_
        rotate_left
        · intro w'
          go_simp
          with_reducible rfl
        rotate_left
        · simp only [Act.put, List.setIfInBounds_toArray, List.set_cons_zero, List.set_cons_succ, i64_w, i32_w]
          rfl
        refine take_ (i := 1) (N := some 25) (v := ?_) (a' := ?_) #[true, true, true, false, true, true, true, true, true, true, false, false, false, false, false] rfl rfl (take_ofW HT_.out HW_.out (by kernel_rfl)) (fun _ _ _ h => h) (Or.inl ⟨by rfl, ?_⟩) hHeld ?_ ?_
        rotate_left
        · rintro w' ⟨s0, s1, s2, s3, s4, s5, s6⟩
          go_simp
          with_reducible rfl
        rotate_left
        · simp only [Act.put, List.setIfInBounds_toArray, List.set_cons_zero, List.set_cons_succ, i64_w, i32_w]
          rfl
        refine take_ (i := 3) (N := some 27) (v := ?_) (a' := ?_) #[true, true, true, true, true, true, true, true, true, true, false, false, false, false, false] rfl rfl (take_ofW HT_.out HW_.out (by kernel_rfl)) (fun _ _ _ h => h) (Or.inl ⟨by rfl, ?_⟩) hHeld ?_ ?_
        rotate_left
        · rintro w' ⟨s0, s1, s2, s3, s4, s5, s6⟩
          go_simp
          with_reducible rfl
        rotate_left
        · simp only [Act.put, List.setIfInBounds_toArray, List.set_cons_zero, List.set_cons_succ, i64_w, i32_w]
          rfl
        refine take_ (i := 10) (N := some 34) (v := ?_) (a' := ?_) #[true, true, true, true, true, true, true, true, true, true, true, false, false, false, false] rfl rfl (take_ofW HT_.out HW_.out (by kernel_rfl)) (fun _ _ _ h => h) (Or.inl ⟨by rfl, ?_⟩) hHeld ?_ ?_
        rotate_left
        · rintro w' ⟨s0, s1, s2, s3, s4, s5, s6⟩
          go_simp
          with_reducible rfl
        rotate_left
        · simp only [Act.put, List.setIfInBounds_toArray, List.set_cons_zero, List.set_cons_succ, i64_w, i32_w]
          rfl
        refine pure_ (i := 11) (N := some 35) (v := ?_) (a' := ?_) #[true, true, true, true, true, true, true, true, true, true, true, true, false, false, false] rfl rfl (any_of HT_.out (by kernel_rfl)) (fun _ _ _ h => h) (Or.inl ⟨by rfl, ?_⟩) ?_ ?_
        rotate_left
        · intro w'
          go_simp
          with_reducible rfl
        rotate_left
        · simp only [Act.put, List.setIfInBounds_toArray, List.set_cons_zero, List.set_cons_succ, i64_w, i32_w]
          rfl
        refine join_ (σ := Value × Nat) 1 #[true, true, true, true, true, true, true, true, true, true, true, true, true, true, false] (fun s_ => [(36, .agg #[s_.1]), (8, .pointer (some ⟨s_.2, 0, none⟩))]) (fun s_ w' => (w'.cell? ⟨gb1232, 0, none⟩ = some (.slice A0_0 l0_0.length c0_0) ∧ w'.cell? ⟨gb1232, 1, none⟩ = some (.int .i64 a0_1) ∧ w'.cell? ⟨gb1232, 2, none⟩ = some (.int .i64 a0_2) ∧ w'.cell? ⟨gb1232, 3, none⟩ = some (.int .i64 a0_3) ∧ w'.cell? ⟨gb1232, 4, none⟩ = some (.int .i64 a0_4) ∧ w'.cell? ⟨gb1232, 5, none⟩ = some (.int .i64 a0_5) ∧ w'.cell? ⟨gb1232, 6, none⟩ = some (.int .i64 a0_6)) ∧ (Kd.R (Kd.int .u8) 5 w' w.heap.size (fun _ => True) (.slice Ao17 t1234.length co17) t1234) ∧ (Kd.S (Kd.slice 5 (Kd.int .u8)) 29 w' w.heap.size (fun k_ => some k_ ≠ (.slice Ao17 t1234.length co17 : Value).ownBlock) s_.1 t1241) ∧ (w'.heap[gb1232]? = some (.cells #[.slice A0_0 l0_0.length c0_0, .int .i64 a0_1, .int .i64 a0_2, .int .i64 a0_3, .int .i64 a0_4, .int .i64 a0_5, .int .i64 a0_6] 53 (0, 0))) ∧ (w'.heap[gb1233]? = some (.cells #[.slice none 0 0, .int .i64 0, .int .i64 0, .int .i64 0, .int .i64 0, .int .i64 0, .int .i64 0] 53 (0, 0))) ∧ (w'.heap[s_.2]? = some (.cells #[.slice none 0 0] 31 (0, 0))) ∧ (w.heap.size ≤ s_.2) ∧ (w.heap.size ≤ s_.2) ∧ (gb1232 ≠ s_.2) ∧ (s_.2 ≠ gb1232) ∧ (gb1233 ≠ s_.2) ∧ (s_.2 ≠ gb1233) ∧ (Below w.heap.size w w')) ?_ ?_
        rotate_left
        · intro hCont
          refine two_ (i := 12) (j := 13) (Ni := some 36) (Nj := some 8) #[true, true, true, true, true, true, true, true, true, true, true, true, true, false, false] #[true, true, true, true, true, true, true, true, true, true, true, true, false, true, false] rfl rfl rfl rfl (two_of HT_.out (by kernel_rfl)) (by decide) (by decide) (fun K hK => ?_) (fun K hK => ?_)
          · skip
            refine goes_ Try.func100 (by kernel_rfl) rfl #[.agg #[.slice A0_0 l0_0.length c0_0], .agg #[.int .i64 a0_1, .int .i64 a0_2, .int .i64 a0_3, .int .i64 a0_4], .int .i64 (wrap64 (a1 + (wrap64 (a0_6 - a0_5)))), .slice A16 y1237.length c16] (by rfl) rfl rfl (by (try simp only [List.map_toArray, List.map_cons, List.map_nil]); first | done | rfl | (simp only [List.length_drop, List.length_take]; rfl)) ?_
            with_reducible refine (spec_l2Write.calls k _ _ l0_0 a0_1 a0_2 a0_3 a0_4 (wrap64 (a1 + (wrap64 (a0_6 - a0_5)))) _ _ y1237 t1241 _ ?side1 ?side2 ?side3 ?side4 A8.out).mono ?_
            (case side1 => repeat (first | exact (Kd.C_below HR0_0.out HB.out) | (with_reducible refine Kd.C_alloc ?_ _) | (with_reducible refine Kd.C_drewN ?_ _) | (with_reducible refine Kd.C_drew ?_)))
            (case side2 => exact HC0_0.out)
            (case side3 => repeat (first | exact (by repeat (first | (with_reducible exact HR1240.out) | (with_reducible refine Kd.C_alloc ?_ _) | (with_reducible refine Kd.C_drewN ?_ _) | (with_reducible refine Kd.C_drew ?_) | exact HR1240.out)) | (with_reducible refine Kd.C_alloc ?_ _) | (with_reducible refine Kd.C_drewN ?_ _) | (with_reducible refine Kd.C_drew ?_)))
            (case side4 => exact HC1240.out)
            rintro e w18 ⟨v1242, rfl, ho0, hb⟩
            refine ⟨_, rfl, ?_⟩
            have n0_ := Aside0.mk (Kd.R_below (by (with_reducible repeat (first | apply Kd.R_alloc | apply Kd.R_drewN | apply Kd.R_drew)); exact HO1236.out) hb)
            have n1_ := Aside0.mk (Kd.S_lower (Kd.S_new' ho0 (Kd.R_lt (by (with_reducible repeat (first | apply Kd.R_alloc | apply Kd.R_drewN | apply Kd.R_drew)); exact HO1236.out))) (below_size (by repeat (first | (with_reducible first | exact HB.out | apply below_alloc | apply pw_below_drewN | apply below_drew1 | refine below_set ?_ GE1232.out | refine below_set ?_ GE1233.out) | exact HB.out))))
            have n2_ := Aside0.mk (blk_below (g := gb1232) (o := .cells #[.slice A0_0 l0_0.length c0_0, .int .i64 a0_1, .int .i64 a0_2, .int .i64 a0_3, .int .i64 a0_4, .int .i64 a0_5, .int .i64 a0_6] 53 (0, 0)) (by (with_reducible repeat (first | refine blk_drewN ?_ _ | refine blk_drew ?_ | refine blk_alloc ?_ _)); exact BK1232.out) hb)
            have n3_ := Aside0.mk (blk_below (g := gb1233) (o := .cells #[.slice none 0 0, .int .i64 0, .int .i64 0, .int .i64 0, .int .i64 0, .int .i64 0, .int .i64 0] 53 (0, 0)) (by (with_reducible repeat (first | refine blk_drewN ?_ _ | refine blk_drew ?_ | refine blk_alloc ?_ _)); exact BK1233.out) hb)
            have n4_ := Aside0.mk (Kd.C_below (by repeat (first | (with_reducible exact HR1240.out) | (with_reducible refine Kd.C_alloc ?_ _) | (with_reducible refine Kd.C_drewN ?_ _) | (with_reducible refine Kd.C_drew ?_) | exact HR1240.out)) hb)
            have n5_ := Aside0.mk (below_step (by repeat (first | (with_reducible first | exact HB.out | apply below_alloc | apply pw_below_drewN | apply below_drew1 | refine below_set ?_ GE1232.out | refine below_set ?_ GE1233.out) | exact HB.out)) hb)
            clear HO1236
            clear BK1232
            clear BK1233
            clear HR1240
            clear HB
            have HO1236 := n0_
            have HO1243 := n1_
            have BK1232 := n2_
            have BK1233 := n3_
            have HR1240 := n4_
            have HB := n5_
            clear n0_ n1_ n2_ n3_ n4_ n5_
            (try clear hb)
            (try clear hb2)
            (try clear hk)
            (try clear hi)
            (try clear ho0)
            refine hK.out _ _ ⟨(blk_cell BK1232.out 0).trans rfl, (blk_cell BK1232.out 1).trans rfl, (blk_cell BK1232.out 2).trans rfl, (blk_cell BK1232.out 3).trans rfl, (blk_cell BK1232.out 4).trans rfl, (blk_cell BK1232.out 5).trans rfl, (blk_cell BK1232.out 6).trans rfl⟩ (fun hHeld => ?_)
            clear hK K
            refine norm_ (a' := ?_) ?_ ?_
            rotate_left
            · show Act.put _ (some 36) _ = _
              simp only [Act.put, List.setIfInBounds_toArray, List.set_cons_zero, List.set_cons_succ, i64_w, i32_w]
              rfl
            refine one_ (i := 13) (N := some 8) #[true, true, true, true, true, true, true, true, true, true, true, true, true, true, false] rfl rfl (one_of HT_.out (by kernel_rfl)) (by decide) (fun K hK => ?_)
            refine box_step ?hg (N := 8) ?hd (cs := #[.slice none 0 0]) (t := 31) ?hr ?_; (case hd => rfl); (case hg => rfl); (case hr => first | (go_simp; done) | (go_simp; rfl))
            intro gb1244 hg w19 hbox hb
            have n0_ := Aside0.mk (Kd.R_below (by (with_reducible repeat (first | apply Kd.R_alloc | apply Kd.R_drewN | apply Kd.R_drew)); exact HO1236.out) hb)
            have n1_ := Aside0.mk (Kd.S_below (by (with_reducible repeat (first | apply Kd.S_alloc | apply Kd.S_drewN | apply Kd.S_drew)); exact HO1243.out) hb)
            have n2_ := Aside0.mk (blk_below (g := gb1232) (o := .cells #[.slice A0_0 l0_0.length c0_0, .int .i64 a0_1, .int .i64 a0_2, .int .i64 a0_3, .int .i64 a0_4, .int .i64 a0_5, .int .i64 a0_6] 53 (0, 0)) (by (with_reducible repeat (first | refine blk_drewN ?_ _ | refine blk_drew ?_ | refine blk_alloc ?_ _)); exact BK1232.out) hb)
            have n3_ := Aside0.mk (blk_below (g := gb1233) (o := .cells #[.slice none 0 0, .int .i64 0, .int .i64 0, .int .i64 0, .int .i64 0, .int .i64 0, .int .i64 0] 53 (0, 0)) (by (with_reducible repeat (first | refine blk_drewN ?_ _ | refine blk_drew ?_ | refine blk_alloc ?_ _)); exact BK1233.out) hb)
            have n4_ := Aside0.mk (Kd.C_below (by repeat (first | (with_reducible exact HR1240.out) | (with_reducible refine Kd.C_alloc ?_ _) | (with_reducible refine Kd.C_drewN ?_ _) | (with_reducible refine Kd.C_drew ?_) | exact HR1240.out)) hb)
            have n5_ := Aside0.mk (below_step (by repeat (first | (with_reducible first | exact HB.out | apply below_alloc | apply pw_below_drewN | apply below_drew1 | refine below_set ?_ GE1232.out | refine below_set ?_ GE1233.out) | exact HB.out)) hb)
            have n6_ := Aside0.mk (hbox)
            have n7_ := Aside0.mk ((by rw [hg]; exact (below_size (by repeat (first | (with_reducible first | exact HB.out | apply below_alloc | apply pw_below_drewN | apply below_drew1 | refine below_set ?_ GE1232.out | refine below_set ?_ GE1233.out) | exact HB.out))) : w.heap.size ≤ gb1244))
            have n8_ := Aside0.mk ((by rw [hg]; exact (below_size (by repeat (first | (with_reducible first | exact HB.out | apply below_alloc | apply pw_below_drewN | apply below_drew1 | refine below_set ?_ GE1232.out | refine below_set ?_ GE1233.out) | exact HB.out))) : w.heap.size ≤ gb1244))
            have n9_ := Aside0.mk ((by rw [hg]; exact Nat.ne_of_lt (blk_lt (g := gb1232) (o := .cells #[.slice A0_0 l0_0.length c0_0, .int .i64 a0_1, .int .i64 a0_2, .int .i64 a0_3, .int .i64 a0_4, .int .i64 a0_5, .int .i64 a0_6] 53 (0, 0)) (by (with_reducible repeat (first | refine blk_drewN ?_ _ | refine blk_drew ?_ | refine blk_alloc ?_ _)); exact BK1232.out)) : gb1232 ≠ gb1244))
            have n10_ := Aside0.mk ((by rw [hg]; exact Nat.ne_of_gt (blk_lt (g := gb1232) (o := .cells #[.slice A0_0 l0_0.length c0_0, .int .i64 a0_1, .int .i64 a0_2, .int .i64 a0_3, .int .i64 a0_4, .int .i64 a0_5, .int .i64 a0_6] 53 (0, 0)) (by (with_reducible repeat (first | refine blk_drewN ?_ _ | refine blk_drew ?_ | refine blk_alloc ?_ _)); exact BK1232.out)) : gb1244 ≠ gb1232))
            have n11_ := Aside0.mk ((by rw [hg]; exact Nat.ne_of_lt (blk_lt (g := gb1233) (o := .cells #[.slice none 0 0, .int .i64 0, .int .i64 0, .int .i64 0, .int .i64 0, .int .i64 0, .int .i64 0] 53 (0, 0)) (by (with_reducible repeat (first | refine blk_drewN ?_ _ | refine blk_drew ?_ | refine blk_alloc ?_ _)); exact BK1233.out)) : gb1233 ≠ gb1244))
            have n12_ := Aside0.mk ((by rw [hg]; exact Nat.ne_of_gt (blk_lt (g := gb1233) (o := .cells #[.slice none 0 0, .int .i64 0, .int .i64 0, .int .i64 0, .int .i64 0, .int .i64 0, .int .i64 0] 53 (0, 0)) (by (with_reducible repeat (first | refine blk_drewN ?_ _ | refine blk_drew ?_ | refine blk_alloc ?_ _)); exact BK1233.out)) : gb1244 ≠ gb1233))
            clear HO1236
            clear HO1243
            clear BK1232
            clear BK1233
            clear HR1240
            clear HB
            have HO1236 := n0_
            have HO1243 := n1_
            have BK1232 := n2_
            have BK1233 := n3_
            have HR1240 := n4_
            have HB := n5_
            have BK1244 := n6_
            have GW1244 := n7_
            have GE1244 := n8_
            have NB1232_1244 := n9_
            have NB1244_1232 := n10_
            have NB1233_1244 := n11_
            have NB1244_1233 := n12_
            clear n0_ n1_ n2_ n3_ n4_ n5_ n6_ n7_ n8_ n9_ n10_ n11_ n12_
            clear hb hbox hg
            refine hK.out _ _ ⟨(blk_cell BK1232.out 0).trans rfl, (blk_cell BK1232.out 1).trans rfl, (blk_cell BK1232.out 2).trans rfl, (blk_cell BK1232.out 3).trans rfl, (blk_cell BK1232.out 4).trans rfl, (blk_cell BK1232.out 5).trans rfl, (blk_cell BK1232.out 6).trans rfl⟩ (fun hHeld => ?_)
            clear hK K
            refine norm_ (a' := ?_) ?_ ?_
            rotate_left
            · show Act.put _ (some 8) _ = _
              simp only [Act.put, List.setIfInBounds_toArray, List.set_cons_zero, List.set_cons_succ, i64_w, i32_w]
              rfl
            exact norm_ (by simp only [putAll, Act.put, List.setIfInBounds_toArray, List.set_cons_zero, List.set_cons_succ]) (hCont (v1242, gb1244) _ ⟨hHeld, (by (with_reducible repeat (first | apply Kd.R_alloc | apply Kd.R_drewN | apply Kd.R_drew)); exact HO1236.out), (by (with_reducible repeat (first | apply Kd.S_alloc | apply Kd.S_drewN | apply Kd.S_drew)); exact Kd.S_mono HO1243.out (fun _ hk => hk.2)), (by (with_reducible repeat (first | refine blk_drewN ?_ _ | refine blk_drew ?_ | refine blk_alloc ?_ _)); exact BK1232.out), (by (with_reducible repeat (first | refine blk_drewN ?_ _ | refine blk_drew ?_ | refine blk_alloc ?_ _)); exact BK1233.out), (by (with_reducible repeat (first | refine blk_drewN ?_ _ | refine blk_drew ?_ | refine blk_alloc ?_ _)); exact BK1244.out), GW1244.out, GE1244.out, NB1232_1244.out, NB1244_1232.out, NB1233_1244.out, NB1244_1233.out, (by repeat (first | (with_reducible first | exact HB.out | apply below_alloc | apply pw_below_drewN | apply below_drew1 | refine below_set ?_ GE1232.out | refine below_set ?_ GE1233.out | refine below_set ?_ GE1244.out) | exact HB.out))⟩)
          · skip
            refine box_step ?hg (N := 8) ?hd (cs := #[.slice none 0 0]) (t := 31) ?hr ?_; (case hd => rfl); (case hg => rfl); (case hr => first | (go_simp; done) | (go_simp; rfl))
            intro gb1244 hg w18 hbox hb
            have n0_ := Aside0.mk (Kd.R_below (by (with_reducible repeat (first | apply Kd.R_alloc | apply Kd.R_drewN | apply Kd.R_drew)); exact HO1236.out) hb)
            have n1_ := Aside0.mk (blk_below (g := gb1232) (o := .cells #[.slice A0_0 l0_0.length c0_0, .int .i64 a0_1, .int .i64 a0_2, .int .i64 a0_3, .int .i64 a0_4, .int .i64 a0_5, .int .i64 a0_6] 53 (0, 0)) (by (with_reducible repeat (first | refine blk_drewN ?_ _ | refine blk_drew ?_ | refine blk_alloc ?_ _)); exact BK1232.out) hb)
            have n2_ := Aside0.mk (blk_below (g := gb1233) (o := .cells #[.slice none 0 0, .int .i64 0, .int .i64 0, .int .i64 0, .int .i64 0, .int .i64 0, .int .i64 0] 53 (0, 0)) (by (with_reducible repeat (first | refine blk_drewN ?_ _ | refine blk_drew ?_ | refine blk_alloc ?_ _)); exact BK1233.out) hb)
            have n3_ := Aside0.mk (Kd.C_below (by repeat (first | (with_reducible exact HR1240.out) | (with_reducible refine Kd.C_alloc ?_ _) | (with_reducible refine Kd.C_drewN ?_ _) | (with_reducible refine Kd.C_drew ?_) | exact HR1240.out)) hb)
            have n4_ := Aside0.mk (below_step (by repeat (first | (with_reducible first | exact HB.out | apply below_alloc | apply pw_below_drewN | apply below_drew1 | refine below_set ?_ GE1232.out | refine below_set ?_ GE1233.out) | exact HB.out)) hb)
            have n5_ := Aside0.mk (hbox)
            have n6_ := Aside0.mk ((by rw [hg]; exact (below_size (by repeat (first | (with_reducible first | exact HB.out | apply below_alloc | apply pw_below_drewN | apply below_drew1 | refine below_set ?_ GE1232.out | refine below_set ?_ GE1233.out) | exact HB.out))) : w.heap.size ≤ gb1244))
            have n7_ := Aside0.mk ((by rw [hg]; exact (below_size (by repeat (first | (with_reducible first | exact HB.out | apply below_alloc | apply pw_below_drewN | apply below_drew1 | refine below_set ?_ GE1232.out | refine below_set ?_ GE1233.out) | exact HB.out))) : w.heap.size ≤ gb1244))
            have n8_ := Aside0.mk ((by rw [hg]; exact Nat.ne_of_lt (blk_lt (g := gb1232) (o := .cells #[.slice A0_0 l0_0.length c0_0, .int .i64 a0_1, .int .i64 a0_2, .int .i64 a0_3, .int .i64 a0_4, .int .i64 a0_5, .int .i64 a0_6] 53 (0, 0)) (by (with_reducible repeat (first | refine blk_drewN ?_ _ | refine blk_drew ?_ | refine blk_alloc ?_ _)); exact BK1232.out)) : gb1232 ≠ gb1244))
            have n9_ := Aside0.mk ((by rw [hg]; exact Nat.ne_of_gt (blk_lt (g := gb1232) (o := .cells #[.slice A0_0 l0_0.length c0_0, .int .i64 a0_1, .int .i64 a0_2, .int .i64 a0_3, .int .i64 a0_4, .int .i64 a0_5, .int .i64 a0_6] 53 (0, 0)) (by (with_reducible repeat (first | refine blk_drewN ?_ _ | refine blk_drew ?_ | refine blk_alloc ?_ _)); exact BK1232.out)) : gb1244 ≠ gb1232))
            have n10_ := Aside0.mk ((by rw [hg]; exact Nat.ne_of_lt (blk_lt (g := gb1233) (o := .cells #[.slice none 0 0, .int .i64 0, .int .i64 0, .int .i64 0, .int .i64 0, .int .i64 0, .int .i64 0] 53 (0, 0)) (by (with_reducible repeat (first | refine blk_drewN ?_ _ | refine blk_drew ?_ | refine blk_alloc ?_ _)); exact BK1233.out)) : gb1233 ≠ gb1244))
            have n11_ := Aside0.mk ((by rw [hg]; exact Nat.ne_of_gt (blk_lt (g := gb1233) (o := .cells #[.slice none 0 0, .int .i64 0, .int .i64 0, .int .i64 0, .int .i64 0, .int .i64 0, .int .i64 0] 53 (0, 0)) (by (with_reducible repeat (first | refine blk_drewN ?_ _ | refine blk_drew ?_ | refine blk_alloc ?_ _)); exact BK1233.out)) : gb1244 ≠ gb1233))
            clear HO1236
            clear BK1232
            clear BK1233
            clear HR1240
            clear HB
            have HO1236 := n0_
            have BK1232 := n1_
            have BK1233 := n2_
            have HR1240 := n3_
            have HB := n4_
            have BK1244 := n5_
            have GW1244 := n6_
            have GE1244 := n7_
            have NB1232_1244 := n8_
            have NB1244_1232 := n9_
            have NB1233_1244 := n10_
            have NB1244_1233 := n11_
            clear n0_ n1_ n2_ n3_ n4_ n5_ n6_ n7_ n8_ n9_ n10_ n11_
            clear hb hbox hg
            refine hK.out _ _ ⟨(blk_cell BK1232.out 0).trans rfl, (blk_cell BK1232.out 1).trans rfl, (blk_cell BK1232.out 2).trans rfl, (blk_cell BK1232.out 3).trans rfl, (blk_cell BK1232.out 4).trans rfl, (blk_cell BK1232.out 5).trans rfl, (blk_cell BK1232.out 6).trans rfl⟩ (fun hHeld => ?_)
            clear hK K
            refine norm_ (a' := ?_) ?_ ?_
            rotate_left
            · show Act.put _ (some 8) _ = _
              simp only [Act.put, List.setIfInBounds_toArray, List.set_cons_zero, List.set_cons_succ, i64_w, i32_w]
              rfl
            refine one_ (i := 12) (N := some 36) #[true, true, true, true, true, true, true, true, true, true, true, true, true, true, false] rfl rfl (one_of HT_.out (by kernel_rfl)) (by decide) (fun K hK => ?_)
            refine goes_ Try.func100 (by kernel_rfl) rfl #[.agg #[.slice A0_0 l0_0.length c0_0], .agg #[.int .i64 a0_1, .int .i64 a0_2, .int .i64 a0_3, .int .i64 a0_4], .int .i64 (wrap64 (a1 + (wrap64 (a0_6 - a0_5)))), .slice A16 y1237.length c16] (by rfl) rfl rfl (by (try simp only [List.map_toArray, List.map_cons, List.map_nil]); first | done | rfl | (simp only [List.length_drop, List.length_take]; rfl)) ?_
            with_reducible refine (spec_l2Write.calls k _ _ l0_0 a0_1 a0_2 a0_3 a0_4 (wrap64 (a1 + (wrap64 (a0_6 - a0_5)))) _ _ y1237 t1241 _ ?side1 ?side2 ?side3 ?side4 A8.out).mono ?_
            (case side1 => repeat (first | exact (Kd.C_below HR0_0.out HB.out) | (with_reducible refine Kd.C_alloc ?_ _) | (with_reducible refine Kd.C_drewN ?_ _) | (with_reducible refine Kd.C_drew ?_)))
            (case side2 => exact HC0_0.out)
            (case side3 => repeat (first | exact (by repeat (first | (with_reducible exact HR1240.out) | (with_reducible refine Kd.C_alloc ?_ _) | (with_reducible refine Kd.C_drewN ?_ _) | (with_reducible refine Kd.C_drew ?_) | exact HR1240.out)) | (with_reducible refine Kd.C_alloc ?_ _) | (with_reducible refine Kd.C_drewN ?_ _) | (with_reducible refine Kd.C_drew ?_)))
            (case side4 => exact HC1240.out)
            rintro e w19 ⟨v1242, rfl, ho0, hb⟩
            refine ⟨_, rfl, ?_⟩
            have n0_ := Aside0.mk (Kd.R_below (by (with_reducible repeat (first | apply Kd.R_alloc | apply Kd.R_drewN | apply Kd.R_drew)); exact HO1236.out) hb)
            have n1_ := Aside0.mk (Kd.S_lower (Kd.S_new' ho0 (Kd.R_lt (by (with_reducible repeat (first | apply Kd.R_alloc | apply Kd.R_drewN | apply Kd.R_drew)); exact HO1236.out))) (below_size (by repeat (first | (with_reducible first | exact HB.out | apply below_alloc | apply pw_below_drewN | apply below_drew1 | refine below_set ?_ GE1232.out | refine below_set ?_ GE1233.out | refine below_set ?_ GE1244.out) | exact HB.out))))
            have n2_ := Aside0.mk (blk_below (g := gb1232) (o := .cells #[.slice A0_0 l0_0.length c0_0, .int .i64 a0_1, .int .i64 a0_2, .int .i64 a0_3, .int .i64 a0_4, .int .i64 a0_5, .int .i64 a0_6] 53 (0, 0)) (by (with_reducible repeat (first | refine blk_drewN ?_ _ | refine blk_drew ?_ | refine blk_alloc ?_ _)); exact BK1232.out) hb)
            have n3_ := Aside0.mk (blk_below (g := gb1233) (o := .cells #[.slice none 0 0, .int .i64 0, .int .i64 0, .int .i64 0, .int .i64 0, .int .i64 0, .int .i64 0] 53 (0, 0)) (by (with_reducible repeat (first | refine blk_drewN ?_ _ | refine blk_drew ?_ | refine blk_alloc ?_ _)); exact BK1233.out) hb)
            have n4_ := Aside0.mk (Kd.C_below (by repeat (first | (with_reducible exact HR1240.out) | (with_reducible refine Kd.C_alloc ?_ _) | (with_reducible refine Kd.C_drewN ?_ _) | (with_reducible refine Kd.C_drew ?_) | exact HR1240.out)) hb)
            have n5_ := Aside0.mk (blk_below (g := gb1244) (o := .cells #[.slice none 0 0] 31 (0, 0)) (by (with_reducible repeat (first | refine blk_drewN ?_ _ | refine blk_drew ?_ | refine blk_alloc ?_ _)); exact BK1244.out) hb)
            have n6_ := Aside0.mk (below_step (by repeat (first | (with_reducible first | exact HB.out | apply below_alloc | apply pw_below_drewN | apply below_drew1 | refine below_set ?_ GE1232.out | refine below_set ?_ GE1233.out | refine below_set ?_ GE1244.out) | exact HB.out)) hb)
            clear HO1236
            clear BK1232
            clear BK1233
            clear HR1240
            clear BK1244
            clear HB
            have HO1236 := n0_
            have HO1243 := n1_
            have BK1232 := n2_
            have BK1233 := n3_
            have HR1240 := n4_
            have BK1244 := n5_
            have HB := n6_
            clear n0_ n1_ n2_ n3_ n4_ n5_ n6_
            (try clear hb)
            (try clear hb2)
            (try clear hk)
            (try clear hi)
            (try clear ho0)
            refine hK.out _ _ ⟨(blk_cell BK1232.out 0).trans rfl, (blk_cell BK1232.out 1).trans rfl, (blk_cell BK1232.out 2).trans rfl, (blk_cell BK1232.out 3).trans rfl, (blk_cell BK1232.out 4).trans rfl, (blk_cell BK1232.out 5).trans rfl, (blk_cell BK1232.out 6).trans rfl⟩ (fun hHeld => ?_)
            clear hK K
            refine norm_ (a' := ?_) ?_ ?_
            rotate_left
            · show Act.put _ (some 36) _ = _
              simp only [Act.put, List.setIfInBounds_toArray, List.set_cons_zero, List.set_cons_succ, i64_w, i32_w]
              rfl
            exact norm_ (by simp only [putAll, Act.put, List.setIfInBounds_toArray, List.set_cons_zero, List.set_cons_succ]) (hCont (v1242, gb1244) _ ⟨hHeld, (by (with_reducible repeat (first | apply Kd.R_alloc | apply Kd.R_drewN | apply Kd.R_drew)); exact HO1236.out), (by (with_reducible repeat (first | apply Kd.S_alloc | apply Kd.S_drewN | apply Kd.S_drew)); exact Kd.S_mono HO1243.out (fun _ hk => hk.2)), (by (with_reducible repeat (first | refine blk_drewN ?_ _ | refine blk_drew ?_ | refine blk_alloc ?_ _)); exact BK1232.out), (by (with_reducible repeat (first | refine blk_drewN ?_ _ | refine blk_drew ?_ | refine blk_alloc ?_ _)); exact BK1233.out), (by (with_reducible repeat (first | refine blk_drewN ?_ _ | refine blk_drew ?_ | refine blk_alloc ?_ _)); exact BK1244.out), GW1244.out, GE1244.out, NB1232_1244.out, NB1244_1232.out, NB1233_1244.out, NB1244_1233.out, (by repeat (first | (with_reducible first | exact HB.out | apply below_alloc | apply pw_below_drewN | apply below_drew1 | refine below_set ?_ GE1232.out | refine below_set ?_ GE1233.out | refine below_set ?_ GE1244.out) | exact HB.out))⟩)
        rintro ⟨v1242, gb1244⟩ w20 ⟨hS_, h0_, h1_, h2_, h3_, h4_, h5_, h6_, h7_, h8_, h9_, h10_, h11_⟩
        have n0_ : Aside0 (Kd.R (Kd.int .u8) 5 w20 w.heap.size (fun _ => True) (.slice Ao17 t1234.length co17) t1234) := ⟨h0_⟩
        have n1_ : Aside0 (Kd.S (Kd.slice 5 (Kd.int .u8)) 29 w20 w.heap.size (fun k_ => some k_ ≠ (.slice Ao17 t1234.length co17 : Value).ownBlock) v1242 t1241) := ⟨h1_⟩
        have n2_ : Aside0 (w20.heap[gb1232]? = some (.cells #[.slice A0_0 l0_0.length c0_0, .int .i64 a0_1, .int .i64 a0_2, .int .i64 a0_3, .int .i64 a0_4, .int .i64 a0_5, .int .i64 a0_6] 53 (0, 0))) := ⟨h2_⟩
        have n3_ : Aside0 (w20.heap[gb1233]? = some (.cells #[.slice none 0 0, .int .i64 0, .int .i64 0, .int .i64 0, .int .i64 0, .int .i64 0, .int .i64 0] 53 (0, 0))) := ⟨h3_⟩
        have n4_ : Aside0 (w20.heap[gb1244]? = some (.cells #[.slice none 0 0] 31 (0, 0))) := ⟨h4_⟩
        have n5_ : Aside0 (w.heap.size ≤ gb1244) := ⟨h5_⟩
        have n6_ : Aside0 (w.heap.size ≤ gb1244) := ⟨h6_⟩
        have n7_ : Aside0 (gb1232 ≠ gb1244) := ⟨h7_⟩
        have n8_ : Aside0 (gb1244 ≠ gb1232) := ⟨h8_⟩
        have n9_ : Aside0 (gb1233 ≠ gb1244) := ⟨h9_⟩
        have n10_ : Aside0 (gb1244 ≠ gb1233) := ⟨h10_⟩
        have n11_ : Aside0 (Below w.heap.size w w20) := ⟨h11_⟩
        clear HO1236
        clear BK1232
        clear BK1233
        clear HB
        clear h0_ h1_ h2_ h3_ h4_ h5_ h6_ h7_ h8_ h9_ h10_ h11_
        have HO1236 := n0_
        have HO1243 := n1_
        have BK1232 := n2_
        have BK1233 := n3_
        have BK1244 := n4_
        have GW1244 := n5_
        have GE1244 := n6_
        have NB1232_1244 := n7_
        have NB1244_1232 := n8_
        have NB1233_1244 := n9_
        have NB1244_1233 := n10_
        have HB := n11_
        clear n0_ n1_ n2_ n3_ n4_ n5_ n6_ n7_ n8_ n9_ n10_ n11_
        have hHeld : w20.cell? ⟨gb1232, 0, none⟩ = some (.slice A0_0 l0_0.length c0_0) ∧ w20.cell? ⟨gb1232, 1, none⟩ = some (.int .i64 a0_1) ∧ w20.cell? ⟨gb1232, 2, none⟩ = some (.int .i64 a0_2) ∧ w20.cell? ⟨gb1232, 3, none⟩ = some (.int .i64 a0_3) ∧ w20.cell? ⟨gb1232, 4, none⟩ = some (.int .i64 a0_4) ∧ w20.cell? ⟨gb1232, 5, none⟩ = some (.int .i64 a0_5) ∧ w20.cell? ⟨gb1232, 6, none⟩ = some (.int .i64 a0_6) := hS_
        obtain ⟨Ao21, co21, eo21⟩ := Kd.S_slice HO1243.out
        (first | subst eo21 | (injection eo21 with f1_ f2_ f3_; have f4_ := f1_.symm; have f5_ := f3_.symm; clear f1_ f2_ f3_; subst f4_; subst f5_))
        refine norm_ (a' := ?_) ?_ ?_
        rotate_left
        · simp only [putAll, Act.put, List.setIfInBounds_toArray, List.set_cons_zero, List.set_cons_succ]
          rfl
        refine one_ (i := 14) (N := none) #[true, true, true, true, true, true, true, true, true, true, true, true, true, true, true] rfl rfl (one_of HT_.out (by kernel_rfl)) (by decide) (fun K hK => ?_)
        have hs22 : w20.cell? ⟨gb1244, 0, none⟩ = some (.slice none 0 0) := (blk_cell BK1244.out 0).trans rfl
        have hfs22 := blk_frozen BK1244.out 0
        have hns22_0 := NB1232_1244.out
        have hns22_1 := NB1233_1244.out
        have hms22_0 := NB1244_1232.out
        have hms22_1 := NB1244_1233.out
        refine skip_ (w1 := ?_) (by rfl) rfl ?_ ?_
        rotate_left
        · go_simp
          rfl
        refine hK.out _ _ ⟨((cell_far (p := ⟨gb1244, _, none⟩) NB1232_1244.out _).trans (hHeld.1)), ((cell_far (p := ⟨gb1244, _, none⟩) NB1232_1244.out _).trans (hHeld.2.1)), ((cell_far (p := ⟨gb1244, _, none⟩) NB1232_1244.out _).trans (hHeld.2.2.1)), ((cell_far (p := ⟨gb1244, _, none⟩) NB1232_1244.out _).trans (hHeld.2.2.2.1)), ((cell_far (p := ⟨gb1244, _, none⟩) NB1232_1244.out _).trans (hHeld.2.2.2.2.1)), ((cell_far (p := ⟨gb1244, _, none⟩) NB1232_1244.out _).trans (hHeld.2.2.2.2.2.1)), ((cell_far (p := ⟨gb1244, _, none⟩) NB1232_1244.out _).trans (hHeld.2.2.2.2.2.2))⟩ (fun hHeld => ?_)
        clear hK K
        refine done_ (done_of HT_.out (by kernel_rfl)) ?_
        try go_wp2
        have n0_ : Aside0 (Kd.R (Kd.int .u8) 5 (w20.setCell ⟨gb1244, 0, none⟩ (.slice Ao21 t1241.length co21)) w.heap.size (fun _ => True) (.slice Ao17 t1234.length co17) t1234) := ⟨by (with_reducible repeat (first | apply Kd.R_alloc | apply Kd.R_drewN | apply Kd.R_drew)); exact Kd.R_mono (Kd.R_far (p := ⟨gb1244, 0, none⟩) (Kd.R_types HO1236.out BK1244.out (by decide)) (fun _ hk => hk.2) (.slice Ao21 t1241.length co21)) (fun _ hk => trivial)⟩
        have n1_ : Aside0 (Kd.S (Kd.slice 5 (Kd.int .u8)) 29 (w20.setCell ⟨gb1244, 0, none⟩ (.slice Ao21 t1241.length co21)) w.heap.size (fun k_ => some k_ ≠ (.slice Ao17 t1234.length co17 : Value).ownBlock) (.slice Ao21 t1241.length co21) t1241) := ⟨by (with_reducible repeat (first | apply Kd.S_alloc | apply Kd.S_drewN | apply Kd.S_drew)); exact Kd.S_mono (Kd.S_far (p := ⟨gb1244, 0, none⟩) (Kd.S_types HO1243.out BK1244.out (by decide)) (fun _ hk => hk.2) (.slice Ao21 t1241.length co21)) (fun _ hk => hk.1)⟩
        have n2_ : Aside0 ((w20.setCell ⟨gb1244, 0, none⟩ (.slice Ao21 t1241.length co21)).heap[gb1232]? = some (.cells #[.slice A0_0 l0_0.length c0_0, .int .i64 a0_1, .int .i64 a0_2, .int .i64 a0_3, .int .i64 a0_4, .int .i64 a0_5, .int .i64 a0_6] 53 (0, 0))) := ⟨by (with_reducible repeat (first | refine blk_drewN ?_ _ | refine blk_drew ?_ | refine blk_alloc ?_ _)); refine blk_far ?_ NB1232_1244.out _; (with_reducible repeat (first | refine blk_drewN ?_ _ | refine blk_drew ?_ | refine blk_alloc ?_ _)); exact BK1232.out⟩
        have n3_ : Aside0 ((w20.setCell ⟨gb1244, 0, none⟩ (.slice Ao21 t1241.length co21)).heap[gb1233]? = some (.cells #[.slice none 0 0, .int .i64 0, .int .i64 0, .int .i64 0, .int .i64 0, .int .i64 0, .int .i64 0] 53 (0, 0))) := ⟨by (with_reducible repeat (first | refine blk_drewN ?_ _ | refine blk_drew ?_ | refine blk_alloc ?_ _)); refine blk_far ?_ NB1233_1244.out _; (with_reducible repeat (first | refine blk_drewN ?_ _ | refine blk_drew ?_ | refine blk_alloc ?_ _)); exact BK1233.out⟩
        have n4_ : Aside0 ((w20.setCell ⟨gb1244, 0, none⟩ (.slice Ao21 t1241.length co21)).heap[gb1244]? = some (.cells #[.slice Ao21 t1241.length co21] 31 (0, 0))) := ⟨by (with_reducible repeat (first | refine blk_drewN ?_ _ | refine blk_drew ?_ | refine blk_alloc ?_ _)); refine blk_put (cs := #[.slice none 0 0]) ?_ 0 _ rfl; (with_reducible repeat (first | refine blk_drewN ?_ _ | refine blk_drew ?_ | refine blk_alloc ?_ _)); exact BK1244.out⟩
        have n5_ : Aside0 (Below w.heap.size w (w20.setCell ⟨gb1244, 0, none⟩ (.slice Ao21 t1241.length co21))) := ⟨by repeat (first | (with_reducible first | exact HB.out | apply below_alloc | apply pw_below_drewN | apply below_drew1 | refine below_set ?_ GE1232.out | refine below_set ?_ GE1233.out | refine below_set ?_ GE1244.out) | exact HB.out)⟩
        (try clear HO1236)
        (try clear HO1243)
        (try clear BK1232)
        (try clear BK1233)
        (try clear BK1244)
        (try clear HB)
        generalize (w20.setCell ⟨gb1244, 0, none⟩ (.slice Ao21 t1241.length co21)) = w23 at n0_ n1_ n2_ n3_ n4_ n5_ ⊢
        have HO1236 := n0_
        have HO1243 := n1_
        have BK1232 := n2_
        have BK1233 := n3_
        have BK1244 := n4_
        have HB := n5_
        clear n0_ n1_ n2_ n3_ n4_ n5_
        have n0_ := Aside0.mk (Kd.R_drew HO1236.out)
        have n1_ := Aside0.mk (Kd.S_drew HO1243.out)
        have n2_ := Aside0.mk (blk_drew BK1232.out)
        have n3_ := Aside0.mk (blk_drew BK1233.out)
        have n4_ := Aside0.mk (blk_drew BK1244.out)
        have n5_ := Aside0.mk (below_drew1 HB.out)
        clear HO1236
        clear HO1243
        clear BK1232
        clear BK1233
        clear BK1244
        clear HB
        have HO1236 := n0_
        have HO1243 := n1_
        have BK1232 := n2_
        have BK1233 := n3_
        have BK1244 := n4_
        have HB := n5_
        clear n0_ n1_ n2_ n3_ n4_ n5_
        refine start_ (n := 14) (S := fun w' => w'.cell? ⟨gb1244, 0, none⟩ = some (.slice Ao21 t1241.length co21) ∧ w'.cell? ⟨gb1232, 0, none⟩ = some (.slice A0_0 l0_0.length c0_0) ∧ w'.cell? ⟨gb1232, 1, none⟩ = some (.int .i64 a0_1) ∧ w'.cell? ⟨gb1232, 2, none⟩ = some (.int .i64 a0_2) ∧ w'.cell? ⟨gb1232, 3, none⟩ = some (.int .i64 a0_3) ∧ w'.cell? ⟨gb1232, 4, none⟩ = some (.int .i64 a0_4) ∧ w'.cell? ⟨gb1232, 5, none⟩ = some (.int .i64 a0_5) ∧ w'.cell? ⟨gb1232, 6, none⟩ = some (.int .i64 a0_6)) (ds := []) #[false, false, false, false, false, false, false, false, false, false, false, false, false, false] (by kernel_rfl) rfl rfl ⟨(blk_cell BK1244.out 0).trans rfl, (blk_cell BK1232.out 0).trans rfl, (blk_cell BK1232.out 1).trans rfl, (blk_cell BK1232.out 2).trans rfl, (blk_cell BK1232.out 3).trans rfl, (blk_cell BK1232.out 4).trans rfl, (blk_cell BK1232.out 5).trans rfl, (blk_cell BK1232.out 6).trans rfl⟩ (fun hHeld => ?_); refine with_tabW spec_l6Move.tab4 spec_l6Move.bits4 (fun HT_ HW_ => ?_)
        generalize w23.drew = w24 at HO1236 HO1243 BK1232 BK1233 BK1244 HB hHeld ⊢
        refine pure_ (i := 1) (N := some 38) (v := ?_) (a' := ?_) #[false, true, false, false, false, false, false, false, false, false, false, false, false, false] rfl rfl (any_of HT_.out (by kernel_rfl)) (fun _ _ _ h => h) (Or.inl ⟨by rfl, ?_⟩) ?_ ?_
        rotate_left
        · intro w'
          go_simp
          with_reducible rfl
        rotate_left
        · simp only [Act.put, List.setIfInBounds_toArray, List.set_cons_zero, List.set_cons_succ, i64_w, i32_w]
          rfl
        refine pure_ (i := 3) (N := some 40) (v := ?_) (a' := ?_) #[false, true, false, true, false, false, false, false, false, false, false, false, false, false] rfl rfl (any_of HT_.out (by kernel_rfl)) (fun _ _ _ h => h) (Or.inl ⟨by rfl, ?_⟩) ?_ ?_
        rotate_left
        · intro w'
          go_simp
          with_reducible rfl
        rotate_left
        · simp only [Act.put, List.setIfInBounds_toArray, List.set_cons_zero, List.set_cons_succ, i64_w, i32_w]
          rfl
        refine pure_ (i := 4) (N := some 41) (v := ?_) (a' := ?_) #[false, true, false, true, true, false, false, false, false, false, false, false, false, false] rfl rfl (any_of HT_.out (by kernel_rfl)) (fun _ _ _ h => h) (Or.inl ⟨by rfl, ?_⟩) ?_ ?_
        rotate_left
        · intro w'
          go_simp
          with_reducible rfl
        rotate_left
        · simp only [Act.put, List.setIfInBounds_toArray, List.set_cons_zero, List.set_cons_succ, i64_w, i32_w]
          rfl
        refine pure_ (i := 5) (N := some 42) (v := ?_) (a' := ?_) #[false, true, false, true, true, true, false, false, false, false, false, false, false, false] rfl rfl (any_of HT_.out (by kernel_rfl)) (fun _ _ _ h => h) (Or.inl ⟨by rfl, ?_⟩) ?_ ?_
        rotate_left
        · intro w'
          go_simp
          with_reducible rfl
        rotate_left
        · simp only [Act.put, List.setIfInBounds_toArray, List.set_cons_zero, List.set_cons_succ, i64_w, i32_w]
          rfl
        refine pure_ (i := 6) (N := some 43) (v := ?_) (a' := ?_) #[false, true, false, true, true, true, true, false, false, false, false, false, false, false] rfl rfl (any_of HT_.out (by kernel_rfl)) (fun _ _ _ h => h) (Or.inl ⟨by rfl, ?_⟩) ?_ ?_
        rotate_left
        · intro w'
          go_simp
          with_reducible rfl
        rotate_left
        · simp only [Act.put, List.setIfInBounds_toArray, List.set_cons_zero, List.set_cons_succ, i64_w, i32_w]
          rfl
        refine pure_ (i := 8) (N := some 45) (v := ?_) (a' := ?_) #[false, true, false, true, true, true, true, false, true, false, false, false, false, false] rfl rfl (any_of HT_.out (by kernel_rfl)) (fun _ _ _ h => h) (Or.inl ⟨by rfl, ?_⟩) ?_ ?_
        rotate_left
        · intro w'
          go_simp
          with_reducible rfl
        rotate_left
        · simp only [Act.put, List.setIfInBounds_toArray, List.set_cons_zero, List.set_cons_succ, i64_w, i32_w]
          rfl
        refine pure_ (i := 10) (N := some 47) (v := ?_) (a' := ?_) #[false, true, false, true, true, true, true, false, true, false, true, false, false, false] rfl rfl (any_of HT_.out (by kernel_rfl)) (fun _ _ _ h => h) (Or.inl ⟨by rfl, ?_⟩) ?_ ?_
        rotate_left
        · intro w'
          go_simp
          with_reducible rfl
        rotate_left
        · simp only [Act.put, List.setIfInBounds_toArray, List.set_cons_zero, List.set_cons_succ, i64_w, i32_w]
          rfl
        refine take_ (i := 0) (N := some 37) (v := ?_) (a' := ?_) #[true, true, false, true, true, true, true, false, true, false, true, false, false, false] rfl rfl (take_ofW HT_.out HW_.out (by kernel_rfl)) (fun _ _ _ h => h) (Or.inl ⟨by rfl, ?_⟩) hHeld ?_ ?_
        rotate_left
        · rintro w' ⟨s0, s1, s2, s3, s4, s5, s6, s7⟩
          go_simp
          with_reducible rfl
        rotate_left
        · simp only [Act.put, List.setIfInBounds_toArray, List.set_cons_zero, List.set_cons_succ, i64_w, i32_w]
          rfl
        refine take_ (i := 2) (N := some 39) (v := ?_) (a' := ?_) #[true, true, true, true, true, true, true, false, true, false, true, false, false, false] rfl rfl (take_ofW HT_.out HW_.out (by kernel_rfl)) (fun _ _ _ h => h) (Or.inl ⟨by rfl, ?_⟩) hHeld ?_ ?_
        rotate_left
        · rintro w' ⟨s0, s1, s2, s3, s4, s5, s6, s7⟩
          go_simp
          with_reducible rfl
        rotate_left
        · simp only [Act.put, List.setIfInBounds_toArray, List.set_cons_zero, List.set_cons_succ, i64_w, i32_w]
          rfl
        refine pure_ (i := 7) (N := some 44) (v := ?_) (a' := ?_) #[true, true, true, true, true, true, true, true, true, false, true, false, false, false] rfl rfl (any_of HT_.out (by kernel_rfl)) (fun _ _ _ h => h) (Or.inl ⟨by rfl, ?_⟩) ?_ ?_
        rotate_left
        · intro w'
          go_simp
          with_reducible rfl
        rotate_left
        · simp only [Act.put, List.setIfInBounds_toArray, List.set_cons_zero, List.set_cons_succ, i64_w, i32_w]
          rfl
        refine take_ (i := 9) (N := some 46) (v := ?_) (a' := ?_) #[true, true, true, true, true, true, true, true, true, true, true, false, false, false] rfl rfl (take_ofW HT_.out HW_.out (by kernel_rfl)) (fun _ _ _ h => h) (Or.inl ⟨by rfl, ?_⟩) hHeld ?_ ?_
        rotate_left
        · rintro w' ⟨s0, s1, s2, s3, s4, s5, s6, s7⟩
          go_simp
          with_reducible rfl
        rotate_left
        · simp only [Act.put, List.setIfInBounds_toArray, List.set_cons_zero, List.set_cons_succ, i64_w, i32_w]
          rfl
        refine pure_ (i := 11) (N := some 48) (v := ?_) (a' := ?_) #[true, true, true, true, true, true, true, true, true, true, true, true, false, false] rfl rfl (any_of HT_.out (by kernel_rfl)) (fun _ _ _ h => h) (Or.inl ⟨by rfl, ?_⟩) ?_ ?_
        rotate_left
        · intro w'
          go_simp
          with_reducible rfl
        rotate_left
        · simp only [Act.put, List.setIfInBounds_toArray, List.set_cons_zero, List.set_cons_succ, i64_w, i32_w]
          rfl
        refine one_ (i := 12) (N := none) #[true, true, true, true, true, true, true, true, true, true, true, true, true, false] rfl rfl (one_of HT_.out (by kernel_rfl)) (by decide) (fun K hK => ?_)
        have hs25 : w24.cell? ⟨gb1233, 0, none⟩ = some (.slice none 0 0) := (blk_cell BK1233.out 0).trans rfl
        have hfs25 := blk_frozen BK1233.out 0
        have hns25_0 := NB1232_1233.out
        have hns25_2 := NB1244_1233.out
        have hms25_0 := NB1233_1232.out
        have hms25_2 := NB1233_1244.out
        have hs26 : w24.cell? ⟨gb1233, 1, none⟩ = some (.int .i64 0) := (blk_cell BK1233.out 1).trans rfl
        have hfs26 := blk_frozen BK1233.out 1
        have hns26_0 := NB1232_1233.out
        have hns26_2 := NB1244_1233.out
        have hms26_0 := NB1233_1232.out
        have hms26_2 := NB1233_1244.out
        have hs27 : w24.cell? ⟨gb1233, 2, none⟩ = some (.int .i64 0) := (blk_cell BK1233.out 2).trans rfl
        have hfs27 := blk_frozen BK1233.out 2
        have hns27_0 := NB1232_1233.out
        have hns27_2 := NB1244_1233.out
        have hms27_0 := NB1233_1232.out
        have hms27_2 := NB1233_1244.out
        have hs28 : w24.cell? ⟨gb1233, 3, none⟩ = some (.int .i64 0) := (blk_cell BK1233.out 3).trans rfl
        have hfs28 := blk_frozen BK1233.out 3
        have hns28_0 := NB1232_1233.out
        have hns28_2 := NB1244_1233.out
        have hms28_0 := NB1233_1232.out
        have hms28_2 := NB1233_1244.out
        have hs29 : w24.cell? ⟨gb1233, 4, none⟩ = some (.int .i64 0) := (blk_cell BK1233.out 4).trans rfl
        have hfs29 := blk_frozen BK1233.out 4
        have hns29_0 := NB1232_1233.out
        have hns29_2 := NB1244_1233.out
        have hms29_0 := NB1233_1232.out
        have hms29_2 := NB1233_1244.out
        have hs30 : w24.cell? ⟨gb1233, 5, none⟩ = some (.int .i64 0) := (blk_cell BK1233.out 5).trans rfl
        have hfs30 := blk_frozen BK1233.out 5
        have hns30_0 := NB1232_1233.out
        have hns30_2 := NB1244_1233.out
        have hms30_0 := NB1233_1232.out
        have hms30_2 := NB1233_1244.out
        have hs31 : w24.cell? ⟨gb1233, 6, none⟩ = some (.int .i64 0) := (blk_cell BK1233.out 6).trans rfl
        have hfs31 := blk_frozen BK1233.out 6
        have hns31_0 := NB1232_1233.out
        have hns31_2 := NB1244_1233.out
        have hms31_0 := NB1233_1232.out
        have hms31_2 := NB1233_1244.out
        refine skip_ (w1 := ?_) (by rfl) rfl ?_ ?_
        rotate_left
        · go_simp
          rfl
        refine hK.out _ _ ⟨((cell_far (p := ⟨gb1233, _, none⟩) NB1244_1233.out _).trans (((cell_far (p := ⟨gb1233, _, none⟩) NB1244_1233.out _).trans (((cell_far (p := ⟨gb1233, _, none⟩) NB1244_1233.out _).trans (((cell_far (p := ⟨gb1233, _, none⟩) NB1244_1233.out _).trans (((cell_far (p := ⟨gb1233, _, none⟩) NB1244_1233.out _).trans (((cell_far (p := ⟨gb1233, _, none⟩) NB1244_1233.out _).trans (((cell_far (p := ⟨gb1233, _, none⟩) NB1244_1233.out _).trans (hHeld.1)))))))))))))), ((cell_far (p := ⟨gb1233, _, none⟩) NB1232_1233.out _).trans (((cell_far (p := ⟨gb1233, _, none⟩) NB1232_1233.out _).trans (((cell_far (p := ⟨gb1233, _, none⟩) NB1232_1233.out _).trans (((cell_far (p := ⟨gb1233, _, none⟩) NB1232_1233.out _).trans (((cell_far (p := ⟨gb1233, _, none⟩) NB1232_1233.out _).trans (((cell_far (p := ⟨gb1233, _, none⟩) NB1232_1233.out _).trans (((cell_far (p := ⟨gb1233, _, none⟩) NB1232_1233.out _).trans (hHeld.2.1)))))))))))))), ((cell_far (p := ⟨gb1233, _, none⟩) NB1232_1233.out _).trans (((cell_far (p := ⟨gb1233, _, none⟩) NB1232_1233.out _).trans (((cell_far (p := ⟨gb1233, _, none⟩) NB1232_1233.out _).trans (((cell_far (p := ⟨gb1233, _, none⟩) NB1232_1233.out _).trans (((cell_far (p := ⟨gb1233, _, none⟩) NB1232_1233.out _).trans (((cell_far (p := ⟨gb1233, _, none⟩) NB1232_1233.out _).trans (((cell_far (p := ⟨gb1233, _, none⟩) NB1232_1233.out _).trans (hHeld.2.2.1)))))))))))))), ((cell_far (p := ⟨gb1233, _, none⟩) NB1232_1233.out _).trans (((cell_far (p := ⟨gb1233, _, none⟩) NB1232_1233.out _).trans (((cell_far (p := ⟨gb1233, _, none⟩) NB1232_1233.out _).trans (((cell_far (p := ⟨gb1233, _, none⟩) NB1232_1233.out _).trans (((cell_far (p := ⟨gb1233, _, none⟩) NB1232_1233.out _).trans (((cell_far (p := ⟨gb1233, _, none⟩) NB1232_1233.out _).trans (((cell_far (p := ⟨gb1233, _, none⟩) NB1232_1233.out _).trans (hHeld.2.2.2.1)))))))))))))), ((cell_far (p := ⟨gb1233, _, none⟩) NB1232_1233.out _).trans (((cell_far (p := ⟨gb1233, _, none⟩) NB1232_1233.out _).trans (((cell_far (p := ⟨gb1233, _, none⟩) NB1232_1233.out _).trans (((cell_far (p := ⟨gb1233, _, none⟩) NB1232_1233.out _).trans (((cell_far (p := ⟨gb1233, _, none⟩) NB1232_1233.out _).trans (((cell_far (p := ⟨gb1233, _, none⟩) NB1232_1233.out _).trans (((cell_far (p := ⟨gb1233, _, none⟩) NB1232_1233.out _).trans (hHeld.2.2.2.2.1)))))))))))))), ((cell_far (p := ⟨gb1233, _, none⟩) NB1232_1233.out _).trans (((cell_far (p := ⟨gb1233, _, none⟩) NB1232_1233.out _).trans (((cell_far (p := ⟨gb1233, _, none⟩) NB1232_1233.out _).trans (((cell_far (p := ⟨gb1233, _, none⟩) NB1232_1233.out _).trans (((cell_far (p := ⟨gb1233, _, none⟩) NB1232_1233.out _).trans (((cell_far (p := ⟨gb1233, _, none⟩) NB1232_1233.out _).trans (((cell_far (p := ⟨gb1233, _, none⟩) NB1232_1233.out _).trans (hHeld.2.2.2.2.2.1)))))))))))))), ((cell_far (p := ⟨gb1233, _, none⟩) NB1232_1233.out _).trans (((cell_far (p := ⟨gb1233, _, none⟩) NB1232_1233.out _).trans (((cell_far (p := ⟨gb1233, _, none⟩) NB1232_1233.out _).trans (((cell_far (p := ⟨gb1233, _, none⟩) NB1232_1233.out _).trans (((cell_far (p := ⟨gb1233, _, none⟩) NB1232_1233.out _).trans (((cell_far (p := ⟨gb1233, _, none⟩) NB1232_1233.out _).trans (((cell_far (p := ⟨gb1233, _, none⟩) NB1232_1233.out _).trans (hHeld.2.2.2.2.2.2.1)))))))))))))), ((cell_far (p := ⟨gb1233, _, none⟩) NB1232_1233.out _).trans (((cell_far (p := ⟨gb1233, _, none⟩) NB1232_1233.out _).trans (((cell_far (p := ⟨gb1233, _, none⟩) NB1232_1233.out _).trans (((cell_far (p := ⟨gb1233, _, none⟩) NB1232_1233.out _).trans (((cell_far (p := ⟨gb1233, _, none⟩) NB1232_1233.out _).trans (((cell_far (p := ⟨gb1233, _, none⟩) NB1232_1233.out _).trans (((cell_far (p := ⟨gb1233, _, none⟩) NB1232_1233.out _).trans (hHeld.2.2.2.2.2.2.2))))))))))))))⟩ (fun hHeld => ?_)
        clear hK K
        refine pure_ (i := 13) (N := some 5) (v := ?_) (a' := ?_) #[true, true, true, true, true, true, true, true, true, true, true, true, true, true] rfl rfl (any_of HT_.out (by kernel_rfl)) (fun _ _ _ h => h) (Or.inl ⟨by rfl, ?_⟩) ?_ ?_
        rotate_left
        · intro w'
          go_simp
          with_reducible rfl
        rotate_left
        · simp only [Act.put, List.setIfInBounds_toArray, List.set_cons_zero, List.set_cons_succ, i64_w, i32_w]
          rfl
        refine done_ (done_of HT_.out (by kernel_rfl)) ?_
        try go_wp2
        refine bodyPost_ret (results_ct rfl _ _ gb1233 53 #[.slice Ao21 t1241.length co21, .int .i64 a0_1, .int .i64 a0_2, .int .i64 a0_3, .int .i64 a0_4, .int .i64 a1, .int .i64 (wrap64 (a1 + (wrap64 (a0_6 - a0_5))))] (0, 0) _ rfl (by (with_reducible repeat (first | refine blk_drewN ?_ _ | refine blk_drew ?_ | refine blk_alloc ?_ _)); refine blk_put (cs := #[.slice Ao21 t1241.length co21, .int .i64 a0_1, .int .i64 a0_2, .int .i64 a0_3, .int .i64 a0_4, .int .i64 a1, .int .i64 0]) ?_ 6 _ rfl; (with_reducible repeat (first | refine blk_drewN ?_ _ | refine blk_drew ?_ | refine blk_alloc ?_ _)); refine blk_put (cs := #[.slice Ao21 t1241.length co21, .int .i64 a0_1, .int .i64 a0_2, .int .i64 a0_3, .int .i64 a0_4, .int .i64 0, .int .i64 0]) ?_ 5 _ rfl; (with_reducible repeat (first | refine blk_drewN ?_ _ | refine blk_drew ?_ | refine blk_alloc ?_ _)); refine blk_put (cs := #[.slice Ao21 t1241.length co21, .int .i64 a0_1, .int .i64 a0_2, .int .i64 a0_3, .int .i64 0, .int .i64 0, .int .i64 0]) ?_ 4 _ rfl; (with_reducible repeat (first | refine blk_drewN ?_ _ | refine blk_drew ?_ | refine blk_alloc ?_ _)); refine blk_put (cs := #[.slice Ao21 t1241.length co21, .int .i64 a0_1, .int .i64 a0_2, .int .i64 0, .int .i64 0, .int .i64 0, .int .i64 0]) ?_ 3 _ rfl; (with_reducible repeat (first | refine blk_drewN ?_ _ | refine blk_drew ?_ | refine blk_alloc ?_ _)); refine blk_put (cs := #[.slice Ao21 t1241.length co21, .int .i64 a0_1, .int .i64 0, .int .i64 0, .int .i64 0, .int .i64 0, .int .i64 0]) ?_ 2 _ rfl; (with_reducible repeat (first | refine blk_drewN ?_ _ | refine blk_drew ?_ | refine blk_alloc ?_ _)); refine blk_put (cs := #[.slice Ao21 t1241.length co21, .int .i64 0, .int .i64 0, .int .i64 0, .int .i64 0, .int .i64 0, .int .i64 0]) ?_ 1 _ rfl; (with_reducible repeat (first | refine blk_drewN ?_ _ | refine blk_drew ?_ | refine blk_alloc ?_ _)); refine blk_put (cs := #[.slice none 0 0, .int .i64 0, .int .i64 0, .int .i64 0, .int .i64 0, .int .i64 0, .int .i64 0]) ?_ 0 _ rfl; (with_reducible repeat (first | refine blk_drewN ?_ _ | refine blk_drew ?_ | refine blk_alloc ?_ _)); exact BK1233.out) Try.underlying53 rfl (by kernel_rfl)) rfl ?_
        exact ⟨_, by first | rfl | (simp [errW_none, errW_some] <;> rfl) | (simp [*, errW_none, errW_some] <;> rfl), by (with_reducible repeat (first | apply Kd.S_alloc | apply Kd.S_drewN | apply Kd.S_drew)); exact Kd.S_mono (Kd.S_far (p := ⟨gb1233, 6, none⟩) (Kd.S_far (p := ⟨gb1233, 5, none⟩) (Kd.S_far (p := ⟨gb1233, 4, none⟩) (Kd.S_far (p := ⟨gb1233, 3, none⟩) (Kd.S_far (p := ⟨gb1233, 2, none⟩) (Kd.S_far (p := ⟨gb1233, 1, none⟩) (Kd.S_far (p := ⟨gb1233, 0, none⟩) (Kd.S_types HO1243.out BK1233.out (by decide)) (fun _ hk => hk.2) (.slice Ao21 t1241.length co21)) (fun _ hk => hk.2) (.int .i64 a0_1)) (fun _ hk => hk.2) (.int .i64 a0_2)) (fun _ hk => hk.2) (.int .i64 a0_3)) (fun _ hk => hk.2) (.int .i64 a0_4)) (fun _ hk => hk.2) (.int .i64 a1)) (fun _ hk => hk.2) (.int .i64 (wrap64 (a1 + (wrap64 (a0_6 - a0_5)))))) (fun _ hk => trivial), by repeat (first | (with_reducible first | exact HB.out | apply below_alloc | apply pw_below_drewN | apply below_drew1 | refine below_set ?_ GE1232.out | refine below_set ?_ GE1233.out | refine below_set ?_ GE1244.out) | exact HB.out)⟩
      · rw [if_neg c7] at H
        exact absurd H (by simp)
    · rw [if_neg c5] at H
      exact absurd H (by simp)
  · rw [if_neg c4] at H
    have c4b0 : decide (a1 ≤ a0_5) = false := decide_eq_false c4
    clear c4
    by_cases c32 : 0 ≤ a0_6
    · rw [if_pos c32] at H
      have c32b0 := eq_true c32
      have c32b1 : decide (0 ≤ a0_6) = true := decide_eq_true c32
      clear c32
      by_cases c33 : a0_6 ≤ (wrap64 (a1 + (wrap64 (a0_6 - a0_5))))
      · rw [if_pos c33] at H
        have c33b0 := eq_true c33
        have c33b1 : decide (a0_6 ≤ (wrap64 (a1 + (wrap64 (a0_6 - a0_5))))) = true := decide_eq_true c33
        by_cases c34 : (wrap64 (a1 + (wrap64 (a0_6 - a0_5)))) ≤ (t1234.length : Int)
        · rw [if_pos c34] at H
          have c34b0 := eq_true c34
          have c34b1 : decide ((wrap64 (a1 + (wrap64 (a0_6 - a0_5)))) ≤ (t1234.length : Int)) = true := decide_eq_true c34
          obtain ⟨y1245, hy1245⟩ : ∃ y_ : List Int, y_ = ((t1234.take ((wrap64 (a1 + (wrap64 (a0_6 - a0_5)))) : Int).toNat).drop (a0_6 : Int).toNat) := ⟨_, rfl⟩
          replace H : ((spec_l2Write.f k l0_0 a0_1 a0_2 a0_3 a0_4 a0_5 y1245).bind fun t1249 => (some (t1249, a0_1, a0_2, a0_3, a0_4, a1, wrap64 (a1 + (wrap64 (a0_6 - a0_5))), wrap64 (a1 - a0_5)))) = some (r1, r2, r3, r4, r5, r6, r7, r8) := by first | (rw [hy1245]; with_reducible exact H) | (have H2_ := (Option.bind_some _ _).symm.trans H; rw [hy1245]; with_reducible exact H2_) | (have H2_ := (Option.bind_some _ _).symm.trans H; with_reducible exact H2_) | with_reducible exact H | (rw [hy1245]; exact H) | exact H
          have Ny1245 := Aside0.mk hy1245
          clear hy1245
          replace H := Option.bind_eq_some_iff.mp H
          obtain ⟨t1249, A350, H⟩ := H
          replace H : (some (t1249, a0_1, a0_2, a0_3, a0_4, a1, wrap64 (a1 + (wrap64 (a0_6 - a0_5))), wrap64 (a1 - a0_5))) = some (r1, r2, r3, r4, r5, r6, r7, r8) := H
          have A35 := Aside0.mk A350
          clear A350
          simp only [Option.some.injEq, Prod.mk.injEq] at H
          obtain ⟨rfl, rfl, rfl, rfl, rfl, rfl, rfl, rfl⟩ := H
          go_enter Try.func104, Try.ntmps104
          try go_wp2_with (first | ((with_reducible refine gate_dst (N := 2) rfl ?_); refine box_event ?hg (N := 2) ?hd (cs := #[.slice A0_0 l0_0.length c0_0, .int .i64 a0_1, .int .i64 a0_2, .int .i64 a0_3, .int .i64 a0_4, .int .i64 a0_5, .int .i64 a0_6]) (t := 53) ?hr ?_; (case hd => rfl); (case hg => rfl); (case hr => first | (go_simp; done) | (go_simp; rfl)); intro gb1232 hg w36 hbox hb; have n0_ := Aside0.mk (below_step (by repeat (first | (with_reducible first | exact HB.out | apply below_alloc | apply pw_below_drewN | apply below_drew1) | exact HB.out)) hb); have n1_ := Aside0.mk (hbox); have n2_ := Aside0.mk ((by rw [hg]; exact (below_size (by repeat (first | (with_reducible first | exact HB.out | apply below_alloc | apply pw_below_drewN | apply below_drew1) | exact HB.out))) : w.heap.size ≤ gb1232)); have n3_ := Aside0.mk ((by rw [hg]; exact (below_size (by repeat (first | (with_reducible first | exact HB.out | apply below_alloc | apply pw_below_drewN | apply below_drew1) | exact HB.out))) : w.heap.size ≤ gb1232)); clear HB; have HB := n0_; have BK1232 := n1_; have GW1232 := n2_; have GE1232 := n3_; clear n0_ n1_ n2_ n3_; clear hb hbox hg) | ((with_reducible refine gate_dst (N := 4) rfl ?_); refine box_event ?hg (N := 4) ?hd (cs := #[.slice none 0 0, .int .i64 0, .int .i64 0, .int .i64 0, .int .i64 0, .int .i64 0, .int .i64 0]) (t := 53) ?hr ?_; (case hd => rfl); (case hg => rfl); (case hr => first | (go_simp; done) | (go_simp; rfl)); intro gb1233 hg w37 hbox hb; have n0_ := Aside0.mk (blk_below (g := gb1232) (o := .cells #[.slice A0_0 l0_0.length c0_0, .int .i64 a0_1, .int .i64 a0_2, .int .i64 a0_3, .int .i64 a0_4, .int .i64 a0_5, .int .i64 a0_6] 53 (0, 0)) (by (with_reducible repeat (first | refine blk_drewN ?_ _ | refine blk_drew ?_ | refine blk_alloc ?_ _)); exact BK1232.out) hb); have n1_ := Aside0.mk (below_step (by repeat (first | (with_reducible first | exact HB.out | apply below_alloc | apply pw_below_drewN | apply below_drew1 | refine below_set ?_ GE1232.out) | exact HB.out)) hb); have n2_ := Aside0.mk (hbox); have n3_ := Aside0.mk ((by rw [hg]; exact (below_size (by repeat (first | (with_reducible first | exact HB.out | apply below_alloc | apply pw_below_drewN | apply below_drew1 | refine below_set ?_ GE1232.out) | exact HB.out))) : w.heap.size ≤ gb1233)); have n4_ := Aside0.mk ((by rw [hg]; exact (below_size (by repeat (first | (with_reducible first | exact HB.out | apply below_alloc | apply pw_below_drewN | apply below_drew1 | refine below_set ?_ GE1232.out) | exact HB.out))) : w.heap.size ≤ gb1233)); have n5_ := Aside0.mk ((by rw [hg]; exact Nat.ne_of_lt (blk_lt (g := gb1232) (o := .cells #[.slice A0_0 l0_0.length c0_0, .int .i64 a0_1, .int .i64 a0_2, .int .i64 a0_3, .int .i64 a0_4, .int .i64 a0_5, .int .i64 a0_6] 53 (0, 0)) (by (with_reducible repeat (first | refine blk_drewN ?_ _ | refine blk_drew ?_ | refine blk_alloc ?_ _)); exact BK1232.out)) : gb1232 ≠ gb1233)); have n6_ := Aside0.mk ((by rw [hg]; exact Nat.ne_of_gt (blk_lt (g := gb1232) (o := .cells #[.slice A0_0 l0_0.length c0_0, .int .i64 a0_1, .int .i64 a0_2, .int .i64 a0_3, .int .i64 a0_4, .int .i64 a0_5, .int .i64 a0_6] 53 (0, 0)) (by (with_reducible repeat (first | refine blk_drewN ?_ _ | refine blk_drew ?_ | refine blk_alloc ?_ _)); exact BK1232.out)) : gb1233 ≠ gb1232)); clear BK1232; clear HB; have BK1232 := n0_; have HB := n1_; have BK1233 := n2_; have GW1233 := n3_; have GE1233 := n4_; have NB1232_1233 := n5_; have NB1233_1232 := n6_; clear n0_ n1_ n2_ n3_ n4_ n5_ n6_; clear hb hbox hg))
          have n0_ := Aside0.mk (blk_drew BK1232.out)
          have n1_ := Aside0.mk (blk_drew BK1233.out)
          have n2_ := Aside0.mk (below_drew1 HB.out)
          clear BK1232
          clear BK1233
          clear HB
          have BK1232 := n0_
          have BK1233 := n1_
          have HB := n2_
          clear n0_ n1_ n2_
          refine start_ (n := 12) (S := fun w' => w'.cell? ⟨gb1232, 0, none⟩ = some (.slice A0_0 l0_0.length c0_0) ∧ w'.cell? ⟨gb1232, 1, none⟩ = some (.int .i64 a0_1) ∧ w'.cell? ⟨gb1232, 2, none⟩ = some (.int .i64 a0_2) ∧ w'.cell? ⟨gb1232, 3, none⟩ = some (.int .i64 a0_3) ∧ w'.cell? ⟨gb1232, 4, none⟩ = some (.int .i64 a0_4) ∧ w'.cell? ⟨gb1232, 5, none⟩ = some (.int .i64 a0_5) ∧ w'.cell? ⟨gb1232, 6, none⟩ = some (.int .i64 a0_6)) (ds := []) #[false, false, false, false, false, false, false, false, false, false, false, false] (by kernel_rfl) rfl rfl ⟨(blk_cell BK1232.out 0).trans rfl, (blk_cell BK1232.out 1).trans rfl, (blk_cell BK1232.out 2).trans rfl, (blk_cell BK1232.out 3).trans rfl, (blk_cell BK1232.out 4).trans rfl, (blk_cell BK1232.out 5).trans rfl, (blk_cell BK1232.out 6).trans rfl⟩ (fun hHeld => ?_); refine with_tabW spec_l6Move.tab1 spec_l6Move.bits1 (fun HT_ HW_ => ?_)
          generalize w37.drew = w38 at BK1232 BK1233 HB hHeld ⊢
          refine pure_ (i := 0) (N := some 10) (v := ?_) (a' := ?_) #[true, false, false, false, false, false, false, false, false, false, false, false] rfl rfl (any_of HT_.out (by kernel_rfl)) (fun _ _ _ h => h) (Or.inl ⟨by rfl, ?_⟩) ?_ ?_
          rotate_left
          · intro w'
            go_simp
            with_reducible rfl
          rotate_left
          · simp only [Act.put, List.setIfInBounds_toArray, List.set_cons_zero, List.set_cons_succ, i64_w, i32_w]
            rfl
          refine pure_ (i := 2) (N := some 12) (v := ?_) (a' := ?_) #[true, false, true, false, false, false, false, false, false, false, false, false] rfl rfl (any_of HT_.out (by kernel_rfl)) (fun _ _ _ h => h) (Or.inl ⟨by rfl, ?_⟩) ?_ ?_
          rotate_left
          · intro w'
            go_simp
            with_reducible rfl
          rotate_left
          · simp only [Act.put, List.setIfInBounds_toArray, List.set_cons_zero, List.set_cons_succ, i64_w, i32_w]
            rfl
          refine pure_ (i := 5) (N := some 15) (v := ?_) (a' := ?_) #[true, false, true, false, false, true, false, false, false, false, false, false] rfl rfl (any_of HT_.out (by kernel_rfl)) (fun _ _ _ h => h) (Or.inl ⟨by rfl, ?_⟩) ?_ ?_
          rotate_left
          · intro w'
            go_simp
            with_reducible rfl
          rotate_left
          · simp only [Act.put, List.setIfInBounds_toArray, List.set_cons_zero, List.set_cons_succ, i64_w, i32_w]
            rfl
          refine pure_ (i := 7) (N := some 17) (v := ?_) (a' := ?_) #[true, false, true, false, false, true, false, true, false, false, false, false] rfl rfl (any_of HT_.out (by kernel_rfl)) (fun _ _ _ h => h) (Or.inl ⟨by rfl, ?_⟩) ?_ ?_
          rotate_left
          · intro w'
            go_simp
            with_reducible rfl
          rotate_left
          · simp only [Act.put, List.setIfInBounds_toArray, List.set_cons_zero, List.set_cons_succ, i64_w, i32_w]
            rfl
          refine take_ (i := 1) (N := some 11) (v := ?_) (a' := ?_) #[true, true, true, false, false, true, false, true, false, false, false, false] rfl rfl (take_ofW HT_.out HW_.out (by kernel_rfl)) (fun _ _ _ h => h) (Or.inl ⟨by rfl, ?_⟩) hHeld ?_ ?_
          rotate_left
          · rintro w' ⟨s0, s1, s2, s3, s4, s5, s6⟩
            go_simp
            with_reducible rfl
          rotate_left
          · simp only [Act.put, List.setIfInBounds_toArray, List.set_cons_zero, List.set_cons_succ, i64_w, i32_w]
            rfl
          refine take_ (i := 3) (N := some 13) (v := ?_) (a' := ?_) #[true, true, true, true, false, true, false, true, false, false, false, false] rfl rfl (take_ofW HT_.out HW_.out (by kernel_rfl)) (fun _ _ _ h => h) (Or.inl ⟨by rfl, ?_⟩) hHeld ?_ ?_
          rotate_left
          · rintro w' ⟨s0, s1, s2, s3, s4, s5, s6⟩
            go_simp
            with_reducible rfl
          rotate_left
          · simp only [Act.put, List.setIfInBounds_toArray, List.set_cons_zero, List.set_cons_succ, i64_w, i32_w]
            rfl
          refine take_ (i := 6) (N := some 16) (v := ?_) (a' := ?_) #[true, true, true, true, false, true, true, true, false, false, false, false] rfl rfl (take_ofW HT_.out HW_.out (by kernel_rfl)) (fun _ _ _ h => h) (Or.inl ⟨by rfl, ?_⟩) hHeld ?_ ?_
          rotate_left
          · rintro w' ⟨s0, s1, s2, s3, s4, s5, s6⟩
            go_simp
            with_reducible rfl
          rotate_left
          · simp only [Act.put, List.setIfInBounds_toArray, List.set_cons_zero, List.set_cons_succ, i64_w, i32_w]
            rfl
          refine take_ (i := 8) (N := some 18) (v := ?_) (a' := ?_) #[true, true, true, true, false, true, true, true, true, false, false, false] rfl rfl (take_ofW HT_.out HW_.out (by kernel_rfl)) (fun _ _ _ h => h) (Or.inl ⟨by rfl, ?_⟩) hHeld ?_ ?_
          rotate_left
          · rintro w' ⟨s0, s1, s2, s3, s4, s5, s6⟩
            go_simp
            with_reducible rfl
          rotate_left
          · simp only [Act.put, List.setIfInBounds_toArray, List.set_cons_zero, List.set_cons_succ, i64_w, i32_w]
            rfl
          refine pure_ (i := 9) (N := some 19) (v := ?_) (a' := ?_) #[true, true, true, true, false, true, true, true, true, true, false, false] rfl rfl (any_of HT_.out (by kernel_rfl)) (fun _ _ _ h => h) (Or.inl ⟨by rfl, ?_⟩) ?_ ?_
          rotate_left
          · intro w'
            go_simp
            with_reducible rfl
          rotate_left
          · simp only [Act.put, List.setIfInBounds_toArray, List.set_cons_zero, List.set_cons_succ, i64_w, i32_w]
            rfl
          refine one_ (i := 4) (N := some 14) #[true, true, true, true, true, true, true, true, true, true, false, false] rfl rfl (one_of HT_.out (by kernel_rfl)) (by decide) (fun K hK => ?_)
          refine goes_ Try.func98 (by kernel_rfl) rfl #[.agg #[.slice A0_0 l0_0.length c0_0], .agg #[.int .i64 a0_1, .int .i64 a0_2, .int .i64 a0_3, .int .i64 a0_4]] (by rfl) rfl rfl (by (try simp only [List.map_toArray, List.map_cons, List.map_nil]); first | done | rfl | (simp only [List.length_drop, List.length_take]; rfl)) ?_
          with_reducible refine (spec_l2Bytes.calls k _ _ l0_0 a0_1 a0_2 a0_3 a0_4 t1234 _ ?side1 ?side2 A3.out).mono ?_
          (case side1 => repeat (first | exact (Kd.C_below HR0_0.out HB.out) | (with_reducible refine Kd.C_alloc ?_ _) | (with_reducible refine Kd.C_drewN ?_ _) | (with_reducible refine Kd.C_drew ?_)))
          (case side2 => exact HC0_0.out)
          rintro e w39 ⟨v1235, rfl, ho0, hb⟩
          refine ⟨_, rfl, ?_⟩
          have n0_ := Aside0.mk (Kd.R_lower ho0 (below_size (by repeat (first | (with_reducible first | exact HB.out | apply below_alloc | apply pw_below_drewN | apply below_drew1 | refine below_set ?_ GE1232.out | refine below_set ?_ GE1233.out) | exact HB.out))))
          have n1_ := Aside0.mk (blk_below (g := gb1232) (o := .cells #[.slice A0_0 l0_0.length c0_0, .int .i64 a0_1, .int .i64 a0_2, .int .i64 a0_3, .int .i64 a0_4, .int .i64 a0_5, .int .i64 a0_6] 53 (0, 0)) (by (with_reducible repeat (first | refine blk_drewN ?_ _ | refine blk_drew ?_ | refine blk_alloc ?_ _)); exact BK1232.out) hb)
          have n2_ := Aside0.mk (blk_below (g := gb1233) (o := .cells #[.slice none 0 0, .int .i64 0, .int .i64 0, .int .i64 0, .int .i64 0, .int .i64 0, .int .i64 0] 53 (0, 0)) (by (with_reducible repeat (first | refine blk_drewN ?_ _ | refine blk_drew ?_ | refine blk_alloc ?_ _)); exact BK1233.out) hb)
          have n3_ := Aside0.mk (below_step (by repeat (first | (with_reducible first | exact HB.out | apply below_alloc | apply pw_below_drewN | apply below_drew1 | refine below_set ?_ GE1232.out | refine below_set ?_ GE1233.out) | exact HB.out)) hb)
          clear BK1232
          clear BK1233
          clear HB
          have HO1236 := n0_
          have BK1232 := n1_
          have BK1233 := n2_
          have HB := n3_
          clear n0_ n1_ n2_ n3_
          (try clear hb)
          (try clear hb2)
          (try clear hk)
          (try clear hi)
          (try clear ho0)
          refine hK.out _ _ ⟨(blk_cell BK1232.out 0).trans rfl, (blk_cell BK1232.out 1).trans rfl, (blk_cell BK1232.out 2).trans rfl, (blk_cell BK1232.out 3).trans rfl, (blk_cell BK1232.out 4).trans rfl, (blk_cell BK1232.out 5).trans rfl, (blk_cell BK1232.out 6).trans rfl⟩ (fun hHeld => ?_)
          clear hK K
          refine norm_ (a' := ?_) ?_ ?_
          rotate_left
          · show Act.put _ (some 14) _ = _
            simp only [Act.put, List.setIfInBounds_toArray, List.set_cons_zero, List.set_cons_succ, i64_w, i32_w]
            rfl
          refine pure_ (i := 10) (N := some 6) (v := ?_) (a' := ?_) #[true, true, true, true, true, true, true, true, true, true, true, false] rfl rfl (any_of HT_.out (by kernel_rfl)) (fun _ _ _ h => h) (Or.inl ⟨by rfl, ?_⟩) ?_ ?_
          rotate_left
          · intro w'
            go_simp
            with_reducible rfl
          rotate_left
          · simp only [Act.put, List.setIfInBounds_toArray, List.set_cons_zero, List.set_cons_succ, i64_w, i32_w]
            rfl
          refine pure_ (i := 11) (N := some 7) (v := ?_) (a' := ?_) #[true, true, true, true, true, true, true, true, true, true, true, true] rfl rfl (any_of HT_.out (by kernel_rfl)) (fun _ _ _ h => h) (Or.inl ⟨by rfl, ?_⟩) ?_ ?_
          rotate_left
          · intro w'
            go_simp
            with_reducible rfl
          rotate_left
          · simp only [Act.put, List.setIfInBounds_toArray, List.set_cons_zero, List.set_cons_succ, i64_w, i32_w]
            rfl
          refine done_ (done_of HT_.out (by kernel_rfl)) ?_
          have hnb40 := NB1232_1233.out
          have hnc40 := NB1233_1232.out
          have hcz41_0 : w39.cell? ⟨gb1232, 0, none⟩ = some (.slice A0_0 l0_0.length c0_0) := (blk_cell BK1232.out 0).trans rfl
          have hcz41_1 : w39.cell? ⟨gb1232, 1, none⟩ = some (.int .i64 a0_1) := (blk_cell BK1232.out 1).trans rfl
          have hcz41_2 : w39.cell? ⟨gb1232, 2, none⟩ = some (.int .i64 a0_2) := (blk_cell BK1232.out 2).trans rfl
          have hcz41_3 : w39.cell? ⟨gb1232, 3, none⟩ = some (.int .i64 a0_3) := (blk_cell BK1232.out 3).trans rfl
          have hcz41_4 : w39.cell? ⟨gb1232, 4, none⟩ = some (.int .i64 a0_4) := (blk_cell BK1232.out 4).trans rfl
          have hcz41_5 : w39.cell? ⟨gb1232, 5, none⟩ = some (.int .i64 a0_5) := (blk_cell BK1232.out 5).trans rfl
          have hcz41_6 : w39.cell? ⟨gb1232, 6, none⟩ = some (.int .i64 a0_6) := (blk_cell BK1232.out 6).trans rfl
          have hfz41_0 := blk_frozen BK1232.out 0
          have hfz41_1 := blk_frozen BK1232.out 1
          have hfz41_2 := blk_frozen BK1232.out 2
          have hfz41_3 := blk_frozen BK1232.out 3
          have hfz41_4 := blk_frozen BK1232.out 4
          have hfz41_5 := blk_frozen BK1232.out 5
          have hfz41_6 := blk_frozen BK1232.out 6
          try go_wp2
          have n0_ := Aside0.mk (Kd.R_drew HO1236.out)
          have n1_ := Aside0.mk (blk_drew BK1232.out)
          have n2_ := Aside0.mk (blk_drew BK1233.out)
          have n3_ := Aside0.mk (below_drew1 HB.out)
          clear HO1236
          clear BK1232
          clear BK1233
          clear HB
          have HO1236 := n0_
          have BK1232 := n1_
          have BK1233 := n2_
          have HB := n3_
          clear n0_ n1_ n2_ n3_
          obtain ⟨Ao44, co44, eo44⟩ := Kd.R_slice HO1236.out
          (first | subst eo44 | (injection eo44 with f1_ f2_ f3_; have f4_ := f1_.symm; have f5_ := f3_.symm; clear f1_ f2_ f3_; subst f4_; subst f5_))
          have q43 : ((wrap64 (a1 + (wrap64 (a0_6 - a0_5)))) : Int) ≤ ((t1234.length : Int) : Int) := of_decide_eq_true (by first | (with_reducible assumption) | assumption)
          obtain ⟨i043, hi043, _, hsz43, _⟩ := info_parts info5
          have hroom43 : t1234.length ≤ co44 := (Kd.R_reads' HO1236.out).2.1
          have hC43 : Kd.C (Kd.int .u8) _ Ao44 t1234.length t1234 := (Kd.R_reads' HO1236.out).2.2
          have ql43 : (a0_6 : Int) ≤ ((wrap64 (a1 + (wrap64 (a0_6 - a0_5)))) : Int) := of_decide_eq_true (by first | (with_reducible assumption) | assumption)
          have q043 : (0 : Int) ≤ (a0_6 : Int) := of_decide_eq_true (by first | (with_reducible assumption) | assumption)
          have hcut43 := cut_mid (P := Try.prog) 29 5 .i64 .i64 Try.underlying29 hi043 1 hsz43 Ao44 t1234.length co44 a0_6 (wrap64 (a1 + (wrap64 (a0_6 - a0_5)))) q043 ql43 q43 hroom43
          have hr43 := Kd.C_mid (lo := (a0_6 : Int).toNat) (hi := ((wrap64 (a1 + (wrap64 (a0_6 - a0_5)))) : Int).toNat) (c := co44) hC43 (by omega) (by omega) hroom43
          obtain ⟨A43, hA43⟩ : ∃ A1, A1 = (if co44 = (a0_6 : Int).toNat then Ao44 else (Ao44 : Option Addr).map (·.add ((a0_6 : Int).toNat * 1))) := ⟨_, rfl⟩
          obtain ⟨c43, hc43⟩ : ∃ c1, c1 = co44 - (a0_6 : Int).toNat := ⟨_, rfl⟩
          have hy43 : y1245.length = ((wrap64 (a1 + (wrap64 (a0_6 - a0_5)))) : Int).toNat - (a0_6 : Int).toNat := (by rw [Ny1245.out, List.length_drop, List.length_take] <;> omega)
          rw [show ((t1234).take ((wrap64 (a1 + (wrap64 (a0_6 - a0_5)))) : Int).toNat).drop (a0_6 : Int).toNat = y1245 from Ny1245.out.symm] at hr43
          replace hr43 : Kd.C (Kd.int .u8) _ A43 y1245.length y1245 := (by rw [hA43]; exact hr43)
          rw [← hy43, ← hA43, ← hc43] at hcut43
          have HR1248 := Aside0.mk hr43
          have HC1248 := Aside0.mk (show y1245.length ≤ c43 from by rw [hy43, hc43]; exact Nat.sub_le_sub_right (Nat.le_trans (by omega) hroom43) _)
          clear hr43 hC43 hroom43 hi043 hsz43 hc43
          have KY43 := Aside0.mk hy43
          have KA43 := Aside0.mk hA43
          clear hy43 hA43
          have KL43 := Aside0.mk (show ((wrap64 (a1 + (wrap64 (a0_6 - a0_5)))) : Int).toNat ≤ t1234.length from by omega)
          have KM43 := Aside0.mk (show (a0_6 : Int).toNat ≤ ((wrap64 (a1 + (wrap64 (a0_6 - a0_5)))) : Int).toNat from by omega)
          replace q43 := eq_true q43
          refine start_ (n := 16) (S := fun w' => w'.cell? ⟨gb1232, 0, none⟩ = some (.slice A0_0 l0_0.length c0_0) ∧ w'.cell? ⟨gb1232, 1, none⟩ = some (.int .i64 a0_1) ∧ w'.cell? ⟨gb1232, 2, none⟩ = some (.int .i64 a0_2) ∧ w'.cell? ⟨gb1232, 3, none⟩ = some (.int .i64 a0_3) ∧ w'.cell? ⟨gb1232, 4, none⟩ = some (.int .i64 a0_4) ∧ w'.cell? ⟨gb1232, 5, none⟩ = some (.int .i64 a0_5) ∧ w'.cell? ⟨gb1232, 6, none⟩ = some (.int .i64 a0_6)) (ds := []) #[false, false, false, false, false, false, false, false, false, false, false, false, false, false, false, false] (by kernel_rfl) rfl rfl ⟨(blk_cell BK1232.out 0).trans rfl, (blk_cell BK1232.out 1).trans rfl, (blk_cell BK1232.out 2).trans rfl, (blk_cell BK1232.out 3).trans rfl, (blk_cell BK1232.out 4).trans rfl, (blk_cell BK1232.out 5).trans rfl, (blk_cell BK1232.out 6).trans rfl⟩ (fun hHeld => ?_); refine with_tabW spec_l6Move.tab5 spec_l6Move.bits5 (fun HT_ HW_ => ?_)
          generalize w39.drew = w42 at HO1236 BK1232 BK1233 HB HR1248 hHeld ⊢
          refine pure_ (i := 0) (N := some 49) (v := ?_) (a' := ?_) #[true, false, false, false, false, false, false, false, false, false, false, false, false, false, false, false] rfl rfl (any_of HT_.out (by kernel_rfl)) (fun _ _ _ h => h) (Or.inl ⟨by rfl, ?_⟩) ?_ ?_
          rotate_left
          · intro w'
            go_simp
            with_reducible rfl
          rotate_left
          · simp only [Act.put, List.setIfInBounds_toArray, List.set_cons_zero, List.set_cons_succ, i64_w, i32_w]
            rfl
          refine pure_ (i := 2) (N := some 51) (v := ?_) (a' := ?_) #[true, false, true, false, false, false, false, false, false, false, false, false, false, false, false, false] rfl rfl (any_of HT_.out (by kernel_rfl)) (fun _ _ _ h => h) (Or.inl ⟨by rfl, ?_⟩) ?_ ?_
          rotate_left
          · intro w'
            go_simp
            with_reducible rfl
          rotate_left
          · simp only [Act.put, List.setIfInBounds_toArray, List.set_cons_zero, List.set_cons_succ, i64_w, i32_w]
            rfl
          refine pure_ (i := 4) (N := some 53) (v := ?_) (a' := ?_) #[true, false, true, false, true, false, false, false, false, false, false, false, false, false, false, false] rfl rfl (any_of HT_.out (by kernel_rfl)) (fun _ _ _ h => h) (Or.inl ⟨by rfl, ?_⟩) ?_ ?_
          rotate_left
          · intro w'
            go_simp
            with_reducible rfl
          rotate_left
          · simp only [Act.put, List.setIfInBounds_toArray, List.set_cons_zero, List.set_cons_succ, i64_w, i32_w]
            rfl
          refine pure_ (i := 6) (N := some 55) (v := ?_) (a' := ?_) #[true, false, true, false, true, false, true, false, false, false, false, false, false, false, false, false] rfl rfl (any_of HT_.out (by kernel_rfl)) (fun _ _ _ h => h) (Or.inl ⟨by rfl, ?_⟩) ?_ ?_
          rotate_left
          · intro w'
            go_simp
            with_reducible rfl
          rotate_left
          · simp only [Act.put, List.setIfInBounds_toArray, List.set_cons_zero, List.set_cons_succ, i64_w, i32_w]
            rfl
          refine pure_ (i := 7) (N := some 56) (v := ?_) (a' := ?_) #[true, false, true, false, true, false, true, true, false, false, false, false, false, false, false, false] rfl rfl (any_of HT_.out (by kernel_rfl)) (fun _ _ _ h => h) (Or.inl ⟨by rfl, ?_⟩) ?_ ?_
          rotate_left
          · intro w'
            go_simp
            with_reducible rfl
          rotate_left
          · simp only [Act.put, List.setIfInBounds_toArray, List.set_cons_zero, List.set_cons_succ, i64_w, i32_w]
            rfl
          refine pure_ (i := 9) (N := some 58) (v := ?_) (a' := ?_) #[true, false, true, false, true, false, true, true, false, true, false, false, false, false, false, false] rfl rfl (any_of HT_.out (by kernel_rfl)) (fun _ _ _ h => h) (Or.inl ⟨by rfl, ?_⟩) ?_ ?_
          rotate_left
          · intro w'
            go_simp
            with_reducible rfl
          rotate_left
          · simp only [Act.put, List.setIfInBounds_toArray, List.set_cons_zero, List.set_cons_succ, i64_w, i32_w]
            rfl
          refine pure_ (i := 10) (N := some 59) (v := ?_) (a' := ?_) #[true, false, true, false, true, false, true, true, false, true, true, false, false, false, false, false] rfl rfl (any_of HT_.out (by kernel_rfl)) (fun _ _ _ h => h) (Or.inl ⟨by rfl, ?_⟩) ?_ ?_
          rotate_left
          · intro w'
            go_simp
            with_reducible rfl
          rotate_left
          · simp only [Act.put, List.setIfInBounds_toArray, List.set_cons_zero, List.set_cons_succ, i64_w, i32_w]
            rfl
          refine pure_ (i := 11) (N := some 60) (v := ?_) (a' := ?_) #[true, false, true, false, true, false, true, true, false, true, true, true, false, false, false, false] rfl rfl (any_of HT_.out (by kernel_rfl)) (fun _ _ _ h => h) (Or.inl ⟨by rfl, ?_⟩) ?_ ?_
          rotate_left
          · intro w'
            go_simp
            with_reducible rfl
          rotate_left
          · simp only [Act.put, List.setIfInBounds_toArray, List.set_cons_zero, List.set_cons_succ, i64_w, i32_w]
            rfl
          refine take_ (i := 1) (N := some 50) (v := ?_) (a' := ?_) #[true, true, true, false, true, false, true, true, false, true, true, true, false, false, false, false] rfl rfl (take_ofW HT_.out HW_.out (by kernel_rfl)) (fun _ _ _ h => h) (Or.inl ⟨by rfl, ?_⟩) hHeld ?_ ?_
          rotate_left
          · rintro w' ⟨s0, s1, s2, s3, s4, s5, s6⟩
            go_simp
            with_reducible rfl
          rotate_left
          · simp only [Act.put, List.setIfInBounds_toArray, List.set_cons_zero, List.set_cons_succ, i64_w, i32_w]
            rfl
          refine take_ (i := 3) (N := some 52) (v := ?_) (a' := ?_) #[true, true, true, true, true, false, true, true, false, true, true, true, false, false, false, false] rfl rfl (take_ofW HT_.out HW_.out (by kernel_rfl)) (fun _ _ _ h => h) (Or.inl ⟨by rfl, ?_⟩) hHeld ?_ ?_
          rotate_left
          · rintro w' ⟨s0, s1, s2, s3, s4, s5, s6⟩
            go_simp
            with_reducible rfl
          rotate_left
          · simp only [Act.put, List.setIfInBounds_toArray, List.set_cons_zero, List.set_cons_succ, i64_w, i32_w]
            rfl
          refine take_ (i := 5) (N := some 54) (v := ?_) (a' := ?_) #[true, true, true, true, true, true, true, true, false, true, true, true, false, false, false, false] rfl rfl (take_ofW HT_.out HW_.out (by kernel_rfl)) (fun _ _ _ h => h) (Or.inl ⟨by rfl, ?_⟩) hHeld ?_ ?_
          rotate_left
          · rintro w' ⟨s0, s1, s2, s3, s4, s5, s6⟩
            go_simp
            with_reducible rfl
          rotate_left
          · simp only [Act.put, List.setIfInBounds_toArray, List.set_cons_zero, List.set_cons_succ, i64_w, i32_w]
            rfl
          refine take_ (i := 8) (N := some 57) (v := ?_) (a' := ?_) #[true, true, true, true, true, true, true, true, true, true, true, true, false, false, false, false] rfl rfl (take_ofW HT_.out HW_.out (by kernel_rfl)) (fun _ _ _ h => h) (Or.inl ⟨by rfl, ?_⟩) hHeld ?_ ?_
          rotate_left
          · rintro w' ⟨s0, s1, s2, s3, s4, s5, s6⟩
            go_simp
            with_reducible rfl
          rotate_left
          · simp only [Act.put, List.setIfInBounds_toArray, List.set_cons_zero, List.set_cons_succ, i64_w, i32_w]
            rfl
          refine pure_ (i := 12) (N := some 61) (v := ?_) (a' := ?_) #[true, true, true, true, true, true, true, true, true, true, true, true, true, false, false, false] rfl rfl (any_of HT_.out (by kernel_rfl)) (fun _ _ _ h => h) (Or.inl ⟨by rfl, ?_⟩) ?_ ?_
          rotate_left
          · intro w'
            go_simp
            with_reducible rfl
          rotate_left
          · simp only [Act.put, List.setIfInBounds_toArray, List.set_cons_zero, List.set_cons_succ, i64_w, i32_w]
            rfl
          refine join_ (σ := Value × Nat) 1 #[true, true, true, true, true, true, true, true, true, true, true, true, true, true, true, false] (fun s_ => [(62, .agg #[s_.1]), (9, .pointer (some ⟨s_.2, 0, none⟩))]) (fun s_ w' => (w'.cell? ⟨gb1232, 0, none⟩ = some (.slice A0_0 l0_0.length c0_0) ∧ w'.cell? ⟨gb1232, 1, none⟩ = some (.int .i64 a0_1) ∧ w'.cell? ⟨gb1232, 2, none⟩ = some (.int .i64 a0_2) ∧ w'.cell? ⟨gb1232, 3, none⟩ = some (.int .i64 a0_3) ∧ w'.cell? ⟨gb1232, 4, none⟩ = some (.int .i64 a0_4) ∧ w'.cell? ⟨gb1232, 5, none⟩ = some (.int .i64 a0_5) ∧ w'.cell? ⟨gb1232, 6, none⟩ = some (.int .i64 a0_6)) ∧ (Kd.R (Kd.int .u8) 5 w' w.heap.size (fun _ => True) (.slice Ao44 t1234.length co44) t1234) ∧ (Kd.S (Kd.slice 5 (Kd.int .u8)) 29 w' w.heap.size (fun k_ => some k_ ≠ (.slice Ao44 t1234.length co44 : Value).ownBlock) s_.1 t1249) ∧ (w'.heap[gb1232]? = some (.cells #[.slice A0_0 l0_0.length c0_0, .int .i64 a0_1, .int .i64 a0_2, .int .i64 a0_3, .int .i64 a0_4, .int .i64 a0_5, .int .i64 a0_6] 53 (0, 0))) ∧ (w'.heap[gb1233]? = some (.cells #[.slice none 0 0, .int .i64 0, .int .i64 0, .int .i64 0, .int .i64 0, .int .i64 0, .int .i64 0] 53 (0, 0))) ∧ (w'.heap[s_.2]? = some (.cells #[.slice none 0 0] 31 (0, 0))) ∧ (w.heap.size ≤ s_.2) ∧ (w.heap.size ≤ s_.2) ∧ (gb1232 ≠ s_.2) ∧ (s_.2 ≠ gb1232) ∧ (gb1233 ≠ s_.2) ∧ (s_.2 ≠ gb1233) ∧ (Below w.heap.size w w')) ?_ ?_
          rotate_left
          · intro hCont
            refine two_ (i := 13) (j := 14) (Ni := some 62) (Nj := some 9) #[true, true, true, true, true, true, true, true, true, true, true, true, true, true, false, false] #[true, true, true, true, true, true, true, true, true, true, true, true, true, false, true, false] rfl rfl rfl rfl (two_of HT_.out (by kernel_rfl)) (by decide) (by decide) (fun K hK => ?_) (fun K hK => ?_)
            · skip
              refine goes_ Try.func100 (by kernel_rfl) rfl #[.agg #[.slice A0_0 l0_0.length c0_0], .agg #[.int .i64 a0_1, .int .i64 a0_2, .int .i64 a0_3, .int .i64 a0_4], .int .i64 a0_5, .slice A43 y1245.length c43] (by rfl) rfl rfl (by (try simp only [List.map_toArray, List.map_cons, List.map_nil]); first | done | rfl | (simp only [List.length_drop, List.length_take]; rfl)) ?_
              with_reducible refine (spec_l2Write.calls k _ _ l0_0 a0_1 a0_2 a0_3 a0_4 a0_5 _ _ y1245 t1249 _ ?side1 ?side2 ?side3 ?side4 A35.out).mono ?_
              (case side1 => repeat (first | exact (Kd.C_below HR0_0.out HB.out) | (with_reducible refine Kd.C_alloc ?_ _) | (with_reducible refine Kd.C_drewN ?_ _) | (with_reducible refine Kd.C_drew ?_)))
              (case side2 => exact HC0_0.out)
              (case side3 => repeat (first | exact (by repeat (first | (with_reducible exact HR1248.out) | (with_reducible refine Kd.C_alloc ?_ _) | (with_reducible refine Kd.C_drewN ?_ _) | (with_reducible refine Kd.C_drew ?_) | exact HR1248.out)) | (with_reducible refine Kd.C_alloc ?_ _) | (with_reducible refine Kd.C_drewN ?_ _) | (with_reducible refine Kd.C_drew ?_)))
              (case side4 => exact HC1248.out)
              rintro e w45 ⟨v1250, rfl, ho0, hb⟩
              refine ⟨_, rfl, ?_⟩
              have n0_ := Aside0.mk (Kd.R_below (by (with_reducible repeat (first | apply Kd.R_alloc | apply Kd.R_drewN | apply Kd.R_drew)); exact HO1236.out) hb)
              have n1_ := Aside0.mk (Kd.S_lower (Kd.S_new' ho0 (Kd.R_lt (by (with_reducible repeat (first | apply Kd.R_alloc | apply Kd.R_drewN | apply Kd.R_drew)); exact HO1236.out))) (below_size (by repeat (first | (with_reducible first | exact HB.out | apply below_alloc | apply pw_below_drewN | apply below_drew1 | refine below_set ?_ GE1232.out | refine below_set ?_ GE1233.out) | exact HB.out))))
              have n2_ := Aside0.mk (blk_below (g := gb1232) (o := .cells #[.slice A0_0 l0_0.length c0_0, .int .i64 a0_1, .int .i64 a0_2, .int .i64 a0_3, .int .i64 a0_4, .int .i64 a0_5, .int .i64 a0_6] 53 (0, 0)) (by (with_reducible repeat (first | refine blk_drewN ?_ _ | refine blk_drew ?_ | refine blk_alloc ?_ _)); exact BK1232.out) hb)
              have n3_ := Aside0.mk (blk_below (g := gb1233) (o := .cells #[.slice none 0 0, .int .i64 0, .int .i64 0, .int .i64 0, .int .i64 0, .int .i64 0, .int .i64 0] 53 (0, 0)) (by (with_reducible repeat (first | refine blk_drewN ?_ _ | refine blk_drew ?_ | refine blk_alloc ?_ _)); exact BK1233.out) hb)
              have n4_ := Aside0.mk (Kd.C_below (by repeat (first | (with_reducible exact HR1248.out) | (with_reducible refine Kd.C_alloc ?_ _) | (with_reducible refine Kd.C_drewN ?_ _) | (with_reducible refine Kd.C_drew ?_) | exact HR1248.out)) hb)
              have n5_ := Aside0.mk (below_step (by repeat (first | (with_reducible first | exact HB.out | apply below_alloc | apply pw_below_drewN | apply below_drew1 | refine below_set ?_ GE1232.out | refine below_set ?_ GE1233.out) | exact HB.out)) hb)
              clear HO1236
              clear BK1232
              clear BK1233
              clear HR1248
              clear HB
              have HO1236 := n0_
              have HO1251 := n1_
              have BK1232 := n2_
              have BK1233 := n3_
              have HR1248 := n4_
              have HB := n5_
              clear n0_ n1_ n2_ n3_ n4_ n5_
              (try clear hb)
              (try clear hb2)
              (try clear hk)
              (try clear hi)
              (try clear ho0)
              refine hK.out _ _ ⟨(blk_cell BK1232.out 0).trans rfl, (blk_cell BK1232.out 1).trans rfl, (blk_cell BK1232.out 2).trans rfl, (blk_cell BK1232.out 3).trans rfl, (blk_cell BK1232.out 4).trans rfl, (blk_cell BK1232.out 5).trans rfl, (blk_cell BK1232.out 6).trans rfl⟩ (fun hHeld => ?_)
              clear hK K
              refine norm_ (a' := ?_) ?_ ?_
              rotate_left
              · show Act.put _ (some 62) _ = _
                simp only [Act.put, List.setIfInBounds_toArray, List.set_cons_zero, List.set_cons_succ, i64_w, i32_w]
                rfl
              refine one_ (i := 14) (N := some 9) #[true, true, true, true, true, true, true, true, true, true, true, true, true, true, true, false] rfl rfl (one_of HT_.out (by kernel_rfl)) (by decide) (fun K hK => ?_)
              refine box_step ?hg (N := 9) ?hd (cs := #[.slice none 0 0]) (t := 31) ?hr ?_; (case hd => rfl); (case hg => rfl); (case hr => first | (go_simp; done) | (go_simp; rfl))
              intro gb1252 hg w46 hbox hb
              have n0_ := Aside0.mk (Kd.R_below (by (with_reducible repeat (first | apply Kd.R_alloc | apply Kd.R_drewN | apply Kd.R_drew)); exact HO1236.out) hb)
              have n1_ := Aside0.mk (Kd.S_below (by (with_reducible repeat (first | apply Kd.S_alloc | apply Kd.S_drewN | apply Kd.S_drew)); exact HO1251.out) hb)
              have n2_ := Aside0.mk (blk_below (g := gb1232) (o := .cells #[.slice A0_0 l0_0.length c0_0, .int .i64 a0_1, .int .i64 a0_2, .int .i64 a0_3, .int .i64 a0_4, .int .i64 a0_5, .int .i64 a0_6] 53 (0, 0)) (by (with_reducible repeat (first | refine blk_drewN ?_ _ | refine blk_drew ?_ | refine blk_alloc ?_ _)); exact BK1232.out) hb)
              have n3_ := Aside0.mk (blk_below (g := gb1233) (o := .cells #[.slice none 0 0, .int .i64 0, .int .i64 0, .int .i64 0, .int .i64 0, .int .i64 0, .int .i64 0] 53 (0, 0)) (by (with_reducible repeat (first | refine blk_drewN ?_ _ | refine blk_drew ?_ | refine blk_alloc ?_ _)); exact BK1233.out) hb)
              have n4_ := Aside0.mk (Kd.C_below (by repeat (first | (with_reducible exact HR1248.out) | (with_reducible refine Kd.C_alloc ?_ _) | (with_reducible refine Kd.C_drewN ?_ _) | (with_reducible refine Kd.C_drew ?_) | exact HR1248.out)) hb)
              have n5_ := Aside0.mk (below_step (by repeat (first | (with_reducible first | exact HB.out | apply below_alloc | apply pw_below_drewN | apply below_drew1 | refine below_set ?_ GE1232.out | refine below_set ?_ GE1233.out) | exact HB.out)) hb)
              have n6_ := Aside0.mk (hbox)
              have n7_ := Aside0.mk ((by rw [hg]; exact (below_size (by repeat (first | (with_reducible first | exact HB.out | apply below_alloc | apply pw_below_drewN | apply below_drew1 | refine below_set ?_ GE1232.out | refine below_set ?_ GE1233.out) | exact HB.out))) : w.heap.size ≤ gb1252))
              have n8_ := Aside0.mk ((by rw [hg]; exact (below_size (by repeat (first | (with_reducible first | exact HB.out | apply below_alloc | apply pw_below_drewN | apply below_drew1 | refine below_set ?_ GE1232.out | refine below_set ?_ GE1233.out) | exact HB.out))) : w.heap.size ≤ gb1252))
              have n9_ := Aside0.mk ((by rw [hg]; exact Nat.ne_of_lt (blk_lt (g := gb1232) (o := .cells #[.slice A0_0 l0_0.length c0_0, .int .i64 a0_1, .int .i64 a0_2, .int .i64 a0_3, .int .i64 a0_4, .int .i64 a0_5, .int .i64 a0_6] 53 (0, 0)) (by (with_reducible repeat (first | refine blk_drewN ?_ _ | refine blk_drew ?_ | refine blk_alloc ?_ _)); exact BK1232.out)) : gb1232 ≠ gb1252))
              have n10_ := Aside0.mk ((by rw [hg]; exact Nat.ne_of_gt (blk_lt (g := gb1232) (o := .cells #[.slice A0_0 l0_0.length c0_0, .int .i64 a0_1, .int .i64 a0_2, .int .i64 a0_3, .int .i64 a0_4, .int .i64 a0_5, .int .i64 a0_6] 53 (0, 0)) (by (with_reducible repeat (first | refine blk_drewN ?_ _ | refine blk_drew ?_ | refine blk_alloc ?_ _)); exact BK1232.out)) : gb1252 ≠ gb1232))
              have n11_ := Aside0.mk ((by rw [hg]; exact Nat.ne_of_lt (blk_lt (g := gb1233) (o := .cells #[.slice none 0 0, .int .i64 0, .int .i64 0, .int .i64 0, .int .i64 0, .int .i64 0, .int .i64 0] 53 (0, 0)) (by (with_reducible repeat (first | refine blk_drewN ?_ _ | refine blk_drew ?_ | refine blk_alloc ?_ _)); exact BK1233.out)) : gb1233 ≠ gb1252))
              have n12_ := Aside0.mk ((by rw [hg]; exact Nat.ne_of_gt (blk_lt (g := gb1233) (o := .cells #[.slice none 0 0, .int .i64 0, .int .i64 0, .int .i64 0, .int .i64 0, .int .i64 0, .int .i64 0] 53 (0, 0)) (by (with_reducible repeat (first | refine blk_drewN ?_ _ | refine blk_drew ?_ | refine blk_alloc ?_ _)); exact BK1233.out)) : gb1252 ≠ gb1233))
              clear HO1236
              clear HO1251
              clear BK1232
              clear BK1233
              clear HR1248
              clear HB
              have HO1236 := n0_
              have HO1251 := n1_
              have BK1232 := n2_
              have BK1233 := n3_
              have HR1248 := n4_
              have HB := n5_
              have BK1252 := n6_
              have GW1252 := n7_
              have GE1252 := n8_
              have NB1232_1252 := n9_
              have NB1252_1232 := n10_
              have NB1233_1252 := n11_
              have NB1252_1233 := n12_
              clear n0_ n1_ n2_ n3_ n4_ n5_ n6_ n7_ n8_ n9_ n10_ n11_ n12_
              clear hb hbox hg
              refine hK.out _ _ ⟨(blk_cell BK1232.out 0).trans rfl, (blk_cell BK1232.out 1).trans rfl, (blk_cell BK1232.out 2).trans rfl, (blk_cell BK1232.out 3).trans rfl, (blk_cell BK1232.out 4).trans rfl, (blk_cell BK1232.out 5).trans rfl, (blk_cell BK1232.out 6).trans rfl⟩ (fun hHeld => ?_)
              clear hK K
              refine norm_ (a' := ?_) ?_ ?_
              rotate_left
              · show Act.put _ (some 9) _ = _
                simp only [Act.put, List.setIfInBounds_toArray, List.set_cons_zero, List.set_cons_succ, i64_w, i32_w]
                rfl
              exact norm_ (by simp only [putAll, Act.put, List.setIfInBounds_toArray, List.set_cons_zero, List.set_cons_succ]) (hCont (v1250, gb1252) _ ⟨hHeld, (by (with_reducible repeat (first | apply Kd.R_alloc | apply Kd.R_drewN | apply Kd.R_drew)); exact HO1236.out), (by (with_reducible repeat (first | apply Kd.S_alloc | apply Kd.S_drewN | apply Kd.S_drew)); exact Kd.S_mono HO1251.out (fun _ hk => hk.2)), (by (with_reducible repeat (first | refine blk_drewN ?_ _ | refine blk_drew ?_ | refine blk_alloc ?_ _)); exact BK1232.out), (by (with_reducible repeat (first | refine blk_drewN ?_ _ | refine blk_drew ?_ | refine blk_alloc ?_ _)); exact BK1233.out), (by (with_reducible repeat (first | refine blk_drewN ?_ _ | refine blk_drew ?_ | refine blk_alloc ?_ _)); exact BK1252.out), GW1252.out, GE1252.out, NB1232_1252.out, NB1252_1232.out, NB1233_1252.out, NB1252_1233.out, (by repeat (first | (with_reducible first | exact HB.out | apply below_alloc | apply pw_below_drewN | apply below_drew1 | refine below_set ?_ GE1232.out | refine below_set ?_ GE1233.out | refine below_set ?_ GE1252.out) | exact HB.out))⟩)
            · skip
              refine box_step ?hg (N := 9) ?hd (cs := #[.slice none 0 0]) (t := 31) ?hr ?_; (case hd => rfl); (case hg => rfl); (case hr => first | (go_simp; done) | (go_simp; rfl))
              intro gb1252 hg w45 hbox hb
              have n0_ := Aside0.mk (Kd.R_below (by (with_reducible repeat (first | apply Kd.R_alloc | apply Kd.R_drewN | apply Kd.R_drew)); exact HO1236.out) hb)
              have n1_ := Aside0.mk (blk_below (g := gb1232) (o := .cells #[.slice A0_0 l0_0.length c0_0, .int .i64 a0_1, .int .i64 a0_2, .int .i64 a0_3, .int .i64 a0_4, .int .i64 a0_5, .int .i64 a0_6] 53 (0, 0)) (by (with_reducible repeat (first | refine blk_drewN ?_ _ | refine blk_drew ?_ | refine blk_alloc ?_ _)); exact BK1232.out) hb)
              have n2_ := Aside0.mk (blk_below (g := gb1233) (o := .cells #[.slice none 0 0, .int .i64 0, .int .i64 0, .int .i64 0, .int .i64 0, .int .i64 0, .int .i64 0] 53 (0, 0)) (by (with_reducible repeat (first | refine blk_drewN ?_ _ | refine blk_drew ?_ | refine blk_alloc ?_ _)); exact BK1233.out) hb)
              have n3_ := Aside0.mk (Kd.C_below (by repeat (first | (with_reducible exact HR1248.out) | (with_reducible refine Kd.C_alloc ?_ _) | (with_reducible refine Kd.C_drewN ?_ _) | (with_reducible refine Kd.C_drew ?_) | exact HR1248.out)) hb)
              have n4_ := Aside0.mk (below_step (by repeat (first | (with_reducible first | exact HB.out | apply below_alloc | apply pw_below_drewN | apply below_drew1 | refine below_set ?_ GE1232.out | refine below_set ?_ GE1233.out) | exact HB.out)) hb)
              have n5_ := Aside0.mk (hbox)
              have n6_ := Aside0.mk ((by rw [hg]; exact (below_size (by repeat (first | (with_reducible first | exact HB.out | apply below_alloc | apply pw_below_drewN | apply below_drew1 | refine below_set ?_ GE1232.out | refine below_set ?_ GE1233.out) | exact HB.out))) : w.heap.size ≤ gb1252))
              have n7_ := Aside0.mk ((by rw [hg]; exact (below_size (by repeat (first | (with_reducible first | exact HB.out | apply below_alloc | apply pw_below_drewN | apply below_drew1 | refine below_set ?_ GE1232.out | refine below_set ?_ GE1233.out) | exact HB.out))) : w.heap.size ≤ gb1252))
              have n8_ := Aside0.mk ((by rw [hg]; exact Nat.ne_of_lt (blk_lt (g := gb1232) (o := .cells #[.slice A0_0 l0_0.length c0_0, .int .i64 a0_1, .int .i64 a0_2, .int .i64 a0_3, .int .i64 a0_4, .int .i64 a0_5, .int .i64 a0_6] 53 (0, 0)) (by (with_reducible repeat (first | refine blk_drewN ?_ _ | refine blk_drew ?_ | refine blk_alloc ?_ _)); exact BK1232.out)) : gb1232 ≠ gb1252))
              have n9_ := Aside0.mk ((by rw [hg]; exact Nat.ne_of_gt (blk_lt (g := gb1232) (o := .cells #[.slice A0_0 l0_0.length c0_0, .int .i64 a0_1, .int .i64 a0_2, .int .i64 a0_3, .int .i64 a0_4, .int .i64 a0_5, .int .i64 a0_6] 53 (0, 0)) (by (with_reducible repeat (first | refine blk_drewN ?_ _ | refine blk_drew ?_ | refine blk_alloc ?_ _)); exact BK1232.out)) : gb1252 ≠ gb1232))
              have n10_ := Aside0.mk ((by rw [hg]; exact Nat.ne_of_lt (blk_lt (g := gb1233) (o := .cells #[.slice none 0 0, .int .i64 0, .int .i64 0, .int .i64 0, .int .i64 0, .int .i64 0, .int .i64 0] 53 (0, 0)) (by (with_reducible repeat (first | refine blk_drewN ?_ _ | refine blk_drew ?_ | refine blk_alloc ?_ _)); exact BK1233.out)) : gb1233 ≠ gb1252))
              have n11_ := Aside0.mk ((by rw [hg]; exact Nat.ne_of_gt (blk_lt (g := gb1233) (o := .cells #[.slice none 0 0, .int .i64 0, .int .i64 0, .int .i64 0, .int .i64 0, .int .i64 0, .int .i64 0] 53 (0, 0)) (by (with_reducible repeat (first | refine blk_drewN ?_ _ | refine blk_drew ?_ | refine blk_alloc ?_ _)); exact BK1233.out)) : gb1252 ≠ gb1233))
              clear HO1236
              clear BK1232
              clear BK1233
              clear HR1248
              clear HB
              have HO1236 := n0_
              have BK1232 := n1_
              have BK1233 := n2_
              have HR1248 := n3_
              have HB := n4_
              have BK1252 := n5_
              have GW1252 := n6_
              have GE1252 := n7_
              have NB1232_1252 := n8_
              have NB1252_1232 := n9_
              have NB1233_1252 := n10_
              have NB1252_1233 := n11_
              clear n0_ n1_ n2_ n3_ n4_ n5_ n6_ n7_ n8_ n9_ n10_ n11_
              clear hb hbox hg
              refine hK.out _ _ ⟨(blk_cell BK1232.out 0).trans rfl, (blk_cell BK1232.out 1).trans rfl, (blk_cell BK1232.out 2).trans rfl, (blk_cell BK1232.out 3).trans rfl, (blk_cell BK1232.out 4).trans rfl, (blk_cell BK1232.out 5).trans rfl, (blk_cell BK1232.out 6).trans rfl⟩ (fun hHeld => ?_)
              clear hK K
              refine norm_ (a' := ?_) ?_ ?_
              rotate_left
              · show Act.put _ (some 9) _ = _
                simp only [Act.put, List.setIfInBounds_toArray, List.set_cons_zero, List.set_cons_succ, i64_w, i32_w]
                rfl
              refine one_ (i := 13) (N := some 62) #[true, true, true, true, true, true, true, true, true, true, true, true, true, true, true, false] rfl rfl (one_of HT_.out (by kernel_rfl)) (by decide) (fun K hK => ?_)
              refine goes_ Try.func100 (by kernel_rfl) rfl #[.agg #[.slice A0_0 l0_0.length c0_0], .agg #[.int .i64 a0_1, .int .i64 a0_2, .int .i64 a0_3, .int .i64 a0_4], .int .i64 a0_5, .slice A43 y1245.length c43] (by rfl) rfl rfl (by (try simp only [List.map_toArray, List.map_cons, List.map_nil]); first | done | rfl | (simp only [List.length_drop, List.length_take]; rfl)) ?_
              with_reducible refine (spec_l2Write.calls k _ _ l0_0 a0_1 a0_2 a0_3 a0_4 a0_5 _ _ y1245 t1249 _ ?side1 ?side2 ?side3 ?side4 A35.out).mono ?_
              (case side1 => repeat (first | exact (Kd.C_below HR0_0.out HB.out) | (with_reducible refine Kd.C_alloc ?_ _) | (with_reducible refine Kd.C_drewN ?_ _) | (with_reducible refine Kd.C_drew ?_)))
              (case side2 => exact HC0_0.out)
              (case side3 => repeat (first | exact (by repeat (first | (with_reducible exact HR1248.out) | (with_reducible refine Kd.C_alloc ?_ _) | (with_reducible refine Kd.C_drewN ?_ _) | (with_reducible refine Kd.C_drew ?_) | exact HR1248.out)) | (with_reducible refine Kd.C_alloc ?_ _) | (with_reducible refine Kd.C_drewN ?_ _) | (with_reducible refine Kd.C_drew ?_)))
              (case side4 => exact HC1248.out)
              rintro e w46 ⟨v1250, rfl, ho0, hb⟩
              refine ⟨_, rfl, ?_⟩
              have n0_ := Aside0.mk (Kd.R_below (by (with_reducible repeat (first | apply Kd.R_alloc | apply Kd.R_drewN | apply Kd.R_drew)); exact HO1236.out) hb)
              have n1_ := Aside0.mk (Kd.S_lower (Kd.S_new' ho0 (Kd.R_lt (by (with_reducible repeat (first | apply Kd.R_alloc | apply Kd.R_drewN | apply Kd.R_drew)); exact HO1236.out))) (below_size (by repeat (first | (with_reducible first | exact HB.out | apply below_alloc | apply pw_below_drewN | apply below_drew1 | refine below_set ?_ GE1232.out | refine below_set ?_ GE1233.out | refine below_set ?_ GE1252.out) | exact HB.out))))
              have n2_ := Aside0.mk (blk_below (g := gb1232) (o := .cells #[.slice A0_0 l0_0.length c0_0, .int .i64 a0_1, .int .i64 a0_2, .int .i64 a0_3, .int .i64 a0_4, .int .i64 a0_5, .int .i64 a0_6] 53 (0, 0)) (by (with_reducible repeat (first | refine blk_drewN ?_ _ | refine blk_drew ?_ | refine blk_alloc ?_ _)); exact BK1232.out) hb)
              have n3_ := Aside0.mk (blk_below (g := gb1233) (o := .cells #[.slice none 0 0, .int .i64 0, .int .i64 0, .int .i64 0, .int .i64 0, .int .i64 0, .int .i64 0] 53 (0, 0)) (by (with_reducible repeat (first | refine blk_drewN ?_ _ | refine blk_drew ?_ | refine blk_alloc ?_ _)); exact BK1233.out) hb)
              have n4_ := Aside0.mk (Kd.C_below (by repeat (first | (with_reducible exact HR1248.out) | (with_reducible refine Kd.C_alloc ?_ _) | (with_reducible refine Kd.C_drewN ?_ _) | (with_reducible refine Kd.C_drew ?_) | exact HR1248.out)) hb)
              have n5_ := Aside0.mk (blk_below (g := gb1252) (o := .cells #[.slice none 0 0] 31 (0, 0)) (by (with_reducible repeat (first | refine blk_drewN ?_ _ | refine blk_drew ?_ | refine blk_alloc ?_ _)); exact BK1252.out) hb)
              have n6_ := Aside0.mk (below_step (by repeat (first | (with_reducible first | exact HB.out | apply below_alloc | apply pw_below_drewN | apply below_drew1 | refine below_set ?_ GE1232.out | refine below_set ?_ GE1233.out | refine below_set ?_ GE1252.out) | exact HB.out)) hb)
              clear HO1236
              clear BK1232
              clear BK1233
              clear HR1248
              clear BK1252
              clear HB
              have HO1236 := n0_
              have HO1251 := n1_
              have BK1232 := n2_
              have BK1233 := n3_
              have HR1248 := n4_
              have BK1252 := n5_
              have HB := n6_
              clear n0_ n1_ n2_ n3_ n4_ n5_ n6_
              (try clear hb)
              (try clear hb2)
              (try clear hk)
              (try clear hi)
              (try clear ho0)
              refine hK.out _ _ ⟨(blk_cell BK1232.out 0).trans rfl, (blk_cell BK1232.out 1).trans rfl, (blk_cell BK1232.out 2).trans rfl, (blk_cell BK1232.out 3).trans rfl, (blk_cell BK1232.out 4).trans rfl, (blk_cell BK1232.out 5).trans rfl, (blk_cell BK1232.out 6).trans rfl⟩ (fun hHeld => ?_)
              clear hK K
              refine norm_ (a' := ?_) ?_ ?_
              rotate_left
              · show Act.put _ (some 62) _ = _
                simp only [Act.put, List.setIfInBounds_toArray, List.set_cons_zero, List.set_cons_succ, i64_w, i32_w]
                rfl
              exact norm_ (by simp only [putAll, Act.put, List.setIfInBounds_toArray, List.set_cons_zero, List.set_cons_succ]) (hCont (v1250, gb1252) _ ⟨hHeld, (by (with_reducible repeat (first | apply Kd.R_alloc | apply Kd.R_drewN | apply Kd.R_drew)); exact HO1236.out), (by (with_reducible repeat (first | apply Kd.S_alloc | apply Kd.S_drewN | apply Kd.S_drew)); exact Kd.S_mono HO1251.out (fun _ hk => hk.2)), (by (with_reducible repeat (first | refine blk_drewN ?_ _ | refine blk_drew ?_ | refine blk_alloc ?_ _)); exact BK1232.out), (by (with_reducible repeat (first | refine blk_drewN ?_ _ | refine blk_drew ?_ | refine blk_alloc ?_ _)); exact BK1233.out), (by (with_reducible repeat (first | refine blk_drewN ?_ _ | refine blk_drew ?_ | refine blk_alloc ?_ _)); exact BK1252.out), GW1252.out, GE1252.out, NB1232_1252.out, NB1252_1232.out, NB1233_1252.out, NB1252_1233.out, (by repeat (first | (with_reducible first | exact HB.out | apply below_alloc | apply pw_below_drewN | apply below_drew1 | refine below_set ?_ GE1232.out | refine below_set ?_ GE1233.out | refine below_set ?_ GE1252.out) | exact HB.out))⟩)
          rintro ⟨v1250, gb1252⟩ w47 ⟨hS_, h0_, h1_, h2_, h3_, h4_, h5_, h6_, h7_, h8_, h9_, h10_, h11_⟩
          have n0_ : Aside0 (Kd.R (Kd.int .u8) 5 w47 w.heap.size (fun _ => True) (.slice Ao44 t1234.length co44) t1234) := ⟨h0_⟩
          have n1_ : Aside0 (Kd.S (Kd.slice 5 (Kd.int .u8)) 29 w47 w.heap.size (fun k_ => some k_ ≠ (.slice Ao44 t1234.length co44 : Value).ownBlock) v1250 t1249) := ⟨h1_⟩
          have n2_ : Aside0 (w47.heap[gb1232]? = some (.cells #[.slice A0_0 l0_0.length c0_0, .int .i64 a0_1, .int .i64 a0_2, .int .i64 a0_3, .int .i64 a0_4, .int .i64 a0_5, .int .i64 a0_6] 53 (0, 0))) := ⟨h2_⟩
          have n3_ : Aside0 (w47.heap[gb1233]? = some (.cells #[.slice none 0 0, .int .i64 0, .int .i64 0, .int .i64 0, .int .i64 0, .int .i64 0, .int .i64 0] 53 (0, 0))) := ⟨h3_⟩
          have n4_ : Aside0 (w47.heap[gb1252]? = some (.cells #[.slice none 0 0] 31 (0, 0))) := ⟨h4_⟩
          have n5_ : Aside0 (w.heap.size ≤ gb1252) := ⟨h5_⟩
          have n6_ : Aside0 (w.heap.size ≤ gb1252) := ⟨h6_⟩
          have n7_ : Aside0 (gb1232 ≠ gb1252) := ⟨h7_⟩
          have n8_ : Aside0 (gb1252 ≠ gb1232) := ⟨h8_⟩
          have n9_ : Aside0 (gb1233 ≠ gb1252) := ⟨h9_⟩
          have n10_ : Aside0 (gb1252 ≠ gb1233) := ⟨h10_⟩
          have n11_ : Aside0 (Below w.heap.size w w47) := ⟨h11_⟩
          clear HO1236
          clear BK1232
          clear BK1233
          clear HB
          clear h0_ h1_ h2_ h3_ h4_ h5_ h6_ h7_ h8_ h9_ h10_ h11_
          have HO1236 := n0_
          have HO1251 := n1_
          have BK1232 := n2_
          have BK1233 := n3_
          have BK1252 := n4_
          have GW1252 := n5_
          have GE1252 := n6_
          have NB1232_1252 := n7_
          have NB1252_1232 := n8_
          have NB1233_1252 := n9_
          have NB1252_1233 := n10_
          have HB := n11_
          clear n0_ n1_ n2_ n3_ n4_ n5_ n6_ n7_ n8_ n9_ n10_ n11_
          have hHeld : w47.cell? ⟨gb1232, 0, none⟩ = some (.slice A0_0 l0_0.length c0_0) ∧ w47.cell? ⟨gb1232, 1, none⟩ = some (.int .i64 a0_1) ∧ w47.cell? ⟨gb1232, 2, none⟩ = some (.int .i64 a0_2) ∧ w47.cell? ⟨gb1232, 3, none⟩ = some (.int .i64 a0_3) ∧ w47.cell? ⟨gb1232, 4, none⟩ = some (.int .i64 a0_4) ∧ w47.cell? ⟨gb1232, 5, none⟩ = some (.int .i64 a0_5) ∧ w47.cell? ⟨gb1232, 6, none⟩ = some (.int .i64 a0_6) := hS_
          obtain ⟨Ao48, co48, eo48⟩ := Kd.S_slice HO1251.out
          (first | subst eo48 | (injection eo48 with f1_ f2_ f3_; have f4_ := f1_.symm; have f5_ := f3_.symm; clear f1_ f2_ f3_; subst f4_; subst f5_))
          refine norm_ (a' := ?_) ?_ ?_
          rotate_left
          · simp only [putAll, Act.put, List.setIfInBounds_toArray, List.set_cons_zero, List.set_cons_succ]
            rfl
          refine one_ (i := 15) (N := none) #[true, true, true, true, true, true, true, true, true, true, true, true, true, true, true, true] rfl rfl (one_of HT_.out (by kernel_rfl)) (by decide) (fun K hK => ?_)
          have hs49 : w47.cell? ⟨gb1252, 0, none⟩ = some (.slice none 0 0) := (blk_cell BK1252.out 0).trans rfl
          have hfs49 := blk_frozen BK1252.out 0
          have hns49_0 := NB1232_1252.out
          have hns49_1 := NB1233_1252.out
          have hms49_0 := NB1252_1232.out
          have hms49_1 := NB1252_1233.out
          refine skip_ (w1 := ?_) (by rfl) rfl ?_ ?_
          rotate_left
          · go_simp
            rfl
          refine hK.out _ _ ⟨((cell_far (p := ⟨gb1252, _, none⟩) NB1232_1252.out _).trans (hHeld.1)), ((cell_far (p := ⟨gb1252, _, none⟩) NB1232_1252.out _).trans (hHeld.2.1)), ((cell_far (p := ⟨gb1252, _, none⟩) NB1232_1252.out _).trans (hHeld.2.2.1)), ((cell_far (p := ⟨gb1252, _, none⟩) NB1232_1252.out _).trans (hHeld.2.2.2.1)), ((cell_far (p := ⟨gb1252, _, none⟩) NB1232_1252.out _).trans (hHeld.2.2.2.2.1)), ((cell_far (p := ⟨gb1252, _, none⟩) NB1232_1252.out _).trans (hHeld.2.2.2.2.2.1)), ((cell_far (p := ⟨gb1252, _, none⟩) NB1232_1252.out _).trans (hHeld.2.2.2.2.2.2))⟩ (fun hHeld => ?_)
          clear hK K
          refine done_ (done_of HT_.out (by kernel_rfl)) ?_
          try go_wp2
          have n0_ : Aside0 (Kd.R (Kd.int .u8) 5 (w47.setCell ⟨gb1252, 0, none⟩ (.slice Ao48 t1249.length co48)) w.heap.size (fun _ => True) (.slice Ao44 t1234.length co44) t1234) := ⟨by (with_reducible repeat (first | apply Kd.R_alloc | apply Kd.R_drewN | apply Kd.R_drew)); exact Kd.R_mono (Kd.R_far (p := ⟨gb1252, 0, none⟩) (Kd.R_types HO1236.out BK1252.out (by decide)) (fun _ hk => hk.2) (.slice Ao48 t1249.length co48)) (fun _ hk => trivial)⟩
          have n1_ : Aside0 (Kd.S (Kd.slice 5 (Kd.int .u8)) 29 (w47.setCell ⟨gb1252, 0, none⟩ (.slice Ao48 t1249.length co48)) w.heap.size (fun k_ => some k_ ≠ (.slice Ao44 t1234.length co44 : Value).ownBlock) (.slice Ao48 t1249.length co48) t1249) := ⟨by (with_reducible repeat (first | apply Kd.S_alloc | apply Kd.S_drewN | apply Kd.S_drew)); exact Kd.S_mono (Kd.S_far (p := ⟨gb1252, 0, none⟩) (Kd.S_types HO1251.out BK1252.out (by decide)) (fun _ hk => hk.2) (.slice Ao48 t1249.length co48)) (fun _ hk => hk.1)⟩
          have n2_ : Aside0 ((w47.setCell ⟨gb1252, 0, none⟩ (.slice Ao48 t1249.length co48)).heap[gb1232]? = some (.cells #[.slice A0_0 l0_0.length c0_0, .int .i64 a0_1, .int .i64 a0_2, .int .i64 a0_3, .int .i64 a0_4, .int .i64 a0_5, .int .i64 a0_6] 53 (0, 0))) := ⟨by (with_reducible repeat (first | refine blk_drewN ?_ _ | refine blk_drew ?_ | refine blk_alloc ?_ _)); refine blk_far ?_ NB1232_1252.out _; (with_reducible repeat (first | refine blk_drewN ?_ _ | refine blk_drew ?_ | refine blk_alloc ?_ _)); exact BK1232.out⟩
          have n3_ : Aside0 ((w47.setCell ⟨gb1252, 0, none⟩ (.slice Ao48 t1249.length co48)).heap[gb1233]? = some (.cells #[.slice none 0 0, .int .i64 0, .int .i64 0, .int .i64 0, .int .i64 0, .int .i64 0, .int .i64 0] 53 (0, 0))) := ⟨by (with_reducible repeat (first | refine blk_drewN ?_ _ | refine blk_drew ?_ | refine blk_alloc ?_ _)); refine blk_far ?_ NB1233_1252.out _; (with_reducible repeat (first | refine blk_drewN ?_ _ | refine blk_drew ?_ | refine blk_alloc ?_ _)); exact BK1233.out⟩
          have n4_ : Aside0 ((w47.setCell ⟨gb1252, 0, none⟩ (.slice Ao48 t1249.length co48)).heap[gb1252]? = some (.cells #[.slice Ao48 t1249.length co48] 31 (0, 0))) := ⟨by (with_reducible repeat (first | refine blk_drewN ?_ _ | refine blk_drew ?_ | refine blk_alloc ?_ _)); refine blk_put (cs := #[.slice none 0 0]) ?_ 0 _ rfl; (with_reducible repeat (first | refine blk_drewN ?_ _ | refine blk_drew ?_ | refine blk_alloc ?_ _)); exact BK1252.out⟩
          have n5_ : Aside0 (Below w.heap.size w (w47.setCell ⟨gb1252, 0, none⟩ (.slice Ao48 t1249.length co48))) := ⟨by repeat (first | (with_reducible first | exact HB.out | apply below_alloc | apply pw_below_drewN | apply below_drew1 | refine below_set ?_ GE1232.out | refine below_set ?_ GE1233.out | refine below_set ?_ GE1252.out) | exact HB.out)⟩
          (try clear HO1236)
          (try clear HO1251)
          (try clear BK1232)
          (try clear BK1233)
          (try clear BK1252)
          (try clear HB)
          generalize (w47.setCell ⟨gb1252, 0, none⟩ (.slice Ao48 t1249.length co48)) = w50 at n0_ n1_ n2_ n3_ n4_ n5_ ⊢
          have HO1236 := n0_
          have HO1251 := n1_
          have BK1232 := n2_
          have BK1233 := n3_
          have BK1252 := n4_
          have HB := n5_
          clear n0_ n1_ n2_ n3_ n4_ n5_
          have n0_ := Aside0.mk (Kd.R_drew HO1236.out)
          have n1_ := Aside0.mk (Kd.S_drew HO1251.out)
          have n2_ := Aside0.mk (blk_drew BK1232.out)
          have n3_ := Aside0.mk (blk_drew BK1233.out)
          have n4_ := Aside0.mk (blk_drew BK1252.out)
          have n5_ := Aside0.mk (below_drew1 HB.out)
          clear HO1236
          clear HO1251
          clear BK1232
          clear BK1233
          clear BK1252
          clear HB
          have HO1236 := n0_
          have HO1251 := n1_
          have BK1232 := n2_
          have BK1233 := n3_
          have BK1252 := n4_
          have HB := n5_
          clear n0_ n1_ n2_ n3_ n4_ n5_
          refine start_ (n := 14) (S := fun w' => w'.cell? ⟨gb1252, 0, none⟩ = some (.slice Ao48 t1249.length co48) ∧ w'.cell? ⟨gb1232, 0, none⟩ = some (.slice A0_0 l0_0.length c0_0) ∧ w'.cell? ⟨gb1232, 1, none⟩ = some (.int .i64 a0_1) ∧ w'.cell? ⟨gb1232, 2, none⟩ = some (.int .i64 a0_2) ∧ w'.cell? ⟨gb1232, 3, none⟩ = some (.int .i64 a0_3) ∧ w'.cell? ⟨gb1232, 4, none⟩ = some (.int .i64 a0_4) ∧ w'.cell? ⟨gb1232, 5, none⟩ = some (.int .i64 a0_5) ∧ w'.cell? ⟨gb1232, 6, none⟩ = some (.int .i64 a0_6)) (ds := []) #[false, false, false, false, false, false, false, false, false, false, false, false, false, false] (by kernel_rfl) rfl rfl ⟨(blk_cell BK1252.out 0).trans rfl, (blk_cell BK1232.out 0).trans rfl, (blk_cell BK1232.out 1).trans rfl, (blk_cell BK1232.out 2).trans rfl, (blk_cell BK1232.out 3).trans rfl, (blk_cell BK1232.out 4).trans rfl, (blk_cell BK1232.out 5).trans rfl, (blk_cell BK1232.out 6).trans rfl⟩ (fun hHeld => ?_); refine with_tabW spec_l6Move.tab6 spec_l6Move.bits6 (fun HT_ HW_ => ?_)
          generalize w50.drew = w51 at HO1236 HO1251 BK1232 BK1233 BK1252 HB hHeld ⊢
          refine pure_ (i := 1) (N := some 64) (v := ?_) (a' := ?_) #[false, true, false, false, false, false, false, false, false, false, false, false, false, false] rfl rfl (any_of HT_.out (by kernel_rfl)) (fun _ _ _ h => h) (Or.inl ⟨by rfl, ?_⟩) ?_ ?_
          rotate_left
          · intro w'
            go_simp
            with_reducible rfl
          rotate_left
          · simp only [Act.put, List.setIfInBounds_toArray, List.set_cons_zero, List.set_cons_succ, i64_w, i32_w]
            rfl
          refine pure_ (i := 3) (N := some 66) (v := ?_) (a' := ?_) #[false, true, false, true, false, false, false, false, false, false, false, false, false, false] rfl rfl (any_of HT_.out (by kernel_rfl)) (fun _ _ _ h => h) (Or.inl ⟨by rfl, ?_⟩) ?_ ?_
          rotate_left
          · intro w'
            go_simp
            with_reducible rfl
          rotate_left
          · simp only [Act.put, List.setIfInBounds_toArray, List.set_cons_zero, List.set_cons_succ, i64_w, i32_w]
            rfl
          refine pure_ (i := 4) (N := some 67) (v := ?_) (a' := ?_) #[false, true, false, true, true, false, false, false, false, false, false, false, false, false] rfl rfl (any_of HT_.out (by kernel_rfl)) (fun _ _ _ h => h) (Or.inl ⟨by rfl, ?_⟩) ?_ ?_
          rotate_left
          · intro w'
            go_simp
            with_reducible rfl
          rotate_left
          · simp only [Act.put, List.setIfInBounds_toArray, List.set_cons_zero, List.set_cons_succ, i64_w, i32_w]
            rfl
          refine pure_ (i := 5) (N := some 68) (v := ?_) (a' := ?_) #[false, true, false, true, true, true, false, false, false, false, false, false, false, false] rfl rfl (any_of HT_.out (by kernel_rfl)) (fun _ _ _ h => h) (Or.inl ⟨by rfl, ?_⟩) ?_ ?_
          rotate_left
          · intro w'
            go_simp
            with_reducible rfl
          rotate_left
          · simp only [Act.put, List.setIfInBounds_toArray, List.set_cons_zero, List.set_cons_succ, i64_w, i32_w]
            rfl
          refine pure_ (i := 6) (N := some 69) (v := ?_) (a' := ?_) #[false, true, false, true, true, true, true, false, false, false, false, false, false, false] rfl rfl (any_of HT_.out (by kernel_rfl)) (fun _ _ _ h => h) (Or.inl ⟨by rfl, ?_⟩) ?_ ?_
          rotate_left
          · intro w'
            go_simp
            with_reducible rfl
          rotate_left
          · simp only [Act.put, List.setIfInBounds_toArray, List.set_cons_zero, List.set_cons_succ, i64_w, i32_w]
            rfl
          refine pure_ (i := 8) (N := some 71) (v := ?_) (a' := ?_) #[false, true, false, true, true, true, true, false, true, false, false, false, false, false] rfl rfl (any_of HT_.out (by kernel_rfl)) (fun _ _ _ h => h) (Or.inl ⟨by rfl, ?_⟩) ?_ ?_
          rotate_left
          · intro w'
            go_simp
            with_reducible rfl
          rotate_left
          · simp only [Act.put, List.setIfInBounds_toArray, List.set_cons_zero, List.set_cons_succ, i64_w, i32_w]
            rfl
          refine pure_ (i := 9) (N := some 72) (v := ?_) (a' := ?_) #[false, true, false, true, true, true, true, false, true, true, false, false, false, false] rfl rfl (any_of HT_.out (by kernel_rfl)) (fun _ _ _ h => h) (Or.inl ⟨by rfl, ?_⟩) ?_ ?_
          rotate_left
          · intro w'
            go_simp
            with_reducible rfl
          rotate_left
          · simp only [Act.put, List.setIfInBounds_toArray, List.set_cons_zero, List.set_cons_succ, i64_w, i32_w]
            rfl
          refine take_ (i := 0) (N := some 63) (v := ?_) (a' := ?_) #[true, true, false, true, true, true, true, false, true, true, false, false, false, false] rfl rfl (take_ofW HT_.out HW_.out (by kernel_rfl)) (fun _ _ _ h => h) (Or.inl ⟨by rfl, ?_⟩) hHeld ?_ ?_
          rotate_left
          · rintro w' ⟨s0, s1, s2, s3, s4, s5, s6, s7⟩
            go_simp
            with_reducible rfl
          rotate_left
          · simp only [Act.put, List.setIfInBounds_toArray, List.set_cons_zero, List.set_cons_succ, i64_w, i32_w]
            rfl
          refine take_ (i := 2) (N := some 65) (v := ?_) (a' := ?_) #[true, true, true, true, true, true, true, false, true, true, false, false, false, false] rfl rfl (take_ofW HT_.out HW_.out (by kernel_rfl)) (fun _ _ _ h => h) (Or.inl ⟨by rfl, ?_⟩) hHeld ?_ ?_
          rotate_left
          · rintro w' ⟨s0, s1, s2, s3, s4, s5, s6, s7⟩
            go_simp
            with_reducible rfl
          rotate_left
          · simp only [Act.put, List.setIfInBounds_toArray, List.set_cons_zero, List.set_cons_succ, i64_w, i32_w]
            rfl
          refine pure_ (i := 7) (N := some 70) (v := ?_) (a' := ?_) #[true, true, true, true, true, true, true, true, true, true, false, false, false, false] rfl rfl (any_of HT_.out (by kernel_rfl)) (fun _ _ _ h => h) (Or.inl ⟨by rfl, ?_⟩) ?_ ?_
          rotate_left
          · intro w'
            go_simp
            with_reducible rfl
          rotate_left
          · simp only [Act.put, List.setIfInBounds_toArray, List.set_cons_zero, List.set_cons_succ, i64_w, i32_w]
            rfl
          refine take_ (i := 10) (N := some 73) (v := ?_) (a' := ?_) #[true, true, true, true, true, true, true, true, true, true, true, false, false, false] rfl rfl (take_ofW HT_.out HW_.out (by kernel_rfl)) (fun _ _ _ h => h) (Or.inl ⟨by rfl, ?_⟩) hHeld ?_ ?_
          rotate_left
          · rintro w' ⟨s0, s1, s2, s3, s4, s5, s6, s7⟩
            go_simp
            with_reducible rfl
          rotate_left
          · simp only [Act.put, List.setIfInBounds_toArray, List.set_cons_zero, List.set_cons_succ, i64_w, i32_w]
            rfl
          refine pure_ (i := 11) (N := some 74) (v := ?_) (a' := ?_) #[true, true, true, true, true, true, true, true, true, true, true, true, false, false] rfl rfl (any_of HT_.out (by kernel_rfl)) (fun _ _ _ h => h) (Or.inl ⟨by rfl, ?_⟩) ?_ ?_
          rotate_left
          · intro w'
            go_simp
            with_reducible rfl
          rotate_left
          · simp only [Act.put, List.setIfInBounds_toArray, List.set_cons_zero, List.set_cons_succ, i64_w, i32_w]
            rfl
          refine one_ (i := 12) (N := none) #[true, true, true, true, true, true, true, true, true, true, true, true, true, false] rfl rfl (one_of HT_.out (by kernel_rfl)) (by decide) (fun K hK => ?_)
          have hs52 : w51.cell? ⟨gb1233, 0, none⟩ = some (.slice none 0 0) := (blk_cell BK1233.out 0).trans rfl
          have hfs52 := blk_frozen BK1233.out 0
          have hns52_0 := NB1232_1233.out
          have hns52_2 := NB1252_1233.out
          have hms52_0 := NB1233_1232.out
          have hms52_2 := NB1233_1252.out
          have hs53 : w51.cell? ⟨gb1233, 1, none⟩ = some (.int .i64 0) := (blk_cell BK1233.out 1).trans rfl
          have hfs53 := blk_frozen BK1233.out 1
          have hns53_0 := NB1232_1233.out
          have hns53_2 := NB1252_1233.out
          have hms53_0 := NB1233_1232.out
          have hms53_2 := NB1233_1252.out
          have hs54 : w51.cell? ⟨gb1233, 2, none⟩ = some (.int .i64 0) := (blk_cell BK1233.out 2).trans rfl
          have hfs54 := blk_frozen BK1233.out 2
          have hns54_0 := NB1232_1233.out
          have hns54_2 := NB1252_1233.out
          have hms54_0 := NB1233_1232.out
          have hms54_2 := NB1233_1252.out
          have hs55 : w51.cell? ⟨gb1233, 3, none⟩ = some (.int .i64 0) := (blk_cell BK1233.out 3).trans rfl
          have hfs55 := blk_frozen BK1233.out 3
          have hns55_0 := NB1232_1233.out
          have hns55_2 := NB1252_1233.out
          have hms55_0 := NB1233_1232.out
          have hms55_2 := NB1233_1252.out
          have hs56 : w51.cell? ⟨gb1233, 4, none⟩ = some (.int .i64 0) := (blk_cell BK1233.out 4).trans rfl
          have hfs56 := blk_frozen BK1233.out 4
          have hns56_0 := NB1232_1233.out
          have hns56_2 := NB1252_1233.out
          have hms56_0 := NB1233_1232.out
          have hms56_2 := NB1233_1252.out
          have hs57 : w51.cell? ⟨gb1233, 5, none⟩ = some (.int .i64 0) := (blk_cell BK1233.out 5).trans rfl
          have hfs57 := blk_frozen BK1233.out 5
          have hns57_0 := NB1232_1233.out
          have hns57_2 := NB1252_1233.out
          have hms57_0 := NB1233_1232.out
          have hms57_2 := NB1233_1252.out
          have hs58 : w51.cell? ⟨gb1233, 6, none⟩ = some (.int .i64 0) := (blk_cell BK1233.out 6).trans rfl
          have hfs58 := blk_frozen BK1233.out 6
          have hns58_0 := NB1232_1233.out
          have hns58_2 := NB1252_1233.out
          have hms58_0 := NB1233_1232.out
          have hms58_2 := NB1233_1252.out
          refine skip_ (w1 := ?_) (by rfl) rfl ?_ ?_
          rotate_left
          · go_simp
            rfl
          refine hK.out _ _ ⟨((cell_far (p := ⟨gb1233, _, none⟩) NB1252_1233.out _).trans (((cell_far (p := ⟨gb1233, _, none⟩) NB1252_1233.out _).trans (((cell_far (p := ⟨gb1233, _, none⟩) NB1252_1233.out _).trans (((cell_far (p := ⟨gb1233, _, none⟩) NB1252_1233.out _).trans (((cell_far (p := ⟨gb1233, _, none⟩) NB1252_1233.out _).trans (((cell_far (p := ⟨gb1233, _, none⟩) NB1252_1233.out _).trans (((cell_far (p := ⟨gb1233, _, none⟩) NB1252_1233.out _).trans (hHeld.1)))))))))))))), ((cell_far (p := ⟨gb1233, _, none⟩) NB1232_1233.out _).trans (((cell_far (p := ⟨gb1233, _, none⟩) NB1232_1233.out _).trans (((cell_far (p := ⟨gb1233, _, none⟩) NB1232_1233.out _).trans (((cell_far (p := ⟨gb1233, _, none⟩) NB1232_1233.out _).trans (((cell_far (p := ⟨gb1233, _, none⟩) NB1232_1233.out _).trans (((cell_far (p := ⟨gb1233, _, none⟩) NB1232_1233.out _).trans (((cell_far (p := ⟨gb1233, _, none⟩) NB1232_1233.out _).trans (hHeld.2.1)))))))))))))), ((cell_far (p := ⟨gb1233, _, none⟩) NB1232_1233.out _).trans (((cell_far (p := ⟨gb1233, _, none⟩) NB1232_1233.out _).trans (((cell_far (p := ⟨gb1233, _, none⟩) NB1232_1233.out _).trans (((cell_far (p := ⟨gb1233, _, none⟩) NB1232_1233.out _).trans (((cell_far (p := ⟨gb1233, _, none⟩) NB1232_1233.out _).trans (((cell_far (p := ⟨gb1233, _, none⟩) NB1232_1233.out _).trans (((cell_far (p := ⟨gb1233, _, none⟩) NB1232_1233.out _).trans (hHeld.2.2.1)))))))))))))), ((cell_far (p := ⟨gb1233, _, none⟩) NB1232_1233.out _).trans (((cell_far (p := ⟨gb1233, _, none⟩) NB1232_1233.out _).trans (((cell_far (p := ⟨gb1233, _, none⟩) NB1232_1233.out _).trans (((cell_far (p := ⟨gb1233, _, none⟩) NB1232_1233.out _).trans (((cell_far (p := ⟨gb1233, _, none⟩) NB1232_1233.out _).trans (((cell_far (p := ⟨gb1233, _, none⟩) NB1232_1233.out _).trans (((cell_far (p := ⟨gb1233, _, none⟩) NB1232_1233.out _).trans (hHeld.2.2.2.1)))))))))))))), ((cell_far (p := ⟨gb1233, _, none⟩) NB1232_1233.out _).trans (((cell_far (p := ⟨gb1233, _, none⟩) NB1232_1233.out _).trans (((cell_far (p := ⟨gb1233, _, none⟩) NB1232_1233.out _).trans (((cell_far (p := ⟨gb1233, _, none⟩) NB1232_1233.out _).trans (((cell_far (p := ⟨gb1233, _, none⟩) NB1232_1233.out _).trans (((cell_far (p := ⟨gb1233, _, none⟩) NB1232_1233.out _).trans (((cell_far (p := ⟨gb1233, _, none⟩) NB1232_1233.out _).trans (hHeld.2.2.2.2.1)))))))))))))), ((cell_far (p := ⟨gb1233, _, none⟩) NB1232_1233.out _).trans (((cell_far (p := ⟨gb1233, _, none⟩) NB1232_1233.out _).trans (((cell_far (p := ⟨gb1233, _, none⟩) NB1232_1233.out _).trans (((cell_far (p := ⟨gb1233, _, none⟩) NB1232_1233.out _).trans (((cell_far (p := ⟨gb1233, _, none⟩) NB1232_1233.out _).trans (((cell_far (p := ⟨gb1233, _, none⟩) NB1232_1233.out _).trans (((cell_far (p := ⟨gb1233, _, none⟩) NB1232_1233.out _).trans (hHeld.2.2.2.2.2.1)))))))))))))), ((cell_far (p := ⟨gb1233, _, none⟩) NB1232_1233.out _).trans (((cell_far (p := ⟨gb1233, _, none⟩) NB1232_1233.out _).trans (((cell_far (p := ⟨gb1233, _, none⟩) NB1232_1233.out _).trans (((cell_far (p := ⟨gb1233, _, none⟩) NB1232_1233.out _).trans (((cell_far (p := ⟨gb1233, _, none⟩) NB1232_1233.out _).trans (((cell_far (p := ⟨gb1233, _, none⟩) NB1232_1233.out _).trans (((cell_far (p := ⟨gb1233, _, none⟩) NB1232_1233.out _).trans (hHeld.2.2.2.2.2.2.1)))))))))))))), ((cell_far (p := ⟨gb1233, _, none⟩) NB1232_1233.out _).trans (((cell_far (p := ⟨gb1233, _, none⟩) NB1232_1233.out _).trans (((cell_far (p := ⟨gb1233, _, none⟩) NB1232_1233.out _).trans (((cell_far (p := ⟨gb1233, _, none⟩) NB1232_1233.out _).trans (((cell_far (p := ⟨gb1233, _, none⟩) NB1232_1233.out _).trans (((cell_far (p := ⟨gb1233, _, none⟩) NB1232_1233.out _).trans (((cell_far (p := ⟨gb1233, _, none⟩) NB1232_1233.out _).trans (hHeld.2.2.2.2.2.2.2))))))))))))))⟩ (fun hHeld => ?_)
          clear hK K
          refine pure_ (i := 13) (N := some 5) (v := ?_) (a' := ?_) #[true, true, true, true, true, true, true, true, true, true, true, true, true, true] rfl rfl (any_of HT_.out (by kernel_rfl)) (fun _ _ _ h => h) (Or.inl ⟨by rfl, ?_⟩) ?_ ?_
          rotate_left
          · intro w'
            go_simp
            with_reducible rfl
          rotate_left
          · simp only [Act.put, List.setIfInBounds_toArray, List.set_cons_zero, List.set_cons_succ, i64_w, i32_w]
            rfl
          refine done_ (done_of HT_.out (by kernel_rfl)) ?_
          try go_wp2
          refine bodyPost_ret (results_ct rfl _ _ gb1233 53 #[.slice Ao48 t1249.length co48, .int .i64 a0_1, .int .i64 a0_2, .int .i64 a0_3, .int .i64 a0_4, .int .i64 a1, .int .i64 (wrap64 (a1 + (wrap64 (a0_6 - a0_5))))] (0, 0) _ rfl (by (with_reducible repeat (first | refine blk_drewN ?_ _ | refine blk_drew ?_ | refine blk_alloc ?_ _)); refine blk_put (cs := #[.slice Ao48 t1249.length co48, .int .i64 a0_1, .int .i64 a0_2, .int .i64 a0_3, .int .i64 a0_4, .int .i64 a1, .int .i64 0]) ?_ 6 _ rfl; (with_reducible repeat (first | refine blk_drewN ?_ _ | refine blk_drew ?_ | refine blk_alloc ?_ _)); refine blk_put (cs := #[.slice Ao48 t1249.length co48, .int .i64 a0_1, .int .i64 a0_2, .int .i64 a0_3, .int .i64 a0_4, .int .i64 0, .int .i64 0]) ?_ 5 _ rfl; (with_reducible repeat (first | refine blk_drewN ?_ _ | refine blk_drew ?_ | refine blk_alloc ?_ _)); refine blk_put (cs := #[.slice Ao48 t1249.length co48, .int .i64 a0_1, .int .i64 a0_2, .int .i64 a0_3, .int .i64 0, .int .i64 0, .int .i64 0]) ?_ 4 _ rfl; (with_reducible repeat (first | refine blk_drewN ?_ _ | refine blk_drew ?_ | refine blk_alloc ?_ _)); refine blk_put (cs := #[.slice Ao48 t1249.length co48, .int .i64 a0_1, .int .i64 a0_2, .int .i64 0, .int .i64 0, .int .i64 0, .int .i64 0]) ?_ 3 _ rfl; (with_reducible repeat (first | refine blk_drewN ?_ _ | refine blk_drew ?_ | refine blk_alloc ?_ _)); refine blk_put (cs := #[.slice Ao48 t1249.length co48, .int .i64 a0_1, .int .i64 0, .int .i64 0, .int .i64 0, .int .i64 0, .int .i64 0]) ?_ 2 _ rfl; (with_reducible repeat (first | refine blk_drewN ?_ _ | refine blk_drew ?_ | refine blk_alloc ?_ _)); refine blk_put (cs := #[.slice Ao48 t1249.length co48, .int .i64 0, .int .i64 0, .int .i64 0, .int .i64 0, .int .i64 0, .int .i64 0]) ?_ 1 _ rfl; (with_reducible repeat (first | refine blk_drewN ?_ _ | refine blk_drew ?_ | refine blk_alloc ?_ _)); refine blk_put (cs := #[.slice none 0 0, .int .i64 0, .int .i64 0, .int .i64 0, .int .i64 0, .int .i64 0, .int .i64 0]) ?_ 0 _ rfl; (with_reducible repeat (first | refine blk_drewN ?_ _ | refine blk_drew ?_ | refine blk_alloc ?_ _)); exact BK1233.out) Try.underlying53 rfl (by kernel_rfl)) rfl ?_
          exact ⟨_, by first | rfl | (simp [errW_none, errW_some] <;> rfl) | (simp [*, errW_none, errW_some] <;> rfl), by (with_reducible repeat (first | apply Kd.S_alloc | apply Kd.S_drewN | apply Kd.S_drew)); exact Kd.S_mono (Kd.S_far (p := ⟨gb1233, 6, none⟩) (Kd.S_far (p := ⟨gb1233, 5, none⟩) (Kd.S_far (p := ⟨gb1233, 4, none⟩) (Kd.S_far (p := ⟨gb1233, 3, none⟩) (Kd.S_far (p := ⟨gb1233, 2, none⟩) (Kd.S_far (p := ⟨gb1233, 1, none⟩) (Kd.S_far (p := ⟨gb1233, 0, none⟩) (Kd.S_types HO1251.out BK1233.out (by decide)) (fun _ hk => hk.2) (.slice Ao48 t1249.length co48)) (fun _ hk => hk.2) (.int .i64 a0_1)) (fun _ hk => hk.2) (.int .i64 a0_2)) (fun _ hk => hk.2) (.int .i64 a0_3)) (fun _ hk => hk.2) (.int .i64 a0_4)) (fun _ hk => hk.2) (.int .i64 a1)) (fun _ hk => hk.2) (.int .i64 (wrap64 (a1 + (wrap64 (a0_6 - a0_5)))))) (fun _ hk => trivial), by repeat (first | (with_reducible first | exact HB.out | apply below_alloc | apply pw_below_drewN | apply below_drew1 | refine below_set ?_ GE1232.out | refine below_set ?_ GE1233.out | refine below_set ?_ GE1252.out) | exact HB.out)⟩
        · rw [if_neg c34] at H
          exact absurd H (by simp)
      · rw [if_neg c33] at H
        exact absurd H (by simp)
    · rw [if_neg c32] at H
      exact absurd H (by simp)

end Go.Proofs.Ytaieobidkmihkaa.P


namespace Go.Proofs.Ytaieobidkmihkaa.P
open Go.RowKit Go.Proofs.YtaieobidkmihkaaW.PrintWords Go.Proofs.YtaieobidkmihkaaW.PrintLast Go.Proofs.YtaieobidkmihkaaW.PrintMore
attribute [local go_sem] max2_int min2_int max_two min_two max_three min_three max_four min_four   -- for this text's walks alone
set_option linter.unusedVariables false
set_option linter.unusedSimpArgs false

/-! ### spec_MoveGap: function 61 -/
def spec_MoveGap.f (k : Nat) (l0_0 : List (List Int)) (a0_1 : Int) (a0_2 : Int) (a0_3 : Int) (a0_4 : Int) (a0_5 : Int) (a0_6 : Int) (a1 : Int) : Option ((List (List Int)) × Int × Int × Int × Int × Int × Int × Int × Bool) := (spec_l6Gap.f k l0_0 a0_1 a0_2 a0_3 a0_4 a0_5 a0_6).bind fun t1255 => (if t1255 = true then ((spec_l6Long.f l0_0 a0_1 a0_2 a0_3 a0_4 a0_5 a0_6).bind fun t1256 => ((spec_l1In.f a1 0 t1256).bind fun t1257 => (if t1257 = true then ((spec_l6Move.f k l0_0 a0_1 a0_2 a0_3 a0_4 a0_5 a0_6 a1).bind fun bt1258 => (some (bt1258.1, bt1258.2.1, bt1258.2.2.1, bt1258.2.2.2.1, bt1258.2.2.2.2.1, bt1258.2.2.2.2.2.1, bt1258.2.2.2.2.2.2.1, bt1258.2.2.2.2.2.2.2, true))) else (some (([] : List (List Int)), 0, 0, 0, 0, 0, 0, 0, false))))) else (some (([] : List (List Int)), 0, 0, 0, 0, 0, 0, 0, false)))
set_option maxHeartbeats 8000000 in
set_option maxRecDepth 100000 in
theorem spec_MoveGap.calls (k : Nat) (A0_0 : Option Addr) (c0_0 : Nat) (l0_0 : List (List Int)) (a0_1 : Int) (a0_2 : Int) (a0_3 : Int) (a0_4 : Int) (a0_5 : Int) (a0_6 : Int) (a1 : Int) (r1 : List (List Int)) (r2 : Int) (r3 : Int) (r4 : Int) (r5 : Int) (r6 : Int) (r7 : Int) (r8 : Int) (r9 : Bool) (w : World) (hr0_0 : Kd.C (Kd.slice 5 (Kd.int .u8)) w A0_0 l0_0.length l0_0) (hc0_0 : l0_0.length ≤ c0_0) (h : spec_MoveGap.f k l0_0 a0_1 a0_2 a0_3 a0_4 a0_5 a0_6 a1 = some (r1, r2, r3, r4, r5, r6, r7, r8, r9)) :
    Calls Try.prog 61 #[.agg #[.slice A0_0 l0_0.length c0_0, .int .i64 a0_1, .int .i64 a0_2, .int .i64 a0_3, .int .i64 a0_4, .int .i64 a0_5, .int .i64 a0_6], .int .i64 a1] w fun e w' => ∃ v0_ : Value, e = .returned (.tuple #[.agg #[v0_, .int .i64 r2, .int .i64 r3, .int .i64 r4, .int .i64 r5, .int .i64 r6, .int .i64 r7], .int .i64 r8, .bool r9]) ∧ Kd.S (Kd.slice 5 (Kd.int .u8)) 29 w' w.heap.size (fun _ => True) v0_ r1 ∧ Below w.heap.size w w' := by
  have hu53 := Try.underlying53
  have HR0_0 := Aside0.mk hr0_0
  have HC0_0 := Aside0.mk hc0_0
  clear hr0_0 hc0_0
  have HB := Aside0.mk (Below.refl w.heap.size w)
  have H : ((spec_l6Gap.f k l0_0 a0_1 a0_2 a0_3 a0_4 a0_5 a0_6).bind fun t1255 => (if t1255 = true then ((spec_l6Long.f l0_0 a0_1 a0_2 a0_3 a0_4 a0_5 a0_6).bind fun t1256 => ((spec_l1In.f a1 0 t1256).bind fun t1257 => (if t1257 = true then ((spec_l6Move.f k l0_0 a0_1 a0_2 a0_3 a0_4 a0_5 a0_6 a1).bind fun bt1258 => (some (bt1258.1, bt1258.2.1, bt1258.2.2.1, bt1258.2.2.2.1, bt1258.2.2.2.2.1, bt1258.2.2.2.2.2.1, bt1258.2.2.2.2.2.2.1, bt1258.2.2.2.2.2.2.2, true))) else (some (([] : List (List Int)), 0, 0, 0, 0, 0, 0, 0, false))))) else (some (([] : List (List Int)), 0, 0, 0, 0, 0, 0, 0, false)))) = some (r1, r2, r3, r4, r5, r6, r7, r8, r9) := h
  clear h
  replace H := Option.bind_eq_some_iff.mp H
  obtain ⟨t1255, A30, H⟩ := H
  replace H : (if t1255 = true then ((spec_l6Long.f l0_0 a0_1 a0_2 a0_3 a0_4 a0_5 a0_6).bind fun t1256 => ((spec_l1In.f a1 0 t1256).bind fun t1257 => (if t1257 = true then ((spec_l6Move.f k l0_0 a0_1 a0_2 a0_3 a0_4 a0_5 a0_6 a1).bind fun bt1258 => (some (bt1258.1, bt1258.2.1, bt1258.2.2.1, bt1258.2.2.2.1, bt1258.2.2.2.2.1, bt1258.2.2.2.2.2.1, bt1258.2.2.2.2.2.2.1, bt1258.2.2.2.2.2.2.2, true))) else (some (([] : List (List Int)), 0, 0, 0, 0, 0, 0, 0, false))))) else (some (([] : List (List Int)), 0, 0, 0, 0, 0, 0, 0, false))) = some (r1, r2, r3, r4, r5, r6, r7, r8, r9) := H
  have A3 := Aside0.mk A30
  clear A30
  by_cases c4 : t1255 = true
  · subst c4
    have H1 : ((spec_l6Long.f l0_0 a0_1 a0_2 a0_3 a0_4 a0_5 a0_6).bind fun t1256 => ((spec_l1In.f a1 0 t1256).bind fun t1257 => (if t1257 = true then ((spec_l6Move.f k l0_0 a0_1 a0_2 a0_3 a0_4 a0_5 a0_6 a1).bind fun bt1258 => (some (bt1258.1, bt1258.2.1, bt1258.2.2.1, bt1258.2.2.2.1, bt1258.2.2.2.2.1, bt1258.2.2.2.2.2.1, bt1258.2.2.2.2.2.2.1, bt1258.2.2.2.2.2.2.2, true))) else (some (([] : List (List Int)), 0, 0, 0, 0, 0, 0, 0, false))))) = some (r1, r2, r3, r4, r5, r6, r7, r8, r9) := by rw [if_pos rfl] at H; exact H
    clear H
    have H := H1
    clear H1
    replace H := Option.bind_eq_some_iff.mp H
    obtain ⟨t1256, A50, H⟩ := H
    replace H : ((spec_l1In.f a1 0 t1256).bind fun t1257 => (if t1257 = true then ((spec_l6Move.f k l0_0 a0_1 a0_2 a0_3 a0_4 a0_5 a0_6 a1).bind fun bt1258 => (some (bt1258.1, bt1258.2.1, bt1258.2.2.1, bt1258.2.2.2.1, bt1258.2.2.2.2.1, bt1258.2.2.2.2.2.1, bt1258.2.2.2.2.2.2.1, bt1258.2.2.2.2.2.2.2, true))) else (some (([] : List (List Int)), 0, 0, 0, 0, 0, 0, 0, false)))) = some (r1, r2, r3, r4, r5, r6, r7, r8, r9) := H
    have A5 := Aside0.mk A50
    clear A50
    replace H := Option.bind_eq_some_iff.mp H
    obtain ⟨t1257, A60, H⟩ := H
    replace H : (if t1257 = true then ((spec_l6Move.f k l0_0 a0_1 a0_2 a0_3 a0_4 a0_5 a0_6 a1).bind fun bt1258 => (some (bt1258.1, bt1258.2.1, bt1258.2.2.1, bt1258.2.2.2.1, bt1258.2.2.2.2.1, bt1258.2.2.2.2.2.1, bt1258.2.2.2.2.2.2.1, bt1258.2.2.2.2.2.2.2, true))) else (some (([] : List (List Int)), 0, 0, 0, 0, 0, 0, 0, false))) = some (r1, r2, r3, r4, r5, r6, r7, r8, r9) := H
    have A6 := Aside0.mk A60
    clear A60
    by_cases c7 : t1257 = true
    · subst c7
      have H1 : ((spec_l6Move.f k l0_0 a0_1 a0_2 a0_3 a0_4 a0_5 a0_6 a1).bind fun bt1258 => (some (bt1258.1, bt1258.2.1, bt1258.2.2.1, bt1258.2.2.2.1, bt1258.2.2.2.2.1, bt1258.2.2.2.2.2.1, bt1258.2.2.2.2.2.2.1, bt1258.2.2.2.2.2.2.2, true))) = some (r1, r2, r3, r4, r5, r6, r7, r8, r9) := by rw [if_pos rfl] at H; exact H
      clear H
      have H := H1
      clear H1
      replace H := Option.bind_eq_some_iff.mp H
      obtain ⟨⟨t1258, t1261, t1262, t1263, t1264, t1265, t1266, t1267⟩, A80, H⟩ := H
      replace H : (some (t1258, t1261, t1262, t1263, t1264, t1265, t1266, t1267, true)) = some (r1, r2, r3, r4, r5, r6, r7, r8, r9) := H
      have A8 := Aside0.mk A80
      clear A80
      simp only [Option.some.injEq, Prod.mk.injEq] at H
      obtain ⟨rfl, rfl, rfl, rfl, rfl, rfl, rfl, rfl, rfl⟩ := H
      go_enter Try.func61, Try.ntmps61
      go_wp2_with (first | ((with_reducible refine gate_dst (N := 2) rfl ?_); refine box_event ?hg (N := 2) ?hd (cs := #[.slice A0_0 l0_0.length c0_0, .int .i64 a0_1, .int .i64 a0_2, .int .i64 a0_3, .int .i64 a0_4, .int .i64 a0_5, .int .i64 a0_6]) (t := 53) ?hr ?_; (case hd => rfl); (case hg => rfl); (case hr => first | (go_simp; done) | (go_simp; rfl)); intro gb1253 hg w9 hbox hb; have n0_ := Aside0.mk (below_step (by repeat (first | (with_reducible first | exact HB.out | apply below_alloc | apply pw_below_drewN | apply below_drew1) | exact HB.out)) hb); have n1_ := Aside0.mk (hbox); have n2_ := Aside0.mk ((by rw [hg]; exact (below_size (by repeat (first | (with_reducible first | exact HB.out | apply below_alloc | apply pw_below_drewN | apply below_drew1) | exact HB.out))) : w.heap.size ≤ gb1253)); have n3_ := Aside0.mk ((by rw [hg]; exact (below_size (by repeat (first | (with_reducible first | exact HB.out | apply below_alloc | apply pw_below_drewN | apply below_drew1) | exact HB.out))) : w.heap.size ≤ gb1253)); clear HB; have HB := n0_; have BK1253 := n1_; have GW1253 := n2_; have GE1253 := n3_; clear n0_ n1_ n2_ n3_; clear hb hbox hg) | ((with_reducible refine gate_dst (N := 4) rfl ?_); refine box_event ?hg (N := 4) ?hd (cs := #[.slice none 0 0, .int .i64 0, .int .i64 0, .int .i64 0, .int .i64 0, .int .i64 0, .int .i64 0]) (t := 53) ?hr ?_; (case hd => rfl); (case hg => rfl); (case hr => first | (go_simp; done) | (go_simp; rfl)); intro gb1254 hg w10 hbox hb; have n0_ := Aside0.mk (blk_below (g := gb1253) (o := .cells #[.slice A0_0 l0_0.length c0_0, .int .i64 a0_1, .int .i64 a0_2, .int .i64 a0_3, .int .i64 a0_4, .int .i64 a0_5, .int .i64 a0_6] 53 (0, 0)) (by (with_reducible repeat (first | refine blk_drewN ?_ _ | refine blk_drew ?_ | refine blk_alloc ?_ _)); exact BK1253.out) hb); have n1_ := Aside0.mk (below_step (by repeat (first | (with_reducible first | exact HB.out | apply below_alloc | apply pw_below_drewN | apply below_drew1 | refine below_set ?_ GE1253.out) | exact HB.out)) hb); have n2_ := Aside0.mk (hbox); have n3_ := Aside0.mk ((by rw [hg]; exact (below_size (by repeat (first | (with_reducible first | exact HB.out | apply below_alloc | apply pw_below_drewN | apply below_drew1 | refine below_set ?_ GE1253.out) | exact HB.out))) : w.heap.size ≤ gb1254)); have n4_ := Aside0.mk ((by rw [hg]; exact (below_size (by repeat (first | (with_reducible first | exact HB.out | apply below_alloc | apply pw_below_drewN | apply below_drew1 | refine below_set ?_ GE1253.out) | exact HB.out))) : w.heap.size ≤ gb1254)); have n5_ := Aside0.mk ((by rw [hg]; exact Nat.ne_of_lt (blk_lt (g := gb1253) (o := .cells #[.slice A0_0 l0_0.length c0_0, .int .i64 a0_1, .int .i64 a0_2, .int .i64 a0_3, .int .i64 a0_4, .int .i64 a0_5, .int .i64 a0_6] 53 (0, 0)) (by (with_reducible repeat (first | refine blk_drewN ?_ _ | refine blk_drew ?_ | refine blk_alloc ?_ _)); exact BK1253.out)) : gb1253 ≠ gb1254)); have n6_ := Aside0.mk ((by rw [hg]; exact Nat.ne_of_gt (blk_lt (g := gb1253) (o := .cells #[.slice A0_0 l0_0.length c0_0, .int .i64 a0_1, .int .i64 a0_2, .int .i64 a0_3, .int .i64 a0_4, .int .i64 a0_5, .int .i64 a0_6] 53 (0, 0)) (by (with_reducible repeat (first | refine blk_drewN ?_ _ | refine blk_drew ?_ | refine blk_alloc ?_ _)); exact BK1253.out)) : gb1254 ≠ gb1253)); clear BK1253; clear HB; have BK1253 := n0_; have HB := n1_; have BK1254 := n2_; have GW1254 := n3_; have GE1254 := n4_; have NB1253_1254 := n5_; have NB1254_1253 := n6_; clear n0_ n1_ n2_ n3_ n4_ n5_ n6_; clear hb hbox hg; have hnb11 := NB1253_1254.out; have hnc11 := NB1254_1253.out; have hcz12_0 : w10.cell? ⟨gb1253, 0, none⟩ = some (.slice A0_0 l0_0.length c0_0) := (blk_cell BK1253.out 0).trans rfl; have hcz12_1 : w10.cell? ⟨gb1253, 1, none⟩ = some (.int .i64 a0_1) := (blk_cell BK1253.out 1).trans rfl; have hcz12_2 : w10.cell? ⟨gb1253, 2, none⟩ = some (.int .i64 a0_2) := (blk_cell BK1253.out 2).trans rfl; have hcz12_3 : w10.cell? ⟨gb1253, 3, none⟩ = some (.int .i64 a0_3) := (blk_cell BK1253.out 3).trans rfl; have hcz12_4 : w10.cell? ⟨gb1253, 4, none⟩ = some (.int .i64 a0_4) := (blk_cell BK1253.out 4).trans rfl; have hcz12_5 : w10.cell? ⟨gb1253, 5, none⟩ = some (.int .i64 a0_5) := (blk_cell BK1253.out 5).trans rfl; have hcz12_6 : w10.cell? ⟨gb1253, 6, none⟩ = some (.int .i64 a0_6) := (blk_cell BK1253.out 6).trans rfl; have hfz12_0 := blk_frozen BK1253.out 0; have hfz12_1 := blk_frozen BK1253.out 1; have hfz12_2 := blk_frozen BK1253.out 2; have hfz12_3 := blk_frozen BK1253.out 3; have hfz12_4 := blk_frozen BK1253.out 4; have hfz12_5 := blk_frozen BK1253.out 5; have hfz12_6 := blk_frozen BK1253.out 6) | ((with_reducible refine gate_callee (f := 77) rfl ?_); refine goesL_ (some 10) rfl rfl Try.func77 (by kernel_rfl) rfl #[.agg #[.slice A0_0 l0_0.length c0_0, .int .i64 a0_1, .int .i64 a0_2, .int .i64 a0_3, .int .i64 a0_4, .int .i64 a0_5, .int .i64 a0_6]] rfl (by (try simp only [List.map_toArray, List.map_cons, List.map_nil]); first | done | rfl | (simp only [List.length_drop, List.length_take]; rfl)) ?_; (with_reducible refine (spec_l6Gap.calls k _ _ l0_0 a0_1 a0_2 a0_3 a0_4 a0_5 a0_6 true _ ?side1 ?side2 A3.out).mono ?_); (case side1 => repeat (first | exact (Kd.C_below HR0_0.out HB.out) | (with_reducible refine Kd.C_alloc ?_ _) | (with_reducible refine Kd.C_drewN ?_ _) | (with_reducible refine Kd.C_drew ?_))); (case side2 => exact HC0_0.out); rintro e w13 ⟨rfl, hb⟩; refine ⟨_, rfl, ?_⟩; have n0_ := Aside0.mk (blk_below (g := gb1253) (o := .cells #[.slice A0_0 l0_0.length c0_0, .int .i64 a0_1, .int .i64 a0_2, .int .i64 a0_3, .int .i64 a0_4, .int .i64 a0_5, .int .i64 a0_6] 53 (0, 0)) (by (with_reducible repeat (first | refine blk_drewN ?_ _ | refine blk_drew ?_ | refine blk_alloc ?_ _)); exact BK1253.out) hb); have n1_ := Aside0.mk (blk_below (g := gb1254) (o := .cells #[.slice none 0 0, .int .i64 0, .int .i64 0, .int .i64 0, .int .i64 0, .int .i64 0, .int .i64 0] 53 (0, 0)) (by (with_reducible repeat (first | refine blk_drewN ?_ _ | refine blk_drew ?_ | refine blk_alloc ?_ _)); exact BK1254.out) hb); have n2_ := Aside0.mk (below_step (by repeat (first | (with_reducible first | exact HB.out | apply below_alloc | apply pw_below_drewN | apply below_drew1 | refine below_set ?_ GE1253.out | refine below_set ?_ GE1254.out) | exact HB.out)) hb); clear BK1253; clear BK1254; clear HB; have BK1253 := n0_; have BK1254 := n1_; have HB := n2_; clear n0_ n1_ n2_; (try clear hb); (try clear hb2); (try clear hk); (try clear hi); have hcz14_0 : w13.cell? ⟨gb1253, 0, none⟩ = some (.slice A0_0 l0_0.length c0_0) := (blk_cell BK1253.out 0).trans rfl; have hcz14_1 : w13.cell? ⟨gb1253, 1, none⟩ = some (.int .i64 a0_1) := (blk_cell BK1253.out 1).trans rfl; have hcz14_2 : w13.cell? ⟨gb1253, 2, none⟩ = some (.int .i64 a0_2) := (blk_cell BK1253.out 2).trans rfl; have hcz14_3 : w13.cell? ⟨gb1253, 3, none⟩ = some (.int .i64 a0_3) := (blk_cell BK1253.out 3).trans rfl; have hcz14_4 : w13.cell? ⟨gb1253, 4, none⟩ = some (.int .i64 a0_4) := (blk_cell BK1253.out 4).trans rfl; have hcz14_5 : w13.cell? ⟨gb1253, 5, none⟩ = some (.int .i64 a0_5) := (blk_cell BK1253.out 5).trans rfl; have hcz14_6 : w13.cell? ⟨gb1253, 6, none⟩ = some (.int .i64 a0_6) := (blk_cell BK1253.out 6).trans rfl; have hfz14_0 := blk_frozen BK1253.out 0; have hfz14_1 := blk_frozen BK1253.out 1; have hfz14_2 := blk_frozen BK1253.out 2; have hfz14_3 := blk_frozen BK1253.out 3; have hfz14_4 := blk_frozen BK1253.out 4; have hfz14_5 := blk_frozen BK1253.out 5; have hfz14_6 := blk_frozen BK1253.out 6) | (go_at_call 103; (with_reducible refine (spec_l6Long.calls _ _ l0_0 a0_1 a0_2 a0_3 a0_4 a0_5 a0_6 t1256 _ ?side1 ?side2 A5.out).mono ?_); (case side1 => repeat (first | exact (Kd.C_below HR0_0.out HB.out) | (with_reducible refine Kd.C_alloc ?_ _) | (with_reducible refine Kd.C_drewN ?_ _) | (with_reducible refine Kd.C_drew ?_))); (case side2 => exact HC0_0.out); rintro e w15 ⟨rfl, hb⟩; have n0_ := Aside0.mk (blk_below (g := gb1253) (o := .cells #[.slice A0_0 l0_0.length c0_0, .int .i64 a0_1, .int .i64 a0_2, .int .i64 a0_3, .int .i64 a0_4, .int .i64 a0_5, .int .i64 a0_6] 53 (0, 0)) (by (with_reducible repeat (first | refine blk_drewN ?_ _ | refine blk_drew ?_ | refine blk_alloc ?_ _)); exact BK1253.out) hb); have n1_ := Aside0.mk (blk_below (g := gb1254) (o := .cells #[.slice none 0 0, .int .i64 0, .int .i64 0, .int .i64 0, .int .i64 0, .int .i64 0, .int .i64 0] 53 (0, 0)) (by (with_reducible repeat (first | refine blk_drewN ?_ _ | refine blk_drew ?_ | refine blk_alloc ?_ _)); exact BK1254.out) hb); have n2_ := Aside0.mk (below_step (by repeat (first | (with_reducible first | exact HB.out | apply below_alloc | apply pw_below_drewN | apply below_drew1 | refine below_set ?_ GE1253.out | refine below_set ?_ GE1254.out) | exact HB.out)) hb); clear BK1253; clear BK1254; clear HB; have BK1253 := n0_; have BK1254 := n1_; have HB := n2_; clear n0_ n1_ n2_; (try clear hb); (try clear hb2); (try clear hk); (try clear hi)) | (go_at_call 78; (with_reducible refine (spec_l1In.calls a1 0 t1256 true _ A6.out).mono ?_); rintro e w' ⟨rfl, ⟨nd, rfl⟩⟩; (try (rw [drewN_self w15]; generalize hq_ : World.drewN w15 _ = w15; have n0_ : Aside0 (w15.heap[gb1253]? = some (.cells #[.slice A0_0 l0_0.length c0_0, .int .i64 a0_1, .int .i64 a0_2, .int .i64 a0_3, .int .i64 a0_4, .int .i64 a0_5, .int .i64 a0_6] 53 (0, 0))) := ⟨by rw [← hq_]; exact (by (with_reducible repeat (first | refine blk_drewN ?_ _ | refine blk_drew ?_ | refine blk_alloc ?_ _)); exact BK1253.out)⟩; have n1_ : Aside0 (w15.heap[gb1254]? = some (.cells #[.slice none 0 0, .int .i64 0, .int .i64 0, .int .i64 0, .int .i64 0, .int .i64 0, .int .i64 0] 53 (0, 0))) := ⟨by rw [← hq_]; exact (by (with_reducible repeat (first | refine blk_drewN ?_ _ | refine blk_drew ?_ | refine blk_alloc ?_ _)); exact BK1254.out)⟩; have n2_ : Aside0 (Below w.heap.size w w15) := ⟨by rw [← hq_]; exact (by repeat (first | (with_reducible first | exact HB.out | apply below_alloc | apply pw_below_drewN | apply below_drew1 | refine below_set ?_ GE1253.out | refine below_set ?_ GE1254.out) | exact HB.out))⟩; clear BK1253 BK1254 HB hq_; have BK1253 := n0_; have BK1254 := n1_; have HB := n2_; clear n0_ n1_ n2_)); have hcz16_0 : w15.cell? ⟨gb1253, 0, none⟩ = some (.slice A0_0 l0_0.length c0_0) := (blk_cell BK1253.out 0).trans rfl; have hcz16_1 : w15.cell? ⟨gb1253, 1, none⟩ = some (.int .i64 a0_1) := (blk_cell BK1253.out 1).trans rfl; have hcz16_2 : w15.cell? ⟨gb1253, 2, none⟩ = some (.int .i64 a0_2) := (blk_cell BK1253.out 2).trans rfl; have hcz16_3 : w15.cell? ⟨gb1253, 3, none⟩ = some (.int .i64 a0_3) := (blk_cell BK1253.out 3).trans rfl; have hcz16_4 : w15.cell? ⟨gb1253, 4, none⟩ = some (.int .i64 a0_4) := (blk_cell BK1253.out 4).trans rfl; have hcz16_5 : w15.cell? ⟨gb1253, 5, none⟩ = some (.int .i64 a0_5) := (blk_cell BK1253.out 5).trans rfl; have hcz16_6 : w15.cell? ⟨gb1253, 6, none⟩ = some (.int .i64 a0_6) := (blk_cell BK1253.out 6).trans rfl; have hfz16_0 := blk_frozen BK1253.out 0; have hfz16_1 := blk_frozen BK1253.out 1; have hfz16_2 := blk_frozen BK1253.out 2; have hfz16_3 := blk_frozen BK1253.out 3; have hfz16_4 := blk_frozen BK1253.out 4; have hfz16_5 := blk_frozen BK1253.out 5; have hfz16_6 := blk_frozen BK1253.out 6) | ((with_reducible refine gate_callee (f := 104) rfl ?_); refine goesL_ (some 23) rfl rfl Try.func104 (by kernel_rfl) rfl #[.agg #[.slice A0_0 l0_0.length c0_0, .int .i64 a0_1, .int .i64 a0_2, .int .i64 a0_3, .int .i64 a0_4, .int .i64 a0_5, .int .i64 a0_6], .int .i64 a1] rfl (by (try simp only [List.map_toArray, List.map_cons, List.map_nil]); first | done | rfl | (simp only [List.length_drop, List.length_take]; rfl)) ?_; (with_reducible refine (spec_l6Move.calls k _ _ l0_0 a0_1 a0_2 a0_3 a0_4 a0_5 a0_6 a1 t1258 t1261 t1262 t1263 t1264 t1265 t1266 t1267 _ ?side1 ?side2 A8.out).mono ?_); (case side1 => repeat (first | exact (Kd.C_below HR0_0.out HB.out) | (with_reducible refine Kd.C_alloc ?_ _) | (with_reducible refine Kd.C_drewN ?_ _) | (with_reducible refine Kd.C_drew ?_))); (case side2 => exact HC0_0.out); rintro e w17 ⟨v1259, rfl, ho0, hb⟩; refine ⟨_, rfl, ?_⟩; have n0_ := Aside0.mk (Kd.S_lower ho0 (below_size (by repeat (first | (with_reducible first | exact HB.out | apply below_alloc | apply pw_below_drewN | apply below_drew1 | refine below_set ?_ GE1253.out | refine below_set ?_ GE1254.out) | exact HB.out)))); have n1_ := Aside0.mk (blk_below (g := gb1253) (o := .cells #[.slice A0_0 l0_0.length c0_0, .int .i64 a0_1, .int .i64 a0_2, .int .i64 a0_3, .int .i64 a0_4, .int .i64 a0_5, .int .i64 a0_6] 53 (0, 0)) (by (with_reducible repeat (first | refine blk_drewN ?_ _ | refine blk_drew ?_ | refine blk_alloc ?_ _)); exact BK1253.out) hb); have n2_ := Aside0.mk (blk_below (g := gb1254) (o := .cells #[.slice none 0 0, .int .i64 0, .int .i64 0, .int .i64 0, .int .i64 0, .int .i64 0, .int .i64 0] 53 (0, 0)) (by (with_reducible repeat (first | refine blk_drewN ?_ _ | refine blk_drew ?_ | refine blk_alloc ?_ _)); exact BK1254.out) hb); have n3_ := Aside0.mk (below_step (by repeat (first | (with_reducible first | exact HB.out | apply below_alloc | apply pw_below_drewN | apply below_drew1 | refine below_set ?_ GE1253.out | refine below_set ?_ GE1254.out) | exact HB.out)) hb); clear BK1253; clear BK1254; clear HB; have HO1260 := n0_; have BK1253 := n1_; have BK1254 := n2_; have HB := n3_; clear n0_ n1_ n2_ n3_; (try clear hb); (try clear hb2); (try clear hk); (try clear hi); (try clear ho0)) | ((with_reducible refine gate_dst (N := 7) rfl ?_); refine box_event ?hg (N := 7) ?hd (cs := #[.slice none 0 0, .int .i64 0, .int .i64 0, .int .i64 0, .int .i64 0, .int .i64 0, .int .i64 0]) (t := 53) ?hr ?_; (case hd => rfl); (case hg => rfl); (case hr => first | (go_simp; done) | (go_simp; rfl)); intro gb1268 hg w18 hbox hb; have n0_ := Aside0.mk (Kd.S_below (by (with_reducible repeat (first | apply Kd.S_alloc | apply Kd.S_drewN | apply Kd.S_drew)); exact HO1260.out) hb); have n1_ := Aside0.mk (blk_below (g := gb1253) (o := .cells #[.slice A0_0 l0_0.length c0_0, .int .i64 a0_1, .int .i64 a0_2, .int .i64 a0_3, .int .i64 a0_4, .int .i64 a0_5, .int .i64 a0_6] 53 (0, 0)) (by (with_reducible repeat (first | refine blk_drewN ?_ _ | refine blk_drew ?_ | refine blk_alloc ?_ _)); exact BK1253.out) hb); have n2_ := Aside0.mk (blk_below (g := gb1254) (o := .cells #[.slice none 0 0, .int .i64 0, .int .i64 0, .int .i64 0, .int .i64 0, .int .i64 0, .int .i64 0] 53 (0, 0)) (by (with_reducible repeat (first | refine blk_drewN ?_ _ | refine blk_drew ?_ | refine blk_alloc ?_ _)); exact BK1254.out) hb); have n3_ := Aside0.mk (below_step (by repeat (first | (with_reducible first | exact HB.out | apply below_alloc | apply pw_below_drewN | apply below_drew1 | refine below_set ?_ GE1253.out | refine below_set ?_ GE1254.out) | exact HB.out)) hb); have n4_ := Aside0.mk (hbox); have n5_ := Aside0.mk ((by rw [hg]; exact (below_size (by repeat (first | (with_reducible first | exact HB.out | apply below_alloc | apply pw_below_drewN | apply below_drew1 | refine below_set ?_ GE1253.out | refine below_set ?_ GE1254.out) | exact HB.out))) : w.heap.size ≤ gb1268)); have n6_ := Aside0.mk ((by rw [hg]; exact (below_size (by repeat (first | (with_reducible first | exact HB.out | apply below_alloc | apply pw_below_drewN | apply below_drew1 | refine below_set ?_ GE1253.out | refine below_set ?_ GE1254.out) | exact HB.out))) : w.heap.size ≤ gb1268)); have n7_ := Aside0.mk ((by rw [hg]; exact Nat.ne_of_lt (blk_lt (g := gb1253) (o := .cells #[.slice A0_0 l0_0.length c0_0, .int .i64 a0_1, .int .i64 a0_2, .int .i64 a0_3, .int .i64 a0_4, .int .i64 a0_5, .int .i64 a0_6] 53 (0, 0)) (by (with_reducible repeat (first | refine blk_drewN ?_ _ | refine blk_drew ?_ | refine blk_alloc ?_ _)); exact BK1253.out)) : gb1253 ≠ gb1268)); have n8_ := Aside0.mk ((by rw [hg]; exact Nat.ne_of_gt (blk_lt (g := gb1253) (o := .cells #[.slice A0_0 l0_0.length c0_0, .int .i64 a0_1, .int .i64 a0_2, .int .i64 a0_3, .int .i64 a0_4, .int .i64 a0_5, .int .i64 a0_6] 53 (0, 0)) (by (with_reducible repeat (first | refine blk_drewN ?_ _ | refine blk_drew ?_ | refine blk_alloc ?_ _)); exact BK1253.out)) : gb1268 ≠ gb1253)); have n9_ := Aside0.mk ((by rw [hg]; exact Nat.ne_of_lt (blk_lt (g := gb1254) (o := .cells #[.slice none 0 0, .int .i64 0, .int .i64 0, .int .i64 0, .int .i64 0, .int .i64 0, .int .i64 0] 53 (0, 0)) (by (with_reducible repeat (first | refine blk_drewN ?_ _ | refine blk_drew ?_ | refine blk_alloc ?_ _)); exact BK1254.out)) : gb1254 ≠ gb1268)); have n10_ := Aside0.mk ((by rw [hg]; exact Nat.ne_of_gt (blk_lt (g := gb1254) (o := .cells #[.slice none 0 0, .int .i64 0, .int .i64 0, .int .i64 0, .int .i64 0, .int .i64 0, .int .i64 0] 53 (0, 0)) (by (with_reducible repeat (first | refine blk_drewN ?_ _ | refine blk_drew ?_ | refine blk_alloc ?_ _)); exact BK1254.out)) : gb1268 ≠ gb1254)); clear HO1260; clear BK1253; clear BK1254; clear HB; have HO1260 := n0_; have BK1253 := n1_; have BK1254 := n2_; have HB := n3_; have BK1268 := n4_; have GW1268 := n5_; have GE1268 := n6_; have NB1253_1268 := n7_; have NB1268_1253 := n8_; have NB1254_1268 := n9_; have NB1268_1254 := n10_; clear n0_ n1_ n2_ n3_ n4_ n5_ n6_ n7_ n8_ n9_ n10_; clear hb hbox hg; obtain ⟨Ao19, co19, eo19⟩ := Kd.S_slice HO1260.out; subst eo19; have hnb20 := NB1268_1253.out; have hnc20 := NB1253_1268.out; have hnb21 := NB1268_1254.out; have hnc21 := NB1254_1268.out; have hcz22_0 : w18.cell? ⟨gb1268, 0, none⟩ = some (.slice none 0 0) := (blk_cell BK1268.out 0).trans rfl; have hcz22_1 : w18.cell? ⟨gb1268, 1, none⟩ = some (.int .i64 0) := (blk_cell BK1268.out 1).trans rfl; have hcz22_2 : w18.cell? ⟨gb1268, 2, none⟩ = some (.int .i64 0) := (blk_cell BK1268.out 2).trans rfl; have hcz22_3 : w18.cell? ⟨gb1268, 3, none⟩ = some (.int .i64 0) := (blk_cell BK1268.out 3).trans rfl; have hcz22_4 : w18.cell? ⟨gb1268, 4, none⟩ = some (.int .i64 0) := (blk_cell BK1268.out 4).trans rfl; have hcz22_5 : w18.cell? ⟨gb1268, 5, none⟩ = some (.int .i64 0) := (blk_cell BK1268.out 5).trans rfl; have hcz22_6 : w18.cell? ⟨gb1268, 6, none⟩ = some (.int .i64 0) := (blk_cell BK1268.out 6).trans rfl; have hfz22_0 := blk_frozen BK1268.out 0; have hfz22_1 := blk_frozen BK1268.out 1; have hfz22_2 := blk_frozen BK1268.out 2; have hfz22_3 := blk_frozen BK1268.out 3; have hfz22_4 := blk_frozen BK1268.out 4; have hfz22_5 := blk_frozen BK1268.out 5; have hfz22_6 := blk_frozen BK1268.out 6; have hcz23_0 : w18.cell? ⟨gb1254, 0, none⟩ = some (.slice none 0 0) := (blk_cell BK1254.out 0).trans rfl; have hcz23_1 : w18.cell? ⟨gb1254, 1, none⟩ = some (.int .i64 0) := (blk_cell BK1254.out 1).trans rfl; have hcz23_2 : w18.cell? ⟨gb1254, 2, none⟩ = some (.int .i64 0) := (blk_cell BK1254.out 2).trans rfl; have hcz23_3 : w18.cell? ⟨gb1254, 3, none⟩ = some (.int .i64 0) := (blk_cell BK1254.out 3).trans rfl; have hcz23_4 : w18.cell? ⟨gb1254, 4, none⟩ = some (.int .i64 0) := (blk_cell BK1254.out 4).trans rfl; have hcz23_5 : w18.cell? ⟨gb1254, 5, none⟩ = some (.int .i64 0) := (blk_cell BK1254.out 5).trans rfl; have hcz23_6 : w18.cell? ⟨gb1254, 6, none⟩ = some (.int .i64 0) := (blk_cell BK1254.out 6).trans rfl; have hfz23_0 := blk_frozen BK1254.out 0; have hfz23_1 := blk_frozen BK1254.out 1; have hfz23_2 := blk_frozen BK1254.out 2; have hfz23_3 := blk_frozen BK1254.out 3; have hfz23_4 := blk_frozen BK1254.out 4; have hfz23_5 := blk_frozen BK1254.out 5; have hfz23_6 := blk_frozen BK1254.out 6))
      refine bodyPost_ret (results_ctt rfl _ _ gb1254 53 #[.slice Ao19 t1258.length co19, .int .i64 t1261, .int .i64 t1262, .int .i64 t1263, .int .i64 t1264, .int .i64 t1265, .int .i64 t1266] (0, 0) _ rfl (by (with_reducible repeat (first | refine blk_drewN ?_ _ | refine blk_drew ?_ | refine blk_alloc ?_ _)); refine blk_put (cs := #[.slice Ao19 t1258.length co19, .int .i64 t1261, .int .i64 t1262, .int .i64 t1263, .int .i64 t1264, .int .i64 t1265, .int .i64 0]) ?_ 6 _ rfl; (with_reducible repeat (first | refine blk_drewN ?_ _ | refine blk_drew ?_ | refine blk_alloc ?_ _)); refine blk_put (cs := #[.slice Ao19 t1258.length co19, .int .i64 t1261, .int .i64 t1262, .int .i64 t1263, .int .i64 t1264, .int .i64 0, .int .i64 0]) ?_ 5 _ rfl; (with_reducible repeat (first | refine blk_drewN ?_ _ | refine blk_drew ?_ | refine blk_alloc ?_ _)); refine blk_put (cs := #[.slice Ao19 t1258.length co19, .int .i64 t1261, .int .i64 t1262, .int .i64 t1263, .int .i64 0, .int .i64 0, .int .i64 0]) ?_ 4 _ rfl; (with_reducible repeat (first | refine blk_drewN ?_ _ | refine blk_drew ?_ | refine blk_alloc ?_ _)); refine blk_put (cs := #[.slice Ao19 t1258.length co19, .int .i64 t1261, .int .i64 t1262, .int .i64 0, .int .i64 0, .int .i64 0, .int .i64 0]) ?_ 3 _ rfl; (with_reducible repeat (first | refine blk_drewN ?_ _ | refine blk_drew ?_ | refine blk_alloc ?_ _)); refine blk_put (cs := #[.slice Ao19 t1258.length co19, .int .i64 t1261, .int .i64 0, .int .i64 0, .int .i64 0, .int .i64 0, .int .i64 0]) ?_ 2 _ rfl; (with_reducible repeat (first | refine blk_drewN ?_ _ | refine blk_drew ?_ | refine blk_alloc ?_ _)); refine blk_put (cs := #[.slice Ao19 t1258.length co19, .int .i64 0, .int .i64 0, .int .i64 0, .int .i64 0, .int .i64 0, .int .i64 0]) ?_ 1 _ rfl; (with_reducible repeat (first | refine blk_drewN ?_ _ | refine blk_drew ?_ | refine blk_alloc ?_ _)); refine blk_put (cs := #[.slice none 0 0, .int .i64 0, .int .i64 0, .int .i64 0, .int .i64 0, .int .i64 0, .int .i64 0]) ?_ 0 _ rfl; (with_reducible repeat (first | refine blk_drewN ?_ _ | refine blk_drew ?_ | refine blk_alloc ?_ _)); refine blk_far ?_ NB1254_1268.out _; (with_reducible repeat (first | refine blk_drewN ?_ _ | refine blk_drew ?_ | refine blk_alloc ?_ _)); refine blk_far ?_ NB1254_1268.out _; (with_reducible repeat (first | refine blk_drewN ?_ _ | refine blk_drew ?_ | refine blk_alloc ?_ _)); refine blk_far ?_ NB1254_1268.out _; (with_reducible repeat (first | refine blk_drewN ?_ _ | refine blk_drew ?_ | refine blk_alloc ?_ _)); refine blk_far ?_ NB1254_1268.out _; (with_reducible repeat (first | refine blk_drewN ?_ _ | refine blk_drew ?_ | refine blk_alloc ?_ _)); refine blk_far ?_ NB1254_1268.out _; (with_reducible repeat (first | refine blk_drewN ?_ _ | refine blk_drew ?_ | refine blk_alloc ?_ _)); refine blk_far ?_ NB1254_1268.out _; (with_reducible repeat (first | refine blk_drewN ?_ _ | refine blk_drew ?_ | refine blk_alloc ?_ _)); refine blk_far ?_ NB1254_1268.out _; (with_reducible repeat (first | refine blk_drewN ?_ _ | refine blk_drew ?_ | refine blk_alloc ?_ _)); exact BK1254.out) Try.underlying53 rfl (by kernel_rfl)) rfl ?_
      exact ⟨_, by first | rfl | (simp [errW_none, errW_some] <;> rfl) | (simp [*, errW_none, errW_some] <;> rfl), by (with_reducible repeat (first | apply Kd.S_alloc | apply Kd.S_drewN | apply Kd.S_drew)); exact Kd.S_mono (Kd.S_far (p := ⟨gb1254, 6, none⟩) (Kd.S_far (p := ⟨gb1254, 5, none⟩) (Kd.S_far (p := ⟨gb1254, 4, none⟩) (Kd.S_far (p := ⟨gb1254, 3, none⟩) (Kd.S_far (p := ⟨gb1254, 2, none⟩) (Kd.S_far (p := ⟨gb1254, 1, none⟩) (Kd.S_far (p := ⟨gb1254, 0, none⟩) (Kd.S_far (p := ⟨gb1268, 6, none⟩) (Kd.S_far (p := ⟨gb1268, 5, none⟩) (Kd.S_far (p := ⟨gb1268, 4, none⟩) (Kd.S_far (p := ⟨gb1268, 3, none⟩) (Kd.S_far (p := ⟨gb1268, 2, none⟩) (Kd.S_far (p := ⟨gb1268, 1, none⟩) (Kd.S_far (p := ⟨gb1268, 0, none⟩) (Kd.S_types (Kd.S_types HO1260.out BK1268.out (by decide)) BK1254.out (by decide)) (fun _ hk => hk.1.2) (.slice Ao19 t1258.length co19)) (fun _ hk => hk.1.2) (.int .i64 t1261)) (fun _ hk => hk.1.2) (.int .i64 t1262)) (fun _ hk => hk.1.2) (.int .i64 t1263)) (fun _ hk => hk.1.2) (.int .i64 t1264)) (fun _ hk => hk.1.2) (.int .i64 t1265)) (fun _ hk => hk.1.2) (.int .i64 t1266)) (fun _ hk => hk.2) (.slice Ao19 t1258.length co19)) (fun _ hk => hk.2) (.int .i64 t1261)) (fun _ hk => hk.2) (.int .i64 t1262)) (fun _ hk => hk.2) (.int .i64 t1263)) (fun _ hk => hk.2) (.int .i64 t1264)) (fun _ hk => hk.2) (.int .i64 t1265)) (fun _ hk => hk.2) (.int .i64 t1266)) (fun _ hk => trivial), by repeat (first | (with_reducible first | exact HB.out | apply below_alloc | apply pw_below_drewN | apply below_drew1 | refine below_set ?_ GE1253.out | refine below_set ?_ GE1254.out | refine below_set ?_ GE1268.out) | exact HB.out)⟩
    · replace c7 := Bool.eq_false_iff.mpr c7
      subst c7
      have H1 : (some (([] : List (List Int)), 0, 0, 0, 0, 0, 0, 0, false)) = some (r1, r2, r3, r4, r5, r6, r7, r8, r9) := by rw [if_neg (show ¬ (false = true) by decide)] at H; exact H
      clear H
      have H := H1
      clear H1
      simp only [Option.some.injEq, Prod.mk.injEq] at H
      obtain ⟨rfl, rfl, rfl, rfl, rfl, rfl, rfl, rfl, rfl⟩ := H
      go_enter Try.func61, Try.ntmps61
      go_wp2_with (first | ((with_reducible refine gate_dst (N := 2) rfl ?_); refine box_event ?hg (N := 2) ?hd (cs := #[.slice A0_0 l0_0.length c0_0, .int .i64 a0_1, .int .i64 a0_2, .int .i64 a0_3, .int .i64 a0_4, .int .i64 a0_5, .int .i64 a0_6]) (t := 53) ?hr ?_; (case hd => rfl); (case hg => rfl); (case hr => first | (go_simp; done) | (go_simp; rfl)); intro gb1253 hg w24 hbox hb; have n0_ := Aside0.mk (below_step (by repeat (first | (with_reducible first | exact HB.out | apply below_alloc | apply pw_below_drewN | apply below_drew1) | exact HB.out)) hb); have n1_ := Aside0.mk (hbox); have n2_ := Aside0.mk ((by rw [hg]; exact (below_size (by repeat (first | (with_reducible first | exact HB.out | apply below_alloc | apply pw_below_drewN | apply below_drew1) | exact HB.out))) : w.heap.size ≤ gb1253)); have n3_ := Aside0.mk ((by rw [hg]; exact (below_size (by repeat (first | (with_reducible first | exact HB.out | apply below_alloc | apply pw_below_drewN | apply below_drew1) | exact HB.out))) : w.heap.size ≤ gb1253)); clear HB; have HB := n0_; have BK1253 := n1_; have GW1253 := n2_; have GE1253 := n3_; clear n0_ n1_ n2_ n3_; clear hb hbox hg) | ((with_reducible refine gate_dst (N := 4) rfl ?_); refine box_event ?hg (N := 4) ?hd (cs := #[.slice none 0 0, .int .i64 0, .int .i64 0, .int .i64 0, .int .i64 0, .int .i64 0, .int .i64 0]) (t := 53) ?hr ?_; (case hd => rfl); (case hg => rfl); (case hr => first | (go_simp; done) | (go_simp; rfl)); intro gb1254 hg w25 hbox hb; have n0_ := Aside0.mk (blk_below (g := gb1253) (o := .cells #[.slice A0_0 l0_0.length c0_0, .int .i64 a0_1, .int .i64 a0_2, .int .i64 a0_3, .int .i64 a0_4, .int .i64 a0_5, .int .i64 a0_6] 53 (0, 0)) (by (with_reducible repeat (first | refine blk_drewN ?_ _ | refine blk_drew ?_ | refine blk_alloc ?_ _)); exact BK1253.out) hb); have n1_ := Aside0.mk (below_step (by repeat (first | (with_reducible first | exact HB.out | apply below_alloc | apply pw_below_drewN | apply below_drew1 | refine below_set ?_ GE1253.out) | exact HB.out)) hb); have n2_ := Aside0.mk (hbox); have n3_ := Aside0.mk ((by rw [hg]; exact (below_size (by repeat (first | (with_reducible first | exact HB.out | apply below_alloc | apply pw_below_drewN | apply below_drew1 | refine below_set ?_ GE1253.out) | exact HB.out))) : w.heap.size ≤ gb1254)); have n4_ := Aside0.mk ((by rw [hg]; exact (below_size (by repeat (first | (with_reducible first | exact HB.out | apply below_alloc | apply pw_below_drewN | apply below_drew1 | refine below_set ?_ GE1253.out) | exact HB.out))) : w.heap.size ≤ gb1254)); have n5_ := Aside0.mk ((by rw [hg]; exact Nat.ne_of_lt (blk_lt (g := gb1253) (o := .cells #[.slice A0_0 l0_0.length c0_0, .int .i64 a0_1, .int .i64 a0_2, .int .i64 a0_3, .int .i64 a0_4, .int .i64 a0_5, .int .i64 a0_6] 53 (0, 0)) (by (with_reducible repeat (first | refine blk_drewN ?_ _ | refine blk_drew ?_ | refine blk_alloc ?_ _)); exact BK1253.out)) : gb1253 ≠ gb1254)); have n6_ := Aside0.mk ((by rw [hg]; exact Nat.ne_of_gt (blk_lt (g := gb1253) (o := .cells #[.slice A0_0 l0_0.length c0_0, .int .i64 a0_1, .int .i64 a0_2, .int .i64 a0_3, .int .i64 a0_4, .int .i64 a0_5, .int .i64 a0_6] 53 (0, 0)) (by (with_reducible repeat (first | refine blk_drewN ?_ _ | refine blk_drew ?_ | refine blk_alloc ?_ _)); exact BK1253.out)) : gb1254 ≠ gb1253)); clear BK1253; clear HB; have BK1253 := n0_; have HB := n1_; have BK1254 := n2_; have GW1254 := n3_; have GE1254 := n4_; have NB1253_1254 := n5_; have NB1254_1253 := n6_; clear n0_ n1_ n2_ n3_ n4_ n5_ n6_; clear hb hbox hg; have hnb26 := NB1253_1254.out; have hnc26 := NB1254_1253.out; have hcz27_0 : w25.cell? ⟨gb1253, 0, none⟩ = some (.slice A0_0 l0_0.length c0_0) := (blk_cell BK1253.out 0).trans rfl; have hcz27_1 : w25.cell? ⟨gb1253, 1, none⟩ = some (.int .i64 a0_1) := (blk_cell BK1253.out 1).trans rfl; have hcz27_2 : w25.cell? ⟨gb1253, 2, none⟩ = some (.int .i64 a0_2) := (blk_cell BK1253.out 2).trans rfl; have hcz27_3 : w25.cell? ⟨gb1253, 3, none⟩ = some (.int .i64 a0_3) := (blk_cell BK1253.out 3).trans rfl; have hcz27_4 : w25.cell? ⟨gb1253, 4, none⟩ = some (.int .i64 a0_4) := (blk_cell BK1253.out 4).trans rfl; have hcz27_5 : w25.cell? ⟨gb1253, 5, none⟩ = some (.int .i64 a0_5) := (blk_cell BK1253.out 5).trans rfl; have hcz27_6 : w25.cell? ⟨gb1253, 6, none⟩ = some (.int .i64 a0_6) := (blk_cell BK1253.out 6).trans rfl; have hfz27_0 := blk_frozen BK1253.out 0; have hfz27_1 := blk_frozen BK1253.out 1; have hfz27_2 := blk_frozen BK1253.out 2; have hfz27_3 := blk_frozen BK1253.out 3; have hfz27_4 := blk_frozen BK1253.out 4; have hfz27_5 := blk_frozen BK1253.out 5; have hfz27_6 := blk_frozen BK1253.out 6) | ((with_reducible refine gate_callee (f := 77) rfl ?_); refine goesL_ (some 10) rfl rfl Try.func77 (by kernel_rfl) rfl #[.agg #[.slice A0_0 l0_0.length c0_0, .int .i64 a0_1, .int .i64 a0_2, .int .i64 a0_3, .int .i64 a0_4, .int .i64 a0_5, .int .i64 a0_6]] rfl (by (try simp only [List.map_toArray, List.map_cons, List.map_nil]); first | done | rfl | (simp only [List.length_drop, List.length_take]; rfl)) ?_; (with_reducible refine (spec_l6Gap.calls k _ _ l0_0 a0_1 a0_2 a0_3 a0_4 a0_5 a0_6 true _ ?side1 ?side2 A3.out).mono ?_); (case side1 => repeat (first | exact (Kd.C_below HR0_0.out HB.out) | (with_reducible refine Kd.C_alloc ?_ _) | (with_reducible refine Kd.C_drewN ?_ _) | (with_reducible refine Kd.C_drew ?_))); (case side2 => exact HC0_0.out); rintro e w28 ⟨rfl, hb⟩; refine ⟨_, rfl, ?_⟩; have n0_ := Aside0.mk (blk_below (g := gb1253) (o := .cells #[.slice A0_0 l0_0.length c0_0, .int .i64 a0_1, .int .i64 a0_2, .int .i64 a0_3, .int .i64 a0_4, .int .i64 a0_5, .int .i64 a0_6] 53 (0, 0)) (by (with_reducible repeat (first | refine blk_drewN ?_ _ | refine blk_drew ?_ | refine blk_alloc ?_ _)); exact BK1253.out) hb); have n1_ := Aside0.mk (blk_below (g := gb1254) (o := .cells #[.slice none 0 0, .int .i64 0, .int .i64 0, .int .i64 0, .int .i64 0, .int .i64 0, .int .i64 0] 53 (0, 0)) (by (with_reducible repeat (first | refine blk_drewN ?_ _ | refine blk_drew ?_ | refine blk_alloc ?_ _)); exact BK1254.out) hb); have n2_ := Aside0.mk (below_step (by repeat (first | (with_reducible first | exact HB.out | apply below_alloc | apply pw_below_drewN | apply below_drew1 | refine below_set ?_ GE1253.out | refine below_set ?_ GE1254.out) | exact HB.out)) hb); clear BK1253; clear BK1254; clear HB; have BK1253 := n0_; have BK1254 := n1_; have HB := n2_; clear n0_ n1_ n2_; (try clear hb); (try clear hb2); (try clear hk); (try clear hi); have hcz29_0 : w28.cell? ⟨gb1253, 0, none⟩ = some (.slice A0_0 l0_0.length c0_0) := (blk_cell BK1253.out 0).trans rfl; have hcz29_1 : w28.cell? ⟨gb1253, 1, none⟩ = some (.int .i64 a0_1) := (blk_cell BK1253.out 1).trans rfl; have hcz29_2 : w28.cell? ⟨gb1253, 2, none⟩ = some (.int .i64 a0_2) := (blk_cell BK1253.out 2).trans rfl; have hcz29_3 : w28.cell? ⟨gb1253, 3, none⟩ = some (.int .i64 a0_3) := (blk_cell BK1253.out 3).trans rfl; have hcz29_4 : w28.cell? ⟨gb1253, 4, none⟩ = some (.int .i64 a0_4) := (blk_cell BK1253.out 4).trans rfl; have hcz29_5 : w28.cell? ⟨gb1253, 5, none⟩ = some (.int .i64 a0_5) := (blk_cell BK1253.out 5).trans rfl; have hcz29_6 : w28.cell? ⟨gb1253, 6, none⟩ = some (.int .i64 a0_6) := (blk_cell BK1253.out 6).trans rfl; have hfz29_0 := blk_frozen BK1253.out 0; have hfz29_1 := blk_frozen BK1253.out 1; have hfz29_2 := blk_frozen BK1253.out 2; have hfz29_3 := blk_frozen BK1253.out 3; have hfz29_4 := blk_frozen BK1253.out 4; have hfz29_5 := blk_frozen BK1253.out 5; have hfz29_6 := blk_frozen BK1253.out 6) | (go_at_call 103; (with_reducible refine (spec_l6Long.calls _ _ l0_0 a0_1 a0_2 a0_3 a0_4 a0_5 a0_6 t1256 _ ?side1 ?side2 A5.out).mono ?_); (case side1 => repeat (first | exact (Kd.C_below HR0_0.out HB.out) | (with_reducible refine Kd.C_alloc ?_ _) | (with_reducible refine Kd.C_drewN ?_ _) | (with_reducible refine Kd.C_drew ?_))); (case side2 => exact HC0_0.out); rintro e w30 ⟨rfl, hb⟩; have n0_ := Aside0.mk (blk_below (g := gb1253) (o := .cells #[.slice A0_0 l0_0.length c0_0, .int .i64 a0_1, .int .i64 a0_2, .int .i64 a0_3, .int .i64 a0_4, .int .i64 a0_5, .int .i64 a0_6] 53 (0, 0)) (by (with_reducible repeat (first | refine blk_drewN ?_ _ | refine blk_drew ?_ | refine blk_alloc ?_ _)); exact BK1253.out) hb); have n1_ := Aside0.mk (blk_below (g := gb1254) (o := .cells #[.slice none 0 0, .int .i64 0, .int .i64 0, .int .i64 0, .int .i64 0, .int .i64 0, .int .i64 0] 53 (0, 0)) (by (with_reducible repeat (first | refine blk_drewN ?_ _ | refine blk_drew ?_ | refine blk_alloc ?_ _)); exact BK1254.out) hb); have n2_ := Aside0.mk (below_step (by repeat (first | (with_reducible first | exact HB.out | apply below_alloc | apply pw_below_drewN | apply below_drew1 | refine below_set ?_ GE1253.out | refine below_set ?_ GE1254.out) | exact HB.out)) hb); clear BK1253; clear BK1254; clear HB; have BK1253 := n0_; have BK1254 := n1_; have HB := n2_; clear n0_ n1_ n2_; (try clear hb); (try clear hb2); (try clear hk); (try clear hi)) | (go_at_call 78; (with_reducible refine (spec_l1In.calls a1 0 t1256 false _ A6.out).mono ?_); rintro e w' ⟨rfl, ⟨nd, rfl⟩⟩; (try (rw [drewN_self w30]; generalize hq_ : World.drewN w30 _ = w30; have n0_ : Aside0 (w30.heap[gb1253]? = some (.cells #[.slice A0_0 l0_0.length c0_0, .int .i64 a0_1, .int .i64 a0_2, .int .i64 a0_3, .int .i64 a0_4, .int .i64 a0_5, .int .i64 a0_6] 53 (0, 0))) := ⟨by rw [← hq_]; exact (by (with_reducible repeat (first | refine blk_drewN ?_ _ | refine blk_drew ?_ | refine blk_alloc ?_ _)); exact BK1253.out)⟩; have n1_ : Aside0 (w30.heap[gb1254]? = some (.cells #[.slice none 0 0, .int .i64 0, .int .i64 0, .int .i64 0, .int .i64 0, .int .i64 0, .int .i64 0] 53 (0, 0))) := ⟨by rw [← hq_]; exact (by (with_reducible repeat (first | refine blk_drewN ?_ _ | refine blk_drew ?_ | refine blk_alloc ?_ _)); exact BK1254.out)⟩; have n2_ : Aside0 (Below w.heap.size w w30) := ⟨by rw [← hq_]; exact (by repeat (first | (with_reducible first | exact HB.out | apply below_alloc | apply pw_below_drewN | apply below_drew1 | refine below_set ?_ GE1253.out | refine below_set ?_ GE1254.out) | exact HB.out))⟩; clear BK1253 BK1254 HB hq_; have BK1253 := n0_; have BK1254 := n1_; have HB := n2_; clear n0_ n1_ n2_)); have hcz31_0 : w30.cell? ⟨gb1254, 0, none⟩ = some (.slice none 0 0) := (blk_cell BK1254.out 0).trans rfl; have hcz31_1 : w30.cell? ⟨gb1254, 1, none⟩ = some (.int .i64 0) := (blk_cell BK1254.out 1).trans rfl; have hcz31_2 : w30.cell? ⟨gb1254, 2, none⟩ = some (.int .i64 0) := (blk_cell BK1254.out 2).trans rfl; have hcz31_3 : w30.cell? ⟨gb1254, 3, none⟩ = some (.int .i64 0) := (blk_cell BK1254.out 3).trans rfl; have hcz31_4 : w30.cell? ⟨gb1254, 4, none⟩ = some (.int .i64 0) := (blk_cell BK1254.out 4).trans rfl; have hcz31_5 : w30.cell? ⟨gb1254, 5, none⟩ = some (.int .i64 0) := (blk_cell BK1254.out 5).trans rfl; have hcz31_6 : w30.cell? ⟨gb1254, 6, none⟩ = some (.int .i64 0) := (blk_cell BK1254.out 6).trans rfl; have hfz31_0 := blk_frozen BK1254.out 0; have hfz31_1 := blk_frozen BK1254.out 1; have hfz31_2 := blk_frozen BK1254.out 2; have hfz31_3 := blk_frozen BK1254.out 3; have hfz31_4 := blk_frozen BK1254.out 4; have hfz31_5 := blk_frozen BK1254.out 5; have hfz31_6 := blk_frozen BK1254.out 6))
      refine bodyPost_ret (results_ctt rfl _ _ gb1254 53 #[.slice none 0 0, .int .i64 0, .int .i64 0, .int .i64 0, .int .i64 0, .int .i64 0, .int .i64 0] (0, 0) _ rfl (by (with_reducible repeat (first | refine blk_drewN ?_ _ | refine blk_drew ?_ | refine blk_alloc ?_ _)); refine blk_put (cs := #[.slice none 0 0, .int .i64 0, .int .i64 0, .int .i64 0, .int .i64 0, .int .i64 0, .int .i64 0]) ?_ 6 _ rfl; (with_reducible repeat (first | refine blk_drewN ?_ _ | refine blk_drew ?_ | refine blk_alloc ?_ _)); refine blk_put (cs := #[.slice none 0 0, .int .i64 0, .int .i64 0, .int .i64 0, .int .i64 0, .int .i64 0, .int .i64 0]) ?_ 5 _ rfl; (with_reducible repeat (first | refine blk_drewN ?_ _ | refine blk_drew ?_ | refine blk_alloc ?_ _)); refine blk_put (cs := #[.slice none 0 0, .int .i64 0, .int .i64 0, .int .i64 0, .int .i64 0, .int .i64 0, .int .i64 0]) ?_ 4 _ rfl; (with_reducible repeat (first | refine blk_drewN ?_ _ | refine blk_drew ?_ | refine blk_alloc ?_ _)); refine blk_put (cs := #[.slice none 0 0, .int .i64 0, .int .i64 0, .int .i64 0, .int .i64 0, .int .i64 0, .int .i64 0]) ?_ 3 _ rfl; (with_reducible repeat (first | refine blk_drewN ?_ _ | refine blk_drew ?_ | refine blk_alloc ?_ _)); refine blk_put (cs := #[.slice none 0 0, .int .i64 0, .int .i64 0, .int .i64 0, .int .i64 0, .int .i64 0, .int .i64 0]) ?_ 2 _ rfl; (with_reducible repeat (first | refine blk_drewN ?_ _ | refine blk_drew ?_ | refine blk_alloc ?_ _)); refine blk_put (cs := #[.slice none 0 0, .int .i64 0, .int .i64 0, .int .i64 0, .int .i64 0, .int .i64 0, .int .i64 0]) ?_ 1 _ rfl; (with_reducible repeat (first | refine blk_drewN ?_ _ | refine blk_drew ?_ | refine blk_alloc ?_ _)); refine blk_put (cs := #[.slice none 0 0, .int .i64 0, .int .i64 0, .int .i64 0, .int .i64 0, .int .i64 0, .int .i64 0]) ?_ 0 _ rfl; (with_reducible repeat (first | refine blk_drewN ?_ _ | refine blk_drew ?_ | refine blk_alloc ?_ _)); exact BK1254.out) Try.underlying53 rfl (by kernel_rfl)) rfl ?_
      exact ⟨_, by first | rfl | (simp [errW_none, errW_some] <;> rfl) | (simp [*, errW_none, errW_some] <;> rfl), by first | exact Kd.S_nil _ _ _ _ _ | exact Kd.N_nil _ _ _ _ _ | exact Kd.V_nil _ _ _ _ _ | exact Kd.Q_nil _ _ _ _ _ | exact Kd.R_nil _ _ _ _ _, by repeat (first | (with_reducible first | exact HB.out | apply below_alloc | apply pw_below_drewN | apply below_drew1 | refine below_set ?_ GE1253.out | refine below_set ?_ GE1254.out) | exact HB.out)⟩
  · replace c4 := Bool.eq_false_iff.mpr c4
    subst c4
    have H1 : (some (([] : List (List Int)), 0, 0, 0, 0, 0, 0, 0, false)) = some (r1, r2, r3, r4, r5, r6, r7, r8, r9) := by rw [if_neg (show ¬ (false = true) by decide)] at H; exact H
    clear H
    have H := H1
    clear H1
    simp only [Option.some.injEq, Prod.mk.injEq] at H
    obtain ⟨rfl, rfl, rfl, rfl, rfl, rfl, rfl, rfl, rfl⟩ := H
    go_enter Try.func61, Try.ntmps61
    go_wp2_with (first | ((with_reducible refine gate_dst (N := 2) rfl ?_); refine box_event ?hg (N := 2) ?hd (cs := #[.slice A0_0 l0_0.length c0_0, .int .i64 a0_1, .int .i64 a0_2, .int .i64 a0_3, .int .i64 a0_4, .int .i64 a0_5, .int .i64 a0_6]) (t := 53) ?hr ?_; (case hd => rfl); (case hg => rfl); (case hr => first | (go_simp; done) | (go_simp; rfl)); intro gb1253 hg w32 hbox hb; have n0_ := Aside0.mk (below_step (by repeat (first | (with_reducible first | exact HB.out | apply below_alloc | apply pw_below_drewN | apply below_drew1) | exact HB.out)) hb); have n1_ := Aside0.mk (hbox); have n2_ := Aside0.mk ((by rw [hg]; exact (below_size (by repeat (first | (with_reducible first | exact HB.out | apply below_alloc | apply pw_below_drewN | apply below_drew1) | exact HB.out))) : w.heap.size ≤ gb1253)); have n3_ := Aside0.mk ((by rw [hg]; exact (below_size (by repeat (first | (with_reducible first | exact HB.out | apply below_alloc | apply pw_below_drewN | apply below_drew1) | exact HB.out))) : w.heap.size ≤ gb1253)); clear HB; have HB := n0_; have BK1253 := n1_; have GW1253 := n2_; have GE1253 := n3_; clear n0_ n1_ n2_ n3_; clear hb hbox hg) | ((with_reducible refine gate_dst (N := 4) rfl ?_); refine box_event ?hg (N := 4) ?hd (cs := #[.slice none 0 0, .int .i64 0, .int .i64 0, .int .i64 0, .int .i64 0, .int .i64 0, .int .i64 0]) (t := 53) ?hr ?_; (case hd => rfl); (case hg => rfl); (case hr => first | (go_simp; done) | (go_simp; rfl)); intro gb1254 hg w33 hbox hb; have n0_ := Aside0.mk (blk_below (g := gb1253) (o := .cells #[.slice A0_0 l0_0.length c0_0, .int .i64 a0_1, .int .i64 a0_2, .int .i64 a0_3, .int .i64 a0_4, .int .i64 a0_5, .int .i64 a0_6] 53 (0, 0)) (by (with_reducible repeat (first | refine blk_drewN ?_ _ | refine blk_drew ?_ | refine blk_alloc ?_ _)); exact BK1253.out) hb); have n1_ := Aside0.mk (below_step (by repeat (first | (with_reducible first | exact HB.out | apply below_alloc | apply pw_below_drewN | apply below_drew1 | refine below_set ?_ GE1253.out) | exact HB.out)) hb); have n2_ := Aside0.mk (hbox); have n3_ := Aside0.mk ((by rw [hg]; exact (below_size (by repeat (first | (with_reducible first | exact HB.out | apply below_alloc | apply pw_below_drewN | apply below_drew1 | refine below_set ?_ GE1253.out) | exact HB.out))) : w.heap.size ≤ gb1254)); have n4_ := Aside0.mk ((by rw [hg]; exact (below_size (by repeat (first | (with_reducible first | exact HB.out | apply below_alloc | apply pw_below_drewN | apply below_drew1 | refine below_set ?_ GE1253.out) | exact HB.out))) : w.heap.size ≤ gb1254)); have n5_ := Aside0.mk ((by rw [hg]; exact Nat.ne_of_lt (blk_lt (g := gb1253) (o := .cells #[.slice A0_0 l0_0.length c0_0, .int .i64 a0_1, .int .i64 a0_2, .int .i64 a0_3, .int .i64 a0_4, .int .i64 a0_5, .int .i64 a0_6] 53 (0, 0)) (by (with_reducible repeat (first | refine blk_drewN ?_ _ | refine blk_drew ?_ | refine blk_alloc ?_ _)); exact BK1253.out)) : gb1253 ≠ gb1254)); have n6_ := Aside0.mk ((by rw [hg]; exact Nat.ne_of_gt (blk_lt (g := gb1253) (o := .cells #[.slice A0_0 l0_0.length c0_0, .int .i64 a0_1, .int .i64 a0_2, .int .i64 a0_3, .int .i64 a0_4, .int .i64 a0_5, .int .i64 a0_6] 53 (0, 0)) (by (with_reducible repeat (first | refine blk_drewN ?_ _ | refine blk_drew ?_ | refine blk_alloc ?_ _)); exact BK1253.out)) : gb1254 ≠ gb1253)); clear BK1253; clear HB; have BK1253 := n0_; have HB := n1_; have BK1254 := n2_; have GW1254 := n3_; have GE1254 := n4_; have NB1253_1254 := n5_; have NB1254_1253 := n6_; clear n0_ n1_ n2_ n3_ n4_ n5_ n6_; clear hb hbox hg; have hnb34 := NB1253_1254.out; have hnc34 := NB1254_1253.out; have hcz35_0 : w33.cell? ⟨gb1253, 0, none⟩ = some (.slice A0_0 l0_0.length c0_0) := (blk_cell BK1253.out 0).trans rfl; have hcz35_1 : w33.cell? ⟨gb1253, 1, none⟩ = some (.int .i64 a0_1) := (blk_cell BK1253.out 1).trans rfl; have hcz35_2 : w33.cell? ⟨gb1253, 2, none⟩ = some (.int .i64 a0_2) := (blk_cell BK1253.out 2).trans rfl; have hcz35_3 : w33.cell? ⟨gb1253, 3, none⟩ = some (.int .i64 a0_3) := (blk_cell BK1253.out 3).trans rfl; have hcz35_4 : w33.cell? ⟨gb1253, 4, none⟩ = some (.int .i64 a0_4) := (blk_cell BK1253.out 4).trans rfl; have hcz35_5 : w33.cell? ⟨gb1253, 5, none⟩ = some (.int .i64 a0_5) := (blk_cell BK1253.out 5).trans rfl; have hcz35_6 : w33.cell? ⟨gb1253, 6, none⟩ = some (.int .i64 a0_6) := (blk_cell BK1253.out 6).trans rfl; have hfz35_0 := blk_frozen BK1253.out 0; have hfz35_1 := blk_frozen BK1253.out 1; have hfz35_2 := blk_frozen BK1253.out 2; have hfz35_3 := blk_frozen BK1253.out 3; have hfz35_4 := blk_frozen BK1253.out 4; have hfz35_5 := blk_frozen BK1253.out 5; have hfz35_6 := blk_frozen BK1253.out 6) | ((with_reducible refine gate_callee (f := 77) rfl ?_); refine goesL_ (some 10) rfl rfl Try.func77 (by kernel_rfl) rfl #[.agg #[.slice A0_0 l0_0.length c0_0, .int .i64 a0_1, .int .i64 a0_2, .int .i64 a0_3, .int .i64 a0_4, .int .i64 a0_5, .int .i64 a0_6]] rfl (by (try simp only [List.map_toArray, List.map_cons, List.map_nil]); first | done | rfl | (simp only [List.length_drop, List.length_take]; rfl)) ?_; (with_reducible refine (spec_l6Gap.calls k _ _ l0_0 a0_1 a0_2 a0_3 a0_4 a0_5 a0_6 false _ ?side1 ?side2 A3.out).mono ?_); (case side1 => repeat (first | exact (Kd.C_below HR0_0.out HB.out) | (with_reducible refine Kd.C_alloc ?_ _) | (with_reducible refine Kd.C_drewN ?_ _) | (with_reducible refine Kd.C_drew ?_))); (case side2 => exact HC0_0.out); rintro e w36 ⟨rfl, hb⟩; refine ⟨_, rfl, ?_⟩; have n0_ := Aside0.mk (blk_below (g := gb1253) (o := .cells #[.slice A0_0 l0_0.length c0_0, .int .i64 a0_1, .int .i64 a0_2, .int .i64 a0_3, .int .i64 a0_4, .int .i64 a0_5, .int .i64 a0_6] 53 (0, 0)) (by (with_reducible repeat (first | refine blk_drewN ?_ _ | refine blk_drew ?_ | refine blk_alloc ?_ _)); exact BK1253.out) hb); have n1_ := Aside0.mk (blk_below (g := gb1254) (o := .cells #[.slice none 0 0, .int .i64 0, .int .i64 0, .int .i64 0, .int .i64 0, .int .i64 0, .int .i64 0] 53 (0, 0)) (by (with_reducible repeat (first | refine blk_drewN ?_ _ | refine blk_drew ?_ | refine blk_alloc ?_ _)); exact BK1254.out) hb); have n2_ := Aside0.mk (below_step (by repeat (first | (with_reducible first | exact HB.out | apply below_alloc | apply pw_below_drewN | apply below_drew1 | refine below_set ?_ GE1253.out | refine below_set ?_ GE1254.out) | exact HB.out)) hb); clear BK1253; clear BK1254; clear HB; have BK1253 := n0_; have BK1254 := n1_; have HB := n2_; clear n0_ n1_ n2_; (try clear hb); (try clear hb2); (try clear hk); (try clear hi); have hcz37_0 : w36.cell? ⟨gb1254, 0, none⟩ = some (.slice none 0 0) := (blk_cell BK1254.out 0).trans rfl; have hcz37_1 : w36.cell? ⟨gb1254, 1, none⟩ = some (.int .i64 0) := (blk_cell BK1254.out 1).trans rfl; have hcz37_2 : w36.cell? ⟨gb1254, 2, none⟩ = some (.int .i64 0) := (blk_cell BK1254.out 2).trans rfl; have hcz37_3 : w36.cell? ⟨gb1254, 3, none⟩ = some (.int .i64 0) := (blk_cell BK1254.out 3).trans rfl; have hcz37_4 : w36.cell? ⟨gb1254, 4, none⟩ = some (.int .i64 0) := (blk_cell BK1254.out 4).trans rfl; have hcz37_5 : w36.cell? ⟨gb1254, 5, none⟩ = some (.int .i64 0) := (blk_cell BK1254.out 5).trans rfl; have hcz37_6 : w36.cell? ⟨gb1254, 6, none⟩ = some (.int .i64 0) := (blk_cell BK1254.out 6).trans rfl; have hfz37_0 := blk_frozen BK1254.out 0; have hfz37_1 := blk_frozen BK1254.out 1; have hfz37_2 := blk_frozen BK1254.out 2; have hfz37_3 := blk_frozen BK1254.out 3; have hfz37_4 := blk_frozen BK1254.out 4; have hfz37_5 := blk_frozen BK1254.out 5; have hfz37_6 := blk_frozen BK1254.out 6))
    refine bodyPost_ret (results_ctt rfl _ _ gb1254 53 #[.slice none 0 0, .int .i64 0, .int .i64 0, .int .i64 0, .int .i64 0, .int .i64 0, .int .i64 0] (0, 0) _ rfl (by (with_reducible repeat (first | refine blk_drewN ?_ _ | refine blk_drew ?_ | refine blk_alloc ?_ _)); refine blk_put (cs := #[.slice none 0 0, .int .i64 0, .int .i64 0, .int .i64 0, .int .i64 0, .int .i64 0, .int .i64 0]) ?_ 6 _ rfl; (with_reducible repeat (first | refine blk_drewN ?_ _ | refine blk_drew ?_ | refine blk_alloc ?_ _)); refine blk_put (cs := #[.slice none 0 0, .int .i64 0, .int .i64 0, .int .i64 0, .int .i64 0, .int .i64 0, .int .i64 0]) ?_ 5 _ rfl; (with_reducible repeat (first | refine blk_drewN ?_ _ | refine blk_drew ?_ | refine blk_alloc ?_ _)); refine blk_put (cs := #[.slice none 0 0, .int .i64 0, .int .i64 0, .int .i64 0, .int .i64 0, .int .i64 0, .int .i64 0]) ?_ 4 _ rfl; (with_reducible repeat (first | refine blk_drewN ?_ _ | refine blk_drew ?_ | refine blk_alloc ?_ _)); refine blk_put (cs := #[.slice none 0 0, .int .i64 0, .int .i64 0, .int .i64 0, .int .i64 0, .int .i64 0, .int .i64 0]) ?_ 3 _ rfl; (with_reducible repeat (first | refine blk_drewN ?_ _ | refine blk_drew ?_ | refine blk_alloc ?_ _)); refine blk_put (cs := #[.slice none 0 0, .int .i64 0, .int .i64 0, .int .i64 0, .int .i64 0, .int .i64 0, .int .i64 0]) ?_ 2 _ rfl; (with_reducible repeat (first | refine blk_drewN ?_ _ | refine blk_drew ?_ | refine blk_alloc ?_ _)); refine blk_put (cs := #[.slice none 0 0, .int .i64 0, .int .i64 0, .int .i64 0, .int .i64 0, .int .i64 0, .int .i64 0]) ?_ 1 _ rfl; (with_reducible repeat (first | refine blk_drewN ?_ _ | refine blk_drew ?_ | refine blk_alloc ?_ _)); refine blk_put (cs := #[.slice none 0 0, .int .i64 0, .int .i64 0, .int .i64 0, .int .i64 0, .int .i64 0, .int .i64 0]) ?_ 0 _ rfl; (with_reducible repeat (first | refine blk_drewN ?_ _ | refine blk_drew ?_ | refine blk_alloc ?_ _)); exact BK1254.out) Try.underlying53 rfl (by kernel_rfl)) rfl ?_
    exact ⟨_, by first | rfl | (simp [errW_none, errW_some] <;> rfl) | (simp [*, errW_none, errW_some] <;> rfl), by first | exact Kd.S_nil _ _ _ _ _ | exact Kd.N_nil _ _ _ _ _ | exact Kd.V_nil _ _ _ _ _ | exact Kd.Q_nil _ _ _ _ _ | exact Kd.R_nil _ _ _ _ _, by repeat (first | (with_reducible first | exact HB.out | apply below_alloc | apply pw_below_drewN | apply below_drew1 | refine below_set ?_ GE1253.out | refine below_set ?_ GE1254.out) | exact HB.out)⟩

end Go.Proofs.Ytaieobidkmihkaa.P


/- MoveGap: the program's and the reference's. -/
namespace Go.Proofs.Ytaieobidkmihkaa.P
open Go.RowKit Go.Proofs.YtaieobidkmihkaaW.PrintWords Go.Proofs.YtaieobidkmihkaaW.PrintMore
set_option linter.unusedVariables false
set_option linter.unusedSimpArgs false
def moveGap (m : List (List Int)) (a s n c f t x : Int) : List (List Int) × Int × Int × Int × Int × Int × Int × Int × Bool := if (gapB m a s n c f t && decide (0 ≤ x ∧ x ≤ wrap64 (n - wrap64 (t - f)))) = true then (putRow m a (moveRow (rowB m a) s n f t x), a, s, n, c, x, t + (x - f), moveCost f x, true) else ([], 0, 0, 0, 0, 0, 0, 0, false)
theorem gapB_of {m : List (List Int)} {a s n c f t : Int} (h : gapB m a s n c f t = true) : memB m = true ∧ WinOk m a s n c ∧ 0 ≤ f ∧ f ≤ t ∧ t ≤ n := by
  unfold gapB at h
  simp only [Bool.and_eq_true, decide_eq_true_eq] at h
  exact ⟨h.1.1, WinOk.of h.1.1 h.1.2, h.2.2.1, h.2.2.2, h.2.1.2⟩
theorem long_eq {m : List (List Int)} {a s n c f t : Int} (h : WinOk m a s n c) (hf : 0 ≤ f) (hft : f ≤ t) (htn : t ≤ n) : wrap64 (n - wrap64 (t - f)) = n - (t - f) := by
  have := h.n1; have := h.c1
  rw [wrap_ok (x := t - f) (by omega) (by omega), wrap_ok (by omega) (by omega)]
theorem moveGap_ok (m : List (List Int)) (a s n c f t x : Int) : okM (moveGap m a s n c f t x).1 := by
  unfold moveGap
  split
  · rename_i h
    simp only [Bool.and_eq_true, decide_eq_true_eq] at h
    obtain ⟨hm, hw, hf, hft, htn⟩ := gapB_of h.1
    have hl := h.2
    rw [long_eq hw hf hft htn] at hl
    have h1 := hw.s0; have h2 := hw.n0; have h3 := hw.s1; have h4 := hw.n1
    have hlen := moveRow_length (row := rowB m a) (x := x) h1 h2 (by omega) hf hft htn hl.1 (by omega)
    exact putRow_ok hm (by rw [hlen]; exact hw.r0) (by rw [hlen]; exact hw.r1)
  · exact okM_nil
def impl_MoveGap.f (m : List (List Int)) (a s n c f t x : Int) : Option (List (List Int) × Int × Int × Int × Int × Int × Int × Int × Bool) := if okMb m = true then some (moveGap m a s n c f t x) else none
theorem impl_MoveGap.calls (A0_0 : Option Addr) (c0_0 : Nat) (l0_0 : List (List Int)) (a0_1 a0_2 a0_3 a0_4 a0_5 a0_6 : Int) (a1_0 : Int) (r1 : List (List Int)) (r2 r3 r4 r5 r6 r7 r8 : Int) (r9 : Bool) (w : World) (hr0_0 : Kd.C (Kd.slice 5 (Kd.int .u8)) w A0_0 l0_0.length l0_0) (hc0_0 : l0_0.length ≤ c0_0) (h : impl_MoveGap.f l0_0 a0_1 a0_2 a0_3 a0_4 a0_5 a0_6 a1_0 = some (r1, r2, r3, r4, r5, r6, r7, r8, r9)) :
    Calls Try.prog 62 #[.agg #[.slice A0_0 l0_0.length c0_0, .int .i64 a0_1, .int .i64 a0_2, .int .i64 a0_3, .int .i64 a0_4, .int .i64 a0_5, .int .i64 a0_6], .int .i64 a1_0] w fun e w' => ∃ v0_ : Value, e = .returned (.tuple #[.agg #[v0_, .int .i64 r2, .int .i64 r3, .int .i64 r4, .int .i64 r5, .int .i64 r6, .int .i64 r7], .int .i64 r8, .bool r9]) ∧ Kd.S (Kd.slice 5 (Kd.int .u8)) 29 w' w.heap.size (fun _ => True) v0_ r1 ∧ Below w.heap.size w w' := by
  unfold impl_MoveGap.f at h
  split at h
  next hh =>
    have hm := okM_of hh
    have h := Option.some.inj h
    unfold moveGap at h
    by_cases h1 : gapB l0_0 a0_1 a0_2 a0_3 a0_4 a0_5 a0_6 = true
    · obtain ⟨hmb, hw, hf, hft, htn⟩ := gapB_of h1
      have hlen : impl_Gap_length.f l0_0 a0_1 a0_2 a0_3 a0_4 a0_5 a0_6 = some (wrap64 (a0_3 - wrap64 (a0_6 - a0_5))) := rfl
      by_cases h2 : 0 ≤ a1_0 ∧ a1_0 ≤ wrap64 (a0_3 - wrap64 (a0_6 - a0_5))
      · rw [h1, decide_eq_true h2, if_pos (by decide)] at h
        cases h
        have h3 := h2
        rw [long_eq hw hf hft htn] at h3
        exact impl_MoveGap_w2 A0_0 c0_0 l0_0 a0_1 a0_2 a0_3 a0_4 a0_5 a0_6 a1_0 _ l0_0 a0_1 a0_2 a0_3 a0_4 a0_5 a0_6 w hr0_0 hc0_0 ((isGap_f _ _ _ _ _ _ _).trans (congrArg some h1)) hlen ((within_f _ _ _).trans (congrArg some (decide_eq_true h2))) (gapOwn_f l0_0 a0_1 a0_2 a0_3 a0_4 a0_5 a0_6 hm).rounds hw hf hft htn h3.1 (by omega)
      · rw [h1, decide_eq_false h2, if_neg (by decide)] at h
        cases h
        exact impl_MoveGap_w1 A0_0 c0_0 l0_0 a0_1 a0_2 a0_3 a0_4 a0_5 a0_6 a1_0 _ w hr0_0 hc0_0 ((isGap_f _ _ _ _ _ _ _).trans (congrArg some h1)) hlen ((within_f _ _ _).trans (congrArg some (decide_eq_false h2)))
    · have h3 := Bool.eq_false_iff.2 h1
      rw [h3, Bool.false_and, if_neg (by decide)] at h
      cases h
      exact impl_MoveGap_w0 A0_0 c0_0 l0_0 a0_1 a0_2 a0_3 a0_4 a0_5 a0_6 a1_0 w hr0_0 hc0_0 ((isGap_f _ _ _ _ _ _ _).trans (congrArg some h3))
  next => cases h
theorem implMoveGap_f (m : List (List Int)) (a s n c f t x : Int) (h : okM m) : impl_MoveGap.f m a s n c f t x = some (moveGap m a s n c f t x) := if_pos (okMb_of h)
theorem cut_cut (row : List Int) (s n i j k : Nat) (hij : i ≤ j) (hjn : j ≤ n) (hk : j - i ≤ k) : (((row.drop s).take n).take j).drop i = ((row.drop (s + i)).take (j - i)).take k := by
  rw [List.take_take, Nat.min_eq_left hjn, List.drop_take, List.drop_drop, List.take_take, Nat.min_eq_right hk]
theorem l6Move_f (m : List (List Int)) (a s n c f t x : Int) (h : okM m) (hw : WinOk m a s n c) (hf : 0 ≤ f) (hft : f ≤ t) (htn : t ≤ n) (hx : 0 ≤ x) (hx2 : x + (t - f) ≤ n) : Ev (fun k => spec_l6Move.f k m a s n c f t x) (putRow m a (moveRow (rowB m a) s n f t x), a, s, n, c, x, t + (x - f), moveCost f x) := by
  have h1 := hw.s0; have h2 := hw.n0; have h3 := hw.s1; have h4 := hw.n1; have h5 := hw.c1
  have hsl := seeB_length hw
  have hse : seeB m a s n = ((rowB m a).drop s.toNat).take n.toNat := rfl
  refine Ev.bind (l2Bytes_f hw) ?_
  simp only [wrap_ok (x := t - f) (by omega) (by omega), wrap_ok (x := x + (t - f)) (by omega) (by omega), wrap_ok (x := f - x) (by omega) (by omega), wrap_ok (x := x - f) (by omega) (by omega)]
  have hcost : moveCost f x = if x ≤ f then f - x else x - f := by
    unfold moveCost
    rw [wrap_ok (by omega) (by omega)]
    unfold mx
    split <;> split <;> omega
  rw [show t + (x - f) = x + (t - f) by omega, hcost]
  by_cases hxf : x ≤ f
  · simp only [if_pos hxf, if_pos hx, if_pos (show f ≤ ((seeB m a s n).length : Int) by omega)]
    have hd : ((seeB m a s n).take f.toNat).drop x.toNat = (((rowB m a).drop (s.toNat + x.toNat)).take (f.toNat - x.toNat)).take (n.toNat - (t + (x - f)).toNat) := by
      rw [hse]
      exact cut_cut _ _ _ _ _ _ (by omega) (by omega) (by omega)
    have hm : moveRow (rowB m a) s n f t x = spl (rowB m a) (s.toNat + (x + (t - f)).toNat) (((seeB m a s n).take f.toNat).drop x.toNat) := by
      unfold moveRow
      by_cases hlt : x < f
      · rw [if_pos hlt, hd, show t + (x - f) = x + (t - f) by omega]
      · obtain rfl : x = f := by omega
        rw [if_neg hlt]
        have e1 : ((seeB m a s n).take x.toNat).drop x.toNat = [] := List.drop_eq_nil_of_le (by simp; omega)
        have e2 : (t + (x - x)).toNat - t.toNat = 0 := by omega
        rw [e1, e2, List.take_zero, List.take_nil, spl_nil, spl_nil]
    rw [hm]
    refine Ev.bind (l2Write_f m a s n c (x + (t - f)) _ h hw (by omega) (by simp; omega)) ?_
    exact Ev.now _
  · simp only [if_neg hxf, if_pos (show 0 ≤ t by omega), if_pos (show t ≤ x + (t - f) by omega), if_pos (show x + (t - f) ≤ ((seeB m a s n).length : Int) by omega)]
    have hd : ((seeB m a s n).take (x + (t - f)).toNat).drop t.toNat = (((rowB m a).drop (s.toNat + t.toNat)).take ((x + (t - f)).toNat - t.toNat)).take (n.toNat - f.toNat) := by
      rw [hse]
      exact cut_cut _ _ _ _ _ _ (by omega) (by omega) (by omega)
    have hm : moveRow (rowB m a) s n f t x = spl (rowB m a) (s.toNat + f.toNat) (((seeB m a s n).take (x + (t - f)).toNat).drop t.toNat) := by
      unfold moveRow
      rw [if_neg (by omega), hd, show t + (x - f) = x + (t - f) by omega]
    rw [hm]
    refine Ev.bind (l2Write_f m a s n c f _ h hw hf (by simp; omega)) ?_
    exact Ev.now _
theorem specMoveGap_f (m : List (List Int)) (a s n c f t x : Int) (h : okM m) (hs : -9223372036854775808 ≤ s ∧ s ≤ 9223372036854775807) : Ev (fun k => spec_MoveGap.f k m a s n c f t x) (moveGap m a s n c f t x) := by
  refine Ev.bind (l6Gap_f m a s n c f t h hs) ?_
  unfold moveGap
  cases hg : gapB m a s n c f t
  · exact Ev.now _
  · obtain ⟨hmb, hw, hf, hft, htn⟩ := gapB_of hg
    simp only [if_true, Bool.true_and, spec_l6Long.f, Option.bind_some, l1In_f]
    by_cases h2 : 0 ≤ x ∧ x ≤ wrap64 (n - wrap64 (t - f))
    · have h3 := h2
      rw [long_eq hw hf hft htn] at h3
      rw [decide_eq_true h2]
      simp only [if_true]
      exact Ev.bind (l6Move_f m a s n c f t x h hw hf hft htn h3.1 (by omega)) (Ev.now _)
    · rw [decide_eq_false h2]
      exact Ev.now _
end Go.Proofs.Ytaieobidkmihkaa.P


/- From a row's reading of an argument to what the print's kinds say of it. -/
namespace Go.Proofs.YtaieobidkmihkaaW.Mine
open Go.RowKit Go.Proofs.YtaieobidkmihkaaW.PrintWords
set_option linter.unusedVariables false
/-- Whatever reads as data of type T is of the kind d, and ok. -/
def ReadsK {α : Type} (P : Program) (T : TypeId) (d : Kd α) (ok : α → Prop) : Prop :=
  ∀ {H : Type} {enc : TypeId × Value → H} {w : World} {base : Nat} {spare : Nat → Bool} {held : Bool} {fuel : Nat} {cs : List Value} {x : DataW H × List MemPlace}, DataW.trod enc P w base spare held fuel T cs = some x → ∃ a : α, d.K w a cs ∧ ok a
theorem ReadsK.int {P : Program} {T : TypeId} {k : IntKind} (hT : P.underlying T = some (.int k)) : ReadsK P T (Kd.int k) (fun n => (Lit.int k n).wf = true) := by
  intro H enc w base spare held fuel cs x h
  obtain ⟨n, rfl, _, hw⟩ := DataW.trod_int hT h
  exact ⟨n, rfl, hw⟩
theorem ReadsK.bool {P : Program} {T : TypeId} (hT : P.underlying T = some .bool) : ReadsK P T Kd.bool (fun _ => True) := by
  intro H enc w base spare held fuel cs x h
  obtain ⟨b, rfl, _⟩ := DataW.trod_bool hT h
  exact ⟨b, rfl, trivial⟩
theorem exists_list {α : Type} {n : Nat} {p : Nat → α → Prop} (h : ∀ i, i < n → ∃ a, p i a) : ∃ l : List α, l.length = n ∧ ∀ i a, l[i]? = some a → p i a := by
  induction n with
  | zero => exact ⟨[], rfl, fun i a hi => by simp at hi⟩
  | succ n ih =>
    obtain ⟨l, hl, hp⟩ := ih (fun i hi => h i (by omega))
    obtain ⟨a, ha⟩ := h n (by omega)
    refine ⟨l ++ [a], by simp [hl], fun i b hb => ?_⟩
    rcases Nat.lt_or_ge i n with hi | hi
    · rw [List.getElem?_append_left (by omega)] at hb
      exact hp i b hb
    · have hi2 : i = n := by
        have := (List.getElem?_eq_some_iff.1 hb).1
        simp [hl] at this
        omega
      subst hi2
      rw [← hl, List.getElem?_append_right (Nat.le_refl _)] at hb
      simp at hb
      rw [← hb]
      exact ha
theorem ReadsK.slice {α : Type} {P : Program} {T e : TypeId} {d : Kd α} {ok : α → Prop} (hT : P.underlying T = some (.slice e)) (hc : P.cellsOf e = d.sz) (h1 : ReadsK P e d ok) : ReadsK P T (Kd.slice e d) (fun xs => ∀ x ∈ xs, ok x) := by
  intro H enc w base spare held fuel cs x h
  rcases Deep.open_slice hT h with ⟨rfl, _⟩ | ⟨a, len, cap, m, n, D, Pl, rfl, hb, hl, hm, hmm, _, hx⟩
  · exact ⟨[], ⟨none, 0, rfl, Nat.le_refl _, rfl, by simp, fun h => absurd h (by simp)⟩, fun x hx => by simp at hx⟩
  · have hlm : len ≤ m := by rw [hmm]; split <;> omega
    obtain ⟨l, hll, hp⟩ := exists_list (n := len) (p := fun i y => ∃ cs', w.cells? base (a.add (i * P.cellsOf e)) (P.cellsOf e) = some cs' ∧ d.K w y cs' ∧ ok y) (fun i hi => by
      obtain ⟨cs', h2, h3⟩ := hx i (by omega)
      obtain ⟨y, hy, hok⟩ := h1 h3
      exact ⟨y, cs', h2, hy, hok⟩)
    refine ⟨l, ⟨some a, cap, by rw [hll], by omega, rfl, ?_, fun hn => ⟨a, rfl, fun j p hj => ?_⟩⟩, fun y hy => ?_⟩
    · rw [hll]; unfold maxLen at hm; omega
    · obtain ⟨cs', h2, h3, _⟩ := hp j p hj
      obtain ⟨_, hlen, hcell⟩ := World.cells?_some h2
      refine ⟨cs', by rw [hlen, hc], h3, fun i u hu => ?_⟩
      have hi : i < P.cellsOf e := by
        have := (List.getElem?_eq_some_iff.1 hu).1
        omega
      have h4 := hcell i hi
      rw [hu] at h4
      rw [← h4, ← hc]
      congr 1
      unfold Addr.add
      by_cases z1 : j * P.cellsOf e = 0 <;> by_cases z2 : i = 0 <;> simp [z1, z2, Nat.add_assoc]
    · obtain ⟨j, hj, rfl⟩ := List.mem_iff_getElem.1 hy
      obtain ⟨_, _, _, hok⟩ := hp j _ (List.getElem?_eq_getElem hj)
      exact hok
/-- The fields from offset o on. -/
def ReadsF {α : Type} (P : Program) (o : Nat) (fs : List Field) (d : Kd α) (ok : α → Prop) : Prop :=
  ∀ {H : Type} {enc : TypeId × Value → H} {w : World} {base : Nat} {spare : Nat → Bool} {held : Bool} {n : Nat} {cs : List Value}, (∀ f ∈ fs, ∃ x, DataW.trod enc P w base spare held n f.type ((cs.drop f.offset).take (P.cellsOf f.type)) = some x) → ∃ a : α, d.K w a ((cs.drop o).take d.sz) ∧ ok a
theorem ReadsF.last {α : Type} {P : Program} {o : Nat} {f : Field} {d : Kd α} {ok : α → Prop} (ho : f.offset = o) (h : ReadsK P f.type d ok) (hc : P.cellsOf f.type = d.sz) : ReadsF P o [f] d ok := by
  intro H enc w base spare held n cs hh
  obtain ⟨x, hx⟩ := hh f (by simp)
  rw [ho, hc] at hx
  exact h hx
theorem ReadsF.cons {α β : Type} {P : Program} {o : Nat} {f : Field} {fs : List Field} {d : Kd α} {d2 : Kd β} {ok : α → Prop} {ok2 : β → Prop} (ho : f.offset = o) (h : ReadsK P f.type d ok) (hc : P.cellsOf f.type = d.sz) (h2 : ReadsF P (o + d.sz) fs d2 ok2) : ReadsF P o (f :: fs) (Kd.pair d d2) (fun p => ok p.1 ∧ ok2 p.2) := by
  intro H enc w base spare held n cs hh
  obtain ⟨x, hx⟩ := hh f (by simp)
  rw [ho, hc] at hx
  obtain ⟨a, ha, hok⟩ := h hx
  obtain ⟨b, hb, hok2⟩ := h2 (fun g hg => hh g (by simp [hg]))
  refine ⟨(a, b), ⟨_, _, ?_, ha, hb⟩, hok, hok2⟩
  show (cs.drop o).take (d.sz + d2.sz) = _
  rw [List.take_add, List.drop_drop]
theorem ReadsK.struct {α : Type} {P : Program} {T : TypeId} {fs : Array Field} {d : Kd α} {ok : α → Prop} (hT : P.underlying T = some (.struct fs)) (hc : P.cellsOf T = d.sz) (h : ReadsF P 0 fs.toList d ok) : ReadsK P T d ok := by
  intro H enc w base spare held fuel cs x hx
  obtain ⟨xs, n, _, _, hl, hlen, hf⟩ := DataW.trod_struct hT hx
  obtain ⟨a, ha, hok⟩ := h (n := n) (cs := cs) (enc := enc) (w := w) (base := base) (spare := spare) (held := held) (fun f hf2 => by
    obtain ⟨i, hi, rfl⟩ := List.mem_iff_getElem.1 hf2
    have h1 := hf i fs[i] (by simp at hi; exact Array.getElem?_eq_getElem hi)
    have hi2 : i < xs.length := by simp at hi; omega
    rw [List.getElem?_eq_getElem hi2] at h1
    exact ⟨_, by simpa using h1⟩)
  refine ⟨a, ?_, hok⟩
  rwa [List.drop_zero, ← hc, ← hl, List.take_length] at ha
theorem ReadsK.iso {α β : Type} {P : Program} {T : TypeId} {d : Kd α} {ok : α → Prop} (h : ReadsK P T d ok) (f : β → α) (g : α → β) (hfg : ∀ a, f (g a) = a) : ReadsK P T (Kd.iso d f) (fun b => ok (f b)) := by
  intro H enc w base spare held fuel cs x hx
  obtain ⟨a, ha, hok⟩ := h hx
  refine ⟨g a, ?_, by show ok (f (g a)); rw [hfg]; exact hok⟩
  show d.K w (f (g a)) cs
  rw [hfg]
  exact ha
theorem agg_of {cs : Array Value} {L : List Value} (h : cs.toList = L) : cs = L.toArray := by rw [← h]
end Go.Proofs.YtaieobidkmihkaaW.Mine


