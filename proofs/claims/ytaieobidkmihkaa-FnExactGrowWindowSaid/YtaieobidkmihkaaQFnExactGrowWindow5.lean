/- For all arguments, impl.GrowWindow answers what spec.GrowWindow answers, leaves its arguments alone, and shares nothing of what it returns.
   The row of the law FnExactGrowWindow, out of its walk. Conditions: none. -/
import Derived.Test.YtaieobidkmihkaaQFnExactGrowWindow4
import Derived.Test.YtaieobidkmihkaaRows
import Derived.WalkKit
import Derived.ProofKit
import Derived.OpenShut
import Derived.ShutString
import Derived.ChangeOld
import Derived.Below
import Derived.SizedLaws
-- written by wip/gen_fn.py
namespace Go.Proofs.Ytaieobidkmihkaa.P
open Go.RowKit Go.Proofs.YtaieobidkmihkaaW.PrintWords Go.Proofs.YtaieobidkmihkaaW.PrintLast Go.Proofs.YtaieobidkmihkaaW.PrintMore Go.Proofs.YtaieobidkmihkaaW.Mine
open List (setIfInBounds_toArray set_cons_zero set_cons_succ)
attribute [local go_sem] max2_int min2_int max_two min_two max_three min_three max_four min_four
set_option linter.unusedVariables false
set_option linter.unusedSimpArgs false
set_option maxHeartbeats 8000000 in
set_option maxRecDepth 100000 in
theorem impl_GrowWindow_w0 (A0_0 : Option Addr) (c0_0 : Nat) (l0_0 : List (List Int)) (a1_0 : Int) (a1_1 : Int) (a1_2 : Int) (a1_3 : Int) (A2_0 : Option Addr) (c2_0 : Nat) (l2_0 : List (List Int)) (w : World) (hr0_0 : Kd.C (Kd.slice 5 (Kd.int .u8)) w A0_0 l0_0.length l0_0) (hc0_0 : l0_0.length ≤ c0_0) (hr2_0 : Kd.C (Kd.slice 5 (Kd.int .u8)) w A2_0 l2_0.length l2_0) (hc2_0 : l2_0.length ≤ c2_0) (H1 : impl_areOn.f l0_0 ([(⟨a1_0, a1_1, a1_2, a1_3⟩ : SimplWindow)] : List SimplWindow) = some false) :
    Calls Try.prog 58 #[.agg #[.slice A0_0 l0_0.length c0_0], .agg #[.int .i64 a1_0, .int .i64 a1_1, .int .i64 a1_2, .int .i64 a1_3], .slice A2_0 l2_0.length c2_0] w fun e w' => ∃ v0_ : Value, e = .returned (.tuple #[.agg #[v0_], .agg #[.int .i64 0, .int .i64 0, .int .i64 0, .int .i64 0], .int .i64 0, .bool false]) ∧ Kd.S (Kd.slice 5 (Kd.int .u8)) 29 w' w.heap.size (fun _ => True) v0_ [] ∧ Below w.heap.size w w' := by
  have HR0_0 := Aside0.mk hr0_0; have HC0_0 := Aside0.mk hc0_0; clear hr0_0 hc0_0
  have HR2_0 := Aside0.mk hr2_0; have HC2_0 := Aside0.mk hc2_0; clear hr2_0 hc2_0
  have H1_ := Aside0.mk H1; clear H1; have H1 := H1_; clear H1_
  have HS0 : Aside0 (Stk w [] w) := ⟨Stk.nil w⟩
  go_enter Try.func58, Try.ntmps58
  refine reg (aF := ?_) (nw := ?_) [evB 0 3 [] 31 (fun s => #[.slice A0_0 l0_0.length c0_0]) 9999 [] (fun s => #[.slice A0_0 l0_0.length c0_0]), evB 1 4 [] 32 (fun s => #[.int .i64 a1_0, .int .i64 a1_1, .int .i64 a1_2, .int .i64 a1_3]) 9999 [] (fun s => #[.int .i64 a1_0, .int .i64 a1_1, .int .i64 a1_2, .int .i64 a1_3]), evB 2 6 [] 31 (fun s => #[.slice none 0 0]) 9999 [] (fun s => #[.slice none 0 0]), evB 3 7 [] 32 (fun s => #[.int .i64 0, .int .i64 0, .int .i64 0, .int .i64 0]) 9999 [] (fun s => #[.int .i64 0, .int .i64 0, .int .i64 0, .int .i64 0]), evP 4 8 [] (fun s => .int .i64 0), evP 5 9 [] (fun s => .bool false)] [] [] false 6 rfl rfl (by kernel_rfl) rfl (mf0) ?aF ?nw HS0.out ?hs ?_
  rotate_left 2
  case aF => intro s; simp only [putE, EvT.val, Act.put, setIfInBounds_toArray, set_cons_zero, set_cons_succ]; rfl
  case nw => intro s; simp only [thA, bsA, List.nil_append, List.cons_append, List.append_nil, if_true, if_false, Nat.reduceLT, set_cons_zero, set_cons_succ]; rfl
  case hs => exact ⟨bv rfl (fun s w => by go_simp; try rfl), bv rfl (fun s w => by go_simp; try rfl), bv rfl (fun s w => by go_simp; try rfl), bv rfl (fun s w => by go_simp; try rfl), pu rfl, pu rfl, trivial⟩
  intro s1 w1 h; have HS1 := Aside0.mk h; clear h HS0
  refine tl0 ?_
  refine wp_seq ?_
  refine reg (aF := ?_) (nw := ?_) [evL 0 16 [] (fun s => .agg #[.slice A0_0 l0_0.length c0_0]), evL 1 17 [] (fun s => .agg #[.int .i64 a1_0, .int .i64 a1_1, .int .i64 a1_2, .int .i64 a1_3]), evM 2 (some 18) (fun s x => .slice x.A ([(⟨a1_0, a1_1, a1_2, a1_3⟩ : SimplWindow)] : List SimplWindow).length x.c) (fun s x => [rowR kimplWindow 32 w x.lo x.hi x.A x.c ([(⟨a1_0, a1_1, a1_2, a1_3⟩ : SimplWindow)] : List SimplWindow)]), evC 3 (some 19) [2] (fun s x => .bool false) (fun s x => []), evP 4 20 [] (fun s => .bool true), evP 5 21 [] (fun s => .bool true), evP 6 22 [] (fun s => undef), evP 7 23 [] (fun s => undef), evP 8 24 [] (fun s => undef), evP 9 25 [] (fun s => .bool true)] [] [] false 10 rfl rfl (by kernel_rfl) rfl (mf0) ?aF ?nw HS1.out ?hs ?_
  rotate_left 2
  case aF => intro s; simp only [putE, EvT.val, Act.put, setIfInBounds_toArray, set_cons_zero, set_cons_succ]; rfl
  case nw => intro s; simp only [thA, bsA, List.nil_append, List.cons_append, List.append_nil, if_true, if_false, Nat.reduceLT, set_cons_zero, set_cons_succ]; rfl
  case hs => exact ⟨ld rfl 0 (fun s => rfl) (fun s w h => by have h0 := h 0 _ rfl; clear h; go_simp; try rfl), ld rfl 1 (fun s => rfl) (fun s w h => by have h0 := h 0 _ rfl; have h1 := h 1 _ rfl; have h2 := h 2 _ rfl; have h3 := h 3 _ rfl; clear h; go_simp; try rfl), bm kimplWindow 32 rfl (fun s => ([(⟨a1_0, a1_1, a1_2, a1_3⟩ : SimplWindow)] : List SimplWindow)) (fun s => [.int .i64 a1_0, .int .i64 a1_1, .int .i64 a1_2, .int .i64 a1_3]) (fun s w => by go_simp; try rfl) (fun s w => (Reps.c4 (show Kd.M kimplWindow _ _ _ (⟨a1_0, a1_1, a1_2, a1_3⟩ : SimplWindow) [.int .i64 a1_0, .int .i64 a1_1, .int .i64 a1_2, .int .i64 a1_3] from (kimplWindow_mkM _ _ _ _)) (Reps.none _ _))), cl rfl (fun s => #[.agg #[.slice A0_0 l0_0.length c0_0], .slice (s 2).A ([(⟨a1_0, a1_1, a1_2, a1_3⟩ : SimplWindow)] : List SimplWindow).length (s 2).c]) Try.func92 (fun s w1 h => (impl_areOn.calls _ _ _ _ _ _ _ _ (Kd.C_below HR0_0.out h.hb) HC0_0.out (Kd.R_reads' (h.get 0 rfl)).2.2 (Kd.R_reads' (h.get 0 rfl)).2.1 H1.out).mono (by rintro e w2 ⟨rfl, hb⟩; exact fin0 hb)), pu rfl, pu rfl, pf rfl, pf rfl, pf rfl, pu rfl, trivial⟩
  intro s2 w2 h; have HS2 := Aside0.mk h; clear h HS1
  refine tl0 ?_
  refine wp_cond_true rfl ?_
  refine reg (aF := ?_) (nw := ?_) [evP 0 26 [] (fun s => .agg #[.slice none 0 0]), evP 1 27 [] (fun s => .agg #[.int .i64 0, .int .i64 0, .int .i64 0, .int .i64 0]), evS 2, evS 3] [4, 5] [⟨3, 2, [], fun s => boxT (s1 2).lo #[.slice none 0 0] 31⟩, ⟨4, 3, [], fun s => boxT (s1 3).lo #[.int .i64 0, .int .i64 0, .int .i64 0, .int .i64 0] 32⟩] false 6 rfl rfl (by kernel_rfl) rfl ((mf1 (mf1 mf0))) ?aF ?nw HS2.out ?hs ?_
  rotate_left 2
  case aF => intro s; simp only [putE, EvT.val, Act.put, setIfInBounds_toArray, set_cons_zero, set_cons_succ]; rfl
  case nw => intro s; simp only [thA, bsA, List.nil_append, List.cons_append, List.append_nil, if_true, if_false, Nat.reduceLT, set_cons_zero, set_cons_succ]; rfl
  case hs => exact ⟨pu rfl (hr := fun s w => by go_simp; try rfl), pu rfl (hr := fun s w => by go_simp; try rfl), sb rfl 0 3 0 (fun s => [.slice none 0 0]) rfl rfl (fun s w h hf => by have h0 := h 0 _ rfl; have f0 := hf 0; clear h hf; go_simp; try rfl), sb rfl 1 4 0 (fun s => [.int .i64 0, .int .i64 0, .int .i64 0, .int .i64 0]) rfl rfl (fun s w h hf => by have h0 := h 0 _ rfl; have f0 := hf 0; have h1 := h 1 _ rfl; have f1 := hf 1; have h2 := h 2 _ rfl; have f2 := hf 2; have h3 := h 3 _ rfl; have f3 := hf 3; clear h hf; go_simp; try rfl), trivial⟩
  intro s3 w3 h; have HS3 := Aside0.mk h; clear h HS2
  refine tlP (v := .int .i64 0) 8 rfl ?_
  simp only [Act.put, setIfInBounds_toArray, set_cons_zero, set_cons_succ]
  refine tlP (v := .bool false) 9 rfl ?_
  simp only [Act.put, setIfInBounds_toArray, set_cons_zero, set_cons_succ]
  refine tl0 ?_
  refine wp_ret ?_
  try simp only [Exit.inBlock, Exit.then]
  refine bodyPost_ret (results_list (rs := [.cell 6 31, .cell 7 32, .tmp 8, .tmp 9]) rfl (by simp) (.cell (s1 2).lo 31 #[.slice none 0 0] (0, 0) _ rfl (show bx (s1 2).lo #[.slice none 0 0] 31 _ from HS3.out.get 3 rfl) Try.underlying31 rfl (by kernel_rfl) (.cell (s1 3).lo 32 #[.int .i64 0, .int .i64 0, .int .i64 0, .int .i64 0] (0, 0) _ rfl (show bx (s1 3).lo #[.int .i64 0, .int .i64 0, .int .i64 0, .int .i64 0] 32 _ from HS3.out.get 4 rfl) Try.underlying32 rfl (by kernel_rfl) (.tmp (.tmp .nil))))) rfl ?_
  exact ⟨_, by first | rfl | simp, Kd.S_nil _ _ _ _ _, HS3.out.hb⟩
set_option maxHeartbeats 8000000 in
set_option maxRecDepth 100000 in
theorem impl_GrowWindow_w1 (A0_0 : Option Addr) (c0_0 : Nat) (l0_0 : List (List Int)) (a1_0 : Int) (a1_1 : Int) (a1_2 : Int) (a1_3 : Int) (A2_0 : Option Addr) (c2_0 : Nat) (l2_0 : List (List Int)) (w : World) (hr0_0 : Kd.C (Kd.slice 5 (Kd.int .u8)) w A0_0 l0_0.length l0_0) (hc0_0 : l0_0.length ≤ c0_0) (hr2_0 : Kd.C (Kd.slice 5 (Kd.int .u8)) w A2_0 l2_0.length l2_0) (hc2_0 : l2_0.length ≤ c2_0) (H1 : impl_areOn.f l0_0 ([(⟨a1_0, a1_1, a1_2, a1_3⟩ : SimplWindow)] : List SimplWindow) = some true) (T0 : (decide ((l2_0.length : Int) > 40)) = true) :
    Calls Try.prog 58 #[.agg #[.slice A0_0 l0_0.length c0_0], .agg #[.int .i64 a1_0, .int .i64 a1_1, .int .i64 a1_2, .int .i64 a1_3], .slice A2_0 l2_0.length c2_0] w fun e w' => ∃ v0_ : Value, e = .returned (.tuple #[.agg #[v0_], .agg #[.int .i64 0, .int .i64 0, .int .i64 0, .int .i64 0], .int .i64 0, .bool false]) ∧ Kd.S (Kd.slice 5 (Kd.int .u8)) 29 w' w.heap.size (fun _ => True) v0_ [] ∧ Below w.heap.size w w' := by
  have HR0_0 := Aside0.mk hr0_0; have HC0_0 := Aside0.mk hc0_0; clear hr0_0 hc0_0
  have HR2_0 := Aside0.mk hr2_0; have HC2_0 := Aside0.mk hc2_0; clear hr2_0 hc2_0
  have H1_ := Aside0.mk H1; clear H1; have H1 := H1_; clear H1_
  have T0_ := Aside0.mk T0; clear T0; have T0 := T0_; clear T0_
  have HS0 : Aside0 (Stk w [] w) := ⟨Stk.nil w⟩
  go_enter Try.func58, Try.ntmps58
  refine reg (aF := ?_) (nw := ?_) [evB 0 3 [] 31 (fun s => #[.slice A0_0 l0_0.length c0_0]) 9999 [] (fun s => #[.slice A0_0 l0_0.length c0_0]), evB 1 4 [] 32 (fun s => #[.int .i64 a1_0, .int .i64 a1_1, .int .i64 a1_2, .int .i64 a1_3]) 9999 [] (fun s => #[.int .i64 a1_0, .int .i64 a1_1, .int .i64 a1_2, .int .i64 a1_3]), evB 2 6 [] 31 (fun s => #[.slice none 0 0]) 9999 [] (fun s => #[.slice none 0 0]), evB 3 7 [] 32 (fun s => #[.int .i64 0, .int .i64 0, .int .i64 0, .int .i64 0]) 9999 [] (fun s => #[.int .i64 0, .int .i64 0, .int .i64 0, .int .i64 0]), evP 4 8 [] (fun s => .int .i64 0), evP 5 9 [] (fun s => .bool false)] [] [] false 6 rfl rfl (by kernel_rfl) rfl (mf0) ?aF ?nw HS0.out ?hs ?_
  rotate_left 2
  case aF => intro s; simp only [putE, EvT.val, Act.put, setIfInBounds_toArray, set_cons_zero, set_cons_succ]; rfl
  case nw => intro s; simp only [thA, bsA, List.nil_append, List.cons_append, List.append_nil, if_true, if_false, Nat.reduceLT, set_cons_zero, set_cons_succ]; rfl
  case hs => exact ⟨bv rfl (fun s w => by go_simp; try rfl), bv rfl (fun s w => by go_simp; try rfl), bv rfl (fun s w => by go_simp; try rfl), bv rfl (fun s w => by go_simp; try rfl), pu rfl, pu rfl, trivial⟩
  intro s1 w1 h; have HS1 := Aside0.mk h; clear h HS0
  refine tl0 ?_
  refine wp_seq ?_
  refine reg (aF := ?_) (nw := ?_) [evL 0 16 [] (fun s => .agg #[.slice A0_0 l0_0.length c0_0]), evL 1 17 [] (fun s => .agg #[.int .i64 a1_0, .int .i64 a1_1, .int .i64 a1_2, .int .i64 a1_3]), evM 2 (some 18) (fun s x => .slice x.A ([(⟨a1_0, a1_1, a1_2, a1_3⟩ : SimplWindow)] : List SimplWindow).length x.c) (fun s x => [rowR kimplWindow 32 w x.lo x.hi x.A x.c ([(⟨a1_0, a1_1, a1_2, a1_3⟩ : SimplWindow)] : List SimplWindow)]), evC 3 (some 19) [2] (fun s x => .bool true) (fun s x => []), evP 4 20 [] (fun s => .bool false), evP 5 21 [] (fun s => .bool false), evP 6 22 [] (fun s => .slice A2_0 l2_0.length c2_0), evP 7 23 [] (fun s => .int .i64 (l2_0.length : Int)), evP 8 24 [] (fun s => .bool true), evP 9 25 [] (fun s => .bool true)] [] [] false 10 rfl rfl (by kernel_rfl) rfl (mf0) ?aF ?nw HS1.out ?hs ?_
  rotate_left 2
  case aF => intro s; simp only [putE, EvT.val, Act.put, setIfInBounds_toArray, set_cons_zero, set_cons_succ]; rfl
  case nw => intro s; simp only [thA, bsA, List.nil_append, List.cons_append, List.append_nil, if_true, if_false, Nat.reduceLT, set_cons_zero, set_cons_succ]; rfl
  case hs => exact ⟨ld rfl 0 (fun s => rfl) (fun s w h => by have h0 := h 0 _ rfl; clear h; go_simp; try rfl), ld rfl 1 (fun s => rfl) (fun s w h => by have h0 := h 0 _ rfl; have h1 := h 1 _ rfl; have h2 := h 2 _ rfl; have h3 := h 3 _ rfl; clear h; go_simp; try rfl), bm kimplWindow 32 rfl (fun s => ([(⟨a1_0, a1_1, a1_2, a1_3⟩ : SimplWindow)] : List SimplWindow)) (fun s => [.int .i64 a1_0, .int .i64 a1_1, .int .i64 a1_2, .int .i64 a1_3]) (fun s w => by go_simp; try rfl) (fun s w => (Reps.c4 (show Kd.M kimplWindow _ _ _ (⟨a1_0, a1_1, a1_2, a1_3⟩ : SimplWindow) [.int .i64 a1_0, .int .i64 a1_1, .int .i64 a1_2, .int .i64 a1_3] from (kimplWindow_mkM _ _ _ _)) (Reps.none _ _))), cl rfl (fun s => #[.agg #[.slice A0_0 l0_0.length c0_0], .slice (s 2).A ([(⟨a1_0, a1_1, a1_2, a1_3⟩ : SimplWindow)] : List SimplWindow).length (s 2).c]) Try.func92 (fun s w1 h => (impl_areOn.calls _ _ _ _ _ _ _ _ (Kd.C_below HR0_0.out h.hb) HC0_0.out (Kd.R_reads' (h.get 0 rfl)).2.2 (Kd.R_reads' (h.get 0 rfl)).2.1 H1.out).mono (by rintro e w2 ⟨rfl, hb⟩; exact fin0 hb)), pu rfl, pu rfl, pu rfl, pu rfl (hr := fun s w => by go_simp; try rfl), pb (q := .gtr) T0.out rfl, pu rfl, trivial⟩
  intro s2 w2 h; have HS2 := Aside0.mk h; clear h HS1
  refine tl0 ?_
  refine wp_cond_true rfl ?_
  refine reg (aF := ?_) (nw := ?_) [evP 0 26 [] (fun s => .agg #[.slice none 0 0]), evP 1 27 [] (fun s => .agg #[.int .i64 0, .int .i64 0, .int .i64 0, .int .i64 0]), evS 2, evS 3] [4, 5] [⟨3, 2, [], fun s => boxT (s1 2).lo #[.slice none 0 0] 31⟩, ⟨4, 3, [], fun s => boxT (s1 3).lo #[.int .i64 0, .int .i64 0, .int .i64 0, .int .i64 0] 32⟩] false 6 rfl rfl (by kernel_rfl) rfl ((mf1 (mf1 mf0))) ?aF ?nw HS2.out ?hs ?_
  rotate_left 2
  case aF => intro s; simp only [putE, EvT.val, Act.put, setIfInBounds_toArray, set_cons_zero, set_cons_succ]; rfl
  case nw => intro s; simp only [thA, bsA, List.nil_append, List.cons_append, List.append_nil, if_true, if_false, Nat.reduceLT, set_cons_zero, set_cons_succ]; rfl
  case hs => exact ⟨pu rfl (hr := fun s w => by go_simp; try rfl), pu rfl (hr := fun s w => by go_simp; try rfl), sb rfl 0 3 0 (fun s => [.slice none 0 0]) rfl rfl (fun s w h hf => by have h0 := h 0 _ rfl; have f0 := hf 0; clear h hf; go_simp; try rfl), sb rfl 1 4 0 (fun s => [.int .i64 0, .int .i64 0, .int .i64 0, .int .i64 0]) rfl rfl (fun s w h hf => by have h0 := h 0 _ rfl; have f0 := hf 0; have h1 := h 1 _ rfl; have f1 := hf 1; have h2 := h 2 _ rfl; have f2 := hf 2; have h3 := h 3 _ rfl; have f3 := hf 3; clear h hf; go_simp; try rfl), trivial⟩
  intro s3 w3 h; have HS3 := Aside0.mk h; clear h HS2
  refine tlP (v := .int .i64 0) 8 rfl ?_
  simp only [Act.put, setIfInBounds_toArray, set_cons_zero, set_cons_succ]
  refine tlP (v := .bool false) 9 rfl ?_
  simp only [Act.put, setIfInBounds_toArray, set_cons_zero, set_cons_succ]
  refine tl0 ?_
  refine wp_ret ?_
  try simp only [Exit.inBlock, Exit.then]
  refine bodyPost_ret (results_list (rs := [.cell 6 31, .cell 7 32, .tmp 8, .tmp 9]) rfl (by simp) (.cell (s1 2).lo 31 #[.slice none 0 0] (0, 0) _ rfl (show bx (s1 2).lo #[.slice none 0 0] 31 _ from HS3.out.get 3 rfl) Try.underlying31 rfl (by kernel_rfl) (.cell (s1 3).lo 32 #[.int .i64 0, .int .i64 0, .int .i64 0, .int .i64 0] (0, 0) _ rfl (show bx (s1 3).lo #[.int .i64 0, .int .i64 0, .int .i64 0, .int .i64 0] 32 _ from HS3.out.get 4 rfl) Try.underlying32 rfl (by kernel_rfl) (.tmp (.tmp .nil))))) rfl ?_
  exact ⟨_, by first | rfl | simp, Kd.S_nil _ _ _ _ _, HS3.out.hb⟩
set_option maxHeartbeats 8000000 in
set_option maxRecDepth 100000 in
theorem impl_GrowWindow_w2 (A0_0 : Option Addr) (c0_0 : Nat) (l0_0 : List (List Int)) (a1_0 : Int) (a1_1 : Int) (a1_2 : Int) (a1_3 : Int) (A2_0 : Option Addr) (c2_0 : Nat) (l2_0 : List (List Int)) (w : World) (hr0_0 : Kd.C (Kd.slice 5 (Kd.int .u8)) w A0_0 l0_0.length l0_0) (hc0_0 : l0_0.length ≤ c0_0) (hr2_0 : Kd.C (Kd.slice 5 (Kd.int .u8)) w A2_0 l2_0.length l2_0) (hc2_0 : l2_0.length ≤ c2_0) (H1 : impl_areOn.f l0_0 ([(⟨a1_0, a1_1, a1_2, a1_3⟩ : SimplWindow)] : List SimplWindow) = some true) (H2 : ∃ k, impl_Memory_own.f k l0_0 = some l0_0) (T0 : (decide ((l2_0.length : Int) > 40)) = false) (rM : List (List Int)) (r0 r1 r2 r3 rm : Int) (rb : Bool) (HG0 : growGo l0_0 a1_0 a1_1 a1_2 a1_3 0 l2_0 = (rM, r0, r1, r2, r3, rm, rb)) (HWO0 : WinOk l0_0 a1_0 a1_1 a1_2 a1_3) (FL0 : ∀ x ∈ l2_0, x.length ≤ 1048576) (F0 : l2_0.length ≤ 40) (F1 : l0_0.length ≤ 16) :
    Calls Try.prog 58 #[.agg #[.slice A0_0 l0_0.length c0_0], .agg #[.int .i64 a1_0, .int .i64 a1_1, .int .i64 a1_2, .int .i64 a1_3], .slice A2_0 l2_0.length c2_0] w fun e w' => ∃ v0_ : Value, e = .returned (.tuple #[.agg #[v0_], .agg #[.int .i64 r0, .int .i64 r1, .int .i64 r2, .int .i64 r3], .int .i64 rm, .bool rb]) ∧ Kd.S (Kd.slice 5 (Kd.int .u8)) 29 w' w.heap.size (fun _ => True) v0_ rM ∧ Below w.heap.size w w' := by
  have HG := Aside0.mk HG0; have HWO := Aside0.mk HWO0; have FL := Aside0.mk FL0; clear HG0 HWO0 FL0
  have HR0_0 := Aside0.mk hr0_0; have HC0_0 := Aside0.mk hc0_0; clear hr0_0 hc0_0
  have HR2_0 := Aside0.mk hr2_0; have HC2_0 := Aside0.mk hc2_0; clear hr2_0 hc2_0
  have H1_ := Aside0.mk H1; clear H1; have H1 := H1_; clear H1_
  obtain ⟨k, H2_⟩ := H2; have H2 := Aside0.mk H2_; clear H2_
  have T0_ := Aside0.mk T0; clear T0; have T0 := T0_; clear T0_
  have HS0 : Aside0 (Stk w [] w) := ⟨Stk.nil w⟩
  go_enter Try.func58, Try.ntmps58
  refine reg (aF := ?_) (nw := ?_) [evB 0 3 [] 31 (fun s => #[.slice A0_0 l0_0.length c0_0]) 9999 [] (fun s => #[.slice A0_0 l0_0.length c0_0]), evB 1 4 [] 32 (fun s => #[.int .i64 a1_0, .int .i64 a1_1, .int .i64 a1_2, .int .i64 a1_3]) 9999 [] (fun s => #[.int .i64 a1_0, .int .i64 a1_1, .int .i64 a1_2, .int .i64 a1_3]), evB 2 6 [] 31 (fun s => #[.slice none 0 0]) 9999 [] (fun s => #[.slice none 0 0]), evB 3 7 [] 32 (fun s => #[.int .i64 0, .int .i64 0, .int .i64 0, .int .i64 0]) 9999 [] (fun s => #[.int .i64 0, .int .i64 0, .int .i64 0, .int .i64 0]), evP 4 8 [] (fun s => .int .i64 0), evP 5 9 [] (fun s => .bool false)] [] [] false 6 rfl rfl (by kernel_rfl) rfl (mf0) ?aF ?nw HS0.out ?hs ?_
  rotate_left 2
  case aF => intro s; simp only [putE, EvT.val, Act.put, setIfInBounds_toArray, set_cons_zero, set_cons_succ]; rfl
  case nw => intro s; simp only [thA, bsA, List.nil_append, List.cons_append, List.append_nil, if_true, if_false, Nat.reduceLT, set_cons_zero, set_cons_succ]; rfl
  case hs => exact ⟨bv rfl (fun s w => by go_simp; try rfl), bv rfl (fun s w => by go_simp; try rfl), bv rfl (fun s w => by go_simp; try rfl), bv rfl (fun s w => by go_simp; try rfl), pu rfl, pu rfl, trivial⟩
  intro s1 w1 h; have HS1 := Aside0.mk h; clear h HS0
  refine tl0 ?_
  refine wp_seq ?_
  refine reg (aF := ?_) (nw := ?_) [evL 0 16 [] (fun s => .agg #[.slice A0_0 l0_0.length c0_0]), evL 1 17 [] (fun s => .agg #[.int .i64 a1_0, .int .i64 a1_1, .int .i64 a1_2, .int .i64 a1_3]), evM 2 (some 18) (fun s x => .slice x.A ([(⟨a1_0, a1_1, a1_2, a1_3⟩ : SimplWindow)] : List SimplWindow).length x.c) (fun s x => [rowR kimplWindow 32 w x.lo x.hi x.A x.c ([(⟨a1_0, a1_1, a1_2, a1_3⟩ : SimplWindow)] : List SimplWindow)]), evC 3 (some 19) [2] (fun s x => .bool true) (fun s x => []), evP 4 20 [] (fun s => .bool false), evP 5 21 [] (fun s => .bool false), evP 6 22 [] (fun s => .slice A2_0 l2_0.length c2_0), evP 7 23 [] (fun s => .int .i64 (l2_0.length : Int)), evP 8 24 [] (fun s => .bool false), evP 9 25 [] (fun s => .bool false)] [] [] false 10 rfl rfl (by kernel_rfl) rfl (mf0) ?aF ?nw HS1.out ?hs ?_
  rotate_left 2
  case aF => intro s; simp only [putE, EvT.val, Act.put, setIfInBounds_toArray, set_cons_zero, set_cons_succ]; rfl
  case nw => intro s; simp only [thA, bsA, List.nil_append, List.cons_append, List.append_nil, if_true, if_false, Nat.reduceLT, set_cons_zero, set_cons_succ]; rfl
  case hs => exact ⟨ld rfl 0 (fun s => rfl) (fun s w h => by have h0 := h 0 _ rfl; clear h; go_simp; try rfl), ld rfl 1 (fun s => rfl) (fun s w h => by have h0 := h 0 _ rfl; have h1 := h 1 _ rfl; have h2 := h 2 _ rfl; have h3 := h 3 _ rfl; clear h; go_simp; try rfl), bm kimplWindow 32 rfl (fun s => ([(⟨a1_0, a1_1, a1_2, a1_3⟩ : SimplWindow)] : List SimplWindow)) (fun s => [.int .i64 a1_0, .int .i64 a1_1, .int .i64 a1_2, .int .i64 a1_3]) (fun s w => by go_simp; try rfl) (fun s w => (Reps.c4 (show Kd.M kimplWindow _ _ _ (⟨a1_0, a1_1, a1_2, a1_3⟩ : SimplWindow) [.int .i64 a1_0, .int .i64 a1_1, .int .i64 a1_2, .int .i64 a1_3] from (kimplWindow_mkM _ _ _ _)) (Reps.none _ _))), cl rfl (fun s => #[.agg #[.slice A0_0 l0_0.length c0_0], .slice (s 2).A ([(⟨a1_0, a1_1, a1_2, a1_3⟩ : SimplWindow)] : List SimplWindow).length (s 2).c]) Try.func92 (fun s w1 h => (impl_areOn.calls _ _ _ _ _ _ _ _ (Kd.C_below HR0_0.out h.hb) HC0_0.out (Kd.R_reads' (h.get 0 rfl)).2.2 (Kd.R_reads' (h.get 0 rfl)).2.1 H1.out).mono (by rintro e w2 ⟨rfl, hb⟩; exact fin0 hb)), pu rfl, pu rfl, pu rfl, pu rfl (hr := fun s w => by go_simp; try rfl), pb (q := .gtr) T0.out rfl, pu rfl, trivial⟩
  intro s2 w2 h; have HS2 := Aside0.mk h; clear h HS1
  refine tl0 ?_
  refine wp_cond_false rfl ?_
  refine wp_skip ?_
  refine thN ?_
  refine reg (aF := ?_) (nw := ?_) [evL 0 28 [] (fun s => .agg #[.slice A0_0 l0_0.length c0_0]), evC 1 (some 29) [] (fun s x => .agg #[.slice x.A l0_0.length x.c]) (fun s x => [rowS (Kd.slice 5 (Kd.int .u8)) 29 w x.lo x.hi x.A x.c l0_0]), evB 2 10 [] 31 (fun s => #[.slice none 0 0]) 3 [1] (fun s => #[.slice (s 1).A l0_0.length (s 1).c]), evS 3] [4] [] false 5 rfl rfl (by kernel_rfl) rfl (mf0) ?aF ?nw HS2.out ?hs ?_
  rotate_left 2
  case aF => intro s; simp only [putE, EvT.val, Act.put, setIfInBounds_toArray, set_cons_zero, set_cons_succ]; rfl
  case nw => intro s; simp only [thA, bsA, List.nil_append, List.cons_append, List.append_nil, if_true, if_false, Nat.reduceLT, set_cons_zero, set_cons_succ]; rfl
  case hs => exact ⟨ld rfl 1 (fun s => rfl) (fun s w h => by have h0 := h 0 _ rfl; clear h; go_simp; try rfl), cl rfl (fun s => #[.agg #[.slice A0_0 l0_0.length c0_0]]) Try.func71 (fun s w1 h => (impl_Memory_own.calls _ _ _ _ _ _ (Kd.C_below HR0_0.out h.hb) HC0_0.out H2.out).mono (by rintro e w2 ⟨v0_, rfl, ho0, hb⟩; obtain ⟨x, rfl, hx⟩ := fin_S ho0 hb h.hb.size; exact ⟨x, rfl, hx⟩)), bv rfl (fun s w => by go_simp; try rfl), st rfl 2 0 (fun s => [.slice (s 1).A l0_0.length (s 1).c]) rfl (fun s w h hf => by have h0 := h 0 _ rfl; have f0 := hf 0; clear h hf; go_simp; try rfl), trivial⟩
  intro s3 w3 h; have HS3 := Aside0.mk h; clear h HS2
  refine tlP (v := .int .i64 0) 11 rfl ?_
  simp only [Act.put, setIfInBounds_toArray, set_cons_zero, set_cons_succ]
  refine tl0 ?_
  refine wp_seq ?_
  refine reg0 (aF := ?_) [evP 0 30 [] (fun s => .slice A2_0 l2_0.length c2_0), evP 1 31 [] (fun s => .int .i64 (l2_0.length : Int)), evP 2 32 [] (fun s => .int .i64 0)] [] false 3 rfl rfl (by kernel_rfl) rfl (fun _ => rfl) ?aF HS3.out ?hs ?_
  rotate_left 1
  case aF => intro s; simp only [putE, EvT.val, Act.put, setIfInBounds_toArray, set_cons_zero, set_cons_succ]; rfl
  case hs => exact ⟨pu rfl, pu rfl (hr := fun s w => by go_simp; try rfl), pu rfl, trivial⟩
  intro s4 w4 h; have HS4 := Aside0.mk h; clear h HS3
  refine tl0 ?_
  refine wp_block ?_
  -- thing 0: rowS (Kd.slice 5 (Kd.int .u8)) 29 w (s3 1).lo (s3 1).hi (s3 1).A (s3 1).c l0_0
  -- thing 1: boxT (s3 2).lo #[.slice (s3 1).A l0_0.length (s3 1).c] 31
  -- thing 2: rowR kimplWindow 32 w (s2 2).lo (s2 2).hi (s2 2).A (s2 2).c ([(⟨a1_0, a1_1, a1_2, a1_3⟩ : SimplWindow)] : List SimplWindow)
  -- thing 3: boxT (s1 0).lo #[.slice A0_0 l0_0.length c0_0] 31
  -- thing 4: boxT (s1 1).lo #[.int .i64 a1_0, .int .i64 a1_1, .int .i64 a1_2, .int .i64 a1_3] 32
  -- thing 5: boxT (s1 2).lo #[.slice none 0 0] 31
  -- thing 6: boxT (s1 3).lo #[.int .i64 0, .int .i64 0, .int .i64 0, .int .i64 0] 32
  -- slots: 0=.agg #[.slice A0_0 l0_0.length c0_0], 1=.agg #[.int .i64 a1_0, .int .i64 a1_1, .int .i64 a1_2, .int .i64 a1_3], 2=.slice A2_0 l2_0.length c2_0, 3=.pointer (some ⟨(s1 0).lo, 0, none⟩), 4=.pointer (some ⟨(s1 1).lo, 0, none⟩), 6=.pointer (some ⟨(s1 2).lo, 0, none⟩), 7=.pointer (some ⟨(s1 3).lo, 0, none⟩), 8=.int .i64 0, 9=.bool false, 16=.agg #[.slice A0_0 l0_0.length c0_0], 17=.agg #[.int .i64 a1_0, .int .i64 a1_1, .int .i64 a1_2, .int .i64 a1_3], 18=.slice (s2 2).A ([(⟨a1_0, a1_1, a1_2, a1_3⟩ : SimplWindow)] : List SimplWindow).length (s2 2).c, 19=.bool true, 20=.bool false, 21=.bool false, 22=.slice A2_0 l2_0.length c2_0, 23=.int .i64 (l2_0.length : Int), 24=.bool false, 25=.bool false, 28=.agg #[.slice A0_0 l0_0.length c0_0], 29=.agg #[.slice (s3 1).A l0_0.length (s3 1).c], 10=.pointer (some ⟨(s3 2).lo, 0, none⟩), 11=.int .i64 0, 30=.slice A2_0 l2_0.length c2_0, 31=.int .i64 (l2_0.length : Int), 32=.int .i64 0
  have hS0_ := HS4.out.get 0 rfl; have hge0_ := HS4.out.ge 0 rfl; have ha1_ := HS4.out.apartOf 0 1 (by decide) rfl rfl; have ha2_ := HS4.out.apartOf 0 4 (by decide) rfl rfl; have ha3_ := HS4.out.apartOf 0 5 (by decide) rfl rfl; have ha4_ := HS4.out.apartOf 0 6 (by decide) rfl rfl
  have hb0_ : Stk w _ w4 := HS4.out.sub (.cons _ (.cons_cons _ (.cons _ (.cons _ (.cons_cons _ (.cons_cons _ (.cons_cons _ .slnil)))))))
  generalize (s3 2).lo = g10 at *; generalize (s1 1).lo = g4 at *; generalize (s1 2).lo = g6 at *; generalize (s1 3).lo = g7 at *; generalize (s3 1).A = A0_ at *; generalize (s3 1).c = c0_ at *
  have HB0 := Aside0.mk hb0_; have HR0 : Aside0 (Kd.S (Kd.slice 5 (Kd.int .u8)) 29 w4 w.heap.size (fun k => w.heap.size ≤ k ∧ k ≠ g10 ∧ k ≠ g4 ∧ k ≠ g6 ∧ k ≠ g7) (.slice A0_ l0_0.length c0_) l0_0) := ⟨Kd.S_mono hS0_ (fun k hk => by simp only [Th.apart, rowS, boxT] at ha1_ ha2_ ha3_ ha4_ hge0_; have h1_ := hk.1; have h2_ := hk.2; refine ⟨by omega, by omega, by omega, by omega, by omega⟩)⟩; clear hS0_ hge0_ ha1_ ha2_ ha3_ ha4_ hb0_ HS4
  go_loopg [32, 11] (l2_0.length + 1) (fun kq v32 v11 wr => ∃ (i mv : Int) (M : List (List Int)) (x0 x1 x2 x3 : Int) (A_ : Option Addr) (c_ : Nat), v32 = .int .i64 i ∧ v11 = .int .i64 mv ∧ Aside0 ((kq : Int) + i = (l2_0.length : Int) + 1 ∧ 0 ≤ i ∧ i ≤ (l2_0.length : Int) ∧ 0 ≤ mv ∧ mv ≤ i ∧ M.length ≤ 16) ∧ Aside0 (growGo M x0 x1 x2 x3 mv (l2_0.drop i.toNat) = (rM, r0, r1, r2, r3, rm, rb)) ∧ Aside0 (WinOk M x0 x1 x2 x3) ∧ Aside0 (Stk w [boxT g10 #[.slice A_ M.length c_] 31, boxT g4 #[.int .i64 x0, .int .i64 x1, .int .i64 x2, .int .i64 x3] 32, boxT g6 #[.slice none 0 0] 31, boxT g7 #[.int .i64 0, .int .i64 0, .int .i64 0, .int .i64 0] 32] wr) ∧ Aside0 (Kd.S (Kd.slice 5 (Kd.int .u8)) 29 wr w.heap.size (fun k => w.heap.size ≤ k ∧ k ≠ g10 ∧ k ≠ g4 ∧ k ≠ g6 ∧ k ≠ g7) (.slice A_ M.length c_) M))
  case atStart => exact ⟨0, 0, l0_0, a1_0, a1_1, a1_2, a1_3, A0_, c0_, rfl, rfl, ⟨by simp; omega⟩, HG, HWO, HB0, HR0⟩
  case round =>
    rename_i J_ K_ hJ_ hK_
    obtain ⟨i, mv, M, x0, x1, x2, x3, A_, c_, rfl, rfl, HK, HGG, HWO, HB, HRW⟩ := hrel
    have hk_ := HK.out
    obtain ⟨fs, hfs_, hco_⟩ := HB.out.cover; have HSR := Aside0.mk hfs_; have HFS := Aside0.mk hco_; clear hfs_ hco_ HB
    by_cases hi : i < (l2_0.length : Int)
    · obtain ⟨ge, Xe, cape, hA_, hel_, hcc_, hcr_⟩ := C_rowD HR2_0.out (i := i.toNat) (by omega)
      have hrl_ := FL.out _ (List.getElem_mem (l := l2_0) (n := i.toNat) (by omega))
      have hd_ := List.drop_eq_getElem_cons (l := l2_0) (i := i.toNat) (by omega); rw [show i.toNat + 1 = (i + 1).toNat by omega] at hd_
      subst hA_; generalize l2_0[i.toNat] = row at *
      have HEL := Aside0.mk hel_; have HRel := Aside0.mk hcr_; have HCel := Aside0.mk hcc_; have HD := Aside0.mk hd_; clear hel_ hcr_ hcc_ hd_
      obtain ⟨M2, z0, z1, z2, z3, b, hp_⟩ : ∃ M2 z0 z1 z2 z3 b, appendP M x0 x1 x2 x3 row = (M2, z0, z1, z2, z3, b) := ⟨_, _, _, _, _, _, rfl⟩
      have HP := Aside0.mk hp_; clear hp_
      cases b
      · have T1 : Aside0 ((decide (i < (l2_0.length : Int))) = true) := ⟨by first | exact decide_eq_true (by omega) | simp <;> omega⟩
        refine reg0 (aF := ?_) [evP 0 33 [] (fun s => .bool true)] [] false 1 rfl rfl (by kernel_rfl) rfl (fun _ => rfl) ?aF HSR.out ?hs ?_
        rotate_left 1
        case aF => intro s; simp only [putE, EvT.val, Act.put, setIfInBounds_toArray, set_cons_zero, set_cons_succ]; rfl
        case hs => exact ⟨pb (q := .lss) T1.out rfl, trivial⟩
        intro s5 w5 h; have HS5 := Aside0.mk h; clear h HSR
        refine tl0 ?_
        refine wp_seq ?_
        refine wp_cond_true rfl ?_
        refine wp_skip ?_
        refine thN ?_
        refine wp_seq ?_
        refine wp_block ?_
        refine reg0 (aF := ?_) [evP 0 34 [] (fun s => .pointer (some (ge.add (i).toNat))), evL 1 35 [] (fun s => .slice Xe row.length cape)] [2] false 3 rfl rfl (by kernel_rfl) rfl (fun _ => rfl) ?aF HS5.out ?hs ?_
        rotate_left 1
        case aF => intro s; simp only [putE, EvT.val, Act.put, setIfInBounds_toArray, set_cons_zero, set_cons_succ]; rfl
        case hs => exact ⟨pu rfl (hr := fun s w => by go_simp; try rfl), lo rfl (one_at HEL.out) (fun s w h => by have h0 := h 0 _ rfl; clear h; go_simp; try rfl), trivial⟩
        intro s6 w6 h; have HS6 := Aside0.mk h; clear h HS5
        refine tlP (v := .slice Xe row.length cape) 13 rfl ?_
        simp only [Act.put, setIfInBounds_toArray, set_cons_zero, set_cons_succ]
        refine tl0 ?_
        refine wp_seq ?_
        refine seqReg [0, 1, 2, 3, 4, 5, 6, 7, 8] rfl rfl ?_
        have hb_ := HS6.out.get 1 rfl
        have hc0_ : w6.cell? ⟨g4, 0, none⟩ = some (.int .i64 x0) := (blk_cell hb_ 0).trans rfl
        have hc1_ : w6.cell? ⟨g4, 1, none⟩ = some (.int .i64 x1) := (blk_cell hb_ 1).trans rfl
        have hc2_ : w6.cell? ⟨g4, 2, none⟩ = some (.int .i64 x2) := (blk_cell hb_ 2).trans rfl
        have hc3_ : w6.cell? ⟨g4, 3, none⟩ = some (.int .i64 x3) := (blk_cell hb_ 3).trans rfl
        clear hb_
        refine tlP (v := .agg #[.int .i64 x0, .int .i64 x1, .int .i64 x2, .int .i64 x3]) 37 rfl ?_ (hr := by go_simp; try rfl)
        clear hc0_ hc1_ hc2_ hc3_
        simp only [Act.put, setIfInBounds_toArray, set_cons_zero, set_cons_succ]
        refine tlP (v := .slice Xe row.length cape) 38 rfl ?_
        simp only [Act.put, setIfInBounds_toArray, set_cons_zero, set_cons_succ]
        have hS_ := HFS.out.move HS6.out (fun x hx => by simp [hx]) HRW.out (Nat.le_refl _) (fun k hk _ => (by have h_ := hk.2; simp only [List.all_cons, List.all_nil, Th.out, boxT, Bool.and_eq_true, Bool.or_eq_true, decide_eq_true_eq, and_true]; omega))
        have hbx_ := HS6.out.get 0 rfl
        refine tlCall (some 39) rfl #[.pointer (some ⟨g10, 0, none⟩), .agg #[.int .i64 x0, .int .i64 x1, .int .i64 x2, .int .i64 x3], .slice Xe row.length cape] Try.func93 (impl_Memory_appended_c (l := row) hbx_ hS_ (fun k hk e_ => by have h_ := hk.2; omega) HS6.out.hb.size HWO.out (by omega) (Kd.C_below HRel.out HS6.out.hb) HCel.out (by omega)) (fun e_ wq5 hR => ?_)
        simp only [HP.out] at hR; obtain ⟨rfl, hos_, hK_, A2_, c2_, hbx2_, hS2_⟩ := hR; refine ⟨_, rfl, ?_⟩
        have h0_ : Stk w [boxT g10 #[.slice A_ M.length c_] 31, boxT g4 #[.int .i64 x0, .int .i64 x1, .int .i64 x2, .int .i64 x3] 32, boxT g6 #[.slice none 0 0] 31, boxT g7 #[.int .i64 0, .int .i64 0, .int .i64 0, .int .i64 0] 32] w6 := HS6.out.sub (List.sublist_append_left [boxT g10 #[.slice A_ M.length c_] 31, boxT g4 #[.int .i64 x0, .int .i64 x1, .int .i64 x2, .int .i64 x3] 32, boxT g6 #[.slice none 0 0] 31, boxT g7 #[.int .i64 0, .int .i64 0, .int .i64 0, .int .i64 0] 32] fs)
        have hl0_ := blk_lt (h0_.get 0 rfl)
        have hl1_ := blk_lt (h0_.get 1 rfl)
        have hl2_ := blk_lt (h0_.get 2 rfl)
        have hl3_ := blk_lt (h0_.get 3 rfl)
        have h_ := h0_.after 0 rfl hos_ hK_ (fun k hk => ⟨hk.1, (by have h_ := hk.2; simp only [List.all_cons, List.all_nil, Th.out, boxT, Bool.and_eq_true, Bool.or_eq_true, decide_eq_true_eq, and_true]; omega)⟩) hbx2_; simp only [set_cons_zero, set_cons_succ] at h_
        have hS3_ := Kd.S_mono hS2_ (ok' := fun k => w.heap.size ≤ k ∧ k ≠ g10 ∧ k ≠ g4 ∧ k ≠ g6 ∧ k ≠ g7) (fun k hk => by rcases hk with hk | hk; exact hk; exact ⟨Nat.le_trans HS6.out.hb.size hk, by omega⟩)
        clear HS6 HFS HRW hS_ hbx_ hos_ hK_ hbx2_ hS2_ h0_ hl0_ hl1_ hl2_ hl3_; obtain ⟨fs2_, hfs_, hco_⟩ := h_.cover; have HQ5 := Aside0.mk hfs_; have HFS := Aside0.mk hco_; have HRW := Aside0.mk hS3_; clear h_ hS3_ hfs_ hco_
        simp only [Act.put, setIfInBounds_toArray, set_cons_zero, set_cons_succ]
        refine tlP (v := .tuple #[.agg #[.int .i64 z0, .int .i64 z1, .int .i64 z2, .int .i64 z3], .bool false]) 36 rfl ?_
        simp only [Act.put, setIfInBounds_toArray, set_cons_zero, set_cons_succ]
        refine tlP (v := .agg #[.int .i64 z0, .int .i64 z1, .int .i64 z2, .int .i64 z3]) 40 rfl ?_
        simp only [Act.put, setIfInBounds_toArray, set_cons_zero, set_cons_succ]
        refine tlP (v := .bool false) 41 rfl ?_
        simp only [Act.put, setIfInBounds_toArray, set_cons_zero, set_cons_succ]
        refine tlBox 14 rfl HQ5.out 32 #[.int .i64 0, .int .i64 0, .int .i64 0, .int .i64 0] (by go_simp; try rfl) (fun gq9 wq9 h hle9 => ?_)
        have HQ9 := Aside0.mk h; clear h HQ5
        have HLE9 := Aside0.mk hle9; clear hle9
        simp only [Act.put, setIfInBounds_toArray, set_cons_zero, set_cons_succ]
        refine tlStore (cs2 := #[.int .i64 z0, .int .i64 z1, .int .i64 z2, .int .i64 z3]) rfl HQ9.out 0 0 [.int .i64 z0, .int .i64 z1, .int .i64 z2, .int .i64 z3] rfl (fun h hf => by have h0 := h 0 _ rfl; have f0 := hf 0; have h1 := h 1 _ rfl; have f1 := hf 1; have h2 := h 2 _ rfl; have f2 := hf 2; have h3 := h 3 _ rfl; have f3 := hf 3; clear h hf; go_simp; try rfl) (fun wq10 h => ?_)
        simp only [set_cons_zero, set_cons_succ] at h
        have HQ10 := Aside0.mk h; clear h HQ9
        refine tlP (v := .bool false) 15 rfl ?_
        simp only [Act.put, setIfInBounds_toArray, set_cons_zero, set_cons_succ]
        refine tl0 ?_
        refine wp_seq ?_
        refine reg0 (aF := ?_) [evP 0 42 [] (fun s => .bool false), evP 1 43 [] (fun s => .bool true)] [] false 2 rfl rfl (by kernel_rfl) rfl (fun _ => rfl) ?aF HQ10.out ?hs ?_
        rotate_left 1
        case aF => intro s; simp only [putE, EvT.val, Act.put, setIfInBounds_toArray, set_cons_zero, set_cons_succ]; rfl
        case hs => exact ⟨pu rfl, pu rfl, trivial⟩
        intro s8 w8 h; have HS8 := Aside0.mk h; clear h HQ10
        refine tl0 ?_
        refine wp_cond_true rfl ?_
        refine reg (aF := ?_) (nw := ?_) [evP 0 44 [] (fun s => .agg #[.slice none 0 0]), evP 1 45 [] (fun s => .agg #[.int .i64 0, .int .i64 0, .int .i64 0, .int .i64 0]), evS 2, evS 3] [4, 5] [⟨3, 2, [], fun s => boxT g6 #[.slice none 0 0] 31⟩, ⟨4, 3, [], fun s => boxT g7 #[.int .i64 0, .int .i64 0, .int .i64 0, .int .i64 0] 32⟩] false 6 rfl rfl (by kernel_rfl) rfl ((mf1 (mf1 mf0))) ?aF ?nw HS8.out ?hs ?_
        rotate_left 2
        case aF => intro s; simp only [putE, EvT.val, Act.put, setIfInBounds_toArray, set_cons_zero, set_cons_succ]; rfl
        case nw => intro s; simp only [thA, bsA, List.nil_append, List.cons_append, List.append_nil, if_true, if_false, Nat.reduceLT, set_cons_zero, set_cons_succ]; rfl
        case hs => exact ⟨pu rfl (hr := fun s w => by go_simp; try rfl), pu rfl (hr := fun s w => by go_simp; try rfl), sb rfl 0 3 0 (fun s => [.slice none 0 0]) rfl rfl (fun s w h hf => by have h0 := h 0 _ rfl; have f0 := hf 0; clear h hf; go_simp; try rfl), sb rfl 1 4 0 (fun s => [.int .i64 0, .int .i64 0, .int .i64 0, .int .i64 0]) rfl rfl (fun s w h hf => by have h0 := h 0 _ rfl; have f0 := hf 0; have h1 := h 1 _ rfl; have f1 := hf 1; have h2 := h 2 _ rfl; have f2 := hf 2; have h3 := h 3 _ rfl; have f3 := hf 3; clear h hf; go_simp; try rfl), trivial⟩
        intro s9 w9 h; have HS9 := Aside0.mk h; clear h HS8
        refine tlP (v := .int .i64 0) 8 rfl ?_
        simp only [Act.put, setIfInBounds_toArray, set_cons_zero, set_cons_succ]
        refine tlP (v := .bool false) 9 rfl ?_
        simp only [Act.put, setIfInBounds_toArray, set_cons_zero, set_cons_succ]
        refine tl0 ?_
        refine wp_ret ?_
        try simp only [Exit.inBlock, Exit.then]
        refine bodyPost_ret (results_list (rs := [.cell 6 31, .cell 7 32, .tmp 8, .tmp 9]) rfl (by simp) (.cell g6 31 #[.slice none 0 0] (0, 0) _ rfl (show bx g6 #[.slice none 0 0] 31 _ from HS9.out.get 3 rfl) Try.underlying31 rfl (by kernel_rfl) (.cell g7 32 #[.int .i64 0, .int .i64 0, .int .i64 0, .int .i64 0] (0, 0) _ rfl (show bx g7 #[.int .i64 0, .int .i64 0, .int .i64 0, .int .i64 0] 32 _ from HS9.out.get 4 rfl) Try.underlying32 rfl (by kernel_rfl) (.tmp (.tmp .nil))))) rfl ?_
        have e_ := HGG.out; rw [HD.out, growGo_no HP.out] at e_; cases e_; exact ⟨_, by first | rfl | simp, Kd.S_nil _ _ _ _ _, HS9.out.hb⟩
      · by_cases hz : z0 = x0
        · have T1 : Aside0 ((decide (i < (l2_0.length : Int))) = true) := ⟨by first | exact decide_eq_true (by omega) | simp <;> omega⟩
          have T2 : Aside0 ((z0 != x0) = false) := ⟨by first | exact decide_eq_false (by omega) | simp <;> omega⟩
          refine reg0 (aF := ?_) [evP 0 33 [] (fun s => .bool true)] [] false 1 rfl rfl (by kernel_rfl) rfl (fun _ => rfl) ?aF HSR.out ?hs ?_
          rotate_left 1
          case aF => intro s; simp only [putE, EvT.val, Act.put, setIfInBounds_toArray, set_cons_zero, set_cons_succ]; rfl
          case hs => exact ⟨pb (q := .lss) T1.out rfl, trivial⟩
          intro s10 w10 h; have HS10 := Aside0.mk h; clear h HSR
          refine tl0 ?_
          refine wp_seq ?_
          refine wp_cond_true rfl ?_
          refine wp_skip ?_
          refine thN ?_
          refine wp_seq ?_
          refine wp_block ?_
          refine reg0 (aF := ?_) [evP 0 34 [] (fun s => .pointer (some (ge.add (i).toNat))), evL 1 35 [] (fun s => .slice Xe row.length cape)] [2] false 3 rfl rfl (by kernel_rfl) rfl (fun _ => rfl) ?aF HS10.out ?hs ?_
          rotate_left 1
          case aF => intro s; simp only [putE, EvT.val, Act.put, setIfInBounds_toArray, set_cons_zero, set_cons_succ]; rfl
          case hs => exact ⟨pu rfl (hr := fun s w => by go_simp; try rfl), lo rfl (one_at HEL.out) (fun s w h => by have h0 := h 0 _ rfl; clear h; go_simp; try rfl), trivial⟩
          intro s11 w11 h; have HS11 := Aside0.mk h; clear h HS10
          refine tlP (v := .slice Xe row.length cape) 13 rfl ?_
          simp only [Act.put, setIfInBounds_toArray, set_cons_zero, set_cons_succ]
          refine tl0 ?_
          refine wp_seq ?_
          refine seqReg [0, 1, 2, 3, 4, 5, 6, 7, 8] rfl rfl ?_
          have hb_ := HS11.out.get 1 rfl
          have hc0_ : w11.cell? ⟨g4, 0, none⟩ = some (.int .i64 x0) := (blk_cell hb_ 0).trans rfl
          have hc1_ : w11.cell? ⟨g4, 1, none⟩ = some (.int .i64 x1) := (blk_cell hb_ 1).trans rfl
          have hc2_ : w11.cell? ⟨g4, 2, none⟩ = some (.int .i64 x2) := (blk_cell hb_ 2).trans rfl
          have hc3_ : w11.cell? ⟨g4, 3, none⟩ = some (.int .i64 x3) := (blk_cell hb_ 3).trans rfl
          clear hb_
          refine tlP (v := .agg #[.int .i64 x0, .int .i64 x1, .int .i64 x2, .int .i64 x3]) 37 rfl ?_ (hr := by go_simp; try rfl)
          clear hc0_ hc1_ hc2_ hc3_
          simp only [Act.put, setIfInBounds_toArray, set_cons_zero, set_cons_succ]
          refine tlP (v := .slice Xe row.length cape) 38 rfl ?_
          simp only [Act.put, setIfInBounds_toArray, set_cons_zero, set_cons_succ]
          have hS_ := HFS.out.move HS11.out (fun x hx => by simp [hx]) HRW.out (Nat.le_refl _) (fun k hk _ => (by have h_ := hk.2; simp only [List.all_cons, List.all_nil, Th.out, boxT, Bool.and_eq_true, Bool.or_eq_true, decide_eq_true_eq, and_true]; omega))
          have hbx_ := HS11.out.get 0 rfl
          refine tlCall (some 39) rfl #[.pointer (some ⟨g10, 0, none⟩), .agg #[.int .i64 x0, .int .i64 x1, .int .i64 x2, .int .i64 x3], .slice Xe row.length cape] Try.func93 (impl_Memory_appended_c (l := row) hbx_ hS_ (fun k hk e_ => by have h_ := hk.2; omega) HS11.out.hb.size HWO.out (by omega) (Kd.C_below HRel.out HS11.out.hb) HCel.out (by omega)) (fun e_ wq17 hR => ?_)
          simp only [HP.out] at hR; obtain ⟨rfl, hos_, hK_, A2_, c2_, hbx2_, hS2_⟩ := hR; refine ⟨_, rfl, ?_⟩
          have h0_ : Stk w [boxT g10 #[.slice A_ M.length c_] 31, boxT g4 #[.int .i64 x0, .int .i64 x1, .int .i64 x2, .int .i64 x3] 32, boxT g6 #[.slice none 0 0] 31, boxT g7 #[.int .i64 0, .int .i64 0, .int .i64 0, .int .i64 0] 32] w11 := HS11.out.sub (List.sublist_append_left [boxT g10 #[.slice A_ M.length c_] 31, boxT g4 #[.int .i64 x0, .int .i64 x1, .int .i64 x2, .int .i64 x3] 32, boxT g6 #[.slice none 0 0] 31, boxT g7 #[.int .i64 0, .int .i64 0, .int .i64 0, .int .i64 0] 32] fs)
          have hl0_ := blk_lt (h0_.get 0 rfl)
          have hl1_ := blk_lt (h0_.get 1 rfl)
          have hl2_ := blk_lt (h0_.get 2 rfl)
          have hl3_ := blk_lt (h0_.get 3 rfl)
          have h_ := h0_.after 0 rfl hos_ hK_ (fun k hk => ⟨hk.1, (by have h_ := hk.2; simp only [List.all_cons, List.all_nil, Th.out, boxT, Bool.and_eq_true, Bool.or_eq_true, decide_eq_true_eq, and_true]; omega)⟩) hbx2_; simp only [set_cons_zero, set_cons_succ] at h_
          have hS3_ := Kd.S_mono hS2_ (ok' := fun k => w.heap.size ≤ k ∧ k ≠ g10 ∧ k ≠ g4 ∧ k ≠ g6 ∧ k ≠ g7) (fun k hk => by rcases hk with hk | hk; exact hk; exact ⟨Nat.le_trans HS11.out.hb.size hk, by omega⟩)
          clear HS11 HFS HRW hS_ hbx_ hos_ hK_ hbx2_ hS2_ h0_ hl0_ hl1_ hl2_ hl3_; obtain ⟨fs2_, hfs_, hco_⟩ := h_.cover; have HQ17 := Aside0.mk hfs_; have HFS := Aside0.mk hco_; have HRW := Aside0.mk hS3_; clear h_ hS3_ hfs_ hco_
          simp only [Act.put, setIfInBounds_toArray, set_cons_zero, set_cons_succ]
          refine tlP (v := .tuple #[.agg #[.int .i64 z0, .int .i64 z1, .int .i64 z2, .int .i64 z3], .bool true]) 36 rfl ?_
          simp only [Act.put, setIfInBounds_toArray, set_cons_zero, set_cons_succ]
          refine tlP (v := .agg #[.int .i64 z0, .int .i64 z1, .int .i64 z2, .int .i64 z3]) 40 rfl ?_
          simp only [Act.put, setIfInBounds_toArray, set_cons_zero, set_cons_succ]
          refine tlP (v := .bool true) 41 rfl ?_
          simp only [Act.put, setIfInBounds_toArray, set_cons_zero, set_cons_succ]
          refine tlBox 14 rfl HQ17.out 32 #[.int .i64 0, .int .i64 0, .int .i64 0, .int .i64 0] (by go_simp; try rfl) (fun gq21 wq21 h hle21 => ?_)
          have HQ21 := Aside0.mk h; clear h HQ17
          have HLE21 := Aside0.mk hle21; clear hle21
          simp only [Act.put, setIfInBounds_toArray, set_cons_zero, set_cons_succ]
          refine tlStore (cs2 := #[.int .i64 z0, .int .i64 z1, .int .i64 z2, .int .i64 z3]) rfl HQ21.out 0 0 [.int .i64 z0, .int .i64 z1, .int .i64 z2, .int .i64 z3] rfl (fun h hf => by have h0 := h 0 _ rfl; have f0 := hf 0; have h1 := h 1 _ rfl; have f1 := hf 1; have h2 := h 2 _ rfl; have f2 := hf 2; have h3 := h 3 _ rfl; have f3 := hf 3; clear h hf; go_simp; try rfl) (fun wq22 h => ?_)
          simp only [set_cons_zero, set_cons_succ] at h
          have HQ22 := Aside0.mk h; clear h HQ21
          refine tlP (v := .bool true) 15 rfl ?_
          simp only [Act.put, setIfInBounds_toArray, set_cons_zero, set_cons_succ]
          refine tl0 ?_
          refine wp_seq ?_
          refine reg0 (aF := ?_) [evP 0 42 [] (fun s => .bool true), evP 1 43 [] (fun s => .bool false)] [] false 2 rfl rfl (by kernel_rfl) rfl (fun _ => rfl) ?aF HQ22.out ?hs ?_
          rotate_left 1
          case aF => intro s; simp only [putE, EvT.val, Act.put, setIfInBounds_toArray, set_cons_zero, set_cons_succ]; rfl
          case hs => exact ⟨pu rfl, pu rfl, trivial⟩
          intro s13 w13 h; have HS13 := Aside0.mk h; clear h HQ22
          refine tl0 ?_
          refine wp_cond_false rfl ?_
          refine wp_skip ?_
          refine thN ?_
          refine wp_seq ?_
          refine reg0 (aF := ?_) [evP 0 46 [] (fun s => .pointer (some ⟨gq21, 0, none⟩)), evL 1 47 [] (fun s => .int .i64 z0), evP 2 48 [] (fun s => .pointer (some ⟨g4, 0, none⟩)), evL 3 49 [] (fun s => .int .i64 x0), evP 4 50 [] (fun s => .bool false)] [] false 5 rfl rfl (by kernel_rfl) rfl (fun _ => rfl) ?aF HS13.out ?hs ?_
          rotate_left 1
          case aF => intro s; simp only [putE, EvT.val, Act.put, setIfInBounds_toArray, set_cons_zero, set_cons_succ]; rfl
          case hs => exact ⟨pu rfl (hr := fun s w => by go_simp; try rfl), ld rfl 0 (fun s => rfl) (fun s w h => by have h0 := h 0 _ rfl; have h1 := h 1 _ rfl; have h2 := h 2 _ rfl; have h3 := h 3 _ rfl; clear h; go_simp; try rfl), pu rfl (hr := fun s w => by go_simp; try rfl), ld rfl 2 (fun s => rfl) (fun s w h => by have h0 := h 0 _ rfl; have h1 := h 1 _ rfl; have h2 := h 2 _ rfl; have h3 := h 3 _ rfl; clear h; go_simp; try rfl), pb (q := .neq) T2.out rfl, trivial⟩
          intro s14 w14 h; have HS14 := Aside0.mk h; clear h HS13
          refine tl0 ?_
          refine wp_cond_false rfl ?_
          refine wp_skip ?_
          refine thN ?_
          refine regL (aF := ?_) (nw := ?_) [evL 0 53 [] (fun s => .agg #[.int .i64 z0, .int .i64 z1, .int .i64 z2, .int .i64 z3]), evS 1] [] [⟨2, 1, [], fun s => boxT g4 #[.int .i64 z0, .int .i64 z1, .int .i64 z2, .int .i64 z3] 32⟩] false 2 rfl rfl (by kernel_rfl) rfl ((mf1 mf0)) ?aF ?nw HS14.out ?hs ?_
          rotate_left 2
          case aF => intro s; simp only [putE, EvT.val, Act.put, setIfInBounds_toArray, set_cons_zero, set_cons_succ]; rfl
          case nw => intro s; simp only [thA, bsA, List.nil_append, List.cons_append, List.append_nil, if_true, if_false, Nat.reduceLT, set_cons_zero, set_cons_succ]; rfl
          case hs => exact ⟨ld rfl 0 (fun s => rfl) (fun s w h => by have h0 := h 0 _ rfl; have h1 := h 1 _ rfl; have h2 := h 2 _ rfl; have h3 := h 3 _ rfl; clear h; go_simp; try rfl), sb rfl 0 2 0 (fun s => [.int .i64 z0, .int .i64 z1, .int .i64 z2, .int .i64 z3]) rfl rfl (fun s w h hf => by have h0 := h 0 _ rfl; have f0 := hf 0; have h1 := h 1 _ rfl; have f1 := hf 1; have h2 := h 2 _ rfl; have f2 := hf 2; have h3 := h 3 _ rfl; have f3 := hf 3; clear h hf; go_simp; try rfl), trivial⟩
          intro s15 w15 h; have HS15 := Aside0.mk h; clear h HS14
          refine tlE ?_
          refine inB ?_
          refine thN ?_
          refine regL (aF := ?_) (nw := ?_) [evP 0 54 [] (fun s => .int .i64 (i + 1))] [1] [] false 2 rfl rfl (by kernel_rfl) rfl (mf0) ?aF ?nw HS15.out ?hs ?_
          rotate_left 2
          case aF => intro s; simp only [putE, EvT.val, Act.put, setIfInBounds_toArray, set_cons_zero, set_cons_succ]; rfl
          case nw => intro s; simp only [thA, bsA, List.nil_append, List.cons_append, List.append_nil, if_true, if_false, Nat.reduceLT, set_cons_zero, set_cons_succ]; rfl
          case hs => exact ⟨pa .add (r := i + 1) (.inl ⟨rfl, (i64_ok (n := i + 1) (by omega) (by omega))⟩) rfl, trivial⟩
          intro s16 w16 h; have HS16 := Aside0.mk h; clear h HS15
          refine tlP (v := .int .i64 (i + 1)) 32 rfl ?_
          simp only [Act.put, setIfInBounds_toArray, set_cons_zero, set_cons_succ]
          refine tlE ?_
          refine thN ?_
          refine hK_ _ _ (Handed.intro (gk - 1) (by omega) (hJ_ _ _ _ ?_))
          (repeat apply Exists.intro)
          refine ⟨?_, rfl⟩
          exact ⟨i + 1, mv, M2, z0, z1, z2, z3, A2_, c2_, rfl, rfl, ⟨by have := appendP_len hk_.2.2.2.2.2 HP.out; omega⟩, ⟨by have h_ := HGG.out; rw [HD.out, growGo_ok HP.out] at h_; rw [if_pos hz] at h_; exact h_⟩, ⟨appendP_ok HWO.out HP.out⟩, ⟨(HS16.out.sub (.cons _ (List.sublist_append_left [boxT g10 #[.slice A2_ M2.length c2_] 31, boxT g4 #[.int .i64 z0, .int .i64 z1, .int .i64 z2, .int .i64 z3] 32, boxT g6 #[.slice none 0 0] 31, boxT g7 #[.int .i64 0, .int .i64 0, .int .i64 0, .int .i64 0] 32] fs2_)))⟩, ⟨(HFS.out.move HS16.out (fun x hx => by simp [hx]) HRW.out (Nat.le_refl _) (fun k hk _ => by have h_ := hk.2; simp only [List.all_cons, List.all_nil, Th.out, boxT, Bool.and_eq_true, Bool.or_eq_true, decide_eq_true_eq, and_true]; omega))⟩⟩
        · have T1 : Aside0 ((decide (i < (l2_0.length : Int))) = true) := ⟨by first | exact decide_eq_true (by omega) | simp <;> omega⟩
          have T2 : Aside0 ((z0 != x0) = true) := ⟨by first | exact decide_eq_true (by omega) | simp <;> omega⟩
          refine reg0 (aF := ?_) [evP 0 33 [] (fun s => .bool true)] [] false 1 rfl rfl (by kernel_rfl) rfl (fun _ => rfl) ?aF HSR.out ?hs ?_
          rotate_left 1
          case aF => intro s; simp only [putE, EvT.val, Act.put, setIfInBounds_toArray, set_cons_zero, set_cons_succ]; rfl
          case hs => exact ⟨pb (q := .lss) T1.out rfl, trivial⟩
          intro s17 w17 h; have HS17 := Aside0.mk h; clear h HSR
          refine tl0 ?_
          refine wp_seq ?_
          refine wp_cond_true rfl ?_
          refine wp_skip ?_
          refine thN ?_
          refine wp_seq ?_
          refine wp_block ?_
          refine reg0 (aF := ?_) [evP 0 34 [] (fun s => .pointer (some (ge.add (i).toNat))), evL 1 35 [] (fun s => .slice Xe row.length cape)] [2] false 3 rfl rfl (by kernel_rfl) rfl (fun _ => rfl) ?aF HS17.out ?hs ?_
          rotate_left 1
          case aF => intro s; simp only [putE, EvT.val, Act.put, setIfInBounds_toArray, set_cons_zero, set_cons_succ]; rfl
          case hs => exact ⟨pu rfl (hr := fun s w => by go_simp; try rfl), lo rfl (one_at HEL.out) (fun s w h => by have h0 := h 0 _ rfl; clear h; go_simp; try rfl), trivial⟩
          intro s18 w18 h; have HS18 := Aside0.mk h; clear h HS17
          refine tlP (v := .slice Xe row.length cape) 13 rfl ?_
          simp only [Act.put, setIfInBounds_toArray, set_cons_zero, set_cons_succ]
          refine tl0 ?_
          refine wp_seq ?_
          refine seqReg [0, 1, 2, 3, 4, 5, 6, 7, 8] rfl rfl ?_
          have hb_ := HS18.out.get 1 rfl
          have hc0_ : w18.cell? ⟨g4, 0, none⟩ = some (.int .i64 x0) := (blk_cell hb_ 0).trans rfl
          have hc1_ : w18.cell? ⟨g4, 1, none⟩ = some (.int .i64 x1) := (blk_cell hb_ 1).trans rfl
          have hc2_ : w18.cell? ⟨g4, 2, none⟩ = some (.int .i64 x2) := (blk_cell hb_ 2).trans rfl
          have hc3_ : w18.cell? ⟨g4, 3, none⟩ = some (.int .i64 x3) := (blk_cell hb_ 3).trans rfl
          clear hb_
          refine tlP (v := .agg #[.int .i64 x0, .int .i64 x1, .int .i64 x2, .int .i64 x3]) 37 rfl ?_ (hr := by go_simp; try rfl)
          clear hc0_ hc1_ hc2_ hc3_
          simp only [Act.put, setIfInBounds_toArray, set_cons_zero, set_cons_succ]
          refine tlP (v := .slice Xe row.length cape) 38 rfl ?_
          simp only [Act.put, setIfInBounds_toArray, set_cons_zero, set_cons_succ]
          have hS_ := HFS.out.move HS18.out (fun x hx => by simp [hx]) HRW.out (Nat.le_refl _) (fun k hk _ => (by have h_ := hk.2; simp only [List.all_cons, List.all_nil, Th.out, boxT, Bool.and_eq_true, Bool.or_eq_true, decide_eq_true_eq, and_true]; omega))
          have hbx_ := HS18.out.get 0 rfl
          refine tlCall (some 39) rfl #[.pointer (some ⟨g10, 0, none⟩), .agg #[.int .i64 x0, .int .i64 x1, .int .i64 x2, .int .i64 x3], .slice Xe row.length cape] Try.func93 (impl_Memory_appended_c (l := row) hbx_ hS_ (fun k hk e_ => by have h_ := hk.2; omega) HS18.out.hb.size HWO.out (by omega) (Kd.C_below HRel.out HS18.out.hb) HCel.out (by omega)) (fun e_ wq28 hR => ?_)
          simp only [HP.out] at hR; obtain ⟨rfl, hos_, hK_, A2_, c2_, hbx2_, hS2_⟩ := hR; refine ⟨_, rfl, ?_⟩
          have h0_ : Stk w [boxT g10 #[.slice A_ M.length c_] 31, boxT g4 #[.int .i64 x0, .int .i64 x1, .int .i64 x2, .int .i64 x3] 32, boxT g6 #[.slice none 0 0] 31, boxT g7 #[.int .i64 0, .int .i64 0, .int .i64 0, .int .i64 0] 32] w18 := HS18.out.sub (List.sublist_append_left [boxT g10 #[.slice A_ M.length c_] 31, boxT g4 #[.int .i64 x0, .int .i64 x1, .int .i64 x2, .int .i64 x3] 32, boxT g6 #[.slice none 0 0] 31, boxT g7 #[.int .i64 0, .int .i64 0, .int .i64 0, .int .i64 0] 32] fs)
          have hl0_ := blk_lt (h0_.get 0 rfl)
          have hl1_ := blk_lt (h0_.get 1 rfl)
          have hl2_ := blk_lt (h0_.get 2 rfl)
          have hl3_ := blk_lt (h0_.get 3 rfl)
          have h_ := h0_.after 0 rfl hos_ hK_ (fun k hk => ⟨hk.1, (by have h_ := hk.2; simp only [List.all_cons, List.all_nil, Th.out, boxT, Bool.and_eq_true, Bool.or_eq_true, decide_eq_true_eq, and_true]; omega)⟩) hbx2_; simp only [set_cons_zero, set_cons_succ] at h_
          have hS3_ := Kd.S_mono hS2_ (ok' := fun k => w.heap.size ≤ k ∧ k ≠ g10 ∧ k ≠ g4 ∧ k ≠ g6 ∧ k ≠ g7) (fun k hk => by rcases hk with hk | hk; exact hk; exact ⟨Nat.le_trans HS18.out.hb.size hk, by omega⟩)
          clear HS18 HFS HRW hS_ hbx_ hos_ hK_ hbx2_ hS2_ h0_ hl0_ hl1_ hl2_ hl3_; obtain ⟨fs2_, hfs_, hco_⟩ := h_.cover; have HQ28 := Aside0.mk hfs_; have HFS := Aside0.mk hco_; have HRW := Aside0.mk hS3_; clear h_ hS3_ hfs_ hco_
          simp only [Act.put, setIfInBounds_toArray, set_cons_zero, set_cons_succ]
          refine tlP (v := .tuple #[.agg #[.int .i64 z0, .int .i64 z1, .int .i64 z2, .int .i64 z3], .bool true]) 36 rfl ?_
          simp only [Act.put, setIfInBounds_toArray, set_cons_zero, set_cons_succ]
          refine tlP (v := .agg #[.int .i64 z0, .int .i64 z1, .int .i64 z2, .int .i64 z3]) 40 rfl ?_
          simp only [Act.put, setIfInBounds_toArray, set_cons_zero, set_cons_succ]
          refine tlP (v := .bool true) 41 rfl ?_
          simp only [Act.put, setIfInBounds_toArray, set_cons_zero, set_cons_succ]
          refine tlBox 14 rfl HQ28.out 32 #[.int .i64 0, .int .i64 0, .int .i64 0, .int .i64 0] (by go_simp; try rfl) (fun gq32 wq32 h hle32 => ?_)
          have HQ32 := Aside0.mk h; clear h HQ28
          have HLE32 := Aside0.mk hle32; clear hle32
          simp only [Act.put, setIfInBounds_toArray, set_cons_zero, set_cons_succ]
          refine tlStore (cs2 := #[.int .i64 z0, .int .i64 z1, .int .i64 z2, .int .i64 z3]) rfl HQ32.out 0 0 [.int .i64 z0, .int .i64 z1, .int .i64 z2, .int .i64 z3] rfl (fun h hf => by have h0 := h 0 _ rfl; have f0 := hf 0; have h1 := h 1 _ rfl; have f1 := hf 1; have h2 := h 2 _ rfl; have f2 := hf 2; have h3 := h 3 _ rfl; have f3 := hf 3; clear h hf; go_simp; try rfl) (fun wq33 h => ?_)
          simp only [set_cons_zero, set_cons_succ] at h
          have HQ33 := Aside0.mk h; clear h HQ32
          refine tlP (v := .bool true) 15 rfl ?_
          simp only [Act.put, setIfInBounds_toArray, set_cons_zero, set_cons_succ]
          refine tl0 ?_
          refine wp_seq ?_
          refine reg0 (aF := ?_) [evP 0 42 [] (fun s => .bool true), evP 1 43 [] (fun s => .bool false)] [] false 2 rfl rfl (by kernel_rfl) rfl (fun _ => rfl) ?aF HQ33.out ?hs ?_
          rotate_left 1
          case aF => intro s; simp only [putE, EvT.val, Act.put, setIfInBounds_toArray, set_cons_zero, set_cons_succ]; rfl
          case hs => exact ⟨pu rfl, pu rfl, trivial⟩
          intro s20 w20 h; have HS20 := Aside0.mk h; clear h HQ33
          refine tl0 ?_
          refine wp_cond_false rfl ?_
          refine wp_skip ?_
          refine thN ?_
          refine wp_seq ?_
          refine reg0 (aF := ?_) [evP 0 46 [] (fun s => .pointer (some ⟨gq32, 0, none⟩)), evL 1 47 [] (fun s => .int .i64 z0), evP 2 48 [] (fun s => .pointer (some ⟨g4, 0, none⟩)), evL 3 49 [] (fun s => .int .i64 x0), evP 4 50 [] (fun s => .bool true)] [] false 5 rfl rfl (by kernel_rfl) rfl (fun _ => rfl) ?aF HS20.out ?hs ?_
          rotate_left 1
          case aF => intro s; simp only [putE, EvT.val, Act.put, setIfInBounds_toArray, set_cons_zero, set_cons_succ]; rfl
          case hs => exact ⟨pu rfl (hr := fun s w => by go_simp; try rfl), ld rfl 0 (fun s => rfl) (fun s w h => by have h0 := h 0 _ rfl; have h1 := h 1 _ rfl; have h2 := h 2 _ rfl; have h3 := h 3 _ rfl; clear h; go_simp; try rfl), pu rfl (hr := fun s w => by go_simp; try rfl), ld rfl 2 (fun s => rfl) (fun s w h => by have h0 := h 0 _ rfl; have h1 := h 1 _ rfl; have h2 := h 2 _ rfl; have h3 := h 3 _ rfl; clear h; go_simp; try rfl), pb (q := .neq) T2.out rfl, trivial⟩
          intro s21 w21 h; have HS21 := Aside0.mk h; clear h HS20
          refine tl0 ?_
          refine wp_cond_true rfl ?_
          refine regL (aF := ?_) (nw := ?_) [evP 0 51 [] (fun s => .int .i64 mv), evP 1 52 [] (fun s => .int .i64 (mv + 1))] [2] [] false 3 rfl rfl (by kernel_rfl) rfl (mf0) ?aF ?nw HS21.out ?hs ?_
          rotate_left 2
          case aF => intro s; simp only [putE, EvT.val, Act.put, setIfInBounds_toArray, set_cons_zero, set_cons_succ]; rfl
          case nw => intro s; simp only [thA, bsA, List.nil_append, List.cons_append, List.append_nil, if_true, if_false, Nat.reduceLT, set_cons_zero, set_cons_succ]; rfl
          case hs => exact ⟨pu rfl, pa .add (r := mv + 1) (.inl ⟨rfl, (i64_ok (n := mv + 1) (by omega) (by omega))⟩) rfl, trivial⟩
          intro s22 w22 h; have HS22 := Aside0.mk h; clear h HS21
          refine tlP (v := .int .i64 (mv + 1)) 11 rfl ?_
          simp only [Act.put, setIfInBounds_toArray, set_cons_zero, set_cons_succ]
          refine tlE ?_
          refine thN ?_
          refine regL (aF := ?_) (nw := ?_) [evL 0 53 [] (fun s => .agg #[.int .i64 z0, .int .i64 z1, .int .i64 z2, .int .i64 z3]), evS 1] [] [⟨2, 1, [], fun s => boxT g4 #[.int .i64 z0, .int .i64 z1, .int .i64 z2, .int .i64 z3] 32⟩] false 2 rfl rfl (by kernel_rfl) rfl ((mf1 mf0)) ?aF ?nw HS22.out ?hs ?_
          rotate_left 2
          case aF => intro s; simp only [putE, EvT.val, Act.put, setIfInBounds_toArray, set_cons_zero, set_cons_succ]; rfl
          case nw => intro s; simp only [thA, bsA, List.nil_append, List.cons_append, List.append_nil, if_true, if_false, Nat.reduceLT, set_cons_zero, set_cons_succ]; rfl
          case hs => exact ⟨ld rfl 0 (fun s => rfl) (fun s w h => by have h0 := h 0 _ rfl; have h1 := h 1 _ rfl; have h2 := h 2 _ rfl; have h3 := h 3 _ rfl; clear h; go_simp; try rfl), sb rfl 0 2 0 (fun s => [.int .i64 z0, .int .i64 z1, .int .i64 z2, .int .i64 z3]) rfl rfl (fun s w h hf => by have h0 := h 0 _ rfl; have f0 := hf 0; have h1 := h 1 _ rfl; have f1 := hf 1; have h2 := h 2 _ rfl; have f2 := hf 2; have h3 := h 3 _ rfl; have f3 := hf 3; clear h hf; go_simp; try rfl), trivial⟩
          intro s23 w23 h; have HS23 := Aside0.mk h; clear h HS22
          refine tlE ?_
          refine inB ?_
          refine thN ?_
          refine regL (aF := ?_) (nw := ?_) [evP 0 54 [] (fun s => .int .i64 (i + 1))] [1] [] false 2 rfl rfl (by kernel_rfl) rfl (mf0) ?aF ?nw HS23.out ?hs ?_
          rotate_left 2
          case aF => intro s; simp only [putE, EvT.val, Act.put, setIfInBounds_toArray, set_cons_zero, set_cons_succ]; rfl
          case nw => intro s; simp only [thA, bsA, List.nil_append, List.cons_append, List.append_nil, if_true, if_false, Nat.reduceLT, set_cons_zero, set_cons_succ]; rfl
          case hs => exact ⟨pa .add (r := i + 1) (.inl ⟨rfl, (i64_ok (n := i + 1) (by omega) (by omega))⟩) rfl, trivial⟩
          intro s24 w24 h; have HS24 := Aside0.mk h; clear h HS23
          refine tlP (v := .int .i64 (i + 1)) 32 rfl ?_
          simp only [Act.put, setIfInBounds_toArray, set_cons_zero, set_cons_succ]
          refine tlE ?_
          refine thN ?_
          refine hK_ _ _ (Handed.intro (gk - 1) (by omega) (hJ_ _ _ _ ?_))
          (repeat apply Exists.intro)
          refine ⟨?_, rfl⟩
          exact ⟨i + 1, (mv + 1), M2, z0, z1, z2, z3, A2_, c2_, rfl, rfl, ⟨by have := appendP_len hk_.2.2.2.2.2 HP.out; omega⟩, ⟨by have h_ := HGG.out; rw [HD.out, growGo_ok HP.out] at h_; rw [if_neg hz] at h_; exact h_⟩, ⟨appendP_ok HWO.out HP.out⟩, ⟨(HS24.out.sub (.cons _ (List.sublist_append_left [boxT g10 #[.slice A2_ M2.length c2_] 31, boxT g4 #[.int .i64 z0, .int .i64 z1, .int .i64 z2, .int .i64 z3] 32, boxT g6 #[.slice none 0 0] 31, boxT g7 #[.int .i64 0, .int .i64 0, .int .i64 0, .int .i64 0] 32] fs2_)))⟩, ⟨(HFS.out.move HS24.out (fun x hx => by simp [hx]) HRW.out (Nat.le_refl _) (fun k hk _ => by have h_ := hk.2; simp only [List.all_cons, List.all_nil, Th.out, boxT, Bool.and_eq_true, Bool.or_eq_true, decide_eq_true_eq, and_true]; omega))⟩⟩
    · have T1 : Aside0 ((decide (i < (l2_0.length : Int))) = false) := ⟨by first | exact decide_eq_false (by omega) | simp <;> omega⟩
      refine reg0 (aF := ?_) [evP 0 33 [] (fun s => .bool false)] [] false 1 rfl rfl (by kernel_rfl) rfl (fun _ => rfl) ?aF HSR.out ?hs ?_
      rotate_left 1
      case aF => intro s; simp only [putE, EvT.val, Act.put, setIfInBounds_toArray, set_cons_zero, set_cons_succ]; rfl
      case hs => exact ⟨pb (q := .lss) T1.out rfl, trivial⟩
      intro s25 w25 h; have HS25 := Aside0.mk h; clear h HSR
      refine tl0 ?_
      refine wp_seq ?_
      refine wp_cond_false rfl ?_
      refine wp_exit ?_
      repeat (first | refine exT ?_ | refine exO (by decide) ?_)
      refine exB ?_
      refine thN ?_
      refine reg (aF := ?_) (nw := ?_) [evL 0 55 [] (fun s => .agg #[.slice A_ M.length c_]), evR 1 56 1 (fun s => .agg #[.int .i64 x0, .int .i64 x1, .int .i64 x2, .int .i64 x3]), evP 2 57 [] (fun s => .int .i64 mv), evS 3, evS 4] [5, 6] [⟨2, 3, [], fun s => boxT g6 #[.slice A_ M.length c_] 31⟩, ⟨3, 4, [], fun s => boxT g7 #[.int .i64 x0, .int .i64 x1, .int .i64 x2, .int .i64 x3] 32⟩] true 7 rfl rfl (by kernel_rfl) rfl ((mf1 (mf1 mf0))) ?aF ?nw HS25.out ?hs ?_
      rotate_left 2
      case aF => intro s; simp only [putE, EvT.val, Act.put, setIfInBounds_toArray, set_cons_zero, set_cons_succ]; rfl
      case nw => intro s; simp only [thA, bsA, List.nil_append, List.cons_append, List.append_nil, if_true, if_false, Nat.reduceLT, set_cons_zero, set_cons_succ]; rfl
      case hs => exact ⟨ld rfl 0 (fun s => rfl) (fun s w h => by have h0 := h 0 _ rfl; clear h; go_simp; try rfl), lr rfl 1 rfl (fun s w h => by have h0 := h 0 _ rfl; have h1 := h 1 _ rfl; have h2 := h 2 _ rfl; have h3 := h 3 _ rfl; clear h; go_simp; try rfl), pu rfl, sb rfl 0 2 0 (fun s => [.slice A_ M.length c_]) rfl rfl (fun s w h hf => by have h0 := h 0 _ rfl; have f0 := hf 0; clear h hf; go_simp; try rfl), sb rfl 1 3 0 (fun s => [.int .i64 x0, .int .i64 x1, .int .i64 x2, .int .i64 x3]) rfl rfl (fun s w h hf => by have h0 := h 0 _ rfl; have f0 := hf 0; have h1 := h 1 _ rfl; have f1 := hf 1; have h2 := h 2 _ rfl; have f2 := hf 2; have h3 := h 3 _ rfl; have f3 := hf 3; clear h hf; go_simp; try rfl), trivial⟩
      intro s26 w26 h; have HS26 := Aside0.mk h; clear h HS25
      refine tlP (v := .int .i64 mv) 8 rfl ?_
      simp only [Act.put, setIfInBounds_toArray, set_cons_zero, set_cons_succ]
      refine tlP (v := .bool true) 9 rfl ?_
      simp only [Act.put, setIfInBounds_toArray, set_cons_zero, set_cons_succ]
      refine tl0 ?_
      refine wp_ret ?_
      try simp only [Exit.inBlock, Exit.then]
      refine bodyPost_ret (results_list (rs := [.cell 6 31, .cell 7 32, .tmp 8, .tmp 9]) rfl (by simp) (.cell g6 31 #[.slice A_ M.length c_] (0, 0) _ rfl (show bx g6 #[.slice A_ M.length c_] 31 _ from HS26.out.get 2 rfl) Try.underlying31 rfl (by kernel_rfl) (.cell g7 32 #[.int .i64 x0, .int .i64 x1, .int .i64 x2, .int .i64 x3] (0, 0) _ rfl (show bx g7 #[.int .i64 x0, .int .i64 x1, .int .i64 x2, .int .i64 x3] 32 _ from HS26.out.get 3 rfl) Try.underlying32 rfl (by kernel_rfl) (.tmp (.tmp .nil))))) rfl ?_
      have e_ := HGG.out; rw [List.drop_eq_nil_of_le (by omega)] at e_; cases e_; exact ⟨_, by first | rfl | simp, Kd.S_mono (HFS.out.move HS26.out (fun x hx => by simp [hx]) HRW.out (Nat.le_refl _) (fun k hk _ => by have h_ := hk.2; simp only [List.all_cons, List.all_nil, Th.out, boxT, Bool.and_eq_true, Bool.or_eq_true, decide_eq_true_eq, and_true]; omega)) (fun _ _ => trivial), HS26.out.hb⟩
end Go.Proofs.Ytaieobidkmihkaa.P


-- written by wip/gen_fn.py
namespace Go.Proofs.Ytaieobidkmihkaa.P
open Go.RowKit Go.Proofs.YtaieobidkmihkaaW.PrintWords Go.Proofs.YtaieobidkmihkaaW.PrintLast Go.Proofs.YtaieobidkmihkaaW.PrintMore Go.Proofs.YtaieobidkmihkaaW.Mine
open List (setIfInBounds_toArray set_cons_zero set_cons_succ)
attribute [local go_sem] max2_int min2_int max_two min_two max_three min_three max_four min_four
set_option linter.unusedVariables false
set_option linter.unusedSimpArgs false
set_option maxHeartbeats 8000000 in
set_option maxRecDepth 100000 in
theorem spec_GrowWindow_w0 (A0_0 : Option Addr) (c0_0 : Nat) (l0_0 : List (List Int)) (a1_0 : Int) (a1_1 : Int) (a1_2 : Int) (a1_3 : Int) (A2_0 : Option Addr) (c2_0 : Nat) (l2_0 : List (List Int)) (w : World) (hr0_0 : Kd.C (Kd.slice 5 (Kd.int .u8)) w A0_0 l0_0.length l0_0) (hc0_0 : l0_0.length ≤ c0_0) (hr2_0 : Kd.C (Kd.slice 5 (Kd.int .u8)) w A2_0 l2_0.length l2_0) (hc2_0 : l2_0.length ≤ c2_0) (H1 : ∃ k, spec_l2Window.f k l0_0 a1_0 a1_1 a1_2 a1_3 = some false) :
    Calls Try.prog 56 #[.agg #[.slice A0_0 l0_0.length c0_0], .agg #[.int .i64 a1_0, .int .i64 a1_1, .int .i64 a1_2, .int .i64 a1_3], .slice A2_0 l2_0.length c2_0] w fun e w' => ∃ v0_ : Value, e = .returned (.tuple #[.agg #[v0_], .agg #[.int .i64 0, .int .i64 0, .int .i64 0, .int .i64 0], .int .i64 0, .bool false]) ∧ Kd.S (Kd.slice 5 (Kd.int .u8)) 29 w' w.heap.size (fun _ => True) v0_ [] ∧ Below w.heap.size w w' := by
  have HR0_0 := Aside0.mk hr0_0; have HC0_0 := Aside0.mk hc0_0; clear hr0_0 hc0_0
  have HR2_0 := Aside0.mk hr2_0; have HC2_0 := Aside0.mk hc2_0; clear hr2_0 hc2_0
  obtain ⟨k, H1_⟩ := H1; have H1 := Aside0.mk H1_; clear H1_
  have HS0 : Aside0 (Stk w [] w) := ⟨Stk.nil w⟩
  go_enter Try.func56, Try.ntmps56
  refine reg (aF := ?_) (nw := ?_) [evB 0 3 [] 31 (fun s => #[.slice A0_0 l0_0.length c0_0]) 9999 [] (fun s => #[.slice A0_0 l0_0.length c0_0]), evB 1 4 [] 32 (fun s => #[.int .i64 a1_0, .int .i64 a1_1, .int .i64 a1_2, .int .i64 a1_3]) 9999 [] (fun s => #[.int .i64 a1_0, .int .i64 a1_1, .int .i64 a1_2, .int .i64 a1_3]), evB 2 6 [] 31 (fun s => #[.slice none 0 0]) 9999 [] (fun s => #[.slice none 0 0]), evB 3 7 [] 32 (fun s => #[.int .i64 0, .int .i64 0, .int .i64 0, .int .i64 0]) 9999 [] (fun s => #[.int .i64 0, .int .i64 0, .int .i64 0, .int .i64 0]), evP 4 8 [] (fun s => .int .i64 0), evP 5 9 [] (fun s => .bool false)] [] [] false 6 rfl rfl (by kernel_rfl) rfl (mf0) ?aF ?nw HS0.out ?hs ?_
  rotate_left 2
  case aF => intro s; simp only [putE, EvT.val, Act.put, setIfInBounds_toArray, set_cons_zero, set_cons_succ]; rfl
  case nw => intro s; simp only [thA, bsA, List.nil_append, List.cons_append, List.append_nil, if_true, if_false, Nat.reduceLT, set_cons_zero, set_cons_succ]; rfl
  case hs => exact ⟨bv rfl (fun s w => by go_simp; try rfl), bv rfl (fun s w => by go_simp; try rfl), bv rfl (fun s w => by go_simp; try rfl), bv rfl (fun s w => by go_simp; try rfl), pu rfl, pu rfl, trivial⟩
  intro s1 w1 h; have HS1 := Aside0.mk h; clear h HS0
  refine tl0 ?_
  refine wp_seq ?_
  refine reg0 (aF := ?_) [evL 0 17 [] (fun s => .agg #[.slice A0_0 l0_0.length c0_0]), evL 1 18 [] (fun s => .agg #[.int .i64 a1_0, .int .i64 a1_1, .int .i64 a1_2, .int .i64 a1_3]), evC 2 (some 19) [] (fun s x => .bool false) (fun s x => []), evP 3 20 [] (fun s => .bool true), evP 4 21 [] (fun s => .bool true), evP 5 22 [] (fun s => undef), evP 6 23 [] (fun s => undef), evP 7 24 [] (fun s => undef), evP 8 25 [] (fun s => .bool true)] [] false 9 rfl rfl (by kernel_rfl) rfl (fun _ => rfl) ?aF HS1.out ?hs ?_
  rotate_left 1
  case aF => intro s; simp only [putE, EvT.val, Act.put, setIfInBounds_toArray, set_cons_zero, set_cons_succ]; rfl
  case hs => exact ⟨ld rfl 0 (fun s => rfl) (fun s w h => by have h0 := h 0 _ rfl; clear h; go_simp; try rfl), ld rfl 1 (fun s => rfl) (fun s w h => by have h0 := h 0 _ rfl; have h1 := h 1 _ rfl; have h2 := h 2 _ rfl; have h3 := h 3 _ rfl; clear h; go_simp; try rfl), cl rfl (fun s => #[.agg #[.slice A0_0 l0_0.length c0_0], .agg #[.int .i64 a1_0, .int .i64 a1_1, .int .i64 a1_2, .int .i64 a1_3]]) Try.func94 (fun s w1 h => (spec_l2Window.calls _ _ _ _ _ _ _ _ _ _ (Kd.C_below HR0_0.out h.hb) HC0_0.out H1.out).mono (by rintro e w2 ⟨rfl, hb⟩; exact fin0 hb)), pu rfl, pu rfl, pf rfl, pf rfl, pf rfl, pu rfl, trivial⟩
  intro s2 w2 h; have HS2 := Aside0.mk h; clear h HS1
  refine tl0 ?_
  refine wp_cond_true rfl ?_
  refine reg (aF := ?_) (nw := ?_) [evP 0 26 [] (fun s => .agg #[.slice none 0 0]), evP 1 27 [] (fun s => .agg #[.int .i64 0, .int .i64 0, .int .i64 0, .int .i64 0]), evS 2, evS 3] [4, 5] [⟨2, 2, [], fun s => boxT (s1 2).lo #[.slice none 0 0] 31⟩, ⟨3, 3, [], fun s => boxT (s1 3).lo #[.int .i64 0, .int .i64 0, .int .i64 0, .int .i64 0] 32⟩] false 6 rfl rfl (by kernel_rfl) rfl ((mf1 (mf1 mf0))) ?aF ?nw HS2.out ?hs ?_
  rotate_left 2
  case aF => intro s; simp only [putE, EvT.val, Act.put, setIfInBounds_toArray, set_cons_zero, set_cons_succ]; rfl
  case nw => intro s; simp only [thA, bsA, List.nil_append, List.cons_append, List.append_nil, if_true, if_false, Nat.reduceLT, set_cons_zero, set_cons_succ]; rfl
  case hs => exact ⟨pu rfl (hr := fun s w => by go_simp; try rfl), pu rfl (hr := fun s w => by go_simp; try rfl), sb rfl 0 2 0 (fun s => [.slice none 0 0]) rfl rfl (fun s w h hf => by have h0 := h 0 _ rfl; have f0 := hf 0; clear h hf; go_simp; try rfl), sb rfl 1 3 0 (fun s => [.int .i64 0, .int .i64 0, .int .i64 0, .int .i64 0]) rfl rfl (fun s w h hf => by have h0 := h 0 _ rfl; have f0 := hf 0; have h1 := h 1 _ rfl; have f1 := hf 1; have h2 := h 2 _ rfl; have f2 := hf 2; have h3 := h 3 _ rfl; have f3 := hf 3; clear h hf; go_simp; try rfl), trivial⟩
  intro s3 w3 h; have HS3 := Aside0.mk h; clear h HS2
  refine tlP (v := .int .i64 0) 8 rfl ?_
  simp only [Act.put, setIfInBounds_toArray, set_cons_zero, set_cons_succ]
  refine tlP (v := .bool false) 9 rfl ?_
  simp only [Act.put, setIfInBounds_toArray, set_cons_zero, set_cons_succ]
  refine tl0 ?_
  refine wp_ret ?_
  try simp only [Exit.inBlock, Exit.then]
  refine bodyPost_ret (results_list (rs := [.cell 6 31, .cell 7 32, .tmp 8, .tmp 9]) rfl (by simp) (.cell (s1 2).lo 31 #[.slice none 0 0] (0, 0) _ rfl (show bx (s1 2).lo #[.slice none 0 0] 31 _ from HS3.out.get 2 rfl) Try.underlying31 rfl (by kernel_rfl) (.cell (s1 3).lo 32 #[.int .i64 0, .int .i64 0, .int .i64 0, .int .i64 0] (0, 0) _ rfl (show bx (s1 3).lo #[.int .i64 0, .int .i64 0, .int .i64 0, .int .i64 0] 32 _ from HS3.out.get 3 rfl) Try.underlying32 rfl (by kernel_rfl) (.tmp (.tmp .nil))))) rfl ?_
  exact ⟨_, by first | rfl | simp, Kd.S_nil _ _ _ _ _, HS3.out.hb⟩
set_option maxHeartbeats 8000000 in
set_option maxRecDepth 100000 in
theorem spec_GrowWindow_w1 (A0_0 : Option Addr) (c0_0 : Nat) (l0_0 : List (List Int)) (a1_0 : Int) (a1_1 : Int) (a1_2 : Int) (a1_3 : Int) (A2_0 : Option Addr) (c2_0 : Nat) (l2_0 : List (List Int)) (w : World) (hr0_0 : Kd.C (Kd.slice 5 (Kd.int .u8)) w A0_0 l0_0.length l0_0) (hc0_0 : l0_0.length ≤ c0_0) (hr2_0 : Kd.C (Kd.slice 5 (Kd.int .u8)) w A2_0 l2_0.length l2_0) (hc2_0 : l2_0.length ≤ c2_0) (H1 : ∃ k, spec_l2Window.f k l0_0 a1_0 a1_1 a1_2 a1_3 = some true) (T0 : (decide ((l2_0.length : Int) > 40)) = true) :
    Calls Try.prog 56 #[.agg #[.slice A0_0 l0_0.length c0_0], .agg #[.int .i64 a1_0, .int .i64 a1_1, .int .i64 a1_2, .int .i64 a1_3], .slice A2_0 l2_0.length c2_0] w fun e w' => ∃ v0_ : Value, e = .returned (.tuple #[.agg #[v0_], .agg #[.int .i64 0, .int .i64 0, .int .i64 0, .int .i64 0], .int .i64 0, .bool false]) ∧ Kd.S (Kd.slice 5 (Kd.int .u8)) 29 w' w.heap.size (fun _ => True) v0_ [] ∧ Below w.heap.size w w' := by
  have HR0_0 := Aside0.mk hr0_0; have HC0_0 := Aside0.mk hc0_0; clear hr0_0 hc0_0
  have HR2_0 := Aside0.mk hr2_0; have HC2_0 := Aside0.mk hc2_0; clear hr2_0 hc2_0
  obtain ⟨k, H1_⟩ := H1; have H1 := Aside0.mk H1_; clear H1_
  have T0_ := Aside0.mk T0; clear T0; have T0 := T0_; clear T0_
  have HS0 : Aside0 (Stk w [] w) := ⟨Stk.nil w⟩
  go_enter Try.func56, Try.ntmps56
  refine reg (aF := ?_) (nw := ?_) [evB 0 3 [] 31 (fun s => #[.slice A0_0 l0_0.length c0_0]) 9999 [] (fun s => #[.slice A0_0 l0_0.length c0_0]), evB 1 4 [] 32 (fun s => #[.int .i64 a1_0, .int .i64 a1_1, .int .i64 a1_2, .int .i64 a1_3]) 9999 [] (fun s => #[.int .i64 a1_0, .int .i64 a1_1, .int .i64 a1_2, .int .i64 a1_3]), evB 2 6 [] 31 (fun s => #[.slice none 0 0]) 9999 [] (fun s => #[.slice none 0 0]), evB 3 7 [] 32 (fun s => #[.int .i64 0, .int .i64 0, .int .i64 0, .int .i64 0]) 9999 [] (fun s => #[.int .i64 0, .int .i64 0, .int .i64 0, .int .i64 0]), evP 4 8 [] (fun s => .int .i64 0), evP 5 9 [] (fun s => .bool false)] [] [] false 6 rfl rfl (by kernel_rfl) rfl (mf0) ?aF ?nw HS0.out ?hs ?_
  rotate_left 2
  case aF => intro s; simp only [putE, EvT.val, Act.put, setIfInBounds_toArray, set_cons_zero, set_cons_succ]; rfl
  case nw => intro s; simp only [thA, bsA, List.nil_append, List.cons_append, List.append_nil, if_true, if_false, Nat.reduceLT, set_cons_zero, set_cons_succ]; rfl
  case hs => exact ⟨bv rfl (fun s w => by go_simp; try rfl), bv rfl (fun s w => by go_simp; try rfl), bv rfl (fun s w => by go_simp; try rfl), bv rfl (fun s w => by go_simp; try rfl), pu rfl, pu rfl, trivial⟩
  intro s1 w1 h; have HS1 := Aside0.mk h; clear h HS0
  refine tl0 ?_
  refine wp_seq ?_
  refine reg0 (aF := ?_) [evL 0 17 [] (fun s => .agg #[.slice A0_0 l0_0.length c0_0]), evL 1 18 [] (fun s => .agg #[.int .i64 a1_0, .int .i64 a1_1, .int .i64 a1_2, .int .i64 a1_3]), evC 2 (some 19) [] (fun s x => .bool true) (fun s x => []), evP 3 20 [] (fun s => .bool false), evP 4 21 [] (fun s => .bool false), evP 5 22 [] (fun s => .slice A2_0 l2_0.length c2_0), evP 6 23 [] (fun s => .int .i64 (l2_0.length : Int)), evP 7 24 [] (fun s => .bool true), evP 8 25 [] (fun s => .bool true)] [] false 9 rfl rfl (by kernel_rfl) rfl (fun _ => rfl) ?aF HS1.out ?hs ?_
  rotate_left 1
  case aF => intro s; simp only [putE, EvT.val, Act.put, setIfInBounds_toArray, set_cons_zero, set_cons_succ]; rfl
  case hs => exact ⟨ld rfl 0 (fun s => rfl) (fun s w h => by have h0 := h 0 _ rfl; clear h; go_simp; try rfl), ld rfl 1 (fun s => rfl) (fun s w h => by have h0 := h 0 _ rfl; have h1 := h 1 _ rfl; have h2 := h 2 _ rfl; have h3 := h 3 _ rfl; clear h; go_simp; try rfl), cl rfl (fun s => #[.agg #[.slice A0_0 l0_0.length c0_0], .agg #[.int .i64 a1_0, .int .i64 a1_1, .int .i64 a1_2, .int .i64 a1_3]]) Try.func94 (fun s w1 h => (spec_l2Window.calls _ _ _ _ _ _ _ _ _ _ (Kd.C_below HR0_0.out h.hb) HC0_0.out H1.out).mono (by rintro e w2 ⟨rfl, hb⟩; exact fin0 hb)), pu rfl, pu rfl, pu rfl, pu rfl (hr := fun s w => by go_simp; try rfl), pb (q := .gtr) T0.out rfl, pu rfl, trivial⟩
  intro s2 w2 h; have HS2 := Aside0.mk h; clear h HS1
  refine tl0 ?_
  refine wp_cond_true rfl ?_
  refine reg (aF := ?_) (nw := ?_) [evP 0 26 [] (fun s => .agg #[.slice none 0 0]), evP 1 27 [] (fun s => .agg #[.int .i64 0, .int .i64 0, .int .i64 0, .int .i64 0]), evS 2, evS 3] [4, 5] [⟨2, 2, [], fun s => boxT (s1 2).lo #[.slice none 0 0] 31⟩, ⟨3, 3, [], fun s => boxT (s1 3).lo #[.int .i64 0, .int .i64 0, .int .i64 0, .int .i64 0] 32⟩] false 6 rfl rfl (by kernel_rfl) rfl ((mf1 (mf1 mf0))) ?aF ?nw HS2.out ?hs ?_
  rotate_left 2
  case aF => intro s; simp only [putE, EvT.val, Act.put, setIfInBounds_toArray, set_cons_zero, set_cons_succ]; rfl
  case nw => intro s; simp only [thA, bsA, List.nil_append, List.cons_append, List.append_nil, if_true, if_false, Nat.reduceLT, set_cons_zero, set_cons_succ]; rfl
  case hs => exact ⟨pu rfl (hr := fun s w => by go_simp; try rfl), pu rfl (hr := fun s w => by go_simp; try rfl), sb rfl 0 2 0 (fun s => [.slice none 0 0]) rfl rfl (fun s w h hf => by have h0 := h 0 _ rfl; have f0 := hf 0; clear h hf; go_simp; try rfl), sb rfl 1 3 0 (fun s => [.int .i64 0, .int .i64 0, .int .i64 0, .int .i64 0]) rfl rfl (fun s w h hf => by have h0 := h 0 _ rfl; have f0 := hf 0; have h1 := h 1 _ rfl; have f1 := hf 1; have h2 := h 2 _ rfl; have f2 := hf 2; have h3 := h 3 _ rfl; have f3 := hf 3; clear h hf; go_simp; try rfl), trivial⟩
  intro s3 w3 h; have HS3 := Aside0.mk h; clear h HS2
  refine tlP (v := .int .i64 0) 8 rfl ?_
  simp only [Act.put, setIfInBounds_toArray, set_cons_zero, set_cons_succ]
  refine tlP (v := .bool false) 9 rfl ?_
  simp only [Act.put, setIfInBounds_toArray, set_cons_zero, set_cons_succ]
  refine tl0 ?_
  refine wp_ret ?_
  try simp only [Exit.inBlock, Exit.then]
  refine bodyPost_ret (results_list (rs := [.cell 6 31, .cell 7 32, .tmp 8, .tmp 9]) rfl (by simp) (.cell (s1 2).lo 31 #[.slice none 0 0] (0, 0) _ rfl (show bx (s1 2).lo #[.slice none 0 0] 31 _ from HS3.out.get 2 rfl) Try.underlying31 rfl (by kernel_rfl) (.cell (s1 3).lo 32 #[.int .i64 0, .int .i64 0, .int .i64 0, .int .i64 0] (0, 0) _ rfl (show bx (s1 3).lo #[.int .i64 0, .int .i64 0, .int .i64 0, .int .i64 0] 32 _ from HS3.out.get 3 rfl) Try.underlying32 rfl (by kernel_rfl) (.tmp (.tmp .nil))))) rfl ?_
  exact ⟨_, by first | rfl | simp, Kd.S_nil _ _ _ _ _, HS3.out.hb⟩
set_option maxHeartbeats 8000000 in
set_option maxRecDepth 100000 in
theorem spec_GrowWindow_w2 (A0_0 : Option Addr) (c0_0 : Nat) (l0_0 : List (List Int)) (a1_0 : Int) (a1_1 : Int) (a1_2 : Int) (a1_3 : Int) (A2_0 : Option Addr) (c2_0 : Nat) (l2_0 : List (List Int)) (r2_0 : List (List Int)) (w : World) (hr0_0 : Kd.C (Kd.slice 5 (Kd.int .u8)) w A0_0 l0_0.length l0_0) (hc0_0 : l0_0.length ≤ c0_0) (hr2_0 : Kd.C (Kd.slice 5 (Kd.int .u8)) w A2_0 l2_0.length l2_0) (hc2_0 : l2_0.length ≤ c2_0) (H1 : ∃ k, spec_l2Window.f k l0_0 a1_0 a1_1 a1_2 a1_3 = some true) (H2 : ∃ k, spec_l2Own.f k l0_0 = some r2_0) (T0 : (decide ((l2_0.length : Int) > 40)) = false) (rM : List (List Int)) (r0 r1 r2 r3 rm : Int) (rb : Bool) (HG0 : growGo r2_0 a1_0 a1_1 a1_2 a1_3 0 l2_0 = (rM, r0, r1, r2, r3, rm, rb)) (HWM00 : WinOk r2_0 a1_0 a1_1 a1_2 a1_3 ∧ memB r2_0 = true) (FL0 : ∀ x ∈ l2_0, x.length ≤ 1048576) (F0 : l2_0.length ≤ 40) :
    Calls Try.prog 56 #[.agg #[.slice A0_0 l0_0.length c0_0], .agg #[.int .i64 a1_0, .int .i64 a1_1, .int .i64 a1_2, .int .i64 a1_3], .slice A2_0 l2_0.length c2_0] w fun e w' => ∃ v0_ : Value, e = .returned (.tuple #[.agg #[v0_], .agg #[.int .i64 r0, .int .i64 r1, .int .i64 r2, .int .i64 r3], .int .i64 rm, .bool rb]) ∧ Kd.S (Kd.slice 5 (Kd.int .u8)) 29 w' w.heap.size (fun _ => True) v0_ rM ∧ Below w.heap.size w w' := by
  have HG := Aside0.mk HG0; have HWM0 := Aside0.mk HWM00; have FL := Aside0.mk FL0; clear HG0 HWM00 FL0
  have HR0_0 := Aside0.mk hr0_0; have HC0_0 := Aside0.mk hc0_0; clear hr0_0 hc0_0
  have HR2_0 := Aside0.mk hr2_0; have HC2_0 := Aside0.mk hc2_0; clear hr2_0 hc2_0
  obtain ⟨k, H1_⟩ := H1; have H1 := Aside0.mk H1_; clear H1_
  obtain ⟨k, H2_⟩ := H2; have H2 := Aside0.mk H2_; clear H2_
  have T0_ := Aside0.mk T0; clear T0; have T0 := T0_; clear T0_
  have HS0 : Aside0 (Stk w [] w) := ⟨Stk.nil w⟩
  go_enter Try.func56, Try.ntmps56
  refine reg (aF := ?_) (nw := ?_) [evB 0 3 [] 31 (fun s => #[.slice A0_0 l0_0.length c0_0]) 9999 [] (fun s => #[.slice A0_0 l0_0.length c0_0]), evB 1 4 [] 32 (fun s => #[.int .i64 a1_0, .int .i64 a1_1, .int .i64 a1_2, .int .i64 a1_3]) 9999 [] (fun s => #[.int .i64 a1_0, .int .i64 a1_1, .int .i64 a1_2, .int .i64 a1_3]), evB 2 6 [] 31 (fun s => #[.slice none 0 0]) 9999 [] (fun s => #[.slice none 0 0]), evB 3 7 [] 32 (fun s => #[.int .i64 0, .int .i64 0, .int .i64 0, .int .i64 0]) 9999 [] (fun s => #[.int .i64 0, .int .i64 0, .int .i64 0, .int .i64 0]), evP 4 8 [] (fun s => .int .i64 0), evP 5 9 [] (fun s => .bool false)] [] [] false 6 rfl rfl (by kernel_rfl) rfl (mf0) ?aF ?nw HS0.out ?hs ?_
  rotate_left 2
  case aF => intro s; simp only [putE, EvT.val, Act.put, setIfInBounds_toArray, set_cons_zero, set_cons_succ]; rfl
  case nw => intro s; simp only [thA, bsA, List.nil_append, List.cons_append, List.append_nil, if_true, if_false, Nat.reduceLT, set_cons_zero, set_cons_succ]; rfl
  case hs => exact ⟨bv rfl (fun s w => by go_simp; try rfl), bv rfl (fun s w => by go_simp; try rfl), bv rfl (fun s w => by go_simp; try rfl), bv rfl (fun s w => by go_simp; try rfl), pu rfl, pu rfl, trivial⟩
  intro s1 w1 h; have HS1 := Aside0.mk h; clear h HS0
  refine tl0 ?_
  refine wp_seq ?_
  refine reg0 (aF := ?_) [evL 0 17 [] (fun s => .agg #[.slice A0_0 l0_0.length c0_0]), evL 1 18 [] (fun s => .agg #[.int .i64 a1_0, .int .i64 a1_1, .int .i64 a1_2, .int .i64 a1_3]), evC 2 (some 19) [] (fun s x => .bool true) (fun s x => []), evP 3 20 [] (fun s => .bool false), evP 4 21 [] (fun s => .bool false), evP 5 22 [] (fun s => .slice A2_0 l2_0.length c2_0), evP 6 23 [] (fun s => .int .i64 (l2_0.length : Int)), evP 7 24 [] (fun s => .bool false), evP 8 25 [] (fun s => .bool false)] [] false 9 rfl rfl (by kernel_rfl) rfl (fun _ => rfl) ?aF HS1.out ?hs ?_
  rotate_left 1
  case aF => intro s; simp only [putE, EvT.val, Act.put, setIfInBounds_toArray, set_cons_zero, set_cons_succ]; rfl
  case hs => exact ⟨ld rfl 0 (fun s => rfl) (fun s w h => by have h0 := h 0 _ rfl; clear h; go_simp; try rfl), ld rfl 1 (fun s => rfl) (fun s w h => by have h0 := h 0 _ rfl; have h1 := h 1 _ rfl; have h2 := h 2 _ rfl; have h3 := h 3 _ rfl; clear h; go_simp; try rfl), cl rfl (fun s => #[.agg #[.slice A0_0 l0_0.length c0_0], .agg #[.int .i64 a1_0, .int .i64 a1_1, .int .i64 a1_2, .int .i64 a1_3]]) Try.func94 (fun s w1 h => (spec_l2Window.calls _ _ _ _ _ _ _ _ _ _ (Kd.C_below HR0_0.out h.hb) HC0_0.out H1.out).mono (by rintro e w2 ⟨rfl, hb⟩; exact fin0 hb)), pu rfl, pu rfl, pu rfl, pu rfl (hr := fun s w => by go_simp; try rfl), pb (q := .gtr) T0.out rfl, pu rfl, trivial⟩
  intro s2 w2 h; have HS2 := Aside0.mk h; clear h HS1
  refine tl0 ?_
  refine wp_cond_false rfl ?_
  refine wp_skip ?_
  refine thN ?_
  refine reg (aF := ?_) (nw := ?_) [evL 0 28 [] (fun s => .agg #[.slice A0_0 l0_0.length c0_0]), evC 1 (some 29) [] (fun s x => .agg #[.slice x.A r2_0.length x.c]) (fun s x => [rowS (Kd.slice 5 (Kd.int .u8)) 29 w x.lo x.hi x.A x.c r2_0]), evR 2 30 1 (fun s => .agg #[.int .i64 a1_0, .int .i64 a1_1, .int .i64 a1_2, .int .i64 a1_3]), evB 3 10 [] 31 (fun s => #[.slice none 0 0]) 5 [1] (fun s => #[.slice (s 1).A r2_0.length (s 1).c]), evB 4 11 [] 32 (fun s => #[.int .i64 0, .int .i64 0, .int .i64 0, .int .i64 0]) 6 [] (fun s => #[.int .i64 a1_0, .int .i64 a1_1, .int .i64 a1_2, .int .i64 a1_3]), evS 5, evS 6] [7] [] true 8 rfl rfl (by kernel_rfl) rfl (mf0) ?aF ?nw HS2.out ?hs ?_
  rotate_left 2
  case aF => intro s; simp only [putE, EvT.val, Act.put, setIfInBounds_toArray, set_cons_zero, set_cons_succ]; rfl
  case nw => intro s; simp only [thA, bsA, List.nil_append, List.cons_append, List.append_nil, if_true, if_false, Nat.reduceLT, set_cons_zero, set_cons_succ]; rfl
  case hs => exact ⟨ld rfl 0 (fun s => rfl) (fun s w h => by have h0 := h 0 _ rfl; clear h; go_simp; try rfl), cl rfl (fun s => #[.agg #[.slice A0_0 l0_0.length c0_0]]) Try.func66 (fun s w1 h => (spec_l2Own.calls _ _ _ _ _ _ (Kd.C_below HR0_0.out h.hb) HC0_0.out H2.out).mono (by rintro e w2 ⟨v0_, rfl, ho0, hb⟩; obtain ⟨x, rfl, hx⟩ := fin_S ho0 hb h.hb.size; exact ⟨x, rfl, hx⟩)), lr rfl 1 rfl (fun s w h => by have h0 := h 0 _ rfl; have h1 := h 1 _ rfl; have h2 := h 2 _ rfl; have h3 := h 3 _ rfl; clear h; go_simp; try rfl), bv rfl (fun s w => by go_simp; try rfl), bv rfl (fun s w => by go_simp; try rfl), st rfl 3 0 (fun s => [.slice (s 1).A r2_0.length (s 1).c]) rfl (fun s w h hf => by have h0 := h 0 _ rfl; have f0 := hf 0; clear h hf; go_simp; try rfl), st rfl 4 0 (fun s => [.int .i64 a1_0, .int .i64 a1_1, .int .i64 a1_2, .int .i64 a1_3]) rfl (fun s w h hf => by have h0 := h 0 _ rfl; have f0 := hf 0; have h1 := h 1 _ rfl; have f1 := hf 1; have h2 := h 2 _ rfl; have f2 := hf 2; have h3 := h 3 _ rfl; have f3 := hf 3; clear h hf; go_simp; try rfl), trivial⟩
  intro s3 w3 h; have HS3 := Aside0.mk h; clear h HS2
  refine tlP (v := .int .i64 0) 12 rfl ?_
  simp only [Act.put, setIfInBounds_toArray, set_cons_zero, set_cons_succ]
  refine tl0 ?_
  refine wp_seq ?_
  refine reg0 (aF := ?_) [] [0] false 1 rfl rfl (by kernel_rfl) rfl (fun _ => rfl) ?aF HS3.out ?hs ?_
  rotate_left 1
  case aF => intro s; simp only [putE, EvT.val, Act.put, setIfInBounds_toArray, set_cons_zero, set_cons_succ]; rfl
  case hs => exact trivial
  intro s4 w4 h; have HS4 := Aside0.mk h; clear h HS3
  refine tlP (v := .int .i64 0) 13 rfl ?_
  simp only [Act.put, setIfInBounds_toArray, set_cons_zero, set_cons_succ]
  refine tl0 ?_
  refine wp_block ?_
  -- thing 0: rowS (Kd.slice 5 (Kd.int .u8)) 29 w (s3 1).lo (s3 1).hi (s3 1).A (s3 1).c r2_0
  -- thing 1: boxT (s3 3).lo #[.slice (s3 1).A r2_0.length (s3 1).c] 31
  -- thing 2: boxT (s3 4).lo #[.int .i64 a1_0, .int .i64 a1_1, .int .i64 a1_2, .int .i64 a1_3] 32
  -- thing 3: boxT (s1 0).lo #[.slice A0_0 l0_0.length c0_0] 31
  -- thing 4: boxT (s1 1).lo #[.int .i64 a1_0, .int .i64 a1_1, .int .i64 a1_2, .int .i64 a1_3] 32
  -- thing 5: boxT (s1 2).lo #[.slice none 0 0] 31
  -- thing 6: boxT (s1 3).lo #[.int .i64 0, .int .i64 0, .int .i64 0, .int .i64 0] 32
  -- slots: 0=.agg #[.slice A0_0 l0_0.length c0_0], 1=.agg #[.int .i64 a1_0, .int .i64 a1_1, .int .i64 a1_2, .int .i64 a1_3], 2=.slice A2_0 l2_0.length c2_0, 3=.pointer (some ⟨(s1 0).lo, 0, none⟩), 4=.pointer (some ⟨(s1 1).lo, 0, none⟩), 6=.pointer (some ⟨(s1 2).lo, 0, none⟩), 7=.pointer (some ⟨(s1 3).lo, 0, none⟩), 8=.int .i64 0, 9=.bool false, 17=.agg #[.slice A0_0 l0_0.length c0_0], 18=.agg #[.int .i64 a1_0, .int .i64 a1_1, .int .i64 a1_2, .int .i64 a1_3], 19=.bool true, 20=.bool false, 21=.bool false, 22=.slice A2_0 l2_0.length c2_0, 23=.int .i64 (l2_0.length : Int), 24=.bool false, 25=.bool false, 28=.agg #[.slice A0_0 l0_0.length c0_0], 29=.agg #[.slice (s3 1).A r2_0.length (s3 1).c], 30=.agg #[.int .i64 a1_0, .int .i64 a1_1, .int .i64 a1_2, .int .i64 a1_3], 10=.pointer (some ⟨(s3 3).lo, 0, none⟩), 11=.pointer (some ⟨(s3 4).lo, 0, none⟩), 12=.int .i64 0, 13=.int .i64 0
  have hb0_ : Stk w _ w4 := HS4.out.sub (.cons_cons _ (.cons_cons _ (.cons_cons _ (.cons _ (.cons _ (.cons_cons _ (.cons_cons _ .slnil)))))))
  generalize (s3 3).lo = g10 at *; generalize (s3 4).lo = g11 at *; generalize (s1 2).lo = g6 at *; generalize (s1 3).lo = g7 at *; generalize (s3 1).A = A0_ at *; generalize (s3 1).c = c0_ at *; generalize (s3 1).lo = lo0_ at *; generalize (s3 1).hi = hi0_ at *
  have HB0 := Aside0.mk hb0_; clear hb0_ HS4
  go_loopg [13, 12] (l2_0.length + 1) (fun kq v13 v12 wr => ∃ (i mv : Int) (M : List (List Int)) (x0 x1 x2 x3 : Int) (lo_ hi_ : Nat) (A_ : Option Addr) (c_ : Nat), v13 = .int .i64 i ∧ v12 = .int .i64 mv ∧ Aside0 ((kq : Int) + i = (l2_0.length : Int) + 1 ∧ 0 ≤ i ∧ i ≤ (l2_0.length : Int) ∧ 0 ≤ mv ∧ mv ≤ i) ∧ Aside0 (growGo M x0 x1 x2 x3 mv (l2_0.drop i.toNat) = (rM, r0, r1, r2, r3, rm, rb)) ∧ Aside0 (WinOk M x0 x1 x2 x3 ∧ memB M = true) ∧ Aside0 (Stk w [rowS (Kd.slice 5 (Kd.int .u8)) 29 w lo_ hi_ A_ c_ M, boxT g10 #[.slice A_ M.length c_] 31, boxT g11 #[.int .i64 x0, .int .i64 x1, .int .i64 x2, .int .i64 x3] 32, boxT g6 #[.slice none 0 0] 31, boxT g7 #[.int .i64 0, .int .i64 0, .int .i64 0, .int .i64 0] 32] wr))
  case atStart => exact ⟨0, 0, r2_0, a1_0, a1_1, a1_2, a1_3, lo0_, hi0_, A0_, c0_, rfl, rfl, ⟨by simp⟩, HG, HWM0, HB0⟩
  case round =>
    rename_i J_ K_ hJ_ hK_
    obtain ⟨i, mv, M, x0, x1, x2, x3, lo_, hi_, A_, c_, rfl, rfl, HK, HGG, HWM, HSR⟩ := hrel
    have hk_ := HK.out
    by_cases hi : i < (l2_0.length : Int)
    · obtain ⟨ge, Xe, cape, hA_, hel_, hcc_, hcr_⟩ := C_rowD HR2_0.out (i := i.toNat) (by omega)
      have hrl_ := FL.out _ (List.getElem_mem (l := l2_0) (n := i.toNat) (by omega))
      have hd_ := List.drop_eq_getElem_cons (l := l2_0) (i := i.toNat) (by omega); rw [show i.toNat + 1 = (i + 1).toNat by omega] at hd_
      subst hA_; generalize l2_0[i.toNat] = row at *
      have HEL := Aside0.mk hel_; have HRel := Aside0.mk hcr_; have HCel := Aside0.mk hcc_; have HD := Aside0.mk hd_; clear hel_ hcr_ hcc_ hd_
      obtain ⟨M2, z0, z1, z2, z3, b, hp_⟩ : ∃ M2 z0 z1 z2 z3 b, appendP M x0 x1 x2 x3 row = (M2, z0, z1, z2, z3, b) := ⟨_, _, _, _, _, _, rfl⟩
      obtain ⟨k, hl_⟩ := (l2Append_f M x0 x1 x2 x3 row (memB_ok HWM.out.2) HWM.out.1 hrl_).rounds
      unfold appendF at hl_; rw [hp_] at hl_; have HA := Aside0.mk hp_; clear hp_
      cases b
      · rw [if_neg (by simp)] at hl_; have HP := Aside0.mk hl_; clear hl_
        have T1 : Aside0 ((decide (i < (l2_0.length : Int))) = true) := ⟨by first | exact decide_eq_true (by omega) | simp <;> omega⟩
        refine wp_seq ?_
        refine reg0 (aF := ?_) [evP 0 31 [] (fun s => .int .i64 i), evP 1 32 [] (fun s => .slice (some ge) l2_0.length c2_0), evP 2 33 [] (fun s => .int .i64 (l2_0.length : Int)), evP 3 34 [] (fun s => .bool true)] [] false 4 rfl rfl (by kernel_rfl) rfl (fun _ => rfl) ?aF HSR.out ?hs ?_
        rotate_left 1
        case aF => intro s; simp only [putE, EvT.val, Act.put, setIfInBounds_toArray, set_cons_zero, set_cons_succ]; rfl
        case hs => exact ⟨pu rfl, pu rfl, pu rfl (hr := fun s w => by go_simp; try rfl), pb (q := .lss) T1.out rfl, trivial⟩
        intro s5 w5 h; have HS5 := Aside0.mk h; clear h HSR
        refine tl0 ?_
        refine wp_cond_true rfl ?_
        refine wp_skip ?_
        refine thN ?_
        refine wp_seq ?_
        refine wp_block ?_
        refine reg (aF := ?_) (nw := ?_) [evL 0 38 [] (fun s => .agg #[.slice A_ M.length c_]), evL 1 39 [] (fun s => .agg #[.int .i64 x0, .int .i64 x1, .int .i64 x2, .int .i64 x3]), evP 2 40 [] (fun s => .slice (some ge) l2_0.length c2_0), evP 3 41 [] (fun s => .int .i64 i), evP 4 42 [] (fun s => .pointer (some (ge.add (i).toNat))), evL 5 43 [] (fun s => .slice Xe row.length cape), evC 6 (some 44) [] (fun s x => .tuple #[.agg #[.slice x.A ([] : List (List Int)).length x.c], .agg #[.int .i64 0, .int .i64 0, .int .i64 0, .int .i64 0], .bool false]) (fun s x => [rowS (Kd.slice 5 (Kd.int .u8)) 29 w x.lo x.hi x.A x.c ([] : List (List Int))]), evP 7 37 [6] (fun s => .tuple #[.agg #[.slice (s 6).A ([] : List (List Int)).length (s 6).c], .agg #[.int .i64 0, .int .i64 0, .int .i64 0, .int .i64 0], .bool false]), evP 8 45 [6] (fun s => .agg #[.slice (s 6).A ([] : List (List Int)).length (s 6).c]), evP 9 46 [] (fun s => .agg #[.int .i64 0, .int .i64 0, .int .i64 0, .int .i64 0]), evP 10 47 [] (fun s => .bool false), evB 11 14 [] 31 (fun s => #[.slice none 0 0]) 13 [6] (fun s => #[.slice (s 6).A ([] : List (List Int)).length (s 6).c]), evB 12 15 [] 32 (fun s => #[.int .i64 0, .int .i64 0, .int .i64 0, .int .i64 0]) 14 [] (fun s => #[.int .i64 0, .int .i64 0, .int .i64 0, .int .i64 0]), evS 13, evS 14] [15] [] true 16 rfl rfl (by kernel_rfl) rfl (mf0) ?aF ?nw HS5.out ?hs ?_
        rotate_left 2
        case aF => intro s; simp only [putE, EvT.val, Act.put, setIfInBounds_toArray, set_cons_zero, set_cons_succ]; rfl
        case nw => intro s; simp only [thA, bsA, List.nil_append, List.cons_append, List.append_nil, if_true, if_false, Nat.reduceLT, set_cons_zero, set_cons_succ]; rfl
        case hs => exact ⟨ld rfl 1 (fun s => rfl) (fun s w h => by have h0 := h 0 _ rfl; clear h; go_simp; try rfl), ld rfl 2 (fun s => rfl) (fun s w h => by have h0 := h 0 _ rfl; have h1 := h 1 _ rfl; have h2 := h 2 _ rfl; have h3 := h 3 _ rfl; clear h; go_simp; try rfl), pu rfl, pu rfl, pu rfl (hr := fun s w => by go_simp; try rfl), lo rfl (one_at HEL.out) (fun s w h => by have h0 := h 0 _ rfl; clear h; go_simp; try rfl), cl rfl (fun s => #[.agg #[.slice A_ M.length c_], .agg #[.int .i64 x0, .int .i64 x1, .int .i64 x2, .int .i64 x3], .slice Xe row.length cape]) Try.func95 (fun s w1 h => (spec_l2Append.calls _ _ _ _ _ _ _ _ _ _ _ _ _ _ _ _ _ _ (Kd.S_reads' (h.get 0 rfl)).2.2 (Kd.S_reads' (h.get 0 rfl)).2.1 (Kd.C_below HRel.out h.hb) HCel.out HP.out).mono (by rintro e w2 ⟨v0_, rfl, ho0, hb⟩; obtain ⟨x, rfl, hx⟩ := fin_S ho0 hb h.hb.size; exact ⟨x, rfl, hx⟩)), pu rfl, pu rfl, pu rfl, pu rfl, bv rfl (fun s w => by go_simp; try rfl), bv rfl (fun s w => by go_simp; try rfl), st rfl 11 0 (fun s => [.slice (s 6).A ([] : List (List Int)).length (s 6).c]) rfl (fun s w h hf => by have h0 := h 0 _ rfl; have f0 := hf 0; clear h hf; go_simp; try rfl), st rfl 12 0 (fun s => [.int .i64 0, .int .i64 0, .int .i64 0, .int .i64 0]) rfl (fun s w h hf => by have h0 := h 0 _ rfl; have f0 := hf 0; have h1 := h 1 _ rfl; have f1 := hf 1; have h2 := h 2 _ rfl; have f2 := hf 2; have h3 := h 3 _ rfl; have f3 := hf 3; clear h hf; go_simp; try rfl), trivial⟩
        intro s6 w6 h; have HS6 := Aside0.mk h; clear h HS5
        refine tlP (v := .bool false) 16 rfl ?_
        simp only [Act.put, setIfInBounds_toArray, set_cons_zero, set_cons_succ]
        refine tl0 ?_
        refine wp_seq ?_
        refine reg0 (aF := ?_) [evP 0 48 [] (fun s => .bool false), evP 1 49 [] (fun s => .bool true)] [] false 2 rfl rfl (by kernel_rfl) rfl (fun _ => rfl) ?aF HS6.out ?hs ?_
        rotate_left 1
        case aF => intro s; simp only [putE, EvT.val, Act.put, setIfInBounds_toArray, set_cons_zero, set_cons_succ]; rfl
        case hs => exact ⟨pu rfl, pu rfl, trivial⟩
        intro s7 w7 h; have HS7 := Aside0.mk h; clear h HS6
        refine tl0 ?_
        refine wp_cond_true rfl ?_
        refine reg (aF := ?_) (nw := ?_) [evP 0 50 [] (fun s => .agg #[.slice none 0 0]), evP 1 51 [] (fun s => .agg #[.int .i64 0, .int .i64 0, .int .i64 0, .int .i64 0]), evS 2, evS 3] [4, 5] [⟨6, 2, [], fun s => boxT g6 #[.slice none 0 0] 31⟩, ⟨7, 3, [], fun s => boxT g7 #[.int .i64 0, .int .i64 0, .int .i64 0, .int .i64 0] 32⟩] false 6 rfl rfl (by kernel_rfl) rfl ((mf1 (mf1 mf0))) ?aF ?nw HS7.out ?hs ?_
        rotate_left 2
        case aF => intro s; simp only [putE, EvT.val, Act.put, setIfInBounds_toArray, set_cons_zero, set_cons_succ]; rfl
        case nw => intro s; simp only [thA, bsA, List.nil_append, List.cons_append, List.append_nil, if_true, if_false, Nat.reduceLT, set_cons_zero, set_cons_succ]; rfl
        case hs => exact ⟨pu rfl (hr := fun s w => by go_simp; try rfl), pu rfl (hr := fun s w => by go_simp; try rfl), sb rfl 0 6 0 (fun s => [.slice none 0 0]) rfl rfl (fun s w h hf => by have h0 := h 0 _ rfl; have f0 := hf 0; clear h hf; go_simp; try rfl), sb rfl 1 7 0 (fun s => [.int .i64 0, .int .i64 0, .int .i64 0, .int .i64 0]) rfl rfl (fun s w h hf => by have h0 := h 0 _ rfl; have f0 := hf 0; have h1 := h 1 _ rfl; have f1 := hf 1; have h2 := h 2 _ rfl; have f2 := hf 2; have h3 := h 3 _ rfl; have f3 := hf 3; clear h hf; go_simp; try rfl), trivial⟩
        intro s8 w8 h; have HS8 := Aside0.mk h; clear h HS7
        refine tlP (v := .int .i64 0) 8 rfl ?_
        simp only [Act.put, setIfInBounds_toArray, set_cons_zero, set_cons_succ]
        refine tlP (v := .bool false) 9 rfl ?_
        simp only [Act.put, setIfInBounds_toArray, set_cons_zero, set_cons_succ]
        refine tl0 ?_
        refine wp_ret ?_
        try simp only [Exit.inBlock, Exit.then]
        refine bodyPost_ret (results_list (rs := [.cell 6 31, .cell 7 32, .tmp 8, .tmp 9]) rfl (by simp) (.cell g6 31 #[.slice none 0 0] (0, 0) _ rfl (show bx g6 #[.slice none 0 0] 31 _ from HS8.out.get 6 rfl) Try.underlying31 rfl (by kernel_rfl) (.cell g7 32 #[.int .i64 0, .int .i64 0, .int .i64 0, .int .i64 0] (0, 0) _ rfl (show bx g7 #[.int .i64 0, .int .i64 0, .int .i64 0, .int .i64 0] 32 _ from HS8.out.get 7 rfl) Try.underlying32 rfl (by kernel_rfl) (.tmp (.tmp .nil))))) rfl ?_
        have e_ := HGG.out; rw [HD.out, growGo_no HA.out] at e_; cases e_; exact ⟨_, by first | rfl | simp, Kd.S_nil _ _ _ _ _, HS8.out.hb⟩
      · rw [if_pos rfl] at hl_; have HP := Aside0.mk hl_; clear hl_
        by_cases hz : z0 = x0
        · have T1 : Aside0 ((decide (i < (l2_0.length : Int))) = true) := ⟨by first | exact decide_eq_true (by omega) | simp <;> omega⟩
          have T2 : Aside0 ((z0 != x0) = false) := ⟨by first | exact decide_eq_false (by omega) | simp <;> omega⟩
          refine wp_seq ?_
          refine reg0 (aF := ?_) [evP 0 31 [] (fun s => .int .i64 i), evP 1 32 [] (fun s => .slice (some ge) l2_0.length c2_0), evP 2 33 [] (fun s => .int .i64 (l2_0.length : Int)), evP 3 34 [] (fun s => .bool true)] [] false 4 rfl rfl (by kernel_rfl) rfl (fun _ => rfl) ?aF HSR.out ?hs ?_
          rotate_left 1
          case aF => intro s; simp only [putE, EvT.val, Act.put, setIfInBounds_toArray, set_cons_zero, set_cons_succ]; rfl
          case hs => exact ⟨pu rfl, pu rfl, pu rfl (hr := fun s w => by go_simp; try rfl), pb (q := .lss) T1.out rfl, trivial⟩
          intro s9 w9 h; have HS9 := Aside0.mk h; clear h HSR
          refine tl0 ?_
          refine wp_cond_true rfl ?_
          refine wp_skip ?_
          refine thN ?_
          refine wp_seq ?_
          refine wp_block ?_
          refine reg (aF := ?_) (nw := ?_) [evL 0 38 [] (fun s => .agg #[.slice A_ M.length c_]), evL 1 39 [] (fun s => .agg #[.int .i64 x0, .int .i64 x1, .int .i64 x2, .int .i64 x3]), evP 2 40 [] (fun s => .slice (some ge) l2_0.length c2_0), evP 3 41 [] (fun s => .int .i64 i), evP 4 42 [] (fun s => .pointer (some (ge.add (i).toNat))), evL 5 43 [] (fun s => .slice Xe row.length cape), evC 6 (some 44) [] (fun s x => .tuple #[.agg #[.slice x.A M2.length x.c], .agg #[.int .i64 z0, .int .i64 z1, .int .i64 z2, .int .i64 z3], .bool true]) (fun s x => [rowS (Kd.slice 5 (Kd.int .u8)) 29 w x.lo x.hi x.A x.c M2]), evP 7 37 [6] (fun s => .tuple #[.agg #[.slice (s 6).A M2.length (s 6).c], .agg #[.int .i64 z0, .int .i64 z1, .int .i64 z2, .int .i64 z3], .bool true]), evP 8 45 [6] (fun s => .agg #[.slice (s 6).A M2.length (s 6).c]), evP 9 46 [] (fun s => .agg #[.int .i64 z0, .int .i64 z1, .int .i64 z2, .int .i64 z3]), evP 10 47 [] (fun s => .bool true), evB 11 14 [] 31 (fun s => #[.slice none 0 0]) 13 [6] (fun s => #[.slice (s 6).A M2.length (s 6).c]), evB 12 15 [] 32 (fun s => #[.int .i64 0, .int .i64 0, .int .i64 0, .int .i64 0]) 14 [] (fun s => #[.int .i64 z0, .int .i64 z1, .int .i64 z2, .int .i64 z3]), evS 13, evS 14] [15] [] true 16 rfl rfl (by kernel_rfl) rfl (mf0) ?aF ?nw HS9.out ?hs ?_
          rotate_left 2
          case aF => intro s; simp only [putE, EvT.val, Act.put, setIfInBounds_toArray, set_cons_zero, set_cons_succ]; rfl
          case nw => intro s; simp only [thA, bsA, List.nil_append, List.cons_append, List.append_nil, if_true, if_false, Nat.reduceLT, set_cons_zero, set_cons_succ]; rfl
          case hs => exact ⟨ld rfl 1 (fun s => rfl) (fun s w h => by have h0 := h 0 _ rfl; clear h; go_simp; try rfl), ld rfl 2 (fun s => rfl) (fun s w h => by have h0 := h 0 _ rfl; have h1 := h 1 _ rfl; have h2 := h 2 _ rfl; have h3 := h 3 _ rfl; clear h; go_simp; try rfl), pu rfl, pu rfl, pu rfl (hr := fun s w => by go_simp; try rfl), lo rfl (one_at HEL.out) (fun s w h => by have h0 := h 0 _ rfl; clear h; go_simp; try rfl), cl rfl (fun s => #[.agg #[.slice A_ M.length c_], .agg #[.int .i64 x0, .int .i64 x1, .int .i64 x2, .int .i64 x3], .slice Xe row.length cape]) Try.func95 (fun s w1 h => (spec_l2Append.calls _ _ _ _ _ _ _ _ _ _ _ _ _ _ _ _ _ _ (Kd.S_reads' (h.get 0 rfl)).2.2 (Kd.S_reads' (h.get 0 rfl)).2.1 (Kd.C_below HRel.out h.hb) HCel.out HP.out).mono (by rintro e w2 ⟨v0_, rfl, ho0, hb⟩; obtain ⟨x, rfl, hx⟩ := fin_S ho0 hb h.hb.size; exact ⟨x, rfl, hx⟩)), pu rfl, pu rfl, pu rfl, pu rfl, bv rfl (fun s w => by go_simp; try rfl), bv rfl (fun s w => by go_simp; try rfl), st rfl 11 0 (fun s => [.slice (s 6).A M2.length (s 6).c]) rfl (fun s w h hf => by have h0 := h 0 _ rfl; have f0 := hf 0; clear h hf; go_simp; try rfl), st rfl 12 0 (fun s => [.int .i64 z0, .int .i64 z1, .int .i64 z2, .int .i64 z3]) rfl (fun s w h hf => by have h0 := h 0 _ rfl; have f0 := hf 0; have h1 := h 1 _ rfl; have f1 := hf 1; have h2 := h 2 _ rfl; have f2 := hf 2; have h3 := h 3 _ rfl; have f3 := hf 3; clear h hf; go_simp; try rfl), trivial⟩
          intro s10 w10 h; have HS10 := Aside0.mk h; clear h HS9
          refine tlP (v := .bool true) 16 rfl ?_
          simp only [Act.put, setIfInBounds_toArray, set_cons_zero, set_cons_succ]
          refine tl0 ?_
          refine wp_seq ?_
          refine reg0 (aF := ?_) [evP 0 48 [] (fun s => .bool true), evP 1 49 [] (fun s => .bool false)] [] false 2 rfl rfl (by kernel_rfl) rfl (fun _ => rfl) ?aF HS10.out ?hs ?_
          rotate_left 1
          case aF => intro s; simp only [putE, EvT.val, Act.put, setIfInBounds_toArray, set_cons_zero, set_cons_succ]; rfl
          case hs => exact ⟨pu rfl, pu rfl, trivial⟩
          intro s11 w11 h; have HS11 := Aside0.mk h; clear h HS10
          refine tl0 ?_
          refine wp_cond_false rfl ?_
          refine wp_skip ?_
          refine thN ?_
          refine wp_seq ?_
          refine reg0 (aF := ?_) [evP 0 52 [] (fun s => .pointer (some ⟨(s10 12).lo, 0, none⟩)), evL 1 53 [] (fun s => .int .i64 z0), evP 2 54 [] (fun s => .pointer (some ⟨g11, 0, none⟩)), evL 3 55 [] (fun s => .int .i64 x0), evP 4 56 [] (fun s => .bool false)] [] false 5 rfl rfl (by kernel_rfl) rfl (fun _ => rfl) ?aF HS11.out ?hs ?_
          rotate_left 1
          case aF => intro s; simp only [putE, EvT.val, Act.put, setIfInBounds_toArray, set_cons_zero, set_cons_succ]; rfl
          case hs => exact ⟨pu rfl (hr := fun s w => by go_simp; try rfl), ld rfl 2 (fun s => rfl) (fun s w h => by have h0 := h 0 _ rfl; have h1 := h 1 _ rfl; have h2 := h 2 _ rfl; have h3 := h 3 _ rfl; clear h; go_simp; try rfl), pu rfl (hr := fun s w => by go_simp; try rfl), ld rfl 5 (fun s => rfl) (fun s w h => by have h0 := h 0 _ rfl; have h1 := h 1 _ rfl; have h2 := h 2 _ rfl; have h3 := h 3 _ rfl; clear h; go_simp; try rfl), pb (q := .neq) T2.out rfl, trivial⟩
          intro s12 w12 h; have HS12 := Aside0.mk h; clear h HS11
          refine tl0 ?_
          refine wp_cond_false rfl ?_
          refine wp_skip ?_
          refine thN ?_
          refine reg (aF := ?_) (nw := ?_) [evL 0 59 [] (fun s => .agg #[.slice (s10 6).A M2.length (s10 6).c]), evS 1] [] [⟨4, 1, [], fun s => boxT g10 #[.slice (s10 6).A M2.length (s10 6).c] 31⟩] false 2 rfl rfl (by kernel_rfl) rfl ((mf1 mf0)) ?aF ?nw HS12.out ?hs ?_
          rotate_left 2
          case aF => intro s; simp only [putE, EvT.val, Act.put, setIfInBounds_toArray, set_cons_zero, set_cons_succ]; rfl
          case nw => intro s; simp only [thA, bsA, List.nil_append, List.cons_append, List.append_nil, if_true, if_false, Nat.reduceLT, set_cons_zero, set_cons_succ]; rfl
          case hs => exact ⟨ld rfl 1 (fun s => rfl) (fun s w h => by have h0 := h 0 _ rfl; clear h; go_simp; try rfl), sb rfl 0 4 0 (fun s => [.slice (s10 6).A M2.length (s10 6).c]) rfl rfl (fun s w h hf => by have h0 := h 0 _ rfl; have f0 := hf 0; clear h hf; go_simp; try rfl), trivial⟩
          intro s13 w13 h; have HS13 := Aside0.mk h; clear h HS12
          refine tl0 ?_
          refine regL (aF := ?_) (nw := ?_) [evL 0 60 [] (fun s => .agg #[.int .i64 z0, .int .i64 z1, .int .i64 z2, .int .i64 z3]), evS 1] [] [⟨5, 1, [], fun s => boxT g11 #[.int .i64 z0, .int .i64 z1, .int .i64 z2, .int .i64 z3] 32⟩] false 2 rfl rfl (by kernel_rfl) rfl ((mf1 mf0)) ?aF ?nw HS13.out ?hs ?_
          rotate_left 2
          case aF => intro s; simp only [putE, EvT.val, Act.put, setIfInBounds_toArray, set_cons_zero, set_cons_succ]; rfl
          case nw => intro s; simp only [thA, bsA, List.nil_append, List.cons_append, List.append_nil, if_true, if_false, Nat.reduceLT, set_cons_zero, set_cons_succ]; rfl
          case hs => exact ⟨ld rfl 2 (fun s => rfl) (fun s w h => by have h0 := h 0 _ rfl; have h1 := h 1 _ rfl; have h2 := h 2 _ rfl; have h3 := h 3 _ rfl; clear h; go_simp; try rfl), sb rfl 0 5 0 (fun s => [.int .i64 z0, .int .i64 z1, .int .i64 z2, .int .i64 z3]) rfl rfl (fun s w h hf => by have h0 := h 0 _ rfl; have f0 := hf 0; have h1 := h 1 _ rfl; have f1 := hf 1; have h2 := h 2 _ rfl; have f2 := hf 2; have h3 := h 3 _ rfl; have f3 := hf 3; clear h hf; go_simp; try rfl), trivial⟩
          intro s14 w14 h; have HS14 := Aside0.mk h; clear h HS13
          refine tlE ?_
          refine inB ?_
          refine thN ?_
          refine regL (aF := ?_) (nw := ?_) [evP 0 35 [] (fun s => .int .i64 i), evP 1 36 [] (fun s => .int .i64 (i + 1))] [2] [] false 3 rfl rfl (by kernel_rfl) rfl (mf0) ?aF ?nw HS14.out ?hs ?_
          rotate_left 2
          case aF => intro s; simp only [putE, EvT.val, Act.put, setIfInBounds_toArray, set_cons_zero, set_cons_succ]; rfl
          case nw => intro s; simp only [thA, bsA, List.nil_append, List.cons_append, List.append_nil, if_true, if_false, Nat.reduceLT, set_cons_zero, set_cons_succ]; rfl
          case hs => exact ⟨pu rfl, pa .add (r := i + 1) (.inl ⟨rfl, (i64_ok (n := i + 1) (by omega) (by omega))⟩) rfl, trivial⟩
          intro s15 w15 h; have HS15 := Aside0.mk h; clear h HS14
          refine tlP (v := .int .i64 (i + 1)) 13 rfl ?_
          simp only [Act.put, setIfInBounds_toArray, set_cons_zero, set_cons_succ]
          refine tlE ?_
          refine thN ?_
          refine hK_ _ _ (Handed.intro (gk - 1) (by omega) (hJ_ _ _ _ ?_))
          (repeat apply Exists.intro)
          refine ⟨?_, rfl⟩
          exact ⟨i + 1, mv, M2, z0, z1, z2, z3, _, _, _, _, rfl, rfl, ⟨by omega⟩, ⟨by have h_ := HGG.out; rw [HD.out, growGo_ok HA.out] at h_; rw [if_pos hz] at h_; exact h_⟩, ⟨⟨appendP_ok HWM.out.1 HA.out, appendP_memB HWM.out.2 HWM.out.1 HA.out⟩⟩, ⟨(HS15.out.sub (.cons_cons _ (.cons _ (.cons _ (.cons _ (.cons_cons _ (.cons_cons _ (.cons_cons _ (.cons_cons _ .slnil)))))))))⟩⟩
        · have T1 : Aside0 ((decide (i < (l2_0.length : Int))) = true) := ⟨by first | exact decide_eq_true (by omega) | simp <;> omega⟩
          have T2 : Aside0 ((z0 != x0) = true) := ⟨by first | exact decide_eq_true (by omega) | simp <;> omega⟩
          refine wp_seq ?_
          refine reg0 (aF := ?_) [evP 0 31 [] (fun s => .int .i64 i), evP 1 32 [] (fun s => .slice (some ge) l2_0.length c2_0), evP 2 33 [] (fun s => .int .i64 (l2_0.length : Int)), evP 3 34 [] (fun s => .bool true)] [] false 4 rfl rfl (by kernel_rfl) rfl (fun _ => rfl) ?aF HSR.out ?hs ?_
          rotate_left 1
          case aF => intro s; simp only [putE, EvT.val, Act.put, setIfInBounds_toArray, set_cons_zero, set_cons_succ]; rfl
          case hs => exact ⟨pu rfl, pu rfl, pu rfl (hr := fun s w => by go_simp; try rfl), pb (q := .lss) T1.out rfl, trivial⟩
          intro s16 w16 h; have HS16 := Aside0.mk h; clear h HSR
          refine tl0 ?_
          refine wp_cond_true rfl ?_
          refine wp_skip ?_
          refine thN ?_
          refine wp_seq ?_
          refine wp_block ?_
          refine reg (aF := ?_) (nw := ?_) [evL 0 38 [] (fun s => .agg #[.slice A_ M.length c_]), evL 1 39 [] (fun s => .agg #[.int .i64 x0, .int .i64 x1, .int .i64 x2, .int .i64 x3]), evP 2 40 [] (fun s => .slice (some ge) l2_0.length c2_0), evP 3 41 [] (fun s => .int .i64 i), evP 4 42 [] (fun s => .pointer (some (ge.add (i).toNat))), evL 5 43 [] (fun s => .slice Xe row.length cape), evC 6 (some 44) [] (fun s x => .tuple #[.agg #[.slice x.A M2.length x.c], .agg #[.int .i64 z0, .int .i64 z1, .int .i64 z2, .int .i64 z3], .bool true]) (fun s x => [rowS (Kd.slice 5 (Kd.int .u8)) 29 w x.lo x.hi x.A x.c M2]), evP 7 37 [6] (fun s => .tuple #[.agg #[.slice (s 6).A M2.length (s 6).c], .agg #[.int .i64 z0, .int .i64 z1, .int .i64 z2, .int .i64 z3], .bool true]), evP 8 45 [6] (fun s => .agg #[.slice (s 6).A M2.length (s 6).c]), evP 9 46 [] (fun s => .agg #[.int .i64 z0, .int .i64 z1, .int .i64 z2, .int .i64 z3]), evP 10 47 [] (fun s => .bool true), evB 11 14 [] 31 (fun s => #[.slice none 0 0]) 13 [6] (fun s => #[.slice (s 6).A M2.length (s 6).c]), evB 12 15 [] 32 (fun s => #[.int .i64 0, .int .i64 0, .int .i64 0, .int .i64 0]) 14 [] (fun s => #[.int .i64 z0, .int .i64 z1, .int .i64 z2, .int .i64 z3]), evS 13, evS 14] [15] [] true 16 rfl rfl (by kernel_rfl) rfl (mf0) ?aF ?nw HS16.out ?hs ?_
          rotate_left 2
          case aF => intro s; simp only [putE, EvT.val, Act.put, setIfInBounds_toArray, set_cons_zero, set_cons_succ]; rfl
          case nw => intro s; simp only [thA, bsA, List.nil_append, List.cons_append, List.append_nil, if_true, if_false, Nat.reduceLT, set_cons_zero, set_cons_succ]; rfl
          case hs => exact ⟨ld rfl 1 (fun s => rfl) (fun s w h => by have h0 := h 0 _ rfl; clear h; go_simp; try rfl), ld rfl 2 (fun s => rfl) (fun s w h => by have h0 := h 0 _ rfl; have h1 := h 1 _ rfl; have h2 := h 2 _ rfl; have h3 := h 3 _ rfl; clear h; go_simp; try rfl), pu rfl, pu rfl, pu rfl (hr := fun s w => by go_simp; try rfl), lo rfl (one_at HEL.out) (fun s w h => by have h0 := h 0 _ rfl; clear h; go_simp; try rfl), cl rfl (fun s => #[.agg #[.slice A_ M.length c_], .agg #[.int .i64 x0, .int .i64 x1, .int .i64 x2, .int .i64 x3], .slice Xe row.length cape]) Try.func95 (fun s w1 h => (spec_l2Append.calls _ _ _ _ _ _ _ _ _ _ _ _ _ _ _ _ _ _ (Kd.S_reads' (h.get 0 rfl)).2.2 (Kd.S_reads' (h.get 0 rfl)).2.1 (Kd.C_below HRel.out h.hb) HCel.out HP.out).mono (by rintro e w2 ⟨v0_, rfl, ho0, hb⟩; obtain ⟨x, rfl, hx⟩ := fin_S ho0 hb h.hb.size; exact ⟨x, rfl, hx⟩)), pu rfl, pu rfl, pu rfl, pu rfl, bv rfl (fun s w => by go_simp; try rfl), bv rfl (fun s w => by go_simp; try rfl), st rfl 11 0 (fun s => [.slice (s 6).A M2.length (s 6).c]) rfl (fun s w h hf => by have h0 := h 0 _ rfl; have f0 := hf 0; clear h hf; go_simp; try rfl), st rfl 12 0 (fun s => [.int .i64 z0, .int .i64 z1, .int .i64 z2, .int .i64 z3]) rfl (fun s w h hf => by have h0 := h 0 _ rfl; have f0 := hf 0; have h1 := h 1 _ rfl; have f1 := hf 1; have h2 := h 2 _ rfl; have f2 := hf 2; have h3 := h 3 _ rfl; have f3 := hf 3; clear h hf; go_simp; try rfl), trivial⟩
          intro s17 w17 h; have HS17 := Aside0.mk h; clear h HS16
          refine tlP (v := .bool true) 16 rfl ?_
          simp only [Act.put, setIfInBounds_toArray, set_cons_zero, set_cons_succ]
          refine tl0 ?_
          refine wp_seq ?_
          refine reg0 (aF := ?_) [evP 0 48 [] (fun s => .bool true), evP 1 49 [] (fun s => .bool false)] [] false 2 rfl rfl (by kernel_rfl) rfl (fun _ => rfl) ?aF HS17.out ?hs ?_
          rotate_left 1
          case aF => intro s; simp only [putE, EvT.val, Act.put, setIfInBounds_toArray, set_cons_zero, set_cons_succ]; rfl
          case hs => exact ⟨pu rfl, pu rfl, trivial⟩
          intro s18 w18 h; have HS18 := Aside0.mk h; clear h HS17
          refine tl0 ?_
          refine wp_cond_false rfl ?_
          refine wp_skip ?_
          refine thN ?_
          refine wp_seq ?_
          refine reg0 (aF := ?_) [evP 0 52 [] (fun s => .pointer (some ⟨(s17 12).lo, 0, none⟩)), evL 1 53 [] (fun s => .int .i64 z0), evP 2 54 [] (fun s => .pointer (some ⟨g11, 0, none⟩)), evL 3 55 [] (fun s => .int .i64 x0), evP 4 56 [] (fun s => .bool true)] [] false 5 rfl rfl (by kernel_rfl) rfl (fun _ => rfl) ?aF HS18.out ?hs ?_
          rotate_left 1
          case aF => intro s; simp only [putE, EvT.val, Act.put, setIfInBounds_toArray, set_cons_zero, set_cons_succ]; rfl
          case hs => exact ⟨pu rfl (hr := fun s w => by go_simp; try rfl), ld rfl 2 (fun s => rfl) (fun s w h => by have h0 := h 0 _ rfl; have h1 := h 1 _ rfl; have h2 := h 2 _ rfl; have h3 := h 3 _ rfl; clear h; go_simp; try rfl), pu rfl (hr := fun s w => by go_simp; try rfl), ld rfl 5 (fun s => rfl) (fun s w h => by have h0 := h 0 _ rfl; have h1 := h 1 _ rfl; have h2 := h 2 _ rfl; have h3 := h 3 _ rfl; clear h; go_simp; try rfl), pb (q := .neq) T2.out rfl, trivial⟩
          intro s19 w19 h; have HS19 := Aside0.mk h; clear h HS18
          refine tl0 ?_
          refine wp_cond_true rfl ?_
          refine regL (aF := ?_) (nw := ?_) [evP 0 57 [] (fun s => .int .i64 mv), evP 1 58 [] (fun s => .int .i64 (mv + 1))] [2] [] false 3 rfl rfl (by kernel_rfl) rfl (mf0) ?aF ?nw HS19.out ?hs ?_
          rotate_left 2
          case aF => intro s; simp only [putE, EvT.val, Act.put, setIfInBounds_toArray, set_cons_zero, set_cons_succ]; rfl
          case nw => intro s; simp only [thA, bsA, List.nil_append, List.cons_append, List.append_nil, if_true, if_false, Nat.reduceLT, set_cons_zero, set_cons_succ]; rfl
          case hs => exact ⟨pu rfl, pa .add (r := mv + 1) (.inl ⟨rfl, (i64_ok (n := mv + 1) (by omega) (by omega))⟩) rfl, trivial⟩
          intro s20 w20 h; have HS20 := Aside0.mk h; clear h HS19
          refine tlP (v := .int .i64 (mv + 1)) 12 rfl ?_
          simp only [Act.put, setIfInBounds_toArray, set_cons_zero, set_cons_succ]
          refine tlE ?_
          refine thN ?_
          refine reg (aF := ?_) (nw := ?_) [evL 0 59 [] (fun s => .agg #[.slice (s17 6).A M2.length (s17 6).c]), evS 1] [] [⟨4, 1, [], fun s => boxT g10 #[.slice (s17 6).A M2.length (s17 6).c] 31⟩] false 2 rfl rfl (by kernel_rfl) rfl ((mf1 mf0)) ?aF ?nw HS20.out ?hs ?_
          rotate_left 2
          case aF => intro s; simp only [putE, EvT.val, Act.put, setIfInBounds_toArray, set_cons_zero, set_cons_succ]; rfl
          case nw => intro s; simp only [thA, bsA, List.nil_append, List.cons_append, List.append_nil, if_true, if_false, Nat.reduceLT, set_cons_zero, set_cons_succ]; rfl
          case hs => exact ⟨ld rfl 1 (fun s => rfl) (fun s w h => by have h0 := h 0 _ rfl; clear h; go_simp; try rfl), sb rfl 0 4 0 (fun s => [.slice (s17 6).A M2.length (s17 6).c]) rfl rfl (fun s w h hf => by have h0 := h 0 _ rfl; have f0 := hf 0; clear h hf; go_simp; try rfl), trivial⟩
          intro s21 w21 h; have HS21 := Aside0.mk h; clear h HS20
          refine tl0 ?_
          refine regL (aF := ?_) (nw := ?_) [evL 0 60 [] (fun s => .agg #[.int .i64 z0, .int .i64 z1, .int .i64 z2, .int .i64 z3]), evS 1] [] [⟨5, 1, [], fun s => boxT g11 #[.int .i64 z0, .int .i64 z1, .int .i64 z2, .int .i64 z3] 32⟩] false 2 rfl rfl (by kernel_rfl) rfl ((mf1 mf0)) ?aF ?nw HS21.out ?hs ?_
          rotate_left 2
          case aF => intro s; simp only [putE, EvT.val, Act.put, setIfInBounds_toArray, set_cons_zero, set_cons_succ]; rfl
          case nw => intro s; simp only [thA, bsA, List.nil_append, List.cons_append, List.append_nil, if_true, if_false, Nat.reduceLT, set_cons_zero, set_cons_succ]; rfl
          case hs => exact ⟨ld rfl 2 (fun s => rfl) (fun s w h => by have h0 := h 0 _ rfl; have h1 := h 1 _ rfl; have h2 := h 2 _ rfl; have h3 := h 3 _ rfl; clear h; go_simp; try rfl), sb rfl 0 5 0 (fun s => [.int .i64 z0, .int .i64 z1, .int .i64 z2, .int .i64 z3]) rfl rfl (fun s w h hf => by have h0 := h 0 _ rfl; have f0 := hf 0; have h1 := h 1 _ rfl; have f1 := hf 1; have h2 := h 2 _ rfl; have f2 := hf 2; have h3 := h 3 _ rfl; have f3 := hf 3; clear h hf; go_simp; try rfl), trivial⟩
          intro s22 w22 h; have HS22 := Aside0.mk h; clear h HS21
          refine tlE ?_
          refine inB ?_
          refine thN ?_
          refine regL (aF := ?_) (nw := ?_) [evP 0 35 [] (fun s => .int .i64 i), evP 1 36 [] (fun s => .int .i64 (i + 1))] [2] [] false 3 rfl rfl (by kernel_rfl) rfl (mf0) ?aF ?nw HS22.out ?hs ?_
          rotate_left 2
          case aF => intro s; simp only [putE, EvT.val, Act.put, setIfInBounds_toArray, set_cons_zero, set_cons_succ]; rfl
          case nw => intro s; simp only [thA, bsA, List.nil_append, List.cons_append, List.append_nil, if_true, if_false, Nat.reduceLT, set_cons_zero, set_cons_succ]; rfl
          case hs => exact ⟨pu rfl, pa .add (r := i + 1) (.inl ⟨rfl, (i64_ok (n := i + 1) (by omega) (by omega))⟩) rfl, trivial⟩
          intro s23 w23 h; have HS23 := Aside0.mk h; clear h HS22
          refine tlP (v := .int .i64 (i + 1)) 13 rfl ?_
          simp only [Act.put, setIfInBounds_toArray, set_cons_zero, set_cons_succ]
          refine tlE ?_
          refine thN ?_
          refine hK_ _ _ (Handed.intro (gk - 1) (by omega) (hJ_ _ _ _ ?_))
          (repeat apply Exists.intro)
          refine ⟨?_, rfl⟩
          exact ⟨i + 1, (mv + 1), M2, z0, z1, z2, z3, _, _, _, _, rfl, rfl, ⟨by omega⟩, ⟨by have h_ := HGG.out; rw [HD.out, growGo_ok HA.out] at h_; rw [if_neg hz] at h_; exact h_⟩, ⟨⟨appendP_ok HWM.out.1 HA.out, appendP_memB HWM.out.2 HWM.out.1 HA.out⟩⟩, ⟨(HS23.out.sub (.cons_cons _ (.cons _ (.cons _ (.cons _ (.cons_cons _ (.cons_cons _ (.cons_cons _ (.cons_cons _ .slnil)))))))))⟩⟩
    · have T1 : Aside0 ((decide (i < (l2_0.length : Int))) = false) := ⟨by first | exact decide_eq_false (by omega) | simp <;> omega⟩
      refine wp_seq ?_
      refine reg0 (aF := ?_) [evP 0 31 [] (fun s => .int .i64 i), evP 1 32 [] (fun s => .slice A2_0 l2_0.length c2_0), evP 2 33 [] (fun s => .int .i64 (l2_0.length : Int)), evP 3 34 [] (fun s => .bool false)] [] false 4 rfl rfl (by kernel_rfl) rfl (fun _ => rfl) ?aF HSR.out ?hs ?_
      rotate_left 1
      case aF => intro s; simp only [putE, EvT.val, Act.put, setIfInBounds_toArray, set_cons_zero, set_cons_succ]; rfl
      case hs => exact ⟨pu rfl, pu rfl, pu rfl (hr := fun s w => by go_simp; try rfl), pb (q := .lss) T1.out rfl, trivial⟩
      intro s24 w24 h; have HS24 := Aside0.mk h; clear h HSR
      refine tl0 ?_
      refine wp_cond_false rfl ?_
      refine wp_exit ?_
      repeat (first | refine exT ?_ | refine exO (by decide) ?_)
      refine exB ?_
      refine thN ?_
      refine reg (aF := ?_) (nw := ?_) [evL 0 61 [] (fun s => .agg #[.slice A_ M.length c_]), evR 1 62 2 (fun s => .agg #[.int .i64 x0, .int .i64 x1, .int .i64 x2, .int .i64 x3]), evP 2 63 [] (fun s => .int .i64 mv), evS 3, evS 4] [5, 6] [⟨3, 3, [], fun s => boxT g6 #[.slice A_ M.length c_] 31⟩, ⟨4, 4, [], fun s => boxT g7 #[.int .i64 x0, .int .i64 x1, .int .i64 x2, .int .i64 x3] 32⟩] true 7 rfl rfl (by kernel_rfl) rfl ((mf1 (mf1 mf0))) ?aF ?nw HS24.out ?hs ?_
      rotate_left 2
      case aF => intro s; simp only [putE, EvT.val, Act.put, setIfInBounds_toArray, set_cons_zero, set_cons_succ]; rfl
      case nw => intro s; simp only [thA, bsA, List.nil_append, List.cons_append, List.append_nil, if_true, if_false, Nat.reduceLT, set_cons_zero, set_cons_succ]; rfl
      case hs => exact ⟨ld rfl 1 (fun s => rfl) (fun s w h => by have h0 := h 0 _ rfl; clear h; go_simp; try rfl), lr rfl 2 rfl (fun s w h => by have h0 := h 0 _ rfl; have h1 := h 1 _ rfl; have h2 := h 2 _ rfl; have h3 := h 3 _ rfl; clear h; go_simp; try rfl), pu rfl, sb rfl 0 3 0 (fun s => [.slice A_ M.length c_]) rfl rfl (fun s w h hf => by have h0 := h 0 _ rfl; have f0 := hf 0; clear h hf; go_simp; try rfl), sb rfl 1 4 0 (fun s => [.int .i64 x0, .int .i64 x1, .int .i64 x2, .int .i64 x3]) rfl rfl (fun s w h hf => by have h0 := h 0 _ rfl; have f0 := hf 0; have h1 := h 1 _ rfl; have f1 := hf 1; have h2 := h 2 _ rfl; have f2 := hf 2; have h3 := h 3 _ rfl; have f3 := hf 3; clear h hf; go_simp; try rfl), trivial⟩
      intro s25 w25 h; have HS25 := Aside0.mk h; clear h HS24
      refine tlP (v := .int .i64 mv) 8 rfl ?_
      simp only [Act.put, setIfInBounds_toArray, set_cons_zero, set_cons_succ]
      refine tlP (v := .bool true) 9 rfl ?_
      simp only [Act.put, setIfInBounds_toArray, set_cons_zero, set_cons_succ]
      refine tl0 ?_
      refine wp_ret ?_
      try simp only [Exit.inBlock, Exit.then]
      refine bodyPost_ret (results_list (rs := [.cell 6 31, .cell 7 32, .tmp 8, .tmp 9]) rfl (by simp) (.cell g6 31 #[.slice A_ M.length c_] (0, 0) _ rfl (show bx g6 #[.slice A_ M.length c_] 31 _ from HS25.out.get 3 rfl) Try.underlying31 rfl (by kernel_rfl) (.cell g7 32 #[.int .i64 x0, .int .i64 x1, .int .i64 x2, .int .i64 x3] (0, 0) _ rfl (show bx g7 #[.int .i64 x0, .int .i64 x1, .int .i64 x2, .int .i64 x3] 32 _ from HS25.out.get 4 rfl) Try.underlying32 rfl (by kernel_rfl) (.tmp (.tmp .nil))))) rfl ?_
      have e_ := HGG.out; rw [List.drop_eq_nil_of_le (by omega)] at e_; cases e_; exact ⟨_, by first | rfl | simp, Kd.S_mono (HS25.out.get 0 rfl) (fun _ _ => trivial), HS25.out.hb⟩
end Go.Proofs.Ytaieobidkmihkaa.P


/- GrowWindow: the program's and the reference's. -/
namespace Go.Proofs.Ytaieobidkmihkaa.P
open Go.RowKit Go.Proofs.YtaieobidkmihkaaW.PrintWords Go.Proofs.YtaieobidkmihkaaW.PrintMore
set_option linter.unusedVariables false
set_option linter.unusedSimpArgs false
def growB (m : List (List Int)) (a s n c : Int) (l : List (List Int)) : List (List Int) × Int × Int × Int × Int × Int × Bool := if (memB m && winB m a s n c && decide (l.length ≤ 40)) = true then growGo m a s n c 0 l else ([], 0, 0, 0, 0, 0, false)
theorem growGo_memB : ∀ (l : List (List Int)) (M : List (List Int)) (x0 x1 x2 x3 mv : Int), memB M = true → WinOk M x0 x1 x2 x3 → okM (growGo M x0 x1 x2 x3 mv l).1
  | [], M, x0, x1, x2, x3, mv, hm, hw => memB_ok hm
  | y :: r, M, x0, x1, x2, x3, mv, hm, hw => by
    obtain ⟨M2, z0, z1, z2, z3, b, hP⟩ : ∃ M2 z0 z1 z2 z3 b, appendP M x0 x1 x2 x3 y = (M2, z0, z1, z2, z3, b) := ⟨_, _, _, _, _, _, rfl⟩
    cases b
    · rw [growGo_no hP]
      exact okM_nil
    · rw [growGo_ok hP]
      exact growGo_memB r M2 z0 z1 z2 z3 _ (appendP_memB hm hw hP) (appendP_ok hw hP)
theorem growB_ok (m : List (List Int)) (a s n c : Int) (l : List (List Int)) : okM (growB m a s n c l).1 := by
  unfold growB
  split
  · rename_i h
    simp only [Bool.and_eq_true] at h
    exact growGo_memB l m a s n c 0 h.1.1 (WinOk.of h.1.1 h.1.2)
  · exact okM_nil
theorem areOn_oneG (m : List (List Int)) (a s n c : Int) : impl_areOn.f m [(⟨a, s, n, c⟩ : SimplWindow)] = some (memB m && winB m a s n c) := by simp [impl_areOn.f, winW]
def impl_GrowWindow.f (m : List (List Int)) (a s n c : Int) (l : List (List Int)) : Option (List (List Int) × Int × Int × Int × Int × Int × Bool) := if (okMb m && okMb l) = true then some (growB m a s n c l) else none
theorem impl_GrowWindow.calls (A0_0 : Option Addr) (c0_0 : Nat) (l0_0 : List (List Int)) (a1_0 a1_1 a1_2 a1_3 : Int) (A2 : Option Addr) (c2 : Nat) (l2 : List (List Int)) (r1 : List (List Int)) (r2 r3 r4 r5 r6 : Int) (r7 : Bool) (w : World) (hr0_0 : Kd.C (Kd.slice 5 (Kd.int .u8)) w A0_0 l0_0.length l0_0) (hc0_0 : l0_0.length ≤ c0_0) (hr2 : Kd.C (Kd.slice 5 (Kd.int .u8)) w A2 l2.length l2) (hc2 : l2.length ≤ c2) (h : impl_GrowWindow.f l0_0 a1_0 a1_1 a1_2 a1_3 l2 = some (r1, r2, r3, r4, r5, r6, r7)) :
    Calls Try.prog 58 #[.agg #[.slice A0_0 l0_0.length c0_0], .agg #[.int .i64 a1_0, .int .i64 a1_1, .int .i64 a1_2, .int .i64 a1_3], .slice A2 l2.length c2] w fun e w' => ∃ v0_ : Value, e = .returned (.tuple #[.agg #[v0_], .agg #[.int .i64 r2, .int .i64 r3, .int .i64 r4, .int .i64 r5], .int .i64 r6, .bool r7]) ∧ Kd.S (Kd.slice 5 (Kd.int .u8)) 29 w' w.heap.size (fun _ => True) v0_ r1 ∧ Below w.heap.size w w' := by
  unfold impl_GrowWindow.f at h
  split at h
  next hh =>
    have hh2 : okMb l0_0 = true ∧ okMb l2 = true := (Bool.and_eq_true _ _).mp hh
    have hm := okM_of hh2.1
    have hl := okM_of hh2.2
    have h := Option.some.inj h
    unfold growB at h
    have hi := areOn_oneG l0_0 a1_0 a1_1 a1_2 a1_3
    cases h1 : (memB l0_0 && winB l0_0 a1_0 a1_1 a1_2 a1_3) with
    | false =>
      rw [h1, Bool.false_and, if_neg (by decide)] at h
      cases h
      exact impl_GrowWindow_w0 A0_0 c0_0 l0_0 a1_0 a1_1 a1_2 a1_3 A2 c2 l2 w hr0_0 hc0_0 hr2 hc2 (hi.trans (congrArg some h1))
    | true =>
      have h1' := h1
      simp only [Bool.and_eq_true] at h1'
      by_cases h40 : l2.length ≤ 40
      · rw [h1, decide_eq_true h40, if_pos (by decide)] at h
        exact impl_GrowWindow_w2 A0_0 c0_0 l0_0 a1_0 a1_1 a1_2 a1_3 A2 c2 l2 w hr0_0 hc0_0 hr2 hc2 (hi.trans (congrArg some h1)) (own_f _ hm).rounds (decide_eq_false (by omega)) r1 r2 r3 r4 r5 r6 r7 h (WinOk.of h1'.1 h1'.2) hl.2.1 h40 (memB_len h1'.1)
      · rw [decide_eq_false h40, Bool.and_false, if_neg (by decide)] at h
        cases h
        exact impl_GrowWindow_w1 A0_0 c0_0 l0_0 a1_0 a1_1 a1_2 a1_3 A2 c2 l2 w hr0_0 hc0_0 hr2 hc2 (hi.trans (congrArg some h1)) (decide_eq_true (by omega))
  next => cases h
theorem implGrowWindow_f (m : List (List Int)) (a s n c : Int) (l : List (List Int)) (h : okM m) (hl : okM l) : impl_GrowWindow.f m a s n c l = some (growB m a s n c l) := if_pos (by rw [okMb_of h, okMb_of hl]; rfl)
def spec_GrowWindow.f (m : List (List Int)) (a s n c : Int) (l : List (List Int)) : Option (List (List Int) × Int × Int × Int × Int × Int × Bool) := if (okMb m && okMb l && decide (-9223372036854775808 ≤ s ∧ s ≤ 9223372036854775807)) = true then some (growB m a s n c l) else none
theorem spec_GrowWindow.calls (A0_0 : Option Addr) (c0_0 : Nat) (l0_0 : List (List Int)) (a1_0 a1_1 a1_2 a1_3 : Int) (A2 : Option Addr) (c2 : Nat) (l2 : List (List Int)) (r1 : List (List Int)) (r2 r3 r4 r5 r6 : Int) (r7 : Bool) (w : World) (hr0_0 : Kd.C (Kd.slice 5 (Kd.int .u8)) w A0_0 l0_0.length l0_0) (hc0_0 : l0_0.length ≤ c0_0) (hr2 : Kd.C (Kd.slice 5 (Kd.int .u8)) w A2 l2.length l2) (hc2 : l2.length ≤ c2) (h : spec_GrowWindow.f l0_0 a1_0 a1_1 a1_2 a1_3 l2 = some (r1, r2, r3, r4, r5, r6, r7)) :
    Calls Try.prog 56 #[.agg #[.slice A0_0 l0_0.length c0_0], .agg #[.int .i64 a1_0, .int .i64 a1_1, .int .i64 a1_2, .int .i64 a1_3], .slice A2 l2.length c2] w fun e w' => ∃ v0_ : Value, e = .returned (.tuple #[.agg #[v0_], .agg #[.int .i64 r2, .int .i64 r3, .int .i64 r4, .int .i64 r5], .int .i64 r6, .bool r7]) ∧ Kd.S (Kd.slice 5 (Kd.int .u8)) 29 w' w.heap.size (fun _ => True) v0_ r1 ∧ Below w.heap.size w w' := by
  unfold spec_GrowWindow.f at h
  split at h
  next hh =>
    have hh2 : (okMb l0_0 && okMb l2) = true ∧ _ = true := (Bool.and_eq_true _ _).mp hh
    have hh3 : okMb l0_0 = true ∧ okMb l2 = true := (Bool.and_eq_true _ _).mp hh2.1
    have hm := okM_of hh3.1
    have hl := okM_of hh3.2
    have hs := of_decide_eq_true hh2.2
    have h := Option.some.inj h
    unfold growB at h
    have hi := (l2Window_f l0_0 a1_0 a1_1 a1_2 a1_3 hm.len hm.rows hs).rounds
    cases h1 : (memB l0_0 && winB l0_0 a1_0 a1_1 a1_2 a1_3) with
    | false =>
      rw [h1, Bool.false_and, if_neg (by decide)] at h
      rw [h1] at hi
      cases h
      exact spec_GrowWindow_w0 A0_0 c0_0 l0_0 a1_0 a1_1 a1_2 a1_3 A2 c2 l2 w hr0_0 hc0_0 hr2 hc2 hi
    | true =>
      have h1' := h1
      simp only [Bool.and_eq_true] at h1'
      rw [h1] at hi
      by_cases h40 : l2.length ≤ 40
      · rw [h1, decide_eq_true h40, if_pos (by decide)] at h
        exact spec_GrowWindow_w2 A0_0 c0_0 l0_0 a1_0 a1_1 a1_2 a1_3 A2 c2 l2 l0_0 w hr0_0 hc0_0 hr2 hc2 hi (l2Own_f _ hm).rounds (decide_eq_false (by omega)) r1 r2 r3 r4 r5 r6 r7 h ⟨WinOk.of h1'.1 h1'.2, h1'.1⟩ hl.2.1 h40
      · rw [decide_eq_false h40, Bool.and_false, if_neg (by decide)] at h
        cases h
        exact spec_GrowWindow_w1 A0_0 c0_0 l0_0 a1_0 a1_1 a1_2 a1_3 A2 c2 l2 w hr0_0 hc0_0 hr2 hc2 hi (decide_eq_true (by omega))
  next => cases h
theorem specGrowWindow_f (m : List (List Int)) (a s n c : Int) (l : List (List Int)) (h : okM m) (hl : okM l) (hs : -9223372036854775808 ≤ s ∧ s ≤ 9223372036854775807) : spec_GrowWindow.f m a s n c l = some (growB m a s n c l) := if_pos (by rw [okMb_of h, okMb_of hl, decide_eq_true hs]; rfl)
end Go.Proofs.Ytaieobidkmihkaa.P


/- From a row's reading of an argument to what the print's kinds say of it. -/
namespace Go.Proofs.YtaieobidkmihkaaW.Mine
open Go.RowKit Go.Proofs.YtaieobidkmihkaaW.PrintWords
set_option linter.unusedVariables false
def ReadsK {α : Type} (P : Program) (T : TypeId) (d : Kd α) (ok : α → Prop) : Prop :=
  ∀ {H : Type} {enc : TypeId × Value → H} {w : World} {base : Nat} {spare : Nat → Bool} {held : Bool} {fuel : Nat} {cs : List Value} {x : DataW H × List MemPlace}, DataW.trod enc P w base spare held fuel T cs = some x → ∃ a : α, d.K w a cs ∧ ok a
theorem ReadsK.int {P : Program} {T : TypeId} {k : IntKind} (hT : P.underlying T = some (.int k)) : ReadsK P T (Kd.int k) (fun n => (Lit.int k n).wf = true) := by
  intro H enc w base spare held fuel cs x h
  obtain ⟨n, rfl, _, hw⟩ := DataW.trod_int hT h
  exact ⟨n, rfl, hw⟩
theorem ReadsK.bool {P : Program} {T : TypeId} (hT : P.underlying T = some .bool) : ReadsK P T Kd.bool (fun _ => True) := by
  intro H enc w base spare held fuel cs x h
  obtain ⟨b, rfl, _⟩ := DataW.trod_bool hT h
  exact ⟨b, rfl, trivial⟩
theorem ReadsK.string {P : Program} {T : TypeId} (hT : P.underlying T = some .string) : ReadsK P T Kd.string (fun s => s.size ≤ maxLen) := by
  intro H enc w base spare held fuel cs x h
  obtain ⟨s, rfl, _, hw⟩ := DataW.trod_string hT h
  exact ⟨s, rfl, hw⟩
theorem exists_list {α : Type} {n : Nat} {p : Nat → α → Prop} (h : ∀ i, i < n → ∃ a, p i a) : ∃ l : List α, l.length = n ∧ ∀ i a, l[i]? = some a → p i a := by
  induction n with
  | zero => exact ⟨[], rfl, fun i a hi => by simp at hi⟩
  | succ n ih =>
    obtain ⟨l, hl, hp⟩ := ih (fun i hi => h i (by omega))
    obtain ⟨a, ha⟩ := h n (by omega)
    refine ⟨l ++ [a], by simp [hl], fun i b hb => ?_⟩
    rcases Nat.lt_or_ge i n with hi | hi
    · rw [List.getElem?_append_left (by omega)] at hb
      exact hp i b hb
    · have hi2 : i = n := by
        have := (List.getElem?_eq_some_iff.1 hb).1
        simp [hl] at this
        omega
      subst hi2
      rw [← hl, List.getElem?_append_right (Nat.le_refl _)] at hb
      simp at hb
      rw [← hb]
      exact ha
theorem ReadsK.slice {α : Type} {P : Program} {T e : TypeId} {d : Kd α} {ok : α → Prop} (hT : P.underlying T = some (.slice e)) (hc : P.cellsOf e = d.sz) (h1 : ReadsK P e d ok) : ReadsK P T (Kd.slice e d) (fun xs => ∀ x ∈ xs, ok x) := by
  intro H enc w base spare held fuel cs x h
  rcases Deep.open_slice hT h with ⟨rfl, _⟩ | ⟨a, len, cap, m, n, D, Pl, rfl, hb, hl, hm, hmm, _, hx⟩
  · exact ⟨[], ⟨none, 0, rfl, Nat.le_refl _, rfl, by simp, fun h => absurd h (by simp)⟩, fun x hx => by simp at hx⟩
  · have hlm : len ≤ m := by rw [hmm]; split <;> omega
    obtain ⟨l, hll, hp⟩ := exists_list (n := len) (p := fun i y => ∃ cs', w.cells? base (a.add (i * P.cellsOf e)) (P.cellsOf e) = some cs' ∧ d.K w y cs' ∧ ok y) (fun i hi => by
      obtain ⟨cs', h2, h3⟩ := hx i (by omega)
      obtain ⟨y, hy, hok⟩ := h1 h3
      exact ⟨y, cs', h2, hy, hok⟩)
    refine ⟨l, ⟨some a, cap, by rw [hll], by omega, rfl, ?_, fun hn => ⟨a, rfl, fun j p hj => ?_⟩⟩, fun y hy => ?_⟩
    · rw [hll]; unfold maxLen at hm; omega
    · obtain ⟨cs', h2, h3, _⟩ := hp j p hj
      obtain ⟨_, hlen, hcell⟩ := World.cells?_some h2
      refine ⟨cs', by rw [hlen, hc], h3, fun i u hu => ?_⟩
      have hi : i < P.cellsOf e := by
        have := (List.getElem?_eq_some_iff.1 hu).1
        omega
      have h4 := hcell i hi
      rw [hu] at h4
      rw [← h4, ← hc]
      congr 1
      unfold Addr.add
      by_cases z1 : j * P.cellsOf e = 0 <;> by_cases z2 : i = 0 <;> simp [z1, z2, Nat.add_assoc]
    · obtain ⟨j, hj, rfl⟩ := List.mem_iff_getElem.1 hy
      obtain ⟨_, _, _, hok⟩ := hp j _ (List.getElem?_eq_getElem hj)
      exact hok
def ReadsF {α : Type} (P : Program) (o : Nat) (fs : List Field) (d : Kd α) (ok : α → Prop) : Prop :=
  ∀ {H : Type} {enc : TypeId × Value → H} {w : World} {base : Nat} {spare : Nat → Bool} {held : Bool} {n : Nat} {cs : List Value}, (∀ f ∈ fs, ∃ x, DataW.trod enc P w base spare held n f.type ((cs.drop f.offset).take (P.cellsOf f.type)) = some x) → ∃ a : α, d.K w a ((cs.drop o).take d.sz) ∧ ok a
theorem ReadsF.last {α : Type} {P : Program} {o : Nat} {f : Field} {d : Kd α} {ok : α → Prop} (ho : f.offset = o) (h : ReadsK P f.type d ok) (hc : P.cellsOf f.type = d.sz) : ReadsF P o [f] d ok := by
  intro H enc w base spare held n cs hh
  obtain ⟨x, hx⟩ := hh f (by simp)
  rw [ho, hc] at hx
  exact h hx
theorem ReadsF.cons {α β : Type} {P : Program} {o : Nat} {f : Field} {fs : List Field} {d : Kd α} {d2 : Kd β} {ok : α → Prop} {ok2 : β → Prop} (ho : f.offset = o) (h : ReadsK P f.type d ok) (hc : P.cellsOf f.type = d.sz) (h2 : ReadsF P (o + d.sz) fs d2 ok2) : ReadsF P o (f :: fs) (Kd.pair d d2) (fun p => ok p.1 ∧ ok2 p.2) := by
  intro H enc w base spare held n cs hh
  obtain ⟨x, hx⟩ := hh f (by simp)
  rw [ho, hc] at hx
  obtain ⟨a, ha, hok⟩ := h hx
  obtain ⟨b, hb, hok2⟩ := h2 (fun g hg => hh g (by simp [hg]))
  refine ⟨(a, b), ⟨_, _, ?_, ha, hb⟩, hok, hok2⟩
  show (cs.drop o).take (d.sz + d2.sz) = _
  rw [List.take_add, List.drop_drop]
theorem ReadsK.struct {α : Type} {P : Program} {T : TypeId} {fs : Array Field} {d : Kd α} {ok : α → Prop} (hT : P.underlying T = some (.struct fs)) (hc : P.cellsOf T = d.sz) (h : ReadsF P 0 fs.toList d ok) : ReadsK P T d ok := by
  intro H enc w base spare held fuel cs x hx
  obtain ⟨xs, n, _, _, hl, hlen, hf⟩ := DataW.trod_struct hT hx
  obtain ⟨a, ha, hok⟩ := h (n := n) (cs := cs) (enc := enc) (w := w) (base := base) (spare := spare) (held := held) (fun f hf2 => by
    obtain ⟨i, hi, rfl⟩ := List.mem_iff_getElem.1 hf2
    have h1 := hf i fs[i] (by simp at hi; exact Array.getElem?_eq_getElem hi)
    have hi2 : i < xs.length := by simp at hi; omega
    rw [List.getElem?_eq_getElem hi2] at h1
    exact ⟨_, by simpa using h1⟩)
  refine ⟨a, ?_, hok⟩
  rwa [List.drop_zero, ← hc, ← hl, List.take_length] at ha
theorem ReadsK.iso {α β : Type} {P : Program} {T : TypeId} {d : Kd α} {ok : α → Prop} (h : ReadsK P T d ok) (f : β → α) (g : α → β) (hfg : ∀ a, f (g a) = a) : ReadsK P T (Kd.iso d f) (fun b => ok (f b)) := by
  intro H enc w base spare held fuel cs x hx
  obtain ⟨a, ha, hok⟩ := h hx
  refine ⟨g a, ?_, by show ok (f (g a)); rw [hfg]; exact hok⟩
  show d.K w (f (g a)) cs
  rw [hfg]
  exact ha
theorem agg_of {cs : Array Value} {L : List Value} (h : cs.toList = L) : cs = L.toArray := by rw [← h]
end Go.Proofs.YtaieobidkmihkaaW.Mine


namespace Go.Proofs.Ytaieobidkmihkaa.P
open Go.RowKit Go.Proofs.YtaieobidkmihkaaW.PrintWords Go.Proofs.YtaieobidkmihkaaW.PrintLast Go.Proofs.YtaieobidkmihkaaW.PrintMore
attribute [local go_sem] max2_int min2_int max_two min_two max_three min_three max_four min_four   -- for this text's walks alone
set_option linter.unusedVariables false
set_option linter.unusedSimpArgs false

def laws_toWindow.f (a0_0 : Int) (a0_1 : Int) (a0_2 : Int) (a0_3 : Int) : Option (Int × Int × Int × Int) := some (a0_0, a0_1, a0_2, a0_3)
set_option maxHeartbeats 8000000 in
set_option maxRecDepth 100000 in
theorem laws_toWindow.calls (a0_0 : Int) (a0_1 : Int) (a0_2 : Int) (a0_3 : Int) (r1 : Int) (r2 : Int) (r3 : Int) (r4 : Int) (w : World) (h : laws_toWindow.f a0_0 a0_1 a0_2 a0_3 = some (r1, r2, r3, r4)) :
    Calls Try.prog 51 #[.agg #[.int .i64 a0_0, .int .i64 a0_1, .int .i64 a0_2, .int .i64 a0_3]] w fun e w' => e = .returned (.agg #[.int .i64 r1, .int .i64 r2, .int .i64 r3, .int .i64 r4]) ∧ Below w.heap.size w w' := by
  have hu26 := Try.underlying26
  have hu32 := Try.underlying32
  have HB := Aside0.mk (Below.refl w.heap.size w)
  have H : (some (a0_0, a0_1, a0_2, a0_3)) = some (r1, r2, r3, r4) := h
  clear h
  simp only [Option.some.injEq, Prod.mk.injEq] at H
  obtain ⟨rfl, rfl, rfl, rfl⟩ := H
  go_enter Try.func51, Try.ntmps51
  go_wp2_with (first | ((with_reducible refine gate_dst (N := 1) rfl ?_); refine box_event ?hg (N := 1) ?hd (cs := #[.int .i64 a0_0, .int .i64 a0_1, .int .i64 a0_2, .int .i64 a0_3]) (t := 26) ?hr ?_; (case hd => rfl); (case hg => rfl); (case hr => first | (go_simp; done) | (go_simp; rfl)); intro gb208 hg w2 hbox hb; have n0_ := Aside0.mk (below_step (by repeat (first | (with_reducible first | exact HB.out | apply below_alloc | apply pw_below_drewN | apply below_drew1) | exact HB.out)) hb); have n1_ := Aside0.mk (hbox); have n2_ := Aside0.mk ((by rw [hg]; exact (below_size (by repeat (first | (with_reducible first | exact HB.out | apply below_alloc | apply pw_below_drewN | apply below_drew1) | exact HB.out))) : w.heap.size ≤ gb208)); have n3_ := Aside0.mk ((by rw [hg]; exact (below_size (by repeat (first | (with_reducible first | exact HB.out | apply below_alloc | apply pw_below_drewN | apply below_drew1) | exact HB.out))) : w.heap.size ≤ gb208)); clear HB; have HB := n0_; have BK208 := n1_; have GW208 := n2_; have GE208 := n3_; clear n0_ n1_ n2_ n3_; clear hb hbox hg) | ((with_reducible refine gate_dst (N := 2) rfl ?_); refine box_event ?hg (N := 2) ?hd (cs := #[.int .i64 0, .int .i64 0, .int .i64 0, .int .i64 0]) (t := 32) ?hr ?_; (case hd => rfl); (case hg => rfl); (case hr => first | (go_simp; done) | (go_simp; rfl)); intro gb209 hg w3 hbox hb; have n0_ := Aside0.mk (blk_below (g := gb208) (o := .cells #[.int .i64 a0_0, .int .i64 a0_1, .int .i64 a0_2, .int .i64 a0_3] 26 (0, 0)) (by (with_reducible repeat (first | refine blk_drewN ?_ _ | refine blk_drew ?_ | refine blk_alloc ?_ _)); exact BK208.out) hb); have n1_ := Aside0.mk (below_step (by repeat (first | (with_reducible first | exact HB.out | apply below_alloc | apply pw_below_drewN | apply below_drew1 | refine below_set ?_ GE208.out) | exact HB.out)) hb); have n2_ := Aside0.mk (hbox); have n3_ := Aside0.mk ((by rw [hg]; exact (below_size (by repeat (first | (with_reducible first | exact HB.out | apply below_alloc | apply pw_below_drewN | apply below_drew1 | refine below_set ?_ GE208.out) | exact HB.out))) : w.heap.size ≤ gb209)); have n4_ := Aside0.mk ((by rw [hg]; exact (below_size (by repeat (first | (with_reducible first | exact HB.out | apply below_alloc | apply pw_below_drewN | apply below_drew1 | refine below_set ?_ GE208.out) | exact HB.out))) : w.heap.size ≤ gb209)); have n5_ := Aside0.mk ((by rw [hg]; exact Nat.ne_of_lt (blk_lt (g := gb208) (o := .cells #[.int .i64 a0_0, .int .i64 a0_1, .int .i64 a0_2, .int .i64 a0_3] 26 (0, 0)) (by (with_reducible repeat (first | refine blk_drewN ?_ _ | refine blk_drew ?_ | refine blk_alloc ?_ _)); exact BK208.out)) : gb208 ≠ gb209)); have n6_ := Aside0.mk ((by rw [hg]; exact Nat.ne_of_gt (blk_lt (g := gb208) (o := .cells #[.int .i64 a0_0, .int .i64 a0_1, .int .i64 a0_2, .int .i64 a0_3] 26 (0, 0)) (by (with_reducible repeat (first | refine blk_drewN ?_ _ | refine blk_drew ?_ | refine blk_alloc ?_ _)); exact BK208.out)) : gb209 ≠ gb208)); clear BK208; clear HB; have BK208 := n0_; have HB := n1_; have BK209 := n2_; have GW209 := n3_; have GE209 := n4_; have NB208_209 := n5_; have NB209_208 := n6_; clear n0_ n1_ n2_ n3_ n4_ n5_ n6_; clear hb hbox hg) | ((with_reducible refine gate_dst (N := 3) rfl ?_); refine box_event ?hg (N := 3) ?hd (cs := #[.int .i64 0, .int .i64 0, .int .i64 0, .int .i64 0]) (t := 32) ?hr ?_; (case hd => rfl); (case hg => rfl); (case hr => first | (go_simp; done) | (go_simp; rfl)); intro gb210 hg w4 hbox hb; have n0_ := Aside0.mk (blk_below (g := gb208) (o := .cells #[.int .i64 a0_0, .int .i64 a0_1, .int .i64 a0_2, .int .i64 a0_3] 26 (0, 0)) (by (with_reducible repeat (first | refine blk_drewN ?_ _ | refine blk_drew ?_ | refine blk_alloc ?_ _)); exact BK208.out) hb); have n1_ := Aside0.mk (blk_below (g := gb209) (o := .cells #[.int .i64 0, .int .i64 0, .int .i64 0, .int .i64 0] 32 (0, 0)) (by (with_reducible repeat (first | refine blk_drewN ?_ _ | refine blk_drew ?_ | refine blk_alloc ?_ _)); exact BK209.out) hb); have n2_ := Aside0.mk (below_step (by repeat (first | (with_reducible first | exact HB.out | apply below_alloc | apply pw_below_drewN | apply below_drew1 | refine below_set ?_ GE208.out | refine below_set ?_ GE209.out) | exact HB.out)) hb); have n3_ := Aside0.mk (hbox); have n4_ := Aside0.mk ((by rw [hg]; exact (below_size (by repeat (first | (with_reducible first | exact HB.out | apply below_alloc | apply pw_below_drewN | apply below_drew1 | refine below_set ?_ GE208.out | refine below_set ?_ GE209.out) | exact HB.out))) : w.heap.size ≤ gb210)); have n5_ := Aside0.mk ((by rw [hg]; exact (below_size (by repeat (first | (with_reducible first | exact HB.out | apply below_alloc | apply pw_below_drewN | apply below_drew1 | refine below_set ?_ GE208.out | refine below_set ?_ GE209.out) | exact HB.out))) : w.heap.size ≤ gb210)); have n6_ := Aside0.mk ((by rw [hg]; exact Nat.ne_of_lt (blk_lt (g := gb208) (o := .cells #[.int .i64 a0_0, .int .i64 a0_1, .int .i64 a0_2, .int .i64 a0_3] 26 (0, 0)) (by (with_reducible repeat (first | refine blk_drewN ?_ _ | refine blk_drew ?_ | refine blk_alloc ?_ _)); exact BK208.out)) : gb208 ≠ gb210)); have n7_ := Aside0.mk ((by rw [hg]; exact Nat.ne_of_gt (blk_lt (g := gb208) (o := .cells #[.int .i64 a0_0, .int .i64 a0_1, .int .i64 a0_2, .int .i64 a0_3] 26 (0, 0)) (by (with_reducible repeat (first | refine blk_drewN ?_ _ | refine blk_drew ?_ | refine blk_alloc ?_ _)); exact BK208.out)) : gb210 ≠ gb208)); have n8_ := Aside0.mk ((by rw [hg]; exact Nat.ne_of_lt (blk_lt (g := gb209) (o := .cells #[.int .i64 0, .int .i64 0, .int .i64 0, .int .i64 0] 32 (0, 0)) (by (with_reducible repeat (first | refine blk_drewN ?_ _ | refine blk_drew ?_ | refine blk_alloc ?_ _)); exact BK209.out)) : gb209 ≠ gb210)); have n9_ := Aside0.mk ((by rw [hg]; exact Nat.ne_of_gt (blk_lt (g := gb209) (o := .cells #[.int .i64 0, .int .i64 0, .int .i64 0, .int .i64 0] 32 (0, 0)) (by (with_reducible repeat (first | refine blk_drewN ?_ _ | refine blk_drew ?_ | refine blk_alloc ?_ _)); exact BK209.out)) : gb210 ≠ gb209)); clear BK208; clear BK209; clear HB; have BK208 := n0_; have BK209 := n1_; have HB := n2_; have BK210 := n3_; have GW210 := n4_; have GE210 := n5_; have NB208_210 := n6_; have NB210_208 := n7_; have NB209_210 := n8_; have NB210_209 := n9_; clear n0_ n1_ n2_ n3_ n4_ n5_ n6_ n7_ n8_ n9_; clear hb hbox hg; have hnb5 := NB208_209.out; have hnc5 := NB209_208.out; have hnb6 := NB208_210.out; have hnc6 := NB210_208.out; have hcz7_0 : w4.cell? ⟨gb208, 0, none⟩ = some (.int .i64 a0_0) := (blk_cell BK208.out 0).trans rfl; have hcz7_1 : w4.cell? ⟨gb208, 1, none⟩ = some (.int .i64 a0_1) := (blk_cell BK208.out 1).trans rfl; have hcz7_2 : w4.cell? ⟨gb208, 2, none⟩ = some (.int .i64 a0_2) := (blk_cell BK208.out 2).trans rfl; have hcz7_3 : w4.cell? ⟨gb208, 3, none⟩ = some (.int .i64 a0_3) := (blk_cell BK208.out 3).trans rfl; have hfz7_0 := blk_frozen BK208.out 0; have hfz7_1 := blk_frozen BK208.out 1; have hfz7_2 := blk_frozen BK208.out 2; have hfz7_3 := blk_frozen BK208.out 3; have hnb8 := NB210_209.out; have hnc8 := NB209_210.out; have hcz9_0 : w4.cell? ⟨gb210, 0, none⟩ = some (.int .i64 0) := (blk_cell BK210.out 0).trans rfl; have hcz9_1 : w4.cell? ⟨gb210, 1, none⟩ = some (.int .i64 0) := (blk_cell BK210.out 1).trans rfl; have hcz9_2 : w4.cell? ⟨gb210, 2, none⟩ = some (.int .i64 0) := (blk_cell BK210.out 2).trans rfl; have hcz9_3 : w4.cell? ⟨gb210, 3, none⟩ = some (.int .i64 0) := (blk_cell BK210.out 3).trans rfl; have hfz9_0 := blk_frozen BK210.out 0; have hfz9_1 := blk_frozen BK210.out 1; have hfz9_2 := blk_frozen BK210.out 2; have hfz9_3 := blk_frozen BK210.out 3; have hcz10_0 : w4.cell? ⟨gb209, 0, none⟩ = some (.int .i64 0) := (blk_cell BK209.out 0).trans rfl; have hcz10_1 : w4.cell? ⟨gb209, 1, none⟩ = some (.int .i64 0) := (blk_cell BK209.out 1).trans rfl; have hcz10_2 : w4.cell? ⟨gb209, 2, none⟩ = some (.int .i64 0) := (blk_cell BK209.out 2).trans rfl; have hcz10_3 : w4.cell? ⟨gb209, 3, none⟩ = some (.int .i64 0) := (blk_cell BK209.out 3).trans rfl; have hfz10_0 := blk_frozen BK209.out 0; have hfz10_1 := blk_frozen BK209.out 1; have hfz10_2 := blk_frozen BK209.out 2; have hfz10_3 := blk_frozen BK209.out 3))
  refine bodyPost_ret (results_cell_row rfl _ _ gb209 32 #[.int .i64 a0_0, .int .i64 a0_1, .int .i64 a0_2, .int .i64 a0_3] (0, 0) _ rfl (by (with_reducible repeat (first | refine blk_drewN ?_ _ | refine blk_drew ?_ | refine blk_alloc ?_ _)); refine blk_put (cs := #[.int .i64 a0_0, .int .i64 a0_1, .int .i64 a0_2, .int .i64 0]) ?_ 3 _ rfl; (with_reducible repeat (first | refine blk_drewN ?_ _ | refine blk_drew ?_ | refine blk_alloc ?_ _)); refine blk_put (cs := #[.int .i64 a0_0, .int .i64 a0_1, .int .i64 0, .int .i64 0]) ?_ 2 _ rfl; (with_reducible repeat (first | refine blk_drewN ?_ _ | refine blk_drew ?_ | refine blk_alloc ?_ _)); refine blk_put (cs := #[.int .i64 a0_0, .int .i64 0, .int .i64 0, .int .i64 0]) ?_ 1 _ rfl; (with_reducible repeat (first | refine blk_drewN ?_ _ | refine blk_drew ?_ | refine blk_alloc ?_ _)); refine blk_put (cs := #[.int .i64 0, .int .i64 0, .int .i64 0, .int .i64 0]) ?_ 0 _ rfl; (with_reducible repeat (first | refine blk_drewN ?_ _ | refine blk_drew ?_ | refine blk_alloc ?_ _)); refine blk_far ?_ NB209_210.out _; (with_reducible repeat (first | refine blk_drewN ?_ _ | refine blk_drew ?_ | refine blk_alloc ?_ _)); refine blk_far ?_ NB209_210.out _; (with_reducible repeat (first | refine blk_drewN ?_ _ | refine blk_drew ?_ | refine blk_alloc ?_ _)); refine blk_far ?_ NB209_210.out _; (with_reducible repeat (first | refine blk_drewN ?_ _ | refine blk_drew ?_ | refine blk_alloc ?_ _)); refine blk_far ?_ NB209_210.out _; (with_reducible repeat (first | refine blk_drewN ?_ _ | refine blk_drew ?_ | refine blk_alloc ?_ _)); exact BK209.out) Try.underlying32 rfl (by kernel_rfl)) rfl ?_
  exact ⟨by first | rfl | (simp [errW_none, errW_some] <;> rfl) | (simp [*, errW_none, errW_some] <;> rfl), by repeat (first | (with_reducible first | exact HB.out | apply below_alloc | apply pw_below_drewN | apply below_drew1 | refine below_set ?_ GE208.out | refine below_set ?_ GE209.out | refine below_set ?_ GE210.out) | exact HB.out)⟩

end Go.Proofs.Ytaieobidkmihkaa.P


-- written by wip/gen_law.py
namespace Go.Proofs.Ytaieobidkmihkaa.P
open Go.RowKit Go.Proofs.YtaieobidkmihkaaW.PrintWords Go.Proofs.YtaieobidkmihkaaW.PrintLast Go.Proofs.YtaieobidkmihkaaW.PrintMore Go.Proofs.YtaieobidkmihkaaW.Mine
open List (setIfInBounds_toArray set_cons_zero set_cons_succ)
attribute [local go_sem] max2_int min2_int max_two min_two max_three min_three max_four min_four
set_option linter.unusedVariables false
set_option linter.unusedSimpArgs false
set_option maxHeartbeats 8000000 in
set_option maxRecDepth 100000 in
theorem FnExactGrowWindow_run0 (A0_0 : Option Addr) (c0_0 : Nat) (l0_0 : List (List Int)) (a1_0 : Int) (a1_1 : Int) (a1_2 : Int) (a1_3 : Int) (A2_0 : Option Addr) (c2_0 : Nat) (l2_0 : List (List Int)) (r1_0 : Int) (w : World) (hr0_0 : Kd.C (Kd.slice 5 (Kd.int .u8)) w A0_0 l0_0.length l0_0) (hc0_0 : l0_0.length ≤ c0_0) (hr2_0 : Kd.C (Kd.slice 5 (Kd.int .u8)) w A2_0 l2_0.length l2_0) (hc2_0 : l2_0.length ≤ c2_0) (H1 : ∃ k, laws_szMemory.f k l0_0 1048576 = some r1_0) (P_ : r1_0 < 0) :
    Calls Try.prog 12 #[.agg #[.slice A0_0 l0_0.length c0_0], .agg #[.int .i64 a1_0, .int .i64 a1_1, .int .i64 a1_2, .int .i64 a1_3], .slice A2_0 l2_0.length c2_0] w fun e w' => e = .returned (.bool true) ∧ Below w.heap.size w w' := by
  have HR0_0 := Aside0.mk hr0_0; have HC0_0 := Aside0.mk hc0_0; clear hr0_0 hc0_0
  have HR2_0 := Aside0.mk hr2_0; have HC2_0 := Aside0.mk hc2_0; clear hr2_0 hc2_0
  obtain ⟨k, H1_⟩ := H1; have H1 := Aside0.mk H1_; clear H1_
  have Pb_ : decide (r1_0 < 0) = true := decide_eq_true P_; clear P_
  have HS0 : Aside0 (Stk w [] w) := ⟨Stk.nil w⟩
  go_enter Try.func12, Try.ntmps12
  refine reg (aF := ?_) (nw := ?_) [evB 0 3 [] 24 (fun s => #[.slice A0_0 l0_0.length c0_0]) 9999 [] (fun s => #[.slice A0_0 l0_0.length c0_0]), evB 1 4 [] 26 (fun s => #[.int .i64 a1_0, .int .i64 a1_1, .int .i64 a1_2, .int .i64 a1_3]) 9999 [] (fun s => #[.int .i64 a1_0, .int .i64 a1_1, .int .i64 a1_2, .int .i64 a1_3]), evP 2 6 [] (fun s => .bool false)] [] [] false 3 rfl rfl (by kernel_rfl) rfl (mf0) ?aF ?nw HS0.out ?hs ?_
  rotate_left 2
  case aF => intro s; simp only [putE, EvT.val, Act.put, setIfInBounds_toArray, set_cons_zero, set_cons_succ]; rfl
  case nw => intro s; simp only [thA, bsA, List.nil_append, List.cons_append, List.append_nil, if_true, if_false, Nat.reduceLT, set_cons_zero, set_cons_succ]; rfl
  case hs => exact ⟨bv rfl (fun s w => by go_simp; try rfl), bv rfl (fun s w => by go_simp; try rfl), pu rfl, trivial⟩
  intro s1 w1 h; have HS1 := Aside0.mk h; clear h HS0
  refine tl0 ?_
  refine reg0 (aF := ?_) [] [0] false 1 rfl rfl (by kernel_rfl) rfl (fun _ => rfl) ?aF HS1.out ?hs ?_
  rotate_left 1
  case aF => intro s; simp only [putE, EvT.val, Act.put, setIfInBounds_toArray, set_cons_zero, set_cons_succ]; rfl
  case hs => exact trivial
  intro s2 w2 h; have HS2 := Aside0.mk h; clear h HS1
  refine tlP (v := .int .i64 1048576) 7 rfl ?_
  refine tl0 ?_
  refine reg0 (aF := ?_) [evL 0 25 [] (fun s => .agg #[.slice A0_0 l0_0.length c0_0]), evP 1 26 [] (fun s => .int .i64 1048576), evC 2 (some 27) [] (fun s x => .int .i64 r1_0) (fun s x => [])] [3] false 4 rfl rfl (by kernel_rfl) rfl (fun _ => rfl) ?aF HS2.out ?hs ?_
  rotate_left 1
  case aF => intro s; simp only [putE, EvT.val, Act.put, setIfInBounds_toArray, set_cons_zero, set_cons_succ]; rfl
  case hs => exact ⟨ld rfl 0 (fun s => rfl) (fun s w h => by have h0 := h 0 _ rfl; clear h; go_simp; try rfl), pu rfl, cl rfl (fun s => #[.agg #[.slice A0_0 l0_0.length c0_0], .int .i64 1048576]) Try.func15 (fun s w1 h => (laws_szMemory.calls _ _ _ _ _ _ _ (Kd.C_below HR0_0.out h.hb) HC0_0.out H1.out).mono (by rintro e w2 ⟨rfl, hb⟩; exact fin0 hb)), trivial⟩
  intro s3 w3 h; have HS3 := Aside0.mk h; clear h HS2
  refine tlP (v := .int .i64 r1_0) 7 rfl ?_
  refine tl0 ?_
  refine wp_seq ?_
  refine reg0 (aF := ?_) [evP 0 28 [] (fun s => .int .i64 r1_0), evP 1 29 [] (fun s => .bool true)] [] false 2 rfl rfl (by kernel_rfl) rfl (fun _ => rfl) ?aF HS3.out ?hs ?_
  rotate_left 1
  case aF => intro s; simp only [putE, EvT.val, Act.put, setIfInBounds_toArray, set_cons_zero, set_cons_succ]; rfl
  case hs => exact ⟨pu rfl, pb (q := .lss) Pb_ rfl, trivial⟩
  intro s4 w4 h; have HS4 := Aside0.mk h; clear h HS3
  refine tl0 ?_
  refine wp_cond_true rfl ?_
  refine reg0 (aF := ?_) [] [0] false 1 rfl rfl (by kernel_rfl) rfl (fun _ => rfl) ?aF HS4.out ?hs ?_
  rotate_left 1
  case aF => intro s; simp only [putE, EvT.val, Act.put, setIfInBounds_toArray, set_cons_zero, set_cons_succ]; rfl
  case hs => exact trivial
  intro s5 w5 h; have HS5 := Aside0.mk h; clear h HS4
  refine tlP (v := .bool true) 6 rfl ?_
  refine tl0 ?_
  refine wp_ret ?_
  go_ret
  exact ⟨by first | rfl | simp, HS5.out.hb⟩
set_option maxHeartbeats 8000000 in
set_option maxRecDepth 100000 in
theorem FnExactGrowWindow_run1 (A0_0 : Option Addr) (c0_0 : Nat) (l0_0 : List (List Int)) (a1_0 : Int) (a1_1 : Int) (a1_2 : Int) (a1_3 : Int) (A2_0 : Option Addr) (c2_0 : Nat) (l2_0 : List (List Int)) (r1_0 : Int) (r2_0 : Int) (w : World) (hr0_0 : Kd.C (Kd.slice 5 (Kd.int .u8)) w A0_0 l0_0.length l0_0) (hc0_0 : l0_0.length ≤ c0_0) (hr2_0 : Kd.C (Kd.slice 5 (Kd.int .u8)) w A2_0 l2_0.length l2_0) (hc2_0 : l2_0.length ≤ c2_0) (H1 : ∃ k, laws_szMemory.f k l0_0 1048576 = some r1_0) (H2 : ∃ k, laws_szByteSS.f k l2_0 r1_0 = some r2_0) (N_r1_0 : ¬ r1_0 < 0) (P_ : r2_0 < 0) :
    Calls Try.prog 12 #[.agg #[.slice A0_0 l0_0.length c0_0], .agg #[.int .i64 a1_0, .int .i64 a1_1, .int .i64 a1_2, .int .i64 a1_3], .slice A2_0 l2_0.length c2_0] w fun e w' => e = .returned (.bool true) ∧ Below w.heap.size w w' := by
  have HR0_0 := Aside0.mk hr0_0; have HC0_0 := Aside0.mk hc0_0; clear hr0_0 hc0_0
  have HR2_0 := Aside0.mk hr2_0; have HC2_0 := Aside0.mk hc2_0; clear hr2_0 hc2_0
  obtain ⟨k, H1_⟩ := H1; have H1 := Aside0.mk H1_; clear H1_
  obtain ⟨k, H2_⟩ := H2; have H2 := Aside0.mk H2_; clear H2_
  have Nb_r1_0 : decide (r1_0 < 0) = false := decide_eq_false N_r1_0; clear N_r1_0
  have Pb_ : decide (r2_0 < 0) = true := decide_eq_true P_; clear P_
  have HS0 : Aside0 (Stk w [] w) := ⟨Stk.nil w⟩
  go_enter Try.func12, Try.ntmps12
  refine reg (aF := ?_) (nw := ?_) [evB 0 3 [] 24 (fun s => #[.slice A0_0 l0_0.length c0_0]) 9999 [] (fun s => #[.slice A0_0 l0_0.length c0_0]), evB 1 4 [] 26 (fun s => #[.int .i64 a1_0, .int .i64 a1_1, .int .i64 a1_2, .int .i64 a1_3]) 9999 [] (fun s => #[.int .i64 a1_0, .int .i64 a1_1, .int .i64 a1_2, .int .i64 a1_3]), evP 2 6 [] (fun s => .bool false)] [] [] false 3 rfl rfl (by kernel_rfl) rfl (mf0) ?aF ?nw HS0.out ?hs ?_
  rotate_left 2
  case aF => intro s; simp only [putE, EvT.val, Act.put, setIfInBounds_toArray, set_cons_zero, set_cons_succ]; rfl
  case nw => intro s; simp only [thA, bsA, List.nil_append, List.cons_append, List.append_nil, if_true, if_false, Nat.reduceLT, set_cons_zero, set_cons_succ]; rfl
  case hs => exact ⟨bv rfl (fun s w => by go_simp; try rfl), bv rfl (fun s w => by go_simp; try rfl), pu rfl, trivial⟩
  intro s1 w1 h; have HS1 := Aside0.mk h; clear h HS0
  refine tl0 ?_
  refine reg0 (aF := ?_) [] [0] false 1 rfl rfl (by kernel_rfl) rfl (fun _ => rfl) ?aF HS1.out ?hs ?_
  rotate_left 1
  case aF => intro s; simp only [putE, EvT.val, Act.put, setIfInBounds_toArray, set_cons_zero, set_cons_succ]; rfl
  case hs => exact trivial
  intro s2 w2 h; have HS2 := Aside0.mk h; clear h HS1
  refine tlP (v := .int .i64 1048576) 7 rfl ?_
  refine tl0 ?_
  refine reg0 (aF := ?_) [evL 0 25 [] (fun s => .agg #[.slice A0_0 l0_0.length c0_0]), evP 1 26 [] (fun s => .int .i64 1048576), evC 2 (some 27) [] (fun s x => .int .i64 r1_0) (fun s x => [])] [3] false 4 rfl rfl (by kernel_rfl) rfl (fun _ => rfl) ?aF HS2.out ?hs ?_
  rotate_left 1
  case aF => intro s; simp only [putE, EvT.val, Act.put, setIfInBounds_toArray, set_cons_zero, set_cons_succ]; rfl
  case hs => exact ⟨ld rfl 0 (fun s => rfl) (fun s w h => by have h0 := h 0 _ rfl; clear h; go_simp; try rfl), pu rfl, cl rfl (fun s => #[.agg #[.slice A0_0 l0_0.length c0_0], .int .i64 1048576]) Try.func15 (fun s w1 h => (laws_szMemory.calls _ _ _ _ _ _ _ (Kd.C_below HR0_0.out h.hb) HC0_0.out H1.out).mono (by rintro e w2 ⟨rfl, hb⟩; exact fin0 hb)), trivial⟩
  intro s3 w3 h; have HS3 := Aside0.mk h; clear h HS2
  refine tlP (v := .int .i64 r1_0) 7 rfl ?_
  refine tl0 ?_
  refine wp_seq ?_
  refine reg0 (aF := ?_) [evP 0 28 [] (fun s => .int .i64 r1_0), evP 1 29 [] (fun s => .bool false)] [] false 2 rfl rfl (by kernel_rfl) rfl (fun _ => rfl) ?aF HS3.out ?hs ?_
  rotate_left 1
  case aF => intro s; simp only [putE, EvT.val, Act.put, setIfInBounds_toArray, set_cons_zero, set_cons_succ]; rfl
  case hs => exact ⟨pu rfl, pb (q := .lss) Nb_r1_0 rfl, trivial⟩
  intro s4 w4 h; have HS4 := Aside0.mk h; clear h HS3
  refine tl0 ?_
  refine wp_cond_false rfl ?_
  refine wp_skip ?_
  refine thN ?_
  refine reg0 (aF := ?_) [evP 0 30 [] (fun s => .slice A2_0 l2_0.length c2_0), evP 1 31 [] (fun s => .int .i64 r1_0), evC 2 (some 32) [] (fun s x => .int .i64 r2_0) (fun s x => [])] [3] false 4 rfl rfl (by kernel_rfl) rfl (fun _ => rfl) ?aF HS4.out ?hs ?_
  rotate_left 1
  case aF => intro s; simp only [putE, EvT.val, Act.put, setIfInBounds_toArray, set_cons_zero, set_cons_succ]; rfl
  case hs => exact ⟨pu rfl, pu rfl, cl rfl (fun s => #[.slice A2_0 l2_0.length c2_0, .int .i64 r1_0]) Try.func55 (fun s w1 h => (laws_szByteSS.calls _ _ _ _ _ _ _ (Kd.C_below HR2_0.out h.hb) HC2_0.out H2.out).mono (by rintro e w2 ⟨rfl, hd⟩; exact fin0 hd.below)), trivial⟩
  intro s5 w5 h; have HS5 := Aside0.mk h; clear h HS4
  refine tlP (v := .int .i64 r2_0) 7 rfl ?_
  refine tl0 ?_
  refine wp_seq ?_
  refine reg0 (aF := ?_) [evP 0 33 [] (fun s => .int .i64 r2_0), evP 1 34 [] (fun s => .bool true)] [] false 2 rfl rfl (by kernel_rfl) rfl (fun _ => rfl) ?aF HS5.out ?hs ?_
  rotate_left 1
  case aF => intro s; simp only [putE, EvT.val, Act.put, setIfInBounds_toArray, set_cons_zero, set_cons_succ]; rfl
  case hs => exact ⟨pu rfl, pb (q := .lss) Pb_ rfl, trivial⟩
  intro s6 w6 h; have HS6 := Aside0.mk h; clear h HS5
  refine tl0 ?_
  refine wp_cond_true rfl ?_
  refine reg0 (aF := ?_) [] [0] false 1 rfl rfl (by kernel_rfl) rfl (fun _ => rfl) ?aF HS6.out ?hs ?_
  rotate_left 1
  case aF => intro s; simp only [putE, EvT.val, Act.put, setIfInBounds_toArray, set_cons_zero, set_cons_succ]; rfl
  case hs => exact trivial
  intro s7 w7 h; have HS7 := Aside0.mk h; clear h HS6
  refine tlP (v := .bool true) 6 rfl ?_
  refine tl0 ?_
  refine wp_ret ?_
  go_ret
  exact ⟨by first | rfl | simp, HS7.out.hb⟩
set_option maxHeartbeats 8000000 in
set_option maxRecDepth 100000 in
theorem FnExactGrowWindow_run (A0_0 : Option Addr) (c0_0 : Nat) (l0_0 : List (List Int)) (a1_0 : Int) (a1_1 : Int) (a1_2 : Int) (a1_3 : Int) (A2_0 : Option Addr) (c2_0 : Nat) (l2_0 : List (List Int)) (r1_0 : Int) (r2_0 : Int) (r3_0 : List (List Int)) (r4_0 : Int) (r4_1 : Int) (r4_2 : Int) (r4_3 : Int) (r5_0 : List (List Int)) (r6_0 : List (List Int)) (r6_1 : Int) (r6_2 : Int) (r6_3 : Int) (r6_4 : Int) (r6_5 : Int) (r6_6 : Bool) (r12_0 : Int) (r12_1 : List (List Int)) (r13_0 : Int) (r13_1 : List (List Int)) (r14_0 : Int) (r14_1 : List (List Int)) (w : World) (hr0_0 : Kd.C (Kd.slice 5 (Kd.int .u8)) w A0_0 l0_0.length l0_0) (hc0_0 : l0_0.length ≤ c0_0) (hr2_0 : Kd.C (Kd.slice 5 (Kd.int .u8)) w A2_0 l2_0.length l2_0) (hc2_0 : l2_0.length ≤ c2_0) (H1 : ∃ k, laws_szMemory.f k l0_0 1048576 = some r1_0) (H2 : ∃ k, laws_szByteSS.f k l2_0 r1_0 = some r2_0) (H3 : laws_toMemory.f l0_0 = some r3_0) (H4 : laws_toWindow.f a1_0 a1_1 a1_2 a1_3 = some (r4_0, r4_1, r4_2, r4_3)) (H5 : laws_toByteSS.f l2_0 = some r5_0) (H6 : spec_GrowWindow.f r3_0 r4_0 r4_1 r4_2 r4_3 r5_0 = some (r6_0, r6_1, r6_2, r6_3, r6_4, r6_5, r6_6)) (H7 : impl_GrowWindow.f r3_0 r4_0 r4_1 r4_2 r4_3 r5_0 = some (r6_0, r6_1, r6_2, r6_3, r6_4, r6_5, r6_6)) (H8 : ∃ k, laws_eqMemory.f k r6_0 r6_0 = some true) (H9 : laws_eqWindow.f r6_1 r6_2 r6_3 r6_4 r6_1 r6_2 r6_3 r6_4 = some true) (H10 : ∃ k, laws_eqMemory.f k r3_0 r3_0 = some true) (H11 : ∃ k, laws_eqByteSS.f k r5_0 r5_0 = some true) (H12 : laws_markMemory.f r3_0 1 = some (r12_0, r12_1)) (H13 : laws_markByteSS.f r5_0 r12_0 = some (r13_0, r13_1)) (H14 : laws_markMemory.f r6_0 1 = some (r14_0, r14_1)) (H15 : ∃ k, laws_heldMemory.f k r14_1 1 = some r14_0) (N_r13_0 : ¬ r13_0 < 0) (N_r14_0 : ¬ r14_0 < 0) (N_r1_0 : ¬ r1_0 < 0) (N_r2_0 : ¬ r2_0 < 0) :
    Calls Try.prog 12 #[.agg #[.slice A0_0 l0_0.length c0_0], .agg #[.int .i64 a1_0, .int .i64 a1_1, .int .i64 a1_2, .int .i64 a1_3], .slice A2_0 l2_0.length c2_0] w fun e w' => e = .returned (.bool true) ∧ Below w.heap.size w w' := by
  have HR0_0 := Aside0.mk hr0_0; have HC0_0 := Aside0.mk hc0_0; clear hr0_0 hc0_0
  have HR2_0 := Aside0.mk hr2_0; have HC2_0 := Aside0.mk hc2_0; clear hr2_0 hc2_0
  obtain ⟨k, H1_⟩ := H1; have H1 := Aside0.mk H1_; clear H1_
  obtain ⟨k, H2_⟩ := H2; have H2 := Aside0.mk H2_; clear H2_
  have H3_ := Aside0.mk H3; clear H3; have H3 := H3_; clear H3_
  have H4_ := Aside0.mk H4; clear H4; have H4 := H4_; clear H4_
  have H5_ := Aside0.mk H5; clear H5; have H5 := H5_; clear H5_
  have H6_ := Aside0.mk H6; clear H6; have H6 := H6_; clear H6_
  have H7_ := Aside0.mk H7; clear H7; have H7 := H7_; clear H7_
  obtain ⟨k, H8_⟩ := H8; have H8 := Aside0.mk H8_; clear H8_
  have H9_ := Aside0.mk H9; clear H9; have H9 := H9_; clear H9_
  obtain ⟨k, H10_⟩ := H10; have H10 := Aside0.mk H10_; clear H10_
  obtain ⟨k, H11_⟩ := H11; have H11 := Aside0.mk H11_; clear H11_
  have H12_ := Aside0.mk H12; clear H12; have H12 := H12_; clear H12_
  have H13_ := Aside0.mk H13; clear H13; have H13 := H13_; clear H13_
  have H14_ := Aside0.mk H14; clear H14; have H14 := H14_; clear H14_
  obtain ⟨k, H15_⟩ := H15; have H15 := Aside0.mk H15_; clear H15_
  have Nb_r13_0 : decide (r13_0 < 0) = false := decide_eq_false N_r13_0; clear N_r13_0
  have Nb_r14_0 : decide (r14_0 < 0) = false := decide_eq_false N_r14_0; clear N_r14_0
  have Nb_r1_0 : decide (r1_0 < 0) = false := decide_eq_false N_r1_0; clear N_r1_0
  have Nb_r2_0 : decide (r2_0 < 0) = false := decide_eq_false N_r2_0; clear N_r2_0
  have HS0 : Aside0 (Stk w [] w) := ⟨Stk.nil w⟩
  go_enter Try.func12, Try.ntmps12
  refine reg (aF := ?_) (nw := ?_) [evB 0 3 [] 24 (fun s => #[.slice A0_0 l0_0.length c0_0]) 9999 [] (fun s => #[.slice A0_0 l0_0.length c0_0]), evB 1 4 [] 26 (fun s => #[.int .i64 a1_0, .int .i64 a1_1, .int .i64 a1_2, .int .i64 a1_3]) 9999 [] (fun s => #[.int .i64 a1_0, .int .i64 a1_1, .int .i64 a1_2, .int .i64 a1_3]), evP 2 6 [] (fun s => .bool false)] [] [] false 3 rfl rfl (by kernel_rfl) rfl (mf0) ?aF ?nw HS0.out ?hs ?_
  rotate_left 2
  case aF => intro s; simp only [putE, EvT.val, Act.put, setIfInBounds_toArray, set_cons_zero, set_cons_succ]; rfl
  case nw => intro s; simp only [thA, bsA, List.nil_append, List.cons_append, List.append_nil, if_true, if_false, Nat.reduceLT, set_cons_zero, set_cons_succ]; rfl
  case hs => exact ⟨bv rfl (fun s w => by go_simp; try rfl), bv rfl (fun s w => by go_simp; try rfl), pu rfl, trivial⟩
  intro s1 w1 h; have HS1 := Aside0.mk h; clear h HS0
  refine tl0 ?_
  refine reg0 (aF := ?_) [] [0] false 1 rfl rfl (by kernel_rfl) rfl (fun _ => rfl) ?aF HS1.out ?hs ?_
  rotate_left 1
  case aF => intro s; simp only [putE, EvT.val, Act.put, setIfInBounds_toArray, set_cons_zero, set_cons_succ]; rfl
  case hs => exact trivial
  intro s2 w2 h; have HS2 := Aside0.mk h; clear h HS1
  refine tlP (v := .int .i64 1048576) 7 rfl ?_
  refine tl0 ?_
  refine reg0 (aF := ?_) [evL 0 25 [] (fun s => .agg #[.slice A0_0 l0_0.length c0_0]), evP 1 26 [] (fun s => .int .i64 1048576), evC 2 (some 27) [] (fun s x => .int .i64 r1_0) (fun s x => [])] [3] false 4 rfl rfl (by kernel_rfl) rfl (fun _ => rfl) ?aF HS2.out ?hs ?_
  rotate_left 1
  case aF => intro s; simp only [putE, EvT.val, Act.put, setIfInBounds_toArray, set_cons_zero, set_cons_succ]; rfl
  case hs => exact ⟨ld rfl 0 (fun s => rfl) (fun s w h => by have h0 := h 0 _ rfl; clear h; go_simp; try rfl), pu rfl, cl rfl (fun s => #[.agg #[.slice A0_0 l0_0.length c0_0], .int .i64 1048576]) Try.func15 (fun s w1 h => (laws_szMemory.calls _ _ _ _ _ _ _ (Kd.C_below HR0_0.out h.hb) HC0_0.out H1.out).mono (by rintro e w2 ⟨rfl, hb⟩; exact fin0 hb)), trivial⟩
  intro s3 w3 h; have HS3 := Aside0.mk h; clear h HS2
  refine tlP (v := .int .i64 r1_0) 7 rfl ?_
  refine tl0 ?_
  refine wp_seq ?_
  refine reg0 (aF := ?_) [evP 0 28 [] (fun s => .int .i64 r1_0), evP 1 29 [] (fun s => .bool false)] [] false 2 rfl rfl (by kernel_rfl) rfl (fun _ => rfl) ?aF HS3.out ?hs ?_
  rotate_left 1
  case aF => intro s; simp only [putE, EvT.val, Act.put, setIfInBounds_toArray, set_cons_zero, set_cons_succ]; rfl
  case hs => exact ⟨pu rfl, pb (q := .lss) Nb_r1_0 rfl, trivial⟩
  intro s4 w4 h; have HS4 := Aside0.mk h; clear h HS3
  refine tl0 ?_
  refine wp_cond_false rfl ?_
  refine wp_skip ?_
  refine thN ?_
  refine reg0 (aF := ?_) [evP 0 30 [] (fun s => .slice A2_0 l2_0.length c2_0), evP 1 31 [] (fun s => .int .i64 r1_0), evC 2 (some 32) [] (fun s x => .int .i64 r2_0) (fun s x => [])] [3] false 4 rfl rfl (by kernel_rfl) rfl (fun _ => rfl) ?aF HS4.out ?hs ?_
  rotate_left 1
  case aF => intro s; simp only [putE, EvT.val, Act.put, setIfInBounds_toArray, set_cons_zero, set_cons_succ]; rfl
  case hs => exact ⟨pu rfl, pu rfl, cl rfl (fun s => #[.slice A2_0 l2_0.length c2_0, .int .i64 r1_0]) Try.func55 (fun s w1 h => (laws_szByteSS.calls _ _ _ _ _ _ _ (Kd.C_below HR2_0.out h.hb) HC2_0.out H2.out).mono (by rintro e w2 ⟨rfl, hd⟩; exact fin0 hd.below)), trivial⟩
  intro s5 w5 h; have HS5 := Aside0.mk h; clear h HS4
  refine tlP (v := .int .i64 r2_0) 7 rfl ?_
  refine tl0 ?_
  refine wp_seq ?_
  refine reg0 (aF := ?_) [evP 0 33 [] (fun s => .int .i64 r2_0), evP 1 34 [] (fun s => .bool false)] [] false 2 rfl rfl (by kernel_rfl) rfl (fun _ => rfl) ?aF HS5.out ?hs ?_
  rotate_left 1
  case aF => intro s; simp only [putE, EvT.val, Act.put, setIfInBounds_toArray, set_cons_zero, set_cons_succ]; rfl
  case hs => exact ⟨pu rfl, pb (q := .lss) Nb_r2_0 rfl, trivial⟩
  intro s6 w6 h; have HS6 := Aside0.mk h; clear h HS5
  refine tl0 ?_
  refine wp_cond_false rfl ?_
  refine wp_skip ?_
  refine thN ?_
  refine reg (aF := ?_) (nw := ?_) [evL 0 36 [] (fun s => .agg #[.slice A0_0 l0_0.length c0_0]), evC 1 (some 37) [] (fun s x => .agg #[.slice x.A r3_0.length x.c]) (fun s x => [rowS (Kd.slice 5 (Kd.int .u8)) 29 w x.lo x.hi x.A x.c r3_0]), evL 2 38 [] (fun s => .agg #[.int .i64 a1_0, .int .i64 a1_1, .int .i64 a1_2, .int .i64 a1_3]), evC 3 (some 39) [] (fun s x => .agg #[.int .i64 r4_0, .int .i64 r4_1, .int .i64 r4_2, .int .i64 r4_3]) (fun s x => []), evP 4 40 [] (fun s => .slice A2_0 l2_0.length c2_0), evC 5 (some 41) [] (fun s x => .slice x.A r5_0.length x.c) (fun s x => [rowS (Kd.slice 5 (Kd.int .u8)) 29 w x.lo x.hi x.A x.c r5_0]), evC 6 (some 42) [1, 5] (fun s x => .tuple #[.agg #[.slice x.A r6_0.length x.c], .agg #[.int .i64 r6_1, .int .i64 r6_2, .int .i64 r6_3, .int .i64 r6_4], .int .i64 r6_5, .bool r6_6]) (fun s x => [rowS (Kd.slice 5 (Kd.int .u8)) 29 w x.lo x.hi x.A x.c r6_0]), evP 7 35 [6] (fun s => .tuple #[.agg #[.slice (s 6).A r6_0.length (s 6).c], .agg #[.int .i64 r6_1, .int .i64 r6_2, .int .i64 r6_3, .int .i64 r6_4], .int .i64 r6_5, .bool r6_6]), evP 8 43 [6] (fun s => .agg #[.slice (s 6).A r6_0.length (s 6).c]), evP 9 44 [] (fun s => .agg #[.int .i64 r6_1, .int .i64 r6_2, .int .i64 r6_3, .int .i64 r6_4]), evP 10 45 [] (fun s => .int .i64 r6_5), evP 11 46 [] (fun s => .bool r6_6), evB 12 8 [] 31 (fun s => #[.slice none 0 0]) 14 [6] (fun s => #[.slice (s 6).A r6_0.length (s 6).c]), evB 13 9 [] 32 (fun s => #[.int .i64 0, .int .i64 0, .int .i64 0, .int .i64 0]) 15 [] (fun s => #[.int .i64 r6_1, .int .i64 r6_2, .int .i64 r6_3, .int .i64 r6_4]), evS 14, evS 15, evP 16 10 [] (fun s => .int .i64 r6_5)] [17] [] true 18 rfl rfl (by kernel_rfl) rfl (mf0) ?aF ?nw HS6.out ?hs ?_
  rotate_left 2
  case aF => intro s; simp only [putE, EvT.val, Act.put, setIfInBounds_toArray, set_cons_zero, set_cons_succ]; rfl
  case nw => intro s; simp only [thA, bsA, List.nil_append, List.cons_append, List.append_nil, if_true, if_false, Nat.reduceLT, set_cons_zero, set_cons_succ]; rfl
  case hs => exact ⟨ld rfl 0 (fun s => rfl) (fun s w h => by have h0 := h 0 _ rfl; clear h; go_simp; try rfl), cl rfl (fun s => #[.agg #[.slice A0_0 l0_0.length c0_0]]) Try.func17 (fun s w1 h => (laws_toMemory.calls _ _ _ _ _ (Kd.C_below HR0_0.out h.hb) HC0_0.out H3.out).mono (by rintro e w2 ⟨v0_, rfl, ho0, hb⟩; obtain ⟨x, rfl, hx⟩ := fin_S ho0 hb h.hb.size; exact ⟨x, rfl, hx⟩)), ld rfl 1 (fun s => rfl) (fun s w h => by have h0 := h 0 _ rfl; have h1 := h 1 _ rfl; have h2 := h 2 _ rfl; have h3 := h 3 _ rfl; clear h; go_simp; try rfl), cl rfl (fun s => #[.agg #[.int .i64 a1_0, .int .i64 a1_1, .int .i64 a1_2, .int .i64 a1_3]]) Try.func51 (fun s w1 h => (laws_toWindow.calls _ _ _ _ _ _ _ _ _ H4.out).mono (by rintro e w2 ⟨rfl, hb⟩; exact fin0 hb)), pu rfl, cl rfl (fun s => #[.slice A2_0 l2_0.length c2_0]) Try.func57 (fun s w1 h => (laws_toByteSS.calls _ _ _ _ _ (Kd.C_below HR2_0.out h.hb) HC2_0.out H5.out).mono (by rintro e w2 ⟨v0_, rfl, ho0, hb⟩; obtain ⟨x, rfl, hx⟩ := fin_S ho0 hb h.hb.size; exact ⟨x, rfl, hx⟩)), cl rfl (fun s => #[.agg #[.slice (s 1).A r3_0.length (s 1).c], .agg #[.int .i64 r4_0, .int .i64 r4_1, .int .i64 r4_2, .int .i64 r4_3], .slice (s 5).A r5_0.length (s 5).c]) Try.func56 (fun s w1 h => (spec_GrowWindow.calls _ _ _ _ _ _ _ _ _ _ _ _ _ _ _ _ _ _ (Kd.S_reads' (h.get 0 rfl)).2.2 (Kd.S_reads' (h.get 0 rfl)).2.1 (Kd.S_reads' (h.get 1 rfl)).2.2 (Kd.S_reads' (h.get 1 rfl)).2.1 H6.out).mono (by rintro e w2 ⟨v0_, rfl, ho0, hb⟩; obtain ⟨x, rfl, hx⟩ := fin_S ho0 hb h.hb.size; exact ⟨x, rfl, hx⟩)), pu rfl, pu rfl, pu rfl, pu rfl, pu rfl, bv rfl (fun s w => by go_simp; try rfl), bv rfl (fun s w => by go_simp; try rfl), st rfl 12 0 (fun s => [.slice (s 6).A r6_0.length (s 6).c]) rfl (fun s w h hf => by have h0 := h 0 _ rfl; have f0 := hf 0; clear h hf; go_simp; try rfl), st rfl 13 0 (fun s => [.int .i64 r6_1, .int .i64 r6_2, .int .i64 r6_3, .int .i64 r6_4]) rfl (fun s w h hf => by have h0 := h 0 _ rfl; have f0 := hf 0; have h1 := h 1 _ rfl; have f1 := hf 1; have h2 := h 2 _ rfl; have f2 := hf 2; have h3 := h 3 _ rfl; have f3 := hf 3; clear h hf; go_simp; try rfl), pu rfl, trivial⟩
  intro s7 w7 h; have HS7 := Aside0.mk h; clear h HS6
  refine tlP (v := .bool r6_6) 11 rfl ?_
  refine tl0 ?_
  refine reg (aF := ?_) (nw := ?_) [evL 0 47 [] (fun s => .agg #[.slice A0_0 l0_0.length c0_0]), evC 1 (some 48) [] (fun s x => .agg #[.slice x.A r3_0.length x.c]) (fun s x => [rowS (Kd.slice 5 (Kd.int .u8)) 29 w x.lo x.hi x.A x.c r3_0]), evB 2 12 [] 31 (fun s => #[.slice none 0 0]) 3 [1] (fun s => #[.slice (s 1).A r3_0.length (s 1).c]), evS 3] [] [] false 4 rfl rfl (by kernel_rfl) rfl (mf0) ?aF ?nw HS7.out ?hs ?_
  rotate_left 2
  case aF => intro s; simp only [putE, EvT.val, Act.put, setIfInBounds_toArray, set_cons_zero, set_cons_succ]; rfl
  case nw => intro s; simp only [thA, bsA, List.nil_append, List.cons_append, List.append_nil, if_true, if_false, Nat.reduceLT, set_cons_zero, set_cons_succ]; rfl
  case hs => exact ⟨ld rfl 5 (fun s => rfl) (fun s w h => by have h0 := h 0 _ rfl; clear h; go_simp; try rfl), cl rfl (fun s => #[.agg #[.slice A0_0 l0_0.length c0_0]]) Try.func17 (fun s w1 h => (laws_toMemory.calls _ _ _ _ _ (Kd.C_below HR0_0.out h.hb) HC0_0.out H3.out).mono (by rintro e w2 ⟨v0_, rfl, ho0, hb⟩; obtain ⟨x, rfl, hx⟩ := fin_S ho0 hb h.hb.size; exact ⟨x, rfl, hx⟩)), bv rfl (fun s w => by go_simp; try rfl), st rfl 2 0 (fun s => [.slice (s 1).A r3_0.length (s 1).c]) rfl (fun s w h hf => by have h0 := h 0 _ rfl; have f0 := hf 0; clear h hf; go_simp; try rfl), trivial⟩
  intro s8 w8 h; have HS8 := Aside0.mk h; clear h HS7
  refine tl0 ?_
  refine reg (aF := ?_) (nw := ?_) [evP 0 49 [] (fun s => .slice A2_0 l2_0.length c2_0), evC 1 (some 50) [] (fun s x => .slice x.A r5_0.length x.c) (fun s x => [rowS (Kd.slice 5 (Kd.int .u8)) 29 w x.lo x.hi x.A x.c r5_0])] [2] [] false 3 rfl rfl (by kernel_rfl) rfl (mf0) ?aF ?nw HS8.out ?hs ?_
  rotate_left 2
  case aF => intro s; simp only [putE, EvT.val, Act.put, setIfInBounds_toArray, set_cons_zero, set_cons_succ]; rfl
  case nw => intro s; simp only [thA, bsA, List.nil_append, List.cons_append, List.append_nil, if_true, if_false, Nat.reduceLT, set_cons_zero, set_cons_succ]; rfl
  case hs => exact ⟨pu rfl, cl rfl (fun s => #[.slice A2_0 l2_0.length c2_0]) Try.func57 (fun s w1 h => (laws_toByteSS.calls _ _ _ _ _ (Kd.C_below HR2_0.out h.hb) HC2_0.out H5.out).mono (by rintro e w2 ⟨v0_, rfl, ho0, hb⟩; obtain ⟨x, rfl, hx⟩ := fin_S ho0 hb h.hb.size; exact ⟨x, rfl, hx⟩)), trivial⟩
  intro s9 w9 h; have HS9 := Aside0.mk h; clear h HS8
  refine tlP (v := .slice (s9 1).A r5_0.length (s9 1).c) 13 rfl ?_
  refine tl0 ?_
  refine reg (aF := ?_) (nw := ?_) [evR 0 52 2 (fun s => .agg #[.slice (s8 1).A r3_0.length (s8 1).c]), evL 1 53 [] (fun s => .agg #[.int .i64 a1_0, .int .i64 a1_1, .int .i64 a1_2, .int .i64 a1_3]), evC 2 (some 54) [] (fun s x => .agg #[.int .i64 r4_0, .int .i64 r4_1, .int .i64 r4_2, .int .i64 r4_3]) (fun s x => []), evP 3 55 [] (fun s => .slice (s9 1).A r5_0.length (s9 1).c), evC 4 (some 56) [] (fun s x => .tuple #[.agg #[.slice x.A r6_0.length x.c], .agg #[.int .i64 r6_1, .int .i64 r6_2, .int .i64 r6_3, .int .i64 r6_4], .int .i64 r6_5, .bool r6_6]) (fun s x => [rowS (Kd.slice 5 (Kd.int .u8)) 29 w x.lo x.hi x.A x.c r6_0]), evP 5 51 [4] (fun s => .tuple #[.agg #[.slice (s 4).A r6_0.length (s 4).c], .agg #[.int .i64 r6_1, .int .i64 r6_2, .int .i64 r6_3, .int .i64 r6_4], .int .i64 r6_5, .bool r6_6]), evP 6 57 [4] (fun s => .agg #[.slice (s 4).A r6_0.length (s 4).c]), evP 7 58 [] (fun s => .agg #[.int .i64 r6_1, .int .i64 r6_2, .int .i64 r6_3, .int .i64 r6_4]), evP 8 59 [] (fun s => .int .i64 r6_5), evP 9 60 [] (fun s => .bool r6_6), evB 10 14 [] 31 (fun s => #[.slice none 0 0]) 12 [4] (fun s => #[.slice (s 4).A r6_0.length (s 4).c]), evB 11 15 [] 32 (fun s => #[.int .i64 0, .int .i64 0, .int .i64 0, .int .i64 0]) 13 [] (fun s => #[.int .i64 r6_1, .int .i64 r6_2, .int .i64 r6_3, .int .i64 r6_4]), evS 12, evS 13, evP 14 16 [] (fun s => .int .i64 r6_5)] [15] [] true 16 rfl rfl (by kernel_rfl) rfl (mf0) ?aF ?nw HS9.out ?hs ?_
  rotate_left 2
  case aF => intro s; simp only [putE, EvT.val, Act.put, setIfInBounds_toArray, set_cons_zero, set_cons_succ]; rfl
  case nw => intro s; simp only [thA, bsA, List.nil_append, List.cons_append, List.append_nil, if_true, if_false, Nat.reduceLT, set_cons_zero, set_cons_succ]; rfl
  case hs => exact ⟨lr rfl 2 rfl (fun s w h => by have h0 := h 0 _ rfl; clear h; go_simp; try rfl), ld rfl 9 (fun s => rfl) (fun s w h => by have h0 := h 0 _ rfl; have h1 := h 1 _ rfl; have h2 := h 2 _ rfl; have h3 := h 3 _ rfl; clear h; go_simp; try rfl), cl rfl (fun s => #[.agg #[.int .i64 a1_0, .int .i64 a1_1, .int .i64 a1_2, .int .i64 a1_3]]) Try.func51 (fun s w1 h => (laws_toWindow.calls _ _ _ _ _ _ _ _ _ H4.out).mono (by rintro e w2 ⟨rfl, hb⟩; exact fin0 hb)), pu rfl, cl rfl (fun s => #[.agg #[.slice (s8 1).A r3_0.length (s8 1).c], .agg #[.int .i64 r4_0, .int .i64 r4_1, .int .i64 r4_2, .int .i64 r4_3], .slice (s9 1).A r5_0.length (s9 1).c]) Try.func58 (fun s w1 h => (impl_GrowWindow.calls _ _ _ _ _ _ _ _ _ _ _ _ _ _ _ _ _ _ (Kd.S_reads' (h.get 1 rfl)).2.2 (Kd.S_reads' (h.get 1 rfl)).2.1 (Kd.S_reads' (h.get 0 rfl)).2.2 (Kd.S_reads' (h.get 0 rfl)).2.1 H7.out).mono (by rintro e w2 ⟨v0_, rfl, ho0, hb⟩; obtain ⟨x, rfl, hx⟩ := fin_S ho0 hb h.hb.size; exact ⟨x, rfl, hx⟩)), pu rfl, pu rfl, pu rfl, pu rfl, pu rfl, bv rfl (fun s w => by go_simp; try rfl), bv rfl (fun s w => by go_simp; try rfl), st rfl 10 0 (fun s => [.slice (s 4).A r6_0.length (s 4).c]) rfl (fun s w h hf => by have h0 := h 0 _ rfl; have f0 := hf 0; clear h hf; go_simp; try rfl), st rfl 11 0 (fun s => [.int .i64 r6_1, .int .i64 r6_2, .int .i64 r6_3, .int .i64 r6_4]) rfl (fun s w h hf => by have h0 := h 0 _ rfl; have f0 := hf 0; have h1 := h 1 _ rfl; have f1 := hf 1; have h2 := h 2 _ rfl; have f2 := hf 2; have h3 := h 3 _ rfl; have f3 := hf 3; clear h hf; go_simp; try rfl), pu rfl, trivial⟩
  intro s10 w10 h; have HS10 := Aside0.mk h; clear h HS9
  refine tlP (v := .bool r6_6) 17 rfl ?_
  refine tl0 ?_
  refine wp_seq ?_
  refine reg0 (aF := ?_) [evL 0 61 [] (fun s => .agg #[.slice (s10 4).A r6_0.length (s10 4).c]), evL 1 62 [] (fun s => .agg #[.slice (s7 6).A r6_0.length (s7 6).c]), evC 2 (some 63) [] (fun s x => .bool true) (fun s x => []), evP 3 64 [] (fun s => .bool false), evP 4 65 [] (fun s => .bool false), evL 5 66 [] (fun s => .agg #[.int .i64 r6_1, .int .i64 r6_2, .int .i64 r6_3, .int .i64 r6_4]), evL 6 67 [] (fun s => .agg #[.int .i64 r6_1, .int .i64 r6_2, .int .i64 r6_3, .int .i64 r6_4]), evC 7 (some 68) [] (fun s x => .bool true) (fun s x => []), evP 8 69 [] (fun s => .bool false), evP 9 70 [] (fun s => .bool false), evP 10 71 [] (fun s => .bool false), evP 11 72 [] (fun s => .int .i64 r6_5), evP 12 73 [] (fun s => .int .i64 r6_5), evP 13 74 [] (fun s => .bool false), evP 14 75 [] (fun s => .bool false), evP 15 76 [] (fun s => .bool false), evP 16 77 [] (fun s => .bool r6_6), evP 17 78 [] (fun s => .bool r6_6), evP 18 79 [] (fun s => .bool false), evP 19 80 [] (fun s => .bool false)] [] false 20 rfl rfl (by kernel_rfl) rfl (fun _ => rfl) ?aF HS10.out ?hs ?_
  rotate_left 1
  case aF => intro s; simp only [putE, EvT.val, Act.put, setIfInBounds_toArray, set_cons_zero, set_cons_succ]; rfl
  case hs => exact ⟨ld rfl 1 (fun s => rfl) (fun s w h => by have h0 := h 0 _ rfl; clear h; go_simp; try rfl), ld rfl 9 (fun s => rfl) (fun s w h => by have h0 := h 0 _ rfl; clear h; go_simp; try rfl), cl rfl (fun s => #[.agg #[.slice (s10 4).A r6_0.length (s10 4).c], .agg #[.slice (s7 6).A r6_0.length (s7 6).c]]) Try.func21 (fun s w1 h => (laws_eqMemory.calls _ _ _ _ _ _ _ _ _ (Kd.S_reads' (h.get 0 rfl)).2.2 (Kd.S_reads' (h.get 0 rfl)).2.1 (Kd.S_reads' (h.get 8 rfl)).2.2 (Kd.S_reads' (h.get 8 rfl)).2.1 H8.out).mono (by rintro e w2 ⟨rfl, hb⟩; exact fin0 hb)), pu rfl, pu rfl, ld rfl 2 (fun s => rfl) (fun s w h => by have h0 := h 0 _ rfl; have h1 := h 1 _ rfl; have h2 := h 2 _ rfl; have h3 := h 3 _ rfl; clear h; go_simp; try rfl), ld rfl 10 (fun s => rfl) (fun s w h => by have h0 := h 0 _ rfl; have h1 := h 1 _ rfl; have h2 := h 2 _ rfl; have h3 := h 3 _ rfl; clear h; go_simp; try rfl), cl rfl (fun s => #[.agg #[.int .i64 r6_1, .int .i64 r6_2, .int .i64 r6_3, .int .i64 r6_4], .agg #[.int .i64 r6_1, .int .i64 r6_2, .int .i64 r6_3, .int .i64 r6_4]]) Try.func52 (fun s w1 h => (laws_eqWindow.calls _ _ _ _ _ _ _ _ _ _ H9.out).mono (by rintro e w2 ⟨rfl, hb⟩; exact fin0 hb)), pu rfl, pu rfl, pu rfl, pu rfl, pu rfl, pb (q := .neq) (bne_self_eq_false _) rfl, pu rfl, pu rfl, pu rfl, pu rfl, pn Try.underlying4 rfl, pu rfl, trivial⟩
  intro s11 w11 h; have HS11 := Aside0.mk h; clear h HS10
  refine tl0 ?_
  refine wp_cond_false rfl ?_
  refine wp_skip ?_
  refine thN ?_
  refine wp_seq ?_
  refine reg (aF := ?_) (nw := ?_) [evR 0 81 5 (fun s => .agg #[.slice (s8 1).A r3_0.length (s8 1).c]), evL 1 82 [] (fun s => .agg #[.slice A0_0 l0_0.length c0_0]), evC 2 (some 83) [] (fun s x => .agg #[.slice x.A r3_0.length x.c]) (fun s x => [rowS (Kd.slice 5 (Kd.int .u8)) 29 w x.lo x.hi x.A x.c r3_0]), evC 3 (some 84) [2] (fun s x => .bool true) (fun s x => []), evP 4 85 [] (fun s => .bool false)] [] [] true 5 rfl rfl (by kernel_rfl) rfl (mf0) ?aF ?nw HS11.out ?hs ?_
  rotate_left 2
  case aF => intro s; simp only [putE, EvT.val, Act.put, setIfInBounds_toArray, set_cons_zero, set_cons_succ]; rfl
  case nw => intro s; simp only [thA, bsA, List.nil_append, List.cons_append, List.append_nil, if_true, if_false, Nat.reduceLT, set_cons_zero, set_cons_succ]; rfl
  case hs => exact ⟨lr rfl 5 rfl (fun s w h => by have h0 := h 0 _ rfl; clear h; go_simp; try rfl), ld rfl 11 (fun s => rfl) (fun s w h => by have h0 := h 0 _ rfl; clear h; go_simp; try rfl), cl rfl (fun s => #[.agg #[.slice A0_0 l0_0.length c0_0]]) Try.func17 (fun s w1 h => (laws_toMemory.calls _ _ _ _ _ (Kd.C_below HR0_0.out h.hb) HC0_0.out H3.out).mono (by rintro e w2 ⟨v0_, rfl, ho0, hb⟩; obtain ⟨x, rfl, hx⟩ := fin_S ho0 hb h.hb.size; exact ⟨x, rfl, hx⟩)), cl rfl (fun s => #[.agg #[.slice (s8 1).A r3_0.length (s8 1).c], .agg #[.slice (s 2).A r3_0.length (s 2).c]]) Try.func21 (fun s w1 h => (laws_eqMemory.calls _ _ _ _ _ _ _ _ _ (Kd.S_reads' (h.get 5 rfl)).2.2 (Kd.S_reads' (h.get 5 rfl)).2.1 (Kd.S_reads' (h.get 0 rfl)).2.2 (Kd.S_reads' (h.get 0 rfl)).2.1 H10.out).mono (by rintro e w2 ⟨rfl, hb⟩; exact fin0 hb)), pu rfl, trivial⟩
  intro s12 w12 h; have HS12 := Aside0.mk h; clear h HS11
  refine tl0 ?_
  refine wp_cond_false rfl ?_
  refine wp_skip ?_
  refine thN ?_
  refine wp_seq ?_
  refine reg (aF := ?_) (nw := ?_) [evP 0 86 [] (fun s => .slice (s9 1).A r5_0.length (s9 1).c), evP 1 87 [] (fun s => .slice A2_0 l2_0.length c2_0), evC 2 (some 88) [] (fun s x => .slice x.A r5_0.length x.c) (fun s x => [rowS (Kd.slice 5 (Kd.int .u8)) 29 w x.lo x.hi x.A x.c r5_0]), evC 3 (some 89) [2] (fun s x => .bool true) (fun s x => []), evP 4 90 [] (fun s => .bool false)] [] [] false 5 rfl rfl (by kernel_rfl) rfl (mf0) ?aF ?nw HS12.out ?hs ?_
  rotate_left 2
  case aF => intro s; simp only [putE, EvT.val, Act.put, setIfInBounds_toArray, set_cons_zero, set_cons_succ]; rfl
  case nw => intro s; simp only [thA, bsA, List.nil_append, List.cons_append, List.append_nil, if_true, if_false, Nat.reduceLT, set_cons_zero, set_cons_succ]; rfl
  case hs => exact ⟨pu rfl, pu rfl, cl rfl (fun s => #[.slice A2_0 l2_0.length c2_0]) Try.func57 (fun s w1 h => (laws_toByteSS.calls _ _ _ _ _ (Kd.C_below HR2_0.out h.hb) HC2_0.out H5.out).mono (by rintro e w2 ⟨v0_, rfl, ho0, hb⟩; obtain ⟨x, rfl, hx⟩ := fin_S ho0 hb h.hb.size; exact ⟨x, rfl, hx⟩)), cl rfl (fun s => #[.slice (s9 1).A r5_0.length (s9 1).c, .slice (s 2).A r5_0.length (s 2).c]) Try.func59 (fun s w1 h => (laws_eqByteSS.calls _ _ _ _ _ _ _ _ _ (Kd.S_reads' (h.get 5 rfl)).2.2 (Kd.S_reads' (h.get 5 rfl)).2.1 (Kd.S_reads' (h.get 0 rfl)).2.2 (Kd.S_reads' (h.get 0 rfl)).2.1 H11.out).mono (by rintro e w2 ⟨rfl, hd⟩; exact fin0 hd.below)), pu rfl, trivial⟩
  intro s13 w13 h; have HS13 := Aside0.mk h; clear h HS12
  refine tl0 ?_
  refine wp_cond_false rfl ?_
  refine wp_skip ?_
  refine thN ?_
  refine reg0 (aF := ?_) [] [0] false 1 rfl rfl (by kernel_rfl) rfl (fun _ => rfl) ?aF HS13.out ?hs ?_
  rotate_left 1
  case aF => intro s; simp only [putE, EvT.val, Act.put, setIfInBounds_toArray, set_cons_zero, set_cons_succ]; rfl
  case hs => exact trivial
  intro s14 w14 h; have HS14 := Aside0.mk h; clear h HS13
  refine tlP (v := .int .i64 1) 18 rfl ?_
  refine tl0 ?_
  refine reg (aF := ?_) (nw := ?_) [evL 0 91 [] (fun s => .agg #[.slice (s8 1).A r3_0.length (s8 1).c]), evP 1 92 [] (fun s => .int .i64 1), evW 2 (some 93) [] (fun s => .int .i64 r12_0)] [3] [⟨6, 2, [], fun s => ⟨(s8 1).lo, (s8 1).hi, fun w_ => Kd.S (Kd.slice 5 (Kd.int .u8)) 29 w_ w.heap.size (fun k_ => (s8 1).lo ≤ k_ ∧ k_ < (s8 1).hi) (.slice (s8 1).A r3_0.length (s8 1).c) r12_1⟩⟩] false 4 rfl rfl (by kernel_rfl) rfl ((mf1 mf0)) ?aF ?nw HS14.out ?hs ?_
  rotate_left 2
  case aF => intro s; simp only [putE, EvT.val, Act.put, setIfInBounds_toArray, set_cons_zero, set_cons_succ]; rfl
  case nw => intro s; simp only [thA, bsA, List.nil_append, List.cons_append, List.append_nil, if_true, if_false, Nat.reduceLT, set_cons_zero, set_cons_succ]; rfl
  case hs => exact ⟨ld rfl 7 (fun s => rfl) (fun s w h => by have h0 := h 0 _ rfl; clear h; go_simp; try rfl), pu rfl, cw rfl 0 6 rfl rfl (fun s => #[.agg #[.slice (s8 1).A r3_0.length (s8 1).c], .int .i64 1]) Try.func24 (fun s w1 h => (laws_markMemory.calls (fun k_ => (s8 1).lo ≤ k_ ∧ k_ < (s8 1).hi) _ _ _ _ _ w _ h.hb (h.get 0 rfl) H12.out).mono (by rintro e w2 ⟨rfl, ho0, hb, hk⟩; exact ⟨rfl, Wrote.of 0 h rfl hb hk (fun w_ ha => S_again ho0 ha)⟩)), trivial⟩
  intro s15 w15 h; have HS15 := Aside0.mk h; clear h HS14
  refine tlP (v := .int .i64 r12_0) 18 rfl ?_
  refine tl0 ?_
  refine reg (aF := ?_) (nw := ?_) [evP 0 94 [] (fun s => .slice (s9 1).A r5_0.length (s9 1).c), evP 1 95 [] (fun s => .int .i64 r12_0), evW 2 (some 96) [] (fun s => .int .i64 r13_0)] [3] [⟨5, 2, [], fun s => ⟨(s9 1).lo, (s9 1).hi, fun w_ => Kd.S (Kd.slice 5 (Kd.int .u8)) 29 w_ w.heap.size (fun k_ => (s9 1).lo ≤ k_ ∧ k_ < (s9 1).hi) (.slice (s9 1).A r5_0.length (s9 1).c) r13_1⟩⟩] false 4 rfl rfl (by kernel_rfl) rfl ((mf1 mf0)) ?aF ?nw HS15.out ?hs ?_
  rotate_left 2
  case aF => intro s; simp only [putE, EvT.val, Act.put, setIfInBounds_toArray, set_cons_zero, set_cons_succ]; rfl
  case nw => intro s; simp only [thA, bsA, List.nil_append, List.cons_append, List.append_nil, if_true, if_false, Nat.reduceLT, set_cons_zero, set_cons_succ]; rfl
  case hs => exact ⟨pu rfl, pu rfl, cw rfl 0 5 rfl rfl (fun s => #[.slice (s9 1).A r5_0.length (s9 1).c, .int .i64 r12_0]) Try.func60 (fun s w1 h => (laws_markByteSS.calls (fun k_ => (s9 1).lo ≤ k_ ∧ k_ < (s9 1).hi) _ _ _ _ _ w _ h.hb (h.get 0 rfl) H13.out).mono (by rintro e w2 ⟨rfl, ho0, hb, hk⟩; exact ⟨rfl, Wrote.of 0 h rfl hb hk (fun w_ ha => S_again ho0 ha)⟩)), trivial⟩
  intro s16 w16 h; have HS16 := Aside0.mk h; clear h HS15
  refine tlP (v := .int .i64 r13_0) 18 rfl ?_
  refine tl0 ?_
  refine wp_seq ?_
  refine reg0 (aF := ?_) [evP 0 97 [] (fun s => .int .i64 r13_0), evP 1 98 [] (fun s => .bool false), evP 2 99 [] (fun s => .bool false), evL 3 100 [] (fun s => .agg #[.slice (s10 4).A r6_0.length (s10 4).c]), evL 4 101 [] (fun s => .agg #[.slice (s7 6).A r6_0.length (s7 6).c]), evC 5 (some 102) [] (fun s x => .bool true) (fun s x => []), evP 6 103 [] (fun s => .bool false), evP 7 104 [] (fun s => .bool false), evP 8 105 [] (fun s => .bool false), evL 9 106 [] (fun s => .agg #[.int .i64 r6_1, .int .i64 r6_2, .int .i64 r6_3, .int .i64 r6_4]), evL 10 107 [] (fun s => .agg #[.int .i64 r6_1, .int .i64 r6_2, .int .i64 r6_3, .int .i64 r6_4]), evC 11 (some 108) [] (fun s x => .bool true) (fun s x => []), evP 12 109 [] (fun s => .bool false), evP 13 110 [] (fun s => .bool false), evP 14 111 [] (fun s => .bool false), evP 15 112 [] (fun s => .int .i64 r6_5), evP 16 113 [] (fun s => .int .i64 r6_5), evP 17 114 [] (fun s => .bool false), evP 18 115 [] (fun s => .bool false), evP 19 116 [] (fun s => .bool false), evP 20 117 [] (fun s => .bool r6_6), evP 21 118 [] (fun s => .bool r6_6), evP 22 119 [] (fun s => .bool false), evP 23 120 [] (fun s => .bool false)] [] false 24 rfl rfl (by kernel_rfl) rfl (fun _ => rfl) ?aF HS16.out ?hs ?_
  rotate_left 1
  case aF => intro s; simp only [putE, EvT.val, Act.put, setIfInBounds_toArray, set_cons_zero, set_cons_succ]; rfl
  case hs => exact ⟨pu rfl, pb (q := .lss) Nb_r13_0 rfl, pu rfl, ld rfl 3 (fun s => rfl) (fun s w h => by have h0 := h 0 _ rfl; clear h; go_simp; try rfl), ld rfl 11 (fun s => rfl) (fun s w h => by have h0 := h 0 _ rfl; clear h; go_simp; try rfl), cl rfl (fun s => #[.agg #[.slice (s10 4).A r6_0.length (s10 4).c], .agg #[.slice (s7 6).A r6_0.length (s7 6).c]]) Try.func21 (fun s w1 h => (laws_eqMemory.calls _ _ _ _ _ _ _ _ _ (Kd.S_reads' (h.get 2 rfl)).2.2 (Kd.S_reads' (h.get 2 rfl)).2.1 (Kd.S_reads' (h.get 10 rfl)).2.2 (Kd.S_reads' (h.get 10 rfl)).2.1 H8.out).mono (by rintro e w2 ⟨rfl, hb⟩; exact fin0 hb)), pu rfl, pu rfl, pu rfl, ld rfl 4 (fun s => rfl) (fun s w h => by have h0 := h 0 _ rfl; have h1 := h 1 _ rfl; have h2 := h 2 _ rfl; have h3 := h 3 _ rfl; clear h; go_simp; try rfl), ld rfl 12 (fun s => rfl) (fun s w h => by have h0 := h 0 _ rfl; have h1 := h 1 _ rfl; have h2 := h 2 _ rfl; have h3 := h 3 _ rfl; clear h; go_simp; try rfl), cl rfl (fun s => #[.agg #[.int .i64 r6_1, .int .i64 r6_2, .int .i64 r6_3, .int .i64 r6_4], .agg #[.int .i64 r6_1, .int .i64 r6_2, .int .i64 r6_3, .int .i64 r6_4]]) Try.func52 (fun s w1 h => (laws_eqWindow.calls _ _ _ _ _ _ _ _ _ _ H9.out).mono (by rintro e w2 ⟨rfl, hb⟩; exact fin0 hb)), pu rfl, pu rfl, pu rfl, pu rfl, pu rfl, pb (q := .neq) (bne_self_eq_false _) rfl, pu rfl, pu rfl, pu rfl, pu rfl, pn Try.underlying4 rfl, pu rfl, trivial⟩
  intro s17 w17 h; have HS17 := Aside0.mk h; clear h HS16
  refine tl0 ?_
  refine wp_cond_false rfl ?_
  refine wp_skip ?_
  refine thN ?_
  refine reg0 (aF := ?_) [] [0] false 1 rfl rfl (by kernel_rfl) rfl (fun _ => rfl) ?aF HS17.out ?hs ?_
  rotate_left 1
  case aF => intro s; simp only [putE, EvT.val, Act.put, setIfInBounds_toArray, set_cons_zero, set_cons_succ]; rfl
  case hs => exact trivial
  intro s18 w18 h; have HS18 := Aside0.mk h; clear h HS17
  refine tlP (v := .int .i64 1) 19 rfl ?_
  refine tl0 ?_
  refine reg (aF := ?_) (nw := ?_) [evL 0 121 [] (fun s => .agg #[.slice (s10 4).A r6_0.length (s10 4).c]), evP 1 122 [] (fun s => .int .i64 1), evW 2 (some 123) [] (fun s => .int .i64 r14_0)] [3] [⟨2, 2, [], fun s => ⟨(s10 4).lo, (s10 4).hi, fun w_ => Kd.S (Kd.slice 5 (Kd.int .u8)) 29 w_ w.heap.size (fun k_ => (s10 4).lo ≤ k_ ∧ k_ < (s10 4).hi) (.slice (s10 4).A r6_0.length (s10 4).c) r14_1⟩⟩] false 4 rfl rfl (by kernel_rfl) rfl ((mf1 mf0)) ?aF ?nw HS18.out ?hs ?_
  rotate_left 2
  case aF => intro s; simp only [putE, EvT.val, Act.put, setIfInBounds_toArray, set_cons_zero, set_cons_succ]; rfl
  case nw => intro s; simp only [thA, bsA, List.nil_append, List.cons_append, List.append_nil, if_true, if_false, Nat.reduceLT, set_cons_zero, set_cons_succ]; rfl
  case hs => exact ⟨ld rfl 3 (fun s => rfl) (fun s w h => by have h0 := h 0 _ rfl; clear h; go_simp; try rfl), pu rfl, cw rfl 0 2 rfl rfl (fun s => #[.agg #[.slice (s10 4).A r6_0.length (s10 4).c], .int .i64 1]) Try.func24 (fun s w1 h => (laws_markMemory.calls (fun k_ => (s10 4).lo ≤ k_ ∧ k_ < (s10 4).hi) _ _ _ _ _ w _ h.hb (h.get 0 rfl) H14.out).mono (by rintro e w2 ⟨rfl, ho0, hb, hk⟩; exact ⟨rfl, Wrote.of 0 h rfl hb hk (fun w_ ha => S_again ho0 ha)⟩)), trivial⟩
  intro s19 w19 h; have HS19 := Aside0.mk h; clear h HS18
  refine tlP (v := .int .i64 r14_0) 19 rfl ?_
  refine tl0 ?_
  refine reg0 (aF := ?_) [] [0] false 1 rfl rfl (by kernel_rfl) rfl (fun _ => rfl) ?aF HS19.out ?hs ?_
  rotate_left 1
  case aF => intro s; simp only [putE, EvT.val, Act.put, setIfInBounds_toArray, set_cons_zero, set_cons_succ]; rfl
  case hs => exact trivial
  intro s20 w20 h; have HS20 := Aside0.mk h; clear h HS19
  refine tlP (v := .int .i64 1) 20 rfl ?_
  refine tl0 ?_
  refine reg0 (aF := ?_) [evL 0 124 [] (fun s => .agg #[.slice (s10 4).A r6_0.length (s10 4).c]), evP 1 125 [] (fun s => .int .i64 1), evC 2 (some 126) [] (fun s x => .int .i64 r14_0) (fun s x => [])] [3] false 4 rfl rfl (by kernel_rfl) rfl (fun _ => rfl) ?aF HS20.out ?hs ?_
  rotate_left 1
  case aF => intro s; simp only [putE, EvT.val, Act.put, setIfInBounds_toArray, set_cons_zero, set_cons_succ]; rfl
  case hs => exact ⟨ld rfl 3 (fun s => rfl) (fun s w h => by have h0 := h 0 _ rfl; clear h; go_simp; try rfl), pu rfl, cl rfl (fun s => #[.agg #[.slice (s10 4).A r6_0.length (s10 4).c], .int .i64 1]) Try.func26 (fun s w1 h => by rw [show r6_0.length = r14_1.length from (Kd.S_reads' (h.get 2 rfl)).1]; exact (laws_heldMemory.calls _ _ _ _ _ _ _ ((Kd.S_reads' (h.get 2 rfl)).1 ▸ (Kd.S_reads' (h.get 2 rfl)).2.2) ((Kd.S_reads' (h.get 2 rfl)).1 ▸ (Kd.S_reads' (h.get 2 rfl)).2.1) H15.out).mono (by rintro e w2 ⟨rfl, hb⟩; exact fin0 hb)), trivial⟩
  intro s21 w21 h; have HS21 := Aside0.mk h; clear h HS20
  refine tlP (v := .int .i64 r14_0) 20 rfl ?_
  refine tl0 ?_
  refine wp_seq ?_
  refine reg0 (aF := ?_) [evP 0 127 [] (fun s => .int .i64 r14_0), evP 1 128 [] (fun s => .bool false)] [] false 2 rfl rfl (by kernel_rfl) rfl (fun _ => rfl) ?aF HS21.out ?hs ?_
  rotate_left 1
  case aF => intro s; simp only [putE, EvT.val, Act.put, setIfInBounds_toArray, set_cons_zero, set_cons_succ]; rfl
  case hs => exact ⟨pu rfl, pb (q := .lss) Nb_r14_0 rfl, trivial⟩
  intro s22 w22 h; have HS22 := Aside0.mk h; clear h HS21
  refine tl0 ?_
  refine wp_cond_false rfl ?_
  refine wp_skip ?_
  refine thN ?_
  refine wp_seq ?_
  refine reg0 (aF := ?_) [evP 0 129 [] (fun s => .int .i64 r14_0), evP 1 130 [] (fun s => .int .i64 r14_0), evP 2 131 [] (fun s => .bool false)] [] false 3 rfl rfl (by kernel_rfl) rfl (fun _ => rfl) ?aF HS22.out ?hs ?_
  rotate_left 1
  case aF => intro s; simp only [putE, EvT.val, Act.put, setIfInBounds_toArray, set_cons_zero, set_cons_succ]; rfl
  case hs => exact ⟨pu rfl, pu rfl, pb (q := .neq) (bne_self_eq_false _) rfl, trivial⟩
  intro s23 w23 h; have HS23 := Aside0.mk h; clear h HS22
  refine tl0 ?_
  refine wp_cond_false rfl ?_
  refine wp_skip ?_
  refine thN ?_
  refine reg (aF := ?_) (nw := ?_) [evL 0 133 [] (fun s => .agg #[.slice A0_0 l0_0.length c0_0]), evC 1 (some 134) [] (fun s x => .agg #[.slice x.A r3_0.length x.c]) (fun s x => [rowS (Kd.slice 5 (Kd.int .u8)) 29 w x.lo x.hi x.A x.c r3_0]), evL 2 135 [] (fun s => .agg #[.int .i64 a1_0, .int .i64 a1_1, .int .i64 a1_2, .int .i64 a1_3]), evC 3 (some 136) [] (fun s x => .agg #[.int .i64 r4_0, .int .i64 r4_1, .int .i64 r4_2, .int .i64 r4_3]) (fun s x => []), evP 4 137 [] (fun s => .slice A2_0 l2_0.length c2_0), evC 5 (some 138) [] (fun s x => .slice x.A r5_0.length x.c) (fun s x => [rowS (Kd.slice 5 (Kd.int .u8)) 29 w x.lo x.hi x.A x.c r5_0]), evC 6 (some 139) [1, 5] (fun s x => .tuple #[.agg #[.slice x.A r6_0.length x.c], .agg #[.int .i64 r6_1, .int .i64 r6_2, .int .i64 r6_3, .int .i64 r6_4], .int .i64 r6_5, .bool r6_6]) (fun s x => [rowS (Kd.slice 5 (Kd.int .u8)) 29 w x.lo x.hi x.A x.c r6_0]), evP 7 132 [6] (fun s => .tuple #[.agg #[.slice (s 6).A r6_0.length (s 6).c], .agg #[.int .i64 r6_1, .int .i64 r6_2, .int .i64 r6_3, .int .i64 r6_4], .int .i64 r6_5, .bool r6_6]), evP 8 140 [6] (fun s => .agg #[.slice (s 6).A r6_0.length (s 6).c]), evP 9 141 [] (fun s => .agg #[.int .i64 r6_1, .int .i64 r6_2, .int .i64 r6_3, .int .i64 r6_4]), evP 10 142 [] (fun s => .int .i64 r6_5), evP 11 143 [] (fun s => .bool r6_6), evB 12 21 [] 31 (fun s => #[.slice none 0 0]) 14 [6] (fun s => #[.slice (s 6).A r6_0.length (s 6).c]), evB 13 22 [] 32 (fun s => #[.int .i64 0, .int .i64 0, .int .i64 0, .int .i64 0]) 15 [] (fun s => #[.int .i64 r6_1, .int .i64 r6_2, .int .i64 r6_3, .int .i64 r6_4]), evS 14, evS 15, evP 16 23 [] (fun s => .int .i64 r6_5)] [17] [] true 18 rfl rfl (by kernel_rfl) rfl (mf0) ?aF ?nw HS23.out ?hs ?_
  rotate_left 2
  case aF => intro s; simp only [putE, EvT.val, Act.put, setIfInBounds_toArray, set_cons_zero, set_cons_succ]; rfl
  case nw => intro s; simp only [thA, bsA, List.nil_append, List.cons_append, List.append_nil, if_true, if_false, Nat.reduceLT, set_cons_zero, set_cons_succ]; rfl
  case hs => exact ⟨ld rfl 13 (fun s => rfl) (fun s w h => by have h0 := h 0 _ rfl; clear h; go_simp; try rfl), cl rfl (fun s => #[.agg #[.slice A0_0 l0_0.length c0_0]]) Try.func17 (fun s w1 h => (laws_toMemory.calls _ _ _ _ _ (Kd.C_below HR0_0.out h.hb) HC0_0.out H3.out).mono (by rintro e w2 ⟨v0_, rfl, ho0, hb⟩; obtain ⟨x, rfl, hx⟩ := fin_S ho0 hb h.hb.size; exact ⟨x, rfl, hx⟩)), ld rfl 14 (fun s => rfl) (fun s w h => by have h0 := h 0 _ rfl; have h1 := h 1 _ rfl; have h2 := h 2 _ rfl; have h3 := h 3 _ rfl; clear h; go_simp; try rfl), cl rfl (fun s => #[.agg #[.int .i64 a1_0, .int .i64 a1_1, .int .i64 a1_2, .int .i64 a1_3]]) Try.func51 (fun s w1 h => (laws_toWindow.calls _ _ _ _ _ _ _ _ _ H4.out).mono (by rintro e w2 ⟨rfl, hb⟩; exact fin0 hb)), pu rfl, cl rfl (fun s => #[.slice A2_0 l2_0.length c2_0]) Try.func57 (fun s w1 h => (laws_toByteSS.calls _ _ _ _ _ (Kd.C_below HR2_0.out h.hb) HC2_0.out H5.out).mono (by rintro e w2 ⟨v0_, rfl, ho0, hb⟩; obtain ⟨x, rfl, hx⟩ := fin_S ho0 hb h.hb.size; exact ⟨x, rfl, hx⟩)), cl rfl (fun s => #[.agg #[.slice (s 1).A r3_0.length (s 1).c], .agg #[.int .i64 r4_0, .int .i64 r4_1, .int .i64 r4_2, .int .i64 r4_3], .slice (s 5).A r5_0.length (s 5).c]) Try.func58 (fun s w1 h => (impl_GrowWindow.calls _ _ _ _ _ _ _ _ _ _ _ _ _ _ _ _ _ _ (Kd.S_reads' (h.get 0 rfl)).2.2 (Kd.S_reads' (h.get 0 rfl)).2.1 (Kd.S_reads' (h.get 1 rfl)).2.2 (Kd.S_reads' (h.get 1 rfl)).2.1 H7.out).mono (by rintro e w2 ⟨v0_, rfl, ho0, hb⟩; obtain ⟨x, rfl, hx⟩ := fin_S ho0 hb h.hb.size; exact ⟨x, rfl, hx⟩)), pu rfl, pu rfl, pu rfl, pu rfl, pu rfl, bv rfl (fun s w => by go_simp; try rfl), bv rfl (fun s w => by go_simp; try rfl), st rfl 12 0 (fun s => [.slice (s 6).A r6_0.length (s 6).c]) rfl (fun s w h hf => by have h0 := h 0 _ rfl; have f0 := hf 0; clear h hf; go_simp; try rfl), st rfl 13 0 (fun s => [.int .i64 r6_1, .int .i64 r6_2, .int .i64 r6_3, .int .i64 r6_4]) rfl (fun s w h hf => by have h0 := h 0 _ rfl; have f0 := hf 0; have h1 := h 1 _ rfl; have f1 := hf 1; have h2 := h 2 _ rfl; have f2 := hf 2; have h3 := h 3 _ rfl; have f3 := hf 3; clear h hf; go_simp; try rfl), pu rfl, trivial⟩
  intro s24 w24 h; have HS24 := Aside0.mk h; clear h HS23
  refine tlP (v := .bool r6_6) 24 rfl ?_
  refine tl0 ?_
  refine wp_seq ?_
  refine reg0 (aF := ?_) [evL 0 144 [] (fun s => .agg #[.slice (s24 6).A r6_0.length (s24 6).c]), evL 1 145 [] (fun s => .agg #[.slice (s7 6).A r6_0.length (s7 6).c]), evC 2 (some 146) [] (fun s x => .bool true) (fun s x => []), evP 3 147 [] (fun s => .bool false), evP 4 148 [] (fun s => .bool false), evL 5 149 [] (fun s => .agg #[.int .i64 r6_1, .int .i64 r6_2, .int .i64 r6_3, .int .i64 r6_4]), evL 6 150 [] (fun s => .agg #[.int .i64 r6_1, .int .i64 r6_2, .int .i64 r6_3, .int .i64 r6_4]), evC 7 (some 151) [] (fun s x => .bool true) (fun s x => []), evP 8 152 [] (fun s => .bool false), evP 9 153 [] (fun s => .bool false), evP 10 154 [] (fun s => .bool false), evP 11 155 [] (fun s => .int .i64 r6_5), evP 12 156 [] (fun s => .int .i64 r6_5), evP 13 157 [] (fun s => .bool false), evP 14 158 [] (fun s => .bool false), evP 15 159 [] (fun s => .bool false), evP 16 160 [] (fun s => .bool r6_6), evP 17 161 [] (fun s => .bool r6_6), evP 18 162 [] (fun s => .bool false), evP 19 163 [] (fun s => .bool false)] [] false 20 rfl rfl (by kernel_rfl) rfl (fun _ => rfl) ?aF HS24.out ?hs ?_
  rotate_left 1
  case aF => intro s; simp only [putE, EvT.val, Act.put, setIfInBounds_toArray, set_cons_zero, set_cons_succ]; rfl
  case hs => exact ⟨ld rfl 3 (fun s => rfl) (fun s w h => by have h0 := h 0 _ rfl; clear h; go_simp; try rfl), ld rfl 16 (fun s => rfl) (fun s w h => by have h0 := h 0 _ rfl; clear h; go_simp; try rfl), cl rfl (fun s => #[.agg #[.slice (s24 6).A r6_0.length (s24 6).c], .agg #[.slice (s7 6).A r6_0.length (s7 6).c]]) Try.func21 (fun s w1 h => (laws_eqMemory.calls _ _ _ _ _ _ _ _ _ (Kd.S_reads' (h.get 2 rfl)).2.2 (Kd.S_reads' (h.get 2 rfl)).2.1 (Kd.S_reads' (h.get 15 rfl)).2.2 (Kd.S_reads' (h.get 15 rfl)).2.1 H8.out).mono (by rintro e w2 ⟨rfl, hb⟩; exact fin0 hb)), pu rfl, pu rfl, ld rfl 4 (fun s => rfl) (fun s w h => by have h0 := h 0 _ rfl; have h1 := h 1 _ rfl; have h2 := h 2 _ rfl; have h3 := h 3 _ rfl; clear h; go_simp; try rfl), ld rfl 17 (fun s => rfl) (fun s w h => by have h0 := h 0 _ rfl; have h1 := h 1 _ rfl; have h2 := h 2 _ rfl; have h3 := h 3 _ rfl; clear h; go_simp; try rfl), cl rfl (fun s => #[.agg #[.int .i64 r6_1, .int .i64 r6_2, .int .i64 r6_3, .int .i64 r6_4], .agg #[.int .i64 r6_1, .int .i64 r6_2, .int .i64 r6_3, .int .i64 r6_4]]) Try.func52 (fun s w1 h => (laws_eqWindow.calls _ _ _ _ _ _ _ _ _ _ H9.out).mono (by rintro e w2 ⟨rfl, hb⟩; exact fin0 hb)), pu rfl, pu rfl, pu rfl, pu rfl, pu rfl, pb (q := .neq) (bne_self_eq_false _) rfl, pu rfl, pu rfl, pu rfl, pu rfl, pn Try.underlying4 rfl, pu rfl, trivial⟩
  intro s25 w25 h; have HS25 := Aside0.mk h; clear h HS24
  refine tl0 ?_
  refine wp_cond_false rfl ?_
  refine wp_skip ?_
  refine thN ?_
  refine reg0 (aF := ?_) [] [0] false 1 rfl rfl (by kernel_rfl) rfl (fun _ => rfl) ?aF HS25.out ?hs ?_
  rotate_left 1
  case aF => intro s; simp only [putE, EvT.val, Act.put, setIfInBounds_toArray, set_cons_zero, set_cons_succ]; rfl
  case hs => exact trivial
  intro s26 w26 h; have HS26 := Aside0.mk h; clear h HS25
  refine tlP (v := .int .i64 1) 20 rfl ?_
  refine tl0 ?_
  refine reg0 (aF := ?_) [evL 0 164 [] (fun s => .agg #[.slice (s10 4).A r6_0.length (s10 4).c]), evP 1 165 [] (fun s => .int .i64 1), evC 2 (some 166) [] (fun s x => .int .i64 r14_0) (fun s x => [])] [3] false 4 rfl rfl (by kernel_rfl) rfl (fun _ => rfl) ?aF HS26.out ?hs ?_
  rotate_left 1
  case aF => intro s; simp only [putE, EvT.val, Act.put, setIfInBounds_toArray, set_cons_zero, set_cons_succ]; rfl
  case hs => exact ⟨ld rfl 8 (fun s => rfl) (fun s w h => by have h0 := h 0 _ rfl; clear h; go_simp; try rfl), pu rfl, cl rfl (fun s => #[.agg #[.slice (s10 4).A r6_0.length (s10 4).c], .int .i64 1]) Try.func26 (fun s w1 h => by rw [show r6_0.length = r14_1.length from (Kd.S_reads' (h.get 7 rfl)).1]; exact (laws_heldMemory.calls _ _ _ _ _ _ _ ((Kd.S_reads' (h.get 7 rfl)).1 ▸ (Kd.S_reads' (h.get 7 rfl)).2.2) ((Kd.S_reads' (h.get 7 rfl)).1 ▸ (Kd.S_reads' (h.get 7 rfl)).2.1) H15.out).mono (by rintro e w2 ⟨rfl, hb⟩; exact fin0 hb)), trivial⟩
  intro s27 w27 h; have HS27 := Aside0.mk h; clear h HS26
  refine tlP (v := .int .i64 r14_0) 20 rfl ?_
  refine tl0 ?_
  refine wp_seq ?_
  refine reg0 (aF := ?_) [evP 0 167 [] (fun s => .int .i64 r14_0), evP 1 168 [] (fun s => .bool false)] [] false 2 rfl rfl (by kernel_rfl) rfl (fun _ => rfl) ?aF HS27.out ?hs ?_
  rotate_left 1
  case aF => intro s; simp only [putE, EvT.val, Act.put, setIfInBounds_toArray, set_cons_zero, set_cons_succ]; rfl
  case hs => exact ⟨pu rfl, pb (q := .lss) Nb_r14_0 rfl, trivial⟩
  intro s28 w28 h; have HS28 := Aside0.mk h; clear h HS27
  refine tl0 ?_
  refine wp_cond_false rfl ?_
  refine wp_skip ?_
  refine thN ?_
  refine wp_seq ?_
  refine reg0 (aF := ?_) [evP 0 169 [] (fun s => .int .i64 r14_0), evP 1 170 [] (fun s => .int .i64 r14_0), evP 2 171 [] (fun s => .bool false)] [] false 3 rfl rfl (by kernel_rfl) rfl (fun _ => rfl) ?aF HS28.out ?hs ?_
  rotate_left 1
  case aF => intro s; simp only [putE, EvT.val, Act.put, setIfInBounds_toArray, set_cons_zero, set_cons_succ]; rfl
  case hs => exact ⟨pu rfl, pu rfl, pb (q := .neq) (bne_self_eq_false _) rfl, trivial⟩
  intro s29 w29 h; have HS29 := Aside0.mk h; clear h HS28
  refine tl0 ?_
  refine wp_cond_false rfl ?_
  refine wp_skip ?_
  refine thN ?_
  refine reg0 (aF := ?_) [] [0] false 1 rfl rfl (by kernel_rfl) rfl (fun _ => rfl) ?aF HS29.out ?hs ?_
  rotate_left 1
  case aF => intro s; simp only [putE, EvT.val, Act.put, setIfInBounds_toArray, set_cons_zero, set_cons_succ]; rfl
  case hs => exact trivial
  intro s30 w30 h; have HS30 := Aside0.mk h; clear h HS29
  refine tlP (v := .bool true) 6 rfl ?_
  refine tl0 ?_
  refine wp_ret ?_
  go_ret
  exact ⟨by first | rfl | simp, HS30.out.hb⟩
end Go.Proofs.Ytaieobidkmihkaa.P


/- The law FnExactGrowWindow. -/
namespace Go.Proofs.Ytaieobidkmihkaa.P
open Go.RowKit Go.Proofs.YtaieobidkmihkaaW.PrintWords Go.Proofs.YtaieobidkmihkaaW.Mine
set_option linter.unusedVariables false
theorem FnExactGrowWindow_walk (w : World) (cs0 : Array Value) (a0 : (List (List Int))) (hK0 : (Kd.slice 29 (Kd.slice 5 (Kd.int .u8))).K w a0 cs0.toList) (ok0 : (∀ y1 ∈ a0, (∀ y2 ∈ y1, (Lit.int .u8 y2).wf = true))) (cs1 : Array Value) (a1 : (Int × (Int × (Int × Int)))) (hK1 : (Kd.pair (Kd.int .i64) (Kd.pair (Kd.int .i64) (Kd.pair (Kd.int .i64) (Kd.int .i64)))).K w a1 cs1.toList) (ok1 : ((Lit.int .i64 a1.1).wf = true ∧ ((Lit.int .i64 a1.2.1).wf = true ∧ ((Lit.int .i64 a1.2.2.1).wf = true ∧ (Lit.int .i64 a1.2.2.2).wf = true)))) (A2 : Option Addr) (len2 cap2 : Nat) (a2 : (List (List Int))) (hK2 : (Kd.slice 29 (Kd.slice 5 (Kd.int .u8))).K w a2 [.slice A2 len2 cap2]) (ok2 : (∀ y1 ∈ a2, (∀ y2 ∈ y1, (Lit.int .u8 y2).wf = true))) :
    Calls Try.prog 12 #[.agg cs0, .agg cs1, .slice A2 len2 cap2] w fun e w' => e = .returned (.bool true) ∧ Below w.heap.size w w' := by
  obtain ⟨A0, c0, hcs0, hc0, hr0⟩ := hK0
  obtain rfl := agg_of hcs0
  obtain ⟨x10, x11, x12, x13⟩ := a1
  obtain ⟨_, _, hcs1, rfl, ⟨_, _, rfl, rfl, ⟨_, _, rfl, rfl, rfl⟩⟩⟩ := hK1
  obtain rfl := agg_of hcs1
  obtain ⟨_, _, he2, hc2, hr2⟩ := hK2
  cases he2
  have hs : -9223372036854775808 ≤ x11 ∧ x11 ≤ 9223372036854775807 := wf_i64 ok1.2.1
  obtain ⟨r, hz, hh⟩ := szMemory_f a0 1048576 (by omega) (by omega) hr0.2.1 (C_inner_len hr0)
  rcases hh with ⟨hm, h5⟩ | rfl
  · obtain ⟨r2, hz2, hh2⟩ := szByteSS_f a2 r h5.1 (by omega) hr2.2.1 (C_inner_len hr2)
    rcases hh2 with ⟨h6, h7⟩ | rfl
    · have hm2 : okM a2 := ⟨by omega, fun x hx => by have := sizeBB_mem hx; omega, by omega⟩
      have h8 := growB_ok a0 x10 x11 x12 x13 a2
      have q1 := hm.2.2
      have q2 := hm2.2.2
      have q3 := h8.2.2
      have hto : laws_toByteSS.f a2 = some a2 := if_pos ⟨hm2.1, by rw [List.all_eq_true]; exact fun x hx => decide_eq_true (hm2.2.1 x hx)⟩
      have hmk : laws_markByteSS.f a2 (1 + (sizeBB a0 : Int)) = some (1 + (sizeBB a0 : Int) + (sizeBB a2 : Int), marksBB (1 + (sizeBB a0 : Int)) a2) := if_pos ⟨by omega, by omega, by have := hm2.1; omega⟩
      exact FnExactGrowWindow_run A0 c0 a0 x10 x11 x12 x13 _ _ a2 _ _ _ _ _ _ _ _ _ _ _ _ _ _ _ _ _ _ _ _ _ w hr0 hc0 hr2 hc2 hz.rounds hz2.rounds (toMemory_f a0 hm) rfl hto (specGrowWindow_f a0 x10 x11 x12 x13 a2 hm hm2 hs) (implGrowWindow_f a0 x10 x11 x12 x13 a2 hm hm2) (eqM _ h8).rounds (eqWindow_same _ _ _ _) (eqM _ hm).rounds (eqByteSS_f a2 hm2.len hm2.rows).rounds (markM _ hm) hmk (markM _ h8) (heldMemory_f _ h8).rounds (by omega) (by omega) (by omega) (by omega)
    · exact FnExactGrowWindow_run1 A0 c0 a0 x10 x11 x12 x13 _ _ a2 _ _ w hr0 hc0 hr2 hc2 hz.rounds hz2.rounds (by omega) (by omega)
  · exact FnExactGrowWindow_run0 A0 c0 a0 x10 x11 x12 x13 _ _ a2 _ w hr0 hc0 hr2 hc2 hz.rounds (by omega)
end Go.Proofs.Ytaieobidkmihkaa.P


namespace Go.Proofs.Ytaieobidkmihkaa.fnExactGrowWindow
open Go.ChangeShapes Go.WideShapes Go.ChangeAt Go.RowKit Go.Proofs.YtaieobidkmihkaaW.PrintWords Go.Proofs.YtaieobidkmihkaaW.Mine Go.Proofs.Ytaieobidkmihkaa.P
open Go.ChangeMaps (open_string shut_string)
set_option linter.unusedVariables false
theorem own : ownKnob Try.prog.godebug = none := by kernel_rfl
theorem laidOut : laidOutB Try.prog = true := by kernel_rfl
set_option maxRecDepth 100000 in
theorem lifted (os : Os) (started : os.Started) (H : Type) (enc : TypeId × Value → H) :
    ReturnsInHanded {} Try.checked os 12 .any (Rows.fnExactGrowWindowSpec.pre6 enc Try.prog Try.f12 Rows.fnExactGrowWindowRow.domain false) (Rows.fnExactGrowWindowSpec.post enc Try.prog Try.f12 false true false false) := by
  refine returnsInHanded_of_change_sized (C := Try.checked) own started (by kernel_rfl) Try.func12
    (ChangeSpec.witness6 (enc := enc) (C := Try.checked) false ⟨#[], #[.agg #[.slice none 0 0], .agg #[.int .i64 0, .int .i64 0, .int .i64 0, .int .i64 0], .slice none 0 0], []⟩ 8 (by kernel_rfl) (by kernel_rfl) (by kernel_rfl) (by kernel_rfl)) ?_
  intro W base args ds gs before hval0 hW hcnd hsz0 _
  have hval : ∀ (j : Nat) t v, Try.f12.params[j]? = some t → args[j]? = some v → Value.okWide Try.prog W .any base t v := hval0
  have hW' := hW
  obtain ⟨p, q, hA0, hV, rfl, hfz, hnd⟩ := hW
  have hA : DataW.TrodAll enc Try.prog W 0 (fun _ => true) true Try.f12.params.toList args.toList ds p := hA0
  rw [Try.params12] at hA hval
  obtain ⟨v0, vs0, d0, ds0, p0, q0, hargs, rfl, rfl, h0, r0⟩ := trodAll_cons hA
  obtain ⟨v1, vs1, d1, ds1, p1, q1, rfl, rfl, rfl, h1, r1⟩ := trodAll_cons r0
  obtain ⟨v2, vs2, d2, ds2, p2, q2, rfl, rfl, rfl, h2, r2⟩ := trodAll_cons r1
  obtain ⟨rfl, rfl, rfl⟩ := trodAll_nil r2
  obtain rfl : args = #[v0, v1, v2] := by cases args; simp_all
  obtain ⟨rfl, rfl⟩ := trodVars_none hV
  have k0 := h0
  have lt0 : ∀ x ∈ p0, x.block < W.heap.size := by obtain ⟨m, hm⟩ := k0; exact DataW.trod_lt m _ _ _ hm
  obtain ⟨cs0, rfl, _⟩ := okWide_struct Try.underlying24 (hval 0 24 v0 rfl rfl)
  obtain ⟨a0, hK0, ok0⟩ : ∃ a : (List (List Int)), (Kd.slice 29 (Kd.slice 5 (Kd.int .u8))).K W a cs0.toList ∧ (∀ y1 ∈ a, (∀ y2 ∈ y1, (Lit.int .u8 y2).wf = true)) := by obtain ⟨fuel, hf⟩ := h0; exact (ReadsK.struct Try.underlying24 (by kernel_rfl) (ReadsF.last rfl (ReadsK.slice Try.underlying22 (by kernel_rfl) (ReadsK.slice Try.underlying29 (by kernel_rfl) (ReadsK.int Try.underlying5))) (by kernel_rfl))) hf
  have k1 := h1
  have lt1 : ∀ x ∈ p1, x.block < W.heap.size := by obtain ⟨m, hm⟩ := k1; exact DataW.trod_lt m _ _ _ hm
  obtain ⟨cs1, rfl, _⟩ := okWide_struct Try.underlying26 (hval 1 26 v1 rfl rfl)
  obtain ⟨a1, hK1, ok1⟩ : ∃ a : (Int × (Int × (Int × Int))), (Kd.pair (Kd.int .i64) (Kd.pair (Kd.int .i64) (Kd.pair (Kd.int .i64) (Kd.int .i64)))).K W a cs1.toList ∧ ((Lit.int .i64 a.1).wf = true ∧ ((Lit.int .i64 a.2.1).wf = true ∧ ((Lit.int .i64 a.2.2.1).wf = true ∧ (Lit.int .i64 a.2.2.2).wf = true))) := by obtain ⟨fuel, hf⟩ := h1; exact (ReadsK.struct Try.underlying26 (by kernel_rfl) (ReadsF.cons rfl (ReadsK.int Try.underlying3) (by kernel_rfl) (ReadsF.cons rfl (ReadsK.int Try.underlying3) (by kernel_rfl) (ReadsF.cons rfl (ReadsK.int Try.underlying3) (by kernel_rfl) (ReadsF.last rfl (ReadsK.int Try.underlying3) (by kernel_rfl)))))) hf
  have k2 := h2
  have lt2 : ∀ x ∈ p2, x.block < W.heap.size := by obtain ⟨m, hm⟩ := k2; exact DataW.trod_lt m _ _ _ hm
  obtain ⟨A2, len2, cap2, rfl⟩ := okWide_slice Try.underlying22 (hval 2 22 v2 rfl rfl)
  obtain ⟨a2, hK2, ok2⟩ : ∃ a : (List (List Int)), (Kd.slice 29 (Kd.slice 5 (Kd.int .u8))).K W a [.slice A2 len2 cap2] ∧ (∀ y1 ∈ a, (∀ y2 ∈ y1, (Lit.int .u8 y2).wf = true)) := by obtain ⟨fuel, hf⟩ := h2; exact (ReadsK.slice Try.underlying22 (by kernel_rfl) (ReadsK.slice Try.underlying29 (by kernel_rfl) (ReadsK.int Try.underlying5))) hf
  clear hA0 hval0 hsz0
  refine (FnExactGrowWindow_walk W cs0 a0 hK0 ok0 cs1 a1 hK1 ok1 A2 len2 cap2 a2 hK2 ok2).mono fun e W' ⟨he, bel⟩ => ?_
  subst he
  exact ⟨_, rfl, _, _, _, [], _, [], hW', trodAll_mk1 (shut_bool Try.underlying4 _), (trodAll_cons_mk (Below.trod laidOut (by kernel_rfl) (of_decide_eq_true (by kernel_rfl)) k0 bel lt0) (trodAll_cons_mk (Below.trod laidOut (by kernel_rfl) (of_decide_eq_true (by kernel_rfl)) k1 bel lt1) (trodAll_cons_mk (Below.trod laidOut (by kernel_rfl) (of_decide_eq_true (by kernel_rfl)) k2 bel lt2) trodAll_mk0))), rfl, bel.frame _, fun h => by cases h⟩
theorem over : Rows.fnExactGrowWindowRow.holds Try.pinned (OpenSpec.ofChange Rows.fnExactGrowWindowSpec) :=
  OpenClaim.holds_of_wide 12 Try.f12 rfl rfl rfl rfl rfl rfl rfl ⟨rfl, rfl, rfl, rfl, rfl⟩ rfl rfl rfl rfl rfl (by kernel_rfl) Try.func12 (by kernel_rfl)
    (of_decide_eq_true (by kernel_rfl)) (by unfold Func.isWrapper; first | (rw [if_pos (by decide +kernel)]; kernel_rfl) | (rw [if_neg (by decide +kernel)]; exact ⟨rfl, rfl⟩))
    (fun os started H enc _ => lifted os started H enc)
theorem proved : Rows.FnExactGrowWindowSaid := over
end Go.Proofs.Ytaieobidkmihkaa.fnExactGrowWindow
namespace Go.Proofs.Ytaieobidkmihkaa
theorem fnExactGrowWindow_holds : Rows.FnExactGrowWindowSaid := fnExactGrowWindow.proved
#print axioms fnExactGrowWindow_holds
end Go.Proofs.Ytaieobidkmihkaa


