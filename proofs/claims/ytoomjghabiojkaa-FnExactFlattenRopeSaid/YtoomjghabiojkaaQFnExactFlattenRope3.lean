/- Part 3 of the proof of the law FnExactFlattenRope: contracts of the functions that it reaches. -/
import Derived.Test.YtoomjghabiojkaaQFnExactFlattenRope2
-- written by wip/gen_fn.py
namespace Go.Proofs.Ytoomjghabiojkaa.P
open Go.RowKit Go.Proofs.YtoomjghabiojkaaW.PrintWords Go.Proofs.YtoomjghabiojkaaW.PrintLast Go.Proofs.YtoomjghabiojkaaW.PrintMore Go.Proofs.YtoomjghabiojkaaW.Mine
open List (setIfInBounds_toArray set_cons_zero set_cons_succ)
attribute [local go_sem] max2_int min2_int max_two min_two max_three min_three max_four min_four
set_option linter.unusedVariables false
set_option linter.unusedSimpArgs false
set_option maxHeartbeats 8000000 in
set_option maxRecDepth 100000 in
theorem impl_Memory_hasWindow_w0 (A0_0 : Option Addr) (c0_0 : Nat) (l0_0 : List (List Int)) (a1_0 : Int) (a1_1 : Int) (a1_2 : Int) (a1_3 : Int) (w : World) (hr0_0 : Kd.C (Kd.slice 5 (Kd.int .u8)) w A0_0 l0_0.length l0_0) (hc0_0 : l0_0.length ≤ c0_0) (H1 : impl_Memory_hasArray.f l0_0 a1_0 = some false) :
    Calls Try.prog 141 #[.agg #[.slice A0_0 l0_0.length c0_0], .agg #[.int .i64 a1_0, .int .i64 a1_1, .int .i64 a1_2, .int .i64 a1_3]] w fun e w' => e = .returned (.bool false) ∧ Below w.heap.size w w' := by
  have HR0_0 := Aside0.mk hr0_0; have HC0_0 := Aside0.mk hc0_0; clear hr0_0 hc0_0
  have H1_ := Aside0.mk H1; clear H1; have H1 := H1_; clear H1_
  have HS0 : Aside0 (Stk w [] w) := ⟨Stk.nil w⟩
  go_enter Try.func141, Try.ntmps141
  refine reg (aF := ?_) (nw := ?_) [evB 0 2 [] 26 (fun s => #[.slice A0_0 l0_0.length c0_0]) 9999 [] (fun s => #[.slice A0_0 l0_0.length c0_0]), evB 1 3 [] 48 (fun s => #[.int .i64 a1_0, .int .i64 a1_1, .int .i64 a1_2, .int .i64 a1_3]) 9999 [] (fun s => #[.int .i64 a1_0, .int .i64 a1_1, .int .i64 a1_2, .int .i64 a1_3]), evP 2 4 [] (fun s => .bool false)] [] [] false 3 rfl rfl (by kernel_rfl) rfl (mf0) ?aF ?nw HS0.out ?hs ?_
  rotate_left 2
  case aF => intro s; simp only [putE, EvT.val, Act.put, setIfInBounds_toArray, set_cons_zero, set_cons_succ]; rfl
  case nw => intro s; simp only [thA, bsA, List.nil_append, List.cons_append, List.append_nil, if_true, if_false, Nat.reduceLT, set_cons_zero, set_cons_succ]; rfl
  case hs => exact ⟨bv rfl (fun s w => by go_simp; try rfl), bv rfl (fun s w => by go_simp; try rfl), pu rfl, trivial⟩
  intro s1 w1 h; have HS1 := Aside0.mk h; clear h HS0
  refine tl0 ?_
  refine reg0 (aF := ?_) [evL 0 5 [] (fun s => .agg #[.slice A0_0 l0_0.length c0_0]), evP 1 6 [] (fun s => .pointer (some ⟨(s1 1).lo, 0, none⟩)), evL 2 7 [] (fun s => .int .i64 a1_0), evC 3 (some 8) [] (fun s x => .bool false) (fun s x => []), evP 4 9 [] (fun s => .bool false), evP 5 10 [] (fun s => undef), evP 6 11 [] (fun s => undef), evP 7 12 [] (fun s => undef), evP 8 13 [] (fun s => .bool false), evP 9 14 [] (fun s => .bool false), evP 10 15 [] (fun s => undef), evP 11 16 [] (fun s => undef), evP 12 17 [] (fun s => undef), evP 13 18 [] (fun s => undef), evP 14 19 [] (fun s => undef), evP 15 20 [] (fun s => .bool false), evP 16 21 [] (fun s => .bool false), evP 17 22 [] (fun s => undef), evP 18 23 [] (fun s => undef), evP 19 24 [] (fun s => undef), evP 20 25 [] (fun s => undef), evP 21 26 [] (fun s => undef), evP 22 27 [] (fun s => undef), evP 23 28 [] (fun s => undef), evP 24 29 [] (fun s => undef), evP 25 30 [] (fun s => undef), evP 26 31 [] (fun s => undef), evP 27 32 [] (fun s => undef), evP 28 33 [] (fun s => undef), evP 29 34 [] (fun s => undef), evP 30 35 [] (fun s => .bool false)] [31] true 32 rfl rfl (by kernel_rfl) rfl (fun _ => rfl) ?aF HS1.out ?hs ?_
  rotate_left 1
  case aF => intro s; simp only [putE, EvT.val, Act.put, setIfInBounds_toArray, set_cons_zero, set_cons_succ]; rfl
  case hs => exact ⟨ld rfl 0 (fun s => rfl) (fun s w h => by have h0 := h 0 _ rfl; clear h; go_simp; try rfl), pu rfl (hr := fun s w => by go_simp; try rfl), ld rfl 1 (fun s => rfl) (fun s w h => by have h0 := h 0 _ rfl; have h1 := h 1 _ rfl; have h2 := h 2 _ rfl; have h3 := h 3 _ rfl; clear h; go_simp; try rfl), cl rfl (fun s => #[.agg #[.slice A0_0 l0_0.length c0_0], .int .i64 a1_0]) Try.func155 (fun s w1 h => (impl_Memory_hasArray.calls _ _ _ _ _ _ (Kd.C_below HR0_0.out h.hb) HC0_0.out H1.out).mono (by rintro e w2 ⟨rfl, hb⟩; exact fin0 hb)), pu rfl, pf rfl, pf rfl, pf rfl, pu rfl, pu rfl, pf rfl, pf rfl, pf rfl, pf rfl, pf rfl, pu rfl, pu rfl, pf rfl, pf rfl, pf rfl, pf rfl, pf rfl, pf rfl, pf rfl, pf rfl, pf rfl, pf rfl, pf rfl, pf rfl, pf rfl, pu rfl, trivial⟩
  intro s2 w2 h; have HS2 := Aside0.mk h; clear h HS1
  refine tlP (v := .bool false) 4 rfl ?_
  simp only [Act.put, setIfInBounds_toArray, set_cons_zero, set_cons_succ]
  refine tl0 ?_
  refine wp_ret ?_
  go_ret
  exact ⟨by first | rfl | simp, HS2.out.hb⟩
set_option maxHeartbeats 8000000 in
set_option maxRecDepth 100000 in
theorem impl_Memory_hasWindow_w1 (A0_0 : Option Addr) (c0_0 : Nat) (l0_0 : List (List Int)) (a1_0 : Int) (a1_1 : Int) (a1_2 : Int) (a1_3 : Int) (w : World) (hr0_0 : Kd.C (Kd.slice 5 (Kd.int .u8)) w A0_0 l0_0.length l0_0) (hc0_0 : l0_0.length ≤ c0_0) (H1 : impl_Memory_hasArray.f l0_0 a1_0 = some true) (H2 : impl_within.f a1_3 0 64 = some false) :
    Calls Try.prog 141 #[.agg #[.slice A0_0 l0_0.length c0_0], .agg #[.int .i64 a1_0, .int .i64 a1_1, .int .i64 a1_2, .int .i64 a1_3]] w fun e w' => e = .returned (.bool false) ∧ Below w.heap.size w w' := by
  have HR0_0 := Aside0.mk hr0_0; have HC0_0 := Aside0.mk hc0_0; clear hr0_0 hc0_0
  have H1_ := Aside0.mk H1; clear H1; have H1 := H1_; clear H1_
  have H2_ := Aside0.mk H2; clear H2; have H2 := H2_; clear H2_
  have HS0 : Aside0 (Stk w [] w) := ⟨Stk.nil w⟩
  go_enter Try.func141, Try.ntmps141
  refine reg (aF := ?_) (nw := ?_) [evB 0 2 [] 26 (fun s => #[.slice A0_0 l0_0.length c0_0]) 9999 [] (fun s => #[.slice A0_0 l0_0.length c0_0]), evB 1 3 [] 48 (fun s => #[.int .i64 a1_0, .int .i64 a1_1, .int .i64 a1_2, .int .i64 a1_3]) 9999 [] (fun s => #[.int .i64 a1_0, .int .i64 a1_1, .int .i64 a1_2, .int .i64 a1_3]), evP 2 4 [] (fun s => .bool false)] [] [] false 3 rfl rfl (by kernel_rfl) rfl (mf0) ?aF ?nw HS0.out ?hs ?_
  rotate_left 2
  case aF => intro s; simp only [putE, EvT.val, Act.put, setIfInBounds_toArray, set_cons_zero, set_cons_succ]; rfl
  case nw => intro s; simp only [thA, bsA, List.nil_append, List.cons_append, List.append_nil, if_true, if_false, Nat.reduceLT, set_cons_zero, set_cons_succ]; rfl
  case hs => exact ⟨bv rfl (fun s w => by go_simp; try rfl), bv rfl (fun s w => by go_simp; try rfl), pu rfl, trivial⟩
  intro s1 w1 h; have HS1 := Aside0.mk h; clear h HS0
  refine tl0 ?_
  refine reg0 (aF := ?_) [evL 0 5 [] (fun s => .agg #[.slice A0_0 l0_0.length c0_0]), evP 1 6 [] (fun s => .pointer (some ⟨(s1 1).lo, 0, none⟩)), evL 2 7 [] (fun s => .int .i64 a1_0), evC 3 (some 8) [] (fun s x => .bool true) (fun s x => []), evP 4 9 [] (fun s => .bool true), evP 5 10 [] (fun s => .pointer (some ⟨(s1 1).lo, 3, none⟩)), evL 6 11 [] (fun s => .int .i64 a1_3), evC 7 (some 12) [] (fun s x => .bool false) (fun s x => []), evP 8 13 [] (fun s => .bool false), evP 9 14 [] (fun s => .bool false), evP 10 15 [] (fun s => undef), evP 11 16 [] (fun s => undef), evP 12 17 [] (fun s => undef), evP 13 18 [] (fun s => undef), evP 14 19 [] (fun s => undef), evP 15 20 [] (fun s => .bool false), evP 16 21 [] (fun s => .bool false), evP 17 22 [] (fun s => undef), evP 18 23 [] (fun s => undef), evP 19 24 [] (fun s => undef), evP 20 25 [] (fun s => undef), evP 21 26 [] (fun s => undef), evP 22 27 [] (fun s => undef), evP 23 28 [] (fun s => undef), evP 24 29 [] (fun s => undef), evP 25 30 [] (fun s => undef), evP 26 31 [] (fun s => undef), evP 27 32 [] (fun s => undef), evP 28 33 [] (fun s => undef), evP 29 34 [] (fun s => undef), evP 30 35 [] (fun s => .bool false)] [31] true 32 rfl rfl (by kernel_rfl) rfl (fun _ => rfl) ?aF HS1.out ?hs ?_
  rotate_left 1
  case aF => intro s; simp only [putE, EvT.val, Act.put, setIfInBounds_toArray, set_cons_zero, set_cons_succ]; rfl
  case hs => exact ⟨ld rfl 0 (fun s => rfl) (fun s w h => by have h0 := h 0 _ rfl; clear h; go_simp; try rfl), pu rfl (hr := fun s w => by go_simp; try rfl), ld rfl 1 (fun s => rfl) (fun s w h => by have h0 := h 0 _ rfl; have h1 := h 1 _ rfl; have h2 := h 2 _ rfl; have h3 := h 3 _ rfl; clear h; go_simp; try rfl), cl rfl (fun s => #[.agg #[.slice A0_0 l0_0.length c0_0], .int .i64 a1_0]) Try.func155 (fun s w1 h => (impl_Memory_hasArray.calls _ _ _ _ _ _ (Kd.C_below HR0_0.out h.hb) HC0_0.out H1.out).mono (by rintro e w2 ⟨rfl, hb⟩; exact fin0 hb)), pu rfl, pu rfl (hr := fun s w => by go_simp; try rfl), ld rfl 1 (fun s => rfl) (fun s w h => by have h0 := h 0 _ rfl; have h1 := h 1 _ rfl; have h2 := h 2 _ rfl; have h3 := h 3 _ rfl; clear h; go_simp; try rfl), cl rfl (fun s => #[.int .i64 a1_3, .int .i64 0, .int .i64 64]) Try.func135 (fun s w1 h => (impl_within.calls _ _ _ _ _ H2.out).mono (by rintro e w2 ⟨rfl, hd⟩; exact fin0 hd.below)), pu rfl, pu rfl, pf rfl, pf rfl, pf rfl, pf rfl, pf rfl, pu rfl, pu rfl, pf rfl, pf rfl, pf rfl, pf rfl, pf rfl, pf rfl, pf rfl, pf rfl, pf rfl, pf rfl, pf rfl, pf rfl, pf rfl, pu rfl, trivial⟩
  intro s2 w2 h; have HS2 := Aside0.mk h; clear h HS1
  refine tlP (v := .bool false) 4 rfl ?_
  simp only [Act.put, setIfInBounds_toArray, set_cons_zero, set_cons_succ]
  refine tl0 ?_
  refine wp_ret ?_
  go_ret
  exact ⟨by first | rfl | simp, HS2.out.hb⟩
set_option maxHeartbeats 8000000 in
set_option maxRecDepth 100000 in
theorem impl_Memory_hasWindow_w2 (A0_0 : Option Addr) (c0_0 : Nat) (l0_0 : List (List Int)) (a1_0 : Int) (a1_1 : Int) (a1_2 : Int) (a1_3 : Int) (w : World) (hr0_0 : Kd.C (Kd.slice 5 (Kd.int .u8)) w A0_0 l0_0.length l0_0) (hc0_0 : l0_0.length ≤ c0_0) (H1 : impl_Memory_hasArray.f l0_0 a1_0 = some true) (H2 : impl_within.f a1_3 0 64 = some true) (H3 : impl_within.f a1_2 0 a1_3 = some false) :
    Calls Try.prog 141 #[.agg #[.slice A0_0 l0_0.length c0_0], .agg #[.int .i64 a1_0, .int .i64 a1_1, .int .i64 a1_2, .int .i64 a1_3]] w fun e w' => e = .returned (.bool false) ∧ Below w.heap.size w w' := by
  have HR0_0 := Aside0.mk hr0_0; have HC0_0 := Aside0.mk hc0_0; clear hr0_0 hc0_0
  have H1_ := Aside0.mk H1; clear H1; have H1 := H1_; clear H1_
  have H2_ := Aside0.mk H2; clear H2; have H2 := H2_; clear H2_
  have H3_ := Aside0.mk H3; clear H3; have H3 := H3_; clear H3_
  have HS0 : Aside0 (Stk w [] w) := ⟨Stk.nil w⟩
  go_enter Try.func141, Try.ntmps141
  refine reg (aF := ?_) (nw := ?_) [evB 0 2 [] 26 (fun s => #[.slice A0_0 l0_0.length c0_0]) 9999 [] (fun s => #[.slice A0_0 l0_0.length c0_0]), evB 1 3 [] 48 (fun s => #[.int .i64 a1_0, .int .i64 a1_1, .int .i64 a1_2, .int .i64 a1_3]) 9999 [] (fun s => #[.int .i64 a1_0, .int .i64 a1_1, .int .i64 a1_2, .int .i64 a1_3]), evP 2 4 [] (fun s => .bool false)] [] [] false 3 rfl rfl (by kernel_rfl) rfl (mf0) ?aF ?nw HS0.out ?hs ?_
  rotate_left 2
  case aF => intro s; simp only [putE, EvT.val, Act.put, setIfInBounds_toArray, set_cons_zero, set_cons_succ]; rfl
  case nw => intro s; simp only [thA, bsA, List.nil_append, List.cons_append, List.append_nil, if_true, if_false, Nat.reduceLT, set_cons_zero, set_cons_succ]; rfl
  case hs => exact ⟨bv rfl (fun s w => by go_simp; try rfl), bv rfl (fun s w => by go_simp; try rfl), pu rfl, trivial⟩
  intro s1 w1 h; have HS1 := Aside0.mk h; clear h HS0
  refine tl0 ?_
  refine reg0 (aF := ?_) [evL 0 5 [] (fun s => .agg #[.slice A0_0 l0_0.length c0_0]), evP 1 6 [] (fun s => .pointer (some ⟨(s1 1).lo, 0, none⟩)), evL 2 7 [] (fun s => .int .i64 a1_0), evC 3 (some 8) [] (fun s x => .bool true) (fun s x => []), evP 4 9 [] (fun s => .bool true), evP 5 10 [] (fun s => .pointer (some ⟨(s1 1).lo, 3, none⟩)), evL 6 11 [] (fun s => .int .i64 a1_3), evC 7 (some 12) [] (fun s x => .bool true) (fun s x => []), evP 8 13 [] (fun s => .bool true), evP 9 14 [] (fun s => .bool true), evP 10 15 [] (fun s => .pointer (some ⟨(s1 1).lo, 2, none⟩)), evL 11 16 [] (fun s => .int .i64 a1_2), evP 12 17 [] (fun s => .pointer (some ⟨(s1 1).lo, 3, none⟩)), evL 13 18 [] (fun s => .int .i64 a1_3), evC 14 (some 19) [] (fun s x => .bool false) (fun s x => []), evP 15 20 [] (fun s => .bool false), evP 16 21 [] (fun s => .bool false), evP 17 22 [] (fun s => undef), evP 18 23 [] (fun s => undef), evP 19 24 [] (fun s => undef), evP 20 25 [] (fun s => undef), evP 21 26 [] (fun s => undef), evP 22 27 [] (fun s => undef), evP 23 28 [] (fun s => undef), evP 24 29 [] (fun s => undef), evP 25 30 [] (fun s => undef), evP 26 31 [] (fun s => undef), evP 27 32 [] (fun s => undef), evP 28 33 [] (fun s => undef), evP 29 34 [] (fun s => undef), evP 30 35 [] (fun s => .bool false)] [31] true 32 rfl rfl (by kernel_rfl) rfl (fun _ => rfl) ?aF HS1.out ?hs ?_
  rotate_left 1
  case aF => intro s; simp only [putE, EvT.val, Act.put, setIfInBounds_toArray, set_cons_zero, set_cons_succ]; rfl
  case hs => exact ⟨ld rfl 0 (fun s => rfl) (fun s w h => by have h0 := h 0 _ rfl; clear h; go_simp; try rfl), pu rfl (hr := fun s w => by go_simp; try rfl), ld rfl 1 (fun s => rfl) (fun s w h => by have h0 := h 0 _ rfl; have h1 := h 1 _ rfl; have h2 := h 2 _ rfl; have h3 := h 3 _ rfl; clear h; go_simp; try rfl), cl rfl (fun s => #[.agg #[.slice A0_0 l0_0.length c0_0], .int .i64 a1_0]) Try.func155 (fun s w1 h => (impl_Memory_hasArray.calls _ _ _ _ _ _ (Kd.C_below HR0_0.out h.hb) HC0_0.out H1.out).mono (by rintro e w2 ⟨rfl, hb⟩; exact fin0 hb)), pu rfl, pu rfl (hr := fun s w => by go_simp; try rfl), ld rfl 1 (fun s => rfl) (fun s w h => by have h0 := h 0 _ rfl; have h1 := h 1 _ rfl; have h2 := h 2 _ rfl; have h3 := h 3 _ rfl; clear h; go_simp; try rfl), cl rfl (fun s => #[.int .i64 a1_3, .int .i64 0, .int .i64 64]) Try.func135 (fun s w1 h => (impl_within.calls _ _ _ _ _ H2.out).mono (by rintro e w2 ⟨rfl, hd⟩; exact fin0 hd.below)), pu rfl, pu rfl, pu rfl (hr := fun s w => by go_simp; try rfl), ld rfl 1 (fun s => rfl) (fun s w h => by have h0 := h 0 _ rfl; have h1 := h 1 _ rfl; have h2 := h 2 _ rfl; have h3 := h 3 _ rfl; clear h; go_simp; try rfl), pu rfl (hr := fun s w => by go_simp; try rfl), ld rfl 1 (fun s => rfl) (fun s w h => by have h0 := h 0 _ rfl; have h1 := h 1 _ rfl; have h2 := h 2 _ rfl; have h3 := h 3 _ rfl; clear h; go_simp; try rfl), cl rfl (fun s => #[.int .i64 a1_2, .int .i64 0, .int .i64 a1_3]) Try.func135 (fun s w1 h => (impl_within.calls _ _ _ _ _ H3.out).mono (by rintro e w2 ⟨rfl, hd⟩; exact fin0 hd.below)), pu rfl, pu rfl, pf rfl, pf rfl, pf rfl, pf rfl, pf rfl, pf rfl, pf rfl, pf rfl, pf rfl, pf rfl, pf rfl, pf rfl, pf rfl, pu rfl, trivial⟩
  intro s2 w2 h; have HS2 := Aside0.mk h; clear h HS1
  refine tlP (v := .bool false) 4 rfl ?_
  simp only [Act.put, setIfInBounds_toArray, set_cons_zero, set_cons_succ]
  refine tl0 ?_
  refine wp_ret ?_
  go_ret
  exact ⟨by first | rfl | simp, HS2.out.hb⟩
set_option maxHeartbeats 8000000 in
set_option maxRecDepth 100000 in
theorem impl_Memory_hasWindow_w3 (ge : Addr) (c0_0 : Nat) (l0_0 : List (List Int)) (a1_0 : Int) (a1_1 : Int) (a1_2 : Int) (a1_3 : Int) (Xe : Option Addr) (cape : Nat) (row : List Int) (w : World) (hr0_0 : Kd.C (Kd.slice 5 (Kd.int .u8)) w (some ge) l0_0.length l0_0) (hc0_0 : l0_0.length ≤ c0_0) (hel : w.cell? (ge.add a1_0.toNat) = some (.slice Xe row.length cape)) (H1 : impl_Memory_hasArray.f l0_0 a1_0 = some true) (H2 : impl_within.f a1_3 0 64 = some true) (H3 : impl_within.f a1_2 0 a1_3 = some true) (H4 : impl_within.f a1_1 0 ((row.length : Int) - a1_3) = some false) (F0 : 0 ≤ a1_0) (F1 : a1_0 < (l0_0.length : Int)) (F2 : 0 ≤ a1_3) (F3 : a1_3 ≤ 64) (F4 : row.length ≤ 9223372036854775807) :
    Calls Try.prog 141 #[.agg #[.slice (some ge) l0_0.length c0_0], .agg #[.int .i64 a1_0, .int .i64 a1_1, .int .i64 a1_2, .int .i64 a1_3]] w fun e w' => e = .returned (.bool false) ∧ Below w.heap.size w w' := by
  have HR0_0 := Aside0.mk hr0_0; have HC0_0 := Aside0.mk hc0_0; clear hr0_0 hc0_0
  have HEL := Aside0.mk hel; clear hel
  have H1_ := Aside0.mk H1; clear H1; have H1 := H1_; clear H1_
  have H2_ := Aside0.mk H2; clear H2; have H2 := H2_; clear H2_
  have H3_ := Aside0.mk H3; clear H3; have H3 := H3_; clear H3_
  have H4_ := Aside0.mk H4; clear H4; have H4 := H4_; clear H4_
  have HS0 : Aside0 (Stk w [] w) := ⟨Stk.nil w⟩
  go_enter Try.func141, Try.ntmps141
  refine reg (aF := ?_) (nw := ?_) [evB 0 2 [] 26 (fun s => #[.slice (some ge) l0_0.length c0_0]) 9999 [] (fun s => #[.slice (some ge) l0_0.length c0_0]), evB 1 3 [] 48 (fun s => #[.int .i64 a1_0, .int .i64 a1_1, .int .i64 a1_2, .int .i64 a1_3]) 9999 [] (fun s => #[.int .i64 a1_0, .int .i64 a1_1, .int .i64 a1_2, .int .i64 a1_3]), evP 2 4 [] (fun s => .bool false)] [] [] false 3 rfl rfl (by kernel_rfl) rfl (mf0) ?aF ?nw HS0.out ?hs ?_
  rotate_left 2
  case aF => intro s; simp only [putE, EvT.val, Act.put, setIfInBounds_toArray, set_cons_zero, set_cons_succ]; rfl
  case nw => intro s; simp only [thA, bsA, List.nil_append, List.cons_append, List.append_nil, if_true, if_false, Nat.reduceLT, set_cons_zero, set_cons_succ]; rfl
  case hs => exact ⟨bv rfl (fun s w => by go_simp; try rfl), bv rfl (fun s w => by go_simp; try rfl), pu rfl, trivial⟩
  intro s1 w1 h; have HS1 := Aside0.mk h; clear h HS0
  refine tl0 ?_
  refine reg0 (aF := ?_) [evL 0 5 [] (fun s => .agg #[.slice (some ge) l0_0.length c0_0]), evP 1 6 [] (fun s => .pointer (some ⟨(s1 1).lo, 0, none⟩)), evL 2 7 [] (fun s => .int .i64 a1_0), evC 3 (some 8) [] (fun s x => .bool true) (fun s x => []), evP 4 9 [] (fun s => .bool true), evP 5 10 [] (fun s => .pointer (some ⟨(s1 1).lo, 3, none⟩)), evL 6 11 [] (fun s => .int .i64 a1_3), evC 7 (some 12) [] (fun s x => .bool true) (fun s x => []), evP 8 13 [] (fun s => .bool true), evP 9 14 [] (fun s => .bool true), evP 10 15 [] (fun s => .pointer (some ⟨(s1 1).lo, 2, none⟩)), evL 11 16 [] (fun s => .int .i64 a1_2), evP 12 17 [] (fun s => .pointer (some ⟨(s1 1).lo, 3, none⟩)), evL 13 18 [] (fun s => .int .i64 a1_3), evC 14 (some 19) [] (fun s x => .bool true) (fun s x => []), evP 15 20 [] (fun s => .bool true), evP 16 21 [] (fun s => .bool true), evP 17 22 [] (fun s => .pointer (some ⟨(s1 1).lo, 1, none⟩)), evR 18 23 1 (fun s => .int .i64 a1_1), evP 19 24 [] (fun s => .pointer (some ⟨(s1 0).lo, 0, none⟩)), evL 20 25 [] (fun s => .slice (some ge) l0_0.length c0_0), evP 21 26 [] (fun s => .pointer (some ⟨(s1 1).lo, 0, none⟩)), evL 22 27 [] (fun s => .int .i64 a1_0), evP 23 28 [] (fun s => .pointer (some (ge.add a1_0.toNat))), evL 24 29 [] (fun s => .slice Xe row.length cape), evP 25 30 [] (fun s => .int .i64 (row.length : Int)), evP 26 31 [] (fun s => .pointer (some ⟨(s1 1).lo, 3, none⟩)), evL 27 32 [] (fun s => .int .i64 a1_3), evP 28 33 [] (fun s => .int .i64 ((row.length : Int) - a1_3)), evC 29 (some 34) [] (fun s x => .bool false) (fun s x => []), evP 30 35 [] (fun s => .bool false)] [31] true 32 rfl rfl (by kernel_rfl) rfl (fun _ => rfl) ?aF HS1.out ?hs ?_
  rotate_left 1
  case aF => intro s; simp only [putE, EvT.val, Act.put, setIfInBounds_toArray, set_cons_zero, set_cons_succ]; rfl
  case hs => exact ⟨ld rfl 0 (fun s => rfl) (fun s w h => by have h0 := h 0 _ rfl; clear h; go_simp; try rfl), pu rfl (hr := fun s w => by go_simp; try rfl), ld rfl 1 (fun s => rfl) (fun s w h => by have h0 := h 0 _ rfl; have h1 := h 1 _ rfl; have h2 := h 2 _ rfl; have h3 := h 3 _ rfl; clear h; go_simp; try rfl), cl rfl (fun s => #[.agg #[.slice (some ge) l0_0.length c0_0], .int .i64 a1_0]) Try.func155 (fun s w1 h => (impl_Memory_hasArray.calls _ _ _ _ _ _ (Kd.C_below HR0_0.out h.hb) HC0_0.out H1.out).mono (by rintro e w2 ⟨rfl, hb⟩; exact fin0 hb)), pu rfl, pu rfl (hr := fun s w => by go_simp; try rfl), ld rfl 1 (fun s => rfl) (fun s w h => by have h0 := h 0 _ rfl; have h1 := h 1 _ rfl; have h2 := h 2 _ rfl; have h3 := h 3 _ rfl; clear h; go_simp; try rfl), cl rfl (fun s => #[.int .i64 a1_3, .int .i64 0, .int .i64 64]) Try.func135 (fun s w1 h => (impl_within.calls _ _ _ _ _ H2.out).mono (by rintro e w2 ⟨rfl, hd⟩; exact fin0 hd.below)), pu rfl, pu rfl, pu rfl (hr := fun s w => by go_simp; try rfl), ld rfl 1 (fun s => rfl) (fun s w h => by have h0 := h 0 _ rfl; have h1 := h 1 _ rfl; have h2 := h 2 _ rfl; have h3 := h 3 _ rfl; clear h; go_simp; try rfl), pu rfl (hr := fun s w => by go_simp; try rfl), ld rfl 1 (fun s => rfl) (fun s w h => by have h0 := h 0 _ rfl; have h1 := h 1 _ rfl; have h2 := h 2 _ rfl; have h3 := h 3 _ rfl; clear h; go_simp; try rfl), cl rfl (fun s => #[.int .i64 a1_2, .int .i64 0, .int .i64 a1_3]) Try.func135 (fun s w1 h => (impl_within.calls _ _ _ _ _ H3.out).mono (by rintro e w2 ⟨rfl, hd⟩; exact fin0 hd.below)), pu rfl, pu rfl, pu rfl (hr := fun s w => by go_simp; try rfl), lr rfl 1 rfl (fun s w h => by have h0 := h 0 _ rfl; have h1 := h 1 _ rfl; have h2 := h 2 _ rfl; have h3 := h 3 _ rfl; clear h; go_simp; try rfl), pu rfl (hr := fun s w => by go_simp; try rfl), ld rfl 0 (fun s => rfl) (fun s w h => by have h0 := h 0 _ rfl; clear h; go_simp; try rfl), pu rfl (hr := fun s w => by go_simp; try rfl), ld rfl 1 (fun s => rfl) (fun s w h => by have h0 := h 0 _ rfl; have h1 := h 1 _ rfl; have h2 := h 2 _ rfl; have h3 := h 3 _ rfl; clear h; go_simp; try rfl), pu rfl (hr := fun s w => by go_simp; try rfl), lo rfl (one_at HEL.out) (fun s w h => by have h0 := h 0 _ rfl; clear h; go_simp; try rfl), pu rfl (hr := fun s w => by go_simp; try rfl), pu rfl (hr := fun s w => by go_simp; try rfl), ld rfl 1 (fun s => rfl) (fun s w h => by have h0 := h 0 _ rfl; have h1 := h 1 _ rfl; have h2 := h 2 _ rfl; have h3 := h 3 _ rfl; clear h; go_simp; try rfl), pa .sub (r := (row.length : Int) - a1_3) (.inr (.inl ⟨rfl, (i64_ok (n := (row.length : Int) - a1_3) (by omega) (by omega))⟩)) rfl, cl rfl (fun s => #[.int .i64 a1_1, .int .i64 0, .int .i64 ((row.length : Int) - a1_3)]) Try.func135 (fun s w1 h => (impl_within.calls _ _ _ _ _ H4.out).mono (by rintro e w2 ⟨rfl, hd⟩; exact fin0 hd.below)), pu rfl, trivial⟩
  intro s2 w2 h; have HS2 := Aside0.mk h; clear h HS1
  refine tlP (v := .bool false) 4 rfl ?_
  simp only [Act.put, setIfInBounds_toArray, set_cons_zero, set_cons_succ]
  refine tl0 ?_
  refine wp_ret ?_
  go_ret
  exact ⟨by first | rfl | simp, HS2.out.hb⟩
set_option maxHeartbeats 8000000 in
set_option maxRecDepth 100000 in
theorem impl_Memory_hasWindow_w4 (ge : Addr) (c0_0 : Nat) (l0_0 : List (List Int)) (a1_0 : Int) (a1_1 : Int) (a1_2 : Int) (a1_3 : Int) (Xe : Option Addr) (cape : Nat) (row : List Int) (w : World) (hr0_0 : Kd.C (Kd.slice 5 (Kd.int .u8)) w (some ge) l0_0.length l0_0) (hc0_0 : l0_0.length ≤ c0_0) (hel : w.cell? (ge.add a1_0.toNat) = some (.slice Xe row.length cape)) (H1 : impl_Memory_hasArray.f l0_0 a1_0 = some true) (H2 : impl_within.f a1_3 0 64 = some true) (H3 : impl_within.f a1_2 0 a1_3 = some true) (H4 : impl_within.f a1_1 0 ((row.length : Int) - a1_3) = some true) (F0 : 0 ≤ a1_0) (F1 : a1_0 < (l0_0.length : Int)) (F2 : 0 ≤ a1_3) (F3 : a1_3 ≤ 64) (F4 : row.length ≤ 9223372036854775807) :
    Calls Try.prog 141 #[.agg #[.slice (some ge) l0_0.length c0_0], .agg #[.int .i64 a1_0, .int .i64 a1_1, .int .i64 a1_2, .int .i64 a1_3]] w fun e w' => e = .returned (.bool true) ∧ Below w.heap.size w w' := by
  have HR0_0 := Aside0.mk hr0_0; have HC0_0 := Aside0.mk hc0_0; clear hr0_0 hc0_0
  have HEL := Aside0.mk hel; clear hel
  have H1_ := Aside0.mk H1; clear H1; have H1 := H1_; clear H1_
  have H2_ := Aside0.mk H2; clear H2; have H2 := H2_; clear H2_
  have H3_ := Aside0.mk H3; clear H3; have H3 := H3_; clear H3_
  have H4_ := Aside0.mk H4; clear H4; have H4 := H4_; clear H4_
  have HS0 : Aside0 (Stk w [] w) := ⟨Stk.nil w⟩
  go_enter Try.func141, Try.ntmps141
  refine reg (aF := ?_) (nw := ?_) [evB 0 2 [] 26 (fun s => #[.slice (some ge) l0_0.length c0_0]) 9999 [] (fun s => #[.slice (some ge) l0_0.length c0_0]), evB 1 3 [] 48 (fun s => #[.int .i64 a1_0, .int .i64 a1_1, .int .i64 a1_2, .int .i64 a1_3]) 9999 [] (fun s => #[.int .i64 a1_0, .int .i64 a1_1, .int .i64 a1_2, .int .i64 a1_3]), evP 2 4 [] (fun s => .bool false)] [] [] false 3 rfl rfl (by kernel_rfl) rfl (mf0) ?aF ?nw HS0.out ?hs ?_
  rotate_left 2
  case aF => intro s; simp only [putE, EvT.val, Act.put, setIfInBounds_toArray, set_cons_zero, set_cons_succ]; rfl
  case nw => intro s; simp only [thA, bsA, List.nil_append, List.cons_append, List.append_nil, if_true, if_false, Nat.reduceLT, set_cons_zero, set_cons_succ]; rfl
  case hs => exact ⟨bv rfl (fun s w => by go_simp; try rfl), bv rfl (fun s w => by go_simp; try rfl), pu rfl, trivial⟩
  intro s1 w1 h; have HS1 := Aside0.mk h; clear h HS0
  refine tl0 ?_
  refine reg0 (aF := ?_) [evL 0 5 [] (fun s => .agg #[.slice (some ge) l0_0.length c0_0]), evP 1 6 [] (fun s => .pointer (some ⟨(s1 1).lo, 0, none⟩)), evL 2 7 [] (fun s => .int .i64 a1_0), evC 3 (some 8) [] (fun s x => .bool true) (fun s x => []), evP 4 9 [] (fun s => .bool true), evP 5 10 [] (fun s => .pointer (some ⟨(s1 1).lo, 3, none⟩)), evL 6 11 [] (fun s => .int .i64 a1_3), evC 7 (some 12) [] (fun s x => .bool true) (fun s x => []), evP 8 13 [] (fun s => .bool true), evP 9 14 [] (fun s => .bool true), evP 10 15 [] (fun s => .pointer (some ⟨(s1 1).lo, 2, none⟩)), evL 11 16 [] (fun s => .int .i64 a1_2), evP 12 17 [] (fun s => .pointer (some ⟨(s1 1).lo, 3, none⟩)), evL 13 18 [] (fun s => .int .i64 a1_3), evC 14 (some 19) [] (fun s x => .bool true) (fun s x => []), evP 15 20 [] (fun s => .bool true), evP 16 21 [] (fun s => .bool true), evP 17 22 [] (fun s => .pointer (some ⟨(s1 1).lo, 1, none⟩)), evR 18 23 1 (fun s => .int .i64 a1_1), evP 19 24 [] (fun s => .pointer (some ⟨(s1 0).lo, 0, none⟩)), evL 20 25 [] (fun s => .slice (some ge) l0_0.length c0_0), evP 21 26 [] (fun s => .pointer (some ⟨(s1 1).lo, 0, none⟩)), evL 22 27 [] (fun s => .int .i64 a1_0), evP 23 28 [] (fun s => .pointer (some (ge.add a1_0.toNat))), evL 24 29 [] (fun s => .slice Xe row.length cape), evP 25 30 [] (fun s => .int .i64 (row.length : Int)), evP 26 31 [] (fun s => .pointer (some ⟨(s1 1).lo, 3, none⟩)), evL 27 32 [] (fun s => .int .i64 a1_3), evP 28 33 [] (fun s => .int .i64 ((row.length : Int) - a1_3)), evC 29 (some 34) [] (fun s x => .bool true) (fun s x => []), evP 30 35 [] (fun s => .bool true)] [31] true 32 rfl rfl (by kernel_rfl) rfl (fun _ => rfl) ?aF HS1.out ?hs ?_
  rotate_left 1
  case aF => intro s; simp only [putE, EvT.val, Act.put, setIfInBounds_toArray, set_cons_zero, set_cons_succ]; rfl
  case hs => exact ⟨ld rfl 0 (fun s => rfl) (fun s w h => by have h0 := h 0 _ rfl; clear h; go_simp; try rfl), pu rfl (hr := fun s w => by go_simp; try rfl), ld rfl 1 (fun s => rfl) (fun s w h => by have h0 := h 0 _ rfl; have h1 := h 1 _ rfl; have h2 := h 2 _ rfl; have h3 := h 3 _ rfl; clear h; go_simp; try rfl), cl rfl (fun s => #[.agg #[.slice (some ge) l0_0.length c0_0], .int .i64 a1_0]) Try.func155 (fun s w1 h => (impl_Memory_hasArray.calls _ _ _ _ _ _ (Kd.C_below HR0_0.out h.hb) HC0_0.out H1.out).mono (by rintro e w2 ⟨rfl, hb⟩; exact fin0 hb)), pu rfl, pu rfl (hr := fun s w => by go_simp; try rfl), ld rfl 1 (fun s => rfl) (fun s w h => by have h0 := h 0 _ rfl; have h1 := h 1 _ rfl; have h2 := h 2 _ rfl; have h3 := h 3 _ rfl; clear h; go_simp; try rfl), cl rfl (fun s => #[.int .i64 a1_3, .int .i64 0, .int .i64 64]) Try.func135 (fun s w1 h => (impl_within.calls _ _ _ _ _ H2.out).mono (by rintro e w2 ⟨rfl, hd⟩; exact fin0 hd.below)), pu rfl, pu rfl, pu rfl (hr := fun s w => by go_simp; try rfl), ld rfl 1 (fun s => rfl) (fun s w h => by have h0 := h 0 _ rfl; have h1 := h 1 _ rfl; have h2 := h 2 _ rfl; have h3 := h 3 _ rfl; clear h; go_simp; try rfl), pu rfl (hr := fun s w => by go_simp; try rfl), ld rfl 1 (fun s => rfl) (fun s w h => by have h0 := h 0 _ rfl; have h1 := h 1 _ rfl; have h2 := h 2 _ rfl; have h3 := h 3 _ rfl; clear h; go_simp; try rfl), cl rfl (fun s => #[.int .i64 a1_2, .int .i64 0, .int .i64 a1_3]) Try.func135 (fun s w1 h => (impl_within.calls _ _ _ _ _ H3.out).mono (by rintro e w2 ⟨rfl, hd⟩; exact fin0 hd.below)), pu rfl, pu rfl, pu rfl (hr := fun s w => by go_simp; try rfl), lr rfl 1 rfl (fun s w h => by have h0 := h 0 _ rfl; have h1 := h 1 _ rfl; have h2 := h 2 _ rfl; have h3 := h 3 _ rfl; clear h; go_simp; try rfl), pu rfl (hr := fun s w => by go_simp; try rfl), ld rfl 0 (fun s => rfl) (fun s w h => by have h0 := h 0 _ rfl; clear h; go_simp; try rfl), pu rfl (hr := fun s w => by go_simp; try rfl), ld rfl 1 (fun s => rfl) (fun s w h => by have h0 := h 0 _ rfl; have h1 := h 1 _ rfl; have h2 := h 2 _ rfl; have h3 := h 3 _ rfl; clear h; go_simp; try rfl), pu rfl (hr := fun s w => by go_simp; try rfl), lo rfl (one_at HEL.out) (fun s w h => by have h0 := h 0 _ rfl; clear h; go_simp; try rfl), pu rfl (hr := fun s w => by go_simp; try rfl), pu rfl (hr := fun s w => by go_simp; try rfl), ld rfl 1 (fun s => rfl) (fun s w h => by have h0 := h 0 _ rfl; have h1 := h 1 _ rfl; have h2 := h 2 _ rfl; have h3 := h 3 _ rfl; clear h; go_simp; try rfl), pa .sub (r := (row.length : Int) - a1_3) (.inr (.inl ⟨rfl, (i64_ok (n := (row.length : Int) - a1_3) (by omega) (by omega))⟩)) rfl, cl rfl (fun s => #[.int .i64 a1_1, .int .i64 0, .int .i64 ((row.length : Int) - a1_3)]) Try.func135 (fun s w1 h => (impl_within.calls _ _ _ _ _ H4.out).mono (by rintro e w2 ⟨rfl, hd⟩; exact fin0 hd.below)), pu rfl, trivial⟩
  intro s2 w2 h; have HS2 := Aside0.mk h; clear h HS1
  refine tlP (v := .bool true) 4 rfl ?_
  simp only [Act.put, setIfInBounds_toArray, set_cons_zero, set_cons_succ]
  refine tl0 ?_
  refine wp_ret ?_
  go_ret
  exact ⟨by first | rfl | simp, HS2.out.hb⟩
end Go.Proofs.Ytoomjghabiojkaa.P


/- (Memory).hasWindow: is a window one on a memory? -/
namespace Go.Proofs.Ytoomjghabiojkaa.P
open Go.RowKit Go.Proofs.YtoomjghabiojkaaW.PrintWords Go.Proofs.YtoomjghabiojkaaW.PrintLast Go.Proofs.YtoomjghabiojkaaW.PrintMore
set_option linter.unusedVariables false
set_option linter.unusedSimpArgs false
def winB (m : List (List Int)) (a s l c : Int) : Bool := decide (0 ≤ a ∧ a < m.length ∧ 0 ≤ c ∧ c ≤ 64 ∧ 0 ≤ l ∧ l ≤ c ∧ 0 ≤ s ∧ s ≤ ((rd_Lsu8 m a).length : Int) - c)
theorem hasArray_f (m : List (List Int)) (a : Int) (hm : m.length ≤ 9223372036854775807) : impl_Memory_hasArray.f m a = some (decide (0 ≤ a ∧ a < m.length)) := by
  unfold impl_Memory_hasArray.f
  rw [wrap_ok (by omega) (by omega), within_f, Option.bind_some]
  congr 1
  rw [decide_eq_decide]
  omega
def impl_Memory_hasWindow.f (m : List (List Int)) (a s l c : Int) : Option Bool := if m.length ≤ 9223372036854775807 ∧ (∀ x ∈ m, x.length ≤ 9223372036854775807) then some (winB m a s l c) else none
theorem hasWindow_f (m : List (List Int)) (a s l c : Int) (hm : m.length ≤ 9223372036854775807) (hx : ∀ x ∈ m, x.length ≤ 9223372036854775807) : impl_Memory_hasWindow.f m a s l c = some (winB m a s l c) := if_pos ⟨hm, hx⟩
theorem impl_Memory_hasWindow.calls (A0_0 : Option Addr) (c0_0 : Nat) (l0_0 : List (List Int)) (a1_0 : Int) (a1_1 : Int) (a1_2 : Int) (a1_3 : Int) (r : Bool) (w : World) (hr0_0 : Kd.C (Kd.slice 5 (Kd.int .u8)) w A0_0 l0_0.length l0_0) (hc0_0 : l0_0.length ≤ c0_0) (h : impl_Memory_hasWindow.f l0_0 a1_0 a1_1 a1_2 a1_3 = some r) :
    Calls Try.prog 141 #[.agg #[.slice A0_0 l0_0.length c0_0], .agg #[.int .i64 a1_0, .int .i64 a1_1, .int .i64 a1_2, .int .i64 a1_3]] w fun e w' => e = .returned (.bool r) ∧ Below w.heap.size w w' := by
  unfold impl_Memory_hasWindow.f at h
  split at h
  next hh =>
    obtain ⟨hm, hx⟩ := hh
    obtain rfl := Option.some.inj h
    have ha := hasArray_f l0_0 a1_0 hm
    by_cases h1 : 0 ≤ a1_0 ∧ a1_0 < l0_0.length
    · rw [decide_eq_true h1] at ha
      by_cases h2 : 0 ≤ a1_3 ∧ a1_3 ≤ 64
      · have hb := (within_f a1_3 0 64).trans (congrArg some (decide_eq_true h2))
        by_cases h3 : 0 ≤ a1_2 ∧ a1_2 ≤ a1_3
        · have hc := (within_f a1_2 0 a1_3).trans (congrArg some (decide_eq_true h3))
          obtain ⟨ad, A0, c0, rfl, hcell, hle, hC⟩ := at_Lsu8 hr0_0 a1_0 h1.1 h1.2
          have hl : (rd_Lsu8 l0_0 a1_0).length ≤ 9223372036854775807 := by
            unfold rd_Lsu8
            rw [List.getD_eq_getElem?_getD, List.getElem?_eq_getElem (show a1_0.toNat < l0_0.length by omega)]
            exact hx _ (List.getElem_mem _)
          have hd := within_f a1_1 0 (((rd_Lsu8 l0_0 a1_0).length : Int) - a1_3)
          by_cases h4 : 0 ≤ a1_1 ∧ a1_1 ≤ ((rd_Lsu8 l0_0 a1_0).length : Int) - a1_3
          · have e : winB l0_0 a1_0 a1_1 a1_2 a1_3 = true := decide_eq_true (by omega)
            rw [e]
            rw [decide_eq_true h4] at hd
            exact impl_Memory_hasWindow_w4 (hr0_0 := hr0_0) (hc0_0 := hc0_0) (hel := hcell) (H1 := ha) (H2 := hb) (H3 := hc) (H4 := hd) (F0 := h1.1) (F1 := h1.2) (F2 := h2.1) (F3 := h2.2) (F4 := hl)
          · have e : winB l0_0 a1_0 a1_1 a1_2 a1_3 = false := decide_eq_false (by omega)
            rw [e]
            rw [decide_eq_false h4] at hd
            exact impl_Memory_hasWindow_w3 (hr0_0 := hr0_0) (hc0_0 := hc0_0) (hel := hcell) (H1 := ha) (H2 := hb) (H3 := hc) (H4 := hd) (F0 := h1.1) (F1 := h1.2) (F2 := h2.1) (F3 := h2.2) (F4 := hl)
        · have e : winB l0_0 a1_0 a1_1 a1_2 a1_3 = false := decide_eq_false (by omega)
          rw [e]
          exact impl_Memory_hasWindow_w2 A0_0 c0_0 l0_0 a1_0 a1_1 a1_2 a1_3 w hr0_0 hc0_0 ha hb ((within_f a1_2 0 a1_3).trans (congrArg some (decide_eq_false h3)))
      · have e : winB l0_0 a1_0 a1_1 a1_2 a1_3 = false := decide_eq_false (by omega)
        rw [e]
        exact impl_Memory_hasWindow_w1 A0_0 c0_0 l0_0 a1_0 a1_1 a1_2 a1_3 w hr0_0 hc0_0 ha ((within_f a1_3 0 64).trans (congrArg some (decide_eq_false h2)))
    · have e : winB l0_0 a1_0 a1_1 a1_2 a1_3 = false := decide_eq_false (by omega)
      rw [e]
      rw [decide_eq_false h1] at ha
      exact impl_Memory_hasWindow_w0 A0_0 c0_0 l0_0 a1_0 a1_1 a1_2 a1_3 w hr0_0 hc0_0 ha
  next => cases h
end Go.Proofs.Ytoomjghabiojkaa.P


/- impl.areOn: a memory is valid and has all windows of a list. Its closure, slices.IndexFunc and slices.ContainsFunc over it. -/
namespace Go.Proofs.Ytoomjghabiojkaa.P
open Go.RowKit Go.Proofs.YtoomjghabiojkaaW.PrintWords Go.Proofs.YtoomjghabiojkaaW.PrintLast Go.Proofs.YtoomjghabiojkaaW.PrintMore
set_option linter.unusedVariables false
set_option linter.unusedSimpArgs false
def winW (m : List (List Int)) (x : SimplWindow) : Bool := winB m x.f0 x.f1 x.f2 x.f3
set_option maxHeartbeats 1600000 in
set_option maxRecDepth 100000 in
theorem areOn1_c (b : Nat) (A : Option Addr) (c : Nat) (m : List (List Int)) (x0 x1 x2 x3 : Int) (w : World) (hcell : w.cell? ⟨b, 0, none⟩ = some (.slice A m.length c)) (hr : Kd.C (Kd.slice 5 (Kd.int .u8)) w A m.length m) (hc : m.length ≤ c) :
    Calls Try.prog 140 #[.agg #[.int .i64 x0, .int .i64 x1, .int .i64 x2, .int .i64 x3], .pointer (some ⟨b, 0, none⟩)] w fun e w' => e = .returned (.bool (!winB m x0 x1 x2 x3)) ∧ Below w.heap.size w w' := by
  have HR := Aside0.mk hr
  have HC := Aside0.mk hc
  clear hr hc
  have hb := World.block_lt_of_cell? w _ hcell
  have HF := Aside0.mk (hasWindow_f m x0 x1 x2 x3 HR.out.2.1 (C_inner_len HR.out))
  go_enter Try.func140, Try.ntmps140
  go_wp2_with (go_at_call 141; refine (impl_Memory_hasWindow.calls A c m x0 x1 x2 x3 _ _ (Kd.C_below HR.out ((Below.refl _ _).alloc (Nat.le_refl _) _)) HC.out HF.out).mono ?_; rintro e w1 ⟨rfl, hB⟩)
  go_ret
  exact ⟨rfl, ((Below.refl _ _).alloc (Nat.le_refl _) _).trans (hB.mono (by simp))⟩
theorem rdW_eq (l : List SimplWindow) (i : Nat) (h : i < l.length) : rd_TimplWindow l (i : Int) = l[i] := by simp [rd_TimplWindow, h]
set_option maxHeartbeats 1600000 in
set_option maxRecDepth 100000 in
theorem areOnI_c (b : Nat) (A : Option Addr) (c : Nat) (m : List (List Int)) (A1 : Option Addr) (c1 : Nat) (l : List SimplWindow) (w : World) (hcell : w.cell? ⟨b, 0, none⟩ = some (.slice A m.length c)) (hr : Kd.C (Kd.slice 5 (Kd.int .u8)) w A m.length m) (hc : m.length ≤ c) (hr1 : Kd.C kimplWindow w A1 l.length l) :
    Calls Try.prog 139 #[.slice A1 l.length c1, .func (.func 140) #[] #[.pointer (some ⟨b, 0, none⟩)]] w fun e w' => (∃ r : Int, e = .returned (.int .i64 r) ∧ decide (r ≥ 0) = !(l.all (winW m))) ∧ Below w.heap.size w w' := by
  have HR := Aside0.mk hr
  have HC := Aside0.mk hc
  have HR1 := Aside0.mk hr1
  have HCELL := Aside0.mk hcell
  have HLEN := Aside0.mk hr1.2.1
  clear hr hc hr1 hcell
  go_enter Try.func139, Try.ntmps139
  go_wp2
  go_loopw [8] (fun v8 wr => ∃ i : Nat, i ≤ l.length ∧ v8 = .int .i64 (i : Int) ∧ Aside0 ((l.take i).all (winW m) = true) ∧ Aside0 (Below w.heap.size w wr)) (fun v8 _ => l.length - (intOf v8).toNat)
  case atStart => exact ⟨0, Nat.zero_le _, rfl, ⟨by simp⟩, ⟨Below.refl _ _⟩⟩
  case round =>
    obtain ⟨i, hi, rfl, HALL, HB⟩ := hrel
    have hlen := HLEN.out
    by_cases hlt : i < l.length
    · have hlt' : (i : Int) < (l.length : Int) := by omega
      have hi0 : (0 : Int) ≤ (i : Int) := by omega
      obtain ⟨ad, e, hx0, hx1, hx2, hx3⟩ := at_TimplWindow HR1.out (i : Int) hi0 hlt'
      cases e
      obtain ⟨x, ex⟩ : ∃ x, l[i] = x := ⟨_, rfl⟩
      rw [rdW_eq l i hlt, ex] at hx0 hx1 hx2 hx3
      have hy0 := (HB.out.cell (World.block_lt_of_cell? w _ hx0)).trans hx0
      have hy1 := (HB.out.cell (World.block_lt_of_cell? w _ hx1)).trans hx1
      have hy2 := (HB.out.cell (World.block_lt_of_cell? w _ hx2)).trans hx2
      have hy3 := (HB.out.cell (World.block_lt_of_cell? w _ hx3)).trans hx3
      clear hx0 hx1 hx2 hx3
      have EX := Aside0.mk ex
      clear ex
      have HY := Aside0.mk (areOn1_c b A c m x.f0 x.f1 x.f2 x.f3 wr ((HB.out.cell (World.block_lt_of_cell? w _ HCELL.out)).trans HCELL.out) (Kd.C_below HR.out HB.out) HC.out)
      rw [Int.toNat_natCast] at hy0 hy1 hy2 hy3
      by_cases hw : winB m x.f0 x.f1 x.f2 x.f3 = true
      · have HW := Aside0.mk hw
        clear hw
        go_wp2_with (go_at_call 140; refine HY.out.mono ?_; rintro e w1 ⟨rfl, hB1⟩; rw [HW.out]; have HB1 := Aside0.mk hB1; clear hB1)
        go_roundw
        case rel => exact ⟨i + 1, by omega, by go_num, ⟨by rw [List.take_succ_eq_append_getElem hlt, List.all_append, HALL.out, EX.out]; simp [winW, HW.out]⟩, ⟨below_step HB.out HB1.out⟩⟩
        case measure => simp [intOf]; omega
      · have HW := Aside0.mk (Bool.eq_false_iff.2 hw)
        clear hw
        go_wp2_with (go_at_call 140; refine HY.out.mono ?_; rintro e w1 ⟨rfl, hB1⟩; rw [HW.out]; have HB1 := Aside0.mk hB1; clear hB1)
        go_ret
        refine ⟨⟨_, rfl, ?_⟩, below_step HB.out HB1.out⟩
        have hall : l.all (winW m) = false := by
          rw [List.all_eq_false]
          exact ⟨x, by rw [← EX.out]; exact List.getElem_mem hlt, by simp [winW, HW.out]⟩
        rw [hall]
        simp
    · obtain rfl : i = l.length := by omega
      have HALL2 := Aside0.mk (by have := HALL.out; rwa [List.take_length] at this : l.all (winW m) = true)
      clear HALL
      go_wp2
      go_ret
      refine ⟨⟨_, rfl, ?_⟩, HB.out⟩
      rw [HALL2.out]
      simp
set_option maxHeartbeats 1600000 in
set_option maxRecDepth 100000 in
theorem areOnC_c (b : Nat) (A : Option Addr) (c : Nat) (m : List (List Int)) (A1 : Option Addr) (c1 : Nat) (l : List SimplWindow) (w : World) (hcell : w.cell? ⟨b, 0, none⟩ = some (.slice A m.length c)) (hr : Kd.C (Kd.slice 5 (Kd.int .u8)) w A m.length m) (hc : m.length ≤ c) (hr1 : Kd.C kimplWindow w A1 l.length l) :
    Calls Try.prog 85 #[.slice A1 l.length c1, .func (.func 140) #[] #[.pointer (some ⟨b, 0, none⟩)]] w fun e w' => e = .returned (.bool (!(l.all (winW m)))) ∧ Below w.heap.size w w' := by
  have HY := Aside0.mk (areOnI_c b A c m A1 c1 l w hcell hr hc hr1)
  clear hcell hr hc hr1
  go_enter Try.func85, Try.ntmps85
  go_wp2_with (go_at_call 139; refine HY.out.mono ?_; rintro e w1 ⟨⟨r, rfl, hr⟩, hB1⟩; have HR := Aside0.mk hr; clear hr)
  go_ret
  exact ⟨by rw [← HR.out]; rfl, hB1⟩
def impl_areOn.f (l0_0 : List (List Int)) (l1 : List SimplWindow) : Option Bool := some (memB l0_0 && l1.all (winW l0_0))
set_option maxHeartbeats 1600000 in
set_option maxRecDepth 100000 in
theorem impl_areOn.calls (A0_0 : Option Addr) (c0_0 : Nat) (l0_0 : List (List Int)) (A1 : Option Addr) (c1 : Nat) (l1 : List SimplWindow) (r : Bool) (w : World) (hr0_0 : Kd.C (Kd.slice 5 (Kd.int .u8)) w A0_0 l0_0.length l0_0) (hc0_0 : l0_0.length ≤ c0_0) (hr1 : Kd.C kimplWindow w A1 l1.length l1) (hc1 : l1.length ≤ c1) (h : impl_areOn.f l0_0 l1 = some r) :
    Calls Try.prog 90 #[.agg #[.slice A0_0 l0_0.length c0_0], .slice A1 l1.length c1] w fun e w' => e = .returned (.bool r) ∧ Below w.heap.size w w' := by
  have H := Aside0.mk (Option.some.inj h)
  clear h
  have HR := Aside0.mk hr0_0
  have HC := Aside0.mk hc0_0
  have HR1 := Aside0.mk hr1
  clear hr0_0 hc0_0 hr1
  obtain ⟨k, hk⟩ := (IsMemory_f l0_0 HR.out.2.1).rounds
  have HK := Aside0.mk hk
  clear hk
  by_cases hm : memB l0_0 = true
  · have HM := Aside0.mk hm
    clear hm
    go_enter Try.func90, Try.ntmps90
    go_wp2_with (first | (go_at_call 75; refine (impl_IsMemory.calls k A0_0 c0_0 l0_0 _ _ (Kd.C_below HR.out ((Below.refl _ _).alloc (Nat.le_refl _) _)) HC.out HK.out).mono ?_; rintro e w1 ⟨rfl, hB⟩; rw [HM.out]; have HB := Aside0.mk hB; have hcell : w1.cell? ⟨w.heap.size, 0, none⟩ = some (.slice A0_0 l0_0.length c0_0) := (hB.cell (p := ⟨w.heap.size, 0, none⟩) (by simp)).trans (by simp); clear hB) | (go_at_call 85; refine (areOnC_c _ A0_0 c0_0 l0_0 A1 c1 l1 _ hcell (Kd.C_below HR.out (((Below.refl _ _).alloc (Nat.le_refl _) _).trans (HB.out.mono (by simp)))) HC.out (Kd.C_below HR1.out (((Below.refl _ _).alloc (Nat.le_refl _) _).trans (HB.out.mono (by simp))))).mono ?_; rintro e w2 ⟨rfl, hB2⟩; have HB2 := Aside0.mk hB2; clear hB2))
    go_ret
    exact ⟨by rw [← H.out, HM.out]; simp, (((Below.refl _ _).alloc (Nat.le_refl _) _).trans (HB.out.mono (by simp))).trans (HB2.out.mono (by have := HB.out.size; simp at this; omega))⟩
  · have HM := Aside0.mk (Bool.eq_false_iff.2 hm)
    clear hm
    go_enter Try.func90, Try.ntmps90
    go_wp2_with (first | (go_at_call 75; refine (impl_IsMemory.calls k A0_0 c0_0 l0_0 _ _ (Kd.C_below HR.out ((Below.refl _ _).alloc (Nat.le_refl _) _)) HC.out HK.out).mono ?_; rintro e w1 ⟨rfl, hB⟩; rw [HM.out]; have HB := Aside0.mk hB; clear hB))
    go_ret
    exact ⟨by rw [← H.out, HM.out]; simp, ((Below.refl _ _).alloc (Nat.le_refl _) _).trans (HB.out.mono (by simp))⟩
end Go.Proofs.Ytoomjghabiojkaa.P


namespace Go.Proofs.Ytoomjghabiojkaa.P
open Go.RowKit Go.Proofs.YtoomjghabiojkaaW.PrintWords Go.Proofs.YtoomjghabiojkaaW.PrintLast Go.Proofs.YtoomjghabiojkaaW.PrintMore
attribute [local go_sem] max2_int min2_int max_two min_two max_three min_three max_four min_four   -- for this text's walks alone
set_option linter.unusedVariables false
set_option linter.unusedSimpArgs false

def laws_szMemory.f (k : Nat) (l0_0 : List (List Int)) (a1 : Int) : Option (Int) := (laws_szByteSS.f k l0_0 a1).bind fun t104 => (if t104 < 0 then (some (-1)) else (some t104))
set_option maxHeartbeats 8000000 in
set_option maxRecDepth 100000 in
theorem laws_szMemory.calls (k : Nat) (A0_0 : Option Addr) (c0_0 : Nat) (l0_0 : List (List Int)) (a1 : Int) (r : Int) (w : World) (hr0_0 : Kd.C (Kd.slice 5 (Kd.int .u8)) w A0_0 l0_0.length l0_0) (hc0_0 : l0_0.length ≤ c0_0) (h : laws_szMemory.f k l0_0 a1 = some r) :
    Calls Try.prog 14 #[.agg #[.slice A0_0 l0_0.length c0_0], .int .i64 a1] w fun e w' => e = .returned (.int .i64 r) ∧ Below w.heap.size w w' := by
  have hu24 := Try.underlying24
  have HR0_0 := Aside0.mk hr0_0
  have HC0_0 := Aside0.mk hc0_0
  clear hr0_0 hc0_0
  have HB := Aside0.mk (Below.refl w.heap.size w)
  have H : ((laws_szByteSS.f k l0_0 a1).bind fun t104 => (if t104 < 0 then (some (-1)) else (some t104))) = some r := h
  clear h
  replace H := Option.bind_eq_some_iff.mp H
  obtain ⟨t104, A30, H⟩ := H
  replace H : (if t104 < 0 then (some (-1)) else (some t104)) = some r := H
  have A3 := Aside0.mk A30
  clear A30
  by_cases c4 : t104 < 0
  · rw [if_pos c4] at H
    have c4b0 : decide (t104 < 0) = true := decide_eq_true c4
    clear c4
    obtain rfl := Option.some.inj H
    go_enter Try.func14, Try.ntmps14
    go_wp2_with (first | ((with_reducible refine gate_dst (N := 2) rfl ?_); refine box_event ?hg (N := 2) ?hd (cs := #[.slice A0_0 l0_0.length c0_0]) (t := 24) ?hr ?_; (case hd => rfl); (case hg => rfl); (case hr => first | (go_simp; done) | (go_simp; rfl)); intro gb103 hg w5 hbox hb; have n0_ := Aside0.mk (below_step (by repeat (first | (with_reducible first | exact HB.out | apply below_alloc | apply pw_below_drewN | apply below_drew1) | exact HB.out)) hb); have n1_ := Aside0.mk (hbox); have n2_ := Aside0.mk ((by rw [hg]; exact (below_size (by repeat (first | (with_reducible first | exact HB.out | apply below_alloc | apply pw_below_drewN | apply below_drew1) | exact HB.out))) : w.heap.size ≤ gb103)); have n3_ := Aside0.mk ((by rw [hg]; exact (below_size (by repeat (first | (with_reducible first | exact HB.out | apply below_alloc | apply pw_below_drewN | apply below_drew1) | exact HB.out))) : w.heap.size ≤ gb103)); clear HB; have HB := n0_; have BK103 := n1_; have GW103 := n2_; have GE103 := n3_; clear n0_ n1_ n2_ n3_; clear hb hbox hg; have hcz6_0 : w5.cell? ⟨gb103, 0, none⟩ = some (.slice A0_0 l0_0.length c0_0) := (blk_cell BK103.out 0).trans rfl; have hfz6_0 := blk_frozen BK103.out 0) | ((with_reducible refine gate_callee (f := 71) rfl ?_); refine goesL_ (some 8) rfl rfl Try.func71 (by kernel_rfl) rfl #[.slice A0_0 l0_0.length c0_0, .int .i64 a1] rfl (by (try simp only [List.map_toArray, List.map_cons, List.map_nil]); first | done | rfl | (simp only [List.length_drop, List.length_take]; rfl)) ?_; (with_reducible refine (laws_szByteSS.calls k _ _ l0_0 a1 t104 _ ?side1 ?side2 A3.out).mono ?_); (case side1 => repeat (first | exact (Kd.C_below HR0_0.out HB.out) | (with_reducible refine Kd.C_alloc ?_ _) | (with_reducible refine Kd.C_drewN ?_ _) | (with_reducible refine Kd.C_drew ?_))); (case side2 => exact HC0_0.out); rintro e w' ⟨rfl, ⟨nd, rfl⟩⟩; refine ⟨_, rfl, ?_⟩))
    go_ret
    exact ⟨by first | rfl | (simp [errW_none, errW_some] <;> rfl) | (simp [*, errW_none, errW_some] <;> rfl), by repeat (first | (with_reducible first | exact HB.out | apply below_alloc | apply pw_below_drewN | apply below_drew1 | refine below_set ?_ GE103.out) | exact HB.out)⟩
  · rw [if_neg c4] at H
    have c4b0 : decide (t104 < 0) = false := decide_eq_false c4
    clear c4
    obtain rfl := Option.some.inj H
    go_enter Try.func14, Try.ntmps14
    go_wp2_with (first | ((with_reducible refine gate_dst (N := 2) rfl ?_); refine box_event ?hg (N := 2) ?hd (cs := #[.slice A0_0 l0_0.length c0_0]) (t := 24) ?hr ?_; (case hd => rfl); (case hg => rfl); (case hr => first | (go_simp; done) | (go_simp; rfl)); intro gb103 hg w7 hbox hb; have n0_ := Aside0.mk (below_step (by repeat (first | (with_reducible first | exact HB.out | apply below_alloc | apply pw_below_drewN | apply below_drew1) | exact HB.out)) hb); have n1_ := Aside0.mk (hbox); have n2_ := Aside0.mk ((by rw [hg]; exact (below_size (by repeat (first | (with_reducible first | exact HB.out | apply below_alloc | apply pw_below_drewN | apply below_drew1) | exact HB.out))) : w.heap.size ≤ gb103)); have n3_ := Aside0.mk ((by rw [hg]; exact (below_size (by repeat (first | (with_reducible first | exact HB.out | apply below_alloc | apply pw_below_drewN | apply below_drew1) | exact HB.out))) : w.heap.size ≤ gb103)); clear HB; have HB := n0_; have BK103 := n1_; have GW103 := n2_; have GE103 := n3_; clear n0_ n1_ n2_ n3_; clear hb hbox hg; have hcz8_0 : w7.cell? ⟨gb103, 0, none⟩ = some (.slice A0_0 l0_0.length c0_0) := (blk_cell BK103.out 0).trans rfl; have hfz8_0 := blk_frozen BK103.out 0) | ((with_reducible refine gate_callee (f := 71) rfl ?_); refine goesL_ (some 8) rfl rfl Try.func71 (by kernel_rfl) rfl #[.slice A0_0 l0_0.length c0_0, .int .i64 a1] rfl (by (try simp only [List.map_toArray, List.map_cons, List.map_nil]); first | done | rfl | (simp only [List.length_drop, List.length_take]; rfl)) ?_; (with_reducible refine (laws_szByteSS.calls k _ _ l0_0 a1 t104 _ ?side1 ?side2 A3.out).mono ?_); (case side1 => repeat (first | exact (Kd.C_below HR0_0.out HB.out) | (with_reducible refine Kd.C_alloc ?_ _) | (with_reducible refine Kd.C_drewN ?_ _) | (with_reducible refine Kd.C_drew ?_))); (case side2 => exact HC0_0.out); rintro e w' ⟨rfl, ⟨nd, rfl⟩⟩; refine ⟨_, rfl, ?_⟩))
    go_ret
    exact ⟨by first | rfl | (simp [errW_none, errW_some] <;> rfl) | (simp [*, errW_none, errW_some] <;> rfl), by repeat (first | (with_reducible first | exact HB.out | apply below_alloc | apply pw_below_drewN | apply below_drew1 | refine below_set ?_ GE103.out) | exact HB.out)⟩

end Go.Proofs.Ytoomjghabiojkaa.P


/- Marking a row of rows of bytes: each inner row is written in place. -/
namespace Go.Proofs.Ytoomjghabiojkaa.P
open Go.RowKit Go.Proofs.YtoomjghabiojkaaW.PrintWords Go.Proofs.YtoomjghabiojkaaW.PrintLast Go.Proofs.YtoomjghabiojkaaW.PrintMore Go.Proofs.YtoomjghabiojkaaW.Mine
set_option linter.unusedVariables false
set_option linter.unusedSimpArgs false
def curBB (a : Int) (l : List (List Int)) (i : Nat) : List (List Int) := marksBB a (l.take i) ++ l.drop i
theorem marksBB_append (xs ys : List (List Int)) : ∀ a, marksBB a (xs ++ ys) = marksBB a xs ++ marksBB (a + sizeBB xs) ys := by
  induction xs with
  | nil => intro a; simp [marksBB, sizeBB]
  | cons x xs ih =>
    intro a
    simp only [List.cons_append, marksBB, sizeBB, ih]
    rw [show a + ((x.length + sizeBB xs : Nat) : Int) = a + x.length + sizeBB xs from by omega]
theorem sizeBB_append (xs ys : List (List Int)) : sizeBB (xs ++ ys) = sizeBB xs + sizeBB ys := by
  induction xs with
  | nil => simp [sizeBB]
  | cons x xs ih => simp only [List.cons_append, sizeBB, ih]; omega
theorem sizeBB_take_succ (l : List (List Int)) (i : Nat) (h : i < l.length) : sizeBB (l.take (i + 1)) = sizeBB (l.take i) + (l.getD i []).length := by
  rw [List.take_succ_eq_append_getElem h, sizeBB_append]
  simp [sizeBB, h]
theorem sizeBB_take_le (l : List (List Int)) (i : Nat) : sizeBB (l.take i) ≤ sizeBB l := by
  have h := sizeBB_append (l.take i) (l.drop i)
  rw [List.take_append_drop] at h
  omega
theorem curBB_length (a : Int) (l : List (List Int)) (i : Nat) : (curBB a l i).length = l.length := by
  simp [curBB, marksBB_length]
  omega
theorem curBB_get (a : Int) (l : List (List Int)) (i : Nat) (h : i < l.length) : (curBB a l i).getD i [] = l.getD i [] := by
  have h1 : (marksBB a (l.take i)).length = i := by simp [marksBB_length]; omega
  simp [curBB, List.getD_eq_getElem?_getD, List.getElem?_append_right, h1]
theorem curBB_set (a : Int) (l : List (List Int)) (i : Nat) (h : i < l.length) : (curBB a l i).set i (marksB (a + sizeBB (l.take i)) (l.getD i [])) = curBB a l (i + 1) := by
  have h1 : (marksBB a (l.take i)).length = i := by simp [marksBB_length]; omega
  unfold curBB
  rw [List.take_succ_eq_append_getElem h, marksBB_append, List.drop_eq_getElem_cons h]
  have := set_mid (marksBB a (l.take i)) l[i] (marksB (a + sizeBB (l.take i)) (l.getD i [])) (l.drop (i + 1))
  rw [h1] at this
  rw [this]
  simp [marksBB, h]
theorem curBB_zero (a : Int) (l : List (List Int)) : curBB a l 0 = l := by simp [curBB, marksBB]
theorem curBB_all (a : Int) (l : List (List Int)) : curBB a l l.length = marksBB a l := by simp [curBB]
set_option maxHeartbeats 1600000 in
set_option maxRecDepth 100000 in
theorem markByteSS_c (P_ : Nat → Prop) (u : Value) (l : List (List Int)) (a : Int) (w0 w : World) (hB : Below w0.heap.size w0 w) (ho : Kd.S (Kd.slice 5 (Kd.int .u8)) 119 w w0.heap.size P_ u l)
    (ha0 : 0 ≤ a) (ha : a + sizeBB l ≤ 4611686018427387904) (hl : l.length ≤ 4611686018427387904) :
    Calls Try.prog 53 #[u, .int .i64 a] w fun e w' => e = .returned (.int .i64 (a + sizeBB l)) ∧ Kd.S (Kd.slice 5 (Kd.int .u8)) 119 w' w0.heap.size P_ u (marksBB a l) ∧ Below w0.heap.size w0 w' ∧ Kept w w' P_ := by
  obtain ⟨A, c, rfl⟩ := Kd.S_slice ho
  have HO := Aside0.mk ho
  have HB := Aside0.mk hB
  have HL := Aside0.mk hl
  have HA := Aside0.mk ha
  clear ho hB
  go_enter Try.func53, Try.ntmps53
  go_wp2
  go_loopw [1, 5] (fun v1 v5 wr => ∃ i : Nat, i ≤ l.length ∧ v5 = .int .i64 (i : Int) ∧ v1 = .int .i64 (a + sizeBB (l.take i)) ∧ Aside0 (Kd.S (Kd.slice 5 (Kd.int .u8)) 119 wr w0.heap.size P_ (.slice A l.length c) (curBB a l i)) ∧ Aside0 (Below w0.heap.size w0 wr) ∧ Aside0 (Kept w wr P_)) (fun _ v5 _ => l.length - (intOf v5).toNat)
  case atStart => exact ⟨0, Nat.zero_le _, rfl, by simp [sizeBB], ⟨by rw [curBB_zero]; exact HO.out⟩, HB, ⟨Kept.refl _ _⟩⟩
  case round =>
    clear HO HB
    obtain ⟨i, hi, rfl, rfl, HO, HB, HK⟩ := hrel
    by_cases hlt : i < l.length
    · obtain ⟨g, cap, hv, hb1, hb2, hb3⟩ := Kd.S_form HO.out (by rw [curBB_length]; omega)
      injection hv with hv1 hv2 hv3
      subst hv1
      subst hv3
      clear hb1 hb2 hb3 hv2
      have HT := Aside0.mk (sizeBB_take_le l i)
      have HT2 := Aside0.mk (sizeBB_take_le l (i + 1))
      have HT3 := Aside0.mk (sizeBB_take_succ l i hlt)
      have HT4 := Aside0.mk (show (l.getD i []).length = (l[i]'hlt).length from by simp [hlt])
      obtain ⟨v, hcell, hR, hok, hback⟩ := S_inner rfl HO.out (i : Int) (by omega) (by omega)
      rw [Int.toNat_natCast, curBB_get a l i hlt] at hR
      rw [Int.toNat_natCast] at hcell
      have HR := Aside0.mk hR
      have HOK := Aside0.mk hok
      have HBK := Aside0.mk (@hback)
      clear hR hok hback
      have hlt' : (i : Int) < (l.length : Int) := by omega
      have hi0 : (0 : Int) ≤ (i : Int) := by omega
      obtain ⟨k, hk⟩ := (markByteS_f (l.getD i []) (a + sizeBB (l.take i)) (by omega) (by have := HA.out; have := HT.out; have := HT2.out; have := HT3.out; omega)).rounds
      have HC := Aside0.mk (laws_markByteS.calls k _ _ _ _ _ _ w0 wr HB.out HR.out hk)
      clear hk
      go_wp2_with (go_at_call 114; refine HC.out.mono ?_; rintro e w1 ⟨rfl, hR1, hB1, hK1⟩)
      have HR1 := Aside0.mk hR1
      have HB1 := Aside0.mk hB1
      have HK1 := Aside0.mk hK1
      clear hR1 hB1 hK1 hcell
      go_roundw
      case rel => exact ⟨i + 1, by omega, by go_num, congrArg (Value.int .i64) (by have := HT3.out; have := HT4.out; omega), ⟨by
          have h3 := HBK.out (w1 := w1) (HK1.out.mono (fun k hk => hk.symm)) HR1.out
          rw [Int.toNat_natCast, curBB_set a l i hlt] at h3
          exact h3⟩, HB1, ⟨HK.out.then_ HK1.out (fun k hk => .inl (HOK.out k hk.symm).1)⟩⟩
      case measure => simp [intOf]; omega
    · obtain rfl : i = l.length := by omega
      go_wp2
      go_ret
      exact ⟨by rw [List.take_length]; rfl, by rw [← curBB_all]; exact HO.out, HB.out, HK.out⟩
theorem rdB_eq (l : List (List Int)) (i : Nat) : rd_Lsu8 l (i : Int) = l.getD i [] := by simp [rd_Lsu8]
def copBB (l : List (List Int)) (i : Nat) : List (List Int) := l.take i ++ List.replicate (l.length - i) []
theorem copBB_length (l : List (List Int)) (i : Nat) (h : i ≤ l.length) : (copBB l i).length = l.length := by simp [copBB]; omega
theorem copBB_set (l : List (List Int)) (i : Nat) (h : i < l.length) : (copBB l i).set i (l.getD i []) = copBB l (i + 1) := by
  have h1 : (l.take i).length = i := by simp; omega
  unfold copBB
  rw [show l.length - i = (l.length - (i + 1)) + 1 from by omega, List.replicate_succ, List.take_succ_eq_append_getElem h]
  have := set_mid (l.take i) [] (l.getD i []) (List.replicate (l.length - (i + 1)) [])
  rw [h1] at this
  rw [this]
  simp [h]
theorem copBB_zero (l : List (List Int)) : copBB l 0 = List.replicate l.length [] := by simp [copBB]
theorem copBB_all (l : List (List Int)) : copBB l l.length = l := by simp [copBB]
set_option maxHeartbeats 1600000 in
set_option maxRecDepth 100000 in
theorem toByteSS_c (A : Option Addr) (c : Nat) (l : List (List Int)) (w : World) (hr : Kd.C (Kd.slice 5 (Kd.int .u8)) w A l.length l) (hl : l.length ≤ 1048576) (hx : ∀ x ∈ l, x.length ≤ 1048576) :
    Calls Try.prog 74 #[.slice A l.length c] w fun e w' => ∃ v : Value, e = .returned v ∧ Kd.S (Kd.slice 5 (Kd.int .u8)) 119 w' w.heap.size (fun _ => True) v l ∧ Below w.heap.size w w' := by
  have HR := Aside0.mk hr
  have HL := Aside0.mk hl
  have HX := Aside0.mk hx
  clear hr hx
  go_enter Try.func74, Try.ntmps74
  go_wp2_with (first | ((with_reducible refine gate_dst (N := 7) rfl ?_); refine Kd.S_make (Kd.slice 5 (Kd.int .u8)) (w0 := w) w.heap.size 119 rfl (N := 7) rfl 22 _ _ rfl (l.length : Int) rfl rfl Try.underlying22 (.slice none 0 0) 24 info119 rfl (by decide) (by omega) [] (ok := fun _ => True) (okp := fun _ => True) ⟨_, rfl, Kd.R_nil _ _ _ _ _⟩ (fun _ hk => hk) trivial (by omega) (by have := HL.out; simp only [Int.toNat_natCast]; omega) (Below.refl _ _) (Nat.le_refl _) ?_; intro v w4 ho hb hg_ hnew_; rw [Int.toNat_natCast, ← copBB_zero] at ho; have HO := Aside0.mk ho; have HB := Aside0.mk hb; clear hg_ hnew_ ho hb))
  obtain ⟨A1, c1, rfl⟩ := Kd.S_slice HO.out
  rw [copBB_length l 0 (Nat.zero_le _)] at HO ⊢
  go_loopw [4] (fun v4 wr => ∃ i : Nat, i ≤ l.length ∧ v4 = .int .i64 (i : Int) ∧ Aside0 (Kd.S (Kd.slice 5 (Kd.int .u8)) 119 wr w.heap.size (fun _ => True) (.slice A1 l.length c1) (copBB l i)) ∧ Aside0 (Below w.heap.size w wr)) (fun v4 _ => l.length - (intOf v4).toNat)
  case atStart => exact ⟨0, Nat.zero_le _, rfl, HO, HB⟩
  case round =>
    clear HO HB
    obtain ⟨i, hi, rfl, HO, HB⟩ := hrel
    by_cases hlt : i < l.length
    · have hlt' : (i : Int) < (l.length : Int) := by omega
      have hi0 : (0 : Int) ≤ (i : Int) := by omega
      obtain ⟨g, cap, hv, hb1, hb2, hb3⟩ := Kd.S_form HO.out (by rw [copBB_length l i hi]; omega)
      injection hv with hv1 hv2 hv3
      subst hv1
      subst hv3
      clear hb1 hb2 hb3 hv2
      obtain ⟨ad, A0, c0, e, hcell, hl0, hi0'⟩ := at_Lsu8 HR.out (i : Int) hi0 hlt'
      cases e
      have hcell2 := (HB.out.cell (World.block_lt_of_cell? w _ hcell)).trans hcell
      have HX1 := HX.out _ (List.getElem_mem hlt)
      obtain ⟨x, ex⟩ : ∃ x, l.getD i [] = x := ⟨_, rfl⟩
      rw [rdB_eq, Int.toNat_natCast, ex] at hcell2
      rw [rdB_eq, ex] at hl0 hi0'
      have HC0 := Aside0.mk (Kd.C_below hi0' HB.out)
      have HL0 := Aside0.mk hl0
      have HX0 := Aside0.mk (show x.length ≤ 1048576 from by
        rw [← ex, List.getD_eq_getElem?_getD, List.getElem?_eq_getElem hlt]; exact HX1)
      have EX := Aside0.mk ex
      clear hcell hl0 hi0' ex HX1
      obtain ⟨k, hk⟩ := (toByteS_f x (by have := HX0.out; omega)).rounds
      have HC := Aside0.mk (laws_toByteS.calls k A0 c0 x x wr HC0.out HL0.out hk)
      clear hk
      have HS := Aside0.mk (show Kd.S (Kd.slice 5 (Kd.int .u8)) 119 wr w.heap.size (fun k => k < wr.heap.size) (.slice (some ⟨g, 0, none⟩) l.length c1) (copBB l i) from Kd.S_mono (Kd.S_bound HO.out) (fun k hk => hk.2.2.1))
      clear HO
      go_wp2_with (first | (go_at_call 134; refine HC.out.mono ?_; rintro e w1 ⟨v1, rfl, hR1, hB1⟩; have HR1 := Aside0.mk hR1; have HB1 := Aside0.mk hB1; clear hR1 hB1; obtain ⟨Av, cv, rfl⟩ := Kd.R_slice HR1.out; obtain ⟨hS2, hg2, ⟨u2, hx2⟩, hf2⟩ := S_put rfl (Kd.S_below HS.out HB1.out) (i : Int) (by omega) (by omega) (y := x) (Kd.R_lower HR1.out HB.out.size) (fun k hk hlt2 => absurd (Kd.R_base HR1.out k hk) (by omega)); rw [Int.toNat_natCast] at hx2 hf2 hS2; have HS2 := Aside0.mk hS2; clear hS2 hg2))
      go_roundw
      case rel => exact ⟨i + 1, by omega, by go_num, ⟨by rw [← copBB_set l i hlt, EX.out]; exact Kd.S_mono HS2.out (fun _ _ => trivial)⟩, ⟨below_set (below_step HB.out HB1.out) (by have := Kd.S_base HS.out g rfl; omega)⟩⟩
      case measure => simp [intOf]; omega
    · obtain rfl : i = l.length := by omega
      go_wp2
      go_ret
      have h3 := HO.out
      rw [copBB_all] at h3
      exact ⟨_, rfl, h3, HB.out⟩
def laws_toByteSS.f (l0 : List (List Int)) : Option (List (List Int)) := if l0.length ≤ 1048576 ∧ l0.all (fun x => decide (x.length ≤ 1048576)) then some l0 else none
theorem laws_toByteSS.calls (A0 : Option Addr) (c0 : Nat) (l0 : List (List Int)) (r : List (List Int)) (w : World) (hr0 : Kd.C (Kd.slice 5 (Kd.int .u8)) w A0 l0.length l0) (hc0 : l0.length ≤ c0) (h : laws_toByteSS.f l0 = some r) :
    Calls Try.prog 74 #[.slice A0 l0.length c0] w fun e w' => ∃ v0_ : Value, e = .returned (v0_) ∧ Kd.S (Kd.slice 5 (Kd.int .u8)) 119 w' w.heap.size (fun _ => True) v0_ r ∧ Below w.heap.size w w' := by
  unfold laws_toByteSS.f at h
  split at h
  next hh =>
    obtain rfl := Option.some.inj h
    refine toByteSS_c A0 c0 l0 w hr0 hh.1 (fun x hx => ?_)
    have := List.all_eq_true.1 hh.2 x hx
    exact of_decide_eq_true this
  next => cases h
end Go.Proofs.Ytoomjghabiojkaa.P


namespace Go.Proofs.Ytoomjghabiojkaa.P
open Go.RowKit Go.Proofs.YtoomjghabiojkaaW.PrintWords Go.Proofs.YtoomjghabiojkaaW.PrintLast Go.Proofs.YtoomjghabiojkaaW.PrintMore
attribute [local go_sem] max2_int min2_int max_two min_two max_three min_three max_four min_four   -- for this text's walks alone
set_option linter.unusedVariables false
set_option linter.unusedSimpArgs false

def laws_toMemory.f (l0_0 : List (List Int)) : Option ((List (List Int))) := (laws_toByteSS.f l0_0).bind fun t153 => (some t153)
set_option maxHeartbeats 8000000 in
set_option maxRecDepth 100000 in
theorem laws_toMemory.calls (A0_0 : Option Addr) (c0_0 : Nat) (l0_0 : List (List Int)) (r : List (List Int)) (w : World) (hr0_0 : Kd.C (Kd.slice 5 (Kd.int .u8)) w A0_0 l0_0.length l0_0) (hc0_0 : l0_0.length ≤ c0_0) (h : laws_toMemory.f l0_0 = some r) :
    Calls Try.prog 16 #[.agg #[.slice A0_0 l0_0.length c0_0]] w fun e w' => ∃ v0_ : Value, e = .returned (.agg #[v0_]) ∧ Kd.S (Kd.slice 5 (Kd.int .u8)) 119 w' w.heap.size (fun _ => True) v0_ r ∧ Below w.heap.size w w' := by
  have hu24 := Try.underlying24
  have hu26 := Try.underlying26
  have HR0_0 := Aside0.mk hr0_0
  have HC0_0 := Aside0.mk hc0_0
  clear hr0_0 hc0_0
  have HB := Aside0.mk (Below.refl w.heap.size w)
  have H : ((laws_toByteSS.f l0_0).bind fun t153 => (some t153)) = some r := h
  clear h
  replace H := Option.bind_eq_some_iff.mp H
  obtain ⟨t153, A20, H⟩ := H
  replace H : (some t153) = some r := H
  have A2 := Aside0.mk A20
  clear A20
  obtain rfl := Option.some.inj H
  go_enter Try.func16, Try.ntmps16
  go_wp2_with (first | ((with_reducible refine gate_dst (N := 1) rfl ?_); refine box_event ?hg (N := 1) ?hd (cs := #[.slice A0_0 l0_0.length c0_0]) (t := 24) ?hr ?_; (case hd => rfl); (case hg => rfl); (case hr => first | (go_simp; done) | (go_simp; rfl)); intro gb150 hg w3 hbox hb; have n0_ := Aside0.mk (below_step (by repeat (first | (with_reducible first | exact HB.out | apply below_alloc | apply pw_below_drewN | apply below_drew1) | exact HB.out)) hb); have n1_ := Aside0.mk (hbox); have n2_ := Aside0.mk ((by rw [hg]; exact (below_size (by repeat (first | (with_reducible first | exact HB.out | apply below_alloc | apply pw_below_drewN | apply below_drew1) | exact HB.out))) : w.heap.size ≤ gb150)); have n3_ := Aside0.mk ((by rw [hg]; exact (below_size (by repeat (first | (with_reducible first | exact HB.out | apply below_alloc | apply pw_below_drewN | apply below_drew1) | exact HB.out))) : w.heap.size ≤ gb150)); clear HB; have HB := n0_; have BK150 := n1_; have GW150 := n2_; have GE150 := n3_; clear n0_ n1_ n2_ n3_; clear hb hbox hg) | ((with_reducible refine gate_dst (N := 2) rfl ?_); refine box_event ?hg (N := 2) ?hd (cs := #[.slice none 0 0]) (t := 26) ?hr ?_; (case hd => rfl); (case hg => rfl); (case hr => first | (go_simp; done) | (go_simp; rfl)); intro gb151 hg w4 hbox hb; have n0_ := Aside0.mk (blk_below (g := gb150) (o := .cells #[.slice A0_0 l0_0.length c0_0] 24 (0, 0)) (by (with_reducible repeat (first | refine blk_drewN ?_ _ | refine blk_drew ?_ | refine blk_alloc ?_ _)); exact BK150.out) hb); have n1_ := Aside0.mk (below_step (by repeat (first | (with_reducible first | exact HB.out | apply below_alloc | apply pw_below_drewN | apply below_drew1 | refine below_set ?_ GE150.out) | exact HB.out)) hb); have n2_ := Aside0.mk (hbox); have n3_ := Aside0.mk ((by rw [hg]; exact (below_size (by repeat (first | (with_reducible first | exact HB.out | apply below_alloc | apply pw_below_drewN | apply below_drew1 | refine below_set ?_ GE150.out) | exact HB.out))) : w.heap.size ≤ gb151)); have n4_ := Aside0.mk ((by rw [hg]; exact (below_size (by repeat (first | (with_reducible first | exact HB.out | apply below_alloc | apply pw_below_drewN | apply below_drew1 | refine below_set ?_ GE150.out) | exact HB.out))) : w.heap.size ≤ gb151)); have n5_ := Aside0.mk ((by rw [hg]; exact Nat.ne_of_lt (blk_lt (g := gb150) (o := .cells #[.slice A0_0 l0_0.length c0_0] 24 (0, 0)) (by (with_reducible repeat (first | refine blk_drewN ?_ _ | refine blk_drew ?_ | refine blk_alloc ?_ _)); exact BK150.out)) : gb150 ≠ gb151)); have n6_ := Aside0.mk ((by rw [hg]; exact Nat.ne_of_gt (blk_lt (g := gb150) (o := .cells #[.slice A0_0 l0_0.length c0_0] 24 (0, 0)) (by (with_reducible repeat (first | refine blk_drewN ?_ _ | refine blk_drew ?_ | refine blk_alloc ?_ _)); exact BK150.out)) : gb151 ≠ gb150)); clear BK150; clear HB; have BK150 := n0_; have HB := n1_; have BK151 := n2_; have GW151 := n3_; have GE151 := n4_; have NB150_151 := n5_; have NB151_150 := n6_; clear n0_ n1_ n2_ n3_ n4_ n5_ n6_; clear hb hbox hg) | ((with_reducible refine gate_dst (N := 3) rfl ?_); refine box_event ?hg (N := 3) ?hd (cs := #[.slice none 0 0]) (t := 26) ?hr ?_; (case hd => rfl); (case hg => rfl); (case hr => first | (go_simp; done) | (go_simp; rfl)); intro gb152 hg w5 hbox hb; have n0_ := Aside0.mk (blk_below (g := gb150) (o := .cells #[.slice A0_0 l0_0.length c0_0] 24 (0, 0)) (by (with_reducible repeat (first | refine blk_drewN ?_ _ | refine blk_drew ?_ | refine blk_alloc ?_ _)); exact BK150.out) hb); have n1_ := Aside0.mk (blk_below (g := gb151) (o := .cells #[.slice none 0 0] 26 (0, 0)) (by (with_reducible repeat (first | refine blk_drewN ?_ _ | refine blk_drew ?_ | refine blk_alloc ?_ _)); exact BK151.out) hb); have n2_ := Aside0.mk (below_step (by repeat (first | (with_reducible first | exact HB.out | apply below_alloc | apply pw_below_drewN | apply below_drew1 | refine below_set ?_ GE150.out | refine below_set ?_ GE151.out) | exact HB.out)) hb); have n3_ := Aside0.mk (hbox); have n4_ := Aside0.mk ((by rw [hg]; exact (below_size (by repeat (first | (with_reducible first | exact HB.out | apply below_alloc | apply pw_below_drewN | apply below_drew1 | refine below_set ?_ GE150.out | refine below_set ?_ GE151.out) | exact HB.out))) : w.heap.size ≤ gb152)); have n5_ := Aside0.mk ((by rw [hg]; exact (below_size (by repeat (first | (with_reducible first | exact HB.out | apply below_alloc | apply pw_below_drewN | apply below_drew1 | refine below_set ?_ GE150.out | refine below_set ?_ GE151.out) | exact HB.out))) : w.heap.size ≤ gb152)); have n6_ := Aside0.mk ((by rw [hg]; exact Nat.ne_of_lt (blk_lt (g := gb150) (o := .cells #[.slice A0_0 l0_0.length c0_0] 24 (0, 0)) (by (with_reducible repeat (first | refine blk_drewN ?_ _ | refine blk_drew ?_ | refine blk_alloc ?_ _)); exact BK150.out)) : gb150 ≠ gb152)); have n7_ := Aside0.mk ((by rw [hg]; exact Nat.ne_of_gt (blk_lt (g := gb150) (o := .cells #[.slice A0_0 l0_0.length c0_0] 24 (0, 0)) (by (with_reducible repeat (first | refine blk_drewN ?_ _ | refine blk_drew ?_ | refine blk_alloc ?_ _)); exact BK150.out)) : gb152 ≠ gb150)); have n8_ := Aside0.mk ((by rw [hg]; exact Nat.ne_of_lt (blk_lt (g := gb151) (o := .cells #[.slice none 0 0] 26 (0, 0)) (by (with_reducible repeat (first | refine blk_drewN ?_ _ | refine blk_drew ?_ | refine blk_alloc ?_ _)); exact BK151.out)) : gb151 ≠ gb152)); have n9_ := Aside0.mk ((by rw [hg]; exact Nat.ne_of_gt (blk_lt (g := gb151) (o := .cells #[.slice none 0 0] 26 (0, 0)) (by (with_reducible repeat (first | refine blk_drewN ?_ _ | refine blk_drew ?_ | refine blk_alloc ?_ _)); exact BK151.out)) : gb152 ≠ gb151)); clear BK150; clear BK151; clear HB; have BK150 := n0_; have BK151 := n1_; have HB := n2_; have BK152 := n3_; have GW152 := n4_; have GE152 := n5_; have NB150_152 := n6_; have NB152_150 := n7_; have NB151_152 := n8_; have NB152_151 := n9_; clear n0_ n1_ n2_ n3_ n4_ n5_ n6_ n7_ n8_ n9_; clear hb hbox hg; have hnb6 := NB150_151.out; have hnc6 := NB151_150.out; have hnb7 := NB150_152.out; have hnc7 := NB152_150.out; have hcz8_0 : w5.cell? ⟨gb150, 0, none⟩ = some (.slice A0_0 l0_0.length c0_0) := (blk_cell BK150.out 0).trans rfl; have hfz8_0 := blk_frozen BK150.out 0) | ((with_reducible refine gate_callee (f := 74) rfl ?_); refine goesL_ (some 6) rfl rfl Try.func74 (by kernel_rfl) rfl #[.slice A0_0 l0_0.length c0_0] rfl (by (try simp only [List.map_toArray, List.map_cons, List.map_nil]); first | done | rfl | (simp only [List.length_drop, List.length_take]; rfl)) ?_; (with_reducible refine (laws_toByteSS.calls _ _ l0_0 t153 _ ?side1 ?side2 A2.out).mono ?_); (case side1 => repeat (first | exact (Kd.C_below HR0_0.out HB.out) | (with_reducible refine Kd.C_alloc ?_ _) | (with_reducible refine Kd.C_drewN ?_ _) | (with_reducible refine Kd.C_drew ?_))); (case side2 => exact HC0_0.out); rintro e w9 ⟨v154, rfl, ho0, hb⟩; refine ⟨_, rfl, ?_⟩; have n0_ := Aside0.mk (Kd.S_lower ho0 (below_size (by repeat (first | (with_reducible first | exact HB.out | apply below_alloc | apply pw_below_drewN | apply below_drew1 | refine below_set ?_ GE150.out | refine below_set ?_ GE151.out | refine below_set ?_ GE152.out) | exact HB.out)))); have n1_ := Aside0.mk (blk_below (g := gb150) (o := .cells #[.slice A0_0 l0_0.length c0_0] 24 (0, 0)) (by (with_reducible repeat (first | refine blk_drewN ?_ _ | refine blk_drew ?_ | refine blk_alloc ?_ _)); exact BK150.out) hb); have n2_ := Aside0.mk (blk_below (g := gb151) (o := .cells #[.slice none 0 0] 26 (0, 0)) (by (with_reducible repeat (first | refine blk_drewN ?_ _ | refine blk_drew ?_ | refine blk_alloc ?_ _)); exact BK151.out) hb); have n3_ := Aside0.mk (blk_below (g := gb152) (o := .cells #[.slice none 0 0] 26 (0, 0)) (by (with_reducible repeat (first | refine blk_drewN ?_ _ | refine blk_drew ?_ | refine blk_alloc ?_ _)); exact BK152.out) hb); have n4_ := Aside0.mk (below_step (by repeat (first | (with_reducible first | exact HB.out | apply below_alloc | apply pw_below_drewN | apply below_drew1 | refine below_set ?_ GE150.out | refine below_set ?_ GE151.out | refine below_set ?_ GE152.out) | exact HB.out)) hb); clear BK150; clear BK151; clear BK152; clear HB; have HO155 := n0_; have BK150 := n1_; have BK151 := n2_; have BK152 := n3_; have HB := n4_; clear n0_ n1_ n2_ n3_ n4_; (try clear hb); (try clear hb2); (try clear hk); (try clear hi); (try clear ho0); obtain ⟨Ao10, co10, eo10⟩ := Kd.S_slice HO155.out; subst eo10; have hnb11 := NB152_151.out; have hnc11 := NB151_152.out; have hcz12_0 : w9.cell? ⟨gb152, 0, none⟩ = some (.slice none 0 0) := (blk_cell BK152.out 0).trans rfl; have hfz12_0 := blk_frozen BK152.out 0; have hcz13_0 : w9.cell? ⟨gb151, 0, none⟩ = some (.slice none 0 0) := (blk_cell BK151.out 0).trans rfl; have hfz13_0 := blk_frozen BK151.out 0))
  refine bodyPost_ret (results_cell_row rfl _ _ gb151 26 #[.slice Ao10 t153.length co10] (0, 0) _ rfl (by (with_reducible repeat (first | refine blk_drewN ?_ _ | refine blk_drew ?_ | refine blk_alloc ?_ _)); refine blk_put (cs := #[.slice none 0 0]) ?_ 0 _ rfl; (with_reducible repeat (first | refine blk_drewN ?_ _ | refine blk_drew ?_ | refine blk_alloc ?_ _)); refine blk_far ?_ NB151_152.out _; (with_reducible repeat (first | refine blk_drewN ?_ _ | refine blk_drew ?_ | refine blk_alloc ?_ _)); exact BK151.out) Try.underlying26 rfl (by kernel_rfl)) rfl ?_
  exact ⟨_, by first | rfl | (simp [errW_none, errW_some] <;> rfl) | (simp [*, errW_none, errW_some] <;> rfl), by (with_reducible repeat (first | apply Kd.S_alloc | apply Kd.S_drewN | apply Kd.S_drew)); exact Kd.S_mono (Kd.S_far (p := ⟨gb151, 0, none⟩) (Kd.S_far (p := ⟨gb152, 0, none⟩) (Kd.S_types (Kd.S_types HO155.out BK152.out (by decide)) BK151.out (by decide)) (fun _ hk => hk.1.2) (.slice Ao10 t153.length co10)) (fun _ hk => hk.2) (.slice Ao10 t153.length co10)) (fun _ hk => trivial), by repeat (first | (with_reducible first | exact HB.out | apply below_alloc | apply pw_below_drewN | apply below_drew1 | refine below_set ?_ GE150.out | refine below_set ?_ GE151.out | refine below_set ?_ GE152.out) | exact HB.out)⟩

end Go.Proofs.Ytoomjghabiojkaa.P


namespace Go.Proofs.Ytoomjghabiojkaa.P
open Go.RowKit Go.Proofs.YtoomjghabiojkaaW.PrintWords Go.Proofs.YtoomjghabiojkaaW.PrintLast Go.Proofs.YtoomjghabiojkaaW.PrintMore
attribute [local go_sem] max2_int min2_int max_two min_two max_three min_three max_four min_four   -- for this text's walks alone
set_option linter.unusedVariables false
set_option linter.unusedSimpArgs false

def laws_eqMemory.f (k : Nat) (l0_0 : List (List Int)) (l1_0 : List (List Int)) : Option (Bool) := (laws_eqByteSS.f k l0_0 l1_0).bind fun t182 => (if t182 = true then (some true) else (some false))
set_option maxHeartbeats 8000000 in
set_option maxRecDepth 100000 in
theorem laws_eqMemory.calls (k : Nat) (A0_0 : Option Addr) (c0_0 : Nat) (l0_0 : List (List Int)) (A1_0 : Option Addr) (c1_0 : Nat) (l1_0 : List (List Int)) (r : Bool) (w : World) (hr0_0 : Kd.C (Kd.slice 5 (Kd.int .u8)) w A0_0 l0_0.length l0_0) (hc0_0 : l0_0.length ≤ c0_0) (hr1_0 : Kd.C (Kd.slice 5 (Kd.int .u8)) w A1_0 l1_0.length l1_0) (hc1_0 : l1_0.length ≤ c1_0) (h : laws_eqMemory.f k l0_0 l1_0 = some r) :
    Calls Try.prog 19 #[.agg #[.slice A0_0 l0_0.length c0_0], .agg #[.slice A1_0 l1_0.length c1_0]] w fun e w' => e = .returned (.bool r) ∧ Below w.heap.size w w' := by
  have hu26 := Try.underlying26
  have HR0_0 := Aside0.mk hr0_0
  have HC0_0 := Aside0.mk hc0_0
  clear hr0_0 hc0_0
  have HR1_0 := Aside0.mk hr1_0
  have HC1_0 := Aside0.mk hc1_0
  clear hr1_0 hc1_0
  have HB := Aside0.mk (Below.refl w.heap.size w)
  have H : ((laws_eqByteSS.f k l0_0 l1_0).bind fun t182 => (if t182 = true then (some true) else (some false))) = some r := h
  clear h
  replace H := Option.bind_eq_some_iff.mp H
  obtain ⟨t182, A30, H⟩ := H
  replace H : (if t182 = true then (some true) else (some false)) = some r := H
  have A3 := Aside0.mk A30
  clear A30
  by_cases c4 : t182 = true
  · subst c4
    have H1 : (some true) = some r := by rw [if_pos rfl] at H; exact H
    clear H
    have H := H1
    clear H1
    obtain rfl := Option.some.inj H
    go_enter Try.func19, Try.ntmps19
    go_wp2_with (first | ((with_reducible refine gate_dst (N := 2) rfl ?_); refine box_event ?hg (N := 2) ?hd (cs := #[.slice A0_0 l0_0.length c0_0]) (t := 26) ?hr ?_; (case hd => rfl); (case hg => rfl); (case hr => first | (go_simp; done) | (go_simp; rfl)); intro gb180 hg w5 hbox hb; have n0_ := Aside0.mk (below_step (by repeat (first | (with_reducible first | exact HB.out | apply below_alloc | apply pw_below_drewN | apply below_drew1) | exact HB.out)) hb); have n1_ := Aside0.mk (hbox); have n2_ := Aside0.mk ((by rw [hg]; exact (below_size (by repeat (first | (with_reducible first | exact HB.out | apply below_alloc | apply pw_below_drewN | apply below_drew1) | exact HB.out))) : w.heap.size ≤ gb180)); have n3_ := Aside0.mk ((by rw [hg]; exact (below_size (by repeat (first | (with_reducible first | exact HB.out | apply below_alloc | apply pw_below_drewN | apply below_drew1) | exact HB.out))) : w.heap.size ≤ gb180)); clear HB; have HB := n0_; have BK180 := n1_; have GW180 := n2_; have GE180 := n3_; clear n0_ n1_ n2_ n3_; clear hb hbox hg) | ((with_reducible refine gate_dst (N := 3) rfl ?_); refine box_event ?hg (N := 3) ?hd (cs := #[.slice A1_0 l1_0.length c1_0]) (t := 26) ?hr ?_; (case hd => rfl); (case hg => rfl); (case hr => first | (go_simp; done) | (go_simp; rfl)); intro gb181 hg w6 hbox hb; have n0_ := Aside0.mk (blk_below (g := gb180) (o := .cells #[.slice A0_0 l0_0.length c0_0] 26 (0, 0)) (by (with_reducible repeat (first | refine blk_drewN ?_ _ | refine blk_drew ?_ | refine blk_alloc ?_ _)); exact BK180.out) hb); have n1_ := Aside0.mk (below_step (by repeat (first | (with_reducible first | exact HB.out | apply below_alloc | apply pw_below_drewN | apply below_drew1 | refine below_set ?_ GE180.out) | exact HB.out)) hb); have n2_ := Aside0.mk (hbox); have n3_ := Aside0.mk ((by rw [hg]; exact (below_size (by repeat (first | (with_reducible first | exact HB.out | apply below_alloc | apply pw_below_drewN | apply below_drew1 | refine below_set ?_ GE180.out) | exact HB.out))) : w.heap.size ≤ gb181)); have n4_ := Aside0.mk ((by rw [hg]; exact (below_size (by repeat (first | (with_reducible first | exact HB.out | apply below_alloc | apply pw_below_drewN | apply below_drew1 | refine below_set ?_ GE180.out) | exact HB.out))) : w.heap.size ≤ gb181)); have n5_ := Aside0.mk ((by rw [hg]; exact Nat.ne_of_lt (blk_lt (g := gb180) (o := .cells #[.slice A0_0 l0_0.length c0_0] 26 (0, 0)) (by (with_reducible repeat (first | refine blk_drewN ?_ _ | refine blk_drew ?_ | refine blk_alloc ?_ _)); exact BK180.out)) : gb180 ≠ gb181)); have n6_ := Aside0.mk ((by rw [hg]; exact Nat.ne_of_gt (blk_lt (g := gb180) (o := .cells #[.slice A0_0 l0_0.length c0_0] 26 (0, 0)) (by (with_reducible repeat (first | refine blk_drewN ?_ _ | refine blk_drew ?_ | refine blk_alloc ?_ _)); exact BK180.out)) : gb181 ≠ gb180)); clear BK180; clear HB; have BK180 := n0_; have HB := n1_; have BK181 := n2_; have GW181 := n3_; have GE181 := n4_; have NB180_181 := n5_; have NB181_180 := n6_; clear n0_ n1_ n2_ n3_ n4_ n5_ n6_; clear hb hbox hg; have hnb7 := NB180_181.out; have hnc7 := NB181_180.out; have hcz8_0 : w6.cell? ⟨gb180, 0, none⟩ = some (.slice A0_0 l0_0.length c0_0) := (blk_cell BK180.out 0).trans rfl; have hfz8_0 := blk_frozen BK180.out 0; have hcz9_0 : w6.cell? ⟨gb181, 0, none⟩ = some (.slice A1_0 l1_0.length c1_0) := (blk_cell BK181.out 0).trans rfl; have hfz9_0 := blk_frozen BK181.out 0) | ((with_reducible refine gate_callee (f := 52) rfl ?_); refine goesL_ (some 9) rfl rfl Try.func52 (by kernel_rfl) rfl #[.slice A0_0 l0_0.length c0_0, .slice A1_0 l1_0.length c1_0] rfl (by (try simp only [List.map_toArray, List.map_cons, List.map_nil]); first | done | rfl | (simp only [List.length_drop, List.length_take]; rfl)) ?_; (with_reducible refine (laws_eqByteSS.calls k _ _ l0_0 _ _ l1_0 true _ ?side1 ?side2 ?side3 ?side4 A3.out).mono ?_); (case side1 => repeat (first | exact (Kd.C_below HR0_0.out HB.out) | (with_reducible refine Kd.C_alloc ?_ _) | (with_reducible refine Kd.C_drewN ?_ _) | (with_reducible refine Kd.C_drew ?_))); (case side2 => exact HC0_0.out); (case side3 => repeat (first | exact (Kd.C_below HR1_0.out HB.out) | (with_reducible refine Kd.C_alloc ?_ _) | (with_reducible refine Kd.C_drewN ?_ _) | (with_reducible refine Kd.C_drew ?_))); (case side4 => exact HC1_0.out); rintro e w' ⟨rfl, ⟨nd, rfl⟩⟩; refine ⟨_, rfl, ?_⟩))
    go_ret
    exact ⟨by first | rfl | (simp [errW_none, errW_some] <;> rfl) | (simp [*, errW_none, errW_some] <;> rfl), by repeat (first | (with_reducible first | exact HB.out | apply below_alloc | apply pw_below_drewN | apply below_drew1 | refine below_set ?_ GE180.out | refine below_set ?_ GE181.out) | exact HB.out)⟩
  · replace c4 := Bool.eq_false_iff.mpr c4
    subst c4
    have H1 : (some false) = some r := by rw [if_neg (show ¬ (false = true) by decide)] at H; exact H
    clear H
    have H := H1
    clear H1
    obtain rfl := Option.some.inj H
    go_enter Try.func19, Try.ntmps19
    go_wp2_with (first | ((with_reducible refine gate_dst (N := 2) rfl ?_); refine box_event ?hg (N := 2) ?hd (cs := #[.slice A0_0 l0_0.length c0_0]) (t := 26) ?hr ?_; (case hd => rfl); (case hg => rfl); (case hr => first | (go_simp; done) | (go_simp; rfl)); intro gb180 hg w10 hbox hb; have n0_ := Aside0.mk (below_step (by repeat (first | (with_reducible first | exact HB.out | apply below_alloc | apply pw_below_drewN | apply below_drew1) | exact HB.out)) hb); have n1_ := Aside0.mk (hbox); have n2_ := Aside0.mk ((by rw [hg]; exact (below_size (by repeat (first | (with_reducible first | exact HB.out | apply below_alloc | apply pw_below_drewN | apply below_drew1) | exact HB.out))) : w.heap.size ≤ gb180)); have n3_ := Aside0.mk ((by rw [hg]; exact (below_size (by repeat (first | (with_reducible first | exact HB.out | apply below_alloc | apply pw_below_drewN | apply below_drew1) | exact HB.out))) : w.heap.size ≤ gb180)); clear HB; have HB := n0_; have BK180 := n1_; have GW180 := n2_; have GE180 := n3_; clear n0_ n1_ n2_ n3_; clear hb hbox hg) | ((with_reducible refine gate_dst (N := 3) rfl ?_); refine box_event ?hg (N := 3) ?hd (cs := #[.slice A1_0 l1_0.length c1_0]) (t := 26) ?hr ?_; (case hd => rfl); (case hg => rfl); (case hr => first | (go_simp; done) | (go_simp; rfl)); intro gb181 hg w11 hbox hb; have n0_ := Aside0.mk (blk_below (g := gb180) (o := .cells #[.slice A0_0 l0_0.length c0_0] 26 (0, 0)) (by (with_reducible repeat (first | refine blk_drewN ?_ _ | refine blk_drew ?_ | refine blk_alloc ?_ _)); exact BK180.out) hb); have n1_ := Aside0.mk (below_step (by repeat (first | (with_reducible first | exact HB.out | apply below_alloc | apply pw_below_drewN | apply below_drew1 | refine below_set ?_ GE180.out) | exact HB.out)) hb); have n2_ := Aside0.mk (hbox); have n3_ := Aside0.mk ((by rw [hg]; exact (below_size (by repeat (first | (with_reducible first | exact HB.out | apply below_alloc | apply pw_below_drewN | apply below_drew1 | refine below_set ?_ GE180.out) | exact HB.out))) : w.heap.size ≤ gb181)); have n4_ := Aside0.mk ((by rw [hg]; exact (below_size (by repeat (first | (with_reducible first | exact HB.out | apply below_alloc | apply pw_below_drewN | apply below_drew1 | refine below_set ?_ GE180.out) | exact HB.out))) : w.heap.size ≤ gb181)); have n5_ := Aside0.mk ((by rw [hg]; exact Nat.ne_of_lt (blk_lt (g := gb180) (o := .cells #[.slice A0_0 l0_0.length c0_0] 26 (0, 0)) (by (with_reducible repeat (first | refine blk_drewN ?_ _ | refine blk_drew ?_ | refine blk_alloc ?_ _)); exact BK180.out)) : gb180 ≠ gb181)); have n6_ := Aside0.mk ((by rw [hg]; exact Nat.ne_of_gt (blk_lt (g := gb180) (o := .cells #[.slice A0_0 l0_0.length c0_0] 26 (0, 0)) (by (with_reducible repeat (first | refine blk_drewN ?_ _ | refine blk_drew ?_ | refine blk_alloc ?_ _)); exact BK180.out)) : gb181 ≠ gb180)); clear BK180; clear HB; have BK180 := n0_; have HB := n1_; have BK181 := n2_; have GW181 := n3_; have GE181 := n4_; have NB180_181 := n5_; have NB181_180 := n6_; clear n0_ n1_ n2_ n3_ n4_ n5_ n6_; clear hb hbox hg; have hnb12 := NB180_181.out; have hnc12 := NB181_180.out; have hcz13_0 : w11.cell? ⟨gb180, 0, none⟩ = some (.slice A0_0 l0_0.length c0_0) := (blk_cell BK180.out 0).trans rfl; have hfz13_0 := blk_frozen BK180.out 0; have hcz14_0 : w11.cell? ⟨gb181, 0, none⟩ = some (.slice A1_0 l1_0.length c1_0) := (blk_cell BK181.out 0).trans rfl; have hfz14_0 := blk_frozen BK181.out 0) | ((with_reducible refine gate_callee (f := 52) rfl ?_); refine goesL_ (some 9) rfl rfl Try.func52 (by kernel_rfl) rfl #[.slice A0_0 l0_0.length c0_0, .slice A1_0 l1_0.length c1_0] rfl (by (try simp only [List.map_toArray, List.map_cons, List.map_nil]); first | done | rfl | (simp only [List.length_drop, List.length_take]; rfl)) ?_; (with_reducible refine (laws_eqByteSS.calls k _ _ l0_0 _ _ l1_0 false _ ?side1 ?side2 ?side3 ?side4 A3.out).mono ?_); (case side1 => repeat (first | exact (Kd.C_below HR0_0.out HB.out) | (with_reducible refine Kd.C_alloc ?_ _) | (with_reducible refine Kd.C_drewN ?_ _) | (with_reducible refine Kd.C_drew ?_))); (case side2 => exact HC0_0.out); (case side3 => repeat (first | exact (Kd.C_below HR1_0.out HB.out) | (with_reducible refine Kd.C_alloc ?_ _) | (with_reducible refine Kd.C_drewN ?_ _) | (with_reducible refine Kd.C_drew ?_))); (case side4 => exact HC1_0.out); rintro e w' ⟨rfl, ⟨nd, rfl⟩⟩; refine ⟨_, rfl, ?_⟩))
    go_ret
    exact ⟨by first | rfl | (simp [errW_none, errW_some] <;> rfl) | (simp [*, errW_none, errW_some] <;> rfl), by repeat (first | (with_reducible first | exact HB.out | apply below_alloc | apply pw_below_drewN | apply below_drew1 | refine below_set ?_ GE180.out | refine below_set ?_ GE181.out) | exact HB.out)⟩

end Go.Proofs.Ytoomjghabiojkaa.P


namespace Go.Proofs.Ytoomjghabiojkaa.P
open Go.RowKit Go.Proofs.YtoomjghabiojkaaW.PrintWords Go.Proofs.YtoomjghabiojkaaW.PrintLast Go.Proofs.YtoomjghabiojkaaW.PrintMore
attribute [local go_sem] max2_int min2_int max_two min_two max_three min_three max_four min_four   -- for this text's walks alone
set_option linter.unusedVariables false
set_option linter.unusedSimpArgs false

def spec_l2Window.j0 : Nat → Bool → List (List Int) → Int → Int → Int → Int → Option (Bool)
  | 0, _, _, _, _, _, _ => none
  | k + 1, x18, x241000, x242000, x242001, x242002, x242003 => if x18 = true then (some false) else (if 0 ≤ x242000 then (if x242000 < (x241000.length : Int) then ((spec_l1In.f x242001 0 ((rd_Lsu8 x241000 x242000).length : Int)).bind fun t245 => (if t245 = true then ((spec_l1In.f x242003 0 (wrap64 (((rd_Lsu8 x241000 x242000).length : Int) - x242001))).bind fun t246 => (if t246 = true then ((spec_l1In.f x242002 0 x242003).bind fun t247 => (some t247)) else (some false))) else (some false))) else (none)) else (none))
def spec_l2Window.f (k : Nat) (l0_0 : List (List Int)) (a1_0 : Int) (a1_1 : Int) (a1_2 : Int) (a1_3 : Int) : Option (Bool) := (spec_l2Memory.f k l0_0).bind fun t242 => (if t242 = true then ((spec_l1In.f a1_0 0 (wrap64 ((l0_0.length : Int) - 1))).bind fun t243 => (spec_l2Window.j0 k (!t243) l0_0 a1_0 a1_1 a1_2 a1_3)) else (spec_l2Window.j0 k true l0_0 a1_0 a1_1 a1_2 a1_3))
set_option maxHeartbeats 8000000 in
set_option maxRecDepth 100000 in
theorem spec_l2Window.calls (k : Nat) (A0_0 : Option Addr) (c0_0 : Nat) (l0_0 : List (List Int)) (a1_0 : Int) (a1_1 : Int) (a1_2 : Int) (a1_3 : Int) (r : Bool) (w : World) (hr0_0 : Kd.C (Kd.slice 5 (Kd.int .u8)) w A0_0 l0_0.length l0_0) (hc0_0 : l0_0.length ≤ c0_0) (h : spec_l2Window.f k l0_0 a1_0 a1_1 a1_2 a1_3 = some r) :
    Calls Try.prog 88 #[.agg #[.slice A0_0 l0_0.length c0_0], .agg #[.int .i64 a1_0, .int .i64 a1_1, .int .i64 a1_2, .int .i64 a1_3]] w fun e w' => e = .returned (.bool r) ∧ Below w.heap.size w w' := by
  have hu26 := Try.underlying26
  have hu48 := Try.underlying48
  have HR0_0 := Aside0.mk hr0_0
  have HC0_0 := Aside0.mk hc0_0
  clear hr0_0 hc0_0
  have HB := Aside0.mk (Below.refl w.heap.size w)
  have H : ((spec_l2Memory.f k l0_0).bind fun t242 => (if t242 = true then ((spec_l1In.f a1_0 0 (wrap64 ((l0_0.length : Int) - 1))).bind fun t243 => (spec_l2Window.j0 k (!t243) l0_0 a1_0 a1_1 a1_2 a1_3)) else (spec_l2Window.j0 k true l0_0 a1_0 a1_1 a1_2 a1_3))) = some r := h
  clear h
  have HC3 := Aside0.mk H
  clear H
  go_enter Try.func88, Try.ntmps88
  go_upto_region 1 with (first | ((with_reducible refine gate_dst (N := 2) rfl ?_); (try (refine gate_guard (by rfl) ?_; dsimp only)); refine box_event ?hg (N := 2) ?hd (cs := #[.slice A0_0 l0_0.length c0_0]) (t := 26) ?hr ?_; (case hd => rfl); (case hg => rfl); (case hr => first | (go_simp; done) | (go_simp; rfl)); intro gb240 hg w4 hbox hb; have n0_ := Aside0.mk (below_step (by repeat (first | (with_reducible first | exact HB.out | apply below_alloc | apply pw_below_drewN | apply below_drew1) | exact HB.out)) hb); have n1_ := Aside0.mk (hbox); have n2_ := Aside0.mk ((by rw [hg]; exact (below_size (by repeat (first | (with_reducible first | exact HB.out | apply below_alloc | apply pw_below_drewN | apply below_drew1) | exact HB.out))) : w.heap.size ≤ gb240)); have n3_ := Aside0.mk ((by rw [hg]; exact (below_size (by repeat (first | (with_reducible first | exact HB.out | apply below_alloc | apply pw_below_drewN | apply below_drew1) | exact HB.out))) : w.heap.size ≤ gb240)); clear HB; have HB := n0_; have BK240 := n1_; have GW240 := n2_; have GE240 := n3_; clear n0_ n1_ n2_ n3_; clear hb hbox hg) | ((with_reducible refine gate_dst (N := 3) rfl ?_); (try (refine gate_guard (by rfl) ?_; dsimp only)); refine box_event ?hg (N := 3) ?hd (cs := #[.int .i64 a1_0, .int .i64 a1_1, .int .i64 a1_2, .int .i64 a1_3]) (t := 48) ?hr ?_; (case hd => rfl); (case hg => rfl); (case hr => first | (go_simp; done) | (go_simp; rfl)); intro gb241 hg w5 hbox hb; have n0_ := Aside0.mk (blk_below (g := gb240) (o := .cells #[.slice A0_0 l0_0.length c0_0] 26 (0, 0)) (by (with_reducible repeat (first | refine blk_drewN ?_ _ | refine blk_drew ?_ | refine blk_alloc ?_ _)); exact BK240.out) hb); have n1_ := Aside0.mk (below_step (by repeat (first | (with_reducible first | exact HB.out | apply below_alloc | apply pw_below_drewN | apply below_drew1 | refine below_set ?_ GE240.out) | exact HB.out)) hb); have n2_ := Aside0.mk (hbox); have n3_ := Aside0.mk ((by rw [hg]; exact (below_size (by repeat (first | (with_reducible first | exact HB.out | apply below_alloc | apply pw_below_drewN | apply below_drew1 | refine below_set ?_ GE240.out) | exact HB.out))) : w.heap.size ≤ gb241)); have n4_ := Aside0.mk ((by rw [hg]; exact (below_size (by repeat (first | (with_reducible first | exact HB.out | apply below_alloc | apply pw_below_drewN | apply below_drew1 | refine below_set ?_ GE240.out) | exact HB.out))) : w.heap.size ≤ gb241)); have n5_ := Aside0.mk ((by rw [hg]; exact Nat.ne_of_lt (blk_lt (g := gb240) (o := .cells #[.slice A0_0 l0_0.length c0_0] 26 (0, 0)) (by (with_reducible repeat (first | refine blk_drewN ?_ _ | refine blk_drew ?_ | refine blk_alloc ?_ _)); exact BK240.out)) : gb240 ≠ gb241)); have n6_ := Aside0.mk ((by rw [hg]; exact Nat.ne_of_gt (blk_lt (g := gb240) (o := .cells #[.slice A0_0 l0_0.length c0_0] 26 (0, 0)) (by (with_reducible repeat (first | refine blk_drewN ?_ _ | refine blk_drew ?_ | refine blk_alloc ?_ _)); exact BK240.out)) : gb241 ≠ gb240)); clear BK240; clear HB; have BK240 := n0_; have HB := n1_; have BK241 := n2_; have GW241 := n3_; have GE241 := n4_; have NB240_241 := n5_; have NB241_240 := n6_; clear n0_ n1_ n2_ n3_ n4_ n5_ n6_; clear hb hbox hg))
  (try simp only [Act.put, List.setIfInBounds_toArray, List.set_cons_zero, List.set_cons_succ])
  go_cut [18] (fun v18 wc => ∃ (kq : Nat) (x18_2 : Bool), v18 = .bool x18_2 ∧ Aside0 (spec_l2Window.j0 kq x18_2 l0_0 a1_0 a1_1 a1_2 a1_3 = some r) ∧ Aside0 (kq ≤ k) ∧ Aside0 (wc.heap[gb240]? = some (.cells #[(.slice A0_0 l0_0.length c0_0)] 26 (0, 0))) ∧ Aside0 (wc.heap[gb241]? = some (.cells #[.int .i64 a1_0, .int .i64 a1_1, .int .i64 a1_2, .int .i64 a1_3] 48 (0, 0))) ∧ Aside0 (Below w.heap.size w wc))
  case first =>
    have H := HC3.out
    clear HC3
    replace H := Option.bind_eq_some_iff.mp H
    obtain ⟨t242, A60, H⟩ := H
    replace H : (if t242 = true then ((spec_l1In.f a1_0 0 (wrap64 ((l0_0.length : Int) - 1))).bind fun t243 => (spec_l2Window.j0 k (!t243) l0_0 a1_0 a1_1 a1_2 a1_3)) else (spec_l2Window.j0 k true l0_0 a1_0 a1_1 a1_2 a1_3)) = some r := H
    have A6 := Aside0.mk A60
    clear A60
    by_cases c7 : t242 = true
    · subst c7
      have H1 : ((spec_l1In.f a1_0 0 (wrap64 ((l0_0.length : Int) - 1))).bind fun t243 => (spec_l2Window.j0 k (!t243) l0_0 a1_0 a1_1 a1_2 a1_3)) = some r := by rw [if_pos rfl] at H; exact H
      clear H
      have H := H1
      clear H1
      replace H := Option.bind_eq_some_iff.mp H
      obtain ⟨t243, A80, H⟩ := H
      replace H : (spec_l2Window.j0 k (!t243) l0_0 a1_0 a1_1 a1_2 a1_3) = some r := H
      have A8 := Aside0.mk A80
      clear A80
      have H' := Aside0.mk H
      clear H
      have hnb9 := NB240_241.out
      have hnc9 := NB241_240.out
      have hcz10_0 : w5.cell? ⟨gb240, 0, none⟩ = some (.slice A0_0 l0_0.length c0_0) := (blk_cell BK240.out 0).trans rfl
      have hfz10_0 := blk_frozen BK240.out 0
      go_wp2_with (first | ((with_reducible refine gate_callee (f := 72) rfl ?_); refine goesL_ (some 7) rfl rfl Try.func72 (by kernel_rfl) rfl #[.agg #[.slice A0_0 l0_0.length c0_0]] rfl (by (try simp only [List.map_toArray, List.map_cons, List.map_nil]); first | done | rfl | (simp only [List.length_drop, List.length_take]; rfl)) ?_; (with_reducible refine (spec_l2Memory.calls k _ _ l0_0 true _ ?side1 ?side2 A6.out).mono ?_); (case side1 => repeat (first | exact (Kd.C_below HR0_0.out HB.out) | (with_reducible refine Kd.C_alloc ?_ _) | (with_reducible refine Kd.C_drewN ?_ _) | (with_reducible refine Kd.C_drew ?_))); (case side2 => exact HC0_0.out); rintro e w11 ⟨rfl, hb⟩; refine ⟨_, rfl, ?_⟩; have n0_ := Aside0.mk (blk_below (g := gb240) (o := .cells #[.slice A0_0 l0_0.length c0_0] 26 (0, 0)) (by (with_reducible repeat (first | refine blk_drewN ?_ _ | refine blk_drew ?_ | refine blk_alloc ?_ _)); exact BK240.out) hb); have n1_ := Aside0.mk (blk_below (g := gb241) (o := .cells #[.int .i64 a1_0, .int .i64 a1_1, .int .i64 a1_2, .int .i64 a1_3] 48 (0, 0)) (by (with_reducible repeat (first | refine blk_drewN ?_ _ | refine blk_drew ?_ | refine blk_alloc ?_ _)); exact BK241.out) hb); have n2_ := Aside0.mk (below_step (by repeat (first | (with_reducible first | exact HB.out | apply below_alloc | apply pw_below_drewN | apply below_drew1 | refine below_set ?_ GE240.out | refine below_set ?_ GE241.out) | exact HB.out)) hb); clear BK240; clear BK241; clear HB; have BK240 := n0_; have BK241 := n1_; have HB := n2_; clear n0_ n1_ n2_; (try clear hb); (try clear hb2); (try clear hk); (try clear hi); have hcz12_0 : w11.cell? ⟨gb241, 0, none⟩ = some (.int .i64 a1_0) := (blk_cell BK241.out 0).trans rfl; have hcz12_1 : w11.cell? ⟨gb241, 1, none⟩ = some (.int .i64 a1_1) := (blk_cell BK241.out 1).trans rfl; have hcz12_2 : w11.cell? ⟨gb241, 2, none⟩ = some (.int .i64 a1_2) := (blk_cell BK241.out 2).trans rfl; have hcz12_3 : w11.cell? ⟨gb241, 3, none⟩ = some (.int .i64 a1_3) := (blk_cell BK241.out 3).trans rfl; have hfz12_0 := blk_frozen BK241.out 0; have hfz12_1 := blk_frozen BK241.out 1; have hfz12_2 := blk_frozen BK241.out 2; have hfz12_3 := blk_frozen BK241.out 3; have hcz13_0 : w11.cell? ⟨gb240, 0, none⟩ = some (.slice A0_0 l0_0.length c0_0) := (blk_cell BK240.out 0).trans rfl; have hfz13_0 := blk_frozen BK240.out 0) | (go_at_call 133; (with_reducible refine (spec_l1In.calls a1_0 0 (wrap64 ((l0_0.length : Int) - 1)) t243 _ A8.out).mono ?_); rintro e w' ⟨rfl, ⟨nd, rfl⟩⟩))
      go_meet
      case rel => exact ⟨_, (!t243), (by first | rfl | (simp; done) | (simp [*]; done)), H', ⟨by first | omega | exact Nat.le_refl _⟩, ⟨by (with_reducible repeat (first | refine blk_drewN ?_ _ | refine blk_drew ?_ | refine blk_alloc ?_ _)); exact BK240.out⟩, ⟨by (with_reducible repeat (first | refine blk_drewN ?_ _ | refine blk_drew ?_ | refine blk_alloc ?_ _)); exact BK241.out⟩, ⟨by repeat (first | (with_reducible first | exact HB.out | apply below_alloc | apply pw_below_drewN | apply below_drew1 | refine below_set ?_ GE240.out | refine below_set ?_ GE241.out) | exact HB.out)⟩⟩
    · replace c7 := Bool.eq_false_iff.mpr c7
      subst c7
      have H1 : (spec_l2Window.j0 k true l0_0 a1_0 a1_1 a1_2 a1_3) = some r := by rw [if_neg (show ¬ (false = true) by decide)] at H; exact H
      clear H
      have H := H1
      clear H1
      have H' := Aside0.mk H
      clear H
      have hnb14 := NB240_241.out
      have hnc14 := NB241_240.out
      have hcz15_0 : w5.cell? ⟨gb240, 0, none⟩ = some (.slice A0_0 l0_0.length c0_0) := (blk_cell BK240.out 0).trans rfl
      have hfz15_0 := blk_frozen BK240.out 0
      go_wp2_with (first | ((with_reducible refine gate_callee (f := 72) rfl ?_); refine goesL_ (some 7) rfl rfl Try.func72 (by kernel_rfl) rfl #[.agg #[.slice A0_0 l0_0.length c0_0]] rfl (by (try simp only [List.map_toArray, List.map_cons, List.map_nil]); first | done | rfl | (simp only [List.length_drop, List.length_take]; rfl)) ?_; (with_reducible refine (spec_l2Memory.calls k _ _ l0_0 false _ ?side1 ?side2 A6.out).mono ?_); (case side1 => repeat (first | exact (Kd.C_below HR0_0.out HB.out) | (with_reducible refine Kd.C_alloc ?_ _) | (with_reducible refine Kd.C_drewN ?_ _) | (with_reducible refine Kd.C_drew ?_))); (case side2 => exact HC0_0.out); rintro e w16 ⟨rfl, hb⟩; refine ⟨_, rfl, ?_⟩; have n0_ := Aside0.mk (blk_below (g := gb240) (o := .cells #[.slice A0_0 l0_0.length c0_0] 26 (0, 0)) (by (with_reducible repeat (first | refine blk_drewN ?_ _ | refine blk_drew ?_ | refine blk_alloc ?_ _)); exact BK240.out) hb); have n1_ := Aside0.mk (blk_below (g := gb241) (o := .cells #[.int .i64 a1_0, .int .i64 a1_1, .int .i64 a1_2, .int .i64 a1_3] 48 (0, 0)) (by (with_reducible repeat (first | refine blk_drewN ?_ _ | refine blk_drew ?_ | refine blk_alloc ?_ _)); exact BK241.out) hb); have n2_ := Aside0.mk (below_step (by repeat (first | (with_reducible first | exact HB.out | apply below_alloc | apply pw_below_drewN | apply below_drew1 | refine below_set ?_ GE240.out | refine below_set ?_ GE241.out) | exact HB.out)) hb); clear BK240; clear BK241; clear HB; have BK240 := n0_; have BK241 := n1_; have HB := n2_; clear n0_ n1_ n2_; (try clear hb); (try clear hb2); (try clear hk); (try clear hi)))
      go_meet
      case rel => exact ⟨_, (true), (by first | rfl | (simp; done) | (simp [*]; done)), H', ⟨by first | omega | exact Nat.le_refl _⟩, ⟨by (with_reducible repeat (first | refine blk_drewN ?_ _ | refine blk_drew ?_ | refine blk_alloc ?_ _)); exact BK240.out⟩, ⟨by (with_reducible repeat (first | refine blk_drewN ?_ _ | refine blk_drew ?_ | refine blk_alloc ?_ _)); exact BK241.out⟩, ⟨by repeat (first | (with_reducible first | exact HB.out | apply below_alloc | apply pw_below_drewN | apply below_drew1 | refine below_set ?_ GE240.out | refine below_set ?_ GE241.out) | exact HB.out)⟩⟩
  case rest =>
    clear HC3
    try clear c1
    try clear p2
    try clear p6
    try clear c7
    try clear c8
    try clear c9
    try clear c14
    try clear hcz10_0
    try clear hcz12_0
    try clear hcz12_1
    try clear hcz12_2
    try clear hcz12_3
    try clear hcz13_0
    try clear hcz15_0
    try clear hfz10_0
    try clear hfz12_0
    try clear hfz12_1
    try clear hfz12_2
    try clear hfz12_3
    try clear hfz13_0
    try clear hfz15_0
    obtain ⟨kq, x18_2, rfl, HA, HJ2, BK240, BK241, HB⟩ := hcut
    cases kq with
    | zero => exact absurd HA.out (by simp [spec_l2Window.j0])
    | succ kj2 =>
      have H := HA.out
      clear HA
      simp only [spec_l2Window.j0] at H
      by_cases c17 : x18_2 = true
      · subst c17
        have H1 : (some false) = some r := by rw [if_pos rfl] at H; exact H
        clear H
        have H := H1
        clear H1
        obtain rfl := Option.some.inj H
        go_wp2
        go_ret
        exact ⟨by first | rfl | (simp [errW_none, errW_some] <;> rfl) | (simp [*, errW_none, errW_some] <;> rfl), by repeat (first | (with_reducible first | exact HB.out | apply below_alloc | apply pw_below_drewN | apply below_drew1 | refine below_set ?_ GE240.out | refine below_set ?_ GE241.out) | exact HB.out)⟩
      · replace c17 := Bool.eq_false_iff.mpr c17
        subst c17
        have H1 : (if 0 ≤ a1_0 then (if a1_0 < (l0_0.length : Int) then ((spec_l1In.f a1_1 0 ((rd_Lsu8 l0_0 a1_0).length : Int)).bind fun t245 => (if t245 = true then ((spec_l1In.f a1_3 0 (wrap64 (((rd_Lsu8 l0_0 a1_0).length : Int) - a1_1))).bind fun t246 => (if t246 = true then ((spec_l1In.f a1_2 0 a1_3).bind fun t247 => (some t247)) else (some false))) else (some false))) else (none)) else (none)) = some r := by rw [if_neg (show ¬ (false = true) by decide)] at H; exact H
        clear H
        have H := H1
        clear H1
        by_cases c18 : 0 ≤ a1_0
        · rw [if_pos c18] at H
          have c18b0 : decide (0 ≤ a1_0) = true := decide_eq_true c18
          clear c18
          by_cases c19 : a1_0 < (l0_0.length : Int)
          · rw [if_pos c19] at H
            have c19b0 : decide (a1_0 < (l0_0.length : Int)) = true := decide_eq_true c19
            clear c19
            replace H := Option.bind_eq_some_iff.mp H
            obtain ⟨t245, A200, H⟩ := H
            replace H : (if t245 = true then ((spec_l1In.f a1_3 0 (wrap64 (((rd_Lsu8 l0_0 a1_0).length : Int) - a1_1))).bind fun t246 => (if t246 = true then ((spec_l1In.f a1_2 0 a1_3).bind fun t247 => (some t247)) else (some false))) else (some false)) = some r := H
            have A20 := Aside0.mk A200
            clear A200
            by_cases c21 : t245 = true
            · subst c21
              have H1 : ((spec_l1In.f a1_3 0 (wrap64 (((rd_Lsu8 l0_0 a1_0).length : Int) - a1_1))).bind fun t246 => (if t246 = true then ((spec_l1In.f a1_2 0 a1_3).bind fun t247 => (some t247)) else (some false))) = some r := by rw [if_pos rfl] at H; exact H
              clear H
              have H := H1
              clear H1
              replace H := Option.bind_eq_some_iff.mp H
              obtain ⟨t246, A220, H⟩ := H
              replace H : (if t246 = true then ((spec_l1In.f a1_2 0 a1_3).bind fun t247 => (some t247)) else (some false)) = some r := H
              have A22 := Aside0.mk A220
              clear A220
              by_cases c23 : t246 = true
              · subst c23
                have H1 : ((spec_l1In.f a1_2 0 a1_3).bind fun t247 => (some t247)) = some r := by rw [if_pos rfl] at H; exact H
                clear H
                have H := H1
                clear H1
                replace H := Option.bind_eq_some_iff.mp H
                obtain ⟨t247, A240, H⟩ := H
                replace H : (some t247) = some r := H
                have A24 := Aside0.mk A240
                clear A240
                obtain rfl := Option.some.inj H
                have hnb25 := NB240_241.out
                have hnc25 := NB241_240.out
                have hcz26_0 : wc.cell? ⟨gb240, 0, none⟩ = some (.slice A0_0 l0_0.length c0_0) := (blk_cell BK240.out 0).trans rfl
                have hfz26_0 := blk_frozen BK240.out 0
                have hcz27_0 : wc.cell? ⟨gb241, 0, none⟩ = some (.int .i64 a1_0) := (blk_cell BK241.out 0).trans rfl
                have hcz27_1 : wc.cell? ⟨gb241, 1, none⟩ = some (.int .i64 a1_1) := (blk_cell BK241.out 1).trans rfl
                have hcz27_2 : wc.cell? ⟨gb241, 2, none⟩ = some (.int .i64 a1_2) := (blk_cell BK241.out 2).trans rfl
                have hcz27_3 : wc.cell? ⟨gb241, 3, none⟩ = some (.int .i64 a1_3) := (blk_cell BK241.out 3).trans rfl
                have hfz27_0 := blk_frozen BK241.out 0
                have hfz27_1 := blk_frozen BK241.out 1
                have hfz27_2 := blk_frozen BK241.out 2
                have hfz27_3 := blk_frozen BK241.out 3
                have p244 : 0 ≤ (a1_0 : Int) := of_decide_eq_true (by first | (with_reducible assumption) | assumption)
                have q244 : a1_0 < (l0_0.length : Int) := of_decide_eq_true (by first | (with_reducible assumption) | assumption)
                obtain ⟨ad244, A244_0, c244_0, e244, hx244_0, hl244_0, hi244_0⟩ := at_Lsu8 HR0_0.out a1_0 p244 q244
                cases e244
                replace hx244_0 := (HB.out.cell (World.block_lt_of_cell? w _ hx244_0)).trans hx244_0
                have HR244_0 := Aside0.mk hi244_0
                have HC244_0 := Aside0.mk hl244_0
                clear hi244_0 hl244_0
                replace p244 := eq_true p244
                replace q244 := eq_true q244
                go_wp2_with (first | ((with_reducible refine gate_callee (f := 133) rfl ?_); refine goesL_ (some 29) rfl rfl Try.func133 (by kernel_rfl) rfl #[.int .i64 a1_1, .int .i64 0, .int .i64 ((rd_Lsu8 l0_0 a1_0).length : Int)] rfl (by (try simp only [List.map_toArray, List.map_cons, List.map_nil]); first | done | rfl | (simp only [List.length_drop, List.length_take]; rfl)) ?_; (with_reducible refine (spec_l1In.calls a1_1 0 ((rd_Lsu8 l0_0 a1_0).length : Int) true _ A20.out).mono ?_); rintro e w' ⟨rfl, ⟨nd, rfl⟩⟩; refine ⟨_, rfl, ?_⟩) | (go_at_call 133; (with_reducible refine (spec_l1In.calls a1_3 0 (wrap64 (((rd_Lsu8 l0_0 a1_0).length : Int) - a1_1)) true _ A22.out).mono ?_); rintro e w' ⟨rfl, ⟨nd, rfl⟩⟩) | (go_at_call 133; (with_reducible refine (spec_l1In.calls a1_2 0 a1_3 t247 _ A24.out).mono ?_); rintro e w' ⟨rfl, ⟨nd, rfl⟩⟩))
                go_ret
                exact ⟨by first | rfl | (simp [errW_none, errW_some] <;> rfl) | (simp [*, errW_none, errW_some] <;> rfl), by repeat (first | (with_reducible first | exact HB.out | apply below_alloc | apply pw_below_drewN | apply below_drew1 | refine below_set ?_ GE240.out | refine below_set ?_ GE241.out) | exact HB.out)⟩
              · replace c23 := Bool.eq_false_iff.mpr c23
                subst c23
                have H1 : (some false) = some r := by rw [if_neg (show ¬ (false = true) by decide)] at H; exact H
                clear H
                have H := H1
                clear H1
                obtain rfl := Option.some.inj H
                have hnb28 := NB240_241.out
                have hnc28 := NB241_240.out
                have hcz29_0 : wc.cell? ⟨gb240, 0, none⟩ = some (.slice A0_0 l0_0.length c0_0) := (blk_cell BK240.out 0).trans rfl
                have hfz29_0 := blk_frozen BK240.out 0
                have hcz30_0 : wc.cell? ⟨gb241, 0, none⟩ = some (.int .i64 a1_0) := (blk_cell BK241.out 0).trans rfl
                have hcz30_1 : wc.cell? ⟨gb241, 1, none⟩ = some (.int .i64 a1_1) := (blk_cell BK241.out 1).trans rfl
                have hcz30_2 : wc.cell? ⟨gb241, 2, none⟩ = some (.int .i64 a1_2) := (blk_cell BK241.out 2).trans rfl
                have hcz30_3 : wc.cell? ⟨gb241, 3, none⟩ = some (.int .i64 a1_3) := (blk_cell BK241.out 3).trans rfl
                have hfz30_0 := blk_frozen BK241.out 0
                have hfz30_1 := blk_frozen BK241.out 1
                have hfz30_2 := blk_frozen BK241.out 2
                have hfz30_3 := blk_frozen BK241.out 3
                have p244 : 0 ≤ (a1_0 : Int) := of_decide_eq_true (by first | (with_reducible assumption) | assumption)
                have q244 : a1_0 < (l0_0.length : Int) := of_decide_eq_true (by first | (with_reducible assumption) | assumption)
                obtain ⟨ad244, A244_0, c244_0, e244, hx244_0, hl244_0, hi244_0⟩ := at_Lsu8 HR0_0.out a1_0 p244 q244
                cases e244
                replace hx244_0 := (HB.out.cell (World.block_lt_of_cell? w _ hx244_0)).trans hx244_0
                have HR244_0 := Aside0.mk hi244_0
                have HC244_0 := Aside0.mk hl244_0
                clear hi244_0 hl244_0
                replace p244 := eq_true p244
                replace q244 := eq_true q244
                go_wp2_with (first | ((with_reducible refine gate_callee (f := 133) rfl ?_); refine goesL_ (some 29) rfl rfl Try.func133 (by kernel_rfl) rfl #[.int .i64 a1_1, .int .i64 0, .int .i64 ((rd_Lsu8 l0_0 a1_0).length : Int)] rfl (by (try simp only [List.map_toArray, List.map_cons, List.map_nil]); first | done | rfl | (simp only [List.length_drop, List.length_take]; rfl)) ?_; (with_reducible refine (spec_l1In.calls a1_1 0 ((rd_Lsu8 l0_0 a1_0).length : Int) true _ A20.out).mono ?_); rintro e w' ⟨rfl, ⟨nd, rfl⟩⟩; refine ⟨_, rfl, ?_⟩) | (go_at_call 133; (with_reducible refine (spec_l1In.calls a1_3 0 (wrap64 (((rd_Lsu8 l0_0 a1_0).length : Int) - a1_1)) false _ A22.out).mono ?_); rintro e w' ⟨rfl, ⟨nd, rfl⟩⟩))
                go_ret
                exact ⟨by first | rfl | (simp [errW_none, errW_some] <;> rfl) | (simp [*, errW_none, errW_some] <;> rfl), by repeat (first | (with_reducible first | exact HB.out | apply below_alloc | apply pw_below_drewN | apply below_drew1 | refine below_set ?_ GE240.out | refine below_set ?_ GE241.out) | exact HB.out)⟩
            · replace c21 := Bool.eq_false_iff.mpr c21
              subst c21
              have H1 : (some false) = some r := by rw [if_neg (show ¬ (false = true) by decide)] at H; exact H
              clear H
              have H := H1
              clear H1
              obtain rfl := Option.some.inj H
              have hnb31 := NB240_241.out
              have hnc31 := NB241_240.out
              have hcz32_0 : wc.cell? ⟨gb240, 0, none⟩ = some (.slice A0_0 l0_0.length c0_0) := (blk_cell BK240.out 0).trans rfl
              have hfz32_0 := blk_frozen BK240.out 0
              have hcz33_0 : wc.cell? ⟨gb241, 0, none⟩ = some (.int .i64 a1_0) := (blk_cell BK241.out 0).trans rfl
              have hcz33_1 : wc.cell? ⟨gb241, 1, none⟩ = some (.int .i64 a1_1) := (blk_cell BK241.out 1).trans rfl
              have hcz33_2 : wc.cell? ⟨gb241, 2, none⟩ = some (.int .i64 a1_2) := (blk_cell BK241.out 2).trans rfl
              have hcz33_3 : wc.cell? ⟨gb241, 3, none⟩ = some (.int .i64 a1_3) := (blk_cell BK241.out 3).trans rfl
              have hfz33_0 := blk_frozen BK241.out 0
              have hfz33_1 := blk_frozen BK241.out 1
              have hfz33_2 := blk_frozen BK241.out 2
              have hfz33_3 := blk_frozen BK241.out 3
              have p244 : 0 ≤ (a1_0 : Int) := of_decide_eq_true (by first | (with_reducible assumption) | assumption)
              have q244 : a1_0 < (l0_0.length : Int) := of_decide_eq_true (by first | (with_reducible assumption) | assumption)
              obtain ⟨ad244, A244_0, c244_0, e244, hx244_0, hl244_0, hi244_0⟩ := at_Lsu8 HR0_0.out a1_0 p244 q244
              cases e244
              replace hx244_0 := (HB.out.cell (World.block_lt_of_cell? w _ hx244_0)).trans hx244_0
              have HR244_0 := Aside0.mk hi244_0
              have HC244_0 := Aside0.mk hl244_0
              clear hi244_0 hl244_0
              replace p244 := eq_true p244
              replace q244 := eq_true q244
              go_wp2_with (first | ((with_reducible refine gate_callee (f := 133) rfl ?_); refine goesL_ (some 29) rfl rfl Try.func133 (by kernel_rfl) rfl #[.int .i64 a1_1, .int .i64 0, .int .i64 ((rd_Lsu8 l0_0 a1_0).length : Int)] rfl (by (try simp only [List.map_toArray, List.map_cons, List.map_nil]); first | done | rfl | (simp only [List.length_drop, List.length_take]; rfl)) ?_; (with_reducible refine (spec_l1In.calls a1_1 0 ((rd_Lsu8 l0_0 a1_0).length : Int) false _ A20.out).mono ?_); rintro e w' ⟨rfl, ⟨nd, rfl⟩⟩; refine ⟨_, rfl, ?_⟩))
              go_ret
              exact ⟨by first | rfl | (simp [errW_none, errW_some] <;> rfl) | (simp [*, errW_none, errW_some] <;> rfl), by repeat (first | (with_reducible first | exact HB.out | apply below_alloc | apply pw_below_drewN | apply below_drew1 | refine below_set ?_ GE240.out | refine below_set ?_ GE241.out) | exact HB.out)⟩
          · rw [if_neg c19] at H
            exact absurd H (by simp)
        · rw [if_neg c18] at H
          exact absurd H (by simp)

end Go.Proofs.Ytoomjghabiojkaa.P


/- What the printed functions over a memory and one window come to. -/
namespace Go.Proofs.Ytoomjghabiojkaa.P
open Go.RowKit Go.Proofs.YtoomjghabiojkaaW.PrintWords
set_option linter.unusedVariables false
def okM (m : List (List Int)) : Prop := m.length ≤ 1048576 ∧ (∀ x ∈ m, x.length ≤ 1048576) ∧ sizeBB m ≤ 1048576
theorem sizeBB_mem {m : List (List Int)} {x : List Int} (h : x ∈ m) : x.length ≤ sizeBB m := by
  induction m with
  | nil => simp at h
  | cons y m ih =>
    simp only [sizeBB]
    rcases List.mem_cons.1 h with rfl | h
    · omega
    · have := ih h; omega
theorem szMemory_f (m : List (List Int)) (a : Int) (h0 : 0 ≤ a) (h1 : a ≤ 1048576) (hl : m.length ≤ 9223372036854775807) (h3 : ∀ x ∈ m, x.length ≤ 9223372036854775807) :
    ∃ r, Ev (fun k => laws_szMemory.f k m a) r ∧ (okM m ∧ 0 ≤ r ∧ r ≤ a ∨ r = -1) := by
  obtain ⟨r, hr, hh⟩ := szByteSS_f m a h0 h1 hl h3
  rcases hh with ⟨h4, h5⟩ | h4
  · refine ⟨r, Ev.bind hr ?_, .inl ⟨⟨by omega, fun x hx => by have := sizeBB_mem hx; omega, by omega⟩, by omega, by omega⟩⟩
    rw [if_neg (by omega)]
    exact Ev.now _
  · refine ⟨-1, Ev.bind hr ?_, .inr rfl⟩
    rw [if_pos (by omega)]
    exact Ev.now _
theorem toMemory_f (m : List (List Int)) (h : okM m) : laws_toMemory.f m = some m := by
  unfold laws_toMemory.f laws_toByteSS.f
  rw [if_pos ⟨h.1, by rw [List.all_eq_true]; exact fun x hx => decide_eq_true (h.2.1 x hx)⟩]
  rfl
theorem eqMemory_f (m : List (List Int)) (h : m.length ≤ 9223372036854775807) (h3 : ∀ x ∈ m, x.length ≤ 9223372036854775807) : Ev (fun k => laws_eqMemory.f k m m) true := by
  refine Ev.bind (eqByteSS_f m h h3) ?_
  rw [if_pos rfl]
  exact Ev.now _
theorem okM.len {m : List (List Int)} (h : okM m) : m.length ≤ 9223372036854775807 := by have := h.1; omega
theorem okM.rows {m : List (List Int)} (h : okM m) : ∀ x ∈ m, x.length ≤ 9223372036854775807 := fun x hx => by have := h.2.1 x hx; omega
theorem memB_len {m : List (List Int)} (h : memB m = true) : m.length ≤ 16 := by
  unfold memB at h
  simp at h
  exact h.2
theorem memB_rows {m : List (List Int)} (h : memB m = true) : ∀ x ∈ m, 1 ≤ x.length ∧ x.length ≤ 64 := by
  unfold memB at h
  simp at h
  exact h.1
theorem sizeBB_le {m : List (List Int)} {b : Nat} (h : ∀ x ∈ m, x.length ≤ b) : sizeBB m ≤ m.length * b := by
  induction m with
  | nil => simp [sizeBB]
  | cons y m ih =>
    have h1 := h y (by simp)
    have h2 := ih (fun x hx => h x (by simp [hx]))
    simp only [sizeBB, List.length_cons, Nat.add_mul, Nat.one_mul]
    omega
theorem memB_ok {m : List (List Int)} (h : memB m = true) : okM m := by
  have h1 := memB_len h
  have h2 := memB_rows h
  have h3 := sizeBB_le (b := 64) (fun x hx => (h2 x hx).2)
  exact ⟨by omega, fun x hx => by have := h2 x hx; omega, by omega⟩
theorem l2Window_f (m : List (List Int)) (a s l c : Int) (hm : m.length ≤ 9223372036854775807) (hx : ∀ x ∈ m, x.length ≤ 9223372036854775807) (hs : -9223372036854775808 ≤ s ∧ s ≤ 9223372036854775807) :
    Ev (fun k => spec_l2Window.f k m a s l c) (memB m && winB m a s l c) := by
  refine Ev.bind (l2Memory_f m hm) ?_
  by_cases h : memB m = true
  · have hw : wrap64 ((m.length : Int) - 1) = (m.length : Int) - 1 := wrap_ok (by omega) (by omega)
    simp only [h, if_true, hw, l1In_f, Option.bind_some, Bool.true_and]
    refine Ev.step (f := fun k => some (winB m a s l c)) (fun k => ?_) (Ev.now _)
    simp only [spec_l2Window.j0]
    by_cases h1 : 0 ≤ a ∧ a < m.length
    · have h1' : 0 ≤ a ∧ a ≤ (m.length : Int) - 1 := by omega
      rw [decide_eq_true h1', if_neg (by simp), if_pos h1.1, if_pos h1.2, l1In_f, Option.bind_some]
      have hl : (rd_Lsu8 m a).length ≤ 64 := by
        unfold rd_Lsu8
        rw [List.getD_eq_getElem?_getD, List.getElem?_eq_getElem (show a.toNat < m.length by omega)]
        exact (memB_rows h _ (List.getElem_mem _)).2
      by_cases h2 : 0 ≤ s ∧ s ≤ ((rd_Lsu8 m a).length : Int)
      · rw [decide_eq_true h2, if_pos rfl, wrap_ok (by omega) (by omega), l1In_f, Option.bind_some]
        by_cases h3 : 0 ≤ c ∧ c ≤ ((rd_Lsu8 m a).length : Int) - s
        · rw [decide_eq_true h3, if_pos rfl, l1In_f, Option.bind_some]
          congr 1
          unfold winB
          rw [decide_eq_decide]
          omega
        · rw [decide_eq_false h3, if_neg (by simp)]
          congr 1
          unfold winB
          symm
          rw [decide_eq_false_iff_not]
          omega
      · rw [decide_eq_false h2, if_neg (by simp)]
        congr 1
        unfold winB
        symm
        rw [decide_eq_false_iff_not]
        omega
    · have h1' : ¬ (0 ≤ a ∧ a ≤ (m.length : Int) - 1) := by omega
      rw [decide_eq_false h1', if_pos (by simp)]
      congr 1
      unfold winB
      symm
      rw [decide_eq_false_iff_not]
      omega
  · have h' := Bool.eq_false_iff.2 h
    simp only [h', Bool.false_and, Bool.false_eq_true, if_false]
    refine Ev.step (f := fun k => some false) (fun k => ?_) (Ev.now _)
    simp only [spec_l2Window.j0]
    rw [if_pos trivial]
end Go.Proofs.Ytoomjghabiojkaa.P


/- markMemory: a memory's bytes written in place. -/
namespace Go.Proofs.Ytoomjghabiojkaa.P
open Go.RowKit Go.Proofs.YtoomjghabiojkaaW.PrintWords Go.Proofs.YtoomjghabiojkaaW.PrintLast Go.Proofs.YtoomjghabiojkaaW.PrintMore Go.Proofs.YtoomjghabiojkaaW.Mine
set_option linter.unusedVariables false
set_option linter.unusedSimpArgs false
def laws_markMemory.f (l : List (List Int)) (a : Int) : Option (Int × List (List Int)) :=
  if 0 ≤ a ∧ a + sizeBB l ≤ 4611686018427387904 ∧ l.length ≤ 4611686018427387904 then some (a + sizeBB l, marksBB a l) else none
set_option maxHeartbeats 1600000 in
set_option maxRecDepth 100000 in
theorem laws_markMemory.calls (P_ : Nat → Prop) (u : Value) (l : List (List Int)) (a : Int) (r1 : Int) (r2 : List (List Int)) (w0 w : World) (hB : Below w0.heap.size w0 w) (ho : Kd.S (Kd.slice 5 (Kd.int .u8)) 119 w w0.heap.size P_ u l)
    (h : laws_markMemory.f l a = some (r1, r2)) :
    Calls Try.prog 20 #[.agg #[u], .int .i64 a] w fun e w' => e = .returned (.int .i64 r1) ∧ Kd.S (Kd.slice 5 (Kd.int .u8)) 119 w' w0.heap.size P_ u r2 ∧ Below w0.heap.size w0 w' ∧ Kept w w' P_ := by
  unfold laws_markMemory.f at h
  by_cases hh : 0 ≤ a ∧ a + sizeBB l ≤ 4611686018427387904 ∧ l.length ≤ 4611686018427387904
  · rw [if_pos hh] at h
    obtain ⟨rfl, rfl⟩ : a + sizeBB l = r1 ∧ marksBB a l = r2 := by simpa using h
    obtain ⟨h1, h2, h3⟩ := hh
    obtain ⟨A, c, rfl⟩ := Kd.S_slice ho
    have HO0 := Aside0.mk (show Kd.S (Kd.slice 5 (Kd.int .u8)) 119 w w0.heap.size (fun k => P_ k ∧ k < w.heap.size) (.slice A l.length c) l from Kd.S_mono (Kd.S_bound ho) (fun k hk => ⟨hk.1, hk.2.2.1⟩))
    have HB0 := Aside0.mk hB
    have H1 := Aside0.mk h1
    have H2 := Aside0.mk h2
    have H3 := Aside0.mk h3
    clear h h1 h2 h3 ho hB
    go_enter Try.func20, Try.ntmps20
    go_wp2_with (first | ((with_reducible refine gate_dst (N := 2) rfl ?_); refine box_event ?hg (N := 2) ?hd (cs := #[.slice A l.length c]) (t := 26) ?hr ?_; (case hd => rfl); (case hg => rfl); (case hr => first | (go_simp; done) | (go_simp; rfl)); intro g hg w1 hbox hb; have HO := Aside0.mk (Kd.S_below HO0.out hb); have HB := Aside0.mk (below_step HB0.out hb); have HK := Aside0.mk (Kept.of_below hb P_); have HX := Aside0.mk hbox; have HG := Aside0.mk hg; have hcz : w1.cell? ⟨g, 0, none⟩ = some (.slice A l.length c) := (blk_cell hbox 0).trans rfl; have hfz := blk_frozen hbox 0; clear hg hb hbox) | ((with_reducible refine gate_callee (f := 53) rfl ?_); refine goesL_ (some 8) rfl rfl Try.func53 (by kernel_rfl) rfl #[.slice A l.length c, .int .i64 a] rfl (by (try simp only [List.map_toArray, List.map_cons, List.map_nil]); first | done | rfl) ?_; (refine (markByteSS_c (fun k => P_ k ∧ k < w.heap.size) (.slice A l.length c) l a w0 _ HB.out HO.out H1.out H2.out H3.out).mono ?_); rintro e w2 ⟨rfl, hr2, hb2, hk2⟩; refine ⟨_, rfl, ?_⟩; have HO2 := Aside0.mk hr2; have HB2 := Aside0.mk hb2; have HK2 := Aside0.mk (HK.out.then_ hk2 (fun k hk => .inl hk.1)); clear hr2 hb2 hk2 hcz hfz))
    go_ret
    exact ⟨by first | rfl | simp, Kd.S_mono HO2.out (fun k hk => hk.1), HB2.out, HK2.out⟩
  · rw [if_neg hh] at h
    cases h
theorem markMemory_f (l : List (List Int)) (a : Int) (h0 : 0 ≤ a) (h1 : a + sizeBB l ≤ 4611686018427387904) (h2 : l.length ≤ 4611686018427387904) : laws_markMemory.f l a = some (a + sizeBB l, marksBB a l) := if_pos ⟨h0, h1, h2⟩
end Go.Proofs.Ytoomjghabiojkaa.P


/- Marks and equality of a memory that is small enough. -/
namespace Go.Proofs.Ytoomjghabiojkaa.P
open Go.RowKit Go.Proofs.YtoomjghabiojkaaW.PrintWords
set_option linter.unusedVariables false
theorem markM (m : List (List Int)) (h : okM m) : laws_markMemory.f m 1 = some ((1 : Int) + (sizeBB m : Int), marksBB 1 m) := markMemory_f m 1 (by omega) (by have := h.2.2; omega) (by have := h.1; omega)
theorem eqM (m : List (List Int)) (h : okM m) : Ev (fun k => laws_eqMemory.f k m m) true := eqMemory_f m h.len h.rows
end Go.Proofs.Ytoomjghabiojkaa.P


namespace Go.Proofs.Ytoomjghabiojkaa.P
open Go.RowKit Go.Proofs.YtoomjghabiojkaaW.PrintWords Go.Proofs.YtoomjghabiojkaaW.PrintLast Go.Proofs.YtoomjghabiojkaaW.PrintMore
attribute [local go_sem] max2_int min2_int max_two min_two max_three min_three max_four min_four   -- for this text's walks alone
set_option linter.unusedVariables false
set_option linter.unusedSimpArgs false

def laws_heldMemory.f (k : Nat) (l0_0 : List (List Int)) (a1 : Int) : Option (Int) := (laws_heldByteSS.f k l0_0 a1).bind fun t197 => (if t197 < 0 then (some (-1)) else (some t197))
set_option maxHeartbeats 8000000 in
set_option maxRecDepth 100000 in
theorem laws_heldMemory.calls (k : Nat) (A0_0 : Option Addr) (c0_0 : Nat) (l0_0 : List (List Int)) (a1 : Int) (r : Int) (w : World) (hr0_0 : Kd.C (Kd.slice 5 (Kd.int .u8)) w A0_0 l0_0.length l0_0) (hc0_0 : l0_0.length ≤ c0_0) (h : laws_heldMemory.f k l0_0 a1 = some r) :
    Calls Try.prog 69 #[.agg #[.slice A0_0 l0_0.length c0_0], .int .i64 a1] w fun e w' => e = .returned (.int .i64 r) ∧ Below w.heap.size w w' := by
  have hu26 := Try.underlying26
  have HR0_0 := Aside0.mk hr0_0
  have HC0_0 := Aside0.mk hc0_0
  clear hr0_0 hc0_0
  have HB := Aside0.mk (Below.refl w.heap.size w)
  have H : ((laws_heldByteSS.f k l0_0 a1).bind fun t197 => (if t197 < 0 then (some (-1)) else (some t197))) = some r := h
  clear h
  replace H := Option.bind_eq_some_iff.mp H
  obtain ⟨t197, A30, H⟩ := H
  replace H : (if t197 < 0 then (some (-1)) else (some t197)) = some r := H
  have A3 := Aside0.mk A30
  clear A30
  by_cases c4 : t197 < 0
  · rw [if_pos c4] at H
    have c4b0 : decide (t197 < 0) = true := decide_eq_true c4
    clear c4
    obtain rfl := Option.some.inj H
    go_enter Try.func69, Try.ntmps69
    go_wp2_with (first | ((with_reducible refine gate_dst (N := 2) rfl ?_); refine box_event ?hg (N := 2) ?hd (cs := #[.slice A0_0 l0_0.length c0_0]) (t := 26) ?hr ?_; (case hd => rfl); (case hg => rfl); (case hr => first | (go_simp; done) | (go_simp; rfl)); intro gb196 hg w5 hbox hb; have n0_ := Aside0.mk (below_step (by repeat (first | (with_reducible first | exact HB.out | apply below_alloc | apply pw_below_drewN | apply below_drew1) | exact HB.out)) hb); have n1_ := Aside0.mk (hbox); have n2_ := Aside0.mk ((by rw [hg]; exact (below_size (by repeat (first | (with_reducible first | exact HB.out | apply below_alloc | apply pw_below_drewN | apply below_drew1) | exact HB.out))) : w.heap.size ≤ gb196)); have n3_ := Aside0.mk ((by rw [hg]; exact (below_size (by repeat (first | (with_reducible first | exact HB.out | apply below_alloc | apply pw_below_drewN | apply below_drew1) | exact HB.out))) : w.heap.size ≤ gb196)); clear HB; have HB := n0_; have BK196 := n1_; have GW196 := n2_; have GE196 := n3_; clear n0_ n1_ n2_ n3_; clear hb hbox hg; have hcz6_0 : w5.cell? ⟨gb196, 0, none⟩ = some (.slice A0_0 l0_0.length c0_0) := (blk_cell BK196.out 0).trans rfl; have hfz6_0 := blk_frozen BK196.out 0) | ((with_reducible refine gate_callee (f := 54) rfl ?_); refine goesL_ (some 8) rfl rfl Try.func54 (by kernel_rfl) rfl #[.slice A0_0 l0_0.length c0_0, .int .i64 a1] rfl (by (try simp only [List.map_toArray, List.map_cons, List.map_nil]); first | done | rfl | (simp only [List.length_drop, List.length_take]; rfl)) ?_; (with_reducible refine (laws_heldByteSS.calls k _ _ l0_0 a1 t197 _ ?side1 ?side2 A3.out).mono ?_); (case side1 => repeat (first | exact (Kd.C_below HR0_0.out HB.out) | (with_reducible refine Kd.C_alloc ?_ _) | (with_reducible refine Kd.C_drewN ?_ _) | (with_reducible refine Kd.C_drew ?_))); (case side2 => exact HC0_0.out); rintro e w' ⟨rfl, ⟨nd, rfl⟩⟩; refine ⟨_, rfl, ?_⟩))
    go_ret
    exact ⟨by first | rfl | (simp [errW_none, errW_some] <;> rfl) | (simp [*, errW_none, errW_some] <;> rfl), by repeat (first | (with_reducible first | exact HB.out | apply below_alloc | apply pw_below_drewN | apply below_drew1 | refine below_set ?_ GE196.out) | exact HB.out)⟩
  · rw [if_neg c4] at H
    have c4b0 : decide (t197 < 0) = false := decide_eq_false c4
    clear c4
    obtain rfl := Option.some.inj H
    go_enter Try.func69, Try.ntmps69
    go_wp2_with (first | ((with_reducible refine gate_dst (N := 2) rfl ?_); refine box_event ?hg (N := 2) ?hd (cs := #[.slice A0_0 l0_0.length c0_0]) (t := 26) ?hr ?_; (case hd => rfl); (case hg => rfl); (case hr => first | (go_simp; done) | (go_simp; rfl)); intro gb196 hg w7 hbox hb; have n0_ := Aside0.mk (below_step (by repeat (first | (with_reducible first | exact HB.out | apply below_alloc | apply pw_below_drewN | apply below_drew1) | exact HB.out)) hb); have n1_ := Aside0.mk (hbox); have n2_ := Aside0.mk ((by rw [hg]; exact (below_size (by repeat (first | (with_reducible first | exact HB.out | apply below_alloc | apply pw_below_drewN | apply below_drew1) | exact HB.out))) : w.heap.size ≤ gb196)); have n3_ := Aside0.mk ((by rw [hg]; exact (below_size (by repeat (first | (with_reducible first | exact HB.out | apply below_alloc | apply pw_below_drewN | apply below_drew1) | exact HB.out))) : w.heap.size ≤ gb196)); clear HB; have HB := n0_; have BK196 := n1_; have GW196 := n2_; have GE196 := n3_; clear n0_ n1_ n2_ n3_; clear hb hbox hg; have hcz8_0 : w7.cell? ⟨gb196, 0, none⟩ = some (.slice A0_0 l0_0.length c0_0) := (blk_cell BK196.out 0).trans rfl; have hfz8_0 := blk_frozen BK196.out 0) | ((with_reducible refine gate_callee (f := 54) rfl ?_); refine goesL_ (some 8) rfl rfl Try.func54 (by kernel_rfl) rfl #[.slice A0_0 l0_0.length c0_0, .int .i64 a1] rfl (by (try simp only [List.map_toArray, List.map_cons, List.map_nil]); first | done | rfl | (simp only [List.length_drop, List.length_take]; rfl)) ?_; (with_reducible refine (laws_heldByteSS.calls k _ _ l0_0 a1 t197 _ ?side1 ?side2 A3.out).mono ?_); (case side1 => repeat (first | exact (Kd.C_below HR0_0.out HB.out) | (with_reducible refine Kd.C_alloc ?_ _) | (with_reducible refine Kd.C_drewN ?_ _) | (with_reducible refine Kd.C_drew ?_))); (case side2 => exact HC0_0.out); rintro e w' ⟨rfl, ⟨nd, rfl⟩⟩; refine ⟨_, rfl, ?_⟩))
    go_ret
    exact ⟨by first | rfl | (simp [errW_none, errW_some] <;> rfl) | (simp [*, errW_none, errW_some] <;> rfl), by repeat (first | (with_reducible first | exact HB.out | apply below_alloc | apply pw_below_drewN | apply below_drew1 | refine below_set ?_ GE196.out) | exact HB.out)⟩

end Go.Proofs.Ytoomjghabiojkaa.P


-- written by wip/gen_fun.py
namespace Go.Proofs.Ytoomjghabiojkaa.P
open Go.RowKit Go.Proofs.YtoomjghabiojkaaW.PrintWords Go.Proofs.YtoomjghabiojkaaW.PrintLast Go.Proofs.YtoomjghabiojkaaW.PrintMore Go.Proofs.YtoomjghabiojkaaW.Mine
open List (setIfInBounds_toArray set_cons_zero set_cons_succ)
attribute [local go_sem] max2_int min2_int max_two min_two max_three min_three max_four min_four
set_option linter.unusedVariables false
set_option linter.unusedSimpArgs false
set_option maxHeartbeats 8000000 in
set_option maxRecDepth 100000 in
theorem laws_eqWindow_w0 (a0_0 : Int) (a0_1 : Int) (a0_2 : Int) (a0_3 : Int) (a1_0 : Int) (a1_1 : Int) (a1_2 : Int) (a1_3 : Int) (w : World) (T0 : (a0_0 != a1_0) = false) (T1 : (a0_1 != a1_1) = false) (T2 : (a0_2 != a1_2) = false) (T3 : (a0_3 != a1_3) = false) :
    Calls Try.prog 43 #[.agg #[.int .i64 a0_0, .int .i64 a0_1, .int .i64 a0_2, .int .i64 a0_3], .agg #[.int .i64 a1_0, .int .i64 a1_1, .int .i64 a1_2, .int .i64 a1_3]] w fun e w' => e = .returned (.bool true) ∧ Below w.heap.size w w' := by
  have HS0 : Aside0 (Stk w [] w) := ⟨Stk.nil w⟩
  go_enter Try.func43, Try.ntmps43
  go_wp2_with (first | ((with_reducible refine gate_dst (N := 2) rfl ?_); refine box_event ?hg (N := 2) ?hd (cs := #[.int .i64 a0_0, .int .i64 a0_1, .int .i64 a0_2, .int .i64 a0_3]) (t := 48) ?hr ?_; (case hd => rfl); (case hg => rfl); (case hr => first | (go_simp; done) | (go_simp; rfl)); intro g1 hg w1 hbox hb; have HS1 := Aside0.mk (HS0.out.box hb hg hbox); clear hb hbox hg HS0) | ((with_reducible refine gate_dst (N := 3) rfl ?_); refine box_event ?hg (N := 3) ?hd (cs := #[.int .i64 a1_0, .int .i64 a1_1, .int .i64 a1_2, .int .i64 a1_3]) (t := 48) ?hr ?_; (case hd => rfl); (case hg => rfl); (case hr => first | (go_simp; done) | (go_simp; rfl)); intro g2 hg w2 hbox hb; have HS2 := Aside0.mk (HS1.out.box hb hg hbox); clear hb hbox hg HS1; have B2_g1 : bx g1 #[.int .i64 a0_0, .int .i64 a0_1, .int .i64 a0_2, .int .i64 a0_3] 48 w2 := HS2.out.get 1 rfl; have hcz2_g1_0 : (w2).cell? ⟨g1, 0, none⟩ = some (.int .i64 a0_0) := (blk_cell B2_g1 0).trans rfl; have hfz2_g1_0 := blk_frozen B2_g1 0; have hcz2_g1_1 : (w2).cell? ⟨g1, 1, none⟩ = some (.int .i64 a0_1) := (blk_cell B2_g1 1).trans rfl; have hfz2_g1_1 := blk_frozen B2_g1 1; have hcz2_g1_2 : (w2).cell? ⟨g1, 2, none⟩ = some (.int .i64 a0_2) := (blk_cell B2_g1 2).trans rfl; have hfz2_g1_2 := blk_frozen B2_g1 2; have hcz2_g1_3 : (w2).cell? ⟨g1, 3, none⟩ = some (.int .i64 a0_3) := (blk_cell B2_g1 3).trans rfl; have hfz2_g1_3 := blk_frozen B2_g1 3; clear B2_g1; have B2_g2 : bx g2 #[.int .i64 a1_0, .int .i64 a1_1, .int .i64 a1_2, .int .i64 a1_3] 48 w2 := HS2.out.get 0 rfl; have hcz2_g2_0 : (w2).cell? ⟨g2, 0, none⟩ = some (.int .i64 a1_0) := (blk_cell B2_g2 0).trans rfl; have hfz2_g2_0 := blk_frozen B2_g2 0; have hcz2_g2_1 : (w2).cell? ⟨g2, 1, none⟩ = some (.int .i64 a1_1) := (blk_cell B2_g2 1).trans rfl; have hfz2_g2_1 := blk_frozen B2_g2 1; have hcz2_g2_2 : (w2).cell? ⟨g2, 2, none⟩ = some (.int .i64 a1_2) := (blk_cell B2_g2 2).trans rfl; have hfz2_g2_2 := blk_frozen B2_g2 2; have hcz2_g2_3 : (w2).cell? ⟨g2, 3, none⟩ = some (.int .i64 a1_3) := (blk_cell B2_g2 3).trans rfl; have hfz2_g2_3 := blk_frozen B2_g2 3; clear B2_g2))
  go_ret
  exact ⟨by first | rfl | simp, HS2.out.hb⟩
end Go.Proofs.Ytoomjghabiojkaa.P


/- eqWindow, as far as the laws need it: equal Windows are equal. -/
namespace Go.Proofs.Ytoomjghabiojkaa.P
open Go.RowKit Go.Proofs.YtoomjghabiojkaaW.PrintWords
set_option linter.unusedVariables false
def laws_eqWindow.f (a0_0 a0_1 a0_2 a0_3 a1_0 a1_1 a1_2 a1_3 : Int) : Option Bool := if a0_0 = a1_0 ∧ a0_1 = a1_1 ∧ a0_2 = a1_2 ∧ a0_3 = a1_3 then some true else none
theorem laws_eqWindow.calls (a0_0 : Int) (a0_1 : Int) (a0_2 : Int) (a0_3 : Int) (a1_0 : Int) (a1_1 : Int) (a1_2 : Int) (a1_3 : Int) (r : Bool) (w : World) (h : laws_eqWindow.f a0_0 a0_1 a0_2 a0_3 a1_0 a1_1 a1_2 a1_3 = some r) :
    Calls Try.prog 43 #[.agg #[.int .i64 a0_0, .int .i64 a0_1, .int .i64 a0_2, .int .i64 a0_3], .agg #[.int .i64 a1_0, .int .i64 a1_1, .int .i64 a1_2, .int .i64 a1_3]] w fun e w' => e = .returned (.bool r) ∧ Below w.heap.size w w' := by
  unfold laws_eqWindow.f at h
  split at h
  next hh =>
    obtain rfl := Option.some.inj h
    obtain ⟨rfl, rfl, rfl, rfl⟩ := hh
    exact laws_eqWindow_w0 _ _ _ _ _ _ _ _ w (by simp) (by simp) (by simp) (by simp)
  next => cases h
end Go.Proofs.Ytoomjghabiojkaa.P


/- The contract of slices.Clone at []Byte: the same elements in new memory. -/
namespace Go.Proofs.Ytoomjghabiojkaa.P
open Go.RowKit Go.Proofs.YtoomjghabiojkaaW.PrintWords Go.Proofs.YtoomjghabiojkaaW.PrintLast Go.Proofs.YtoomjghabiojkaaW.PrintMore
set_option linter.unusedVariables false
set_option linter.unusedSimpArgs false
def slices_Clone_byte_byte.f (l0 : List Int) : Option (List Int) := if l0.length < 140737488355328 then some l0 else none
theorem infoCByte : (Try.prog.info? 5).map (fun i => (i.zero, i.size, i.bytes)) = some (some (.int .u8 0), 1, 1) := by kernel_rfl
set_option maxHeartbeats 1000000 in
set_option maxRecDepth 100000 in
theorem slices_Clone_byte_byte.calls (A0 : Option Addr) (c0 : Nat) (l0 : List Int) (r : List Int) (w : World) (hr0 : Kd.C (Kd.int .u8) w A0 l0.length l0) (hc0 : l0.length ≤ c0) (h : slices_Clone_byte_byte.f l0 = some r) :
    Calls Try.prog 136 #[.slice A0 l0.length c0] w fun e w' => ∃ v0_ : Value, e = .returned (v0_) ∧ Kd.R (Kd.int .u8) 5 w' w.heap.size (fun _ => True) v0_ r ∧ Below w.heap.size w w' := by
  have HR0 := Aside0.mk hr0
  have HC0 := Aside0.mk hc0
  clear hr0 hc0
  unfold slices_Clone_byte_byte.f at h
  split at h
  next hlim =>
    obtain rfl := Option.some.inj h
    have HL := Aside0.mk hlim
    clear hlim h
    rcases A0 with _ | ad
    · have hnil : l0 = [] := by
        rcases Nat.eq_zero_or_pos l0.length with h0 | h0
        · exact List.eq_nil_of_length_eq_zero h0
        · obtain ⟨_, h1, _⟩ := HR0.out.2.2 h0
          cases h1
      subst hnil
      have hq2 := fun w => Lib.run_eql_slice_nil (P := Try.prog) w 119 5 none 0 c0 0 0 Try.underlying119
      go_enter Try.func136, Try.ntmps136
      go_wp2
      go_ret
      exact ⟨_, rfl, Kd.R_nil _ _ _ _ _, Below.refl _ _⟩
    · have hq := fun w => Lib.run_eql_slice_nil (P := Try.prog) w 119 5 (some ad) l0.length c0 0 0 Try.underlying119
      go_enter Try.func136, Try.ntmps136
      go_wp2_with (first | ((with_reducible refine gate_dst (N := 5) rfl ?_); refine Kd.R_lit (Kd.int .u8) (w0 := w) w.heap.size 5 (by rfl) (N := 5) rfl (xs := []) (inner := []) (ok := fun _ => True) (okp := fun _ => False) ?r1 ?r2 (fun _ _ => trivial) trivial (Below.refl _ _) (Nat.le_refl _) (by decide) ?_; (case r1 => go_simp; try rfl); (case r2 => exact ⟨rfl, fun j p hj => by cases hj⟩); intro v1 w1 ho hb hg hat; have HO := Aside0.mk ho; have HB := Aside0.mk hb; clear ho hb hg hat) | ((with_reducible refine gate_dst (N := 7) rfl ?_); refine Kd.R_append_rows (Kd.int .u8) (Rr := (Kd.int .u8).K w) (w0 := w) w.heap.size (by rfl) (.tmp 5) (.tmp 6) 119 5 (.int .u8 0) 1 (by rfl) Try.underlying119 infoCByte rfl (by decide) (by decide) _ [] l0 (some ad) l0.length c0 (fun _ => True) (fun _ => False) (by rfl) (by rfl) ?c1 ?c2 ?c3 ?c4 ?c5 ?c6 ?c7 ?c8 ?_; (case c1 => exact HO.out); (case c2 => exact Kd.C_below HR0.out HB.out); (case c3 => exact (fun _ _ h => h)); (case c4 => exact fun _ h => h.elim); (case c5 => exact fun _ _ => trivial); (case c6 => exact HB.out); (case c7 => exact HB.out.size); (case c8 => have := HL.out; simp only [List.length_nil]; omega); intro v2 w2 ho hb hg hat; clear HB; have HB := Aside0.mk hb; have HO2 := Aside0.mk ho; clear ho hb hg hat))
      go_ret
      exact ⟨_, rfl, HO2.out, HB.out⟩
  next => cases h
end Go.Proofs.Ytoomjghabiojkaa.P


namespace Go.Proofs.Ytoomjghabiojkaa.P
open Go.RowKit Go.Proofs.YtoomjghabiojkaaW.PrintWords Go.Proofs.YtoomjghabiojkaaW.PrintLast Go.Proofs.YtoomjghabiojkaaW.PrintMore
attribute [local go_sem] max2_int min2_int max_two min_two max_three min_three max_four min_four   -- for this text's walks alone
set_option linter.unusedVariables false
set_option linter.unusedSimpArgs false

def impl_Memory_own.l0 : Nat → List (List Int) → Int → Int → List (List Int) → Option ((List (List Int)))
  | 0, _, _, _, _ => none
  | k + 1, x8, x9, x10, x162000 => if x10 < x9 then (if 0 ≤ x10 then (if x10 < (x8.length : Int) then ((slices_Clone_byte_byte.f (rd_Lsu8 x8 x10)).bind fun t163 => (if x162000.length < 5864062014805 then (impl_Memory_own.l0 k x8 x9 (wrap64 (x10 + 1)) (x162000 ++ [t163])) else (none))) else (none)) else (none)) else (some x162000)
def impl_Memory_own.f (k : Nat) (l0_0 : List (List Int)) : Option ((List (List Int))) := impl_Memory_own.l0 k l0_0 (l0_0.length : Int) 0 ([] : List (List Int))
def impl_Memory_own.T5 : Bool × List (List Nat × List Nat) := (true, [([], []), ([0], [0]), ([], []), ([2], [2]), ([3], [3]), ([1, 4, 3], [1, 4]), ([0, 1, 2, 3, 4, 5], []), ([6, 5, 5, 0, 1, 2, 3, 4, 5], [5, 6])])
def impl_Memory_own.B5 : List Nat := [0, 1, 0, 4, 12, 31, 63, 127]
theorem impl_Memory_own.tab5 : rtab .any (opsOf Try.f76 5) = impl_Memory_own.T5 := by kernel_rfl
theorem impl_Memory_own.bits5 : waitsOk impl_Memory_own.T5.2 impl_Memory_own.B5 = true := by kernel_rfl
set_option maxHeartbeats 8000000 in
set_option maxRecDepth 100000 in
theorem impl_Memory_own.calls (k : Nat) (A0_0 : Option Addr) (c0_0 : Nat) (l0_0 : List (List Int)) (r : List (List Int)) (w : World) (hr0_0 : Kd.C (Kd.slice 5 (Kd.int .u8)) w A0_0 l0_0.length l0_0) (hc0_0 : l0_0.length ≤ c0_0) (h : impl_Memory_own.f k l0_0 = some r) :
    Calls Try.prog 76 #[.agg #[.slice A0_0 l0_0.length c0_0]] w fun e w' => ∃ v0_ : Value, e = .returned (.agg #[v0_]) ∧ Kd.S (Kd.slice 5 (Kd.int .u8)) 119 w' w.heap.size (fun _ => True) v0_ r ∧ Below w.heap.size w w' := by
  have hu26 := Try.underlying26
  have HR0_0 := Aside0.mk hr0_0
  have HC0_0 := Aside0.mk hc0_0
  clear hr0_0 hc0_0
  have HB := Aside0.mk (Below.refl w.heap.size w)
  have H : (impl_Memory_own.l0 k l0_0 (l0_0.length : Int) 0 ([] : List (List Int))) = some r := h
  clear h
  have H' := Aside0.mk H
  clear H
  go_enter Try.func76, Try.ntmps76
  go_wp2_with (first | ((with_reducible refine gate_dst (N := 1) rfl ?_); refine box_event ?hg (N := 1) ?hd (cs := #[.slice A0_0 l0_0.length c0_0]) (t := 26) ?hr ?_; (case hd => rfl); (case hg => rfl); (case hr => first | (go_simp; done) | (go_simp; rfl)); intro gb159 hg w2 hbox hb; have n0_ := Aside0.mk (below_step (by repeat (first | (with_reducible first | exact HB.out | apply below_alloc | apply pw_below_drewN | apply below_drew1) | exact HB.out)) hb); have n1_ := Aside0.mk (hbox); have n2_ := Aside0.mk ((by rw [hg]; exact (below_size (by repeat (first | (with_reducible first | exact HB.out | apply below_alloc | apply pw_below_drewN | apply below_drew1) | exact HB.out))) : w.heap.size ≤ gb159)); have n3_ := Aside0.mk ((by rw [hg]; exact (below_size (by repeat (first | (with_reducible first | exact HB.out | apply below_alloc | apply pw_below_drewN | apply below_drew1) | exact HB.out))) : w.heap.size ≤ gb159)); clear HB; have HB := n0_; have BK159 := n1_; have GW159 := n2_; have GE159 := n3_; clear n0_ n1_ n2_ n3_; clear hb hbox hg) | ((with_reducible refine gate_dst (N := 2) rfl ?_); refine box_event ?hg (N := 2) ?hd (cs := #[.slice none 0 0]) (t := 26) ?hr ?_; (case hd => rfl); (case hg => rfl); (case hr => first | (go_simp; done) | (go_simp; rfl)); intro gb160 hg w3 hbox hb; have n0_ := Aside0.mk (blk_below (g := gb159) (o := .cells #[.slice A0_0 l0_0.length c0_0] 26 (0, 0)) (by (with_reducible repeat (first | refine blk_drewN ?_ _ | refine blk_drew ?_ | refine blk_alloc ?_ _)); exact BK159.out) hb); have n1_ := Aside0.mk (below_step (by repeat (first | (with_reducible first | exact HB.out | apply below_alloc | apply pw_below_drewN | apply below_drew1 | refine below_set ?_ GE159.out) | exact HB.out)) hb); have n2_ := Aside0.mk (hbox); have n3_ := Aside0.mk ((by rw [hg]; exact (below_size (by repeat (first | (with_reducible first | exact HB.out | apply below_alloc | apply pw_below_drewN | apply below_drew1 | refine below_set ?_ GE159.out) | exact HB.out))) : w.heap.size ≤ gb160)); have n4_ := Aside0.mk ((by rw [hg]; exact (below_size (by repeat (first | (with_reducible first | exact HB.out | apply below_alloc | apply pw_below_drewN | apply below_drew1 | refine below_set ?_ GE159.out) | exact HB.out))) : w.heap.size ≤ gb160)); have n5_ := Aside0.mk ((by rw [hg]; exact Nat.ne_of_lt (blk_lt (g := gb159) (o := .cells #[.slice A0_0 l0_0.length c0_0] 26 (0, 0)) (by (with_reducible repeat (first | refine blk_drewN ?_ _ | refine blk_drew ?_ | refine blk_alloc ?_ _)); exact BK159.out)) : gb159 ≠ gb160)); have n6_ := Aside0.mk ((by rw [hg]; exact Nat.ne_of_gt (blk_lt (g := gb159) (o := .cells #[.slice A0_0 l0_0.length c0_0] 26 (0, 0)) (by (with_reducible repeat (first | refine blk_drewN ?_ _ | refine blk_drew ?_ | refine blk_alloc ?_ _)); exact BK159.out)) : gb160 ≠ gb159)); clear BK159; clear HB; have BK159 := n0_; have HB := n1_; have BK160 := n2_; have GW160 := n3_; have GE160 := n4_; have NB159_160 := n5_; have NB160_159 := n6_; clear n0_ n1_ n2_ n3_ n4_ n5_ n6_; clear hb hbox hg) | ((with_reducible refine gate_dst (N := 3) rfl ?_); refine box_event ?hg (N := 3) ?hd (cs := #[.slice none 0 0]) (t := 26) ?hr ?_; (case hd => rfl); (case hg => rfl); (case hr => first | (go_simp; done) | (go_simp; rfl)); intro gb161 hg w4 hbox hb; have n0_ := Aside0.mk (blk_below (g := gb159) (o := .cells #[.slice A0_0 l0_0.length c0_0] 26 (0, 0)) (by (with_reducible repeat (first | refine blk_drewN ?_ _ | refine blk_drew ?_ | refine blk_alloc ?_ _)); exact BK159.out) hb); have n1_ := Aside0.mk (blk_below (g := gb160) (o := .cells #[.slice none 0 0] 26 (0, 0)) (by (with_reducible repeat (first | refine blk_drewN ?_ _ | refine blk_drew ?_ | refine blk_alloc ?_ _)); exact BK160.out) hb); have n2_ := Aside0.mk (below_step (by repeat (first | (with_reducible first | exact HB.out | apply below_alloc | apply pw_below_drewN | apply below_drew1 | refine below_set ?_ GE159.out | refine below_set ?_ GE160.out) | exact HB.out)) hb); have n3_ := Aside0.mk (hbox); have n4_ := Aside0.mk ((by rw [hg]; exact (below_size (by repeat (first | (with_reducible first | exact HB.out | apply below_alloc | apply pw_below_drewN | apply below_drew1 | refine below_set ?_ GE159.out | refine below_set ?_ GE160.out) | exact HB.out))) : w.heap.size ≤ gb161)); have n5_ := Aside0.mk ((by rw [hg]; exact (below_size (by repeat (first | (with_reducible first | exact HB.out | apply below_alloc | apply pw_below_drewN | apply below_drew1 | refine below_set ?_ GE159.out | refine below_set ?_ GE160.out) | exact HB.out))) : w.heap.size ≤ gb161)); have n6_ := Aside0.mk ((by rw [hg]; exact Nat.ne_of_lt (blk_lt (g := gb159) (o := .cells #[.slice A0_0 l0_0.length c0_0] 26 (0, 0)) (by (with_reducible repeat (first | refine blk_drewN ?_ _ | refine blk_drew ?_ | refine blk_alloc ?_ _)); exact BK159.out)) : gb159 ≠ gb161)); have n7_ := Aside0.mk ((by rw [hg]; exact Nat.ne_of_gt (blk_lt (g := gb159) (o := .cells #[.slice A0_0 l0_0.length c0_0] 26 (0, 0)) (by (with_reducible repeat (first | refine blk_drewN ?_ _ | refine blk_drew ?_ | refine blk_alloc ?_ _)); exact BK159.out)) : gb161 ≠ gb159)); have n8_ := Aside0.mk ((by rw [hg]; exact Nat.ne_of_lt (blk_lt (g := gb160) (o := .cells #[.slice none 0 0] 26 (0, 0)) (by (with_reducible repeat (first | refine blk_drewN ?_ _ | refine blk_drew ?_ | refine blk_alloc ?_ _)); exact BK160.out)) : gb160 ≠ gb161)); have n9_ := Aside0.mk ((by rw [hg]; exact Nat.ne_of_gt (blk_lt (g := gb160) (o := .cells #[.slice none 0 0] 26 (0, 0)) (by (with_reducible repeat (first | refine blk_drewN ?_ _ | refine blk_drew ?_ | refine blk_alloc ?_ _)); exact BK160.out)) : gb161 ≠ gb160)); clear BK159; clear BK160; clear HB; have BK159 := n0_; have BK160 := n1_; have HB := n2_; have BK161 := n3_; have GW161 := n4_; have GE161 := n5_; have NB159_161 := n6_; have NB161_159 := n7_; have NB160_161 := n8_; have NB161_160 := n9_; clear n0_ n1_ n2_ n3_ n4_ n5_ n6_ n7_ n8_ n9_; clear hb hbox hg; have hnb5 := NB161_159.out; have hnc5 := NB159_161.out; have hnb6 := NB161_160.out; have hnc6 := NB160_161.out; have hcz7_0 : w4.cell? ⟨gb161, 0, none⟩ = some (.slice none 0 0) := (blk_cell BK161.out 0).trans rfl; have hfz7_0 := blk_frozen BK161.out 0; have hnb8 := NB159_160.out; have hnc8 := NB160_159.out; have hcz9_0 : w4.cell? ⟨gb159, 0, none⟩ = some (.slice A0_0 l0_0.length c0_0) := (blk_cell BK159.out 0).trans rfl; have hfz9_0 := blk_frozen BK159.out 0))
  go_loopg [10] k (fun kq v10 w' => ∃ (x10_1 : Int) (x162000_1 : List (List Int)) (u162000 : Value), v10 = .int .i64 x10_1 ∧ Aside0 (impl_Memory_own.l0 kq l0_0 (l0_0.length : Int) x10_1 x162000_1 = some r) ∧ Aside0 (kq ≤ k) ∧ Aside0 (Kd.S (Kd.slice 5 (Kd.int .u8)) 119 w' w.heap.size (fun _ => True) u162000 x162000_1) ∧ Aside0 (w'.heap[gb159]? = some (.cells #[(.slice A0_0 l0_0.length c0_0)] 26 (0, 0))) ∧ Aside0 (w'.heap[gb160]? = some (.cells #[(.slice none 0 0)] 26 (0, 0))) ∧ Aside0 (w'.heap[gb161]? = some (.cells #[u162000] 26 (0, 0))) ∧ Aside0 (Below w.heap.size w w'))
  case atStart => exact ⟨(0), (([] : List (List Int))), (.slice none 0 0), (by first | rfl | (simp; done) | (simp [*]; done)), H', ⟨Nat.le_refl _⟩, ⟨by first | exact Kd.S_nil _ _ _ _ _ | exact Kd.N_nil _ _ _ _ _ | exact Kd.V_nil _ _ _ _ _ | exact Kd.Q_nil _ _ _ _ _ | exact Kd.R_nil _ _ _ _ _⟩, ⟨by (with_reducible repeat (first | refine blk_drewN ?_ _ | refine blk_drew ?_ | refine blk_alloc ?_ _)); refine blk_far ?_ NB159_161.out _; (with_reducible repeat (first | refine blk_drewN ?_ _ | refine blk_drew ?_ | refine blk_alloc ?_ _)); exact BK159.out⟩, ⟨by (with_reducible repeat (first | refine blk_drewN ?_ _ | refine blk_drew ?_ | refine blk_alloc ?_ _)); refine blk_far ?_ NB160_161.out _; (with_reducible repeat (first | refine blk_drewN ?_ _ | refine blk_drew ?_ | refine blk_alloc ?_ _)); exact BK160.out⟩, ⟨by (with_reducible repeat (first | refine blk_drewN ?_ _ | refine blk_drew ?_ | refine blk_alloc ?_ _)); refine blk_put (cs := #[.slice none 0 0]) ?_ 0 _ rfl; (with_reducible repeat (first | refine blk_drewN ?_ _ | refine blk_drew ?_ | refine blk_alloc ?_ _)); exact BK161.out⟩, ⟨by repeat (first | (with_reducible first | exact HB.out | apply below_alloc | apply pw_below_drewN | apply below_drew1 | refine below_set ?_ GE159.out | refine below_set ?_ GE160.out | refine below_set ?_ GE161.out) | exact HB.out)⟩⟩
  case round =>
    clear H'
    try clear p2
    try clear c5
    try clear c6
    try clear c7
    try clear c8
    try clear hcz7_0
    try clear hcz9_0
    try clear hfz7_0
    try clear hfz9_0
    obtain ⟨x10_1, x162000_1, u162000, rfl, HA, HK1, HO_162000, BK159, BK160, BK161, HB⟩ := hrel
    cases gk with
    | zero => exact absurd HA.out (by simp [impl_Memory_own.l0])
    | succ k1 =>
      have H := HA.out
      clear HA
      simp only [impl_Memory_own.l0] at H
      by_cases c10 : x10_1 < (l0_0.length : Int)
      · rw [if_pos c10] at H
        have c10b0 : decide (x10_1 < (l0_0.length : Int)) = true := decide_eq_true c10
        clear c10
        by_cases c11 : 0 ≤ x10_1
        · rw [if_pos c11] at H
          have c11b0 : decide (0 ≤ x10_1) = true := decide_eq_true c11
          clear c11
          by_cases c12 : x10_1 < (l0_0.length : Int)
          · rw [if_pos c12] at H
            have c12b0 : decide (x10_1 < (l0_0.length : Int)) = true := decide_eq_true c12
            clear c12
            replace H := Option.bind_eq_some_iff.mp H
            obtain ⟨t163, A130, H⟩ := H
            replace H : (if x162000_1.length < 5864062014805 then (impl_Memory_own.l0 k1 l0_0 (l0_0.length : Int) (wrap64 (x10_1 + 1)) (x162000_1 ++ [t163])) else (none)) = some r := H
            have A13 := Aside0.mk A130
            clear A130
            by_cases c14 : x162000_1.length < 5864062014805
            · rw [if_pos c14] at H
              have LMc14 := Aside0.mk c14
              clear c14
              obtain ⟨y166, hy166⟩ : ∃ y_ : List (List Int), y_ = (x162000_1 ++ [t163]) := ⟨_, rfl⟩
              replace H : (impl_Memory_own.l0 k1 l0_0 (l0_0.length : Int) (wrap64 (x10_1 + 1)) y166) = some r := by first | (rw [hy166]; with_reducible exact H) | (have H2_ := (Option.bind_some _ _).symm.trans H; rw [hy166]; with_reducible exact H2_) | (have H2_ := (Option.bind_some _ _).symm.trans H; with_reducible exact H2_) | with_reducible exact H | (rw [hy166]; exact H) | exact H
              have Ny166 := Aside0.mk hy166
              clear hy166
              have H' := Aside0.mk H
              clear H
              have p162 : 0 ≤ (x10_1 : Int) := of_decide_eq_true (by first | (with_reducible assumption) | assumption)
              have q162 : x10_1 < (l0_0.length : Int) := of_decide_eq_true (by first | (with_reducible assumption) | assumption)
              obtain ⟨ad162, A162_0, c162_0, e162, hx162_0, hl162_0, hi162_0⟩ := at_Lsu8 HR0_0.out x10_1 p162 q162
              cases e162
              replace hx162_0 := (HB.out.cell (World.block_lt_of_cell? w _ hx162_0)).trans hx162_0
              have HR162_0 := Aside0.mk hi162_0
              have HC162_0 := Aside0.mk hl162_0
              clear hi162_0 hl162_0
              replace p162 := eq_true p162
              replace q162 := eq_true q162
              try go_wp2
              have n0_ := Aside0.mk (Kd.S_drew HO_162000.out)
              have n1_ := Aside0.mk (blk_drew BK159.out)
              have n2_ := Aside0.mk (blk_drew BK160.out)
              have n3_ := Aside0.mk (blk_drew BK161.out)
              have n4_ := Aside0.mk (below_drew1 HB.out)
              clear HO_162000
              clear BK159
              clear BK160
              clear BK161
              clear HB
              have HO_162000 := n0_
              have BK159 := n1_
              have BK160 := n2_
              have BK161 := n3_
              have HB := n4_
              clear n0_ n1_ n2_ n3_ n4_
              refine start_ (n := 8) (S := fun w' => w'.cell? ⟨gb161, 0, none⟩ = some (u162000)) (ds := [7]) #[false, false, false, false, false, false, false, false] (by kernel_rfl) rfl rfl ((blk_cell BK161.out 0).trans rfl) (fun hHeld => ?_); refine with_tabW impl_Memory_own.tab5 impl_Memory_own.bits5 (fun HT_ HW_ => ?_)
              generalize wr.drew = w15 at HO_162000 BK159 BK160 BK161 HB hHeld ⊢
              refine pure_ (i := 0) (N := some 14) (v := ?_) (a' := ?_) #[true, false, false, false, false, false, false, false] rfl rfl (any_of HT_.out (by kernel_rfl)) (fun _ _ _ h => h) (Or.inl ⟨by rfl, ?_⟩) ?_ ?_
              rotate_left
              · intro w'
                go_simp
                with_reducible rfl
              rotate_left
              · simp only [Act.put, List.setIfInBounds_toArray, List.set_cons_zero, List.set_cons_succ, i64_w, i32_w]
                rfl
              refine pure_ (i := 2) (N := some 16) (v := ?_) (a' := ?_) #[true, false, true, false, false, false, false, false] rfl rfl (any_of HT_.out (by kernel_rfl)) (fun _ _ _ h => h) (Or.inl ⟨by rfl, ?_⟩) ?_ ?_
              rotate_left
              · intro w'
                go_simp
                with_reducible rfl
              rotate_left
              · simp only [Act.put, List.setIfInBounds_toArray, List.set_cons_zero, List.set_cons_succ, i64_w, i32_w]
                rfl
              refine take_ (i := 1) (N := some 15) (v := ?_) (a' := ?_) #[true, true, true, false, false, false, false, false] rfl rfl (take_ofW HT_.out HW_.out (by kernel_rfl)) (fun _ _ _ h => h) (Or.inl ⟨by rfl, ?_⟩) hHeld ?_ ?_
              rotate_left
              · intro w' s0
                go_simp
                with_reducible rfl
              rotate_left
              · simp only [Act.put, List.setIfInBounds_toArray, List.set_cons_zero, List.set_cons_succ, i64_w, i32_w]
                rfl
              refine one_ (i := 3) (N := some 17) #[true, true, true, true, false, false, false, false] rfl rfl (one_of HT_.out (by kernel_rfl)) (by decide) (fun K hK => ?_)
              refine goes_ Try.func136 (by kernel_rfl) rfl #[.slice A162_0 (rd_Lsu8 l0_0 x10_1).length c162_0] (by rfl) rfl rfl (by (try simp only [List.map_toArray, List.map_cons, List.map_nil]); first | done | rfl | (simp only [List.length_drop, List.length_take]; rfl)) ?_
              with_reducible refine (slices_Clone_byte_byte.calls _ _ (rd_Lsu8 l0_0 x10_1) t163 _ ?side1 ?side2 A13.out).mono ?_
              (case side1 => repeat (first | exact (Kd.C_below HR162_0.out HB.out) | (with_reducible refine Kd.C_alloc ?_ _) | (with_reducible refine Kd.C_drewN ?_ _) | (with_reducible refine Kd.C_drew ?_)))
              (case side2 => exact HC162_0.out)
              rintro e w16 ⟨v164, rfl, ho0, hb⟩
              refine ⟨_, rfl, ?_⟩
              have n0_ := Aside0.mk (Kd.S_elder' (by (with_reducible repeat (first | apply Kd.S_alloc | apply Kd.S_drewN | apply Kd.S_drew)); exact HO_162000.out) (Kd.R_base ho0) hb)
              have n1_ := Aside0.mk (Kd.R_lower ho0 (below_size (by repeat (first | (with_reducible first | exact HB.out | apply below_alloc | apply pw_below_drewN | apply below_drew1 | refine below_set ?_ GE159.out | refine below_set ?_ GE160.out | refine below_set ?_ GE161.out) | exact HB.out))))
              have n2_ := Aside0.mk (blk_below (g := gb159) (o := .cells #[.slice (some ad162) l0_0.length c0_0] 26 (0, 0)) (by (with_reducible repeat (first | refine blk_drewN ?_ _ | refine blk_drew ?_ | refine blk_alloc ?_ _)); exact BK159.out) hb)
              have n3_ := Aside0.mk (blk_below (g := gb160) (o := .cells #[.slice none 0 0] 26 (0, 0)) (by (with_reducible repeat (first | refine blk_drewN ?_ _ | refine blk_drew ?_ | refine blk_alloc ?_ _)); exact BK160.out) hb)
              have n4_ := Aside0.mk (blk_below (g := gb161) (o := .cells #[u162000] 26 (0, 0)) (by (with_reducible repeat (first | refine blk_drewN ?_ _ | refine blk_drew ?_ | refine blk_alloc ?_ _)); exact BK161.out) hb)
              have n5_ := Aside0.mk (below_step (by repeat (first | (with_reducible first | exact HB.out | apply below_alloc | apply pw_below_drewN | apply below_drew1 | refine below_set ?_ GE159.out | refine below_set ?_ GE160.out | refine below_set ?_ GE161.out) | exact HB.out)) hb)
              clear HO_162000
              clear BK159
              clear BK160
              clear BK161
              clear HB
              have HO_162000 := n0_
              have HO165 := n1_
              have BK159 := n2_
              have BK160 := n3_
              have BK161 := n4_
              have HB := n5_
              clear n0_ n1_ n2_ n3_ n4_ n5_
              (try clear hb)
              (try clear hb2)
              (try clear hk)
              (try clear hi)
              (try clear ho0)
              obtain ⟨Ao18, co18, eo18⟩ := Kd.R_slice HO165.out
              (first | subst eo18 | (injection eo18 with f1_ f2_ f3_; have f4_ := f1_.symm; have f5_ := f3_.symm; clear f1_ f2_ f3_; subst f4_; subst f5_))
              refine hK.out _ _ ((blk_cell BK161.out 0).trans rfl) (fun hHeld => ?_)
              clear hK K
              refine norm_ (a' := ?_) ?_ ?_
              rotate_left
              · show Act.put _ (some 17) _ = _
                simp only [Act.put, List.setIfInBounds_toArray, List.set_cons_zero, List.set_cons_succ, i64_w, i32_w]
                rfl
              refine one_ (i := 4) (N := some 18) #[true, true, true, true, true, false, false, false] rfl rfl (one_of HT_.out (by kernel_rfl)) (by decide) (fun K hK => ?_)
              refine value_ (w1 := ?_) (v := ?_) (by rfl) rfl ?_ ?_
              rotate_left 2
              · go_simp
                constructor
                · rfl
                · rfl
              refine hK.out _ _ ((blk_cell (blk_alloc BK161.out _) 0).trans rfl) (fun hHeld => ?_)
              clear hK K
              refine norm_ (a' := ?_) ?_ ?_
              rotate_left
              · show Act.put _ (some 18) _ = _
                simp only [Act.put, List.setIfInBounds_toArray, List.set_cons_zero, List.set_cons_succ, i64_w, i32_w]
                rfl
              refine one_ (i := 5) (N := some 19) #[true, true, true, true, true, true, false, false] rfl rfl (one_of HT_.out (by kernel_rfl)) (by decide) (fun K hK => ?_)
              refine Kd.S_append_step (Kd.slice 5 (Kd.int .u8)) (w0 := w) w.heap.size (by rfl) (.tmp 15) (.tmp 18) 22 119 (.slice none 0 0) 24 rfl Try.underlying22 info119 rfl (by decide) (by omega) u162000 x162000_1 t163 [.slice Ao18 t163.length co18] (fun _ => True) (fun k_ => some k_ = (.slice Ao18 t163.length co18 : Value).ownBlock) rfl rfl ?aP (fun k_ hk_ => ((Kd.R_mono (ok' := fun k_ => ((fun _ => True)) k_ ∧ some k_ ≠ (u162000 : Value).ownBlock) (Kd.R_apart' (HO165.out) (Kd.S_typed HO_162000.out) (by decide)) (fun k_ hk => ⟨trivial, hk.2⟩))).1 k_ hk_.symm) ?aF ?aO ?aB ?aS ?aL ?_
              (case aP => exact Kd.M_row (Kd.R_mono (Kd.R_tight rfl (Kd.R_mono (ok' := fun k_ => ((fun _ => True)) k_ ∧ some k_ ≠ (u162000 : Value).ownBlock) (Kd.R_apart' (HO165.out) (Kd.S_typed HO_162000.out) (by decide)) (fun k_ hk => ⟨trivial, hk.2⟩))) (fun _ h_ => h_)))
              (case aB => exact (by repeat (first | (with_reducible first | exact HB.out | apply below_alloc | apply pw_below_drewN | apply below_drew1 | refine below_set ?_ GE159.out | refine below_set ?_ GE160.out | refine below_set ?_ GE161.out) | exact HB.out)))
              (case aF => exact (fun _ _ => trivial))
              (case aO => exact (by (with_reducible repeat (first | apply Kd.S_alloc | apply Kd.S_drewN | apply Kd.S_drew)); exact Kd.S_mono HO_162000.out (fun k_ hk => ⟨trivial, fun e_ => hk.2 e_⟩)))
              (case aS => exact (below_size (by repeat (first | (with_reducible first | exact HB.out | apply below_alloc | apply pw_below_drewN | apply below_drew1 | refine below_set ?_ GE159.out | refine below_set ?_ GE160.out | refine below_set ?_ GE161.out) | exact HB.out))))
              (case aL => have := LMc14.out; omega)
              intro v167 w17 ho hb hg hat
              rw [← Ny166.out] at ho
              have n0_ := Aside0.mk (blk_grown (g := gb159) (o := .cells #[.slice (some ad162) l0_0.length c0_0] 26 (0, 0)) (by (with_reducible repeat (first | refine blk_drewN ?_ _ | refine blk_drew ?_ | refine blk_alloc ?_ _)); exact BK159.out) hg (Kd.S_ne HO_162000.out BK159.out (by decide)))
              have n1_ := Aside0.mk (blk_grown (g := gb160) (o := .cells #[.slice none 0 0] 26 (0, 0)) (by (with_reducible repeat (first | refine blk_drewN ?_ _ | refine blk_drew ?_ | refine blk_alloc ?_ _)); exact BK160.out) hg (Kd.S_ne HO_162000.out BK160.out (by decide)))
              have n2_ := Aside0.mk (blk_grown (g := gb161) (o := .cells #[u162000] 26 (0, 0)) (by (with_reducible repeat (first | refine blk_drewN ?_ _ | refine blk_drew ?_ | refine blk_alloc ?_ _)); exact BK161.out) hg (Kd.S_ne HO_162000.out BK161.out (by decide)))
              have n3_ := Aside0.mk (hb)
              have n4_ := Aside0.mk (ho)
              clear BK159
              clear BK160
              clear BK161
              clear HB
              clear HO_162000
              clear HO165
              have BK159 := n0_
              have BK160 := n1_
              have BK161 := n2_
              have HB := n3_
              have HO168 := n4_
              clear n0_ n1_ n2_ n3_ n4_
              clear ho hb hg hat
              obtain ⟨Ao19, co19, eo19⟩ := Kd.S_slice HO168.out
              (first | subst eo19 | (injection eo19 with f1_ f2_ f3_; have f4_ := f1_.symm; have f5_ := f3_.symm; clear f1_ f2_ f3_; subst f4_; subst f5_))
              refine hK.out _ _ ((blk_cell BK161.out 0).trans rfl) (fun hHeld => ?_)
              clear hK K
              refine norm_ (a' := ?_) ?_ ?_
              rotate_left
              · show Act.put _ (some 19) _ = _
                simp only [Act.put, List.setIfInBounds_toArray, List.set_cons_zero, List.set_cons_succ, i64_w, i32_w]
                rfl
              refine pure_ (i := 6) (N := some 20) (v := ?_) (a' := ?_) #[true, true, true, true, true, true, true, false] rfl rfl (any_of HT_.out (by kernel_rfl)) (fun _ _ _ h => h) (Or.inl ⟨by rfl, ?_⟩) ?_ ?_
              rotate_left
              · intro w'
                go_simp
                with_reducible rfl
              rotate_left
              · simp only [Act.put, List.setIfInBounds_toArray, List.set_cons_zero, List.set_cons_succ, i64_w, i32_w]
                rfl
              refine last_ (i := 7) (N := none) #[true, true, true, true, true, true, true, true] rfl rfl (one_of HT_.out (by kernel_rfl)) (by decide) (fun K hK => ?_)
              have hs20 : w17.cell? ⟨gb161, 0, none⟩ = some (u162000) := (blk_cell BK161.out 0).trans rfl
              have hfs20 := blk_frozen BK161.out 0
              have hns20_0 := NB159_161.out
              have hns20_1 := NB160_161.out
              have hms20_0 := NB161_159.out
              have hms20_1 := NB161_160.out
              refine skip_ (w1 := ?_) (by rfl) rfl ?_ ?_
              rotate_left
              · go_simp
                rfl
              refine hK.out _ _ ?_
              clear hK K
              refine done_ (done_of HT_.out (by kernel_rfl)) ?_
              try go_wp2
              go_roundg k1
              case measure => have := HK1.out; omega
              case rel => exact ⟨(wrap64 (x10_1 + 1)), (y166), (.slice Ao19 y166.length co19), (by first | rfl | (simp; done) | (simp [*]; done)), H', ⟨by have := HK1.out; omega⟩, ⟨by (with_reducible repeat (first | apply Kd.S_alloc | apply Kd.S_drewN | apply Kd.S_drew)); exact Kd.S_mono (Kd.S_far (p := ⟨gb161, 0, none⟩) (Kd.S_types HO168.out BK161.out (by decide)) (fun _ hk => hk.2) (.slice Ao19 y166.length co19)) (fun _ hk => trivial)⟩, ⟨by (with_reducible repeat (first | refine blk_drewN ?_ _ | refine blk_drew ?_ | refine blk_alloc ?_ _)); refine blk_far ?_ NB159_161.out _; (with_reducible repeat (first | refine blk_drewN ?_ _ | refine blk_drew ?_ | refine blk_alloc ?_ _)); exact BK159.out⟩, ⟨by (with_reducible repeat (first | refine blk_drewN ?_ _ | refine blk_drew ?_ | refine blk_alloc ?_ _)); refine blk_far ?_ NB160_161.out _; (with_reducible repeat (first | refine blk_drewN ?_ _ | refine blk_drew ?_ | refine blk_alloc ?_ _)); exact BK160.out⟩, ⟨by (with_reducible repeat (first | refine blk_drewN ?_ _ | refine blk_drew ?_ | refine blk_alloc ?_ _)); refine blk_put (cs := #[u162000]) ?_ 0 _ rfl; (with_reducible repeat (first | refine blk_drewN ?_ _ | refine blk_drew ?_ | refine blk_alloc ?_ _)); exact BK161.out⟩, ⟨by repeat (first | (with_reducible first | exact HB.out | apply below_alloc | apply pw_below_drewN | apply below_drew1 | refine below_set ?_ GE159.out | refine below_set ?_ GE160.out | refine below_set ?_ GE161.out) | exact HB.out)⟩⟩
            · rw [if_neg c14] at H
              exact absurd H (by simp)
          · rw [if_neg c12] at H
            exact absurd H (by simp)
        · rw [if_neg c11] at H
          exact absurd H (by simp)
      · rw [if_neg c10] at H
        have c10b0 : decide (x10_1 < (l0_0.length : Int)) = false := decide_eq_false c10
        clear c10
        obtain rfl := Option.some.inj H
        have hnb21 := NB161_159.out
        have hnc21 := NB159_161.out
        have hnb22 := NB161_160.out
        have hnc22 := NB160_161.out
        have hcz23_0 : wr.cell? ⟨gb161, 0, none⟩ = some (u162000) := (blk_cell BK161.out 0).trans rfl
        have hfz23_0 := blk_frozen BK161.out 0
        obtain ⟨Ao24, co24, eo24⟩ := Kd.S_slice HO_162000.out
        subst eo24
        have hnb25 := NB160_159.out
        have hnc25 := NB159_160.out
        have hcz26_0 : wr.cell? ⟨gb160, 0, none⟩ = some (.slice none 0 0) := (blk_cell BK160.out 0).trans rfl
        have hfz26_0 := blk_frozen BK160.out 0
        go_wp2
        refine bodyPost_ret (results_cell_row rfl _ _ gb160 26 #[.slice Ao24 x162000_1.length co24] (0, 0) _ rfl (by (with_reducible repeat (first | refine blk_drewN ?_ _ | refine blk_drew ?_ | refine blk_alloc ?_ _)); refine blk_put (cs := #[.slice none 0 0]) ?_ 0 _ rfl; (with_reducible repeat (first | refine blk_drewN ?_ _ | refine blk_drew ?_ | refine blk_alloc ?_ _)); exact BK160.out) Try.underlying26 rfl (by kernel_rfl)) rfl ?_
        exact ⟨_, by first | rfl | (simp [errW_none, errW_some] <;> rfl) | (simp [*, errW_none, errW_some] <;> rfl), by (with_reducible repeat (first | apply Kd.S_alloc | apply Kd.S_drewN | apply Kd.S_drew)); exact Kd.S_mono (Kd.S_far (p := ⟨gb160, 0, none⟩) (Kd.S_types HO_162000.out BK160.out (by decide)) (fun _ hk => hk.2) (.slice Ao24 x162000_1.length co24)) (fun _ hk => trivial), by repeat (first | (with_reducible first | exact HB.out | apply below_alloc | apply pw_below_drewN | apply below_drew1 | refine below_set ?_ GE159.out | refine below_set ?_ GE160.out | refine below_set ?_ GE161.out) | exact HB.out)⟩

end Go.Proofs.Ytoomjghabiojkaa.P


namespace Go.Proofs.Ytoomjghabiojkaa.P
open Go.RowKit Go.Proofs.YtoomjghabiojkaaW.PrintWords Go.Proofs.YtoomjghabiojkaaW.PrintLast Go.Proofs.YtoomjghabiojkaaW.PrintMore
attribute [local go_sem] max2_int min2_int max_two min_two max_three min_three max_four min_four   -- for this text's walks alone
set_option linter.unusedVariables false
set_option linter.unusedSimpArgs false

def spec_l2Own.l0 : Nat → Int → List (List Int) → List (List Int) → Option ((List (List Int)))
  | 0, _, _, _ => none
  | k + 1, x4, x109000, x114000 => if x4 < (x109000.length : Int) then ((some (([] : List Int) : List Int)).bind fun y114 => (if 0 ≤ x4 then (if y114.length + (rd_Lsu8 x109000 x4).length < 140737488355328 then (if x114000.length < 5864062014805 then (spec_l2Own.l0 k (wrap64 (x4 + 1)) x109000 (x114000 ++ [(y114 ++ (rd_Lsu8 x109000 x4))])) else (none)) else (none)) else (none))) else (some x114000)
def spec_l2Own.f (k : Nat) (l0_0 : List (List Int)) : Option ((List (List Int))) := spec_l2Own.l0 k 0 l0_0 (([] : List (List Int)))
def spec_l2Own.T5 : Bool × List (List Nat × List Nat) := (true, [([], []), ([0], [0]), ([], []), ([], []), ([3], [3]), ([], []), ([4, 5], [4, 5]), ([6], [6]), ([2, 7], [2, 7]), ([8], [8]), ([1, 9, 8], [1, 9]), ([0, 1, 2, 3, 4, 5, 6, 7, 8, 9, 10], []), ([11, 10, 10, 0, 1, 2, 3, 4, 5, 6, 7, 8, 9, 10], [10, 11])])
def spec_l2Own.B5 : List Nat := [0, 1, 0, 0, 8, 0, 56, 120, 252, 508, 1023, 2047, 4095]
theorem spec_l2Own.tab5 : rtab .any (opsOf Try.f89 5) = spec_l2Own.T5 := by kernel_rfl
theorem spec_l2Own.bits5 : waitsOk spec_l2Own.T5.2 spec_l2Own.B5 = true := by kernel_rfl
set_option maxHeartbeats 8000000 in
set_option maxRecDepth 100000 in
theorem spec_l2Own.calls (k : Nat) (A0_0 : Option Addr) (c0_0 : Nat) (l0_0 : List (List Int)) (r : List (List Int)) (w : World) (hr0_0 : Kd.C (Kd.slice 5 (Kd.int .u8)) w A0_0 l0_0.length l0_0) (hc0_0 : l0_0.length ≤ c0_0) (h : spec_l2Own.f k l0_0 = some r) :
    Calls Try.prog 89 #[.agg #[.slice A0_0 l0_0.length c0_0]] w fun e w' => ∃ v0_ : Value, e = .returned (.agg #[v0_]) ∧ Kd.S (Kd.slice 5 (Kd.int .u8)) 119 w' w.heap.size (fun _ => True) v0_ r ∧ Below w.heap.size w w' := by
  have hu26 := Try.underlying26
  have HR0_0 := Aside0.mk hr0_0
  have HC0_0 := Aside0.mk hc0_0
  clear hr0_0 hc0_0
  have HB := Aside0.mk (Below.refl w.heap.size w)
  have H : (spec_l2Own.l0 k 0 l0_0 (([] : List (List Int)))) = some r := h
  clear h
  obtain ⟨y110, hy110⟩ : ∃ y_ : List (List Int), y_ = (([] : List (List Int))) := ⟨_, rfl⟩
  replace H : (spec_l2Own.l0 k 0 l0_0 y110) = some r := by first | (rw [hy110]; with_reducible exact H) | (have H2_ := (Option.bind_some _ _).symm.trans H; rw [hy110]; with_reducible exact H2_) | (have H2_ := (Option.bind_some _ _).symm.trans H; with_reducible exact H2_) | with_reducible exact H | (rw [hy110]; exact H) | exact H
  have Ny110 := Aside0.mk hy110
  clear hy110
  have H' := Aside0.mk H
  clear H
  go_enter Try.func89, Try.ntmps89
  go_wp2_with (first | ((with_reducible refine gate_dst (N := 1) rfl ?_); refine box_event ?hg (N := 1) ?hd (cs := #[.slice A0_0 l0_0.length c0_0]) (t := 26) ?hr ?_; (case hd => rfl); (case hg => rfl); (case hr => first | (go_simp; done) | (go_simp; rfl)); intro gb108 hg w2 hbox hb; have n0_ := Aside0.mk (below_step (by repeat (first | (with_reducible first | exact HB.out | apply below_alloc | apply pw_below_drewN | apply below_drew1) | exact HB.out)) hb); have n1_ := Aside0.mk (hbox); have n2_ := Aside0.mk ((by rw [hg]; exact (below_size (by repeat (first | (with_reducible first | exact HB.out | apply below_alloc | apply pw_below_drewN | apply below_drew1) | exact HB.out))) : w.heap.size ≤ gb108)); have n3_ := Aside0.mk ((by rw [hg]; exact (below_size (by repeat (first | (with_reducible first | exact HB.out | apply below_alloc | apply pw_below_drewN | apply below_drew1) | exact HB.out))) : w.heap.size ≤ gb108)); clear HB; have HB := n0_; have BK108 := n1_; have GW108 := n2_; have GE108 := n3_; clear n0_ n1_ n2_ n3_; clear hb hbox hg) | ((with_reducible refine gate_dst (N := 2) rfl ?_); refine box_event ?hg (N := 2) ?hd (cs := #[.slice none 0 0]) (t := 26) ?hr ?_; (case hd => rfl); (case hg => rfl); (case hr => first | (go_simp; done) | (go_simp; rfl)); intro gb109 hg w3 hbox hb; have n0_ := Aside0.mk (blk_below (g := gb108) (o := .cells #[.slice A0_0 l0_0.length c0_0] 26 (0, 0)) (by (with_reducible repeat (first | refine blk_drewN ?_ _ | refine blk_drew ?_ | refine blk_alloc ?_ _)); exact BK108.out) hb); have n1_ := Aside0.mk (below_step (by repeat (first | (with_reducible first | exact HB.out | apply below_alloc | apply pw_below_drewN | apply below_drew1 | refine below_set ?_ GE108.out) | exact HB.out)) hb); have n2_ := Aside0.mk (hbox); have n3_ := Aside0.mk ((by rw [hg]; exact (below_size (by repeat (first | (with_reducible first | exact HB.out | apply below_alloc | apply pw_below_drewN | apply below_drew1 | refine below_set ?_ GE108.out) | exact HB.out))) : w.heap.size ≤ gb109)); have n4_ := Aside0.mk ((by rw [hg]; exact (below_size (by repeat (first | (with_reducible first | exact HB.out | apply below_alloc | apply pw_below_drewN | apply below_drew1 | refine below_set ?_ GE108.out) | exact HB.out))) : w.heap.size ≤ gb109)); have n5_ := Aside0.mk ((by rw [hg]; exact Nat.ne_of_lt (blk_lt (g := gb108) (o := .cells #[.slice A0_0 l0_0.length c0_0] 26 (0, 0)) (by (with_reducible repeat (first | refine blk_drewN ?_ _ | refine blk_drew ?_ | refine blk_alloc ?_ _)); exact BK108.out)) : gb108 ≠ gb109)); have n6_ := Aside0.mk ((by rw [hg]; exact Nat.ne_of_gt (blk_lt (g := gb108) (o := .cells #[.slice A0_0 l0_0.length c0_0] 26 (0, 0)) (by (with_reducible repeat (first | refine blk_drewN ?_ _ | refine blk_drew ?_ | refine blk_alloc ?_ _)); exact BK108.out)) : gb109 ≠ gb108)); clear BK108; clear HB; have BK108 := n0_; have HB := n1_; have BK109 := n2_; have GW109 := n3_; have GE109 := n4_; have NB108_109 := n5_; have NB109_108 := n6_; clear n0_ n1_ n2_ n3_ n4_ n5_ n6_; clear hb hbox hg) | ((with_reducible refine gate_dst (N := 5) rfl ?_); refine Kd.S_lit (Kd.slice 5 (Kd.int .u8)) _ 119 ?hg (N := 5) ?hd (xs := ([] : List (List Int))) (inner := []) (ok := fun _ => True) (okp := fun _ => True) ?hr ?hp (fun _ hk => hk) trivial (Below.refl _ _) (Nat.le_refl _) (by simp) ?_; (case hd => rfl); (case hg => rfl); (case hr => first | (go_simp; done) | (go_simp; rfl)); (case hp => exact (Reps.none _ _)); intro v111 w4 ho5 hb hg_ hnew_; clear hg_ hnew_; (first | rw [← Ny110.out] at ho5 | (simp only [Int.reduceToNat] at ho5; rw [← Ny110.out] at ho5)); have n0_ := Aside0.mk (Kd.S_lower ho5 (below_size (by repeat (first | (with_reducible first | exact HB.out | apply below_alloc | apply pw_below_drewN | apply below_drew1 | refine below_set ?_ GE108.out | refine below_set ?_ GE109.out) | exact HB.out)))); have n1_ := Aside0.mk (blk_below (g := gb108) (o := .cells #[.slice A0_0 l0_0.length c0_0] 26 (0, 0)) (by (with_reducible repeat (first | refine blk_drewN ?_ _ | refine blk_drew ?_ | refine blk_alloc ?_ _)); exact BK108.out) hb); have n2_ := Aside0.mk (blk_below (g := gb109) (o := .cells #[.slice none 0 0] 26 (0, 0)) (by (with_reducible repeat (first | refine blk_drewN ?_ _ | refine blk_drew ?_ | refine blk_alloc ?_ _)); exact BK109.out) hb); have n3_ := Aside0.mk (below_step (by repeat (first | (with_reducible first | exact HB.out | apply below_alloc | apply pw_below_drewN | apply below_drew1 | refine below_set ?_ GE108.out | refine below_set ?_ GE109.out) | exact HB.out)) hb); clear BK108; clear BK109; clear HB; have HO112 := n0_; have BK108 := n1_; have BK109 := n2_; have HB := n3_; clear n0_ n1_ n2_ n3_; clear hb ho5; obtain ⟨Ao6, co6, eo6⟩ := Kd.S_slice HO112.out; subst eo6) | ((with_reducible refine gate_dst (N := 3) rfl ?_); refine box_event ?hg (N := 3) ?hd (cs := #[.slice none 0 0]) (t := 26) ?hr ?_; (case hd => rfl); (case hg => rfl); (case hr => first | (go_simp; done) | (go_simp; rfl)); intro gb113 hg w7 hbox hb; have n0_ := Aside0.mk (Kd.S_below (by (with_reducible repeat (first | apply Kd.S_alloc | apply Kd.S_drewN | apply Kd.S_drew)); exact HO112.out) hb); have n1_ := Aside0.mk (blk_below (g := gb108) (o := .cells #[.slice A0_0 l0_0.length c0_0] 26 (0, 0)) (by (with_reducible repeat (first | refine blk_drewN ?_ _ | refine blk_drew ?_ | refine blk_alloc ?_ _)); exact BK108.out) hb); have n2_ := Aside0.mk (blk_below (g := gb109) (o := .cells #[.slice none 0 0] 26 (0, 0)) (by (with_reducible repeat (first | refine blk_drewN ?_ _ | refine blk_drew ?_ | refine blk_alloc ?_ _)); exact BK109.out) hb); have n3_ := Aside0.mk (below_step (by repeat (first | (with_reducible first | exact HB.out | apply below_alloc | apply pw_below_drewN | apply below_drew1 | refine below_set ?_ GE108.out | refine below_set ?_ GE109.out) | exact HB.out)) hb); have n4_ := Aside0.mk (hbox); have n5_ := Aside0.mk ((by rw [hg]; exact (below_size (by repeat (first | (with_reducible first | exact HB.out | apply below_alloc | apply pw_below_drewN | apply below_drew1 | refine below_set ?_ GE108.out | refine below_set ?_ GE109.out) | exact HB.out))) : w.heap.size ≤ gb113)); have n6_ := Aside0.mk ((by rw [hg]; exact (below_size (by repeat (first | (with_reducible first | exact HB.out | apply below_alloc | apply pw_below_drewN | apply below_drew1 | refine below_set ?_ GE108.out | refine below_set ?_ GE109.out) | exact HB.out))) : w.heap.size ≤ gb113)); have n7_ := Aside0.mk ((by rw [hg]; exact Nat.ne_of_lt (blk_lt (g := gb108) (o := .cells #[.slice A0_0 l0_0.length c0_0] 26 (0, 0)) (by (with_reducible repeat (first | refine blk_drewN ?_ _ | refine blk_drew ?_ | refine blk_alloc ?_ _)); exact BK108.out)) : gb108 ≠ gb113)); have n8_ := Aside0.mk ((by rw [hg]; exact Nat.ne_of_gt (blk_lt (g := gb108) (o := .cells #[.slice A0_0 l0_0.length c0_0] 26 (0, 0)) (by (with_reducible repeat (first | refine blk_drewN ?_ _ | refine blk_drew ?_ | refine blk_alloc ?_ _)); exact BK108.out)) : gb113 ≠ gb108)); have n9_ := Aside0.mk ((by rw [hg]; exact Nat.ne_of_lt (blk_lt (g := gb109) (o := .cells #[.slice none 0 0] 26 (0, 0)) (by (with_reducible repeat (first | refine blk_drewN ?_ _ | refine blk_drew ?_ | refine blk_alloc ?_ _)); exact BK109.out)) : gb109 ≠ gb113)); have n10_ := Aside0.mk ((by rw [hg]; exact Nat.ne_of_gt (blk_lt (g := gb109) (o := .cells #[.slice none 0 0] 26 (0, 0)) (by (with_reducible repeat (first | refine blk_drewN ?_ _ | refine blk_drew ?_ | refine blk_alloc ?_ _)); exact BK109.out)) : gb113 ≠ gb109)); clear HO112; clear BK108; clear BK109; clear HB; have HO112 := n0_; have BK108 := n1_; have BK109 := n2_; have HB := n3_; have BK113 := n4_; have GW113 := n5_; have GE113 := n6_; have NB108_113 := n7_; have NB113_108 := n8_; have NB109_113 := n9_; have NB113_109 := n10_; clear n0_ n1_ n2_ n3_ n4_ n5_ n6_ n7_ n8_ n9_ n10_; clear hb hbox hg; have hnb8 := NB113_108.out; have hnc8 := NB108_113.out; have hnb9 := NB113_109.out; have hnc9 := NB109_113.out; have hcz10_0 : w7.cell? ⟨gb113, 0, none⟩ = some (.slice none 0 0) := (blk_cell BK113.out 0).trans rfl; have hfz10_0 := blk_frozen BK113.out 0))
  go_loopg [4] k (fun kq v4 w' => ∃ (x4_1 : Int) (x114000_1 : List (List Int)) (u114000 : Value), v4 = .int .i64 x4_1 ∧ Aside0 (spec_l2Own.l0 kq x4_1 l0_0 x114000_1 = some r) ∧ Aside0 (kq ≤ k) ∧ Aside0 (Kd.S (Kd.slice 5 (Kd.int .u8)) 119 w' w.heap.size (fun _ => True) u114000 x114000_1) ∧ Aside0 (w'.heap[gb108]? = some (.cells #[(.slice A0_0 l0_0.length c0_0)] 26 (0, 0))) ∧ Aside0 (w'.heap[gb109]? = some (.cells #[(.slice none 0 0)] 26 (0, 0))) ∧ Aside0 (w'.heap[gb113]? = some (.cells #[u114000] 26 (0, 0))) ∧ Aside0 (Below w.heap.size w w'))
  case atStart => exact ⟨(0), (y110), (.slice Ao6 y110.length co6), (by first | rfl | (simp; done) | (simp [*]; done)), H', ⟨Nat.le_refl _⟩, ⟨by (with_reducible repeat (first | apply Kd.S_alloc | apply Kd.S_drewN | apply Kd.S_drew)); exact Kd.S_mono (Kd.S_far (p := ⟨gb113, 0, none⟩) (Kd.S_types HO112.out BK113.out (by decide)) (fun _ hk => hk.2) (.slice Ao6 y110.length co6)) (fun _ hk => trivial)⟩, ⟨by (with_reducible repeat (first | refine blk_drewN ?_ _ | refine blk_drew ?_ | refine blk_alloc ?_ _)); refine blk_far ?_ NB108_113.out _; (with_reducible repeat (first | refine blk_drewN ?_ _ | refine blk_drew ?_ | refine blk_alloc ?_ _)); exact BK108.out⟩, ⟨by (with_reducible repeat (first | refine blk_drewN ?_ _ | refine blk_drew ?_ | refine blk_alloc ?_ _)); refine blk_far ?_ NB109_113.out _; (with_reducible repeat (first | refine blk_drewN ?_ _ | refine blk_drew ?_ | refine blk_alloc ?_ _)); exact BK109.out⟩, ⟨by (with_reducible repeat (first | refine blk_drewN ?_ _ | refine blk_drew ?_ | refine blk_alloc ?_ _)); refine blk_put (cs := #[.slice none 0 0]) ?_ 0 _ rfl; (with_reducible repeat (first | refine blk_drewN ?_ _ | refine blk_drew ?_ | refine blk_alloc ?_ _)); exact BK113.out⟩, ⟨by repeat (first | (with_reducible first | exact HB.out | apply below_alloc | apply pw_below_drewN | apply below_drew1 | refine below_set ?_ GE108.out | refine below_set ?_ GE109.out | refine below_set ?_ GE113.out) | exact HB.out)⟩⟩
  case round =>
    clear H'
    try clear p2
    try clear c8
    try clear c9
    try clear hcz10_0
    try clear hfz10_0
    obtain ⟨x4_1, x114000_1, u114000, rfl, HA, HK1, HO_114000, BK108, BK109, BK113, HB⟩ := hrel
    cases gk with
    | zero => exact absurd HA.out (by simp [spec_l2Own.l0])
    | succ k1 =>
      have H := HA.out
      clear HA
      simp only [spec_l2Own.l0] at H
      by_cases c11 : x4_1 < (l0_0.length : Int)
      · rw [if_pos c11] at H
        have c11b0 : decide (x4_1 < (l0_0.length : Int)) = true := decide_eq_true c11
        clear c11
        obtain ⟨y114, hy114⟩ : ∃ y_ : List Int, y_ = (([] : List Int)) := ⟨_, rfl⟩
        replace H : (if 0 ≤ x4_1 then (if y114.length + (rd_Lsu8 l0_0 x4_1).length < 140737488355328 then (if x114000_1.length < 5864062014805 then (spec_l2Own.l0 k1 (wrap64 (x4_1 + 1)) l0_0 (x114000_1 ++ [(y114 ++ (rd_Lsu8 l0_0 x4_1))])) else (none)) else (none)) else (none)) = some r := by first | (rw [hy114]; with_reducible exact H) | (have H2_ := (Option.bind_some _ _).symm.trans H; rw [hy114]; with_reducible exact H2_) | (have H2_ := (Option.bind_some _ _).symm.trans H; with_reducible exact H2_) | with_reducible exact H | (rw [hy114]; exact H) | exact H
        have Ny114 := Aside0.mk hy114
        clear hy114
        by_cases c12 : 0 ≤ x4_1
        · rw [if_pos c12] at H
          have c12b0 : decide (0 ≤ x4_1) = true := decide_eq_true c12
          clear c12
          by_cases c13 : y114.length + (rd_Lsu8 l0_0 x4_1).length < 140737488355328
          · rw [if_pos c13] at H
            have LMc13 := Aside0.mk c13
            clear c13
            obtain ⟨y118, hy118⟩ : ∃ y_ : List Int, y_ = (y114 ++ (rd_Lsu8 l0_0 x4_1)) := ⟨_, rfl⟩
            replace H : (if x114000_1.length < 5864062014805 then (spec_l2Own.l0 k1 (wrap64 (x4_1 + 1)) l0_0 (x114000_1 ++ [y118])) else (none)) = some r := by first | (rw [hy118]; with_reducible exact H) | (have H2_ := (Option.bind_some _ _).symm.trans H; rw [hy118]; with_reducible exact H2_) | (have H2_ := (Option.bind_some _ _).symm.trans H; with_reducible exact H2_) | with_reducible exact H | (rw [hy118]; exact H) | exact H
            have Ny118 := Aside0.mk hy118
            clear hy118
            by_cases c14 : x114000_1.length < 5864062014805
            · rw [if_pos c14] at H
              have LMc14 := Aside0.mk c14
              clear c14
              obtain ⟨y121, hy121⟩ : ∃ y_ : List (List Int), y_ = (x114000_1 ++ [y118]) := ⟨_, rfl⟩
              replace H : (spec_l2Own.l0 k1 (wrap64 (x4_1 + 1)) l0_0 y121) = some r := by first | (rw [hy121]; with_reducible exact H) | (have H2_ := (Option.bind_some _ _).symm.trans H; rw [hy121]; with_reducible exact H2_) | (have H2_ := (Option.bind_some _ _).symm.trans H; with_reducible exact H2_) | with_reducible exact H | (rw [hy121]; exact H) | exact H
              have Ny121 := Aside0.mk hy121
              clear hy121
              have H' := Aside0.mk H
              clear H
              have hnb15 := NB108_109.out
              have hnc15 := NB109_108.out
              have hnb16 := NB108_113.out
              have hnc16 := NB113_108.out
              have hcz17_0 : wr.cell? ⟨gb108, 0, none⟩ = some (.slice A0_0 l0_0.length c0_0) := (blk_cell BK108.out 0).trans rfl
              have hfz17_0 := blk_frozen BK108.out 0
              try go_wp2
              have n0_ := Aside0.mk (Kd.S_drew HO_114000.out)
              have n1_ := Aside0.mk (blk_drew BK108.out)
              have n2_ := Aside0.mk (blk_drew BK109.out)
              have n3_ := Aside0.mk (blk_drew BK113.out)
              have n4_ := Aside0.mk (below_drew1 HB.out)
              clear HO_114000
              clear BK108
              clear BK109
              clear BK113
              clear HB
              have HO_114000 := n0_
              have BK108 := n1_
              have BK109 := n2_
              have BK113 := n3_
              have HB := n4_
              clear n0_ n1_ n2_ n3_ n4_
              have p117 : 0 ≤ (x4_1 : Int) := of_decide_eq_true (by first | (with_reducible assumption) | assumption)
              have q117 : x4_1 < (l0_0.length : Int) := of_decide_eq_true (by first | (with_reducible assumption) | assumption)
              obtain ⟨ad117, A117_0, c117_0, e117, hx117_0, hl117_0, hi117_0⟩ := at_Lsu8 HR0_0.out x4_1 p117 q117
              have hw117_0 := hx117_0
              cases e117
              replace hx117_0 := (HB.out.cell (World.block_lt_of_cell? w _ hx117_0)).trans hx117_0
              have HR117_0 := Aside0.mk hi117_0
              have HC117_0 := Aside0.mk hl117_0
              clear hi117_0 hl117_0
              replace p117 := eq_true p117
              replace q117 := eq_true q117
              refine start_ (n := 13) (S := fun w' => w'.cell? ⟨gb113, 0, none⟩ = some (u114000) ∧ w'.cell? ⟨gb108, 0, none⟩ = some (.slice (some ad117) l0_0.length c0_0) ∧ w'.cell? (ad117.add (x4_1).toNat) = some (.slice A117_0 (rd_Lsu8 l0_0 x4_1).length c117_0)) (ds := [12]) #[false, false, false, false, false, false, false, false, false, false, false, false, false] (by kernel_rfl) rfl rfl ⟨(blk_cell BK113.out 0).trans rfl, (blk_cell BK108.out 0).trans rfl, (by have h_ := ((HB.out.cell (World.block_lt_of_cell? w _ hw117_0)).trans hw117_0); first | exact h_ | (simp only [*] at h_; exact h_) | (simp [*]; done) | simpa [*] using h_)⟩ (fun hHeld => ?_); refine with_tabW spec_l2Own.tab5 spec_l2Own.bits5 (fun HT_ HW_ => ?_)
              generalize wr.drew = w18 at HO_114000 BK108 BK109 BK113 HB HR117_0 hx117_0 hHeld ⊢
              refine pure_ (i := 0) (N := some 14) (v := ?_) (a' := ?_) #[true, false, false, false, false, false, false, false, false, false, false, false, false] rfl rfl (any_of HT_.out (by kernel_rfl)) (fun _ _ _ h => h) (Or.inl ⟨by rfl, ?_⟩) ?_ ?_
              rotate_left
              · intro w'
                go_simp
                with_reducible rfl
              rotate_left
              · simp only [Act.put, List.setIfInBounds_toArray, List.set_cons_zero, List.set_cons_succ, i64_w, i32_w]
                rfl
              refine pure_ (i := 3) (N := some 17) (v := ?_) (a' := ?_) #[true, false, false, true, false, false, false, false, false, false, false, false, false] rfl rfl (any_of HT_.out (by kernel_rfl)) (fun _ _ _ h => h) (Or.inl ⟨by rfl, ?_⟩) ?_ ?_
              rotate_left
              · intro w'
                go_simp
                with_reducible rfl
              rotate_left
              · simp only [Act.put, List.setIfInBounds_toArray, List.set_cons_zero, List.set_cons_succ, i64_w, i32_w]
                rfl
              refine pure_ (i := 5) (N := some 19) (v := ?_) (a' := ?_) #[true, false, false, true, false, true, false, false, false, false, false, false, false] rfl rfl (any_of HT_.out (by kernel_rfl)) (fun _ _ _ h => h) (Or.inl ⟨by rfl, ?_⟩) ?_ ?_
              rotate_left
              · intro w'
                go_simp
                with_reducible rfl
              rotate_left
              · simp only [Act.put, List.setIfInBounds_toArray, List.set_cons_zero, List.set_cons_succ, i64_w, i32_w]
                rfl
              refine take_ (i := 1) (N := some 15) (v := ?_) (a' := ?_) #[true, true, false, true, false, true, false, false, false, false, false, false, false] rfl rfl (take_ofW HT_.out HW_.out (by kernel_rfl)) (fun _ _ _ h => h) (Or.inl ⟨by rfl, ?_⟩) hHeld ?_ ?_
              rotate_left
              · rintro w' ⟨s0, s1, s2⟩
                go_simp
                with_reducible rfl
              rotate_left
              · simp only [Act.put, List.setIfInBounds_toArray, List.set_cons_zero, List.set_cons_succ, i64_w, i32_w]
                rfl
              refine take_ (i := 4) (N := some 18) (v := ?_) (a' := ?_) #[true, true, false, true, true, true, false, false, false, false, false, false, false] rfl rfl (take_ofW HT_.out HW_.out (by kernel_rfl)) (fun _ _ _ h => h) (Or.inl ⟨by rfl, ?_⟩) hHeld ?_ ?_
              rotate_left
              · rintro w' ⟨s0, s1, s2⟩
                go_simp
                with_reducible rfl
              rotate_left
              · simp only [Act.put, List.setIfInBounds_toArray, List.set_cons_zero, List.set_cons_succ, i64_w, i32_w]
                rfl
              refine pure_ (i := 6) (N := some 20) (v := ?_) (a' := ?_) #[true, true, false, true, true, true, true, false, false, false, false, false, false] rfl rfl (any_of HT_.out (by kernel_rfl)) (fun _ _ _ h => h) (Or.inl ⟨by rfl, ?_⟩) ?_ ?_
              rotate_left
              · intro w'
                go_simp
                with_reducible rfl
              rotate_left
              · simp only [Act.put, List.setIfInBounds_toArray, List.set_cons_zero, List.set_cons_succ, i64_w, i32_w]
                rfl
              refine take_ (i := 7) (N := some 21) (v := ?_) (a' := ?_) #[true, true, false, true, true, true, true, true, false, false, false, false, false] rfl rfl (take_ofW HT_.out HW_.out (by kernel_rfl)) (fun _ _ _ h => h) (Or.inl ⟨by rfl, ?_⟩) hHeld ?_ ?_
              rotate_left
              · rintro w' ⟨s0, s1, s2⟩
                go_simp
                with_reducible rfl
              rotate_left
              · simp only [Act.put, List.setIfInBounds_toArray, List.set_cons_zero, List.set_cons_succ, i64_w, i32_w]
                rfl
              refine one_ (i := 2) (N := some 16) #[true, true, true, true, true, true, true, true, false, false, false, false, false] rfl rfl (one_of HT_.out (by kernel_rfl)) (by decide) (fun K hK => ?_)
              refine Kd.R_lit_step (Kd.int .u8) _ 5 ?hg (N := 16) ?hd (xs := ([] : List Int)) (inner := []) (ok := fun _ => True) (okp := fun _ => True) ?hr ?hp (fun _ hk => hk) trivial (Below.refl _ _) (Nat.le_refl _) (by simp) ?_; (case hd => rfl); (case hg => rfl); (case hr => first | (go_simp; done) | (go_simp; rfl)); (case hp => exact (Reps.none _ _))
              intro v115 w19 ho20 hb hg_ hnew_
              clear hg_ hnew_
              (first | rw [← Ny114.out] at ho20 | (simp only [Int.reduceToNat] at ho20; rw [← Ny114.out] at ho20))
              have n0_ := Aside0.mk (Kd.S_elder' (by (with_reducible repeat (first | apply Kd.S_alloc | apply Kd.S_drewN | apply Kd.S_drew)); exact HO_114000.out) (Kd.R_base ho20) hb)
              have n1_ := Aside0.mk (Kd.R_lower ho20 (below_size (by repeat (first | (with_reducible first | exact HB.out | apply below_alloc | apply pw_below_drewN | apply below_drew1 | refine below_set ?_ GE108.out | refine below_set ?_ GE109.out | refine below_set ?_ GE113.out) | exact HB.out))))
              have n2_ := Aside0.mk (blk_below (g := gb108) (o := .cells #[.slice (some ad117) l0_0.length c0_0] 26 (0, 0)) (by (with_reducible repeat (first | refine blk_drewN ?_ _ | refine blk_drew ?_ | refine blk_alloc ?_ _)); exact BK108.out) hb)
              have n3_ := Aside0.mk (blk_below (g := gb109) (o := .cells #[.slice none 0 0] 26 (0, 0)) (by (with_reducible repeat (first | refine blk_drewN ?_ _ | refine blk_drew ?_ | refine blk_alloc ?_ _)); exact BK109.out) hb)
              have n4_ := Aside0.mk (blk_below (g := gb113) (o := .cells #[u114000] 26 (0, 0)) (by (with_reducible repeat (first | refine blk_drewN ?_ _ | refine blk_drew ?_ | refine blk_alloc ?_ _)); exact BK113.out) hb)
              have n5_ := Aside0.mk (below_step (by repeat (first | (with_reducible first | exact HB.out | apply below_alloc | apply pw_below_drewN | apply below_drew1 | refine below_set ?_ GE108.out | refine below_set ?_ GE109.out | refine below_set ?_ GE113.out) | exact HB.out)) hb)
              clear HO_114000
              clear BK108
              clear BK109
              clear BK113
              clear HB
              have HO_114000 := n0_
              have HO116 := n1_
              have BK108 := n2_
              have BK109 := n3_
              have BK113 := n4_
              have HB := n5_
              clear n0_ n1_ n2_ n3_ n4_ n5_
              clear hb ho20
              refine hK.out _ _ ⟨(blk_cell BK113.out 0).trans rfl, (blk_cell BK108.out 0).trans rfl, (by have h_ := ((HB.out.cell (World.block_lt_of_cell? w _ hw117_0)).trans hw117_0); first | exact h_ | (simp only [*] at h_; exact h_) | (simp [*]; done) | simpa [*] using h_)⟩ (fun hHeld => ?_)
              clear hK K
              refine norm_ (a' := ?_) ?_ ?_
              rotate_left
              · show Act.put _ (some 16) _ = _
                simp only [Act.put, List.setIfInBounds_toArray, List.set_cons_zero, List.set_cons_succ, i64_w, i32_w]
                rfl
              refine one_ (i := 8) (N := some 22) #[true, true, true, true, true, true, true, true, true, false, false, false, false] rfl rfl (one_of HT_.out (by kernel_rfl)) (by decide) (fun K hK => ?_)
              refine Kd.R_append_rows_step (Kd.int .u8) (w0 := w) w.heap.size (by rfl) (.tmp 16) (.tmp 21) 119 5 (.int .u8 0) 1 rfl Try.underlying119 info5 rfl (by decide) (by omega) v115 y114 (rd_Lsu8 l0_0 x4_1) _ _ _ (fun _ => True) (fun _ => False) rfl rfl ?aO ?aR (fun _ _ h => h) (fun _ h => h.elim) ?aF ?aB ?aS ?aL ?_
              (case aR => repeat (first | exact (Kd.C_below HR117_0.out HB.out) | (with_reducible refine Kd.C_alloc ?_ _) | (with_reducible refine Kd.C_drewN ?_ _) | (with_reducible refine Kd.C_drew ?_)))
              (case aB => exact (by repeat (first | (with_reducible first | exact HB.out | apply below_alloc | apply pw_below_drewN | apply below_drew1 | refine below_set ?_ GE108.out | refine below_set ?_ GE109.out | refine below_set ?_ GE113.out) | exact HB.out)))
              (case aF => exact (fun _ _ => trivial))
              (case aO => exact (by (with_reducible repeat (first | apply Kd.R_alloc | apply Kd.R_drewN | apply Kd.R_drew)); exact HO116.out))
              (case aS => exact (below_size (by repeat (first | (with_reducible first | exact HB.out | apply below_alloc | apply pw_below_drewN | apply below_drew1 | refine below_set ?_ GE108.out | refine below_set ?_ GE109.out | refine below_set ?_ GE113.out) | exact HB.out))))
              (case aL => have := LMc13.out; omega)
              intro v119 w21 ho hb hg hat
              rw [← Ny118.out] at ho
              have n0_ := Aside0.mk (Kd.S_after (ok := (fun _ => True)) (by (with_reducible repeat (first | apply Kd.S_alloc | apply Kd.S_drewN | apply Kd.S_drew)); exact HO_114000.out) hg hat)
              have n1_ := Aside0.mk (blk_grown (g := gb108) (o := .cells #[.slice (some ad117) l0_0.length c0_0] 26 (0, 0)) (by (with_reducible repeat (first | refine blk_drewN ?_ _ | refine blk_drew ?_ | refine blk_alloc ?_ _)); exact BK108.out) hg (Kd.R_ne HO116.out BK108.out (by decide)))
              have n2_ := Aside0.mk (blk_grown (g := gb109) (o := .cells #[.slice none 0 0] 26 (0, 0)) (by (with_reducible repeat (first | refine blk_drewN ?_ _ | refine blk_drew ?_ | refine blk_alloc ?_ _)); exact BK109.out) hg (Kd.R_ne HO116.out BK109.out (by decide)))
              have n3_ := Aside0.mk (blk_grown (g := gb113) (o := .cells #[u114000] 26 (0, 0)) (by (with_reducible repeat (first | refine blk_drewN ?_ _ | refine blk_drew ?_ | refine blk_alloc ?_ _)); exact BK113.out) hg (Kd.R_ne HO116.out BK113.out (by decide)))
              have n4_ := Aside0.mk (hb)
              have n5_ := Aside0.mk (ho)
              clear HO_114000
              clear BK108
              clear BK109
              clear BK113
              clear HB
              clear HO116
              have HO_114000 := n0_
              have BK108 := n1_
              have BK109 := n2_
              have BK113 := n3_
              have HB := n4_
              have HO120 := n5_
              clear n0_ n1_ n2_ n3_ n4_ n5_
              clear ho hb hg hat
              obtain ⟨Ao23, co23, eo23⟩ := Kd.R_slice HO120.out
              (first | subst eo23 | (injection eo23 with f1_ f2_ f3_; have f4_ := f1_.symm; have f5_ := f3_.symm; clear f1_ f2_ f3_; subst f4_; subst f5_))
              refine hK.out _ _ ⟨(blk_cell BK113.out 0).trans rfl, (blk_cell BK108.out 0).trans rfl, (by have h_ := ((HB.out.cell (World.block_lt_of_cell? w _ hw117_0)).trans hw117_0); first | exact h_ | (simp only [*] at h_; exact h_) | (simp [*]; done) | simpa [*] using h_)⟩ (fun hHeld => ?_)
              clear hK K
              refine norm_ (a' := ?_) ?_ ?_
              rotate_left
              · show Act.put _ (some 22) _ = _
                simp only [Act.put, List.setIfInBounds_toArray, List.set_cons_zero, List.set_cons_succ, i64_w, i32_w]
                rfl
              refine one_ (i := 9) (N := some 23) #[true, true, true, true, true, true, true, true, true, true, false, false, false] rfl rfl (one_of HT_.out (by kernel_rfl)) (by decide) (fun K hK => ?_)
              refine value_ (w1 := ?_) (v := ?_) (by rfl) rfl ?_ ?_
              rotate_left 2
              · go_simp
                constructor
                · rfl
                · rfl
              refine hK.out _ _ ⟨(blk_cell (blk_alloc BK113.out _) 0).trans rfl, (blk_cell (blk_alloc BK108.out _) 0).trans rfl, (World.cell?_alloc_lt _ _ _ (World.block_lt_of_cell? _ _ ((by have h_ := ((HB.out.cell (World.block_lt_of_cell? w _ hw117_0)).trans hw117_0); first | exact h_ | (simp only [*] at h_; exact h_) | (simp [*]; done) | simpa [*] using h_)))).trans ((by have h_ := ((HB.out.cell (World.block_lt_of_cell? w _ hw117_0)).trans hw117_0); first | exact h_ | (simp only [*] at h_; exact h_) | (simp [*]; done) | simpa [*] using h_))⟩ (fun hHeld => ?_)
              clear hK K
              refine norm_ (a' := ?_) ?_ ?_
              rotate_left
              · show Act.put _ (some 23) _ = _
                simp only [Act.put, List.setIfInBounds_toArray, List.set_cons_zero, List.set_cons_succ, i64_w, i32_w]
                rfl
              refine one_ (i := 10) (N := some 24) #[true, true, true, true, true, true, true, true, true, true, true, false, false] rfl rfl (one_of HT_.out (by kernel_rfl)) (by decide) (fun K hK => ?_)
              refine Kd.S_append_step (Kd.slice 5 (Kd.int .u8)) (w0 := w) w.heap.size (by rfl) (.tmp 15) (.tmp 23) 22 119 (.slice none 0 0) 24 rfl Try.underlying22 info119 rfl (by decide) (by omega) u114000 x114000_1 y118 [.slice Ao23 y118.length co23] (fun _ => True) (fun k_ => some k_ = (.slice Ao23 y118.length co23 : Value).ownBlock) rfl rfl ?aP (fun k_ hk_ => ((Kd.R_mono (ok' := fun k_ => ((fun _ => True)) k_ ∧ some k_ ≠ (u114000 : Value).ownBlock) (Kd.R_apart' (HO120.out) (Kd.S_typed HO_114000.out) (by decide)) (fun k_ hk => ⟨trivial, hk.2⟩))).1 k_ hk_.symm) ?aF ?aO ?aB ?aS ?aL ?_
              (case aP => exact Kd.M_row (Kd.R_mono (Kd.R_tight rfl (Kd.R_mono (ok' := fun k_ => ((fun _ => True)) k_ ∧ some k_ ≠ (u114000 : Value).ownBlock) (Kd.R_apart' (HO120.out) (Kd.S_typed HO_114000.out) (by decide)) (fun k_ hk => ⟨trivial, hk.2⟩))) (fun _ h_ => h_)))
              (case aB => exact (by repeat (first | (with_reducible first | exact HB.out | apply below_alloc | apply pw_below_drewN | apply below_drew1 | refine below_set ?_ GE108.out | refine below_set ?_ GE109.out | refine below_set ?_ GE113.out) | exact HB.out)))
              (case aF => exact (fun _ _ => trivial))
              (case aO => exact (by (with_reducible repeat (first | apply Kd.S_alloc | apply Kd.S_drewN | apply Kd.S_drew)); exact Kd.S_mono HO_114000.out (fun k_ hk => ⟨trivial, fun e_ => hk.2 e_⟩)))
              (case aS => exact (below_size (by repeat (first | (with_reducible first | exact HB.out | apply below_alloc | apply pw_below_drewN | apply below_drew1 | refine below_set ?_ GE108.out | refine below_set ?_ GE109.out | refine below_set ?_ GE113.out) | exact HB.out))))
              (case aL => have := LMc14.out; omega)
              intro v122 w22 ho hb hg hat
              rw [← Ny121.out] at ho
              have n0_ := Aside0.mk (blk_grown (g := gb108) (o := .cells #[.slice (some ad117) l0_0.length c0_0] 26 (0, 0)) (by (with_reducible repeat (first | refine blk_drewN ?_ _ | refine blk_drew ?_ | refine blk_alloc ?_ _)); exact BK108.out) hg (Kd.S_ne HO_114000.out BK108.out (by decide)))
              have n1_ := Aside0.mk (blk_grown (g := gb109) (o := .cells #[.slice none 0 0] 26 (0, 0)) (by (with_reducible repeat (first | refine blk_drewN ?_ _ | refine blk_drew ?_ | refine blk_alloc ?_ _)); exact BK109.out) hg (Kd.S_ne HO_114000.out BK109.out (by decide)))
              have n2_ := Aside0.mk (blk_grown (g := gb113) (o := .cells #[u114000] 26 (0, 0)) (by (with_reducible repeat (first | refine blk_drewN ?_ _ | refine blk_drew ?_ | refine blk_alloc ?_ _)); exact BK113.out) hg (Kd.S_ne HO_114000.out BK113.out (by decide)))
              have n3_ := Aside0.mk (hb)
              have n4_ := Aside0.mk (ho)
              clear BK108
              clear BK109
              clear BK113
              clear HB
              clear HO_114000
              clear HO120
              have BK108 := n0_
              have BK109 := n1_
              have BK113 := n2_
              have HB := n3_
              have HO123 := n4_
              clear n0_ n1_ n2_ n3_ n4_
              clear ho hb hg hat
              obtain ⟨Ao24, co24, eo24⟩ := Kd.S_slice HO123.out
              (first | subst eo24 | (injection eo24 with f1_ f2_ f3_; have f4_ := f1_.symm; have f5_ := f3_.symm; clear f1_ f2_ f3_; subst f4_; subst f5_))
              refine hK.out _ _ ⟨(blk_cell BK113.out 0).trans rfl, (blk_cell BK108.out 0).trans rfl, (by have h_ := ((HB.out.cell (World.block_lt_of_cell? w _ hw117_0)).trans hw117_0); first | exact h_ | (simp only [*] at h_; exact h_) | (simp [*]; done) | simpa [*] using h_)⟩ (fun hHeld => ?_)
              clear hK K
              refine norm_ (a' := ?_) ?_ ?_
              rotate_left
              · show Act.put _ (some 24) _ = _
                simp only [Act.put, List.setIfInBounds_toArray, List.set_cons_zero, List.set_cons_succ, i64_w, i32_w]
                rfl
              refine pure_ (i := 11) (N := some 25) (v := ?_) (a' := ?_) #[true, true, true, true, true, true, true, true, true, true, true, true, false] rfl rfl (any_of HT_.out (by kernel_rfl)) (fun _ _ _ h => h) (Or.inl ⟨by rfl, ?_⟩) ?_ ?_
              rotate_left
              · intro w'
                go_simp
                with_reducible rfl
              rotate_left
              · simp only [Act.put, List.setIfInBounds_toArray, List.set_cons_zero, List.set_cons_succ, i64_w, i32_w]
                rfl
              refine last_ (i := 12) (N := none) #[true, true, true, true, true, true, true, true, true, true, true, true, true] rfl rfl (one_of HT_.out (by kernel_rfl)) (by decide) (fun K hK => ?_)
              have hs25 : w22.cell? ⟨gb113, 0, none⟩ = some (u114000) := (blk_cell BK113.out 0).trans rfl
              have hfs25 := blk_frozen BK113.out 0
              have hns25_0 := NB108_113.out
              have hns25_1 := NB109_113.out
              have hms25_0 := NB113_108.out
              have hms25_1 := NB113_109.out
              refine skip_ (w1 := ?_) (by rfl) rfl ?_ ?_
              rotate_left
              · go_simp
                rfl
              refine hK.out _ _ ?_
              clear hK K
              refine done_ (done_of HT_.out (by kernel_rfl)) ?_
              try go_wp2
              go_roundg k1
              case measure => have := HK1.out; omega
              case rel => exact ⟨(wrap64 (x4_1 + 1)), (y121), (.slice Ao24 y121.length co24), (by first | rfl | (simp; done) | (simp [*]; done)), H', ⟨by have := HK1.out; omega⟩, ⟨by (with_reducible repeat (first | apply Kd.S_alloc | apply Kd.S_drewN | apply Kd.S_drew)); exact Kd.S_mono (Kd.S_far (p := ⟨gb113, 0, none⟩) (Kd.S_types HO123.out BK113.out (by decide)) (fun _ hk => hk.2) (.slice Ao24 y121.length co24)) (fun _ hk => trivial)⟩, ⟨by (with_reducible repeat (first | refine blk_drewN ?_ _ | refine blk_drew ?_ | refine blk_alloc ?_ _)); refine blk_far ?_ NB108_113.out _; (with_reducible repeat (first | refine blk_drewN ?_ _ | refine blk_drew ?_ | refine blk_alloc ?_ _)); exact BK108.out⟩, ⟨by (with_reducible repeat (first | refine blk_drewN ?_ _ | refine blk_drew ?_ | refine blk_alloc ?_ _)); refine blk_far ?_ NB109_113.out _; (with_reducible repeat (first | refine blk_drewN ?_ _ | refine blk_drew ?_ | refine blk_alloc ?_ _)); exact BK109.out⟩, ⟨by (with_reducible repeat (first | refine blk_drewN ?_ _ | refine blk_drew ?_ | refine blk_alloc ?_ _)); refine blk_put (cs := #[u114000]) ?_ 0 _ rfl; (with_reducible repeat (first | refine blk_drewN ?_ _ | refine blk_drew ?_ | refine blk_alloc ?_ _)); exact BK113.out⟩, ⟨by repeat (first | (with_reducible first | exact HB.out | apply below_alloc | apply pw_below_drewN | apply below_drew1 | refine below_set ?_ GE108.out | refine below_set ?_ GE109.out | refine below_set ?_ GE113.out) | exact HB.out)⟩⟩
            · rw [if_neg c14] at H
              exact absurd H (by simp)
          · rw [if_neg c13] at H
            exact absurd H (by simp)
        · rw [if_neg c12] at H
          exact absurd H (by simp)
      · rw [if_neg c11] at H
        have c11b0 : decide (x4_1 < (l0_0.length : Int)) = false := decide_eq_false c11
        clear c11
        obtain rfl := Option.some.inj H
        have hnb26 := NB108_109.out
        have hnc26 := NB109_108.out
        have hnb27 := NB108_113.out
        have hnc27 := NB113_108.out
        have hcz28_0 : wr.cell? ⟨gb108, 0, none⟩ = some (.slice A0_0 l0_0.length c0_0) := (blk_cell BK108.out 0).trans rfl
        have hfz28_0 := blk_frozen BK108.out 0
        have hnb29 := NB113_109.out
        have hnc29 := NB109_113.out
        have hcz30_0 : wr.cell? ⟨gb113, 0, none⟩ = some (u114000) := (blk_cell BK113.out 0).trans rfl
        have hfz30_0 := blk_frozen BK113.out 0
        obtain ⟨Ao31, co31, eo31⟩ := Kd.S_slice HO_114000.out
        subst eo31
        have hcz32_0 : wr.cell? ⟨gb109, 0, none⟩ = some (.slice none 0 0) := (blk_cell BK109.out 0).trans rfl
        have hfz32_0 := blk_frozen BK109.out 0
        go_wp2
        refine bodyPost_ret (results_cell_row rfl _ _ gb109 26 #[.slice Ao31 x114000_1.length co31] (0, 0) _ rfl (by (with_reducible repeat (first | refine blk_drewN ?_ _ | refine blk_drew ?_ | refine blk_alloc ?_ _)); refine blk_put (cs := #[.slice none 0 0]) ?_ 0 _ rfl; (with_reducible repeat (first | refine blk_drewN ?_ _ | refine blk_drew ?_ | refine blk_alloc ?_ _)); exact BK109.out) Try.underlying26 rfl (by kernel_rfl)) rfl ?_
        exact ⟨_, by first | rfl | (simp [errW_none, errW_some] <;> rfl) | (simp [*, errW_none, errW_some] <;> rfl), by (with_reducible repeat (first | apply Kd.S_alloc | apply Kd.S_drewN | apply Kd.S_drew)); exact Kd.S_mono (Kd.S_far (p := ⟨gb109, 0, none⟩) (Kd.S_types HO_114000.out BK109.out (by decide)) (fun _ hk => hk.2) (.slice Ao31 x114000_1.length co31)) (fun _ hk => trivial), by repeat (first | (with_reducible first | exact HB.out | apply below_alloc | apply pw_below_drewN | apply below_drew1 | refine below_set ?_ GE108.out | refine below_set ?_ GE109.out | refine below_set ?_ GE113.out) | exact HB.out)⟩

end Go.Proofs.Ytoomjghabiojkaa.P


/- Copies of a memory; what is written into it. -/
namespace Go.Proofs.Ytoomjghabiojkaa.P
open Go.RowKit Go.Proofs.YtoomjghabiojkaaW.PrintWords
set_option linter.unusedVariables false
theorem own_ev (suf : List (List Int)) : ∀ (pre : List (List Int)), pre.length + suf.length ≤ 1048576 → (∀ x ∈ suf, x.length ≤ 1048576) →
    Ev (fun k => impl_Memory_own.l0 k (pre ++ suf) ((pre ++ suf).length : Int) (pre.length : Int) pre) (pre ++ suf) := by
  induction suf with
  | nil =>
    intro pre h1 h2
    refine Ev.step (fun k => ?_) (Ev.now _)
    simp [impl_Memory_own.l0]
  | cons x suf ih =>
    intro pre h1 h2
    simp only [List.length_cons] at h1
    refine Ev.step (f := fun k => impl_Memory_own.l0 k ((pre ++ [x]) ++ suf) (((pre ++ [x]) ++ suf).length : Int) ((pre ++ [x]).length : Int) (pre ++ [x])) (fun k => ?_) ?_
    · simp only [impl_Memory_own.l0]
      have hx := h2 x (by simp)
      rw [if_pos (by simp; omega), if_pos (by omega), if_pos (by simp; omega), rdB_mid, slices_Clone_byte_byte.f, if_pos (by omega), Option.bind_some, if_pos (by omega), wrap_len (by omega)]
      simp
    · have := ih (pre ++ [x]) (by simp; omega) (fun y hy => h2 y (by simp [hy]))
      simpa using this
theorem own_f (m : List (List Int)) (h : okM m) : Ev (fun k => impl_Memory_own.f k m) m := by
  have := own_ev m [] (by simpa using h.1) h.2.1
  simpa [impl_Memory_own.f] using this
theorem l2Own_ev (suf : List (List Int)) : ∀ (pre : List (List Int)), pre.length + suf.length ≤ 1048576 → (∀ x ∈ suf, x.length ≤ 1048576) →
    Ev (fun k => spec_l2Own.l0 k (pre.length : Int) (pre ++ suf) pre) (pre ++ suf) := by
  induction suf with
  | nil =>
    intro pre h1 h2
    refine Ev.step (fun k => ?_) (Ev.now _)
    simp [spec_l2Own.l0]
  | cons x suf ih =>
    intro pre h1 h2
    simp only [List.length_cons] at h1
    refine Ev.step (f := fun k => spec_l2Own.l0 k ((pre ++ [x]).length : Int) ((pre ++ [x]) ++ suf) (pre ++ [x])) (fun k => ?_) ?_
    · simp only [spec_l2Own.l0]
      have hx := h2 x (by simp)
      rw [if_pos (by simp; omega), Option.bind_some, if_pos (by omega), rdB_mid, if_pos (by simp; omega), if_pos (by omega), wrap_len (by omega)]
      simp
    · have := ih (pre ++ [x]) (by simp; omega) (fun y hy => h2 y (by simp [hy]))
      simpa using this
theorem l2Own_f (m : List (List Int)) (h : okM m) : Ev (fun k => spec_l2Own.f k m) m := by
  have := l2Own_ev m [] (by simpa using h.1) h.2.1
  simpa [spec_l2Own.f] using this
theorem okM_nil : okM [] := ⟨by simp, by simp, by simp [sizeBB]⟩
theorem okM_append {m : List (List Int)} {x : List Int} (h1 : m.length ≤ 65) (h2 : ∀ y ∈ m, y.length ≤ 64) (h3 : x.length ≤ 64) : okM (m ++ [x]) := by
  have h4 : ∀ y ∈ m ++ [x], y.length ≤ 64 := fun y hy => by
    rcases List.mem_append.1 hy with h | h
    · exact h2 y h
    · simp at h; subst h; exact h3
  have h5 := sizeBB_le (b := 64) h4
  have h6 : (m ++ [x]).length ≤ 66 := by simp; omega
  refine ⟨by omega, fun y hy => by have := h4 y hy; omega, ?_⟩
  have : (m ++ [x]).length * 64 ≤ 66 * 64 := Nat.mul_le_mul_right _ h6
  omega
theorem heldMemory_f (m : List (List Int)) (h : okM m) : Ev (fun k => laws_heldMemory.f k (marksBB 1 m) 1) ((1 : Int) + (sizeBB m : Int)) := by
  refine Ev.bind (heldByteSS_f m 1 (by omega) (by have := h.2.2; omega) (by have := h.1; omega)) ?_
  rw [if_neg (by omega)]
  exact Ev.now _
end Go.Proofs.Ytoomjghabiojkaa.P


/- Windows on a memory: plain facts, and what writing comes to. -/
namespace Go.Proofs.Ytoomjghabiojkaa.P
open Go.RowKit Go.Proofs.YtoomjghabiojkaaW.PrintWords
set_option linter.unusedVariables false
def rowB (m : List (List Int)) (a : Int) : List Int := m.getD a.toNat []
structure WinOk (m : List (List Int)) (a s n c : Int) : Prop where
  a0 : 0 ≤ a
  a1 : a < m.length
  c0 : 0 ≤ c
  c1 : c ≤ 64
  n0 : 0 ≤ n
  n1 : n ≤ c
  s0 : 0 ≤ s
  s1 : s + c ≤ ((rowB m a).length : Int)
  r0 : 0 < (rowB m a).length
  r1 : (rowB m a).length ≤ 64
theorem WinOk.of {m : List (List Int)} {a s n c : Int} (hm : memB m = true) (h : winB m a s n c = true) : WinOk m a s n c := by
  unfold winB at h
  have h := of_decide_eq_true h
  have hi : a.toNat < m.length := by omega
  have hr : rowB m a = m[a.toNat] := by unfold rowB; rw [List.getD_eq_getElem?_getD, List.getElem?_eq_getElem hi]; rfl
  have hl := memB_rows hm (rowB m a) (by rw [hr]; exact List.getElem_mem hi)
  have he : rd_Lsu8 m a = rowB m a := rfl
  rw [he] at h
  exact ⟨by omega, by omega, by omega, by omega, by omega, by omega, by omega, by omega, by omega, by omega⟩
end Go.Proofs.Ytoomjghabiojkaa.P


namespace Go.Proofs.Ytoomjghabiojkaa.P
open Go.RowKit Go.Proofs.YtoomjghabiojkaaW.PrintWords Go.Proofs.YtoomjghabiojkaaW.PrintLast Go.Proofs.YtoomjghabiojkaaW.PrintMore
attribute [local go_sem] max2_int min2_int max_two min_two max_three min_three max_four min_four   -- for this text's walks alone
set_option linter.unusedVariables false
set_option linter.unusedSimpArgs false

def spec_l2At.f (l0_0 : List (List Int)) (a1_0 : Int) (a1_1 : Int) (a1_2 : Int) (a1_3 : Int) (a2 : Int) : Option (Int) := if 0 ≤ a1_0 then (if a1_0 < (l0_0.length : Int) then (if 0 ≤ (wrap64 (a1_1 + a2)) then (if (wrap64 (a1_1 + a2)) < ((rd_Lsu8 l0_0 a1_0).length : Int) then (some (rd (rd_Lsu8 l0_0 a1_0) (wrap64 (a1_1 + a2)))) else (none)) else (none)) else (none)) else (none)
set_option maxHeartbeats 8000000 in
set_option maxRecDepth 100000 in
theorem spec_l2At.calls (A0_0 : Option Addr) (c0_0 : Nat) (l0_0 : List (List Int)) (a1_0 : Int) (a1_1 : Int) (a1_2 : Int) (a1_3 : Int) (a2 : Int) (r : Int) (w : World) (hr0_0 : Kd.C (Kd.slice 5 (Kd.int .u8)) w A0_0 l0_0.length l0_0) (hc0_0 : l0_0.length ≤ c0_0) (h : spec_l2At.f l0_0 a1_0 a1_1 a1_2 a1_3 a2 = some r) :
    Calls Try.prog 156 #[.agg #[.slice A0_0 l0_0.length c0_0], .agg #[.int .i64 a1_0, .int .i64 a1_1, .int .i64 a1_2, .int .i64 a1_3], .int .i64 a2] w fun e w' => e = .returned (.int .u8 r) ∧ Below w.heap.size w w' := by
  have hu26 := Try.underlying26
  have hu48 := Try.underlying48
  have HR0_0 := Aside0.mk hr0_0
  have HC0_0 := Aside0.mk hc0_0
  clear hr0_0 hc0_0
  have HB := Aside0.mk (Below.refl w.heap.size w)
  have H : (if 0 ≤ a1_0 then (if a1_0 < (l0_0.length : Int) then (if 0 ≤ (wrap64 (a1_1 + a2)) then (if (wrap64 (a1_1 + a2)) < ((rd_Lsu8 l0_0 a1_0).length : Int) then (some (rd (rd_Lsu8 l0_0 a1_0) (wrap64 (a1_1 + a2)))) else (none)) else (none)) else (none)) else (none)) = some r := h
  clear h
  by_cases c4 : 0 ≤ a1_0
  · rw [if_pos c4] at H
    have c4b0 : decide (0 ≤ a1_0) = true := decide_eq_true c4
    clear c4
    by_cases c5 : a1_0 < (l0_0.length : Int)
    · rw [if_pos c5] at H
      have c5b0 : decide (a1_0 < (l0_0.length : Int)) = true := decide_eq_true c5
      clear c5
      obtain ⟨ji6, hji6⟩ : ∃ j_ : Int, (wrap64 (a1_1 + a2)) = j_ := ⟨_, rfl⟩
      replace H : (if 0 ≤ (ji6) then (if (ji6) < ((rd_Lsu8 l0_0 a1_0).length : Int) then (some (rd (rd_Lsu8 l0_0 a1_0) (ji6))) else (none)) else (none)) = some r := by first | (rw [hji6] at H; exact H) | (simp only [hji6] at H ⊢; exact H)
      have hji6w : (IntKind.i64.wrap (a1_1 + a2)) = ji6 := (i64_w _).trans hji6
      by_cases c7 : 0 ≤ (ji6)
      · rw [if_pos c7] at H
        have c7b0 : decide (0 ≤ (ji6)) = true := decide_eq_true c7
        clear c7
        by_cases c8 : (ji6) < ((rd_Lsu8 l0_0 a1_0).length : Int)
        · rw [if_pos c8] at H
          have c8b0 : decide ((ji6) < ((rd_Lsu8 l0_0 a1_0).length : Int)) = true := decide_eq_true c8
          clear c8
          obtain rfl := Option.some.inj H
          go_enter Try.func156, Try.ntmps156
          go_wp2_with (first | ((with_reducible refine gate_dst (N := 3) rfl ?_); refine box_event ?hg (N := 3) ?hd (cs := #[.slice A0_0 l0_0.length c0_0]) (t := 26) ?hr ?_; (case hd => rfl); (case hg => rfl); (case hr => first | (go_simp; done) | (go_simp; rfl)); intro gb499 hg w9 hbox hb; have n0_ := Aside0.mk (below_step (by repeat (first | (with_reducible first | exact HB.out | apply below_alloc | apply pw_below_drewN | apply below_drew1) | exact HB.out)) hb); have n1_ := Aside0.mk (hbox); have n2_ := Aside0.mk ((by rw [hg]; exact (below_size (by repeat (first | (with_reducible first | exact HB.out | apply below_alloc | apply pw_below_drewN | apply below_drew1) | exact HB.out))) : w.heap.size ≤ gb499)); have n3_ := Aside0.mk ((by rw [hg]; exact (below_size (by repeat (first | (with_reducible first | exact HB.out | apply below_alloc | apply pw_below_drewN | apply below_drew1) | exact HB.out))) : w.heap.size ≤ gb499)); clear HB; have HB := n0_; have BK499 := n1_; have GW499 := n2_; have GE499 := n3_; clear n0_ n1_ n2_ n3_; clear hb hbox hg) | ((with_reducible refine gate_dst (N := 4) rfl ?_); refine box_event ?hg (N := 4) ?hd (cs := #[.int .i64 a1_0, .int .i64 a1_1, .int .i64 a1_2, .int .i64 a1_3]) (t := 48) ?hr ?_; (case hd => rfl); (case hg => rfl); (case hr => first | (go_simp; done) | (go_simp; rfl)); intro gb500 hg w10 hbox hb; have n0_ := Aside0.mk (blk_below (g := gb499) (o := .cells #[.slice A0_0 l0_0.length c0_0] 26 (0, 0)) (by (with_reducible repeat (first | refine blk_drewN ?_ _ | refine blk_drew ?_ | refine blk_alloc ?_ _)); exact BK499.out) hb); have n1_ := Aside0.mk (below_step (by repeat (first | (with_reducible first | exact HB.out | apply below_alloc | apply pw_below_drewN | apply below_drew1 | refine below_set ?_ GE499.out) | exact HB.out)) hb); have n2_ := Aside0.mk (hbox); have n3_ := Aside0.mk ((by rw [hg]; exact (below_size (by repeat (first | (with_reducible first | exact HB.out | apply below_alloc | apply pw_below_drewN | apply below_drew1 | refine below_set ?_ GE499.out) | exact HB.out))) : w.heap.size ≤ gb500)); have n4_ := Aside0.mk ((by rw [hg]; exact (below_size (by repeat (first | (with_reducible first | exact HB.out | apply below_alloc | apply pw_below_drewN | apply below_drew1 | refine below_set ?_ GE499.out) | exact HB.out))) : w.heap.size ≤ gb500)); have n5_ := Aside0.mk ((by rw [hg]; exact Nat.ne_of_lt (blk_lt (g := gb499) (o := .cells #[.slice A0_0 l0_0.length c0_0] 26 (0, 0)) (by (with_reducible repeat (first | refine blk_drewN ?_ _ | refine blk_drew ?_ | refine blk_alloc ?_ _)); exact BK499.out)) : gb499 ≠ gb500)); have n6_ := Aside0.mk ((by rw [hg]; exact Nat.ne_of_gt (blk_lt (g := gb499) (o := .cells #[.slice A0_0 l0_0.length c0_0] 26 (0, 0)) (by (with_reducible repeat (first | refine blk_drewN ?_ _ | refine blk_drew ?_ | refine blk_alloc ?_ _)); exact BK499.out)) : gb500 ≠ gb499)); clear BK499; clear HB; have BK499 := n0_; have HB := n1_; have BK500 := n2_; have GW500 := n3_; have GE500 := n4_; have NB499_500 := n5_; have NB500_499 := n6_; clear n0_ n1_ n2_ n3_ n4_ n5_ n6_; clear hb hbox hg; have hnb11 := NB499_500.out; have hnc11 := NB500_499.out; have hcz12_0 : w10.cell? ⟨gb499, 0, none⟩ = some (.slice A0_0 l0_0.length c0_0) := (blk_cell BK499.out 0).trans rfl; have hfz12_0 := blk_frozen BK499.out 0; have hcz13_0 : w10.cell? ⟨gb500, 0, none⟩ = some (.int .i64 a1_0) := (blk_cell BK500.out 0).trans rfl; have hcz13_1 : w10.cell? ⟨gb500, 1, none⟩ = some (.int .i64 a1_1) := (blk_cell BK500.out 1).trans rfl; have hcz13_2 : w10.cell? ⟨gb500, 2, none⟩ = some (.int .i64 a1_2) := (blk_cell BK500.out 2).trans rfl; have hcz13_3 : w10.cell? ⟨gb500, 3, none⟩ = some (.int .i64 a1_3) := (blk_cell BK500.out 3).trans rfl; have hfz13_0 := blk_frozen BK500.out 0; have hfz13_1 := blk_frozen BK500.out 1; have hfz13_2 := blk_frozen BK500.out 2; have hfz13_3 := blk_frozen BK500.out 3; have p501 : 0 ≤ (a1_0 : Int) := of_decide_eq_true (by first | (with_reducible assumption) | assumption); have q501 : a1_0 < (l0_0.length : Int) := of_decide_eq_true (by first | (with_reducible assumption) | assumption); obtain ⟨ad501, A501_0, c501_0, e501, hx501_0, hl501_0, hi501_0⟩ := at_Lsu8 HR0_0.out a1_0 p501 q501; cases e501; replace hx501_0 := (HB.out.cell (World.block_lt_of_cell? w _ hx501_0)).trans hx501_0; have HR501_0 := Aside0.mk hi501_0; have HC501_0 := Aside0.mk hl501_0; clear hi501_0 hl501_0; replace p501 := eq_true p501; replace q501 := eq_true q501; have p502 : 0 ≤ ((ji6) : Int) := of_decide_eq_true (by first | (with_reducible assumption) | assumption); have q502 : (ji6) < ((rd_Lsu8 l0_0 a1_0).length : Int) := of_decide_eq_true (by first | (with_reducible assumption) | assumption); obtain ⟨ad502, e502, hx502_0⟩ := Kd.at_int HR501_0.out (ji6) p502 q502; cases e502; replace hx502_0 := (HB.out.cell (World.block_lt_of_cell? w _ hx502_0)).trans hx502_0; replace p502 := eq_true p502; replace q502 := eq_true q502))
          repeat (go_quiet (first | ((with_reducible refine gate_dst (N := 3) rfl ?_); refine box_event ?hg (N := 3) ?hd (cs := #[.slice A0_0 l0_0.length c0_0]) (t := 26) ?hr ?_; (case hd => rfl); (case hg => rfl); (case hr => first | (go_simp; done) | (go_simp; rfl)); intro gb499 hg w9 hbox hb; have n0_ := Aside0.mk (below_step (by repeat (first | (with_reducible first | exact HB.out | apply below_alloc | apply pw_below_drewN | apply below_drew1) | exact HB.out)) hb); have n1_ := Aside0.mk (hbox); have n2_ := Aside0.mk ((by rw [hg]; exact (below_size (by repeat (first | (with_reducible first | exact HB.out | apply below_alloc | apply pw_below_drewN | apply below_drew1) | exact HB.out))) : w.heap.size ≤ gb499)); have n3_ := Aside0.mk ((by rw [hg]; exact (below_size (by repeat (first | (with_reducible first | exact HB.out | apply below_alloc | apply pw_below_drewN | apply below_drew1) | exact HB.out))) : w.heap.size ≤ gb499)); clear HB; have HB := n0_; have BK499 := n1_; have GW499 := n2_; have GE499 := n3_; clear n0_ n1_ n2_ n3_; clear hb hbox hg) | ((with_reducible refine gate_dst (N := 4) rfl ?_); refine box_event ?hg (N := 4) ?hd (cs := #[.int .i64 a1_0, .int .i64 a1_1, .int .i64 a1_2, .int .i64 a1_3]) (t := 48) ?hr ?_; (case hd => rfl); (case hg => rfl); (case hr => first | (go_simp; done) | (go_simp; rfl)); intro gb500 hg w10 hbox hb; have n0_ := Aside0.mk (blk_below (g := gb499) (o := .cells #[.slice A0_0 l0_0.length c0_0] 26 (0, 0)) (by (with_reducible repeat (first | refine blk_drewN ?_ _ | refine blk_drew ?_ | refine blk_alloc ?_ _)); exact BK499.out) hb); have n1_ := Aside0.mk (below_step (by repeat (first | (with_reducible first | exact HB.out | apply below_alloc | apply pw_below_drewN | apply below_drew1 | refine below_set ?_ GE499.out) | exact HB.out)) hb); have n2_ := Aside0.mk (hbox); have n3_ := Aside0.mk ((by rw [hg]; exact (below_size (by repeat (first | (with_reducible first | exact HB.out | apply below_alloc | apply pw_below_drewN | apply below_drew1 | refine below_set ?_ GE499.out) | exact HB.out))) : w.heap.size ≤ gb500)); have n4_ := Aside0.mk ((by rw [hg]; exact (below_size (by repeat (first | (with_reducible first | exact HB.out | apply below_alloc | apply pw_below_drewN | apply below_drew1 | refine below_set ?_ GE499.out) | exact HB.out))) : w.heap.size ≤ gb500)); have n5_ := Aside0.mk ((by rw [hg]; exact Nat.ne_of_lt (blk_lt (g := gb499) (o := .cells #[.slice A0_0 l0_0.length c0_0] 26 (0, 0)) (by (with_reducible repeat (first | refine blk_drewN ?_ _ | refine blk_drew ?_ | refine blk_alloc ?_ _)); exact BK499.out)) : gb499 ≠ gb500)); have n6_ := Aside0.mk ((by rw [hg]; exact Nat.ne_of_gt (blk_lt (g := gb499) (o := .cells #[.slice A0_0 l0_0.length c0_0] 26 (0, 0)) (by (with_reducible repeat (first | refine blk_drewN ?_ _ | refine blk_drew ?_ | refine blk_alloc ?_ _)); exact BK499.out)) : gb500 ≠ gb499)); clear BK499; clear HB; have BK499 := n0_; have HB := n1_; have BK500 := n2_; have GW500 := n3_; have GE500 := n4_; have NB499_500 := n5_; have NB500_499 := n6_; clear n0_ n1_ n2_ n3_ n4_ n5_ n6_; clear hb hbox hg; have hnb11 := NB499_500.out; have hnc11 := NB500_499.out; have hcz12_0 : w10.cell? ⟨gb499, 0, none⟩ = some (.slice A0_0 l0_0.length c0_0) := (blk_cell BK499.out 0).trans rfl; have hfz12_0 := blk_frozen BK499.out 0; have hcz13_0 : w10.cell? ⟨gb500, 0, none⟩ = some (.int .i64 a1_0) := (blk_cell BK500.out 0).trans rfl; have hcz13_1 : w10.cell? ⟨gb500, 1, none⟩ = some (.int .i64 a1_1) := (blk_cell BK500.out 1).trans rfl; have hcz13_2 : w10.cell? ⟨gb500, 2, none⟩ = some (.int .i64 a1_2) := (blk_cell BK500.out 2).trans rfl; have hcz13_3 : w10.cell? ⟨gb500, 3, none⟩ = some (.int .i64 a1_3) := (blk_cell BK500.out 3).trans rfl; have hfz13_0 := blk_frozen BK500.out 0; have hfz13_1 := blk_frozen BK500.out 1; have hfz13_2 := blk_frozen BK500.out 2; have hfz13_3 := blk_frozen BK500.out 3; have p501 : 0 ≤ (a1_0 : Int) := of_decide_eq_true (by first | (with_reducible assumption) | assumption); have q501 : a1_0 < (l0_0.length : Int) := of_decide_eq_true (by first | (with_reducible assumption) | assumption); obtain ⟨ad501, A501_0, c501_0, e501, hx501_0, hl501_0, hi501_0⟩ := at_Lsu8 HR0_0.out a1_0 p501 q501; cases e501; replace hx501_0 := (HB.out.cell (World.block_lt_of_cell? w _ hx501_0)).trans hx501_0; have HR501_0 := Aside0.mk hi501_0; have HC501_0 := Aside0.mk hl501_0; clear hi501_0 hl501_0; replace p501 := eq_true p501; replace q501 := eq_true q501; have p502 : 0 ≤ ((ji6) : Int) := of_decide_eq_true (by first | (with_reducible assumption) | assumption); have q502 : (ji6) < ((rd_Lsu8 l0_0 a1_0).length : Int) := of_decide_eq_true (by first | (with_reducible assumption) | assumption); obtain ⟨ad502, e502, hx502_0⟩ := Kd.at_int HR501_0.out (ji6) p502 q502; cases e502; replace hx502_0 := (HB.out.cell (World.block_lt_of_cell? w _ hx502_0)).trans hx502_0; replace p502 := eq_true p502; replace q502 := eq_true q502)); try go_wp2_with (first | ((with_reducible refine gate_dst (N := 3) rfl ?_); refine box_event ?hg (N := 3) ?hd (cs := #[.slice A0_0 l0_0.length c0_0]) (t := 26) ?hr ?_; (case hd => rfl); (case hg => rfl); (case hr => first | (go_simp; done) | (go_simp; rfl)); intro gb499 hg w9 hbox hb; have n0_ := Aside0.mk (below_step (by repeat (first | (with_reducible first | exact HB.out | apply below_alloc | apply pw_below_drewN | apply below_drew1) | exact HB.out)) hb); have n1_ := Aside0.mk (hbox); have n2_ := Aside0.mk ((by rw [hg]; exact (below_size (by repeat (first | (with_reducible first | exact HB.out | apply below_alloc | apply pw_below_drewN | apply below_drew1) | exact HB.out))) : w.heap.size ≤ gb499)); have n3_ := Aside0.mk ((by rw [hg]; exact (below_size (by repeat (first | (with_reducible first | exact HB.out | apply below_alloc | apply pw_below_drewN | apply below_drew1) | exact HB.out))) : w.heap.size ≤ gb499)); clear HB; have HB := n0_; have BK499 := n1_; have GW499 := n2_; have GE499 := n3_; clear n0_ n1_ n2_ n3_; clear hb hbox hg) | ((with_reducible refine gate_dst (N := 4) rfl ?_); refine box_event ?hg (N := 4) ?hd (cs := #[.int .i64 a1_0, .int .i64 a1_1, .int .i64 a1_2, .int .i64 a1_3]) (t := 48) ?hr ?_; (case hd => rfl); (case hg => rfl); (case hr => first | (go_simp; done) | (go_simp; rfl)); intro gb500 hg w10 hbox hb; have n0_ := Aside0.mk (blk_below (g := gb499) (o := .cells #[.slice A0_0 l0_0.length c0_0] 26 (0, 0)) (by (with_reducible repeat (first | refine blk_drewN ?_ _ | refine blk_drew ?_ | refine blk_alloc ?_ _)); exact BK499.out) hb); have n1_ := Aside0.mk (below_step (by repeat (first | (with_reducible first | exact HB.out | apply below_alloc | apply pw_below_drewN | apply below_drew1 | refine below_set ?_ GE499.out) | exact HB.out)) hb); have n2_ := Aside0.mk (hbox); have n3_ := Aside0.mk ((by rw [hg]; exact (below_size (by repeat (first | (with_reducible first | exact HB.out | apply below_alloc | apply pw_below_drewN | apply below_drew1 | refine below_set ?_ GE499.out) | exact HB.out))) : w.heap.size ≤ gb500)); have n4_ := Aside0.mk ((by rw [hg]; exact (below_size (by repeat (first | (with_reducible first | exact HB.out | apply below_alloc | apply pw_below_drewN | apply below_drew1 | refine below_set ?_ GE499.out) | exact HB.out))) : w.heap.size ≤ gb500)); have n5_ := Aside0.mk ((by rw [hg]; exact Nat.ne_of_lt (blk_lt (g := gb499) (o := .cells #[.slice A0_0 l0_0.length c0_0] 26 (0, 0)) (by (with_reducible repeat (first | refine blk_drewN ?_ _ | refine blk_drew ?_ | refine blk_alloc ?_ _)); exact BK499.out)) : gb499 ≠ gb500)); have n6_ := Aside0.mk ((by rw [hg]; exact Nat.ne_of_gt (blk_lt (g := gb499) (o := .cells #[.slice A0_0 l0_0.length c0_0] 26 (0, 0)) (by (with_reducible repeat (first | refine blk_drewN ?_ _ | refine blk_drew ?_ | refine blk_alloc ?_ _)); exact BK499.out)) : gb500 ≠ gb499)); clear BK499; clear HB; have BK499 := n0_; have HB := n1_; have BK500 := n2_; have GW500 := n3_; have GE500 := n4_; have NB499_500 := n5_; have NB500_499 := n6_; clear n0_ n1_ n2_ n3_ n4_ n5_ n6_; clear hb hbox hg; have hnb11 := NB499_500.out; have hnc11 := NB500_499.out; have hcz12_0 : w10.cell? ⟨gb499, 0, none⟩ = some (.slice A0_0 l0_0.length c0_0) := (blk_cell BK499.out 0).trans rfl; have hfz12_0 := blk_frozen BK499.out 0; have hcz13_0 : w10.cell? ⟨gb500, 0, none⟩ = some (.int .i64 a1_0) := (blk_cell BK500.out 0).trans rfl; have hcz13_1 : w10.cell? ⟨gb500, 1, none⟩ = some (.int .i64 a1_1) := (blk_cell BK500.out 1).trans rfl; have hcz13_2 : w10.cell? ⟨gb500, 2, none⟩ = some (.int .i64 a1_2) := (blk_cell BK500.out 2).trans rfl; have hcz13_3 : w10.cell? ⟨gb500, 3, none⟩ = some (.int .i64 a1_3) := (blk_cell BK500.out 3).trans rfl; have hfz13_0 := blk_frozen BK500.out 0; have hfz13_1 := blk_frozen BK500.out 1; have hfz13_2 := blk_frozen BK500.out 2; have hfz13_3 := blk_frozen BK500.out 3; have p501 : 0 ≤ (a1_0 : Int) := of_decide_eq_true (by first | (with_reducible assumption) | assumption); have q501 : a1_0 < (l0_0.length : Int) := of_decide_eq_true (by first | (with_reducible assumption) | assumption); obtain ⟨ad501, A501_0, c501_0, e501, hx501_0, hl501_0, hi501_0⟩ := at_Lsu8 HR0_0.out a1_0 p501 q501; cases e501; replace hx501_0 := (HB.out.cell (World.block_lt_of_cell? w _ hx501_0)).trans hx501_0; have HR501_0 := Aside0.mk hi501_0; have HC501_0 := Aside0.mk hl501_0; clear hi501_0 hl501_0; replace p501 := eq_true p501; replace q501 := eq_true q501; have p502 : 0 ≤ ((ji6) : Int) := of_decide_eq_true (by first | (with_reducible assumption) | assumption); have q502 : (ji6) < ((rd_Lsu8 l0_0 a1_0).length : Int) := of_decide_eq_true (by first | (with_reducible assumption) | assumption); obtain ⟨ad502, e502, hx502_0⟩ := Kd.at_int HR501_0.out (ji6) p502 q502; cases e502; replace hx502_0 := (HB.out.cell (World.block_lt_of_cell? w _ hx502_0)).trans hx502_0; replace p502 := eq_true p502; replace q502 := eq_true q502)))
          go_ret
          exact ⟨by first | rfl | (simp [errW_none, errW_some] <;> rfl) | (simp only [← hji6]; first | rfl | (simp [errW_none, errW_some] <;> rfl)) | (simp [*, errW_none, errW_some] <;> rfl), by repeat (first | (with_reducible first | exact HB.out | apply below_alloc | apply pw_below_drewN | apply below_drew1 | refine below_set ?_ GE499.out | refine below_set ?_ GE500.out) | exact HB.out)⟩
        · rw [if_neg c8] at H
          exact absurd H (by simp)
      · rw [if_neg c7] at H
        exact absurd H (by simp)
    · rw [if_neg c5] at H
      exact absurd H (by simp)
  · rw [if_neg c4] at H
    exact absurd H (by simp)

end Go.Proofs.Ytoomjghabiojkaa.P


namespace Go.Proofs.Ytoomjghabiojkaa.P
open Go.RowKit Go.Proofs.YtoomjghabiojkaaW.PrintWords Go.Proofs.YtoomjghabiojkaaW.PrintLast Go.Proofs.YtoomjghabiojkaaW.PrintMore
attribute [local go_sem] max2_int min2_int max_two min_two max_three min_three max_four min_four   -- for this text's walks alone
set_option linter.unusedVariables false
set_option linter.unusedSimpArgs false

def spec_l2Bytes.l0 : Nat → List Int → Int → List (List Int) → Int → Int → Int → Int → Option (List Int)
  | 0, _, _, _, _, _, _, _ => none
  | k + 1, x5, x6, x504000, x505000, x505001, x505002, x505003 => if x6 < x505002 then ((spec_l2At.f x504000 x505000 x505001 x505002 x505003 x6).bind fun t508 => (if x5.length < 140737488355328 then (spec_l2Bytes.l0 k (x5 ++ [t508]) (wrap64 (x6 + 1)) x504000 x505000 x505001 x505002 x505003) else (none))) else (some x5)
def spec_l2Bytes.f (k : Nat) (l0_0 : List (List Int)) (a1_0 : Int) (a1_1 : Int) (a1_2 : Int) (a1_3 : Int) : Option (List Int) := spec_l2Bytes.l0 k (([] : List Int)) 0 l0_0 a1_0 a1_1 a1_2 a1_3
set_option maxHeartbeats 8000000 in
set_option maxRecDepth 100000 in
theorem spec_l2Bytes.calls (k : Nat) (A0_0 : Option Addr) (c0_0 : Nat) (l0_0 : List (List Int)) (a1_0 : Int) (a1_1 : Int) (a1_2 : Int) (a1_3 : Int) (r : List Int) (w : World) (hr0_0 : Kd.C (Kd.slice 5 (Kd.int .u8)) w A0_0 l0_0.length l0_0) (hc0_0 : l0_0.length ≤ c0_0) (h : spec_l2Bytes.f k l0_0 a1_0 a1_1 a1_2 a1_3 = some r) :
    Calls Try.prog 142 #[.agg #[.slice A0_0 l0_0.length c0_0], .agg #[.int .i64 a1_0, .int .i64 a1_1, .int .i64 a1_2, .int .i64 a1_3]] w fun e w' => ∃ v0_ : Value, e = .returned (v0_) ∧ Kd.R (Kd.int .u8) 5 w' w.heap.size (fun _ => True) v0_ r ∧ Below w.heap.size w w' := by
  have hu26 := Try.underlying26
  have hu48 := Try.underlying48
  have HR0_0 := Aside0.mk hr0_0
  have HC0_0 := Aside0.mk hc0_0
  clear hr0_0 hc0_0
  have HB := Aside0.mk (Below.refl w.heap.size w)
  have H : (spec_l2Bytes.l0 k (([] : List Int)) 0 l0_0 a1_0 a1_1 a1_2 a1_3) = some r := h
  clear h
  obtain ⟨y505, hy505⟩ : ∃ y_ : List Int, y_ = (([] : List Int)) := ⟨_, rfl⟩
  replace H : (spec_l2Bytes.l0 k y505 0 l0_0 a1_0 a1_1 a1_2 a1_3) = some r := by first | (rw [hy505]; with_reducible exact H) | (have H2_ := (Option.bind_some _ _).symm.trans H; rw [hy505]; with_reducible exact H2_) | (have H2_ := (Option.bind_some _ _).symm.trans H; with_reducible exact H2_) | with_reducible exact H | (rw [hy505]; exact H) | exact H
  have Ny505 := Aside0.mk hy505
  clear hy505
  have H' := Aside0.mk H
  clear H
  go_enter Try.func142, Try.ntmps142
  go_wp2_with (first | ((with_reducible refine gate_dst (N := 2) rfl ?_); refine box_event ?hg (N := 2) ?hd (cs := #[.slice A0_0 l0_0.length c0_0]) (t := 26) ?hr ?_; (case hd => rfl); (case hg => rfl); (case hr => first | (go_simp; done) | (go_simp; rfl)); intro gb503 hg w3 hbox hb; have n0_ := Aside0.mk (below_step (by repeat (first | (with_reducible first | exact HB.out | apply below_alloc | apply pw_below_drewN | apply below_drew1) | exact HB.out)) hb); have n1_ := Aside0.mk (hbox); have n2_ := Aside0.mk ((by rw [hg]; exact (below_size (by repeat (first | (with_reducible first | exact HB.out | apply below_alloc | apply pw_below_drewN | apply below_drew1) | exact HB.out))) : w.heap.size ≤ gb503)); have n3_ := Aside0.mk ((by rw [hg]; exact (below_size (by repeat (first | (with_reducible first | exact HB.out | apply below_alloc | apply pw_below_drewN | apply below_drew1) | exact HB.out))) : w.heap.size ≤ gb503)); clear HB; have HB := n0_; have BK503 := n1_; have GW503 := n2_; have GE503 := n3_; clear n0_ n1_ n2_ n3_; clear hb hbox hg) | ((with_reducible refine gate_dst (N := 3) rfl ?_); refine box_event ?hg (N := 3) ?hd (cs := #[.int .i64 a1_0, .int .i64 a1_1, .int .i64 a1_2, .int .i64 a1_3]) (t := 48) ?hr ?_; (case hd => rfl); (case hg => rfl); (case hr => first | (go_simp; done) | (go_simp; rfl)); intro gb504 hg w4 hbox hb; have n0_ := Aside0.mk (blk_below (g := gb503) (o := .cells #[.slice A0_0 l0_0.length c0_0] 26 (0, 0)) (by (with_reducible repeat (first | refine blk_drewN ?_ _ | refine blk_drew ?_ | refine blk_alloc ?_ _)); exact BK503.out) hb); have n1_ := Aside0.mk (below_step (by repeat (first | (with_reducible first | exact HB.out | apply below_alloc | apply pw_below_drewN | apply below_drew1 | refine below_set ?_ GE503.out) | exact HB.out)) hb); have n2_ := Aside0.mk (hbox); have n3_ := Aside0.mk ((by rw [hg]; exact (below_size (by repeat (first | (with_reducible first | exact HB.out | apply below_alloc | apply pw_below_drewN | apply below_drew1 | refine below_set ?_ GE503.out) | exact HB.out))) : w.heap.size ≤ gb504)); have n4_ := Aside0.mk ((by rw [hg]; exact (below_size (by repeat (first | (with_reducible first | exact HB.out | apply below_alloc | apply pw_below_drewN | apply below_drew1 | refine below_set ?_ GE503.out) | exact HB.out))) : w.heap.size ≤ gb504)); have n5_ := Aside0.mk ((by rw [hg]; exact Nat.ne_of_lt (blk_lt (g := gb503) (o := .cells #[.slice A0_0 l0_0.length c0_0] 26 (0, 0)) (by (with_reducible repeat (first | refine blk_drewN ?_ _ | refine blk_drew ?_ | refine blk_alloc ?_ _)); exact BK503.out)) : gb503 ≠ gb504)); have n6_ := Aside0.mk ((by rw [hg]; exact Nat.ne_of_gt (blk_lt (g := gb503) (o := .cells #[.slice A0_0 l0_0.length c0_0] 26 (0, 0)) (by (with_reducible repeat (first | refine blk_drewN ?_ _ | refine blk_drew ?_ | refine blk_alloc ?_ _)); exact BK503.out)) : gb504 ≠ gb503)); clear BK503; clear HB; have BK503 := n0_; have HB := n1_; have BK504 := n2_; have GW504 := n3_; have GE504 := n4_; have NB503_504 := n5_; have NB504_503 := n6_; clear n0_ n1_ n2_ n3_ n4_ n5_ n6_; clear hb hbox hg) | ((with_reducible refine gate_dst (N := 7) rfl ?_); refine Kd.R_lit (Kd.int .u8) _ 5 ?hg (N := 7) ?hd (xs := ([] : List Int)) (inner := []) (ok := fun _ => True) (okp := fun _ => True) ?hr ?hp (fun _ hk => hk) trivial (Below.refl _ _) (Nat.le_refl _) (by simp) ?_; (case hd => rfl); (case hg => rfl); (case hr => first | (go_simp; done) | (go_simp; rfl)); (case hp => exact (Reps.none _ _)); intro v506 w5 ho6 hb hg_ hnew_; clear hg_ hnew_; (first | rw [← Ny505.out] at ho6 | (simp only [Int.reduceToNat] at ho6; rw [← Ny505.out] at ho6)); have n0_ := Aside0.mk (Kd.R_lower ho6 (below_size (by repeat (first | (with_reducible first | exact HB.out | apply below_alloc | apply pw_below_drewN | apply below_drew1 | refine below_set ?_ GE503.out | refine below_set ?_ GE504.out) | exact HB.out)))); have n1_ := Aside0.mk (blk_below (g := gb503) (o := .cells #[.slice A0_0 l0_0.length c0_0] 26 (0, 0)) (by (with_reducible repeat (first | refine blk_drewN ?_ _ | refine blk_drew ?_ | refine blk_alloc ?_ _)); exact BK503.out) hb); have n2_ := Aside0.mk (blk_below (g := gb504) (o := .cells #[.int .i64 a1_0, .int .i64 a1_1, .int .i64 a1_2, .int .i64 a1_3] 48 (0, 0)) (by (with_reducible repeat (first | refine blk_drewN ?_ _ | refine blk_drew ?_ | refine blk_alloc ?_ _)); exact BK504.out) hb); have n3_ := Aside0.mk (below_step (by repeat (first | (with_reducible first | exact HB.out | apply below_alloc | apply pw_below_drewN | apply below_drew1 | refine below_set ?_ GE503.out | refine below_set ?_ GE504.out) | exact HB.out)) hb); clear BK503; clear BK504; clear HB; have HO507 := n0_; have BK503 := n1_; have BK504 := n2_; have HB := n3_; clear n0_ n1_ n2_ n3_; clear hb ho6))
  go_loopg [5, 6] k (fun kq v5 v6 w' => ∃ (x5_1 : List Int) (x6_1 : Int), v6 = .int .i64 x6_1 ∧ Aside0 (spec_l2Bytes.l0 kq x5_1 x6_1 l0_0 a1_0 a1_1 a1_2 a1_3 = some r) ∧ Aside0 (kq ≤ k) ∧ Aside0 (Kd.R (Kd.int .u8) 5 w' w.heap.size (fun _ => True) v5 x5_1) ∧ Aside0 (w'.heap[gb503]? = some (.cells #[(.slice A0_0 l0_0.length c0_0)] 26 (0, 0))) ∧ Aside0 (w'.heap[gb504]? = some (.cells #[.int .i64 a1_0, .int .i64 a1_1, .int .i64 a1_2, .int .i64 a1_3] 48 (0, 0))) ∧ Aside0 (Below w.heap.size w w'))
  case atStart => exact ⟨(y505), (0), (by first | rfl | (simp; done) | (simp [*]; done)), H', ⟨Nat.le_refl _⟩, ⟨by (with_reducible repeat (first | apply Kd.R_alloc | apply Kd.R_drewN | apply Kd.R_drew)); exact HO507.out⟩, ⟨by (with_reducible repeat (first | refine blk_drewN ?_ _ | refine blk_drew ?_ | refine blk_alloc ?_ _)); exact BK503.out⟩, ⟨by (with_reducible repeat (first | refine blk_drewN ?_ _ | refine blk_drew ?_ | refine blk_alloc ?_ _)); exact BK504.out⟩, ⟨by repeat (first | (with_reducible first | exact HB.out | apply below_alloc | apply pw_below_drewN | apply below_drew1 | refine below_set ?_ GE503.out | refine below_set ?_ GE504.out) | exact HB.out)⟩⟩
  case round =>
    clear H'
    try clear c1
    try clear p2
    obtain ⟨x5_1, x6_1, rfl, HA, HK1, HO_5, BK503, BK504, HB⟩ := hrel
    cases gk with
    | zero => exact absurd HA.out (by simp [spec_l2Bytes.l0])
    | succ k1 =>
      have H := HA.out
      clear HA
      simp only [spec_l2Bytes.l0] at H
      by_cases c7 : x6_1 < a1_2
      · rw [if_pos c7] at H
        have c7b0 : decide (x6_1 < a1_2) = true := decide_eq_true c7
        clear c7
        replace H := Option.bind_eq_some_iff.mp H
        obtain ⟨t508, A80, H⟩ := H
        replace H : (if x5_1.length < 140737488355328 then (spec_l2Bytes.l0 k1 (x5_1 ++ [t508]) (wrap64 (x6_1 + 1)) l0_0 a1_0 a1_1 a1_2 a1_3) else (none)) = some r := H
        have A8 := Aside0.mk A80
        clear A80
        by_cases c9 : x5_1.length < 140737488355328
        · rw [if_pos c9] at H
          have LMc9 := Aside0.mk c9
          clear c9
          obtain ⟨y509, hy509⟩ : ∃ y_ : List Int, y_ = (x5_1 ++ [t508]) := ⟨_, rfl⟩
          replace H : (spec_l2Bytes.l0 k1 y509 (wrap64 (x6_1 + 1)) l0_0 a1_0 a1_1 a1_2 a1_3) = some r := by first | (rw [hy509]; with_reducible exact H) | (have H2_ := (Option.bind_some _ _).symm.trans H; rw [hy509]; with_reducible exact H2_) | (have H2_ := (Option.bind_some _ _).symm.trans H; with_reducible exact H2_) | with_reducible exact H | (rw [hy509]; exact H) | exact H
          have Ny509 := Aside0.mk hy509
          clear hy509
          have H' := Aside0.mk H
          clear H
          have hnb10 := NB504_503.out
          have hnc10 := NB503_504.out
          have hcz11_0 : wr.cell? ⟨gb504, 0, none⟩ = some (.int .i64 a1_0) := (blk_cell BK504.out 0).trans rfl
          have hcz11_1 : wr.cell? ⟨gb504, 1, none⟩ = some (.int .i64 a1_1) := (blk_cell BK504.out 1).trans rfl
          have hcz11_2 : wr.cell? ⟨gb504, 2, none⟩ = some (.int .i64 a1_2) := (blk_cell BK504.out 2).trans rfl
          have hcz11_3 : wr.cell? ⟨gb504, 3, none⟩ = some (.int .i64 a1_3) := (blk_cell BK504.out 3).trans rfl
          have hfz11_0 := blk_frozen BK504.out 0
          have hfz11_1 := blk_frozen BK504.out 1
          have hfz11_2 := blk_frozen BK504.out 2
          have hfz11_3 := blk_frozen BK504.out 3
          have hcz12_0 : wr.cell? ⟨gb503, 0, none⟩ = some (.slice A0_0 l0_0.length c0_0) := (blk_cell BK503.out 0).trans rfl
          have hfz12_0 := blk_frozen BK503.out 0
          go_wp2_with (first | ((with_reducible refine gate_callee (f := 156) rfl ?_); refine goesL_ (some 18) rfl rfl Try.func156 (by kernel_rfl) rfl #[.agg #[.slice A0_0 l0_0.length c0_0], .agg #[.int .i64 a1_0, .int .i64 a1_1, .int .i64 a1_2, .int .i64 a1_3], .int .i64 x6_1] rfl (by (try simp only [List.map_toArray, List.map_cons, List.map_nil]); first | done | rfl | (simp only [List.length_drop, List.length_take]; rfl)) ?_; (with_reducible refine (spec_l2At.calls _ _ l0_0 a1_0 a1_1 a1_2 a1_3 x6_1 t508 _ ?side1 ?side2 A8.out).mono ?_); (case side1 => repeat (first | exact (Kd.C_below HR0_0.out HB.out) | (with_reducible refine Kd.C_alloc ?_ _) | (with_reducible refine Kd.C_drewN ?_ _) | (with_reducible refine Kd.C_drew ?_))); (case side2 => exact HC0_0.out); rintro e w13 ⟨rfl, hb⟩; refine ⟨_, rfl, ?_⟩; have n0_ := Aside0.mk (Kd.R_below (by (with_reducible repeat (first | apply Kd.R_alloc | apply Kd.R_drewN | apply Kd.R_drew)); exact HO_5.out) hb); have n1_ := Aside0.mk (blk_below (g := gb503) (o := .cells #[.slice A0_0 l0_0.length c0_0] 26 (0, 0)) (by (with_reducible repeat (first | refine blk_drewN ?_ _ | refine blk_drew ?_ | refine blk_alloc ?_ _)); exact BK503.out) hb); have n2_ := Aside0.mk (blk_below (g := gb504) (o := .cells #[.int .i64 a1_0, .int .i64 a1_1, .int .i64 a1_2, .int .i64 a1_3] 48 (0, 0)) (by (with_reducible repeat (first | refine blk_drewN ?_ _ | refine blk_drew ?_ | refine blk_alloc ?_ _)); exact BK504.out) hb); have n3_ := Aside0.mk (below_step (by repeat (first | (with_reducible first | exact HB.out | apply below_alloc | apply pw_below_drewN | apply below_drew1 | refine below_set ?_ GE503.out | refine below_set ?_ GE504.out) | exact HB.out)) hb); clear HO_5; clear BK503; clear BK504; clear HB; have HO_5 := n0_; have BK503 := n1_; have BK504 := n2_; have HB := n3_; clear n0_ n1_ n2_ n3_; (try clear hb); (try clear hb2); (try clear hk); (try clear hi)) | ((with_reducible refine gate_builtin (b := .append) (xs := #[.tmp 14, .tmp 19]) rfl ?_); at_builtin; refine Kd.R_append (Kd.int .u8) (w0 := w) w.heap.size rfl (.tmp 14) (.tmp 19) 119 5 (.int .u8 0) 1 rfl Try.underlying119 info5 rfl (by decide) (by omega) u5 x5_1 t508 [.int .u8 t508] (fun _ => True) (fun _ => False) rfl rfl ?aP (fun _ hk => hk.elim) ?aF ?aO ?aB ?aS ?aL ?_; (case aP => exact rfl); (case aB => exact (by repeat (first | (with_reducible first | exact HB.out | apply below_alloc | apply pw_below_drewN | apply below_drew1 | refine below_set ?_ GE503.out | refine below_set ?_ GE504.out) | exact HB.out))); (case aF => exact (fun _ _ => trivial)); (case aO => exact (by (with_reducible repeat (first | apply Kd.R_alloc | apply Kd.R_drewN | apply Kd.R_drew)); exact HO_5.out)); (case aS => exact (below_size (by repeat (first | (with_reducible first | exact HB.out | apply below_alloc | apply pw_below_drewN | apply below_drew1 | refine below_set ?_ GE503.out | refine below_set ?_ GE504.out) | exact HB.out)))); (case aL => have := LMc9.out; omega); intro v510 w14 ho hb hg hat; rw [← Ny509.out] at ho; have n0_ := Aside0.mk (blk_grown (g := gb503) (o := .cells #[.slice A0_0 l0_0.length c0_0] 26 (0, 0)) (by (with_reducible repeat (first | refine blk_drewN ?_ _ | refine blk_drew ?_ | refine blk_alloc ?_ _)); exact BK503.out) hg (Kd.R_ne HO_5.out BK503.out (by decide))); have n1_ := Aside0.mk (blk_grown (g := gb504) (o := .cells #[.int .i64 a1_0, .int .i64 a1_1, .int .i64 a1_2, .int .i64 a1_3] 48 (0, 0)) (by (with_reducible repeat (first | refine blk_drewN ?_ _ | refine blk_drew ?_ | refine blk_alloc ?_ _)); exact BK504.out) hg (Kd.R_ne HO_5.out BK504.out (by decide))); have n2_ := Aside0.mk (hb); have n3_ := Aside0.mk (ho); clear BK503; clear BK504; clear HB; clear HO_5; have BK503 := n0_; have BK504 := n1_; have HB := n2_; have HO511 := n3_; clear n0_ n1_ n2_ n3_; clear ho hb hg hat))
          go_roundg k1
          case measure => have := HK1.out; omega
          case rel => exact ⟨(y509), (wrap64 (x6_1 + 1)), (by first | rfl | (simp; done) | (simp [*]; done)), H', ⟨by have := HK1.out; omega⟩, ⟨by (with_reducible repeat (first | apply Kd.R_alloc | apply Kd.R_drewN | apply Kd.R_drew)); exact HO511.out⟩, ⟨by (with_reducible repeat (first | refine blk_drewN ?_ _ | refine blk_drew ?_ | refine blk_alloc ?_ _)); exact BK503.out⟩, ⟨by (with_reducible repeat (first | refine blk_drewN ?_ _ | refine blk_drew ?_ | refine blk_alloc ?_ _)); exact BK504.out⟩, ⟨by repeat (first | (with_reducible first | exact HB.out | apply below_alloc | apply pw_below_drewN | apply below_drew1 | refine below_set ?_ GE503.out | refine below_set ?_ GE504.out) | exact HB.out)⟩⟩
        · rw [if_neg c9] at H
          exact absurd H (by simp)
      · rw [if_neg c7] at H
        have c7b0 : decide (x6_1 < a1_2) = false := decide_eq_false c7
        clear c7
        obtain rfl := Option.some.inj H
        have hnb15 := NB504_503.out
        have hnc15 := NB503_504.out
        have hcz16_0 : wr.cell? ⟨gb504, 0, none⟩ = some (.int .i64 a1_0) := (blk_cell BK504.out 0).trans rfl
        have hcz16_1 : wr.cell? ⟨gb504, 1, none⟩ = some (.int .i64 a1_1) := (blk_cell BK504.out 1).trans rfl
        have hcz16_2 : wr.cell? ⟨gb504, 2, none⟩ = some (.int .i64 a1_2) := (blk_cell BK504.out 2).trans rfl
        have hcz16_3 : wr.cell? ⟨gb504, 3, none⟩ = some (.int .i64 a1_3) := (blk_cell BK504.out 3).trans rfl
        have hfz16_0 := blk_frozen BK504.out 0
        have hfz16_1 := blk_frozen BK504.out 1
        have hfz16_2 := blk_frozen BK504.out 2
        have hfz16_3 := blk_frozen BK504.out 3
        go_wp2
        go_ret
        exact ⟨_, by first | rfl | (simp [errW_none, errW_some] <;> rfl) | (simp [*, errW_none, errW_some] <;> rfl), by (with_reducible repeat (first | apply Kd.R_alloc | apply Kd.R_drewN | apply Kd.R_drew)); exact HO_5.out, by repeat (first | (with_reducible first | exact HB.out | apply below_alloc | apply pw_below_drewN | apply below_drew1 | refine below_set ?_ GE503.out | refine below_set ?_ GE504.out) | exact HB.out)⟩

end Go.Proofs.Ytoomjghabiojkaa.P


/- What the reference reads of a window and writes into it. -/
namespace Go.Proofs.Ytoomjghabiojkaa.P
open Go.RowKit Go.Proofs.YtoomjghabiojkaaW.PrintWords
set_option linter.unusedVariables false
set_option linter.unusedSimpArgs false
def spl (row : List Int) (off : Nat) (vs : List Int) : List Int := row.take off ++ (vs ++ row.drop (off + vs.length))
theorem spl_length (row : List Int) (off : Nat) (vs : List Int) (h : off + vs.length ≤ row.length) : (spl row off vs).length = row.length := by
  simp [spl]
  omega
theorem spl_nil (row : List Int) (off : Nat) : spl row off [] = row := by simp [spl]
def seeB (m : List (List Int)) (a s n : Int) : List Int := ((rowB m a).drop s.toNat).take n.toNat
theorem seeB_length {m : List (List Int)} {a s n c : Int} (hw : WinOk m a s n c) : ((seeB m a s n).length : Int) = n := by
  have := hw.n0; have := hw.n1; have := hw.s0; have := hw.s1
  simp only [seeB, List.length_take, List.length_drop]
  omega
theorem l2At_f {m : List (List Int)} {a s n c : Int} (hw : WinOk m a s n c) (i : Nat) (hi : (i : Int) < n) : spec_l2At.f m a s n c (i : Int) = some ((seeB m a s n).getD i 0) := by
  have := hw.n0; have := hw.n1; have := hw.s0; have := hw.s1; have := hw.r1; have := hw.c1
  have hw1 : wrap64 (s + (i : Int)) = s + (i : Int) := wrap_ok (by omega) (by omega)
  have hx : (s + (i : Int)).toNat = s.toNat + i := by omega
  have he : rd_Lsu8 m a = rowB m a := rfl
  unfold spec_l2At.f rd
  rw [if_pos hw.a0, if_pos hw.a1, hw1, he, if_pos (by omega), if_pos (by omega), hx]
  congr 1
  simp only [seeB, List.getD_eq_getElem?_getD, List.getElem?_take, List.getElem?_drop]
  rw [if_pos (by omega)]
end Go.Proofs.Ytoomjghabiojkaa.P


/- The reference's bytes of a window. -/
namespace Go.Proofs.Ytoomjghabiojkaa.P
open Go.RowKit Go.Proofs.YtoomjghabiojkaaW.PrintWords
set_option linter.unusedVariables false
set_option linter.unusedSimpArgs false
theorem l2Bytes_ev {m : List (List Int)} {a s n c : Int} (hw : WinOk m a s n c) : ∀ (j i : Nat), i + j = n.toNat → Ev (fun k => spec_l2Bytes.l0 k ((seeB m a s n).take i) (i : Int) m a s n c) (seeB m a s n) := by
  have hn0 := hw.n0; have hn1 := hw.n1; have hc1 := hw.c1
  have hsl := seeB_length hw
  intro j
  induction j with
  | zero =>
    intro i hi
    refine Ev.step (fun k => ?_) (Ev.now _)
    simp only [spec_l2Bytes.l0]
    rw [if_neg (by omega), List.take_of_length_le (by omega)]
  | succ j ih =>
    intro i hi
    refine Ev.step (f := fun k => spec_l2Bytes.l0 k ((seeB m a s n).take (i + 1)) ((i + 1 : Nat) : Int) m a s n c) (fun k => ?_) (ih (i + 1) (by omega))
    simp only [spec_l2Bytes.l0]
    have hlt : i < (seeB m a s n).length := by omega
    rw [if_pos (by omega), l2At_f hw i (by omega), Option.bind_some, if_pos (by simp; omega), wrap_ok (by omega) (by omega), List.take_succ_eq_append_getElem hlt, List.getD_eq_getElem?_getD, List.getElem?_eq_getElem hlt]
    simp
theorem l2Bytes_f {m : List (List Int)} {a s n c : Int} (hw : WinOk m a s n c) : Ev (fun k => spec_l2Bytes.f k m a s n c) (seeB m a s n) := by
  have := l2Bytes_ev hw n.toNat 0 (by omega)
  simpa [spec_l2Bytes.f] using this
end Go.Proofs.Ytoomjghabiojkaa.P


/- What a window of an argument sees; copying into an open row. -/
namespace Go.Proofs.Ytoomjghabiojkaa.P
open Go.RowKit Go.Proofs.YtoomjghabiojkaaW.PrintWords Go.Proofs.YtoomjghabiojkaaW.PrintLast Go.Proofs.YtoomjghabiojkaaW.PrintMore Go.Proofs.YtoomjghabiojkaaW.Mine
set_option linter.unusedVariables false
set_option linter.unusedSimpArgs false
def Bytes (w : World) (X : Option Addr) (bs : List Int) : Prop := ∀ j, j < bs.length → ∃ b, X = some b ∧ w.cell? (b.add j) = some (.int .u8 (bs.getD j 0))
theorem Bytes.below {w w' : World} {X : Option Addr} {bs : List Int} (h : Bytes w X bs) (hb : Below w.heap.size w w') : Bytes w' X bs := by
  intro j hj
  obtain ⟨b, h1, h2⟩ := h j hj
  exact ⟨b, h1, (hb.cell (World.block_lt_of_cell? w _ h2)).trans h2⟩
theorem Bytes.cut {w : World} {X : Option Addr} {bs : List Int} (h : Bytes w X bs) (l k C : Nat) (hl : l + k ≤ bs.length) (hC : bs.length ≤ C) : Bytes w (cutA X l C) ((bs.drop l).take k) := by
  intro j hj
  have hj' : j < k := by simp at hj; omega
  obtain ⟨b, h1, h2⟩ := h (l + j) (by omega)
  unfold cutA
  rw [if_neg (by omega), h1]
  refine ⟨b.add l, rfl, ?_⟩
  have e1 : (b.add l).add j = b.add (l + j) := by
    unfold Addr.add
    by_cases z1 : l = 0 <;> by_cases z2 : j = 0 <;> simp [z1, z2, Nat.add_assoc]
  rw [e1, h2]
  congr 2
  simp [List.getD_eq_getElem?_getD, List.getElem?_take, List.getElem?_drop, hj']
theorem Bytes.take {w : World} {X : Option Addr} {bs : List Int} (h : Bytes w X bs) (k : Nat) : Bytes w X (bs.take k) := by
  intro j hj
  have hj' : j < k ∧ j < bs.length := by simp at hj; omega
  obtain ⟨b, h1, h2⟩ := h j hj'.2
  refine ⟨b, h1, h2.trans ?_⟩
  congr 2
  simp [List.getD_eq_getElem?_getD, List.getElem?_take, hj'.1]
theorem len_take {S : List Int} {n : Nat} (h : S.length = n) (k : Nat) : (S.take k).length = Nat.min n k := by rw [List.length_take, h]; exact Nat.min_comm _ _
theorem fit_take {S : List Int} {off k L : Nat} (h : off + k ≤ L) : off + (S.take k).length ≤ L := by simp; omega
theorem bytes_C {w : World} {A : Option Addr} {n : Nat} {xs : List Int} (h : Kd.C (Kd.int .u8) w A n xs) : Bytes w A xs := by
  intro j hj
  obtain ⟨b, hb, hcb⟩ := h.2.2 (by have := h.1; omega)
  obtain ⟨c', hcl', hK', hcell'⟩ := hcb j _ (List.getElem?_eq_getElem hj)
  have hK'' : c' = [.int .u8 xs[j]] := hK'
  subst hK''
  have h0' := hcell' 0 _ rfl
  refine ⟨b, hb, ?_⟩
  rw [List.getD_eq_getElem?_getD, List.getElem?_eq_getElem hj]
  show _ = some (Value.int .u8 xs[j])
  rw [← h0']
  congr 1
  first | rfl | (unfold Addr.add; by_cases z : j = 0 <;> simp [z, Kd.int, Kd.scalar])
theorem bytes_R {w : World} {e base c n : Nat} {P : Nat → Prop} {A : Option Addr} {xs : List Int} (h : Kd.R (Kd.int .u8) e w base P (.slice A n c) xs) : Bytes w A xs := bytes_C (Kd.R_reads' h).2.2
section
variable {e2 e lo hi n c i g cap base_ : Nat} {A : Option Addr} {m : List (List Int)} {row : List Int} {W w : World} {ts : List Th}
theorem copy_o (q : Nat) (h : Stk W ts w) (hq : ts[q]? = some (rowO 5 e W lo hi A n c m i g cap row)) {X Y : Option Addr} {off dLen dCap sLen sCap : Nat} {bs : List Int} (hX : Al X g off dLen) (hn : bs.length = Nat.min sLen dLen) (hfit : off + bs.length ≤ row.length) (hs : Bytes w Y bs) (ty : TypeId) :
    ∃ w', (Builtin.copy_ #[119, 119] ty #[.slice X dLen dCap, .slice Y sLen sCap]).run Try.prog w = .ok (goInt bs.length) w' ∧ Wrote (rowO 5 e W lo hi A n c m i g cap row) (rowO 5 e W lo hi A n c m i g cap (spl row off bs)) w w' := by
  have hu : Try.prog.underlying 119 = some (.slice 5) := by kernel_rfl
  have hz : (Try.prog.info? 5).map (·.size) = some 1 := by kernel_rfl
  by_cases h0 : bs.length = 0
  · obtain rfl : bs = [] := List.eq_nil_of_length_eq_zero h0
    refine ⟨w, run_copy_none (P := Try.prog) w _ _ ty _ X Y dLen dCap sLen sCap hu hz (by simpa using hn.symm), ?_⟩
    rw [spl_nil]
    exact ⟨Below.refl _ _, Nat.le_refl _, fun _ _ _ => rfl, rfl, rfl, fun w'' ha => RowO.agree (h.get q hq) ha⟩
  · obtain ⟨b, hY, _⟩ := hs 0 (by omega)
    have hX' : X = some ⟨g, off, none⟩ := hX.resolve_left (fun hz0 => h0 (by rw [hn, hz0]; exact Nat.min_eq_right (Nat.zero_le _)))
    subst hX' hY
    obtain ⟨g0, cur, _, _, _, _, h5⟩ := (show RowO 5 e W.heap.size lo hi A n c m i g cap row w from h.get q hq)
    have hh := h5.2.1
    have hsz : row.length ≤ cur.size := by have := h5.2.2.1; have := h5.2.2.2.2.1; omega
    have hrun := run_copy_row (P := Try.prog) w 119 119 ty 5 g off dLen dCap b sLen sCap cur 5 (bs.map (fun x => Value.int .u8 x)) hu hz hh (by simpa using hn) (fun j v hj => by
      rw [List.getElem?_map] at hj
      have hjl : j < bs.length := by
        rcases Nat.lt_or_ge j bs.length with h1 | h1
        · exact h1
        · rw [List.getElem?_eq_none h1] at hj; cases hj
      obtain ⟨b', hb', hc⟩ := hs j hjl
      cases hb'
      rw [hc, ← hj, List.getD_eq_getElem?_getD, List.getElem?_eq_getElem hjl]
      rfl) (by simp; omega) (by intro v hv; obtain ⟨x, _, rfl⟩ := List.mem_map.1 hv; rfl)
    rw [List.length_map] at hrun
    refine ⟨_, hrun, ?_⟩
    refine RowO.wrote q h hq (spl_length row off bs hfit) (below_setRow (Below.refl g w) (Nat.le_refl g) _) (by simp [World.setRow]) (fun k _ hk => setRow_other w g k _ hk) (fun cur0 hc0 _ ht => ?_)
    rw [hh] at hc0
    cases hc0
    refine ⟨_, setRow_heap w g _ _ _ _ hh, ?_, ?_⟩
    · simp
      omega
    · have e1 : ∀ (L : List Value) (M : List Int) (r : List Int), L.take r.length = r.map (fun x => Value.int .u8 x) → r.length ≤ L.length → off + M.length ≤ r.length → (L.take off ++ M.map (fun x => Value.int .u8 x) ++ L.drop (off + M.length)).take r.length = (spl r off M).map (fun x => Value.int .u8 x) := by
        intro L M r h1 h2 h3
        unfold spl
        rw [List.map_append, List.map_append, List.map_take, List.map_drop, ← h1, List.take_take, List.drop_take, List.append_assoc, List.take_append, List.take_append, Nat.min_eq_left (by omega), List.take_of_length_le (by simp; omega), List.take_of_length_le (l := M.map _) (by simp; omega)]
        simp only [List.length_take, List.length_map, Nat.min_eq_left (show off ≤ L.length by omega)]
        rw [Nat.sub_sub]
      exact e1 cur.toList bs row ht (by simpa using hsz) hfit
end
section
variable {ops : Array Oper} {evs : List EvT} {W : World} {base : List Th} {mods : List Md} {aF : (Nat → Lt) → Act} {X : Option Addr} {x y : Operand} {e lo hi n c i0 g cap : Nat} {A : Option Addr} {m : List (List Int)} {row : List Int}
theorem cp {i : Nat} {d : Option Tmp} {us : List Nat} {o : Oper} {off dLen dCap : Nat} {Y : (Nat → Lt) → Option Addr} {sLen sCap : (Nat → Lt) → Nat} {bs : List Int} (ho : ops.toList[i]? = some o) (q k : Nat) {um : List Nat} (hq : mods[q]? = some ⟨k, i, um, fun s => rowO 5 e W lo hi A n c m i0 g cap (spl row off bs)⟩) (hk : base[k]? = some (rowO 5 e W lo hi A n c m i0 g cap row))
    (hX : Al X g off dLen) (hn : ∀ s, bs.length = Nat.min (sLen s) dLen) (hfit : off + bs.length ≤ row.length) (hsrc : ∀ s w, Stk W (thU us s evs ++ [rowO 5 e W lo hi A n c m i0 g cap row]) w → Bytes w (Y s) bs)
    (hop : o.op = .call { callee := .builtin .copy, args := #[x, y], argTypes := #[119, 119] } := by rfl) (hx : ∀ s, (aF s).eval x = .slice X dLen dCap := by intro s; rfl) (hy : ∀ s, (aF s).eval y = .slice (Y s) (sLen s) (sCap s) := by intro s; rfl) (hd : o.dst = d := by rfl) (hw : ∀ s, Region.wanted o (yielded ops (aF s).tmps) = true := by intro s; rfl) :
    Sh Try.prog ops W base mods aF evs (evW i d us (fun s => .int .i64 (bs.length : Int))) := by
  refine ⟨fun s x => ⟨rfl, rfl, rfl⟩, ⟨o, by rw [← Array.getElem?_toList]; exact ho, fun _ _ => rfl, .inr ⟨q, _, _, hq, rfl, hk, fun s w hst => ⟨hw s, fun K hK => ?_⟩⟩⟩⟩
  obtain ⟨w', hrun, hwr⟩ := copy_o (thU us s evs).length hst (by rw [List.getElem?_append_right (Nat.le_refl _), Nat.sub_self]; rfl) (dCap := dCap) (sCap := sCap s) hX (hn s) hfit (hsrc s w hst) o.type
  unfold Oper.wp
  have he : (execOp (aF s).eval o).run Try.prog w = .ok (.value (goInt bs.length)) w' := by
    simp [execOp, hop, resolve, invoke, builtin, hx s, hy s, hrun, Result.andThen]
  rw [he]
  show K ((aF s).put o.dst _) w'
  rw [hd]
  exact hK.out w' hwr
end
end Go.Proofs.Ytoomjghabiojkaa.P


