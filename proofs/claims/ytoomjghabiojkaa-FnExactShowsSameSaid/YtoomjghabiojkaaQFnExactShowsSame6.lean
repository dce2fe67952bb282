/- For all arguments, impl.ShowsSame answers what spec.ShowsSame answers, and leaves its arguments alone.
   The row of the law FnExactShowsSame, out of its walk. Conditions: none. -/
import Derived.Test.YtoomjghabiojkaaQFnExactShowsSame5
import Derived.Test.YtoomjghabiojkaaRows
import Derived.WalkKit
import Derived.ProofKit
import Derived.OpenShut
import Derived.ShutString
import Derived.ChangeOld
import Derived.Below
import Derived.SizedLaws
-- written by wip/gen_law.py
namespace Go.Proofs.Ytoomjghabiojkaa.P
open Go.RowKit Go.Proofs.YtoomjghabiojkaaW.PrintWords Go.Proofs.YtoomjghabiojkaaW.PrintLast Go.Proofs.YtoomjghabiojkaaW.PrintMore Go.Proofs.YtoomjghabiojkaaW.Mine
open List (setIfInBounds_toArray set_cons_zero set_cons_succ)
attribute [local go_sem] max2_int min2_int max_two min_two max_three min_three max_four min_four
set_option linter.unusedVariables false
set_option linter.unusedSimpArgs false
set_option maxHeartbeats 8000000 in
set_option maxRecDepth 100000 in
theorem FnExactShowsSame_run0 (A0_0 : Option Addr) (c0_0 : Nat) (l0_0 : List (List Int)) (A0_1 : Option Addr) (c0_1 : Nat) (l0_1 : List (SlawsWindow)) (A0_2 : Option Addr) (c0_2 : Nat) (l0_2 : List Bool) (A1_0 : Option Addr) (c1_0 : Nat) (l1_0 : List (List Int)) (A1_1 : Option Addr) (c1_1 : Nat) (l1_1 : List (SlawsWindow)) (A1_2 : Option Addr) (c1_2 : Nat) (l1_2 : List Bool) (r1_0 : Int) (w : World) (hr0_0 : Kd.C (Kd.slice 5 (Kd.int .u8)) w A0_0 l0_0.length l0_0) (hc0_0 : l0_0.length ≤ c0_0) (hr0_1 : Kd.C klawsWindow w A0_1 l0_1.length l0_1) (hc0_1 : l0_1.length ≤ c0_1) (hr0_2 : Kd.C Kd.bool w A0_2 l0_2.length l0_2) (hc0_2 : l0_2.length ≤ c0_2) (hr1_0 : Kd.C (Kd.slice 5 (Kd.int .u8)) w A1_0 l1_0.length l1_0) (hc1_0 : l1_0.length ≤ c1_0) (hr1_1 : Kd.C klawsWindow w A1_1 l1_1.length l1_1) (hc1_1 : l1_1.length ≤ c1_1) (hr1_2 : Kd.C Kd.bool w A1_2 l1_2.length l1_2) (hc1_2 : l1_2.length ≤ c1_2) (H1 : ∃ k, laws_szMachine.f k l0_0 l0_1 l0_2 1048576 = some r1_0) (P_ : r1_0 < 0) :
    Calls Try.prog 8 #[.agg #[.slice A0_0 l0_0.length c0_0, .slice A0_1 l0_1.length c0_1, .slice A0_2 l0_2.length c0_2], .agg #[.slice A1_0 l1_0.length c1_0, .slice A1_1 l1_1.length c1_1, .slice A1_2 l1_2.length c1_2]] w fun e w' => e = .returned (.bool true) ∧ Below w.heap.size w w' := by
  have HR0_0 := Aside0.mk hr0_0; have HC0_0 := Aside0.mk hc0_0; clear hr0_0 hc0_0
  have HR0_1 := Aside0.mk hr0_1; have HC0_1 := Aside0.mk hc0_1; clear hr0_1 hc0_1
  have HR0_2 := Aside0.mk hr0_2; have HC0_2 := Aside0.mk hc0_2; clear hr0_2 hc0_2
  have HR1_0 := Aside0.mk hr1_0; have HC1_0 := Aside0.mk hc1_0; clear hr1_0 hc1_0
  have HR1_1 := Aside0.mk hr1_1; have HC1_1 := Aside0.mk hc1_1; clear hr1_1 hc1_1
  have HR1_2 := Aside0.mk hr1_2; have HC1_2 := Aside0.mk hc1_2; clear hr1_2 hc1_2
  obtain ⟨k, H1_⟩ := H1; have H1 := Aside0.mk H1_; clear H1_
  have Pb_ : decide (r1_0 < 0) = true := decide_eq_true P_; clear P_
  have HS0 : Aside0 (Stk w [] w) := ⟨Stk.nil w⟩
  go_enter Try.func8, Try.ntmps8
  refine reg (aF := ?_) (nw := ?_) [evB 0 2 [] 78 (fun s => #[.slice A0_0 l0_0.length c0_0, .slice A0_1 l0_1.length c0_1, .slice A0_2 l0_2.length c0_2]) 9999 [] (fun s => #[.slice A0_0 l0_0.length c0_0, .slice A0_1 l0_1.length c0_1, .slice A0_2 l0_2.length c0_2]), evB 1 3 [] 78 (fun s => #[.slice A1_0 l1_0.length c1_0, .slice A1_1 l1_1.length c1_1, .slice A1_2 l1_2.length c1_2]) 9999 [] (fun s => #[.slice A1_0 l1_0.length c1_0, .slice A1_1 l1_1.length c1_1, .slice A1_2 l1_2.length c1_2]), evP 2 4 [] (fun s => .bool false)] [] [] false 3 rfl rfl (by kernel_rfl) rfl (mf0) ?aF ?nw HS0.out ?hs ?_
  rotate_left 2
  case aF => intro s; simp only [putE, EvT.val, Act.put, setIfInBounds_toArray, set_cons_zero, set_cons_succ]; rfl
  case nw => intro s; simp only [thA, bsA, List.nil_append, List.cons_append, List.append_nil, if_true, if_false, Nat.reduceLT, set_cons_zero, set_cons_succ]; rfl
  case hs => exact ⟨bv rfl (fun s w => by go_simp; try rfl), bv rfl (fun s w => by go_simp; try rfl), pu rfl, trivial⟩
  intro s1 w1 h; have HS1 := Aside0.mk h; clear h HS0
  refine tl0 ?_
  refine reg0 (aF := ?_) [] [0] false 1 rfl rfl (by kernel_rfl) rfl (fun _ => rfl) ?aF HS1.out ?hs ?_
  rotate_left 1
  case aF => intro s; simp only [putE, EvT.val, Act.put, setIfInBounds_toArray, set_cons_zero, set_cons_succ]; rfl
  case hs => exact trivial
  intro s2 w2 h; have HS2 := Aside0.mk h; clear h HS1
  refine tlP (v := .int .i64 1048576) 5 rfl ?_
  refine tl0 ?_
  refine reg0 (aF := ?_) [evL 0 12 [] (fun s => .agg #[.slice A0_0 l0_0.length c0_0, .slice A0_1 l0_1.length c0_1, .slice A0_2 l0_2.length c0_2]), evP 1 13 [] (fun s => .int .i64 1048576), evC 2 (some 14) [] (fun s x => .int .i64 r1_0) (fun s x => [])] [3] false 4 rfl rfl (by kernel_rfl) rfl (fun _ => rfl) ?aF HS2.out ?hs ?_
  rotate_left 1
  case aF => intro s; simp only [putE, EvT.val, Act.put, setIfInBounds_toArray, set_cons_zero, set_cons_succ]; rfl
  case hs => exact ⟨ld rfl 0 (fun s => rfl) (fun s w h => by have h0 := h 0 _ rfl; have h1 := h 1 _ rfl; have h2 := h 2 _ rfl; clear h; go_simp; try rfl), pu rfl, cl rfl (fun s => #[.agg #[.slice A0_0 l0_0.length c0_0, .slice A0_1 l0_1.length c0_1, .slice A0_2 l0_2.length c0_2], .int .i64 1048576]) Try.func46 (fun s w1 h => (laws_szMachine.calls _ _ _ _ _ _ _ _ _ _ _ _ _ (Kd.C_below HR0_0.out h.hb) HC0_0.out (Kd.C_below HR0_1.out h.hb) HC0_1.out (Kd.C_below HR0_2.out h.hb) HC0_2.out H1.out).mono (by rintro e w2 ⟨rfl, hb⟩; exact fin0 hb)), trivial⟩
  intro s3 w3 h; have HS3 := Aside0.mk h; clear h HS2
  refine tlP (v := .int .i64 r1_0) 5 rfl ?_
  refine tl0 ?_
  refine wp_seq ?_
  refine reg0 (aF := ?_) [evP 0 15 [] (fun s => .int .i64 r1_0), evP 1 16 [] (fun s => .bool true)] [] false 2 rfl rfl (by kernel_rfl) rfl (fun _ => rfl) ?aF HS3.out ?hs ?_
  rotate_left 1
  case aF => intro s; simp only [putE, EvT.val, Act.put, setIfInBounds_toArray, set_cons_zero, set_cons_succ]; rfl
  case hs => exact ⟨pu rfl, pb (q := .lss) Pb_ rfl, trivial⟩
  intro s4 w4 h; have HS4 := Aside0.mk h; clear h HS3
  refine tl0 ?_
  refine wp_cond_true rfl ?_
  refine reg0 (aF := ?_) [] [0] false 1 rfl rfl (by kernel_rfl) rfl (fun _ => rfl) ?aF HS4.out ?hs ?_
  rotate_left 1
  case aF => intro s; simp only [putE, EvT.val, Act.put, setIfInBounds_toArray, set_cons_zero, set_cons_succ]; rfl
  case hs => exact trivial
  intro s5 w5 h; have HS5 := Aside0.mk h; clear h HS4
  refine tlP (v := .bool true) 4 rfl ?_
  refine tl0 ?_
  refine wp_ret ?_
  go_ret
  exact ⟨by first | rfl | simp, HS5.out.hb⟩
set_option maxHeartbeats 8000000 in
set_option maxRecDepth 100000 in
theorem FnExactShowsSame_run1 (A0_0 : Option Addr) (c0_0 : Nat) (l0_0 : List (List Int)) (A0_1 : Option Addr) (c0_1 : Nat) (l0_1 : List (SlawsWindow)) (A0_2 : Option Addr) (c0_2 : Nat) (l0_2 : List Bool) (A1_0 : Option Addr) (c1_0 : Nat) (l1_0 : List (List Int)) (A1_1 : Option Addr) (c1_1 : Nat) (l1_1 : List (SlawsWindow)) (A1_2 : Option Addr) (c1_2 : Nat) (l1_2 : List Bool) (r1_0 : Int) (r2_0 : Int) (w : World) (hr0_0 : Kd.C (Kd.slice 5 (Kd.int .u8)) w A0_0 l0_0.length l0_0) (hc0_0 : l0_0.length ≤ c0_0) (hr0_1 : Kd.C klawsWindow w A0_1 l0_1.length l0_1) (hc0_1 : l0_1.length ≤ c0_1) (hr0_2 : Kd.C Kd.bool w A0_2 l0_2.length l0_2) (hc0_2 : l0_2.length ≤ c0_2) (hr1_0 : Kd.C (Kd.slice 5 (Kd.int .u8)) w A1_0 l1_0.length l1_0) (hc1_0 : l1_0.length ≤ c1_0) (hr1_1 : Kd.C klawsWindow w A1_1 l1_1.length l1_1) (hc1_1 : l1_1.length ≤ c1_1) (hr1_2 : Kd.C Kd.bool w A1_2 l1_2.length l1_2) (hc1_2 : l1_2.length ≤ c1_2) (H1 : ∃ k, laws_szMachine.f k l0_0 l0_1 l0_2 1048576 = some r1_0) (H2 : ∃ k, laws_szMachine.f k l1_0 l1_1 l1_2 r1_0 = some r2_0) (N_r1_0 : ¬ r1_0 < 0) (P_ : r2_0 < 0) :
    Calls Try.prog 8 #[.agg #[.slice A0_0 l0_0.length c0_0, .slice A0_1 l0_1.length c0_1, .slice A0_2 l0_2.length c0_2], .agg #[.slice A1_0 l1_0.length c1_0, .slice A1_1 l1_1.length c1_1, .slice A1_2 l1_2.length c1_2]] w fun e w' => e = .returned (.bool true) ∧ Below w.heap.size w w' := by
  have HR0_0 := Aside0.mk hr0_0; have HC0_0 := Aside0.mk hc0_0; clear hr0_0 hc0_0
  have HR0_1 := Aside0.mk hr0_1; have HC0_1 := Aside0.mk hc0_1; clear hr0_1 hc0_1
  have HR0_2 := Aside0.mk hr0_2; have HC0_2 := Aside0.mk hc0_2; clear hr0_2 hc0_2
  have HR1_0 := Aside0.mk hr1_0; have HC1_0 := Aside0.mk hc1_0; clear hr1_0 hc1_0
  have HR1_1 := Aside0.mk hr1_1; have HC1_1 := Aside0.mk hc1_1; clear hr1_1 hc1_1
  have HR1_2 := Aside0.mk hr1_2; have HC1_2 := Aside0.mk hc1_2; clear hr1_2 hc1_2
  obtain ⟨k, H1_⟩ := H1; have H1 := Aside0.mk H1_; clear H1_
  obtain ⟨k, H2_⟩ := H2; have H2 := Aside0.mk H2_; clear H2_
  have Nb_r1_0 : decide (r1_0 < 0) = false := decide_eq_false N_r1_0; clear N_r1_0
  have Pb_ : decide (r2_0 < 0) = true := decide_eq_true P_; clear P_
  have HS0 : Aside0 (Stk w [] w) := ⟨Stk.nil w⟩
  go_enter Try.func8, Try.ntmps8
  refine reg (aF := ?_) (nw := ?_) [evB 0 2 [] 78 (fun s => #[.slice A0_0 l0_0.length c0_0, .slice A0_1 l0_1.length c0_1, .slice A0_2 l0_2.length c0_2]) 9999 [] (fun s => #[.slice A0_0 l0_0.length c0_0, .slice A0_1 l0_1.length c0_1, .slice A0_2 l0_2.length c0_2]), evB 1 3 [] 78 (fun s => #[.slice A1_0 l1_0.length c1_0, .slice A1_1 l1_1.length c1_1, .slice A1_2 l1_2.length c1_2]) 9999 [] (fun s => #[.slice A1_0 l1_0.length c1_0, .slice A1_1 l1_1.length c1_1, .slice A1_2 l1_2.length c1_2]), evP 2 4 [] (fun s => .bool false)] [] [] false 3 rfl rfl (by kernel_rfl) rfl (mf0) ?aF ?nw HS0.out ?hs ?_
  rotate_left 2
  case aF => intro s; simp only [putE, EvT.val, Act.put, setIfInBounds_toArray, set_cons_zero, set_cons_succ]; rfl
  case nw => intro s; simp only [thA, bsA, List.nil_append, List.cons_append, List.append_nil, if_true, if_false, Nat.reduceLT, set_cons_zero, set_cons_succ]; rfl
  case hs => exact ⟨bv rfl (fun s w => by go_simp; try rfl), bv rfl (fun s w => by go_simp; try rfl), pu rfl, trivial⟩
  intro s1 w1 h; have HS1 := Aside0.mk h; clear h HS0
  refine tl0 ?_
  refine reg0 (aF := ?_) [] [0] false 1 rfl rfl (by kernel_rfl) rfl (fun _ => rfl) ?aF HS1.out ?hs ?_
  rotate_left 1
  case aF => intro s; simp only [putE, EvT.val, Act.put, setIfInBounds_toArray, set_cons_zero, set_cons_succ]; rfl
  case hs => exact trivial
  intro s2 w2 h; have HS2 := Aside0.mk h; clear h HS1
  refine tlP (v := .int .i64 1048576) 5 rfl ?_
  refine tl0 ?_
  refine reg0 (aF := ?_) [evL 0 12 [] (fun s => .agg #[.slice A0_0 l0_0.length c0_0, .slice A0_1 l0_1.length c0_1, .slice A0_2 l0_2.length c0_2]), evP 1 13 [] (fun s => .int .i64 1048576), evC 2 (some 14) [] (fun s x => .int .i64 r1_0) (fun s x => [])] [3] false 4 rfl rfl (by kernel_rfl) rfl (fun _ => rfl) ?aF HS2.out ?hs ?_
  rotate_left 1
  case aF => intro s; simp only [putE, EvT.val, Act.put, setIfInBounds_toArray, set_cons_zero, set_cons_succ]; rfl
  case hs => exact ⟨ld rfl 0 (fun s => rfl) (fun s w h => by have h0 := h 0 _ rfl; have h1 := h 1 _ rfl; have h2 := h 2 _ rfl; clear h; go_simp; try rfl), pu rfl, cl rfl (fun s => #[.agg #[.slice A0_0 l0_0.length c0_0, .slice A0_1 l0_1.length c0_1, .slice A0_2 l0_2.length c0_2], .int .i64 1048576]) Try.func46 (fun s w1 h => (laws_szMachine.calls _ _ _ _ _ _ _ _ _ _ _ _ _ (Kd.C_below HR0_0.out h.hb) HC0_0.out (Kd.C_below HR0_1.out h.hb) HC0_1.out (Kd.C_below HR0_2.out h.hb) HC0_2.out H1.out).mono (by rintro e w2 ⟨rfl, hb⟩; exact fin0 hb)), trivial⟩
  intro s3 w3 h; have HS3 := Aside0.mk h; clear h HS2
  refine tlP (v := .int .i64 r1_0) 5 rfl ?_
  refine tl0 ?_
  refine wp_seq ?_
  refine reg0 (aF := ?_) [evP 0 15 [] (fun s => .int .i64 r1_0), evP 1 16 [] (fun s => .bool false)] [] false 2 rfl rfl (by kernel_rfl) rfl (fun _ => rfl) ?aF HS3.out ?hs ?_
  rotate_left 1
  case aF => intro s; simp only [putE, EvT.val, Act.put, setIfInBounds_toArray, set_cons_zero, set_cons_succ]; rfl
  case hs => exact ⟨pu rfl, pb (q := .lss) Nb_r1_0 rfl, trivial⟩
  intro s4 w4 h; have HS4 := Aside0.mk h; clear h HS3
  refine tl0 ?_
  refine wp_cond_false rfl ?_
  refine wp_skip ?_
  refine thN ?_
  refine reg0 (aF := ?_) [evL 0 17 [] (fun s => .agg #[.slice A1_0 l1_0.length c1_0, .slice A1_1 l1_1.length c1_1, .slice A1_2 l1_2.length c1_2]), evP 1 18 [] (fun s => .int .i64 r1_0), evC 2 (some 19) [] (fun s x => .int .i64 r2_0) (fun s x => [])] [3] false 4 rfl rfl (by kernel_rfl) rfl (fun _ => rfl) ?aF HS4.out ?hs ?_
  rotate_left 1
  case aF => intro s; simp only [putE, EvT.val, Act.put, setIfInBounds_toArray, set_cons_zero, set_cons_succ]; rfl
  case hs => exact ⟨ld rfl 1 (fun s => rfl) (fun s w h => by have h0 := h 0 _ rfl; have h1 := h 1 _ rfl; have h2 := h 2 _ rfl; clear h; go_simp; try rfl), pu rfl, cl rfl (fun s => #[.agg #[.slice A1_0 l1_0.length c1_0, .slice A1_1 l1_1.length c1_1, .slice A1_2 l1_2.length c1_2], .int .i64 r1_0]) Try.func46 (fun s w1 h => (laws_szMachine.calls _ _ _ _ _ _ _ _ _ _ _ _ _ (Kd.C_below HR1_0.out h.hb) HC1_0.out (Kd.C_below HR1_1.out h.hb) HC1_1.out (Kd.C_below HR1_2.out h.hb) HC1_2.out H2.out).mono (by rintro e w2 ⟨rfl, hb⟩; exact fin0 hb)), trivial⟩
  intro s5 w5 h; have HS5 := Aside0.mk h; clear h HS4
  refine tlP (v := .int .i64 r2_0) 5 rfl ?_
  refine tl0 ?_
  refine wp_seq ?_
  refine reg0 (aF := ?_) [evP 0 20 [] (fun s => .int .i64 r2_0), evP 1 21 [] (fun s => .bool true)] [] false 2 rfl rfl (by kernel_rfl) rfl (fun _ => rfl) ?aF HS5.out ?hs ?_
  rotate_left 1
  case aF => intro s; simp only [putE, EvT.val, Act.put, setIfInBounds_toArray, set_cons_zero, set_cons_succ]; rfl
  case hs => exact ⟨pu rfl, pb (q := .lss) Pb_ rfl, trivial⟩
  intro s6 w6 h; have HS6 := Aside0.mk h; clear h HS5
  refine tl0 ?_
  refine wp_cond_true rfl ?_
  refine reg0 (aF := ?_) [] [0] false 1 rfl rfl (by kernel_rfl) rfl (fun _ => rfl) ?aF HS6.out ?hs ?_
  rotate_left 1
  case aF => intro s; simp only [putE, EvT.val, Act.put, setIfInBounds_toArray, set_cons_zero, set_cons_succ]; rfl
  case hs => exact trivial
  intro s7 w7 h; have HS7 := Aside0.mk h; clear h HS6
  refine tlP (v := .bool true) 4 rfl ?_
  refine tl0 ?_
  refine wp_ret ?_
  go_ret
  exact ⟨by first | rfl | simp, HS7.out.hb⟩
set_option maxHeartbeats 8000000 in
set_option maxRecDepth 100000 in
theorem FnExactShowsSame_run (A0_0 : Option Addr) (c0_0 : Nat) (l0_0 : List (List Int)) (A0_1 : Option Addr) (c0_1 : Nat) (l0_1 : List (SlawsWindow)) (A0_2 : Option Addr) (c0_2 : Nat) (l0_2 : List Bool) (A1_0 : Option Addr) (c1_0 : Nat) (l1_0 : List (List Int)) (A1_1 : Option Addr) (c1_1 : Nat) (l1_1 : List (SlawsWindow)) (A1_2 : Option Addr) (c1_2 : Nat) (l1_2 : List Bool) (r1_0 : Int) (r2_0 : Int) (r3_0 : List (List Int)) (r3_1 : List (SimplWindow)) (r3_2 : List Bool) (r4_0 : List (List Int)) (r4_1 : List (SimplWindow)) (r4_2 : List Bool) (r5_0 : Bool) (r5_1 : Bool) (w : World) (hr0_0 : Kd.C (Kd.slice 5 (Kd.int .u8)) w A0_0 l0_0.length l0_0) (hc0_0 : l0_0.length ≤ c0_0) (hr0_1 : Kd.C klawsWindow w A0_1 l0_1.length l0_1) (hc0_1 : l0_1.length ≤ c0_1) (hr0_2 : Kd.C Kd.bool w A0_2 l0_2.length l0_2) (hc0_2 : l0_2.length ≤ c0_2) (hr1_0 : Kd.C (Kd.slice 5 (Kd.int .u8)) w A1_0 l1_0.length l1_0) (hc1_0 : l1_0.length ≤ c1_0) (hr1_1 : Kd.C klawsWindow w A1_1 l1_1.length l1_1) (hc1_1 : l1_1.length ≤ c1_1) (hr1_2 : Kd.C Kd.bool w A1_2 l1_2.length l1_2) (hc1_2 : l1_2.length ≤ c1_2) (H1 : ∃ k, laws_szMachine.f k l0_0 l0_1 l0_2 1048576 = some r1_0) (H2 : ∃ k, laws_szMachine.f k l1_0 l1_1 l1_2 r1_0 = some r2_0) (H3 : ∃ k, laws_toMachine.f k l0_0 l0_1 l0_2 = some (r3_0, r3_1, r3_2)) (H4 : ∃ k, laws_toMachine.f k l1_0 l1_1 l1_2 = some (r4_0, r4_1, r4_2)) (H5 : ∃ k, spec_ShowsSame.f k r3_0 r3_1 r3_2 r4_0 r4_1 r4_2 = some (r5_0, r5_1)) (H6 : ∃ k, impl_ShowsSame.f k r3_0 r3_1 r3_2 r4_0 r4_1 r4_2 = some (r5_0, r5_1)) (H7 : ∃ k, laws_eqMachine.f k r3_0 r3_1 r3_2 r3_0 r3_1 r3_2 = some true) (H8 : ∃ k, laws_eqMachine.f k r4_0 r4_1 r4_2 r4_0 r4_1 r4_2 = some true) (N_r1_0 : ¬ r1_0 < 0) (N_r2_0 : ¬ r2_0 < 0) :
    Calls Try.prog 8 #[.agg #[.slice A0_0 l0_0.length c0_0, .slice A0_1 l0_1.length c0_1, .slice A0_2 l0_2.length c0_2], .agg #[.slice A1_0 l1_0.length c1_0, .slice A1_1 l1_1.length c1_1, .slice A1_2 l1_2.length c1_2]] w fun e w' => e = .returned (.bool true) ∧ Below w.heap.size w w' := by
  have HR0_0 := Aside0.mk hr0_0; have HC0_0 := Aside0.mk hc0_0; clear hr0_0 hc0_0
  have HR0_1 := Aside0.mk hr0_1; have HC0_1 := Aside0.mk hc0_1; clear hr0_1 hc0_1
  have HR0_2 := Aside0.mk hr0_2; have HC0_2 := Aside0.mk hc0_2; clear hr0_2 hc0_2
  have HR1_0 := Aside0.mk hr1_0; have HC1_0 := Aside0.mk hc1_0; clear hr1_0 hc1_0
  have HR1_1 := Aside0.mk hr1_1; have HC1_1 := Aside0.mk hc1_1; clear hr1_1 hc1_1
  have HR1_2 := Aside0.mk hr1_2; have HC1_2 := Aside0.mk hc1_2; clear hr1_2 hc1_2
  obtain ⟨k, H1_⟩ := H1; have H1 := Aside0.mk H1_; clear H1_
  obtain ⟨k, H2_⟩ := H2; have H2 := Aside0.mk H2_; clear H2_
  obtain ⟨k, H3_⟩ := H3; have H3 := Aside0.mk H3_; clear H3_
  obtain ⟨k, H4_⟩ := H4; have H4 := Aside0.mk H4_; clear H4_
  obtain ⟨k, H5_⟩ := H5; have H5 := Aside0.mk H5_; clear H5_
  obtain ⟨k, H6_⟩ := H6; have H6 := Aside0.mk H6_; clear H6_
  obtain ⟨k, H7_⟩ := H7; have H7 := Aside0.mk H7_; clear H7_
  obtain ⟨k, H8_⟩ := H8; have H8 := Aside0.mk H8_; clear H8_
  have Nb_r1_0 : decide (r1_0 < 0) = false := decide_eq_false N_r1_0; clear N_r1_0
  have Nb_r2_0 : decide (r2_0 < 0) = false := decide_eq_false N_r2_0; clear N_r2_0
  have HS0 : Aside0 (Stk w [] w) := ⟨Stk.nil w⟩
  go_enter Try.func8, Try.ntmps8
  refine reg (aF := ?_) (nw := ?_) [evB 0 2 [] 78 (fun s => #[.slice A0_0 l0_0.length c0_0, .slice A0_1 l0_1.length c0_1, .slice A0_2 l0_2.length c0_2]) 9999 [] (fun s => #[.slice A0_0 l0_0.length c0_0, .slice A0_1 l0_1.length c0_1, .slice A0_2 l0_2.length c0_2]), evB 1 3 [] 78 (fun s => #[.slice A1_0 l1_0.length c1_0, .slice A1_1 l1_1.length c1_1, .slice A1_2 l1_2.length c1_2]) 9999 [] (fun s => #[.slice A1_0 l1_0.length c1_0, .slice A1_1 l1_1.length c1_1, .slice A1_2 l1_2.length c1_2]), evP 2 4 [] (fun s => .bool false)] [] [] false 3 rfl rfl (by kernel_rfl) rfl (mf0) ?aF ?nw HS0.out ?hs ?_
  rotate_left 2
  case aF => intro s; simp only [putE, EvT.val, Act.put, setIfInBounds_toArray, set_cons_zero, set_cons_succ]; rfl
  case nw => intro s; simp only [thA, bsA, List.nil_append, List.cons_append, List.append_nil, if_true, if_false, Nat.reduceLT, set_cons_zero, set_cons_succ]; rfl
  case hs => exact ⟨bv rfl (fun s w => by go_simp; try rfl), bv rfl (fun s w => by go_simp; try rfl), pu rfl, trivial⟩
  intro s1 w1 h; have HS1 := Aside0.mk h; clear h HS0
  refine tl0 ?_
  refine reg0 (aF := ?_) [] [0] false 1 rfl rfl (by kernel_rfl) rfl (fun _ => rfl) ?aF HS1.out ?hs ?_
  rotate_left 1
  case aF => intro s; simp only [putE, EvT.val, Act.put, setIfInBounds_toArray, set_cons_zero, set_cons_succ]; rfl
  case hs => exact trivial
  intro s2 w2 h; have HS2 := Aside0.mk h; clear h HS1
  refine tlP (v := .int .i64 1048576) 5 rfl ?_
  refine tl0 ?_
  refine reg0 (aF := ?_) [evL 0 12 [] (fun s => .agg #[.slice A0_0 l0_0.length c0_0, .slice A0_1 l0_1.length c0_1, .slice A0_2 l0_2.length c0_2]), evP 1 13 [] (fun s => .int .i64 1048576), evC 2 (some 14) [] (fun s x => .int .i64 r1_0) (fun s x => [])] [3] false 4 rfl rfl (by kernel_rfl) rfl (fun _ => rfl) ?aF HS2.out ?hs ?_
  rotate_left 1
  case aF => intro s; simp only [putE, EvT.val, Act.put, setIfInBounds_toArray, set_cons_zero, set_cons_succ]; rfl
  case hs => exact ⟨ld rfl 0 (fun s => rfl) (fun s w h => by have h0 := h 0 _ rfl; have h1 := h 1 _ rfl; have h2 := h 2 _ rfl; clear h; go_simp; try rfl), pu rfl, cl rfl (fun s => #[.agg #[.slice A0_0 l0_0.length c0_0, .slice A0_1 l0_1.length c0_1, .slice A0_2 l0_2.length c0_2], .int .i64 1048576]) Try.func46 (fun s w1 h => (laws_szMachine.calls _ _ _ _ _ _ _ _ _ _ _ _ _ (Kd.C_below HR0_0.out h.hb) HC0_0.out (Kd.C_below HR0_1.out h.hb) HC0_1.out (Kd.C_below HR0_2.out h.hb) HC0_2.out H1.out).mono (by rintro e w2 ⟨rfl, hb⟩; exact fin0 hb)), trivial⟩
  intro s3 w3 h; have HS3 := Aside0.mk h; clear h HS2
  refine tlP (v := .int .i64 r1_0) 5 rfl ?_
  refine tl0 ?_
  refine wp_seq ?_
  refine reg0 (aF := ?_) [evP 0 15 [] (fun s => .int .i64 r1_0), evP 1 16 [] (fun s => .bool false)] [] false 2 rfl rfl (by kernel_rfl) rfl (fun _ => rfl) ?aF HS3.out ?hs ?_
  rotate_left 1
  case aF => intro s; simp only [putE, EvT.val, Act.put, setIfInBounds_toArray, set_cons_zero, set_cons_succ]; rfl
  case hs => exact ⟨pu rfl, pb (q := .lss) Nb_r1_0 rfl, trivial⟩
  intro s4 w4 h; have HS4 := Aside0.mk h; clear h HS3
  refine tl0 ?_
  refine wp_cond_false rfl ?_
  refine wp_skip ?_
  refine thN ?_
  refine reg0 (aF := ?_) [evL 0 17 [] (fun s => .agg #[.slice A1_0 l1_0.length c1_0, .slice A1_1 l1_1.length c1_1, .slice A1_2 l1_2.length c1_2]), evP 1 18 [] (fun s => .int .i64 r1_0), evC 2 (some 19) [] (fun s x => .int .i64 r2_0) (fun s x => [])] [3] false 4 rfl rfl (by kernel_rfl) rfl (fun _ => rfl) ?aF HS4.out ?hs ?_
  rotate_left 1
  case aF => intro s; simp only [putE, EvT.val, Act.put, setIfInBounds_toArray, set_cons_zero, set_cons_succ]; rfl
  case hs => exact ⟨ld rfl 1 (fun s => rfl) (fun s w h => by have h0 := h 0 _ rfl; have h1 := h 1 _ rfl; have h2 := h 2 _ rfl; clear h; go_simp; try rfl), pu rfl, cl rfl (fun s => #[.agg #[.slice A1_0 l1_0.length c1_0, .slice A1_1 l1_1.length c1_1, .slice A1_2 l1_2.length c1_2], .int .i64 r1_0]) Try.func46 (fun s w1 h => (laws_szMachine.calls _ _ _ _ _ _ _ _ _ _ _ _ _ (Kd.C_below HR1_0.out h.hb) HC1_0.out (Kd.C_below HR1_1.out h.hb) HC1_1.out (Kd.C_below HR1_2.out h.hb) HC1_2.out H2.out).mono (by rintro e w2 ⟨rfl, hb⟩; exact fin0 hb)), trivial⟩
  intro s5 w5 h; have HS5 := Aside0.mk h; clear h HS4
  refine tlP (v := .int .i64 r2_0) 5 rfl ?_
  refine tl0 ?_
  refine wp_seq ?_
  refine reg0 (aF := ?_) [evP 0 20 [] (fun s => .int .i64 r2_0), evP 1 21 [] (fun s => .bool false)] [] false 2 rfl rfl (by kernel_rfl) rfl (fun _ => rfl) ?aF HS5.out ?hs ?_
  rotate_left 1
  case aF => intro s; simp only [putE, EvT.val, Act.put, setIfInBounds_toArray, set_cons_zero, set_cons_succ]; rfl
  case hs => exact ⟨pu rfl, pb (q := .lss) Nb_r2_0 rfl, trivial⟩
  intro s6 w6 h; have HS6 := Aside0.mk h; clear h HS5
  refine tl0 ?_
  refine wp_cond_false rfl ?_
  refine wp_skip ?_
  refine thN ?_
  refine reg (aF := ?_) (nw := ?_) [evL 0 23 [] (fun s => .agg #[.slice A0_0 l0_0.length c0_0, .slice A0_1 l0_1.length c0_1, .slice A0_2 l0_2.length c0_2]), evC 1 (some 24) [] (fun s x => .agg #[.slice x.A r3_0.length x.c, .slice x.B r3_1.length x.e, .slice x.C r3_2.length x.f]) (fun s x => [⟨x.lo, x.hi, fun w_ => Kd.S (Kd.slice 5 (Kd.int .u8)) 119 w_ w.heap.size (fun k_ => x.lo ≤ k_ ∧ k_ < x.hi) (.slice x.A r3_0.length x.c) r3_0 ∧ Kd.R kimplWindow 48 w_ w.heap.size (fun k_ => x.lo ≤ k_ ∧ k_ < x.hi) (.slice x.B r3_1.length x.e) r3_1 ∧ Kd.R Kd.bool 4 w_ w.heap.size (fun k_ => x.lo ≤ k_ ∧ k_ < x.hi) (.slice x.C r3_2.length x.f) r3_2⟩]), evL 2 25 [] (fun s => .agg #[.slice A1_0 l1_0.length c1_0, .slice A1_1 l1_1.length c1_1, .slice A1_2 l1_2.length c1_2]), evC 3 (some 26) [] (fun s x => .agg #[.slice x.A r4_0.length x.c, .slice x.B r4_1.length x.e, .slice x.C r4_2.length x.f]) (fun s x => [⟨x.lo, x.hi, fun w_ => Kd.S (Kd.slice 5 (Kd.int .u8)) 119 w_ w.heap.size (fun k_ => x.lo ≤ k_ ∧ k_ < x.hi) (.slice x.A r4_0.length x.c) r4_0 ∧ Kd.R kimplWindow 48 w_ w.heap.size (fun k_ => x.lo ≤ k_ ∧ k_ < x.hi) (.slice x.B r4_1.length x.e) r4_1 ∧ Kd.R Kd.bool 4 w_ w.heap.size (fun k_ => x.lo ≤ k_ ∧ k_ < x.hi) (.slice x.C r4_2.length x.f) r4_2⟩]), evC 4 (some 27) [1, 3] (fun s x => .tuple #[.bool r5_0, .bool r5_1]) (fun s x => []), evP 5 22 [] (fun s => .tuple #[.bool r5_0, .bool r5_1]), evP 6 28 [] (fun s => .bool r5_0), evP 7 29 [] (fun s => .bool r5_1), evP 8 6 [] (fun s => .bool r5_0)] [9] [] true 10 rfl rfl (by kernel_rfl) rfl (mf0) ?aF ?nw HS6.out ?hs ?_
  rotate_left 2
  case aF => intro s; simp only [putE, EvT.val, Act.put, setIfInBounds_toArray, set_cons_zero, set_cons_succ]; rfl
  case nw => intro s; simp only [thA, bsA, List.nil_append, List.cons_append, List.append_nil, if_true, if_false, Nat.reduceLT, set_cons_zero, set_cons_succ]; rfl
  case hs => exact ⟨ld rfl 0 (fun s => rfl) (fun s w h => by have h0 := h 0 _ rfl; have h1 := h 1 _ rfl; have h2 := h 2 _ rfl; clear h; go_simp; try rfl), cl rfl (fun s => #[.agg #[.slice A0_0 l0_0.length c0_0, .slice A0_1 l0_1.length c0_1, .slice A0_2 l0_2.length c0_2]]) Try.func48 (fun s w1 h => (laws_toMachine.calls _ _ _ _ _ _ _ _ _ _ _ _ _ _ (Kd.C_below HR0_0.out h.hb) HC0_0.out (Kd.C_below HR0_1.out h.hb) HC0_1.out (Kd.C_below HR0_2.out h.hb) HC0_2.out H3.out).mono (by rintro e w2 ⟨v0_, v1_, v2_, rfl, ho0, ho1, ho2, hb⟩; obtain ⟨A0, c0, rfl⟩ := Kd.S_slice ho0; obtain ⟨A1, c1, rfl⟩ := Kd.R_slice ho1; obtain ⟨A2, c2, rfl⟩ := Kd.R_slice ho2; obtain ⟨lo, hi, hx⟩ := (Stk.nil w1).push hb (P := fun lo_ hi_ w_ => Kd.S (Kd.slice 5 (Kd.int .u8)) 119 w_ w.heap.size (fun k_ => lo_ ≤ k_ ∧ k_ < hi_) (.slice A0 r3_0.length c0) r3_0 ∧ Kd.R kimplWindow 48 w_ w.heap.size (fun k_ => lo_ ≤ k_ ∧ k_ < hi_) (.slice A1 r3_1.length c1) r3_1 ∧ Kd.R Kd.bool 4 w_ w.heap.size (fun k_ => lo_ ≤ k_ ∧ k_ < hi_) (.slice A2 r3_2.length c2) r3_2) (fun w_ ha => ⟨S_held ho0 h.hb.size ha, R_held ho1 h.hb.size ha, R_held ho2 h.hb.size ha⟩); exact ⟨⟨lo, hi, A0, c0, A1, c1, A2, c2⟩, rfl, hx⟩)), ld rfl 1 (fun s => rfl) (fun s w h => by have h0 := h 0 _ rfl; have h1 := h 1 _ rfl; have h2 := h 2 _ rfl; clear h; go_simp; try rfl), cl rfl (fun s => #[.agg #[.slice A1_0 l1_0.length c1_0, .slice A1_1 l1_1.length c1_1, .slice A1_2 l1_2.length c1_2]]) Try.func48 (fun s w1 h => (laws_toMachine.calls _ _ _ _ _ _ _ _ _ _ _ _ _ _ (Kd.C_below HR1_0.out h.hb) HC1_0.out (Kd.C_below HR1_1.out h.hb) HC1_1.out (Kd.C_below HR1_2.out h.hb) HC1_2.out H4.out).mono (by rintro e w2 ⟨v0_, v1_, v2_, rfl, ho0, ho1, ho2, hb⟩; obtain ⟨A0, c0, rfl⟩ := Kd.S_slice ho0; obtain ⟨A1, c1, rfl⟩ := Kd.R_slice ho1; obtain ⟨A2, c2, rfl⟩ := Kd.R_slice ho2; obtain ⟨lo, hi, hx⟩ := (Stk.nil w1).push hb (P := fun lo_ hi_ w_ => Kd.S (Kd.slice 5 (Kd.int .u8)) 119 w_ w.heap.size (fun k_ => lo_ ≤ k_ ∧ k_ < hi_) (.slice A0 r4_0.length c0) r4_0 ∧ Kd.R kimplWindow 48 w_ w.heap.size (fun k_ => lo_ ≤ k_ ∧ k_ < hi_) (.slice A1 r4_1.length c1) r4_1 ∧ Kd.R Kd.bool 4 w_ w.heap.size (fun k_ => lo_ ≤ k_ ∧ k_ < hi_) (.slice A2 r4_2.length c2) r4_2) (fun w_ ha => ⟨S_held ho0 h.hb.size ha, R_held ho1 h.hb.size ha, R_held ho2 h.hb.size ha⟩); exact ⟨⟨lo, hi, A0, c0, A1, c1, A2, c2⟩, rfl, hx⟩)), cl rfl (fun s => #[.agg #[.slice (s 1).A r3_0.length (s 1).c, .slice (s 1).B r3_1.length (s 1).e, .slice (s 1).C r3_2.length (s 1).f], .agg #[.slice (s 3).A r4_0.length (s 3).c, .slice (s 3).B r4_1.length (s 3).e, .slice (s 3).C r4_2.length (s 3).f]]) Try.func47 (fun s w1 h => (spec_ShowsSame.calls _ _ _ _ _ _ _ _ _ _ _ _ _ _ _ _ _ _ _ _ _ _ (Kd.S_reads' (h.get 0 rfl).1).2.2 (Kd.S_reads' (h.get 0 rfl).1).2.1 (Kd.R_reads' (h.get 0 rfl).2.1).2.2 (Kd.R_reads' (h.get 0 rfl).2.1).2.1 (Kd.R_reads' (h.get 0 rfl).2.2).2.2 (Kd.R_reads' (h.get 0 rfl).2.2).2.1 (Kd.S_reads' (h.get 1 rfl).1).2.2 (Kd.S_reads' (h.get 1 rfl).1).2.1 (Kd.R_reads' (h.get 1 rfl).2.1).2.2 (Kd.R_reads' (h.get 1 rfl).2.1).2.1 (Kd.R_reads' (h.get 1 rfl).2.2).2.2 (Kd.R_reads' (h.get 1 rfl).2.2).2.1 H5.out).mono (by rintro e w2 ⟨rfl, hb⟩; exact fin0 hb)), pu rfl, pu rfl, pu rfl, pu rfl, trivial⟩
  intro s7 w7 h; have HS7 := Aside0.mk h; clear h HS6
  refine tlP (v := .bool r5_1) 7 rfl ?_
  refine tl0 ?_
  refine reg (aF := ?_) (nw := ?_) [evL 0 30 [] (fun s => .agg #[.slice A0_0 l0_0.length c0_0, .slice A0_1 l0_1.length c0_1, .slice A0_2 l0_2.length c0_2]), evC 1 (some 31) [] (fun s x => .agg #[.slice x.A r3_0.length x.c, .slice x.B r3_1.length x.e, .slice x.C r3_2.length x.f]) (fun s x => [⟨x.lo, x.hi, fun w_ => Kd.S (Kd.slice 5 (Kd.int .u8)) 119 w_ w.heap.size (fun k_ => x.lo ≤ k_ ∧ k_ < x.hi) (.slice x.A r3_0.length x.c) r3_0 ∧ Kd.R kimplWindow 48 w_ w.heap.size (fun k_ => x.lo ≤ k_ ∧ k_ < x.hi) (.slice x.B r3_1.length x.e) r3_1 ∧ Kd.R Kd.bool 4 w_ w.heap.size (fun k_ => x.lo ≤ k_ ∧ k_ < x.hi) (.slice x.C r3_2.length x.f) r3_2⟩]), evB 2 8 [] 60 (fun s => #[.slice none 0 0, .slice none 0 0, .slice none 0 0]) 3 [1] (fun s => #[.slice (s 1).A r3_0.length (s 1).c, .slice (s 1).B r3_1.length (s 1).e, .slice (s 1).C r3_2.length (s 1).f]), evS 3] [] [] false 4 rfl rfl (by kernel_rfl) rfl (mf0) ?aF ?nw HS7.out ?hs ?_
  rotate_left 2
  case aF => intro s; simp only [putE, EvT.val, Act.put, setIfInBounds_toArray, set_cons_zero, set_cons_succ]; rfl
  case nw => intro s; simp only [thA, bsA, List.nil_append, List.cons_append, List.append_nil, if_true, if_false, Nat.reduceLT, set_cons_zero, set_cons_succ]; rfl
  case hs => exact ⟨ld rfl 2 (fun s => rfl) (fun s w h => by have h0 := h 0 _ rfl; have h1 := h 1 _ rfl; have h2 := h 2 _ rfl; clear h; go_simp; try rfl), cl rfl (fun s => #[.agg #[.slice A0_0 l0_0.length c0_0, .slice A0_1 l0_1.length c0_1, .slice A0_2 l0_2.length c0_2]]) Try.func48 (fun s w1 h => (laws_toMachine.calls _ _ _ _ _ _ _ _ _ _ _ _ _ _ (Kd.C_below HR0_0.out h.hb) HC0_0.out (Kd.C_below HR0_1.out h.hb) HC0_1.out (Kd.C_below HR0_2.out h.hb) HC0_2.out H3.out).mono (by rintro e w2 ⟨v0_, v1_, v2_, rfl, ho0, ho1, ho2, hb⟩; obtain ⟨A0, c0, rfl⟩ := Kd.S_slice ho0; obtain ⟨A1, c1, rfl⟩ := Kd.R_slice ho1; obtain ⟨A2, c2, rfl⟩ := Kd.R_slice ho2; obtain ⟨lo, hi, hx⟩ := (Stk.nil w1).push hb (P := fun lo_ hi_ w_ => Kd.S (Kd.slice 5 (Kd.int .u8)) 119 w_ w.heap.size (fun k_ => lo_ ≤ k_ ∧ k_ < hi_) (.slice A0 r3_0.length c0) r3_0 ∧ Kd.R kimplWindow 48 w_ w.heap.size (fun k_ => lo_ ≤ k_ ∧ k_ < hi_) (.slice A1 r3_1.length c1) r3_1 ∧ Kd.R Kd.bool 4 w_ w.heap.size (fun k_ => lo_ ≤ k_ ∧ k_ < hi_) (.slice A2 r3_2.length c2) r3_2) (fun w_ ha => ⟨S_held ho0 h.hb.size ha, R_held ho1 h.hb.size ha, R_held ho2 h.hb.size ha⟩); exact ⟨⟨lo, hi, A0, c0, A1, c1, A2, c2⟩, rfl, hx⟩)), bv rfl (fun s w => by go_simp; try rfl), st rfl 2 0 (fun s => [.slice (s 1).A r3_0.length (s 1).c, .slice (s 1).B r3_1.length (s 1).e, .slice (s 1).C r3_2.length (s 1).f]) rfl (fun s w h hf => by have h0 := h 0 _ rfl; have f0 := hf 0; have h1 := h 1 _ rfl; have f1 := hf 1; have h2 := h 2 _ rfl; have f2 := hf 2; clear h hf; go_simp; try rfl), trivial⟩
  intro s8 w8 h; have HS8 := Aside0.mk h; clear h HS7
  refine tl0 ?_
  refine reg (aF := ?_) (nw := ?_) [evL 0 32 [] (fun s => .agg #[.slice A1_0 l1_0.length c1_0, .slice A1_1 l1_1.length c1_1, .slice A1_2 l1_2.length c1_2]), evC 1 (some 33) [] (fun s x => .agg #[.slice x.A r4_0.length x.c, .slice x.B r4_1.length x.e, .slice x.C r4_2.length x.f]) (fun s x => [⟨x.lo, x.hi, fun w_ => Kd.S (Kd.slice 5 (Kd.int .u8)) 119 w_ w.heap.size (fun k_ => x.lo ≤ k_ ∧ k_ < x.hi) (.slice x.A r4_0.length x.c) r4_0 ∧ Kd.R kimplWindow 48 w_ w.heap.size (fun k_ => x.lo ≤ k_ ∧ k_ < x.hi) (.slice x.B r4_1.length x.e) r4_1 ∧ Kd.R Kd.bool 4 w_ w.heap.size (fun k_ => x.lo ≤ k_ ∧ k_ < x.hi) (.slice x.C r4_2.length x.f) r4_2⟩]), evB 2 9 [] 60 (fun s => #[.slice none 0 0, .slice none 0 0, .slice none 0 0]) 3 [1] (fun s => #[.slice (s 1).A r4_0.length (s 1).c, .slice (s 1).B r4_1.length (s 1).e, .slice (s 1).C r4_2.length (s 1).f]), evS 3] [] [] false 4 rfl rfl (by kernel_rfl) rfl (mf0) ?aF ?nw HS8.out ?hs ?_
  rotate_left 2
  case aF => intro s; simp only [putE, EvT.val, Act.put, setIfInBounds_toArray, set_cons_zero, set_cons_succ]; rfl
  case nw => intro s; simp only [thA, bsA, List.nil_append, List.cons_append, List.append_nil, if_true, if_false, Nat.reduceLT, set_cons_zero, set_cons_succ]; rfl
  case hs => exact ⟨ld rfl 5 (fun s => rfl) (fun s w h => by have h0 := h 0 _ rfl; have h1 := h 1 _ rfl; have h2 := h 2 _ rfl; clear h; go_simp; try rfl), cl rfl (fun s => #[.agg #[.slice A1_0 l1_0.length c1_0, .slice A1_1 l1_1.length c1_1, .slice A1_2 l1_2.length c1_2]]) Try.func48 (fun s w1 h => (laws_toMachine.calls _ _ _ _ _ _ _ _ _ _ _ _ _ _ (Kd.C_below HR1_0.out h.hb) HC1_0.out (Kd.C_below HR1_1.out h.hb) HC1_1.out (Kd.C_below HR1_2.out h.hb) HC1_2.out H4.out).mono (by rintro e w2 ⟨v0_, v1_, v2_, rfl, ho0, ho1, ho2, hb⟩; obtain ⟨A0, c0, rfl⟩ := Kd.S_slice ho0; obtain ⟨A1, c1, rfl⟩ := Kd.R_slice ho1; obtain ⟨A2, c2, rfl⟩ := Kd.R_slice ho2; obtain ⟨lo, hi, hx⟩ := (Stk.nil w1).push hb (P := fun lo_ hi_ w_ => Kd.S (Kd.slice 5 (Kd.int .u8)) 119 w_ w.heap.size (fun k_ => lo_ ≤ k_ ∧ k_ < hi_) (.slice A0 r4_0.length c0) r4_0 ∧ Kd.R kimplWindow 48 w_ w.heap.size (fun k_ => lo_ ≤ k_ ∧ k_ < hi_) (.slice A1 r4_1.length c1) r4_1 ∧ Kd.R Kd.bool 4 w_ w.heap.size (fun k_ => lo_ ≤ k_ ∧ k_ < hi_) (.slice A2 r4_2.length c2) r4_2) (fun w_ ha => ⟨S_held ho0 h.hb.size ha, R_held ho1 h.hb.size ha, R_held ho2 h.hb.size ha⟩); exact ⟨⟨lo, hi, A0, c0, A1, c1, A2, c2⟩, rfl, hx⟩)), bv rfl (fun s w => by go_simp; try rfl), st rfl 2 0 (fun s => [.slice (s 1).A r4_0.length (s 1).c, .slice (s 1).B r4_1.length (s 1).e, .slice (s 1).C r4_2.length (s 1).f]) rfl (fun s w h hf => by have h0 := h 0 _ rfl; have f0 := hf 0; have h1 := h 1 _ rfl; have f1 := hf 1; have h2 := h 2 _ rfl; have f2 := hf 2; clear h hf; go_simp; try rfl), trivial⟩
  intro s9 w9 h; have HS9 := Aside0.mk h; clear h HS8
  refine tl0 ?_
  refine reg0 (aF := ?_) [evL 0 35 [] (fun s => .agg #[.slice (s8 1).A r3_0.length (s8 1).c, .slice (s8 1).B r3_1.length (s8 1).e, .slice (s8 1).C r3_2.length (s8 1).f]), evL 1 36 [] (fun s => .agg #[.slice (s9 1).A r4_0.length (s9 1).c, .slice (s9 1).B r4_1.length (s9 1).e, .slice (s9 1).C r4_2.length (s9 1).f]), evC 2 (some 37) [] (fun s x => .tuple #[.bool r5_0, .bool r5_1]) (fun s x => []), evP 3 34 [] (fun s => .tuple #[.bool r5_0, .bool r5_1]), evP 4 38 [] (fun s => .bool r5_0), evP 5 39 [] (fun s => .bool r5_1), evP 6 10 [] (fun s => .bool r5_0)] [7] false 8 rfl rfl (by kernel_rfl) rfl (fun _ => rfl) ?aF HS9.out ?hs ?_
  rotate_left 1
  case aF => intro s; simp only [putE, EvT.val, Act.put, setIfInBounds_toArray, set_cons_zero, set_cons_succ]; rfl
  case hs => exact ⟨ld rfl 3 (fun s => rfl) (fun s w h => by have h0 := h 0 _ rfl; have h1 := h 1 _ rfl; have h2 := h 2 _ rfl; clear h; go_simp; try rfl), ld rfl 1 (fun s => rfl) (fun s w h => by have h0 := h 0 _ rfl; have h1 := h 1 _ rfl; have h2 := h 2 _ rfl; clear h; go_simp; try rfl), cl rfl (fun s => #[.agg #[.slice (s8 1).A r3_0.length (s8 1).c, .slice (s8 1).B r3_1.length (s8 1).e, .slice (s8 1).C r3_2.length (s8 1).f], .agg #[.slice (s9 1).A r4_0.length (s9 1).c, .slice (s9 1).B r4_1.length (s9 1).e, .slice (s9 1).C r4_2.length (s9 1).f]]) Try.func49 (fun s w1 h => (impl_ShowsSame.calls _ _ _ _ _ _ _ _ _ _ _ _ _ _ _ _ _ _ _ _ _ _ (Kd.S_reads' (h.get 2 rfl).1).2.2 (Kd.S_reads' (h.get 2 rfl).1).2.1 (Kd.R_reads' (h.get 2 rfl).2.1).2.2 (Kd.R_reads' (h.get 2 rfl).2.1).2.1 (Kd.R_reads' (h.get 2 rfl).2.2).2.2 (Kd.R_reads' (h.get 2 rfl).2.2).2.1 (Kd.S_reads' (h.get 0 rfl).1).2.2 (Kd.S_reads' (h.get 0 rfl).1).2.1 (Kd.R_reads' (h.get 0 rfl).2.1).2.2 (Kd.R_reads' (h.get 0 rfl).2.1).2.1 (Kd.R_reads' (h.get 0 rfl).2.2).2.2 (Kd.R_reads' (h.get 0 rfl).2.2).2.1 H6.out).mono (by rintro e w2 ⟨rfl, hb⟩; exact fin0 hb)), pu rfl, pu rfl, pu rfl, pu rfl, trivial⟩
  intro s10 w10 h; have HS10 := Aside0.mk h; clear h HS9
  refine tlP (v := .bool r5_1) 11 rfl ?_
  refine tl0 ?_
  refine wp_seq ?_
  refine reg0 (aF := ?_) [evP 0 40 [] (fun s => .bool r5_0), evP 1 41 [] (fun s => .bool r5_0), evP 2 42 [] (fun s => .bool false), evP 3 43 [] (fun s => .bool false), evP 4 44 [] (fun s => .bool r5_1), evP 5 45 [] (fun s => .bool r5_1), evP 6 46 [] (fun s => .bool false), evP 7 47 [] (fun s => .bool false)] [] false 8 rfl rfl (by kernel_rfl) rfl (fun _ => rfl) ?aF HS10.out ?hs ?_
  rotate_left 1
  case aF => intro s; simp only [putE, EvT.val, Act.put, setIfInBounds_toArray, set_cons_zero, set_cons_succ]; rfl
  case hs => exact ⟨pu rfl, pu rfl, pn Try.underlying4 rfl, pu rfl, pu rfl, pu rfl, pn Try.underlying4 rfl, pu rfl, trivial⟩
  intro s11 w11 h; have HS11 := Aside0.mk h; clear h HS10
  refine tl0 ?_
  refine wp_cond_false rfl ?_
  refine wp_skip ?_
  refine thN ?_
  refine wp_seq ?_
  refine reg (aF := ?_) (nw := ?_) [evR 0 48 3 (fun s => .agg #[.slice (s8 1).A r3_0.length (s8 1).c, .slice (s8 1).B r3_1.length (s8 1).e, .slice (s8 1).C r3_2.length (s8 1).f]), evL 1 49 [] (fun s => .agg #[.slice A0_0 l0_0.length c0_0, .slice A0_1 l0_1.length c0_1, .slice A0_2 l0_2.length c0_2]), evC 2 (some 50) [] (fun s x => .agg #[.slice x.A r3_0.length x.c, .slice x.B r3_1.length x.e, .slice x.C r3_2.length x.f]) (fun s x => [⟨x.lo, x.hi, fun w_ => Kd.S (Kd.slice 5 (Kd.int .u8)) 119 w_ w.heap.size (fun k_ => x.lo ≤ k_ ∧ k_ < x.hi) (.slice x.A r3_0.length x.c) r3_0 ∧ Kd.R kimplWindow 48 w_ w.heap.size (fun k_ => x.lo ≤ k_ ∧ k_ < x.hi) (.slice x.B r3_1.length x.e) r3_1 ∧ Kd.R Kd.bool 4 w_ w.heap.size (fun k_ => x.lo ≤ k_ ∧ k_ < x.hi) (.slice x.C r3_2.length x.f) r3_2⟩]), evC 3 (some 51) [2] (fun s x => .bool true) (fun s x => []), evP 4 52 [] (fun s => .bool false)] [] [] true 5 rfl rfl (by kernel_rfl) rfl (mf0) ?aF ?nw HS11.out ?hs ?_
  rotate_left 2
  case aF => intro s; simp only [putE, EvT.val, Act.put, setIfInBounds_toArray, set_cons_zero, set_cons_succ]; rfl
  case nw => intro s; simp only [thA, bsA, List.nil_append, List.cons_append, List.append_nil, if_true, if_false, Nat.reduceLT, set_cons_zero, set_cons_succ]; rfl
  case hs => exact ⟨lr rfl 3 rfl (fun s w h => by have h0 := h 0 _ rfl; have h1 := h 1 _ rfl; have h2 := h 2 _ rfl; clear h; go_simp; try rfl), ld rfl 6 (fun s => rfl) (fun s w h => by have h0 := h 0 _ rfl; have h1 := h 1 _ rfl; have h2 := h 2 _ rfl; clear h; go_simp; try rfl), cl rfl (fun s => #[.agg #[.slice A0_0 l0_0.length c0_0, .slice A0_1 l0_1.length c0_1, .slice A0_2 l0_2.length c0_2]]) Try.func48 (fun s w1 h => (laws_toMachine.calls _ _ _ _ _ _ _ _ _ _ _ _ _ _ (Kd.C_below HR0_0.out h.hb) HC0_0.out (Kd.C_below HR0_1.out h.hb) HC0_1.out (Kd.C_below HR0_2.out h.hb) HC0_2.out H3.out).mono (by rintro e w2 ⟨v0_, v1_, v2_, rfl, ho0, ho1, ho2, hb⟩; obtain ⟨A0, c0, rfl⟩ := Kd.S_slice ho0; obtain ⟨A1, c1, rfl⟩ := Kd.R_slice ho1; obtain ⟨A2, c2, rfl⟩ := Kd.R_slice ho2; obtain ⟨lo, hi, hx⟩ := (Stk.nil w1).push hb (P := fun lo_ hi_ w_ => Kd.S (Kd.slice 5 (Kd.int .u8)) 119 w_ w.heap.size (fun k_ => lo_ ≤ k_ ∧ k_ < hi_) (.slice A0 r3_0.length c0) r3_0 ∧ Kd.R kimplWindow 48 w_ w.heap.size (fun k_ => lo_ ≤ k_ ∧ k_ < hi_) (.slice A1 r3_1.length c1) r3_1 ∧ Kd.R Kd.bool 4 w_ w.heap.size (fun k_ => lo_ ≤ k_ ∧ k_ < hi_) (.slice A2 r3_2.length c2) r3_2) (fun w_ ha => ⟨S_held ho0 h.hb.size ha, R_held ho1 h.hb.size ha, R_held ho2 h.hb.size ha⟩); exact ⟨⟨lo, hi, A0, c0, A1, c1, A2, c2⟩, rfl, hx⟩)), cl rfl (fun s => #[.agg #[.slice (s8 1).A r3_0.length (s8 1).c, .slice (s8 1).B r3_1.length (s8 1).e, .slice (s8 1).C r3_2.length (s8 1).f], .agg #[.slice (s 2).A r3_0.length (s 2).c, .slice (s 2).B r3_1.length (s 2).e, .slice (s 2).C r3_2.length (s 2).f]]) Try.func35 (fun s w1 h => (laws_eqMachine.calls _ _ _ _ _ _ _ _ _ _ _ _ _ _ _ _ _ _ _ _ _ (Kd.S_reads' (h.get 3 rfl).1).2.2 (Kd.S_reads' (h.get 3 rfl).1).2.1 (Kd.R_reads' (h.get 3 rfl).2.1).2.2 (Kd.R_reads' (h.get 3 rfl).2.1).2.1 (Kd.R_reads' (h.get 3 rfl).2.2).2.2 (Kd.R_reads' (h.get 3 rfl).2.2).2.1 (Kd.S_reads' (h.get 0 rfl).1).2.2 (Kd.S_reads' (h.get 0 rfl).1).2.1 (Kd.R_reads' (h.get 0 rfl).2.1).2.2 (Kd.R_reads' (h.get 0 rfl).2.1).2.1 (Kd.R_reads' (h.get 0 rfl).2.2).2.2 (Kd.R_reads' (h.get 0 rfl).2.2).2.1 H7.out).mono (by rintro e w2 ⟨rfl, hb⟩; exact fin0 hb)), pu rfl, trivial⟩
  intro s12 w12 h; have HS12 := Aside0.mk h; clear h HS11
  refine tl0 ?_
  refine wp_cond_false rfl ?_
  refine wp_skip ?_
  refine thN ?_
  refine wp_seq ?_
  refine reg (aF := ?_) (nw := ?_) [evR 0 53 2 (fun s => .agg #[.slice (s9 1).A r4_0.length (s9 1).c, .slice (s9 1).B r4_1.length (s9 1).e, .slice (s9 1).C r4_2.length (s9 1).f]), evL 1 54 [] (fun s => .agg #[.slice A1_0 l1_0.length c1_0, .slice A1_1 l1_1.length c1_1, .slice A1_2 l1_2.length c1_2]), evC 2 (some 55) [] (fun s x => .agg #[.slice x.A r4_0.length x.c, .slice x.B r4_1.length x.e, .slice x.C r4_2.length x.f]) (fun s x => [⟨x.lo, x.hi, fun w_ => Kd.S (Kd.slice 5 (Kd.int .u8)) 119 w_ w.heap.size (fun k_ => x.lo ≤ k_ ∧ k_ < x.hi) (.slice x.A r4_0.length x.c) r4_0 ∧ Kd.R kimplWindow 48 w_ w.heap.size (fun k_ => x.lo ≤ k_ ∧ k_ < x.hi) (.slice x.B r4_1.length x.e) r4_1 ∧ Kd.R Kd.bool 4 w_ w.heap.size (fun k_ => x.lo ≤ k_ ∧ k_ < x.hi) (.slice x.C r4_2.length x.f) r4_2⟩]), evC 3 (some 56) [2] (fun s x => .bool true) (fun s x => []), evP 4 57 [] (fun s => .bool false)] [] [] true 5 rfl rfl (by kernel_rfl) rfl (mf0) ?aF ?nw HS12.out ?hs ?_
  rotate_left 2
  case aF => intro s; simp only [putE, EvT.val, Act.put, setIfInBounds_toArray, set_cons_zero, set_cons_succ]; rfl
  case nw => intro s; simp only [thA, bsA, List.nil_append, List.cons_append, List.append_nil, if_true, if_false, Nat.reduceLT, set_cons_zero, set_cons_succ]; rfl
  case hs => exact ⟨lr rfl 2 rfl (fun s w h => by have h0 := h 0 _ rfl; have h1 := h 1 _ rfl; have h2 := h 2 _ rfl; clear h; go_simp; try rfl), ld rfl 8 (fun s => rfl) (fun s w h => by have h0 := h 0 _ rfl; have h1 := h 1 _ rfl; have h2 := h 2 _ rfl; clear h; go_simp; try rfl), cl rfl (fun s => #[.agg #[.slice A1_0 l1_0.length c1_0, .slice A1_1 l1_1.length c1_1, .slice A1_2 l1_2.length c1_2]]) Try.func48 (fun s w1 h => (laws_toMachine.calls _ _ _ _ _ _ _ _ _ _ _ _ _ _ (Kd.C_below HR1_0.out h.hb) HC1_0.out (Kd.C_below HR1_1.out h.hb) HC1_1.out (Kd.C_below HR1_2.out h.hb) HC1_2.out H4.out).mono (by rintro e w2 ⟨v0_, v1_, v2_, rfl, ho0, ho1, ho2, hb⟩; obtain ⟨A0, c0, rfl⟩ := Kd.S_slice ho0; obtain ⟨A1, c1, rfl⟩ := Kd.R_slice ho1; obtain ⟨A2, c2, rfl⟩ := Kd.R_slice ho2; obtain ⟨lo, hi, hx⟩ := (Stk.nil w1).push hb (P := fun lo_ hi_ w_ => Kd.S (Kd.slice 5 (Kd.int .u8)) 119 w_ w.heap.size (fun k_ => lo_ ≤ k_ ∧ k_ < hi_) (.slice A0 r4_0.length c0) r4_0 ∧ Kd.R kimplWindow 48 w_ w.heap.size (fun k_ => lo_ ≤ k_ ∧ k_ < hi_) (.slice A1 r4_1.length c1) r4_1 ∧ Kd.R Kd.bool 4 w_ w.heap.size (fun k_ => lo_ ≤ k_ ∧ k_ < hi_) (.slice A2 r4_2.length c2) r4_2) (fun w_ ha => ⟨S_held ho0 h.hb.size ha, R_held ho1 h.hb.size ha, R_held ho2 h.hb.size ha⟩); exact ⟨⟨lo, hi, A0, c0, A1, c1, A2, c2⟩, rfl, hx⟩)), cl rfl (fun s => #[.agg #[.slice (s9 1).A r4_0.length (s9 1).c, .slice (s9 1).B r4_1.length (s9 1).e, .slice (s9 1).C r4_2.length (s9 1).f], .agg #[.slice (s 2).A r4_0.length (s 2).c, .slice (s 2).B r4_1.length (s 2).e, .slice (s 2).C r4_2.length (s 2).f]]) Try.func35 (fun s w1 h => (laws_eqMachine.calls _ _ _ _ _ _ _ _ _ _ _ _ _ _ _ _ _ _ _ _ _ (Kd.S_reads' (h.get 2 rfl).1).2.2 (Kd.S_reads' (h.get 2 rfl).1).2.1 (Kd.R_reads' (h.get 2 rfl).2.1).2.2 (Kd.R_reads' (h.get 2 rfl).2.1).2.1 (Kd.R_reads' (h.get 2 rfl).2.2).2.2 (Kd.R_reads' (h.get 2 rfl).2.2).2.1 (Kd.S_reads' (h.get 0 rfl).1).2.2 (Kd.S_reads' (h.get 0 rfl).1).2.1 (Kd.R_reads' (h.get 0 rfl).2.1).2.2 (Kd.R_reads' (h.get 0 rfl).2.1).2.1 (Kd.R_reads' (h.get 0 rfl).2.2).2.2 (Kd.R_reads' (h.get 0 rfl).2.2).2.1 H8.out).mono (by rintro e w2 ⟨rfl, hb⟩; exact fin0 hb)), pu rfl, trivial⟩
  intro s13 w13 h; have HS13 := Aside0.mk h; clear h HS12
  refine tl0 ?_
  refine wp_cond_false rfl ?_
  refine wp_skip ?_
  refine thN ?_
  refine reg0 (aF := ?_) [] [0] false 1 rfl rfl (by kernel_rfl) rfl (fun _ => rfl) ?aF HS13.out ?hs ?_
  rotate_left 1
  case aF => intro s; simp only [putE, EvT.val, Act.put, setIfInBounds_toArray, set_cons_zero, set_cons_succ]; rfl
  case hs => exact trivial
  intro s14 w14 h; have HS14 := Aside0.mk h; clear h HS13
  refine tlP (v := .bool true) 4 rfl ?_
  refine tl0 ?_
  refine wp_ret ?_
  go_ret
  exact ⟨by first | rfl | simp, HS14.out.hb⟩
end Go.Proofs.Ytoomjghabiojkaa.P


/- The law FnExactShowsSame. -/
namespace Go.Proofs.Ytoomjghabiojkaa.P
open Go.RowKit Go.Proofs.YtoomjghabiojkaaW.PrintWords Go.Proofs.YtoomjghabiojkaaW.Mine
set_option linter.unusedVariables false
theorem FnExactShowsSame_walk (w : World) (cs0 : Array Value) (a0 : ((List (List Int)) × ((List SlawsWindow) × (List Bool)))) (hK0 : (Kd.pair (Kd.slice 119 (Kd.slice 5 (Kd.int .u8))) (Kd.pair (Kd.slice 47 klawsWindow) (Kd.slice 4 Kd.bool))).K w a0 cs0.toList) (ok0 : ((∀ y1 ∈ a0.1, (∀ y2 ∈ y1, (Lit.int .u8 y2).wf = true)) ∧ ((∀ y1 ∈ a0.2.1, ((Lit.int .i64 y1.f0).wf = true ∧ (Lit.int .i64 y1.f1).wf = true ∧ (Lit.int .i64 y1.f2).wf = true ∧ (Lit.int .i64 y1.f3).wf = true)) ∧ (∀ y1 ∈ a0.2.2, True)))) (cs1 : Array Value) (a1 : ((List (List Int)) × ((List SlawsWindow) × (List Bool)))) (hK1 : (Kd.pair (Kd.slice 119 (Kd.slice 5 (Kd.int .u8))) (Kd.pair (Kd.slice 47 klawsWindow) (Kd.slice 4 Kd.bool))).K w a1 cs1.toList) (ok1 : ((∀ y1 ∈ a1.1, (∀ y2 ∈ y1, (Lit.int .u8 y2).wf = true)) ∧ ((∀ y1 ∈ a1.2.1, ((Lit.int .i64 y1.f0).wf = true ∧ (Lit.int .i64 y1.f1).wf = true ∧ (Lit.int .i64 y1.f2).wf = true ∧ (Lit.int .i64 y1.f3).wf = true)) ∧ (∀ y1 ∈ a1.2.2, True)))) :
    Calls Try.prog 8 #[.agg cs0, .agg cs1] w fun e w' => e = .returned (.bool true) ∧ Below w.heap.size w w' := by
  obtain ⟨m0, l0, s0⟩ := a0
  obtain ⟨_, _, hcs0, ⟨A0, c0, rfl, hc0, hr0⟩, ⟨_, _, rfl, ⟨B0, d0, rfl, hd0, hq0⟩, ⟨C0, e0, rfl, he0, ht0⟩⟩⟩ := hK0
  obtain rfl := agg_of hcs0
  obtain ⟨m1, l1, s1⟩ := a1
  obtain ⟨_, _, hcs1, ⟨A1, c1, rfl, hc1, hr1⟩, ⟨_, _, rfl, ⟨B1, d1, rfl, hd1, hq1⟩, ⟨C1, e1, rfl, he1, ht1⟩⟩⟩ := hK1
  obtain rfl := agg_of hcs1
  have hwf : ∀ x ∈ l0.map winOf, wfW x := by intro x hx; obtain ⟨y, hy, rfl⟩ := List.mem_map.1 hx; have h := ok0.2.1 y hy; exact ⟨wf_i64 h.1, wf_i64 h.2.1, wf_i64 h.2.2.1, wf_i64 h.2.2.2⟩
  have hwf' : ∀ x ∈ l1.map winOf, wfW x := by intro x hx; obtain ⟨y, hy, rfl⟩ := List.mem_map.1 hx; have h := ok1.2.1 y hy; exact ⟨wf_i64 h.1, wf_i64 h.2.1, wf_i64 h.2.2.1, wf_i64 h.2.2.2⟩
  have hb0 : ∀ x ∈ m0, byteR x := fun x hx y hy => wf_u8 (ok0.1 x hx y hy)
  have hb1 : ∀ x ∈ m1, byteR x := fun x hx y hy => wf_u8 (ok1.1 x hx y hy)
  obtain ⟨r, hz, hh⟩ := szMachine_f m0 l0 s0 1048576 (by omega) (by omega) hr0.2.1 (C_inner_len hr0) hq0.2.1 ht0.2.1
  rcases hh with ⟨⟨h4, h5, h6⟩, h7⟩ | rfl
  · obtain ⟨r', hz', hh'⟩ := szMachine_f m1 l1 s1 r h7.1 (by omega) hr1.2.1 (C_inner_len hr1) hq1.2.1 ht1.2.1
    rcases hh' with ⟨⟨h4', h5', h6'⟩, h7'⟩ | rfl
    · have hl0 : (l0.map winOf).length ≤ 1048576 := by simpa using h5
      have hl1 : (l1.map winOf).length ≤ 1048576 := by simpa using h5'
      exact FnExactShowsSame_run A0 c0 m0 B0 d0 l0 C0 e0 s0 A1 c1 m1 B1 d1 l1 C1 e1 s1 _ _ _ _ _ _ _ _ _ _ w hr0 hc0 hq0 hd0 ht0 he0 hr1 hc1 hq1 hd1 ht1 he1 hz.rounds hz'.rounds (toMachine_f m0 l0 s0 h4 h5 h6).rounds (toMachine_f m1 l1 s1 h4' h5' h6').rounds (specShows_f m0 m1 (l0.map winOf) (l1.map winOf) s0 s1 h4 h4' hwf hwf' hb0 hb1).rounds (implShows_f m0 m1 (l0.map winOf) (l1.map winOf) s0 s1 h4 h4').rounds (eqMachine_f m0 (l0.map winOf) s0 h4 hl0 h6).rounds (eqMachine_f m1 (l1.map winOf) s1 h4' hl1 h6').rounds (by omega) (by omega)
    · exact FnExactShowsSame_run1 A0 c0 m0 B0 d0 l0 C0 e0 s0 A1 c1 m1 B1 d1 l1 C1 e1 s1 _ _ w hr0 hc0 hq0 hd0 ht0 he0 hr1 hc1 hq1 hd1 ht1 he1 hz.rounds hz'.rounds (by omega) (by omega)
  · exact FnExactShowsSame_run0 A0 c0 m0 B0 d0 l0 C0 e0 s0 A1 c1 m1 B1 d1 l1 C1 e1 s1 _ w hr0 hc0 hq0 hd0 ht0 he0 hr1 hc1 hq1 hd1 ht1 he1 hz.rounds (by omega)
end Go.Proofs.Ytoomjghabiojkaa.P


namespace Go.Proofs.Ytoomjghabiojkaa.fnExactShowsSame
open Go.ChangeShapes Go.WideShapes Go.ChangeAt Go.RowKit Go.Proofs.YtoomjghabiojkaaW.PrintWords Go.Proofs.YtoomjghabiojkaaW.Mine Go.Proofs.Ytoomjghabiojkaa.P
open Go.ChangeMaps (open_string shut_string)
set_option linter.unusedVariables false
theorem own : ownKnob Try.prog.godebug = none := by kernel_rfl
theorem laidOut : laidOutB Try.prog = true := by kernel_rfl
set_option maxRecDepth 100000 in
theorem lifted (os : Os) (started : os.Started) (H : Type) (enc : TypeId × Value → H) :
    ReturnsInHanded {} Try.checked os 8 .any (Rows.fnExactShowsSameSpec.pre6 enc Try.prog Try.f8 Rows.fnExactShowsSameRow.domain false) (Rows.fnExactShowsSameSpec.post enc Try.prog Try.f8 false true false false) := by
  refine returnsInHanded_of_change_sized (C := Try.checked) own started (by kernel_rfl) Try.func8
    (ChangeSpec.witness6 (enc := enc) (C := Try.checked) false ⟨#[], #[.agg #[.slice none 0 0, .slice none 0 0, .slice none 0 0], .agg #[.slice none 0 0, .slice none 0 0, .slice none 0 0]], []⟩ 8 (by kernel_rfl) (by kernel_rfl) (by kernel_rfl) (by kernel_rfl)) ?_
  intro W base args ds gs before hval0 hW hcnd hsz0 _
  have hval : ∀ (j : Nat) t v, Try.f8.params[j]? = some t → args[j]? = some v → Value.okWide Try.prog W .any base t v := hval0
  have hW' := hW
  obtain ⟨p, q, hA0, hV, rfl, hfz, hnd⟩ := hW
  have hA : DataW.TrodAll enc Try.prog W 0 (fun _ => true) true Try.f8.params.toList args.toList ds p := hA0
  rw [Try.params8] at hA hval
  obtain ⟨v0, vs0, d0, ds0, p0, q0, hargs, rfl, rfl, h0, r0⟩ := trodAll_cons hA
  obtain ⟨v1, vs1, d1, ds1, p1, q1, rfl, rfl, rfl, h1, r1⟩ := trodAll_cons r0
  obtain ⟨rfl, rfl, rfl⟩ := trodAll_nil r1
  obtain rfl : args = #[v0, v1] := by cases args; simp_all
  obtain ⟨rfl, rfl⟩ := trodVars_none hV
  have k0 := h0
  have lt0 : ∀ x ∈ p0, x.block < W.heap.size := by obtain ⟨m, hm⟩ := k0; exact DataW.trod_lt m _ _ _ hm
  obtain ⟨cs0, rfl, _⟩ := okWide_struct Try.underlying78 (hval 0 78 v0 rfl rfl)
  obtain ⟨a0, hK0, ok0⟩ : ∃ a : ((List (List Int)) × ((List SlawsWindow) × (List Bool))), (Kd.pair (Kd.slice 119 (Kd.slice 5 (Kd.int .u8))) (Kd.pair (Kd.slice 47 klawsWindow) (Kd.slice 4 Kd.bool))).K W a cs0.toList ∧ ((∀ y1 ∈ a.1, (∀ y2 ∈ y1, (Lit.int .u8 y2).wf = true)) ∧ ((∀ y1 ∈ a.2.1, ((Lit.int .i64 y1.f0).wf = true ∧ (Lit.int .i64 y1.f1).wf = true ∧ (Lit.int .i64 y1.f2).wf = true ∧ (Lit.int .i64 y1.f3).wf = true)) ∧ (∀ y1 ∈ a.2.2, True))) := by obtain ⟨fuel, hf⟩ := h0; exact (ReadsK.struct Try.underlying78 (by kernel_rfl) (ReadsF.cons rfl (ReadsK.struct Try.underlying24 (by kernel_rfl) (ReadsF.last rfl (ReadsK.slice Try.underlying22 (by kernel_rfl) (ReadsK.slice Try.underlying119 (by kernel_rfl) (ReadsK.int Try.underlying5))) (by kernel_rfl))) (by kernel_rfl) (ReadsF.cons rfl (ReadsK.slice Try.underlying38 (by kernel_rfl) (ReadsK.iso (ReadsK.struct Try.underlying47 (by kernel_rfl) (ReadsF.cons rfl (ReadsK.int Try.underlying3) (by kernel_rfl) (ReadsF.cons rfl (ReadsK.int Try.underlying3) (by kernel_rfl) (ReadsF.cons rfl (ReadsK.int Try.underlying3) (by kernel_rfl) (ReadsF.last rfl (ReadsK.int Try.underlying3) (by kernel_rfl)))))) (fun x : SlawsWindow => (x.f0, x.f1, x.f2, x.f3)) (fun a => (⟨a.1, a.2.1, a.2.2.1, a.2.2.2⟩ : SlawsWindow)) (fun _ => rfl))) (by kernel_rfl) (ReadsF.last rfl (ReadsK.slice Try.underlying58 (by kernel_rfl) (ReadsK.bool Try.underlying4)) (by kernel_rfl))))) hf
  have k1 := h1
  have lt1 : ∀ x ∈ p1, x.block < W.heap.size := by obtain ⟨m, hm⟩ := k1; exact DataW.trod_lt m _ _ _ hm
  obtain ⟨cs1, rfl, _⟩ := okWide_struct Try.underlying78 (hval 1 78 v1 rfl rfl)
  obtain ⟨a1, hK1, ok1⟩ : ∃ a : ((List (List Int)) × ((List SlawsWindow) × (List Bool))), (Kd.pair (Kd.slice 119 (Kd.slice 5 (Kd.int .u8))) (Kd.pair (Kd.slice 47 klawsWindow) (Kd.slice 4 Kd.bool))).K W a cs1.toList ∧ ((∀ y1 ∈ a.1, (∀ y2 ∈ y1, (Lit.int .u8 y2).wf = true)) ∧ ((∀ y1 ∈ a.2.1, ((Lit.int .i64 y1.f0).wf = true ∧ (Lit.int .i64 y1.f1).wf = true ∧ (Lit.int .i64 y1.f2).wf = true ∧ (Lit.int .i64 y1.f3).wf = true)) ∧ (∀ y1 ∈ a.2.2, True))) := by obtain ⟨fuel, hf⟩ := h1; exact (ReadsK.struct Try.underlying78 (by kernel_rfl) (ReadsF.cons rfl (ReadsK.struct Try.underlying24 (by kernel_rfl) (ReadsF.last rfl (ReadsK.slice Try.underlying22 (by kernel_rfl) (ReadsK.slice Try.underlying119 (by kernel_rfl) (ReadsK.int Try.underlying5))) (by kernel_rfl))) (by kernel_rfl) (ReadsF.cons rfl (ReadsK.slice Try.underlying38 (by kernel_rfl) (ReadsK.iso (ReadsK.struct Try.underlying47 (by kernel_rfl) (ReadsF.cons rfl (ReadsK.int Try.underlying3) (by kernel_rfl) (ReadsF.cons rfl (ReadsK.int Try.underlying3) (by kernel_rfl) (ReadsF.cons rfl (ReadsK.int Try.underlying3) (by kernel_rfl) (ReadsF.last rfl (ReadsK.int Try.underlying3) (by kernel_rfl)))))) (fun x : SlawsWindow => (x.f0, x.f1, x.f2, x.f3)) (fun a => (⟨a.1, a.2.1, a.2.2.1, a.2.2.2⟩ : SlawsWindow)) (fun _ => rfl))) (by kernel_rfl) (ReadsF.last rfl (ReadsK.slice Try.underlying58 (by kernel_rfl) (ReadsK.bool Try.underlying4)) (by kernel_rfl))))) hf
  clear hA0 hval0 hsz0
  refine (FnExactShowsSame_walk W cs0 a0 hK0 ok0 cs1 a1 hK1 ok1).mono fun e W' ⟨he, bel⟩ => ?_
  subst he
  exact ⟨_, rfl, _, _, _, [], _, [], hW', trodAll_mk1 (shut_bool Try.underlying4 _), (trodAll_cons_mk (Below.trod laidOut (by kernel_rfl) (of_decide_eq_true (by kernel_rfl)) k0 bel lt0) (trodAll_cons_mk (Below.trod laidOut (by kernel_rfl) (of_decide_eq_true (by kernel_rfl)) k1 bel lt1) trodAll_mk0)), rfl, bel.frame _, fun h => by cases h⟩
theorem over : Rows.fnExactShowsSameRow.holds Try.pinned (OpenSpec.ofChange Rows.fnExactShowsSameSpec) :=
  OpenClaim.holds_of_wide 8 Try.f8 rfl rfl rfl rfl rfl rfl rfl ⟨rfl, rfl, rfl, rfl, rfl⟩ rfl rfl rfl rfl rfl (by kernel_rfl) Try.func8 (by kernel_rfl)
    (of_decide_eq_true (by kernel_rfl)) (by unfold Func.isWrapper; first | (rw [if_pos (by decide +kernel)]; kernel_rfl) | (rw [if_neg (by decide +kernel)]; exact ⟨rfl, rfl⟩))
    (fun os started H enc _ => lifted os started H enc)
theorem proved : Rows.FnExactShowsSameSaid := over
end Go.Proofs.Ytoomjghabiojkaa.fnExactShowsSame
namespace Go.Proofs.Ytoomjghabiojkaa
theorem fnExactShowsSame_holds : Rows.FnExactShowsSameSaid := fnExactShowsSame.proved
#print axioms fnExactShowsSame_holds
end Go.Proofs.Ytoomjghabiojkaa


