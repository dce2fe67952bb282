/- Part 4 of the proof of the law FnExactGrowWindow: contracts of the functions that it reaches. -/
import Derived.Test.YtaieobidkmihkaaQFnExactGrowWindow3
-- written by wip/gen_fn.py
namespace Go.Proofs.Ytaieobidkmihkaa.P
open Go.RowKit Go.Proofs.YtaieobidkmihkaaW.PrintWords Go.Proofs.YtaieobidkmihkaaW.PrintLast Go.Proofs.YtaieobidkmihkaaW.PrintMore Go.Proofs.YtaieobidkmihkaaW.Mine
open List (setIfInBounds_toArray set_cons_zero set_cons_succ)
attribute [local go_sem] max2_int min2_int max_two min_two max_three min_three max_four min_four
set_option linter.unusedVariables false
set_option linter.unusedSimpArgs false
set_option maxHeartbeats 8000000 in
set_option maxRecDepth 100000 in
theorem impl_Memory_appended_w0 (a0_0 : Int) (a0_1 : Int) (a0_2 : Int) (a0_3 : Int) (A1_0 : Option Addr) (c1_0 : Nat) (l1_0 : List Int) (bp0 g0 gr cap mc : Nat) (cur : Array Value) (mp : List (List Int)) (row : List Int) (w : World) (hr1_0 : Kd.C (Kd.int .u8) w A1_0 l1_0.length l1_0) (hc1_0 : l1_0.length ≤ c1_0) (hbxbp0 : bx bp0 #[.slice (some ⟨g0, 0, none⟩) mp.length mc] 31 w) (hnebp0 : bp0 ≠ gr) (hcell : w.cell? ⟨g0, a0_0.toNat, none⟩ = some (.slice (some ⟨gr, 0, none⟩) row.length cap)) (hrow : w.heap[gr]? = some (.cells cur 5 (0, 0))) (hle : row.length ≤ cap) (hcs : cur.size = cap) (htk : cur.toList.take row.length = row.map (fun x => Value.int .u8 x)) (T0 : (decide (a0_2 + (l1_0.length : Int) ≤ a0_3)) = true) (F0 : 0 ≤ a0_0) (F1 : a0_0 < (mp.length : Int)) (F2 : 0 ≤ a0_1) (F3 : 0 ≤ a0_2) (F4 : a0_2 ≤ a0_3) (F5 : a0_3 ≤ 64) (F6 : a0_1 + a0_3 ≤ (row.length : Int)) (F7 : row.length ≤ 64) (F8 : mp.length ≤ 16) (F9 : l1_0.length ≤ 1048576) (F10 : a0_2 + (l1_0.length : Int) ≤ a0_3) :
    Calls Try.prog 93 #[.pointer (some ⟨bp0, 0, none⟩), .agg #[.int .i64 a0_0, .int .i64 a0_1, .int .i64 a0_2, .int .i64 a0_3], .slice A1_0 l1_0.length c1_0] w fun e w' => e = .returned (.tuple #[.agg #[.int .i64 a0_0, .int .i64 a0_1, .int .i64 (a0_2 + (l1_0.length : Int)), .int .i64 a0_3], .bool true]) ∧ ∃ cur_ : Array Value, cur_.size = cur.size ∧ cur_.toList.take row.length = (spl row (0 + ((a0_1 + a0_2).toNat)) (l1_0.take (row.length - ((a0_1 + a0_2).toNat)))).map (fun x => Value.int .u8 x) ∧ Below w.heap.size (w.setRow gr cur_) w' := by
  have HR1_0 := Aside0.mk hr1_0; have HC1_0 := Aside0.mk hc1_0; clear hr1_0 hc1_0
  have HXbp0 := Aside0.mk hbxbp0; have HNEbp0 := Aside0.mk hnebp0; have HCELL := Aside0.mk hcell; have HROW := Aside0.mk hrow; have HTK := Aside0.mk htk; clear hbxbp0 hnebp0 hcell hrow htk
  have Hbp0 := Aside0.mk (fun j u (hj : (#[.slice (some ⟨g0, 0, none⟩) mp.length mc] : Array Value)[j]? = some u) => (blk_cell HXbp0.out j).trans hj)
  have T0_ := Aside0.mk T0; clear T0; have T0 := T0_; clear T0_
  have HS0 : Aside0 (Stk w [] w) := ⟨Stk.nil w⟩
  go_enter Try.func93, Try.ntmps93
  refine reg (aF := ?_) (nw := ?_) [evB 0 4 [] 32 (fun s => #[.int .i64 a0_0, .int .i64 a0_1, .int .i64 a0_2, .int .i64 a0_3]) 9999 [] (fun s => #[.int .i64 a0_0, .int .i64 a0_1, .int .i64 a0_2, .int .i64 a0_3]), evB 1 6 [] 32 (fun s => #[.int .i64 0, .int .i64 0, .int .i64 0, .int .i64 0]) 9999 [] (fun s => #[.int .i64 0, .int .i64 0, .int .i64 0, .int .i64 0]), evP 2 7 [] (fun s => .bool false)] [] [] false 3 rfl rfl (by kernel_rfl) rfl (mf0) ?aF ?nw HS0.out ?hs ?_
  rotate_left 2
  case aF => intro s; simp only [putE, EvT.val, Act.put, setIfInBounds_toArray, set_cons_zero, set_cons_succ]; rfl
  case nw => intro s; simp only [thA, bsA, List.nil_append, List.cons_append, List.append_nil, if_true, if_false, Nat.reduceLT, set_cons_zero, set_cons_succ]; rfl
  case hs => exact ⟨bv rfl (fun s w => by go_simp; try rfl), bv rfl (fun s w => by go_simp; try rfl), pu rfl, trivial⟩
  intro s1 w1 h; have HS1 := Aside0.mk h; clear h HS0
  refine tl0 ?_
  refine reg0 (aF := ?_) [evP 0 11 [] (fun s => .pointer (some ⟨(s1 0).lo, 1, none⟩)), evR 1 12 0 (fun s => .int .i64 a0_1), evP 2 13 [] (fun s => .pointer (some ⟨(s1 0).lo, 2, none⟩)), evR 3 14 0 (fun s => .int .i64 a0_2), evP 4 15 [] (fun s => .int .i64 (a0_1 + a0_2)), evP 5 16 [] (fun s => .pointer (some ⟨(s1 0).lo, 2, none⟩)), evR 6 17 0 (fun s => .int .i64 a0_2), evP 7 18 [] (fun s => .slice A1_0 l1_0.length c1_0), evP 8 19 [] (fun s => .int .i64 (l1_0.length : Int)), evP 9 20 [] (fun s => .int .i64 (a0_2 + (l1_0.length : Int))), evP 10 8 [] (fun s => .int .i64 (a0_1 + a0_2))] [11] true 12 rfl rfl (by kernel_rfl) rfl (fun _ => rfl) ?aF HS1.out ?hs ?_
  rotate_left 1
  case aF => intro s; simp only [putE, EvT.val, Act.put, setIfInBounds_toArray, set_cons_zero, set_cons_succ]; rfl
  case hs => exact ⟨pu rfl (hr := fun s w => by go_simp; try rfl), lr rfl 0 rfl (fun s w h => by have h0 := h 0 _ rfl; have h1 := h 1 _ rfl; have h2 := h 2 _ rfl; have h3 := h 3 _ rfl; clear h; go_simp; try rfl), pu rfl (hr := fun s w => by go_simp; try rfl), lr rfl 0 rfl (fun s w h => by have h0 := h 0 _ rfl; have h1 := h 1 _ rfl; have h2 := h 2 _ rfl; have h3 := h 3 _ rfl; clear h; go_simp; try rfl), pa .add (r := a0_1 + a0_2) (.inl ⟨rfl, (i64_ok (n := a0_1 + a0_2) (by omega) (by omega))⟩) rfl, pu rfl (hr := fun s w => by go_simp; try rfl), lr rfl 0 rfl (fun s w h => by have h0 := h 0 _ rfl; have h1 := h 1 _ rfl; have h2 := h 2 _ rfl; have h3 := h 3 _ rfl; clear h; go_simp; try rfl), pu rfl, pu rfl (hr := fun s w => by go_simp; try rfl), pa .add (r := a0_2 + (l1_0.length : Int)) (.inl ⟨rfl, (i64_ok (n := a0_2 + (l1_0.length : Int)) (by omega) (by omega))⟩) rfl, pu rfl, trivial⟩
  intro s2 w2 h; have HS2 := Aside0.mk h; clear h HS1
  refine tlP (v := .int .i64 (a0_2 + (l1_0.length : Int))) 9 rfl ?_
  simp only [Act.put, setIfInBounds_toArray, set_cons_zero, set_cons_succ]
  refine tl0 ?_
  refine wp_seq ?_
  refine reg0 (aF := ?_) [evP 0 21 [] (fun s => .int .i64 (a0_2 + (l1_0.length : Int))), evP 1 22 [] (fun s => .pointer (some ⟨(s1 0).lo, 3, none⟩)), evL 2 23 [] (fun s => .int .i64 a0_3), evP 3 24 [] (fun s => .bool true)] [] false 4 rfl rfl (by kernel_rfl) rfl (fun _ => rfl) ?aF HS2.out ?hs ?_
  rotate_left 1
  case aF => intro s; simp only [putE, EvT.val, Act.put, setIfInBounds_toArray, set_cons_zero, set_cons_succ]; rfl
  case hs => exact ⟨pu rfl, pu rfl (hr := fun s w => by go_simp; try rfl), ld rfl 0 (fun s => rfl) (fun s w h => by have h0 := h 0 _ rfl; have h1 := h 1 _ rfl; have h2 := h 2 _ rfl; have h3 := h 3 _ rfl; clear h; go_simp; try rfl), pb (q := .leq) T0.out rfl, trivial⟩
  intro s3 w3 h; have HS3 := Aside0.mk h; clear h HS2
  refine tl0 ?_
  refine wp_cond_true rfl ?_
  refine reg0 (aF := ?_) [evP 0 25 [] (fun s => .pointer (some ⟨bp0, 0, none⟩)), evP 1 26 [] (fun s => .pointer (some ⟨bp0, 0, none⟩)), evP 2 27 [] (fun s => .pointer (some ⟨bp0, 0, none⟩)), evL 3 28 [] (fun s => .slice (some ⟨g0, 0, none⟩) mp.length mc), evP 4 29 [] (fun s => .pointer (some ⟨(s1 0).lo, 0, none⟩)), evL 5 30 [] (fun s => .int .i64 a0_0), evP 6 31 [] (fun s => .pointer (some ⟨g0, a0_0.toNat, none⟩)), evL 7 32 [] (fun s => .slice (some ⟨gr, 0, none⟩) row.length cap), evP 8 33 [] (fun s => .int .i64 (a0_1 + a0_2)), evP 9 34 [] (fun s => .slice (cutA (some ⟨gr, 0, none⟩) ((a0_1 + a0_2).toNat) cap) (row.length - ((a0_1 + a0_2).toNat)) (cap - ((a0_1 + a0_2).toNat))), evP 10 35 [] (fun s => .slice A1_0 l1_0.length c1_0)] [11] true 12 rfl rfl (by kernel_rfl) rfl (fun _ => rfl) ?aF HS3.out ?hs ?_
  rotate_left 1
  case aF => intro s; simp only [putE, EvT.val, Act.put, setIfInBounds_toArray, set_cons_zero, set_cons_succ]; rfl
  case hs => exact ⟨pu rfl, pu rfl (hr := fun s w => by go_simp; try rfl), pu rfl (hr := fun s w => by go_simp; try rfl), lo rfl Hbp0.out (fun s w h => by have h0 := h 0 _ rfl; clear h; go_simp; try rfl), pu rfl (hr := fun s w => by go_simp; try rfl), ld rfl 0 (fun s => rfl) (fun s w h => by have h0 := h 0 _ rfl; have h1 := h 1 _ rfl; have h2 := h 2 _ rfl; have h3 := h 3 _ rfl; clear h; go_simp; try rfl), pu rfl (hr := fun s w => by go_simp; try rfl), lo rfl (one_at HCELL.out) (fun s w h => by have h0 := h 0 _ rfl; clear h; go_simp; try rfl), pu rfl, cl_ rfl (by omega) (by omega), pu rfl, trivial⟩
  intro s4 w4 h; have HS4 := Aside0.mk h; clear h HS3
  refine tlCopyOld (some 36) rfl HS4.out (bs := (l1_0.take (row.length - ((a0_1 + a0_2).toNat)))) HROW.out (by omega) HTK.out (Al.cut (C := cap) (al_self gr row.length) ((a0_1 + a0_2).toNat) (row.length - ((a0_1 + a0_2).toNat)) (by omega) (by omega)) (len_take rfl _) (fit_take (by omega)) ((bytes_C (Kd.C_below HR1_0.out HS4.out.hb)).take _) (fun cur2 wq2 hsz2 htk2 h => ?_)
  have HQ2 := Aside0.mk h; clear h HS4
  have HROW2 := Aside0.mk (setRow_heap w gr _ cur2 _ _ HROW.out); have HTK := Aside0.mk (show cur2.toList.take (spl row (0 + ((a0_1 + a0_2).toNat)) (l1_0.take (row.length - ((a0_1 + a0_2).toNat)))).length = (spl row (0 + ((a0_1 + a0_2).toNat)) (l1_0.take (row.length - ((a0_1 + a0_2).toNat)))).map (fun x => Value.int .u8 x) by rw [spl_length _ _ _ (fit_take (by omega))]; exact htk2)
  have := spl_length row (0 + ((a0_1 + a0_2).toNat)) (l1_0.take (row.length - ((a0_1 + a0_2).toNat))) (fit_take (by omega))
  have n_ := Aside0.mk ((setRow_other w gr bp0 cur2 HNEbp0.out).trans HXbp0.out); clear HXbp0 Hbp0; have HXbp0 : Aside0 (bx bp0 #[.slice (some ⟨g0, 0, none⟩) mp.length mc] 31 (w.setRow gr cur2)) := n_; clear n_
  have Hbp0 : Aside0 (∀ j u, (#[.slice (some ⟨g0, 0, none⟩) mp.length mc] : Array Value)[j]? = some u → (w.setRow gr cur2).cell? ⟨bp0, j, none⟩ = some u) := ⟨fun j u hj => (blk_cell HXbp0.out j).trans hj⟩
  simp only [Act.put, setIfInBounds_toArray, set_cons_zero, set_cons_succ]
  refine tl0 ?_
  refine reg (aF := ?_) (nw := ?_) [evP 0 37 [] (fun s => .pointer (some ⟨(s1 0).lo, 0, none⟩)), evL 1 38 [] (fun s => .int .i64 a0_0), evP 2 39 [] (fun s => .pointer (some ⟨(s1 0).lo, 1, none⟩)), evL 3 40 [] (fun s => .int .i64 a0_1), evP 4 41 [] (fun s => .int .i64 (a0_2 + (l1_0.length : Int))), evP 5 42 [] (fun s => .pointer (some ⟨(s1 0).lo, 3, none⟩)), evL 6 43 [] (fun s => .int .i64 a0_3), evP 7 44 [] (fun s => .agg #[.int .i64 a0_0, .int .i64 a0_1, .int .i64 (a0_2 + (l1_0.length : Int)), .int .i64 a0_3]), evS 8] [9] [⟨1, 8, [], fun s => boxT (s1 1).lo #[.int .i64 a0_0, .int .i64 a0_1, .int .i64 (a0_2 + (l1_0.length : Int)), .int .i64 a0_3] 32⟩] false 10 rfl rfl (by kernel_rfl) rfl ((mf1 mf0)) ?aF ?nw HQ2.out ?hs ?_
  rotate_left 2
  case aF => intro s; simp only [putE, EvT.val, Act.put, setIfInBounds_toArray, set_cons_zero, set_cons_succ]; rfl
  case nw => intro s; simp only [thA, bsA, List.nil_append, List.cons_append, List.append_nil, if_true, if_false, Nat.reduceLT, set_cons_zero, set_cons_succ]; rfl
  case hs => exact ⟨pu rfl (hr := fun s w => by go_simp; try rfl), ld rfl 0 (fun s => rfl) (fun s w h => by have h0 := h 0 _ rfl; have h1 := h 1 _ rfl; have h2 := h 2 _ rfl; have h3 := h 3 _ rfl; clear h; go_simp; try rfl), pu rfl (hr := fun s w => by go_simp; try rfl), ld rfl 0 (fun s => rfl) (fun s w h => by have h0 := h 0 _ rfl; have h1 := h 1 _ rfl; have h2 := h 2 _ rfl; have h3 := h 3 _ rfl; clear h; go_simp; try rfl), pu rfl, pu rfl (hr := fun s w => by go_simp; try rfl), ld rfl 0 (fun s => rfl) (fun s w h => by have h0 := h 0 _ rfl; have h1 := h 1 _ rfl; have h2 := h 2 _ rfl; have h3 := h 3 _ rfl; clear h; go_simp; try rfl), pu rfl (hr := fun s w => by go_simp; try rfl), sb rfl 0 1 0 (fun s => [.int .i64 a0_0, .int .i64 a0_1, .int .i64 (a0_2 + (l1_0.length : Int)), .int .i64 a0_3]) rfl rfl (fun s w h hf => by have h0 := h 0 _ rfl; have f0 := hf 0; have h1 := h 1 _ rfl; have f1 := hf 1; have h2 := h 2 _ rfl; have f2 := hf 2; have h3 := h 3 _ rfl; have f3 := hf 3; clear h hf; go_simp; try rfl), trivial⟩
  intro s5 w5 h; have HS5 := Aside0.mk h; clear h HQ2
  refine tlP (v := .bool true) 7 rfl ?_
  simp only [Act.put, setIfInBounds_toArray, set_cons_zero, set_cons_succ]
  refine tl0 ?_
  refine wp_ret ?_
  try simp only [Exit.inBlock, Exit.then]
  refine bodyPost_ret (results_list (rs := [.cell 6 32, .tmp 7]) rfl (by simp) (.cell (s1 1).lo 32 #[.int .i64 a0_0, .int .i64 a0_1, .int .i64 (a0_2 + (l1_0.length : Int)), .int .i64 a0_3] (0, 0) _ rfl (show bx (s1 1).lo #[.int .i64 a0_0, .int .i64 a0_1, .int .i64 (a0_2 + (l1_0.length : Int)), .int .i64 a0_3] 32 _ from HS5.out.get 1 rfl) Try.underlying32 rfl (by kernel_rfl) (.tmp .nil))) rfl ?_
  exact ⟨by first | rfl | simp, cur2, hsz2, htk2, by have h_ := HS5.out.hb; simp only [size_puts, setRow_size] at h_; exact h_⟩
set_option maxHeartbeats 8000000 in
set_option maxRecDepth 100000 in
theorem impl_Memory_appended_w1 (a0_0 : Int) (a0_1 : Int) (a0_2 : Int) (a0_3 : Int) (A1_0 : Option Addr) (c1_0 : Nat) (l1_0 : List Int) (bp0 g0 gr cap mc : Nat) (cur : Array Value) (mp : List (List Int)) (row : List Int) (w : World) (hr1_0 : Kd.C (Kd.int .u8) w A1_0 l1_0.length l1_0) (hc1_0 : l1_0.length ≤ c1_0) (hbxbp0 : bx bp0 #[.slice (some ⟨g0, 0, none⟩) mp.length mc] 31 w) (hnebp0 : bp0 ≠ gr) (hcell : w.cell? ⟨g0, a0_0.toNat, none⟩ = some (.slice (some ⟨gr, 0, none⟩) row.length cap)) (hrow : w.heap[gr]? = some (.cells cur 5 (0, 0))) (hle : row.length ≤ cap) (hcs : cur.size = cap) (htk : cur.toList.take row.length = row.map (fun x => Value.int .u8 x)) (T0 : (decide (a0_2 + (l1_0.length : Int) ≤ a0_3)) = false) (T1 : (decide (a0_2 + (l1_0.length : Int) > 64)) = true) (F0 : 0 ≤ a0_0) (F1 : a0_0 < (mp.length : Int)) (F2 : 0 ≤ a0_1) (F3 : 0 ≤ a0_2) (F4 : a0_2 ≤ a0_3) (F5 : a0_3 ≤ 64) (F6 : a0_1 + a0_3 ≤ (row.length : Int)) (F7 : row.length ≤ 64) (F8 : mp.length ≤ 16) (F9 : l1_0.length ≤ 1048576) :
    Calls Try.prog 93 #[.pointer (some ⟨bp0, 0, none⟩), .agg #[.int .i64 a0_0, .int .i64 a0_1, .int .i64 a0_2, .int .i64 a0_3], .slice A1_0 l1_0.length c1_0] w fun e w' => e = .returned (.tuple #[.agg #[.int .i64 0, .int .i64 0, .int .i64 0, .int .i64 0], .bool false]) ∧ Below w.heap.size w w' := by
  have HR1_0 := Aside0.mk hr1_0; have HC1_0 := Aside0.mk hc1_0; clear hr1_0 hc1_0
  have HXbp0 := Aside0.mk hbxbp0; have HNEbp0 := Aside0.mk hnebp0; have HCELL := Aside0.mk hcell; have HROW := Aside0.mk hrow; have HTK := Aside0.mk htk; clear hbxbp0 hnebp0 hcell hrow htk
  have Hbp0 := Aside0.mk (fun j u (hj : (#[.slice (some ⟨g0, 0, none⟩) mp.length mc] : Array Value)[j]? = some u) => (blk_cell HXbp0.out j).trans hj)
  have T0_ := Aside0.mk T0; clear T0; have T0 := T0_; clear T0_
  have T1_ := Aside0.mk T1; clear T1; have T1 := T1_; clear T1_
  have HS0 : Aside0 (Stk w [] w) := ⟨Stk.nil w⟩
  go_enter Try.func93, Try.ntmps93
  refine reg (aF := ?_) (nw := ?_) [evB 0 4 [] 32 (fun s => #[.int .i64 a0_0, .int .i64 a0_1, .int .i64 a0_2, .int .i64 a0_3]) 9999 [] (fun s => #[.int .i64 a0_0, .int .i64 a0_1, .int .i64 a0_2, .int .i64 a0_3]), evB 1 6 [] 32 (fun s => #[.int .i64 0, .int .i64 0, .int .i64 0, .int .i64 0]) 9999 [] (fun s => #[.int .i64 0, .int .i64 0, .int .i64 0, .int .i64 0]), evP 2 7 [] (fun s => .bool false)] [] [] false 3 rfl rfl (by kernel_rfl) rfl (mf0) ?aF ?nw HS0.out ?hs ?_
  rotate_left 2
  case aF => intro s; simp only [putE, EvT.val, Act.put, setIfInBounds_toArray, set_cons_zero, set_cons_succ]; rfl
  case nw => intro s; simp only [thA, bsA, List.nil_append, List.cons_append, List.append_nil, if_true, if_false, Nat.reduceLT, set_cons_zero, set_cons_succ]; rfl
  case hs => exact ⟨bv rfl (fun s w => by go_simp; try rfl), bv rfl (fun s w => by go_simp; try rfl), pu rfl, trivial⟩
  intro s1 w1 h; have HS1 := Aside0.mk h; clear h HS0
  refine tl0 ?_
  refine reg0 (aF := ?_) [evP 0 11 [] (fun s => .pointer (some ⟨(s1 0).lo, 1, none⟩)), evR 1 12 0 (fun s => .int .i64 a0_1), evP 2 13 [] (fun s => .pointer (some ⟨(s1 0).lo, 2, none⟩)), evR 3 14 0 (fun s => .int .i64 a0_2), evP 4 15 [] (fun s => .int .i64 (a0_1 + a0_2)), evP 5 16 [] (fun s => .pointer (some ⟨(s1 0).lo, 2, none⟩)), evR 6 17 0 (fun s => .int .i64 a0_2), evP 7 18 [] (fun s => .slice A1_0 l1_0.length c1_0), evP 8 19 [] (fun s => .int .i64 (l1_0.length : Int)), evP 9 20 [] (fun s => .int .i64 (a0_2 + (l1_0.length : Int))), evP 10 8 [] (fun s => .int .i64 (a0_1 + a0_2))] [11] true 12 rfl rfl (by kernel_rfl) rfl (fun _ => rfl) ?aF HS1.out ?hs ?_
  rotate_left 1
  case aF => intro s; simp only [putE, EvT.val, Act.put, setIfInBounds_toArray, set_cons_zero, set_cons_succ]; rfl
  case hs => exact ⟨pu rfl (hr := fun s w => by go_simp; try rfl), lr rfl 0 rfl (fun s w h => by have h0 := h 0 _ rfl; have h1 := h 1 _ rfl; have h2 := h 2 _ rfl; have h3 := h 3 _ rfl; clear h; go_simp; try rfl), pu rfl (hr := fun s w => by go_simp; try rfl), lr rfl 0 rfl (fun s w h => by have h0 := h 0 _ rfl; have h1 := h 1 _ rfl; have h2 := h 2 _ rfl; have h3 := h 3 _ rfl; clear h; go_simp; try rfl), pa .add (r := a0_1 + a0_2) (.inl ⟨rfl, (i64_ok (n := a0_1 + a0_2) (by omega) (by omega))⟩) rfl, pu rfl (hr := fun s w => by go_simp; try rfl), lr rfl 0 rfl (fun s w h => by have h0 := h 0 _ rfl; have h1 := h 1 _ rfl; have h2 := h 2 _ rfl; have h3 := h 3 _ rfl; clear h; go_simp; try rfl), pu rfl, pu rfl (hr := fun s w => by go_simp; try rfl), pa .add (r := a0_2 + (l1_0.length : Int)) (.inl ⟨rfl, (i64_ok (n := a0_2 + (l1_0.length : Int)) (by omega) (by omega))⟩) rfl, pu rfl, trivial⟩
  intro s2 w2 h; have HS2 := Aside0.mk h; clear h HS1
  refine tlP (v := .int .i64 (a0_2 + (l1_0.length : Int))) 9 rfl ?_
  simp only [Act.put, setIfInBounds_toArray, set_cons_zero, set_cons_succ]
  refine tl0 ?_
  refine wp_seq ?_
  refine reg0 (aF := ?_) [evP 0 21 [] (fun s => .int .i64 (a0_2 + (l1_0.length : Int))), evP 1 22 [] (fun s => .pointer (some ⟨(s1 0).lo, 3, none⟩)), evL 2 23 [] (fun s => .int .i64 a0_3), evP 3 24 [] (fun s => .bool false)] [] false 4 rfl rfl (by kernel_rfl) rfl (fun _ => rfl) ?aF HS2.out ?hs ?_
  rotate_left 1
  case aF => intro s; simp only [putE, EvT.val, Act.put, setIfInBounds_toArray, set_cons_zero, set_cons_succ]; rfl
  case hs => exact ⟨pu rfl, pu rfl (hr := fun s w => by go_simp; try rfl), ld rfl 0 (fun s => rfl) (fun s w h => by have h0 := h 0 _ rfl; have h1 := h 1 _ rfl; have h2 := h 2 _ rfl; have h3 := h 3 _ rfl; clear h; go_simp; try rfl), pb (q := .leq) T0.out rfl, trivial⟩
  intro s3 w3 h; have HS3 := Aside0.mk h; clear h HS2
  refine tl0 ?_
  refine wp_cond_false rfl ?_
  refine wp_skip ?_
  refine thN ?_
  refine wp_seq ?_
  refine reg0 (aF := ?_) [evP 0 45 [] (fun s => .int .i64 (a0_2 + (l1_0.length : Int))), evP 1 46 [] (fun s => .bool true), evP 2 47 [] (fun s => .bool true), evP 3 48 [] (fun s => undef), evP 4 49 [] (fun s => undef), evP 5 50 [] (fun s => undef), evP 6 51 [] (fun s => undef), evP 7 52 [] (fun s => undef), evP 8 53 [] (fun s => undef), evP 9 54 [] (fun s => .bool true)] [] false 10 rfl rfl (by kernel_rfl) rfl (fun _ => rfl) ?aF HS3.out ?hs ?_
  rotate_left 1
  case aF => intro s; simp only [putE, EvT.val, Act.put, setIfInBounds_toArray, set_cons_zero, set_cons_succ]; rfl
  case hs => exact ⟨pu rfl, pb (q := .gtr) T1.out rfl, pu rfl, pf rfl, pf rfl, pf rfl, pf rfl, pf rfl, pf rfl, pu rfl, trivial⟩
  intro s4 w4 h; have HS4 := Aside0.mk h; clear h HS3
  refine tl0 ?_
  refine wp_cond_true rfl ?_
  refine reg (aF := ?_) (nw := ?_) [evP 0 55 [] (fun s => .agg #[.int .i64 0, .int .i64 0, .int .i64 0, .int .i64 0]), evS 1] [2] [⟨1, 1, [], fun s => boxT (s1 1).lo #[.int .i64 0, .int .i64 0, .int .i64 0, .int .i64 0] 32⟩] false 3 rfl rfl (by kernel_rfl) rfl ((mf1 mf0)) ?aF ?nw HS4.out ?hs ?_
  rotate_left 2
  case aF => intro s; simp only [putE, EvT.val, Act.put, setIfInBounds_toArray, set_cons_zero, set_cons_succ]; rfl
  case nw => intro s; simp only [thA, bsA, List.nil_append, List.cons_append, List.append_nil, if_true, if_false, Nat.reduceLT, set_cons_zero, set_cons_succ]; rfl
  case hs => exact ⟨pu rfl (hr := fun s w => by go_simp; try rfl), sb rfl 0 1 0 (fun s => [.int .i64 0, .int .i64 0, .int .i64 0, .int .i64 0]) rfl rfl (fun s w h hf => by have h0 := h 0 _ rfl; have f0 := hf 0; have h1 := h 1 _ rfl; have f1 := hf 1; have h2 := h 2 _ rfl; have f2 := hf 2; have h3 := h 3 _ rfl; have f3 := hf 3; clear h hf; go_simp; try rfl), trivial⟩
  intro s5 w5 h; have HS5 := Aside0.mk h; clear h HS4
  refine tlP (v := .bool false) 7 rfl ?_
  simp only [Act.put, setIfInBounds_toArray, set_cons_zero, set_cons_succ]
  refine tl0 ?_
  refine wp_ret ?_
  try simp only [Exit.inBlock, Exit.then]
  refine bodyPost_ret (results_list (rs := [.cell 6 32, .tmp 7]) rfl (by simp) (.cell (s1 1).lo 32 #[.int .i64 0, .int .i64 0, .int .i64 0, .int .i64 0] (0, 0) _ rfl (show bx (s1 1).lo #[.int .i64 0, .int .i64 0, .int .i64 0, .int .i64 0] 32 _ from HS5.out.get 1 rfl) Try.underlying32 rfl (by kernel_rfl) (.tmp .nil))) rfl ?_
  exact ⟨by first | rfl | simp, HS5.out.hb⟩
set_option maxHeartbeats 8000000 in
set_option maxRecDepth 100000 in
theorem impl_Memory_appended_w2 (a0_0 : Int) (a0_1 : Int) (a0_2 : Int) (a0_3 : Int) (A1_0 : Option Addr) (c1_0 : Nat) (l1_0 : List Int) (bp0 g0 gr cap mc : Nat) (cur : Array Value) (mp : List (List Int)) (row : List Int) (w : World) (hr1_0 : Kd.C (Kd.int .u8) w A1_0 l1_0.length l1_0) (hc1_0 : l1_0.length ≤ c1_0) (hbxbp0 : bx bp0 #[.slice (some ⟨g0, 0, none⟩) mp.length mc] 31 w) (hnebp0 : bp0 ≠ gr) (hcell : w.cell? ⟨g0, a0_0.toNat, none⟩ = some (.slice (some ⟨gr, 0, none⟩) row.length cap)) (hrow : w.heap[gr]? = some (.cells cur 5 (0, 0))) (hle : row.length ≤ cap) (hcs : cur.size = cap) (htk : cur.toList.take row.length = row.map (fun x => Value.int .u8 x)) (T0 : (decide (a0_2 + (l1_0.length : Int) ≤ a0_3)) = false) (T1 : (decide (a0_2 + (l1_0.length : Int) > 64)) = false) (T2 : ((mp.length : Int) == 16) = true) (F0 : 0 ≤ a0_0) (F1 : a0_0 < (mp.length : Int)) (F2 : 0 ≤ a0_1) (F3 : 0 ≤ a0_2) (F4 : a0_2 ≤ a0_3) (F5 : a0_3 ≤ 64) (F6 : a0_1 + a0_3 ≤ (row.length : Int)) (F7 : row.length ≤ 64) (F8 : mp.length ≤ 16) (F9 : l1_0.length ≤ 1048576) :
    Calls Try.prog 93 #[.pointer (some ⟨bp0, 0, none⟩), .agg #[.int .i64 a0_0, .int .i64 a0_1, .int .i64 a0_2, .int .i64 a0_3], .slice A1_0 l1_0.length c1_0] w fun e w' => e = .returned (.tuple #[.agg #[.int .i64 0, .int .i64 0, .int .i64 0, .int .i64 0], .bool false]) ∧ Below w.heap.size w w' := by
  have HR1_0 := Aside0.mk hr1_0; have HC1_0 := Aside0.mk hc1_0; clear hr1_0 hc1_0
  have HXbp0 := Aside0.mk hbxbp0; have HNEbp0 := Aside0.mk hnebp0; have HCELL := Aside0.mk hcell; have HROW := Aside0.mk hrow; have HTK := Aside0.mk htk; clear hbxbp0 hnebp0 hcell hrow htk
  have Hbp0 := Aside0.mk (fun j u (hj : (#[.slice (some ⟨g0, 0, none⟩) mp.length mc] : Array Value)[j]? = some u) => (blk_cell HXbp0.out j).trans hj)
  have T0_ := Aside0.mk T0; clear T0; have T0 := T0_; clear T0_
  have T1_ := Aside0.mk T1; clear T1; have T1 := T1_; clear T1_
  have T2_ := Aside0.mk T2; clear T2; have T2 := T2_; clear T2_
  have HS0 : Aside0 (Stk w [] w) := ⟨Stk.nil w⟩
  go_enter Try.func93, Try.ntmps93
  refine reg (aF := ?_) (nw := ?_) [evB 0 4 [] 32 (fun s => #[.int .i64 a0_0, .int .i64 a0_1, .int .i64 a0_2, .int .i64 a0_3]) 9999 [] (fun s => #[.int .i64 a0_0, .int .i64 a0_1, .int .i64 a0_2, .int .i64 a0_3]), evB 1 6 [] 32 (fun s => #[.int .i64 0, .int .i64 0, .int .i64 0, .int .i64 0]) 9999 [] (fun s => #[.int .i64 0, .int .i64 0, .int .i64 0, .int .i64 0]), evP 2 7 [] (fun s => .bool false)] [] [] false 3 rfl rfl (by kernel_rfl) rfl (mf0) ?aF ?nw HS0.out ?hs ?_
  rotate_left 2
  case aF => intro s; simp only [putE, EvT.val, Act.put, setIfInBounds_toArray, set_cons_zero, set_cons_succ]; rfl
  case nw => intro s; simp only [thA, bsA, List.nil_append, List.cons_append, List.append_nil, if_true, if_false, Nat.reduceLT, set_cons_zero, set_cons_succ]; rfl
  case hs => exact ⟨bv rfl (fun s w => by go_simp; try rfl), bv rfl (fun s w => by go_simp; try rfl), pu rfl, trivial⟩
  intro s1 w1 h; have HS1 := Aside0.mk h; clear h HS0
  refine tl0 ?_
  refine reg0 (aF := ?_) [evP 0 11 [] (fun s => .pointer (some ⟨(s1 0).lo, 1, none⟩)), evR 1 12 0 (fun s => .int .i64 a0_1), evP 2 13 [] (fun s => .pointer (some ⟨(s1 0).lo, 2, none⟩)), evR 3 14 0 (fun s => .int .i64 a0_2), evP 4 15 [] (fun s => .int .i64 (a0_1 + a0_2)), evP 5 16 [] (fun s => .pointer (some ⟨(s1 0).lo, 2, none⟩)), evR 6 17 0 (fun s => .int .i64 a0_2), evP 7 18 [] (fun s => .slice A1_0 l1_0.length c1_0), evP 8 19 [] (fun s => .int .i64 (l1_0.length : Int)), evP 9 20 [] (fun s => .int .i64 (a0_2 + (l1_0.length : Int))), evP 10 8 [] (fun s => .int .i64 (a0_1 + a0_2))] [11] true 12 rfl rfl (by kernel_rfl) rfl (fun _ => rfl) ?aF HS1.out ?hs ?_
  rotate_left 1
  case aF => intro s; simp only [putE, EvT.val, Act.put, setIfInBounds_toArray, set_cons_zero, set_cons_succ]; rfl
  case hs => exact ⟨pu rfl (hr := fun s w => by go_simp; try rfl), lr rfl 0 rfl (fun s w h => by have h0 := h 0 _ rfl; have h1 := h 1 _ rfl; have h2 := h 2 _ rfl; have h3 := h 3 _ rfl; clear h; go_simp; try rfl), pu rfl (hr := fun s w => by go_simp; try rfl), lr rfl 0 rfl (fun s w h => by have h0 := h 0 _ rfl; have h1 := h 1 _ rfl; have h2 := h 2 _ rfl; have h3 := h 3 _ rfl; clear h; go_simp; try rfl), pa .add (r := a0_1 + a0_2) (.inl ⟨rfl, (i64_ok (n := a0_1 + a0_2) (by omega) (by omega))⟩) rfl, pu rfl (hr := fun s w => by go_simp; try rfl), lr rfl 0 rfl (fun s w h => by have h0 := h 0 _ rfl; have h1 := h 1 _ rfl; have h2 := h 2 _ rfl; have h3 := h 3 _ rfl; clear h; go_simp; try rfl), pu rfl, pu rfl (hr := fun s w => by go_simp; try rfl), pa .add (r := a0_2 + (l1_0.length : Int)) (.inl ⟨rfl, (i64_ok (n := a0_2 + (l1_0.length : Int)) (by omega) (by omega))⟩) rfl, pu rfl, trivial⟩
  intro s2 w2 h; have HS2 := Aside0.mk h; clear h HS1
  refine tlP (v := .int .i64 (a0_2 + (l1_0.length : Int))) 9 rfl ?_
  simp only [Act.put, setIfInBounds_toArray, set_cons_zero, set_cons_succ]
  refine tl0 ?_
  refine wp_seq ?_
  refine reg0 (aF := ?_) [evP 0 21 [] (fun s => .int .i64 (a0_2 + (l1_0.length : Int))), evP 1 22 [] (fun s => .pointer (some ⟨(s1 0).lo, 3, none⟩)), evL 2 23 [] (fun s => .int .i64 a0_3), evP 3 24 [] (fun s => .bool false)] [] false 4 rfl rfl (by kernel_rfl) rfl (fun _ => rfl) ?aF HS2.out ?hs ?_
  rotate_left 1
  case aF => intro s; simp only [putE, EvT.val, Act.put, setIfInBounds_toArray, set_cons_zero, set_cons_succ]; rfl
  case hs => exact ⟨pu rfl, pu rfl (hr := fun s w => by go_simp; try rfl), ld rfl 0 (fun s => rfl) (fun s w h => by have h0 := h 0 _ rfl; have h1 := h 1 _ rfl; have h2 := h 2 _ rfl; have h3 := h 3 _ rfl; clear h; go_simp; try rfl), pb (q := .leq) T0.out rfl, trivial⟩
  intro s3 w3 h; have HS3 := Aside0.mk h; clear h HS2
  refine tl0 ?_
  refine wp_cond_false rfl ?_
  refine wp_skip ?_
  refine thN ?_
  refine wp_seq ?_
  refine reg0 (aF := ?_) [evP 0 45 [] (fun s => .int .i64 (a0_2 + (l1_0.length : Int))), evP 1 46 [] (fun s => .bool false), evP 2 47 [] (fun s => .bool false), evP 3 48 [] (fun s => .pointer (some ⟨bp0, 0, none⟩)), evP 4 49 [] (fun s => .pointer (some ⟨bp0, 0, none⟩)), evP 5 50 [] (fun s => .pointer (some ⟨bp0, 0, none⟩)), evL 6 51 [] (fun s => .slice (some ⟨g0, 0, none⟩) mp.length mc), evP 7 52 [] (fun s => .int .i64 (mp.length : Int)), evP 8 53 [] (fun s => .bool true), evP 9 54 [] (fun s => .bool true)] [] false 10 rfl rfl (by kernel_rfl) rfl (fun _ => rfl) ?aF HS3.out ?hs ?_
  rotate_left 1
  case aF => intro s; simp only [putE, EvT.val, Act.put, setIfInBounds_toArray, set_cons_zero, set_cons_succ]; rfl
  case hs => exact ⟨pu rfl, pb (q := .gtr) T1.out rfl, pu rfl, pu rfl, pu rfl (hr := fun s w => by go_simp; try rfl), pu rfl (hr := fun s w => by go_simp; try rfl), lo rfl Hbp0.out (fun s w h => by have h0 := h 0 _ rfl; clear h; go_simp; try rfl), pu rfl (hr := fun s w => by go_simp; try rfl), pb (q := .eql) T2.out rfl, pu rfl, trivial⟩
  intro s4 w4 h; have HS4 := Aside0.mk h; clear h HS3
  refine tl0 ?_
  refine wp_cond_true rfl ?_
  refine reg (aF := ?_) (nw := ?_) [evP 0 55 [] (fun s => .agg #[.int .i64 0, .int .i64 0, .int .i64 0, .int .i64 0]), evS 1] [2] [⟨1, 1, [], fun s => boxT (s1 1).lo #[.int .i64 0, .int .i64 0, .int .i64 0, .int .i64 0] 32⟩] false 3 rfl rfl (by kernel_rfl) rfl ((mf1 mf0)) ?aF ?nw HS4.out ?hs ?_
  rotate_left 2
  case aF => intro s; simp only [putE, EvT.val, Act.put, setIfInBounds_toArray, set_cons_zero, set_cons_succ]; rfl
  case nw => intro s; simp only [thA, bsA, List.nil_append, List.cons_append, List.append_nil, if_true, if_false, Nat.reduceLT, set_cons_zero, set_cons_succ]; rfl
  case hs => exact ⟨pu rfl (hr := fun s w => by go_simp; try rfl), sb rfl 0 1 0 (fun s => [.int .i64 0, .int .i64 0, .int .i64 0, .int .i64 0]) rfl rfl (fun s w h hf => by have h0 := h 0 _ rfl; have f0 := hf 0; have h1 := h 1 _ rfl; have f1 := hf 1; have h2 := h 2 _ rfl; have f2 := hf 2; have h3 := h 3 _ rfl; have f3 := hf 3; clear h hf; go_simp; try rfl), trivial⟩
  intro s5 w5 h; have HS5 := Aside0.mk h; clear h HS4
  refine tlP (v := .bool false) 7 rfl ?_
  simp only [Act.put, setIfInBounds_toArray, set_cons_zero, set_cons_succ]
  refine tl0 ?_
  refine wp_ret ?_
  try simp only [Exit.inBlock, Exit.then]
  refine bodyPost_ret (results_list (rs := [.cell 6 32, .tmp 7]) rfl (by simp) (.cell (s1 1).lo 32 #[.int .i64 0, .int .i64 0, .int .i64 0, .int .i64 0] (0, 0) _ rfl (show bx (s1 1).lo #[.int .i64 0, .int .i64 0, .int .i64 0, .int .i64 0] 32 _ from HS5.out.get 1 rfl) Try.underlying32 rfl (by kernel_rfl) (.tmp .nil))) rfl ?_
  exact ⟨by first | rfl | simp, HS5.out.hb⟩
set_option maxHeartbeats 8000000 in
set_option maxRecDepth 100000 in
theorem impl_Memory_appended_w3 (a0_0 : Int) (a0_1 : Int) (a0_2 : Int) (a0_3 : Int) (A1_0 : Option Addr) (c1_0 : Nat) (l1_0 : List Int) (bp0 g0 gr cap mc : Nat) (cur : Array Value) (mp : List (List Int)) (row : List Int) (w : World) (hr1_0 : Kd.C (Kd.int .u8) w A1_0 l1_0.length l1_0) (hc1_0 : l1_0.length ≤ c1_0) (hbxbp0 : bx bp0 #[.slice (some ⟨g0, 0, none⟩) mp.length mc] 31 w) (hnebp0 : bp0 ≠ gr) (hcell : w.cell? ⟨g0, a0_0.toNat, none⟩ = some (.slice (some ⟨gr, 0, none⟩) row.length cap)) (hrow : w.heap[gr]? = some (.cells cur 5 (0, 0))) (hle : row.length ≤ cap) (hcs : cur.size = cap) (htk : cur.toList.take row.length = row.map (fun x => Value.int .u8 x)) (T0 : (decide (a0_2 + (l1_0.length : Int) ≤ a0_3)) = false) (T1 : (decide (a0_2 + (l1_0.length : Int) > 64)) = false) (T2 : ((mp.length : Int) == 16) = false) (base : Nat) (ok : Nat → Prop) (hS0 : Kd.S (Kd.slice 5 (Kd.int .u8)) 29 w base ok (.slice (some ⟨g0, 0, none⟩) mp.length mc) mp) (hok0 : ∀ k, ok k → k ≠ bp0) (hbase0 : base ≤ w.heap.size) (F0 : 0 ≤ a0_0) (F1 : a0_0 < (mp.length : Int)) (F2 : 0 ≤ a0_1) (F3 : 0 ≤ a0_2) (F4 : a0_2 ≤ a0_3) (F5 : a0_3 ≤ 64) (F6 : a0_1 + a0_3 ≤ (row.length : Int)) (F7 : row.length ≤ 64) (F8 : mp.length ≤ 16) (F9 : l1_0.length ≤ 1048576) :
    Calls Try.prog 93 #[.pointer (some ⟨bp0, 0, none⟩), .agg #[.int .i64 a0_0, .int .i64 a0_1, .int .i64 a0_2, .int .i64 a0_3], .slice A1_0 l1_0.length c1_0] w fun e w' => e = .returned (.tuple #[.agg #[.int .i64 mp.length, .int .i64 0, .int .i64 (a0_2 + (l1_0.length : Int)), .int .i64 ((mn 64 (mx (2 * a0_3) (a0_2 + (l1_0.length : Int)))).toNat : Int)], .bool true]) ∧ (w'.os = w.os ∧ w'.tape = w.tape ∧ w'.output = w.output) ∧ Kept w w' (fun k => ok k ∨ k = bp0) ∧ ∃ A2 c2, bx bp0 #[.slice A2 (mp.length + 1) c2] 31 w' ∧ Kd.S (Kd.slice 5 (Kd.int .u8)) 29 w' base (fun k => ok k ∨ w.heap.size ≤ k) (.slice A2 (mp.length + 1) c2) (mp ++ [spl (spl (List.replicate ((mn 64 (mx (2 * a0_3) (a0_2 + (l1_0.length : Int)))).toNat) (0 : Int)) 0 (((row.drop a0_1.toNat).take a0_2.toNat).take ((mn 64 (mx (2 * a0_3) (a0_2 + (l1_0.length : Int)))).toNat))) (0 + a0_2.toNat) (l1_0.take (((mn 64 (mx (2 * a0_3) (a0_2 + (l1_0.length : Int)))).toNat) - a0_2.toNat))]) := by
  have hN : a0_2 + (l1_0.length : Int) ≤ mn 64 (mx (2 * a0_3) (a0_2 + (l1_0.length : Int))) ∧ mn 64 (mx (2 * a0_3) (a0_2 + (l1_0.length : Int))) ≤ 64 := by simp only [decide_eq_false_iff_not] at T1; unfold mn mx; split <;> split <;> omega
  have HSM := Aside0.mk hS0; have HOK := Aside0.mk hok0; clear hS0 hok0
  have HR1_0 := Aside0.mk hr1_0; have HC1_0 := Aside0.mk hc1_0; clear hr1_0 hc1_0
  have HXbp0 := Aside0.mk hbxbp0; have HNEbp0 := Aside0.mk hnebp0; have HCELL := Aside0.mk hcell; have HROW := Aside0.mk hrow; have HTK := Aside0.mk htk; clear hbxbp0 hnebp0 hcell hrow htk
  have Hbp0 := Aside0.mk (fun j u (hj : (#[.slice (some ⟨g0, 0, none⟩) mp.length mc] : Array Value)[j]? = some u) => (blk_cell HXbp0.out j).trans hj)
  have T0_ := Aside0.mk T0; clear T0; have T0 := T0_; clear T0_
  have T1_ := Aside0.mk T1; clear T1; have T1 := T1_; clear T1_
  have T2_ := Aside0.mk T2; clear T2; have T2 := T2_; clear T2_
  have HS0 : Aside0 (Stk w [] w) := ⟨Stk.nil w⟩
  go_enter Try.func93, Try.ntmps93
  refine reg (aF := ?_) (nw := ?_) [evB 0 4 [] 32 (fun s => #[.int .i64 a0_0, .int .i64 a0_1, .int .i64 a0_2, .int .i64 a0_3]) 9999 [] (fun s => #[.int .i64 a0_0, .int .i64 a0_1, .int .i64 a0_2, .int .i64 a0_3]), evB 1 6 [] 32 (fun s => #[.int .i64 0, .int .i64 0, .int .i64 0, .int .i64 0]) 9999 [] (fun s => #[.int .i64 0, .int .i64 0, .int .i64 0, .int .i64 0]), evP 2 7 [] (fun s => .bool false)] [] [] false 3 rfl rfl (by kernel_rfl) rfl (mf0) ?aF ?nw HS0.out ?hs ?_
  rotate_left 2
  case aF => intro s; simp only [putE, EvT.val, Act.put, setIfInBounds_toArray, set_cons_zero, set_cons_succ]; rfl
  case nw => intro s; simp only [thA, bsA, List.nil_append, List.cons_append, List.append_nil, if_true, if_false, Nat.reduceLT, set_cons_zero, set_cons_succ]; rfl
  case hs => exact ⟨bv rfl (fun s w => by go_simp; try rfl), bv rfl (fun s w => by go_simp; try rfl), pu rfl, trivial⟩
  intro s1 w1 h; have HS1 := Aside0.mk h; clear h HS0
  refine tl0 ?_
  refine reg0 (aF := ?_) [evP 0 11 [] (fun s => .pointer (some ⟨(s1 0).lo, 1, none⟩)), evR 1 12 0 (fun s => .int .i64 a0_1), evP 2 13 [] (fun s => .pointer (some ⟨(s1 0).lo, 2, none⟩)), evR 3 14 0 (fun s => .int .i64 a0_2), evP 4 15 [] (fun s => .int .i64 (a0_1 + a0_2)), evP 5 16 [] (fun s => .pointer (some ⟨(s1 0).lo, 2, none⟩)), evR 6 17 0 (fun s => .int .i64 a0_2), evP 7 18 [] (fun s => .slice A1_0 l1_0.length c1_0), evP 8 19 [] (fun s => .int .i64 (l1_0.length : Int)), evP 9 20 [] (fun s => .int .i64 (a0_2 + (l1_0.length : Int))), evP 10 8 [] (fun s => .int .i64 (a0_1 + a0_2))] [11] true 12 rfl rfl (by kernel_rfl) rfl (fun _ => rfl) ?aF HS1.out ?hs ?_
  rotate_left 1
  case aF => intro s; simp only [putE, EvT.val, Act.put, setIfInBounds_toArray, set_cons_zero, set_cons_succ]; rfl
  case hs => exact ⟨pu rfl (hr := fun s w => by go_simp; try rfl), lr rfl 0 rfl (fun s w h => by have h0 := h 0 _ rfl; have h1 := h 1 _ rfl; have h2 := h 2 _ rfl; have h3 := h 3 _ rfl; clear h; go_simp; try rfl), pu rfl (hr := fun s w => by go_simp; try rfl), lr rfl 0 rfl (fun s w h => by have h0 := h 0 _ rfl; have h1 := h 1 _ rfl; have h2 := h 2 _ rfl; have h3 := h 3 _ rfl; clear h; go_simp; try rfl), pa .add (r := a0_1 + a0_2) (.inl ⟨rfl, (i64_ok (n := a0_1 + a0_2) (by omega) (by omega))⟩) rfl, pu rfl (hr := fun s w => by go_simp; try rfl), lr rfl 0 rfl (fun s w h => by have h0 := h 0 _ rfl; have h1 := h 1 _ rfl; have h2 := h 2 _ rfl; have h3 := h 3 _ rfl; clear h; go_simp; try rfl), pu rfl, pu rfl (hr := fun s w => by go_simp; try rfl), pa .add (r := a0_2 + (l1_0.length : Int)) (.inl ⟨rfl, (i64_ok (n := a0_2 + (l1_0.length : Int)) (by omega) (by omega))⟩) rfl, pu rfl, trivial⟩
  intro s2 w2 h; have HS2 := Aside0.mk h; clear h HS1
  refine tlP (v := .int .i64 (a0_2 + (l1_0.length : Int))) 9 rfl ?_
  simp only [Act.put, setIfInBounds_toArray, set_cons_zero, set_cons_succ]
  refine tl0 ?_
  refine wp_seq ?_
  refine reg0 (aF := ?_) [evP 0 21 [] (fun s => .int .i64 (a0_2 + (l1_0.length : Int))), evP 1 22 [] (fun s => .pointer (some ⟨(s1 0).lo, 3, none⟩)), evL 2 23 [] (fun s => .int .i64 a0_3), evP 3 24 [] (fun s => .bool false)] [] false 4 rfl rfl (by kernel_rfl) rfl (fun _ => rfl) ?aF HS2.out ?hs ?_
  rotate_left 1
  case aF => intro s; simp only [putE, EvT.val, Act.put, setIfInBounds_toArray, set_cons_zero, set_cons_succ]; rfl
  case hs => exact ⟨pu rfl, pu rfl (hr := fun s w => by go_simp; try rfl), ld rfl 0 (fun s => rfl) (fun s w h => by have h0 := h 0 _ rfl; have h1 := h 1 _ rfl; have h2 := h 2 _ rfl; have h3 := h 3 _ rfl; clear h; go_simp; try rfl), pb (q := .leq) T0.out rfl, trivial⟩
  intro s3 w3 h; have HS3 := Aside0.mk h; clear h HS2
  refine tl0 ?_
  refine wp_cond_false rfl ?_
  refine wp_skip ?_
  refine thN ?_
  refine wp_seq ?_
  refine reg0 (aF := ?_) [evP 0 45 [] (fun s => .int .i64 (a0_2 + (l1_0.length : Int))), evP 1 46 [] (fun s => .bool false), evP 2 47 [] (fun s => .bool false), evP 3 48 [] (fun s => .pointer (some ⟨bp0, 0, none⟩)), evP 4 49 [] (fun s => .pointer (some ⟨bp0, 0, none⟩)), evP 5 50 [] (fun s => .pointer (some ⟨bp0, 0, none⟩)), evL 6 51 [] (fun s => .slice (some ⟨g0, 0, none⟩) mp.length mc), evP 7 52 [] (fun s => .int .i64 (mp.length : Int)), evP 8 53 [] (fun s => .bool false), evP 9 54 [] (fun s => .bool false)] [] false 10 rfl rfl (by kernel_rfl) rfl (fun _ => rfl) ?aF HS3.out ?hs ?_
  rotate_left 1
  case aF => intro s; simp only [putE, EvT.val, Act.put, setIfInBounds_toArray, set_cons_zero, set_cons_succ]; rfl
  case hs => exact ⟨pu rfl, pb (q := .gtr) T1.out rfl, pu rfl, pu rfl, pu rfl (hr := fun s w => by go_simp; try rfl), pu rfl (hr := fun s w => by go_simp; try rfl), lo rfl Hbp0.out (fun s w h => by have h0 := h 0 _ rfl; clear h; go_simp; try rfl), pu rfl (hr := fun s w => by go_simp; try rfl), pb (q := .eql) T2.out rfl, pu rfl, trivial⟩
  intro s4 w4 h; have HS4 := Aside0.mk h; clear h HS3
  refine tl0 ?_
  refine wp_cond_false rfl ?_
  refine wp_skip ?_
  refine thN ?_
  refine reg (aF := ?_) (nw := ?_) [evP 0 56 [] (fun s => .pointer (some ⟨(s1 0).lo, 3, none⟩)), evL 1 57 [] (fun s => .int .i64 a0_3), evP 2 58 [] (fun s => .int .i64 (2 * a0_3)), evP 3 59 [] (fun s => .int .i64 (a0_2 + (l1_0.length : Int))), evP 4 60 [] (fun s => .int .i64 (mx (2 * a0_3) (a0_2 + (l1_0.length : Int)))), evP 5 61 [] (fun s => .int .i64 (mn 64 (mx (2 * a0_3) (a0_2 + (l1_0.length : Int))))), evC 6 (some 62) [] (fun s x => .slice (some ⟨x.lo, 0, none⟩) ((mn 64 (mx (2 * a0_3) (a0_2 + (l1_0.length : Int)))).toNat) ((mn 64 (mx (2 * a0_3) (a0_2 + (l1_0.length : Int)))).toNat)) (fun s x => [boxT x.lo (madeCells #[Value.int .u8 0] (mn 64 (mx (2 * a0_3) (a0_2 + (l1_0.length : Int)))).toNat) 5])] [7] [] false 8 rfl rfl (by kernel_rfl) rfl (mf0) ?aF ?nw HS4.out ?hs ?_
  rotate_left 2
  case aF => intro s; simp only [putE, EvT.val, Act.put, setIfInBounds_toArray, set_cons_zero, set_cons_succ]; rfl
  case nw => intro s; simp only [thA, bsA, List.nil_append, List.cons_append, List.append_nil, if_true, if_false, Nat.reduceLT, set_cons_zero, set_cons_succ]; rfl
  case hs => exact ⟨pu rfl (hr := fun s w => by go_simp; try rfl), ld rfl 0 (fun s => rfl) (fun s w h => by have h0 := h 0 _ rfl; have h1 := h 1 _ rfl; have h2 := h 2 _ rfl; have h3 := h 3 _ rfl; clear h; go_simp; try rfl), pa .mul (r := 2 * a0_3) (.inr (.inr ⟨rfl, (i64_ok (n := 2 * a0_3) (by omega) (by omega))⟩)) rfl, pu rfl, pu rfl (hr := fun s w => by go_simp; try rfl), pu rfl (hr := fun s w => by go_simp; try rfl), mkb rfl (mn 64 (mx (2 * a0_3) (a0_2 + (l1_0.length : Int)))) (by omega) (by omega), trivial⟩
  intro s5 w5 h; have HS5 := Aside0.mk h; clear h HS4
  refine tlP (v := .slice (some ⟨(s5 6).lo, 0, none⟩) ((mn 64 (mx (2 * a0_3) (a0_2 + (l1_0.length : Int)))).toNat) ((mn 64 (mx (2 * a0_3) (a0_2 + (l1_0.length : Int)))).toNat)) 10 rfl ?_
  simp only [Act.put, setIfInBounds_toArray, set_cons_zero, set_cons_succ]
  refine tl0 ?_
  have hrl : (List.replicate ((mn 64 (mx (2 * a0_3) (a0_2 + (l1_0.length : Int)))).toNat) (0 : Int)).length = (mn 64 (mx (2 * a0_3) (a0_2 + (l1_0.length : Int)))).toNat := by simp
  have HBS : (List.replicate ((mn 64 (mx (2 * a0_3) (a0_2 + (l1_0.length : Int)))).toNat) (0 : Int)).length ≤ (madeCells #[Value.int .u8 0] ((mn 64 (mx (2 * a0_3) (a0_2 + (l1_0.length : Int)))).toNat)).size := by simp [size_madeCells]
  have HBT := Aside0.mk (made_take ((mn 64 (mx (2 * a0_3) (a0_2 + (l1_0.length : Int)))).toNat))
  refine reg0 (aF := ?_) [evP 0 63 [] (fun s => .slice (some ⟨(s5 6).lo, 0, none⟩) ((mn 64 (mx (2 * a0_3) (a0_2 + (l1_0.length : Int)))).toNat) ((mn 64 (mx (2 * a0_3) (a0_2 + (l1_0.length : Int)))).toNat)), evP 1 64 [] (fun s => .pointer (some ⟨bp0, 0, none⟩)), evP 2 65 [] (fun s => .pointer (some ⟨bp0, 0, none⟩)), evL 3 66 [] (fun s => .agg #[.slice (some ⟨g0, 0, none⟩) mp.length mc]), evL 4 67 [] (fun s => .agg #[.int .i64 a0_0, .int .i64 a0_1, .int .i64 a0_2, .int .i64 a0_3]), evC 5 (some 68) [] (fun s x => .slice (seenA gr a0_1 cap) a0_2.toNat (cap - a0_1.toNat)) (fun s x => [])] [6] true 7 rfl rfl (by kernel_rfl) rfl (fun _ => rfl) ?aF HS5.out ?hs ?_
  rotate_left 1
  case aF => intro s; simp only [putE, EvT.val, Act.put, setIfInBounds_toArray, set_cons_zero, set_cons_succ]; rfl
  case hs => exact ⟨pu rfl, pu rfl, pu rfl (hr := fun s w => by go_simp; try rfl), lo rfl Hbp0.out (fun s w h => by have h0 := h 0 _ rfl; clear h; go_simp; try rfl), ld rfl 1 (fun s => rfl) (fun s w h => by have h0 := h 0 _ rfl; have h1 := h 1 _ rfl; have h2 := h 2 _ rfl; have h3 := h 3 _ rfl; clear h; go_simp; try rfl), cl rfl (fun s => #[.agg #[.slice (some ⟨g0, 0, none⟩) mp.length mc], .agg #[.int .i64 a0_0, .int .i64 a0_1, .int .i64 a0_2, .int .i64 a0_3]]) Try.func72 (fun s w1 h => (seen_c g0 _ _ a0_0 a0_1 a0_2 a0_3 gr row.length cap w1 ((h.hb.cell (World.block_lt_of_cell? w _ HCELL.out)).trans HCELL.out) (by omega) (by omega) (by omega) (by omega) (by omega) (by omega) (by omega)).mono (by rintro e w2 ⟨rfl, hb⟩; exact fin0 hb)), trivial⟩
  intro s6 w6 h; have HS6 := Aside0.mk h; clear h HS5
  refine tlCopyBox (some 69) rfl HS6.out 0 (row := (List.replicate ((mn 64 (mx (2 * a0_3) (a0_2 + (l1_0.length : Int)))).toNat) (0 : Int))) (bs := (((row.drop a0_1.toNat).take a0_2.toNat).take ((mn 64 (mx (2 * a0_3) (a0_2 + (l1_0.length : Int)))).toNat))) rfl HBS HBT.out (al_self (s5 6).lo ((mn 64 (mx (2 * a0_3) (a0_2 + (l1_0.length : Int)))).toNat)) (len_take (seg_len (by omega)) _) (fit_take (by omega)) ((bytes_blk ((HS6.out.hb.block _ (blk_lt HROW.out)).trans HROW.out) HTK.out (al_seen (row := row) (cap := cap) (g := gr) a0_1 a0_2 (by omega) (by omega) (by omega)) (by omega)).take _) (fun cur3 wq3 hsz3 htk3 h => ?_)
  simp only [set_cons_zero, set_cons_succ] at h; have HQ3 := Aside0.mk h; clear h HS6
  have hsl3 := spl_length (List.replicate ((mn 64 (mx (2 * a0_3) (a0_2 + (l1_0.length : Int)))).toNat) (0 : Int)) 0 (((row.drop a0_1.toNat).take a0_2.toNat).take ((mn 64 (mx (2 * a0_3) (a0_2 + (l1_0.length : Int)))).toNat)) (fit_take (by omega))
  have HBS3 : (spl (List.replicate ((mn 64 (mx (2 * a0_3) (a0_2 + (l1_0.length : Int)))).toNat) (0 : Int)) 0 (((row.drop a0_1.toNat).take a0_2.toNat).take ((mn 64 (mx (2 * a0_3) (a0_2 + (l1_0.length : Int)))).toNat))).length ≤ cur3.size := by rw [hsl3, hsz3]; exact HBS
  have HBT3 : Aside0 (cur3.toList.take (spl (List.replicate ((mn 64 (mx (2 * a0_3) (a0_2 + (l1_0.length : Int)))).toNat) (0 : Int)) 0 (((row.drop a0_1.toNat).take a0_2.toNat).take ((mn 64 (mx (2 * a0_3) (a0_2 + (l1_0.length : Int)))).toNat))).length = (spl (List.replicate ((mn 64 (mx (2 * a0_3) (a0_2 + (l1_0.length : Int)))).toNat) (0 : Int)) 0 (((row.drop a0_1.toNat).take a0_2.toNat).take ((mn 64 (mx (2 * a0_3) (a0_2 + (l1_0.length : Int)))).toNat))).map (fun x => Value.int .u8 x)) := ⟨by rw [hsl3]; exact htk3⟩
  simp only [Act.put, setIfInBounds_toArray, set_cons_zero, set_cons_succ]
  refine tl0 ?_
  refine reg0 (aF := ?_) [evP 0 70 [] (fun s => .slice (some ⟨(s5 6).lo, 0, none⟩) ((mn 64 (mx (2 * a0_3) (a0_2 + (l1_0.length : Int)))).toNat) ((mn 64 (mx (2 * a0_3) (a0_2 + (l1_0.length : Int)))).toNat)), evP 1 71 [] (fun s => .pointer (some ⟨(s1 0).lo, 2, none⟩)), evL 2 72 [] (fun s => .int .i64 a0_2), evP 3 73 [] (fun s => .slice (cutA (some ⟨(s5 6).lo, 0, none⟩) a0_2.toNat ((mn 64 (mx (2 * a0_3) (a0_2 + (l1_0.length : Int)))).toNat)) (((mn 64 (mx (2 * a0_3) (a0_2 + (l1_0.length : Int)))).toNat) - a0_2.toNat) (((mn 64 (mx (2 * a0_3) (a0_2 + (l1_0.length : Int)))).toNat) - a0_2.toNat)), evP 4 74 [] (fun s => .slice A1_0 l1_0.length c1_0)] [5] false 6 rfl rfl (by kernel_rfl) rfl (fun _ => rfl) ?aF HQ3.out ?hs ?_
  rotate_left 1
  case aF => intro s; simp only [putE, EvT.val, Act.put, setIfInBounds_toArray, set_cons_zero, set_cons_succ]; rfl
  case hs => exact ⟨pu rfl, pu rfl (hr := fun s w => by go_simp; try rfl), ld rfl 1 (fun s => rfl) (fun s w h => by have h0 := h 0 _ rfl; have h1 := h 1 _ rfl; have h2 := h 2 _ rfl; have h3 := h 3 _ rfl; clear h; go_simp; try rfl), cl_ rfl (by omega) (by omega), pu rfl, trivial⟩
  intro s7 w7 h; have HS7 := Aside0.mk h; clear h HQ3
  refine tlCopyBox (some 75) rfl HS7.out 0 (row := spl (List.replicate ((mn 64 (mx (2 * a0_3) (a0_2 + (l1_0.length : Int)))).toNat) (0 : Int)) 0 (((row.drop a0_1.toNat).take a0_2.toNat).take ((mn 64 (mx (2 * a0_3) (a0_2 + (l1_0.length : Int)))).toNat))) (bs := (l1_0.take (((mn 64 (mx (2 * a0_3) (a0_2 + (l1_0.length : Int)))).toNat) - a0_2.toNat))) rfl HBS3 HBT3.out (Al.cut (C := (mn 64 (mx (2 * a0_3) (a0_2 + (l1_0.length : Int)))).toNat) (al_self (s5 6).lo ((mn 64 (mx (2 * a0_3) (a0_2 + (l1_0.length : Int)))).toNat)) a0_2.toNat (((mn 64 (mx (2 * a0_3) (a0_2 + (l1_0.length : Int)))).toNat) - a0_2.toNat) (by omega) (by omega)) (len_take rfl _) (fit_take (by omega)) ((bytes_C (Kd.C_below HR1_0.out HS7.out.hb)).take _) (fun cur4 wq4 hsz4 htk4 h => ?_)
  simp only [set_cons_zero, set_cons_succ] at h; have HQ4 := Aside0.mk h; clear h HS7
  have hsl4 := spl_length (spl (List.replicate ((mn 64 (mx (2 * a0_3) (a0_2 + (l1_0.length : Int)))).toNat) (0 : Int)) 0 (((row.drop a0_1.toNat).take a0_2.toNat).take ((mn 64 (mx (2 * a0_3) (a0_2 + (l1_0.length : Int)))).toNat))) (0 + a0_2.toNat) (l1_0.take (((mn 64 (mx (2 * a0_3) (a0_2 + (l1_0.length : Int)))).toNat) - a0_2.toNat)) (fit_take (by omega))
  have HBS4 : (spl (spl (List.replicate ((mn 64 (mx (2 * a0_3) (a0_2 + (l1_0.length : Int)))).toNat) (0 : Int)) 0 (((row.drop a0_1.toNat).take a0_2.toNat).take ((mn 64 (mx (2 * a0_3) (a0_2 + (l1_0.length : Int)))).toNat))) (0 + a0_2.toNat) (l1_0.take (((mn 64 (mx (2 * a0_3) (a0_2 + (l1_0.length : Int)))).toNat) - a0_2.toNat))).length ≤ cur4.size := by rw [hsl4, hsz4]; exact HBS3
  have HBT4 : Aside0 (cur4.toList.take (spl (spl (List.replicate ((mn 64 (mx (2 * a0_3) (a0_2 + (l1_0.length : Int)))).toNat) (0 : Int)) 0 (((row.drop a0_1.toNat).take a0_2.toNat).take ((mn 64 (mx (2 * a0_3) (a0_2 + (l1_0.length : Int)))).toNat))) (0 + a0_2.toNat) (l1_0.take (((mn 64 (mx (2 * a0_3) (a0_2 + (l1_0.length : Int)))).toNat) - a0_2.toNat))).length = (spl (spl (List.replicate ((mn 64 (mx (2 * a0_3) (a0_2 + (l1_0.length : Int)))).toNat) (0 : Int)) 0 (((row.drop a0_1.toNat).take a0_2.toNat).take ((mn 64 (mx (2 * a0_3) (a0_2 + (l1_0.length : Int)))).toNat))) (0 + a0_2.toNat) (l1_0.take (((mn 64 (mx (2 * a0_3) (a0_2 + (l1_0.length : Int)))).toNat) - a0_2.toNat))).map (fun x => Value.int .u8 x)) := ⟨by rw [hsl4]; exact htk4⟩
  simp only [Act.put, setIfInBounds_toArray, set_cons_zero, set_cons_succ]
  refine tl0 ?_
  -- things: boxT (s5 6).lo cur4 5 | boxT (s1 0).lo #[.int .i64 a0_0, .int .i64 a0_1, .int .i64 a0_2, .int .i64 a0_3] 32 | boxT (s1 1).lo #[.int .i64 0, .int .i64 0, .int .i64 0, .int .i64 0] 32 ; HQ4
  have hb4 := HQ4.out.hb
  have HA4 := Aside0.mk (show bx (s5 6).lo cur4 5 wq4 from HQ4.out.get 0 rfl); have HGA := Aside0.mk (show w.heap.size ≤ (s5 6).lo from HQ4.out.ge 0 rfl)
  have HZ4 := Aside0.mk (show bx (s1 1).lo #[.int .i64 0, .int .i64 0, .int .i64 0, .int .i64 0] 32 wq4 from HQ4.out.get 2 rfl); have HGZ := Aside0.mk (show w.heap.size ≤ (s1 1).lo from HQ4.out.ge 2 rfl)
  have HX4 := Aside0.mk (show bx bp0 #[.slice (some ⟨g0, 0, none⟩) mp.length mc] 31 wq4 from (hb4.block _ (blk_lt HXbp0.out)).trans HXbp0.out)
  clear hb4
  refine wp_seq ?_
  refine seqReg [0, 1, 2, 3, 4, 5, 6, 7, 8, 9, 10] rfl rfl ?_
  refine tlP (v := .pointer (some ⟨bp0, 0, none⟩)) 76 rfl ?_
  simp only [Act.put, setIfInBounds_toArray, set_cons_zero, set_cons_succ]
  refine tlP (v := .pointer (some ⟨bp0, 0, none⟩)) 77 rfl ?_
  simp only [Act.put, setIfInBounds_toArray, set_cons_zero, set_cons_succ]
  refine tlP (v := .pointer (some ⟨bp0, 0, none⟩)) 78 (hr := by go_simp; try rfl) rfl ?_
  simp only [Act.put, setIfInBounds_toArray, set_cons_zero, set_cons_succ]
  refine tlP (v := .pointer (some ⟨bp0, 0, none⟩)) 79 (hr := by go_simp; try rfl) rfl ?_
  simp only [Act.put, setIfInBounds_toArray, set_cons_zero, set_cons_succ]
  have hc0_ : wq4.cell? ⟨bp0, 0, none⟩ = some (.slice (some ⟨g0, 0, none⟩) mp.length mc) := (blk_cell HX4.out 0).trans rfl
  refine tlP (v := .slice (some ⟨g0, 0, none⟩) mp.length mc) 80 rfl ?_ (hr := by go_simp; try rfl)
  clear hc0_
  simp only [Act.put, setIfInBounds_toArray, set_cons_zero, set_cons_succ]
  refine tlP (v := .slice (some ⟨(s5 6).lo, 0, none⟩) ((mn 64 (mx (2 * a0_3) (a0_2 + (l1_0.length : Int)))).toNat) ((mn 64 (mx (2 * a0_3) (a0_2 + (l1_0.length : Int)))).toNat)) 81 rfl ?_
  simp only [Act.put, setIfInBounds_toArray, set_cons_zero, set_cons_succ]
  refine tlVal (w2 := wq4.alloc (.cells #[.slice (some ⟨(s5 6).lo, 0, none⟩) ((mn 64 (mx (2 * a0_3) (a0_2 + (l1_0.length : Int)))).toNat) ((mn 64 (mx (2 * a0_3) (a0_2 + (l1_0.length : Int)))).toNat)] 29 (0, 0))) 82 rfl (.slice (some ⟨wq4.heap.size, 0, none⟩) 1 1) (by go_simp; try rfl) ?_
  simp only [Act.put, setIfInBounds_toArray, set_cons_zero, set_cons_succ]
  refine tlAppend 83 rfl HSM.out HQ4.out.hb hbase0 HA4.out HGA.out (row := spl (spl (List.replicate ((mn 64 (mx (2 * a0_3) (a0_2 + (l1_0.length : Int)))).toNat) (0 : Int)) 0 (((row.drop a0_1.toNat).take a0_2.toNat).take ((mn 64 (mx (2 * a0_3) (a0_2 + (l1_0.length : Int)))).toNat))) (0 + a0_2.toNat) (l1_0.take (((mn 64 (mx (2 * a0_3) (a0_2 + (l1_0.length : Int)))).toNat) - a0_2.toNat))) (by rw [hsl4, hsl3]; exact hrl) (by rw [hsz4, hsz3]; simp [size_madeCells]) (by unfold maxLen; omega) HBT4.out (by omega) ?_
  intro A2 c2 w5 hS5_ hg5
  have HS5_ := Aside0.mk hS5_; have HG5 := Aside0.mk hg5; clear hS5_ hg5
  simp only [Act.put, setIfInBounds_toArray, set_cons_zero, set_cons_succ]
  have HX5 := Aside0.mk (blk_grown HX4.out HG5.out (Kd.S_away HSM.out HOK.out)); have HZ5 := Aside0.mk (blk_grown HZ4.out HG5.out (fun e_ => by have := Kd.S_lt HSM.out _ e_.symm; have := HGZ.out; omega)); clear HX4 HZ4
  refine tlP (v := .pointer (some ⟨bp0, 0, none⟩)) 84 (hr := by go_simp; try rfl) rfl ?_
  simp only [Act.put, setIfInBounds_toArray, set_cons_zero, set_cons_succ]
  refine tlP (v := .pointer (some ⟨bp0, 0, none⟩)) 85 (hr := by go_simp; try rfl) rfl ?_
  simp only [Act.put, setIfInBounds_toArray, set_cons_zero, set_cons_succ]
  have hc0_ : w5.cell? ⟨bp0, 0, none⟩ = some (.slice (some ⟨g0, 0, none⟩) mp.length mc) := (blk_cell HX5.out 0).trans rfl
  have hf0_ := blk_frozen HX5.out 0
  refine tlSkip (w2 := w5.setCell ⟨bp0, 0, none⟩ (.slice A2 (mp.length + 1) c2)) rfl (by go_simp; try rfl) ?_
  clear hc0_ hf0_
  refine tl0 ?_
  have hbl := blk_lt HXbp0.out
  have HX6 := Aside0.mk (show bx bp0 #[.slice A2 (mp.length + 1) c2] 31 (w5.setCell ⟨bp0, 0, none⟩ (.slice A2 (mp.length + 1) c2)) from (wrote_puts [(.slice A2 (mp.length + 1) c2)] 0 _ _ HX5.out).is _ (Agree.refl _ _ _))
  have HZ6 := Aside0.mk ((Below.heap_setCell w5 ⟨bp0, 0, none⟩ (.slice A2 (mp.length + 1) c2) (s1 1).lo (by have := HGZ.out; show (s1 1).lo ≠ bp0; omega)).trans HZ5.out)
  have HS6_ := Aside0.mk (Kd.S_far HS5_.out (p := ⟨bp0, 0, none⟩) (fun k hk => by rcases hk with hk | hk; exact HOK.out k hk; show k ≠ bp0; omega) (.slice A2 (mp.length + 1) c2))
  have HK6 := Aside0.mk (show Kept w (w5.setCell ⟨bp0, 0, none⟩ (.slice A2 (mp.length + 1) c2)) (fun k => ok k ∨ k = bp0) from (Kept.of_grown HG5.out (Kept.of_below HQ4.out.hb _) (fun k hk => .inl (.inl ((Kd.S_R HSM.out).1 k hk)))).setCell (.inl (.inr rfl)) _)
  have HO6 := Aside0.mk (show (w5.setCell ⟨bp0, 0, none⟩ (.slice A2 (mp.length + 1) c2)).os = w.os ∧ (w5.setCell ⟨bp0, 0, none⟩ (.slice A2 (mp.length + 1) c2)).tape = w.tape ∧ (w5.setCell ⟨bp0, 0, none⟩ (.slice A2 (mp.length + 1) c2)).output = w.output from ⟨HG5.out.os.trans HQ4.out.hb.os, HG5.out.tape.trans HQ4.out.hb.tape, HG5.out.output.trans HQ4.out.hb.output⟩)
  generalize w5.setCell ⟨bp0, 0, none⟩ (.slice A2 (mp.length + 1) c2) = w6 at HX6 HZ6 HS6_ HK6 HO6 ⊢
  clear HX5 HZ5 HS5_ HG5 hbl
  have HT6 : Aside0 (Stk w6 [] w6) := ⟨Stk.nil w6⟩
  refine wp_seq ?_
  refine seqReg [0, 1, 2, 3, 4, 5, 6, 7, 8, 9, 10, 11] rfl rfl ?_
  refine tlP (v := .pointer (some ⟨bp0, 0, none⟩)) 86 rfl ?_
  simp only [Act.put, setIfInBounds_toArray, set_cons_zero, set_cons_succ]
  refine tlP (v := .pointer (some ⟨bp0, 0, none⟩)) 87 (hr := by go_simp; try rfl) rfl ?_
  simp only [Act.put, setIfInBounds_toArray, set_cons_zero, set_cons_succ]
  refine tlP (v := .pointer (some ⟨bp0, 0, none⟩)) 88 (hr := by go_simp; try rfl) rfl ?_
  simp only [Act.put, setIfInBounds_toArray, set_cons_zero, set_cons_succ]
  have hc0_ : w6.cell? ⟨bp0, 0, none⟩ = some (.slice A2 (mp.length + 1) c2) := (blk_cell HX6.out 0).trans rfl
  refine tlP (v := (.slice A2 (mp.length + 1) c2)) 89 rfl ?_ (hr := by go_simp; try rfl)
  clear hc0_
  simp only [Act.put, setIfInBounds_toArray, set_cons_zero, set_cons_succ]
  refine tlP (v := .int .i64 ((mp.length + 1 : Nat) : Int)) 90 (hr := by go_simp; try rfl) rfl ?_
  simp only [Act.put, setIfInBounds_toArray, set_cons_zero, set_cons_succ]
  refine tlP (v := .int .i64 (((mp.length + 1 : Nat) : Int) - 1)) 91 rfl ?_ (hr := run_arith (q := .sub) (k := .i64) (m := ((mp.length + 1 : Nat) : Int)) (n := 1) (r := ((mp.length + 1 : Nat) : Int) - 1) rfl rfl rfl (.inr (.inl ⟨rfl, (i64_ok (n := ((mp.length + 1 : Nat) : Int) - 1) (by omega) (by omega))⟩)))
  simp only [Act.put, setIfInBounds_toArray, set_cons_zero, set_cons_succ]
  refine tlP (v := .int .i64 (a0_2 + (l1_0.length : Int))) 92 rfl ?_
  simp only [Act.put, setIfInBounds_toArray, set_cons_zero, set_cons_succ]
  refine tlP (v := .slice (some ⟨(s5 6).lo, 0, none⟩) ((mn 64 (mx (2 * a0_3) (a0_2 + (l1_0.length : Int)))).toNat) ((mn 64 (mx (2 * a0_3) (a0_2 + (l1_0.length : Int)))).toNat)) 93 rfl ?_
  simp only [Act.put, setIfInBounds_toArray, set_cons_zero, set_cons_succ]
  refine tlP (v := .int .i64 (((mn 64 (mx (2 * a0_3) (a0_2 + (l1_0.length : Int)))).toNat) : Int)) 94 (hr := by go_simp; try rfl) rfl ?_
  simp only [Act.put, setIfInBounds_toArray, set_cons_zero, set_cons_succ]
  refine tlP (v := .agg #[.int .i64 (((mp.length + 1 : Nat) : Int) - 1), .int .i64 0, .int .i64 (a0_2 + (l1_0.length : Int)), .int .i64 (((mn 64 (mx (2 * a0_3) (a0_2 + (l1_0.length : Int)))).toNat) : Int)]) 95 (hr := by go_simp; try rfl) rfl ?_
  simp only [Act.put, setIfInBounds_toArray, set_cons_zero, set_cons_succ]
  have hc0_ : w6.cell? ⟨(s1 1).lo, 0, none⟩ = some (.int .i64 0) := (blk_cell HZ6.out 0).trans rfl; have hf0_ := blk_frozen HZ6.out 0
  have hc1_ : w6.cell? ⟨(s1 1).lo, 1, none⟩ = some (.int .i64 0) := (blk_cell HZ6.out 1).trans rfl; have hf1_ := blk_frozen HZ6.out 1
  have hc2_ : w6.cell? ⟨(s1 1).lo, 2, none⟩ = some (.int .i64 0) := (blk_cell HZ6.out 2).trans rfl; have hf2_ := blk_frozen HZ6.out 2
  have hc3_ : w6.cell? ⟨(s1 1).lo, 3, none⟩ = some (.int .i64 0) := (blk_cell HZ6.out 3).trans rfl; have hf3_ := blk_frozen HZ6.out 3
  refine tlStoreOld rfl HT6.out (s1 1).lo 0 [.int .i64 (((mp.length + 1 : Nat) : Int) - 1), .int .i64 0, .int .i64 (a0_2 + (l1_0.length : Int)), .int .i64 (((mn 64 (mx (2 * a0_3) (a0_2 + (l1_0.length : Int)))).toNat) : Int)] (blk_lt HZ6.out) (by go_simp; try rfl) (fun w7_ h => ?_)
  clear hc0_ hf0_ hc1_ hf1_ hc2_ hf2_ hc3_ hf3_
  refine tlP (v := .bool true) 7 rfl ?_
  simp only [Act.put, setIfInBounds_toArray, set_cons_zero, set_cons_succ]
  refine tl0 ?_
  refine wp_ret ?_
  try simp only [Exit.inBlock, Exit.then]
  have hZ7 : bx (s1 1).lo #[.int .i64 (((mp.length + 1 : Nat) : Int) - 1), .int .i64 0, .int .i64 (a0_2 + (l1_0.length : Int)), .int .i64 (((mn 64 (mx (2 * a0_3) (a0_2 + (l1_0.length : Int)))).toNat) : Int)] 32 w7_ := (h.hb.block _ (by rw [size_puts]; exact blk_lt HZ6.out)).trans ((wrote_puts [.int .i64 (((mp.length + 1 : Nat) : Int) - 1), .int .i64 0, .int .i64 (a0_2 + (l1_0.length : Int)), .int .i64 (((mn 64 (mx (2 * a0_3) (a0_2 + (l1_0.length : Int)))).toNat) : Int)] 0 _ _ HZ6.out).is _ (Agree.refl _ _ _))
  have hne7 : (s1 1).lo ≠ bp0 := fun e_ => by have := HGZ.out; have := blk_lt HXbp0.out; omega
  have hK7 : Kept w6 w7_ (fun k => k = (s1 1).lo) := ⟨by have := h.hb.size; rw [size_puts] at this; exact this, fun k hk hn => (h.hb.block k (by rw [size_puts]; exact hk)).trans (puts_other _ _ hn)⟩
  refine bodyPost_ret (results_list (rs := [.cell 6 32, .tmp 7]) rfl (by simp) (.cell (s1 1).lo 32 #[.int .i64 (((mp.length + 1 : Nat) : Int) - 1), .int .i64 0, .int .i64 (a0_2 + (l1_0.length : Int)), .int .i64 (((mn 64 (mx (2 * a0_3) (a0_2 + (l1_0.length : Int)))).toNat) : Int)] (0, 0) _ rfl hZ7 Try.underlying32 rfl (by kernel_rfl) (.tmp .nil))) rfl ?_
  refine ⟨by have e_ : ((mp.length + 1 : Nat) : Int) - 1 = mp.length := by omega
             rw [e_]; first | rfl | simp, ?_, ?_, A2, c2, ?_, ?_⟩
  · exact ⟨h.hb.os.trans HO6.out.1, h.hb.tape.trans HO6.out.2.1, h.hb.output.trans HO6.out.2.2⟩
  · exact HK6.out.then_ hK7 (fun k hk => .inr (by subst hk; exact HGZ.out))
  · exact blk_kept HX6.out hK7 (Ne.symm hne7)
  · exact Kd.S_mono (Kd.S_kept (Kd.S_types HS6_.out HZ6.out (by decide)) hK7 (fun k hk => hk.2)) (fun k hk => hk.1)
end Go.Proofs.Ytaieobidkmihkaa.P


/- appended (bytes behind a window), as a contract over worlds: the receiver's box and rows of the caller's. -/
namespace Go.Proofs.Ytaieobidkmihkaa.P
open Go.RowKit Go.Proofs.YtaieobidkmihkaaW.PrintWords Go.Proofs.YtaieobidkmihkaaW.PrintMore Go.Proofs.YtaieobidkmihkaaW.Mine
set_option linter.unusedVariables false
set_option linter.unusedSimpArgs false
theorem impl_Memory_appended_c {w : World} {base g c c1 : Nat} {ok : Nat → Prop} {A A1 : Option Addr} {m : List (List Int)} {a s n cp : Int} {l : List Int}
    (hbx : bx g #[.slice A m.length c] 31 w) (hS : Kd.S (Kd.slice 5 (Kd.int .u8)) 29 w base ok (.slice A m.length c) m) (hok : ∀ k, ok k → k ≠ g) (hbase : base ≤ w.heap.size)
    (hw : WinOk m a s n cp) (h16 : m.length ≤ 16) (hr : Kd.C (Kd.int .u8) w A1 l.length l) (hc : l.length ≤ c1) (hl : l.length ≤ 1048576) :
    Calls Try.prog 93 #[.pointer (some ⟨g, 0, none⟩), .agg #[.int .i64 a, .int .i64 s, .int .i64 n, .int .i64 cp], .slice A1 l.length c1] w fun e_ w' =>
      e_ = .returned (.tuple #[.agg #[.int .i64 (appendP m a s n cp l).2.1, .int .i64 (appendP m a s n cp l).2.2.1, .int .i64 (appendP m a s n cp l).2.2.2.1, .int .i64 (appendP m a s n cp l).2.2.2.2.1], .bool (appendP m a s n cp l).2.2.2.2.2]) ∧ (w'.os = w.os ∧ w'.tape = w.tape ∧ w'.output = w.output) ∧ Kept w w' (fun k => ok k ∨ k = g) ∧
      ∃ A2 c2, bx g #[.slice A2 (appendP m a s n cp l).1.length c2] 31 w' ∧ Kd.S (Kd.slice 5 (Kd.int .u8)) 29 w' base (fun k => ok k ∨ w.heap.size ≤ k) (.slice A2 (appendP m a s n cp l).1.length c2) (appendP m a s n cp l).1 := by
  have hw1 := hw.a0; have hw2 := hw.a1; have hw3 := hw.s0; have hw4 := hw.n0; have hw5 := hw.n1; have hw6 := hw.s1; have hw7 := hw.r0; have hw8 := hw.r1; have hw9 := hw.c1
  obtain ⟨g0, cap0, hv, _, _, _⟩ := Kd.S_form hS (by omega)
  injection hv with h1 h2 h3
  subst h1
  obtain ⟨gr, cap, cur, hcell, hbg, hokr, hheap, hle, hmax, hsz, htk, hback⟩ := S_row hS a.toNat (by omega) (by unfold rowB at hw7; omega)
  have hne : g ≠ gr := fun e_ => hok gr hokr e_.symm
  have hrow : rowB m a = m.getD a.toNat [] := rfl
  rw [← hrow] at hcell hle htk hback
  by_cases hfit : n + (l.length : Int) ≤ cp
  · have h0 := impl_Memory_appended_w0 a s n cp A1 c1 l g g0 gr cap c cur m (rowB m a) w hr hc hbx hne hcell hheap hle hsz htk (decide_eq_true hfit) hw1 hw2 hw3 hw4 hw5 hw9 hw6 hw8 h16 hl hfit
    refine h0.mono ?_
    rintro e_ w' ⟨rfl, cur', hc1, hc2, hB⟩
    have htk2 : l.take ((rowB m a).length - (s + n).toNat) = l := List.take_of_length_le (by omega)
    rw [Nat.zero_add, htk2] at hc2
    have hlen : (spl (rowB m a) (s + n).toNat l).length = (rowB m a).length := spl_length _ _ _ (by omega)
    have hP : appendP m a s n cp l = (putRow m a (spl (rowB m a) (s + n).toNat l), a, s, n + (l.length : Int), cp, true) := by unfold appendP; rw [if_pos hfit]
    rw [hP]
    have hpl : (putRow m a (spl (rowB m a) (s + n).toNat l)).length = m.length := by unfold putRow; rw [List.length_set]
    have hgw : g < w.heap.size := blk_lt hbx
    refine ⟨rfl, ⟨hB.os, hB.tape, hB.output⟩, ⟨by have := hB.size; rw [setRow_size] at this; exact this, fun k hk hn => (hB.block k hk).trans (setRow_other w gr k cur' (fun e => hn (.inl (e ▸ hokr))))⟩, some ⟨g0, 0, none⟩, c, ?_, ?_⟩
    · show bx g #[.slice (some ⟨g0, 0, none⟩) (putRow m a (spl (rowB m a) (s + n).toNat l)).length c] 31 w'
      rw [hpl]
      exact (hB.block g hgw).trans ((setRow_other w gr g cur' hne).trans hbx)
    · show Kd.S _ _ w' base _ (.slice (some ⟨g0, 0, none⟩) (putRow m a (spl (rowB m a) (s + n).toNat l)).length c) (putRow m a (spl (rowB m a) (s + n).toNat l))
      rw [hpl]
      have hS1 := hback (w.setRow gr cur') cur' _ ⟨by simp, fun k _ hn => setRow_other w gr k cur' hn⟩ (setRow_heap w gr _ _ _ _ hheap) (by rw [hc1, hsz]) hlen hc2
      refine Kd.S_mono (Kd.S_step hS1 (fun k _ hkl => hB.block k (by simpa using hkl))) (fun k hk => .inl hk)
  · have hT0 : decide (n + (l.length : Int) ≤ cp) = false := decide_eq_false hfit
    by_cases hbad : n + (l.length : Int) > 64 ∨ (m.length : Int) = 16
    · have hP : appendP m a s n cp l = (m, 0, 0, 0, 0, false) := by unfold appendP; rw [if_neg hfit, if_pos hbad]
      rw [hP]
      have fin : ∀ w', Below w.heap.size w w' → (w'.os = w.os ∧ w'.tape = w.tape ∧ w'.output = w.output) ∧ Kept w w' (fun k => ok k ∨ k = g) ∧ ∃ A2 c2, bx g #[.slice A2 m.length c2] 31 w' ∧ Kd.S (Kd.slice 5 (Kd.int .u8)) 29 w' base (fun k => ok k ∨ w.heap.size ≤ k) (.slice A2 m.length c2) m := fun w' hB =>
        ⟨⟨hB.os, hB.tape, hB.output⟩, Kept.of_below hB _, some ⟨g0, 0, none⟩, c, (hB.block g (blk_lt hbx)).trans hbx, Kd.S_mono (Kd.S_below hS hB) (fun k hk => .inl hk)⟩
      by_cases h64 : n + (l.length : Int) > 64
      · refine (impl_Memory_appended_w1 a s n cp A1 c1 l g g0 gr cap c cur m (rowB m a) w hr hc hbx hne hcell hheap hle hsz htk hT0 (decide_eq_true h64) hw1 hw2 hw3 hw4 hw5 hw9 hw6 hw8 h16 hl).mono ?_
        rintro e_ w' ⟨rfl, hB⟩
        exact ⟨rfl, fin w' hB⟩
      · refine (impl_Memory_appended_w2 a s n cp A1 c1 l g g0 gr cap c cur m (rowB m a) w hr hc hbx hne hcell hheap hle hsz htk hT0 (decide_eq_false h64) (beq_iff_eq.2 (hbad.resolve_left h64)) hw1 hw2 hw3 hw4 hw5 hw9 hw6 hw8 h16 hl).mono ?_
        rintro e_ w' ⟨rfl, hB⟩
        exact ⟨rfl, fin w' hB⟩
    · have hP : appendP m a s n cp l = (m ++ [growRow (rowB m a) s n (roomP n cp l).toNat l], (m.length : Int), 0, n + (l.length : Int), ((roomP n cp l).toNat : Int), true) := by unfold appendP; rw [if_neg hfit, if_neg hbad]
      rw [hP]
      refine (impl_Memory_appended_w3 a s n cp A1 c1 l g g0 gr cap c cur m (rowB m a) w hr hc hbx hne hcell hheap hle hsz htk hT0 (decide_eq_false (fun h => hbad (.inl h))) (by rw [beq_eq_false_iff_ne]; exact fun h => hbad (.inr h)) base ok hS hok hbase hw1 hw2 hw3 hw4 hw5 hw9 hw6 hw8 h16 hl).mono ?_
      rintro e_ w' ⟨rfl, hos, hK, A2, c2, hb2, hS2⟩
      refine ⟨rfl, hos, hK, A2, c2, ?_, ?_⟩
      · show bx g #[.slice A2 (m ++ [_]).length c2] 31 w'
        rw [List.length_append, List.length_singleton]
        exact hb2
      · show Kd.S _ _ w' base _ (.slice A2 (m ++ [_]).length c2) (m ++ [_])
        rw [List.length_append, List.length_singleton]
        exact hS2
end Go.Proofs.Ytaieobidkmihkaa.P


/- GrowWindow: what it comes to; an argument's element as what a callee may read. -/
namespace Go.Proofs.Ytaieobidkmihkaa.P
open Go.RowKit Go.Proofs.YtaieobidkmihkaaW.PrintWords Go.Proofs.YtaieobidkmihkaaW.PrintMore Go.Proofs.YtaieobidkmihkaaW.Mine
set_option linter.unusedVariables false
set_option linter.unusedSimpArgs false
theorem C_rowD {e : Nat} {w : World} {A : Option Addr} {l : List (List Int)} {i : Nat} (h : Kd.C (Kd.slice e (Kd.int .u8)) w A l.length l) (hi : i < l.length) :
    ∃ (a : Addr) (ad : Option Addr) (cap : Nat), A = some a ∧ w.cell? (a.add i) = some (.slice ad (l[i]).length cap) ∧ (l[i]).length ≤ cap ∧ Kd.C (Kd.int .u8) w ad (l[i]).length l[i] := by
  obtain ⟨a, hA, hc⟩ := h.2.2 (by omega)
  obtain ⟨c, hcl, ⟨A2, c2, hc1, hc2, hC⟩, hcell⟩ := hc i _ (List.getElem?_eq_getElem hi)
  subst hc1
  have h0 := hcell 0 _ rfl
  refine ⟨a, A2, c2, hA, ?_, hc2, hC⟩
  rw [← h0]
  congr 1
  first | rfl | (unfold Addr.add; by_cases z : i = 0 <;> simp [z, Kd.slice])
def growGo (M : List (List Int)) (x0 x1 x2 x3 mv : Int) : List (List Int) → List (List Int) × Int × Int × Int × Int × Int × Bool
  | [] => (M, x0, x1, x2, x3, mv, true)
  | l :: r =>
    match appendP M x0 x1 x2 x3 l with
    | (M2, y0, y1, y2, y3, true) => growGo M2 y0 y1 y2 y3 (if y0 = x0 then mv else mv + 1) r
    | (_, _, _, _, _, false) => ([], 0, 0, 0, 0, 0, false)
theorem growGo_ok {M M2 : List (List Int)} {x0 x1 x2 x3 mv y0 y1 y2 y3 : Int} {l : List Int} {r : List (List Int)} (h : appendP M x0 x1 x2 x3 l = (M2, y0, y1, y2, y3, true)) : growGo M x0 x1 x2 x3 mv (l :: r) = growGo M2 y0 y1 y2 y3 (if y0 = x0 then mv else mv + 1) r := by
  rw [growGo, h]
theorem growGo_no {M M2 : List (List Int)} {x0 x1 x2 x3 mv y0 y1 y2 y3 : Int} {l : List Int} {r : List (List Int)} (h : appendP M x0 x1 x2 x3 l = (M2, y0, y1, y2, y3, false)) : growGo M x0 x1 x2 x3 mv (l :: r) = ([], 0, 0, 0, 0, 0, false) := by
  rw [growGo, h]
theorem appendP_len {m M : List (List Int)} {a s n cp x0 x1 x2 x3 : Int} {l : List Int} {b : Bool} (h16 : m.length ≤ 16) (hP : appendP m a s n cp l = (M, x0, x1, x2, x3, b)) : M.length ≤ 16 := by
  unfold appendP at hP
  split at hP
  · cases hP
    unfold putRow
    rw [List.length_set]
    exact h16
  · split at hP
    · cases hP
      exact h16
    · rename_i hb
      cases hP
      have hb2 : ¬ (m.length : Int) = 16 := fun h => hb (.inr h)
      simp
      omega
end Go.Proofs.Ytaieobidkmihkaa.P


namespace Go.Proofs.Ytaieobidkmihkaa.P
open Go.RowKit Go.Proofs.YtaieobidkmihkaaW.PrintWords Go.Proofs.YtaieobidkmihkaaW.PrintLast Go.Proofs.YtaieobidkmihkaaW.PrintMore
attribute [local go_sem] max2_int min2_int max_two min_two max_three min_three max_four min_four   -- for this text's walks alone
set_option linter.unusedVariables false
set_option linter.unusedSimpArgs false

def spec_l2New.f (k : Nat) (l0_0 : List (List Int)) (l1 : List Int) (a2 : Int) : Option ((List (List Int)) × Int × Int × Int × Int) := (spec_l2Own.f k l0_0).bind fun t601 => ((some (([] : List Int) : List Int)).bind fun y605 => (if y605.length + l1.length < 140737488355328 then (if t601.length < 5864062014805 then (some ((t601 ++ [(y605 ++ l1)]), (l0_0.length : Int), 0, a2, (l1.length : Int))) else (none)) else (none)))
def spec_l2New.T2 : Bool × List (List Nat × List Nat) := (true, [([], []), ([0], [0]), ([], []), ([], []), ([2, 3], [2, 3]), ([4], [4]), ([1, 5, 4], [1, 5]), ([0, 1, 2, 3, 4, 5, 6], []), ([7, 6, 6, 0, 1, 2, 3, 4, 5, 6], [6, 7])])
def spec_l2New.B2 : List Nat := [0, 1, 0, 0, 12, 28, 63, 127, 255]
theorem spec_l2New.tab2 : rtab .any (opsOf Try.f85 2) = spec_l2New.T2 := by kernel_rfl
theorem spec_l2New.bits2 : waitsOk spec_l2New.T2.2 spec_l2New.B2 = true := by kernel_rfl
def spec_l2New.T3 : Bool × List (List Nat × List Nat) := (true, [([], []), ([], []), ([1], [1]), ([2], [2]), ([], []), ([], []), ([5], [5]), ([3, 4, 6], [3, 4, 6]), ([0, 0], [0]), ([7, 8, 0, 1, 2, 3, 4, 5, 6, 7, 8], [7])])
def spec_l2New.B3 : List Nat := [0, 0, 2, 6, 0, 0, 32, 126, 1, 511]
theorem spec_l2New.tab3 : rtab .any (opsOf Try.f85 3) = spec_l2New.T3 := by kernel_rfl
theorem spec_l2New.bits3 : waitsOk spec_l2New.T3.2 spec_l2New.B3 = true := by kernel_rfl
set_option maxHeartbeats 8000000 in
set_option maxRecDepth 100000 in
theorem spec_l2New.calls (k : Nat) (A0_0 : Option Addr) (c0_0 : Nat) (l0_0 : List (List Int)) (A1 : Option Addr) (c1 : Nat) (l1 : List Int) (a2 : Int) (r1 : List (List Int)) (r2 : Int) (r3 : Int) (r4 : Int) (r5 : Int) (w : World) (hr0_0 : Kd.C (Kd.slice 5 (Kd.int .u8)) w A0_0 l0_0.length l0_0) (hc0_0 : l0_0.length ≤ c0_0) (hr1 : Kd.C (Kd.int .u8) w A1 l1.length l1) (hc1 : l1.length ≤ c1) (h : spec_l2New.f k l0_0 l1 a2 = some (r1, r2, r3, r4, r5)) :
    Calls Try.prog 85 #[.agg #[.slice A0_0 l0_0.length c0_0], .slice A1 l1.length c1, .int .i64 a2] w fun e w' => ∃ v0_ : Value, e = .returned (.tuple #[.agg #[v0_], .agg #[.int .i64 r2, .int .i64 r3, .int .i64 r4, .int .i64 r5]]) ∧ Kd.S (Kd.slice 5 (Kd.int .u8)) 29 w' w.heap.size (fun _ => True) v0_ r1 ∧ Below w.heap.size w w' := by
  have hu31 := Try.underlying31
  have hu32 := Try.underlying32
  have HR0_0 := Aside0.mk hr0_0
  have HC0_0 := Aside0.mk hc0_0
  clear hr0_0 hc0_0
  have HR1 := Aside0.mk hr1
  have HC1 := Aside0.mk hc1
  clear hr1 hc1
  have HB := Aside0.mk (Below.refl w.heap.size w)
  have H : ((spec_l2Own.f k l0_0).bind fun t601 => ((some (([] : List Int) : List Int)).bind fun y605 => (if y605.length + l1.length < 140737488355328 then (if t601.length < 5864062014805 then (some ((t601 ++ [(y605 ++ l1)]), (l0_0.length : Int), 0, a2, (l1.length : Int))) else (none)) else (none)))) = some (r1, r2, r3, r4, r5) := h
  clear h
  replace H := Option.bind_eq_some_iff.mp H
  obtain ⟨t601, A40, H⟩ := H
  replace H : ((some (([] : List Int) : List Int)).bind fun y605 => (if y605.length + l1.length < 140737488355328 then (if t601.length < 5864062014805 then (some ((t601 ++ [(y605 ++ l1)]), (l0_0.length : Int), 0, a2, (l1.length : Int))) else (none)) else (none))) = some (r1, r2, r3, r4, r5) := H
  have A4 := Aside0.mk A40
  clear A40
  obtain ⟨y605, hy605⟩ : ∃ y_ : List Int, y_ = (([] : List Int)) := ⟨_, rfl⟩
  replace H : (if y605.length + l1.length < 140737488355328 then (if t601.length < 5864062014805 then (some ((t601 ++ [(y605 ++ l1)]), (l0_0.length : Int), 0, a2, (l1.length : Int))) else (none)) else (none)) = some (r1, r2, r3, r4, r5) := by first | (rw [hy605]; with_reducible exact H) | (have H2_ := (Option.bind_some _ _).symm.trans H; rw [hy605]; with_reducible exact H2_) | (have H2_ := (Option.bind_some _ _).symm.trans H; with_reducible exact H2_) | with_reducible exact H | (rw [hy605]; exact H) | exact H
  have Ny605 := Aside0.mk hy605
  clear hy605
  by_cases c5 : y605.length + l1.length < 140737488355328
  · rw [if_pos c5] at H
    have LMc5 := Aside0.mk c5
    clear c5
    obtain ⟨y608, hy608⟩ : ∃ y_ : List Int, y_ = (y605 ++ l1) := ⟨_, rfl⟩
    replace H : (if t601.length < 5864062014805 then (some ((t601 ++ [y608]), (l0_0.length : Int), 0, a2, (l1.length : Int))) else (none)) = some (r1, r2, r3, r4, r5) := by first | (rw [hy608]; with_reducible exact H) | (have H2_ := (Option.bind_some _ _).symm.trans H; rw [hy608]; with_reducible exact H2_) | (have H2_ := (Option.bind_some _ _).symm.trans H; with_reducible exact H2_) | with_reducible exact H | (rw [hy608]; exact H) | exact H
    have Ny608 := Aside0.mk hy608
    clear hy608
    by_cases c6 : t601.length < 5864062014805
    · rw [if_pos c6] at H
      have LMc6 := Aside0.mk c6
      clear c6
      obtain ⟨y611, hy611⟩ : ∃ y_ : List (List Int), y_ = (t601 ++ [y608]) := ⟨_, rfl⟩
      replace H : (some (y611, (l0_0.length : Int), 0, a2, (l1.length : Int))) = some (r1, r2, r3, r4, r5) := by first | (rw [hy611]; with_reducible exact H) | (have H2_ := (Option.bind_some _ _).symm.trans H; rw [hy611]; with_reducible exact H2_) | (have H2_ := (Option.bind_some _ _).symm.trans H; with_reducible exact H2_) | with_reducible exact H | (rw [hy611]; exact H) | exact H
      have Ny611 := Aside0.mk hy611
      clear hy611
      simp only [Option.some.injEq, Prod.mk.injEq] at H
      obtain ⟨rfl, rfl, rfl, rfl, rfl⟩ := H
      go_enter Try.func85, Try.ntmps85
      try go_wp2_with (first | ((with_reducible refine gate_dst (N := 3) rfl ?_); refine box_event ?hg (N := 3) ?hd (cs := #[.slice A0_0 l0_0.length c0_0]) (t := 31) ?hr ?_; (case hd => rfl); (case hg => rfl); (case hr => first | (go_simp; done) | (go_simp; rfl)); intro gb598 hg w7 hbox hb; have n0_ := Aside0.mk (below_step (by repeat (first | (with_reducible first | exact HB.out | apply below_alloc | apply pw_below_drewN | apply below_drew1) | exact HB.out)) hb); have n1_ := Aside0.mk (hbox); have n2_ := Aside0.mk ((by rw [hg]; exact (below_size (by repeat (first | (with_reducible first | exact HB.out | apply below_alloc | apply pw_below_drewN | apply below_drew1) | exact HB.out))) : w.heap.size ≤ gb598)); have n3_ := Aside0.mk ((by rw [hg]; exact (below_size (by repeat (first | (with_reducible first | exact HB.out | apply below_alloc | apply pw_below_drewN | apply below_drew1) | exact HB.out))) : w.heap.size ≤ gb598)); clear HB; have HB := n0_; have BK598 := n1_; have GW598 := n2_; have GE598 := n3_; clear n0_ n1_ n2_ n3_; clear hb hbox hg) | ((with_reducible refine gate_dst (N := 6) rfl ?_); refine box_event ?hg (N := 6) ?hd (cs := #[.slice none 0 0]) (t := 31) ?hr ?_; (case hd => rfl); (case hg => rfl); (case hr => first | (go_simp; done) | (go_simp; rfl)); intro gb599 hg w8 hbox hb; have n0_ := Aside0.mk (blk_below (g := gb598) (o := .cells #[.slice A0_0 l0_0.length c0_0] 31 (0, 0)) (by (with_reducible repeat (first | refine blk_drewN ?_ _ | refine blk_drew ?_ | refine blk_alloc ?_ _)); exact BK598.out) hb); have n1_ := Aside0.mk (below_step (by repeat (first | (with_reducible first | exact HB.out | apply below_alloc | apply pw_below_drewN | apply below_drew1 | refine below_set ?_ GE598.out) | exact HB.out)) hb); have n2_ := Aside0.mk (hbox); have n3_ := Aside0.mk ((by rw [hg]; exact (below_size (by repeat (first | (with_reducible first | exact HB.out | apply below_alloc | apply pw_below_drewN | apply below_drew1 | refine below_set ?_ GE598.out) | exact HB.out))) : w.heap.size ≤ gb599)); have n4_ := Aside0.mk ((by rw [hg]; exact (below_size (by repeat (first | (with_reducible first | exact HB.out | apply below_alloc | apply pw_below_drewN | apply below_drew1 | refine below_set ?_ GE598.out) | exact HB.out))) : w.heap.size ≤ gb599)); have n5_ := Aside0.mk ((by rw [hg]; exact Nat.ne_of_lt (blk_lt (g := gb598) (o := .cells #[.slice A0_0 l0_0.length c0_0] 31 (0, 0)) (by (with_reducible repeat (first | refine blk_drewN ?_ _ | refine blk_drew ?_ | refine blk_alloc ?_ _)); exact BK598.out)) : gb598 ≠ gb599)); have n6_ := Aside0.mk ((by rw [hg]; exact Nat.ne_of_gt (blk_lt (g := gb598) (o := .cells #[.slice A0_0 l0_0.length c0_0] 31 (0, 0)) (by (with_reducible repeat (first | refine blk_drewN ?_ _ | refine blk_drew ?_ | refine blk_alloc ?_ _)); exact BK598.out)) : gb599 ≠ gb598)); clear BK598; clear HB; have BK598 := n0_; have HB := n1_; have BK599 := n2_; have GW599 := n3_; have GE599 := n4_; have NB598_599 := n5_; have NB599_598 := n6_; clear n0_ n1_ n2_ n3_ n4_ n5_ n6_; clear hb hbox hg) | ((with_reducible refine gate_dst (N := 7) rfl ?_); refine box_event ?hg (N := 7) ?hd (cs := #[.int .i64 0, .int .i64 0, .int .i64 0, .int .i64 0]) (t := 32) ?hr ?_; (case hd => rfl); (case hg => rfl); (case hr => first | (go_simp; done) | (go_simp; rfl)); intro gb600 hg w9 hbox hb; have n0_ := Aside0.mk (blk_below (g := gb598) (o := .cells #[.slice A0_0 l0_0.length c0_0] 31 (0, 0)) (by (with_reducible repeat (first | refine blk_drewN ?_ _ | refine blk_drew ?_ | refine blk_alloc ?_ _)); exact BK598.out) hb); have n1_ := Aside0.mk (blk_below (g := gb599) (o := .cells #[.slice none 0 0] 31 (0, 0)) (by (with_reducible repeat (first | refine blk_drewN ?_ _ | refine blk_drew ?_ | refine blk_alloc ?_ _)); exact BK599.out) hb); have n2_ := Aside0.mk (below_step (by repeat (first | (with_reducible first | exact HB.out | apply below_alloc | apply pw_below_drewN | apply below_drew1 | refine below_set ?_ GE598.out | refine below_set ?_ GE599.out) | exact HB.out)) hb); have n3_ := Aside0.mk (hbox); have n4_ := Aside0.mk ((by rw [hg]; exact (below_size (by repeat (first | (with_reducible first | exact HB.out | apply below_alloc | apply pw_below_drewN | apply below_drew1 | refine below_set ?_ GE598.out | refine below_set ?_ GE599.out) | exact HB.out))) : w.heap.size ≤ gb600)); have n5_ := Aside0.mk ((by rw [hg]; exact (below_size (by repeat (first | (with_reducible first | exact HB.out | apply below_alloc | apply pw_below_drewN | apply below_drew1 | refine below_set ?_ GE598.out | refine below_set ?_ GE599.out) | exact HB.out))) : w.heap.size ≤ gb600)); have n6_ := Aside0.mk ((by rw [hg]; exact Nat.ne_of_lt (blk_lt (g := gb598) (o := .cells #[.slice A0_0 l0_0.length c0_0] 31 (0, 0)) (by (with_reducible repeat (first | refine blk_drewN ?_ _ | refine blk_drew ?_ | refine blk_alloc ?_ _)); exact BK598.out)) : gb598 ≠ gb600)); have n7_ := Aside0.mk ((by rw [hg]; exact Nat.ne_of_gt (blk_lt (g := gb598) (o := .cells #[.slice A0_0 l0_0.length c0_0] 31 (0, 0)) (by (with_reducible repeat (first | refine blk_drewN ?_ _ | refine blk_drew ?_ | refine blk_alloc ?_ _)); exact BK598.out)) : gb600 ≠ gb598)); have n8_ := Aside0.mk ((by rw [hg]; exact Nat.ne_of_lt (blk_lt (g := gb599) (o := .cells #[.slice none 0 0] 31 (0, 0)) (by (with_reducible repeat (first | refine blk_drewN ?_ _ | refine blk_drew ?_ | refine blk_alloc ?_ _)); exact BK599.out)) : gb599 ≠ gb600)); have n9_ := Aside0.mk ((by rw [hg]; exact Nat.ne_of_gt (blk_lt (g := gb599) (o := .cells #[.slice none 0 0] 31 (0, 0)) (by (with_reducible repeat (first | refine blk_drewN ?_ _ | refine blk_drew ?_ | refine blk_alloc ?_ _)); exact BK599.out)) : gb600 ≠ gb599)); clear BK598; clear BK599; clear HB; have BK598 := n0_; have BK599 := n1_; have HB := n2_; have BK600 := n3_; have GW600 := n4_; have GE600 := n5_; have NB598_600 := n6_; have NB600_598 := n7_; have NB599_600 := n8_; have NB600_599 := n9_; clear n0_ n1_ n2_ n3_ n4_ n5_ n6_ n7_ n8_ n9_; clear hb hbox hg; have hnb10 := NB598_599.out; have hnc10 := NB599_598.out; have hnb11 := NB598_600.out; have hnc11 := NB600_598.out; have hcz12_0 : w9.cell? ⟨gb598, 0, none⟩ = some (.slice A0_0 l0_0.length c0_0) := (blk_cell BK598.out 0).trans rfl; have hfz12_0 := blk_frozen BK598.out 0) | ((with_reducible refine gate_callee (f := 66) rfl ?_); refine goesL_ (some 10) rfl rfl Try.func66 (by kernel_rfl) rfl #[.agg #[.slice A0_0 l0_0.length c0_0]] rfl (by (try simp only [List.map_toArray, List.map_cons, List.map_nil]); first | done | rfl | (simp only [List.length_drop, List.length_take]; rfl)) ?_; (with_reducible refine (spec_l2Own.calls k _ _ l0_0 t601 _ ?side1 ?side2 A4.out).mono ?_); (case side1 => repeat (first | exact (Kd.C_below HR0_0.out HB.out) | (with_reducible refine Kd.C_alloc ?_ _) | (with_reducible refine Kd.C_drewN ?_ _) | (with_reducible refine Kd.C_drew ?_))); (case side2 => exact HC0_0.out); rintro e w13 ⟨v602, rfl, ho0, hb⟩; refine ⟨_, rfl, ?_⟩; have n0_ := Aside0.mk (Kd.S_lower ho0 (below_size (by repeat (first | (with_reducible first | exact HB.out | apply below_alloc | apply pw_below_drewN | apply below_drew1 | refine below_set ?_ GE598.out | refine below_set ?_ GE599.out | refine below_set ?_ GE600.out) | exact HB.out)))); have n1_ := Aside0.mk (blk_below (g := gb598) (o := .cells #[.slice A0_0 l0_0.length c0_0] 31 (0, 0)) (by (with_reducible repeat (first | refine blk_drewN ?_ _ | refine blk_drew ?_ | refine blk_alloc ?_ _)); exact BK598.out) hb); have n2_ := Aside0.mk (blk_below (g := gb599) (o := .cells #[.slice none 0 0] 31 (0, 0)) (by (with_reducible repeat (first | refine blk_drewN ?_ _ | refine blk_drew ?_ | refine blk_alloc ?_ _)); exact BK599.out) hb); have n3_ := Aside0.mk (blk_below (g := gb600) (o := .cells #[.int .i64 0, .int .i64 0, .int .i64 0, .int .i64 0] 32 (0, 0)) (by (with_reducible repeat (first | refine blk_drewN ?_ _ | refine blk_drew ?_ | refine blk_alloc ?_ _)); exact BK600.out) hb); have n4_ := Aside0.mk (below_step (by repeat (first | (with_reducible first | exact HB.out | apply below_alloc | apply pw_below_drewN | apply below_drew1 | refine below_set ?_ GE598.out | refine below_set ?_ GE599.out | refine below_set ?_ GE600.out) | exact HB.out)) hb); clear BK598; clear BK599; clear BK600; clear HB; have HO603 := n0_; have BK598 := n1_; have BK599 := n2_; have BK600 := n3_; have HB := n4_; clear n0_ n1_ n2_ n3_ n4_; (try clear hb); (try clear hb2); (try clear hk); (try clear hi); (try clear ho0)) | ((with_reducible refine gate_dst (N := 8) rfl ?_); refine box_event ?hg (N := 8) ?hd (cs := #[.slice none 0 0]) (t := 31) ?hr ?_; (case hd => rfl); (case hg => rfl); (case hr => first | (go_simp; done) | (go_simp; rfl)); intro gb604 hg w14 hbox hb; have n0_ := Aside0.mk (Kd.S_below (by (with_reducible repeat (first | apply Kd.S_alloc | apply Kd.S_drewN | apply Kd.S_drew)); exact HO603.out) hb); have n1_ := Aside0.mk (blk_below (g := gb598) (o := .cells #[.slice A0_0 l0_0.length c0_0] 31 (0, 0)) (by (with_reducible repeat (first | refine blk_drewN ?_ _ | refine blk_drew ?_ | refine blk_alloc ?_ _)); exact BK598.out) hb); have n2_ := Aside0.mk (blk_below (g := gb599) (o := .cells #[.slice none 0 0] 31 (0, 0)) (by (with_reducible repeat (first | refine blk_drewN ?_ _ | refine blk_drew ?_ | refine blk_alloc ?_ _)); exact BK599.out) hb); have n3_ := Aside0.mk (blk_below (g := gb600) (o := .cells #[.int .i64 0, .int .i64 0, .int .i64 0, .int .i64 0] 32 (0, 0)) (by (with_reducible repeat (first | refine blk_drewN ?_ _ | refine blk_drew ?_ | refine blk_alloc ?_ _)); exact BK600.out) hb); have n4_ := Aside0.mk (below_step (by repeat (first | (with_reducible first | exact HB.out | apply below_alloc | apply pw_below_drewN | apply below_drew1 | refine below_set ?_ GE598.out | refine below_set ?_ GE599.out | refine below_set ?_ GE600.out) | exact HB.out)) hb); have n5_ := Aside0.mk (hbox); have n6_ := Aside0.mk ((by rw [hg]; exact (below_size (by repeat (first | (with_reducible first | exact HB.out | apply below_alloc | apply pw_below_drewN | apply below_drew1 | refine below_set ?_ GE598.out | refine below_set ?_ GE599.out | refine below_set ?_ GE600.out) | exact HB.out))) : w.heap.size ≤ gb604)); have n7_ := Aside0.mk ((by rw [hg]; exact (below_size (by repeat (first | (with_reducible first | exact HB.out | apply below_alloc | apply pw_below_drewN | apply below_drew1 | refine below_set ?_ GE598.out | refine below_set ?_ GE599.out | refine below_set ?_ GE600.out) | exact HB.out))) : w.heap.size ≤ gb604)); have n8_ := Aside0.mk ((by rw [hg]; exact Nat.ne_of_lt (blk_lt (g := gb598) (o := .cells #[.slice A0_0 l0_0.length c0_0] 31 (0, 0)) (by (with_reducible repeat (first | refine blk_drewN ?_ _ | refine blk_drew ?_ | refine blk_alloc ?_ _)); exact BK598.out)) : gb598 ≠ gb604)); have n9_ := Aside0.mk ((by rw [hg]; exact Nat.ne_of_gt (blk_lt (g := gb598) (o := .cells #[.slice A0_0 l0_0.length c0_0] 31 (0, 0)) (by (with_reducible repeat (first | refine blk_drewN ?_ _ | refine blk_drew ?_ | refine blk_alloc ?_ _)); exact BK598.out)) : gb604 ≠ gb598)); have n10_ := Aside0.mk ((by rw [hg]; exact Nat.ne_of_lt (blk_lt (g := gb599) (o := .cells #[.slice none 0 0] 31 (0, 0)) (by (with_reducible repeat (first | refine blk_drewN ?_ _ | refine blk_drew ?_ | refine blk_alloc ?_ _)); exact BK599.out)) : gb599 ≠ gb604)); have n11_ := Aside0.mk ((by rw [hg]; exact Nat.ne_of_gt (blk_lt (g := gb599) (o := .cells #[.slice none 0 0] 31 (0, 0)) (by (with_reducible repeat (first | refine blk_drewN ?_ _ | refine blk_drew ?_ | refine blk_alloc ?_ _)); exact BK599.out)) : gb604 ≠ gb599)); have n12_ := Aside0.mk ((by rw [hg]; exact Nat.ne_of_lt (blk_lt (g := gb600) (o := .cells #[.int .i64 0, .int .i64 0, .int .i64 0, .int .i64 0] 32 (0, 0)) (by (with_reducible repeat (first | refine blk_drewN ?_ _ | refine blk_drew ?_ | refine blk_alloc ?_ _)); exact BK600.out)) : gb600 ≠ gb604)); have n13_ := Aside0.mk ((by rw [hg]; exact Nat.ne_of_gt (blk_lt (g := gb600) (o := .cells #[.int .i64 0, .int .i64 0, .int .i64 0, .int .i64 0] 32 (0, 0)) (by (with_reducible repeat (first | refine blk_drewN ?_ _ | refine blk_drew ?_ | refine blk_alloc ?_ _)); exact BK600.out)) : gb604 ≠ gb600)); clear HO603; clear BK598; clear BK599; clear BK600; clear HB; have HO603 := n0_; have BK598 := n1_; have BK599 := n2_; have BK600 := n3_; have HB := n4_; have BK604 := n5_; have GW604 := n6_; have GE604 := n7_; have NB598_604 := n8_; have NB604_598 := n9_; have NB599_604 := n10_; have NB604_599 := n11_; have NB600_604 := n12_; have NB604_600 := n13_; clear n0_ n1_ n2_ n3_ n4_ n5_ n6_ n7_ n8_ n9_ n10_ n11_ n12_ n13_; clear hb hbox hg; obtain ⟨Ao15, co15, eo15⟩ := Kd.S_slice HO603.out; subst eo15; have hnb16 := NB604_598.out; have hnc16 := NB598_604.out; have hnb17 := NB604_599.out; have hnc17 := NB599_604.out; have hnb18 := NB604_600.out; have hnc18 := NB600_604.out; have hcz19_0 : w14.cell? ⟨gb604, 0, none⟩ = some (.slice none 0 0) := (blk_cell BK604.out 0).trans rfl; have hfz19_0 := blk_frozen BK604.out 0))
      have n0_ : Aside0 (Kd.S (Kd.slice 5 (Kd.int .u8)) 29 (w14.setCell ⟨gb604, 0, none⟩ (.slice Ao15 t601.length co15)) w.heap.size (fun _ => True) (.slice Ao15 t601.length co15) t601) := ⟨by (with_reducible repeat (first | apply Kd.S_alloc | apply Kd.S_drewN | apply Kd.S_drew)); exact Kd.S_mono (Kd.S_far (p := ⟨gb604, 0, none⟩) (Kd.S_types HO603.out BK604.out (by decide)) (fun _ hk => hk.2) (.slice Ao15 t601.length co15)) (fun _ hk => trivial)⟩
      have n1_ : Aside0 ((w14.setCell ⟨gb604, 0, none⟩ (.slice Ao15 t601.length co15)).heap[gb598]? = some (.cells #[.slice A0_0 l0_0.length c0_0] 31 (0, 0))) := ⟨by (with_reducible repeat (first | refine blk_drewN ?_ _ | refine blk_drew ?_ | refine blk_alloc ?_ _)); refine blk_far ?_ NB598_604.out _; (with_reducible repeat (first | refine blk_drewN ?_ _ | refine blk_drew ?_ | refine blk_alloc ?_ _)); exact BK598.out⟩
      have n2_ : Aside0 ((w14.setCell ⟨gb604, 0, none⟩ (.slice Ao15 t601.length co15)).heap[gb599]? = some (.cells #[.slice none 0 0] 31 (0, 0))) := ⟨by (with_reducible repeat (first | refine blk_drewN ?_ _ | refine blk_drew ?_ | refine blk_alloc ?_ _)); refine blk_far ?_ NB599_604.out _; (with_reducible repeat (first | refine blk_drewN ?_ _ | refine blk_drew ?_ | refine blk_alloc ?_ _)); exact BK599.out⟩
      have n3_ : Aside0 ((w14.setCell ⟨gb604, 0, none⟩ (.slice Ao15 t601.length co15)).heap[gb600]? = some (.cells #[.int .i64 0, .int .i64 0, .int .i64 0, .int .i64 0] 32 (0, 0))) := ⟨by (with_reducible repeat (first | refine blk_drewN ?_ _ | refine blk_drew ?_ | refine blk_alloc ?_ _)); refine blk_far ?_ NB600_604.out _; (with_reducible repeat (first | refine blk_drewN ?_ _ | refine blk_drew ?_ | refine blk_alloc ?_ _)); exact BK600.out⟩
      have n4_ : Aside0 ((w14.setCell ⟨gb604, 0, none⟩ (.slice Ao15 t601.length co15)).heap[gb604]? = some (.cells #[.slice Ao15 t601.length co15] 31 (0, 0))) := ⟨by (with_reducible repeat (first | refine blk_drewN ?_ _ | refine blk_drew ?_ | refine blk_alloc ?_ _)); refine blk_put (cs := #[.slice none 0 0]) ?_ 0 _ rfl; (with_reducible repeat (first | refine blk_drewN ?_ _ | refine blk_drew ?_ | refine blk_alloc ?_ _)); exact BK604.out⟩
      have n5_ : Aside0 (Below w.heap.size w (w14.setCell ⟨gb604, 0, none⟩ (.slice Ao15 t601.length co15))) := ⟨by repeat (first | (with_reducible first | exact HB.out | apply below_alloc | apply pw_below_drewN | apply below_drew1 | refine below_set ?_ GE598.out | refine below_set ?_ GE599.out | refine below_set ?_ GE600.out | refine below_set ?_ GE604.out) | exact HB.out)⟩
      (try clear HO603)
      (try clear BK598)
      (try clear BK599)
      (try clear BK600)
      (try clear BK604)
      (try clear HB)
      generalize (w14.setCell ⟨gb604, 0, none⟩ (.slice Ao15 t601.length co15)) = w20 at n0_ n1_ n2_ n3_ n4_ n5_ ⊢
      have HO603 := n0_
      have BK598 := n1_
      have BK599 := n2_
      have BK600 := n3_
      have BK604 := n4_
      have HB := n5_
      clear n0_ n1_ n2_ n3_ n4_ n5_
      have n0_ := Aside0.mk (Kd.S_drew HO603.out)
      have n1_ := Aside0.mk (blk_drew BK598.out)
      have n2_ := Aside0.mk (blk_drew BK599.out)
      have n3_ := Aside0.mk (blk_drew BK600.out)
      have n4_ := Aside0.mk (blk_drew BK604.out)
      have n5_ := Aside0.mk (below_drew1 HB.out)
      clear HO603
      clear BK598
      clear BK599
      clear BK600
      clear BK604
      clear HB
      have HO603 := n0_
      have BK598 := n1_
      have BK599 := n2_
      have BK600 := n3_
      have BK604 := n4_
      have HB := n5_
      clear n0_ n1_ n2_ n3_ n4_ n5_
      refine start_ (n := 9) (S := fun w' => w'.cell? ⟨gb604, 0, none⟩ = some (.slice Ao15 t601.length co15)) (ds := [8]) #[false, false, false, false, false, false, false, false, false] (by kernel_rfl) rfl rfl ((blk_cell BK604.out 0).trans rfl) (fun hHeld => ?_); refine with_tabW spec_l2New.tab2 spec_l2New.bits2 (fun HT_ HW_ => ?_)
      generalize w20.drew = w21 at HO603 BK598 BK599 BK600 BK604 HB hHeld ⊢
      refine pure_ (i := 0) (N := some 11) (v := ?_) (a' := ?_) #[true, false, false, false, false, false, false, false, false] rfl rfl (any_of HT_.out (by kernel_rfl)) (fun _ _ _ h => h) (Or.inl ⟨by rfl, ?_⟩) ?_ ?_
      rotate_left
      · intro w'
        go_simp
        with_reducible rfl
      rotate_left
      · simp only [Act.put, List.setIfInBounds_toArray, List.set_cons_zero, List.set_cons_succ, i64_w, i32_w]
        rfl
      refine pure_ (i := 3) (N := some 14) (v := ?_) (a' := ?_) #[true, false, false, true, false, false, false, false, false] rfl rfl (any_of HT_.out (by kernel_rfl)) (fun _ _ _ h => h) (Or.inl ⟨by rfl, ?_⟩) ?_ ?_
      rotate_left
      · intro w'
        go_simp
        with_reducible rfl
      rotate_left
      · simp only [Act.put, List.setIfInBounds_toArray, List.set_cons_zero, List.set_cons_succ, i64_w, i32_w]
        rfl
      refine take_ (i := 1) (N := some 12) (v := ?_) (a' := ?_) #[true, true, false, true, false, false, false, false, false] rfl rfl (take_ofW HT_.out HW_.out (by kernel_rfl)) (fun _ _ _ h => h) (Or.inl ⟨by rfl, ?_⟩) hHeld ?_ ?_
      rotate_left
      · intro w' s0
        go_simp
        with_reducible rfl
      rotate_left
      · simp only [Act.put, List.setIfInBounds_toArray, List.set_cons_zero, List.set_cons_succ, i64_w, i32_w]
        rfl
      refine one_ (i := 2) (N := some 13) #[true, true, true, true, false, false, false, false, false] rfl rfl (one_of HT_.out (by kernel_rfl)) (by decide) (fun K hK => ?_)
      refine Kd.R_lit_step (Kd.int .u8) _ 5 ?hg (N := 13) ?hd (xs := ([] : List Int)) (inner := []) (ok := fun _ => True) (okp := fun _ => True) ?hr ?hp (fun _ hk => hk) trivial (Below.refl _ _) (Nat.le_refl _) (by simp) ?_; (case hd => rfl); (case hg => rfl); (case hr => first | (go_simp; done) | (go_simp; rfl)); (case hp => exact (Reps.none _ _))
      intro v606 w22 ho23 hb hg_ hnew_
      clear hg_ hnew_
      (first | rw [← Ny605.out] at ho23 | (simp only [Int.reduceToNat] at ho23; rw [← Ny605.out] at ho23))
      have n0_ := Aside0.mk (Kd.S_elder' (by (with_reducible repeat (first | apply Kd.S_alloc | apply Kd.S_drewN | apply Kd.S_drew)); exact HO603.out) (Kd.R_base ho23) hb)
      have n1_ := Aside0.mk (Kd.R_lower ho23 (below_size (by repeat (first | (with_reducible first | exact HB.out | apply below_alloc | apply pw_below_drewN | apply below_drew1 | refine below_set ?_ GE598.out | refine below_set ?_ GE599.out | refine below_set ?_ GE600.out | refine below_set ?_ GE604.out) | exact HB.out))))
      have n2_ := Aside0.mk (blk_below (g := gb598) (o := .cells #[.slice A0_0 l0_0.length c0_0] 31 (0, 0)) (by (with_reducible repeat (first | refine blk_drewN ?_ _ | refine blk_drew ?_ | refine blk_alloc ?_ _)); exact BK598.out) hb)
      have n3_ := Aside0.mk (blk_below (g := gb599) (o := .cells #[.slice none 0 0] 31 (0, 0)) (by (with_reducible repeat (first | refine blk_drewN ?_ _ | refine blk_drew ?_ | refine blk_alloc ?_ _)); exact BK599.out) hb)
      have n4_ := Aside0.mk (blk_below (g := gb600) (o := .cells #[.int .i64 0, .int .i64 0, .int .i64 0, .int .i64 0] 32 (0, 0)) (by (with_reducible repeat (first | refine blk_drewN ?_ _ | refine blk_drew ?_ | refine blk_alloc ?_ _)); exact BK600.out) hb)
      have n5_ := Aside0.mk (blk_below (g := gb604) (o := .cells #[.slice Ao15 t601.length co15] 31 (0, 0)) (by (with_reducible repeat (first | refine blk_drewN ?_ _ | refine blk_drew ?_ | refine blk_alloc ?_ _)); exact BK604.out) hb)
      have n6_ := Aside0.mk (below_step (by repeat (first | (with_reducible first | exact HB.out | apply below_alloc | apply pw_below_drewN | apply below_drew1 | refine below_set ?_ GE598.out | refine below_set ?_ GE599.out | refine below_set ?_ GE600.out | refine below_set ?_ GE604.out) | exact HB.out)) hb)
      clear HO603
      clear BK598
      clear BK599
      clear BK600
      clear BK604
      clear HB
      have HO603 := n0_
      have HO607 := n1_
      have BK598 := n2_
      have BK599 := n3_
      have BK600 := n4_
      have BK604 := n5_
      have HB := n6_
      clear n0_ n1_ n2_ n3_ n4_ n5_ n6_
      clear hb ho23
      refine hK.out _ _ ((blk_cell BK604.out 0).trans rfl) (fun hHeld => ?_)
      clear hK K
      refine norm_ (a' := ?_) ?_ ?_
      rotate_left
      · show Act.put _ (some 13) _ = _
        simp only [Act.put, List.setIfInBounds_toArray, List.set_cons_zero, List.set_cons_succ, i64_w, i32_w]
        rfl
      refine one_ (i := 4) (N := some 15) #[true, true, true, true, true, false, false, false, false] rfl rfl (one_of HT_.out (by kernel_rfl)) (by decide) (fun K hK => ?_)
      refine Kd.R_append_rows_step (Kd.int .u8) (w0 := w) w.heap.size (by rfl) (.tmp 13) (.tmp 14) 29 5 (.int .u8 0) 1 rfl Try.underlying29 info5 rfl (by decide) (by omega) v606 y605 l1 _ _ _ (fun _ => True) (fun _ => False) rfl rfl ?aO ?aR (fun _ _ h => h) (fun _ h => h.elim) ?aF ?aB ?aS ?aL ?_
      (case aR => repeat (first | exact (Kd.C_below HR1.out HB.out) | (with_reducible refine Kd.C_alloc ?_ _) | (with_reducible refine Kd.C_drewN ?_ _) | (with_reducible refine Kd.C_drew ?_)))
      (case aB => exact (by repeat (first | (with_reducible first | exact HB.out | apply below_alloc | apply pw_below_drewN | apply below_drew1 | refine below_set ?_ GE598.out | refine below_set ?_ GE599.out | refine below_set ?_ GE600.out | refine below_set ?_ GE604.out) | exact HB.out)))
      (case aF => exact (fun _ _ => trivial))
      (case aO => exact (by (with_reducible repeat (first | apply Kd.R_alloc | apply Kd.R_drewN | apply Kd.R_drew)); exact HO607.out))
      (case aS => exact (below_size (by repeat (first | (with_reducible first | exact HB.out | apply below_alloc | apply pw_below_drewN | apply below_drew1 | refine below_set ?_ GE598.out | refine below_set ?_ GE599.out | refine below_set ?_ GE600.out | refine below_set ?_ GE604.out) | exact HB.out))))
      (case aL => have := LMc5.out; omega)
      intro v609 w24 ho hb hg hat
      rw [← Ny608.out] at ho
      have n0_ := Aside0.mk (blk_grown (g := gb598) (o := .cells #[.slice A0_0 l0_0.length c0_0] 31 (0, 0)) (by (with_reducible repeat (first | refine blk_drewN ?_ _ | refine blk_drew ?_ | refine blk_alloc ?_ _)); exact BK598.out) hg (Kd.R_ne HO607.out BK598.out (by decide)))
      have n1_ := Aside0.mk (blk_grown (g := gb599) (o := .cells #[.slice none 0 0] 31 (0, 0)) (by (with_reducible repeat (first | refine blk_drewN ?_ _ | refine blk_drew ?_ | refine blk_alloc ?_ _)); exact BK599.out) hg (Kd.R_ne HO607.out BK599.out (by decide)))
      have n2_ := Aside0.mk (blk_grown (g := gb600) (o := .cells #[.int .i64 0, .int .i64 0, .int .i64 0, .int .i64 0] 32 (0, 0)) (by (with_reducible repeat (first | refine blk_drewN ?_ _ | refine blk_drew ?_ | refine blk_alloc ?_ _)); exact BK600.out) hg (Kd.R_ne HO607.out BK600.out (by decide)))
      have n3_ := Aside0.mk (Kd.S_after (ok := (fun _ => True)) (by (with_reducible repeat (first | apply Kd.S_alloc | apply Kd.S_drewN | apply Kd.S_drew)); exact HO603.out) hg hat)
      have n4_ := Aside0.mk (blk_grown (g := gb604) (o := .cells #[.slice Ao15 t601.length co15] 31 (0, 0)) (by (with_reducible repeat (first | refine blk_drewN ?_ _ | refine blk_drew ?_ | refine blk_alloc ?_ _)); exact BK604.out) hg (Kd.R_ne HO607.out BK604.out (by decide)))
      have n5_ := Aside0.mk (hb)
      have n6_ := Aside0.mk (ho)
      clear BK598
      clear BK599
      clear BK600
      clear HO603
      clear BK604
      clear HB
      clear HO607
      have BK598 := n0_
      have BK599 := n1_
      have BK600 := n2_
      have HO603 := n3_
      have BK604 := n4_
      have HB := n5_
      have HO610 := n6_
      clear n0_ n1_ n2_ n3_ n4_ n5_ n6_
      clear ho hb hg hat
      obtain ⟨Ao26, co26, eo26⟩ := Kd.R_slice HO610.out
      (first | subst eo26 | (injection eo26 with f1_ f2_ f3_; have f4_ := f1_.symm; have f5_ := f3_.symm; clear f1_ f2_ f3_; subst f4_; subst f5_))
      refine hK.out _ _ ((blk_cell BK604.out 0).trans rfl) (fun hHeld => ?_)
      clear hK K
      refine norm_ (a' := ?_) ?_ ?_
      rotate_left
      · show Act.put _ (some 15) _ = _
        simp only [Act.put, List.setIfInBounds_toArray, List.set_cons_zero, List.set_cons_succ, i64_w, i32_w]
        rfl
      refine one_ (i := 5) (N := some 16) #[true, true, true, true, true, true, false, false, false] rfl rfl (one_of HT_.out (by kernel_rfl)) (by decide) (fun K hK => ?_)
      refine value_ (w1 := ?_) (v := ?_) (by rfl) rfl ?_ ?_
      rotate_left 2
      · go_simp
        constructor
        · rfl
        · rfl
      refine hK.out _ _ ((blk_cell (blk_alloc BK604.out _) 0).trans rfl) (fun hHeld => ?_)
      clear hK K
      refine norm_ (a' := ?_) ?_ ?_
      rotate_left
      · show Act.put _ (some 16) _ = _
        simp only [Act.put, List.setIfInBounds_toArray, List.set_cons_zero, List.set_cons_succ, i64_w, i32_w]
        rfl
      refine one_ (i := 6) (N := some 17) #[true, true, true, true, true, true, true, false, false] rfl rfl (one_of HT_.out (by kernel_rfl)) (by decide) (fun K hK => ?_)
      refine Kd.S_append_step (Kd.slice 5 (Kd.int .u8)) (w0 := w) w.heap.size (by rfl) (.tmp 12) (.tmp 16) 22 29 (.slice none 0 0) 24 rfl Try.underlying22 info29 rfl (by decide) (by omega) (.slice Ao15 t601.length co15) t601 y608 [.slice Ao26 y608.length co26] (fun _ => True) (fun k_ => some k_ = (.slice Ao26 y608.length co26 : Value).ownBlock) rfl rfl ?aP (fun k_ hk_ => ((Kd.R_mono (ok' := fun k_ => ((fun _ => True)) k_ ∧ some k_ ≠ (.slice Ao15 t601.length co15 : Value).ownBlock) (Kd.R_apart' (HO610.out) (Kd.S_typed HO603.out) (by decide)) (fun k_ hk => ⟨trivial, hk.2⟩))).1 k_ hk_.symm) ?aF ?aO ?aB ?aS ?aL ?_
      (case aP => exact Kd.M_row (Kd.R_mono (Kd.R_tight rfl (Kd.R_mono (ok' := fun k_ => ((fun _ => True)) k_ ∧ some k_ ≠ (.slice Ao15 t601.length co15 : Value).ownBlock) (Kd.R_apart' (HO610.out) (Kd.S_typed HO603.out) (by decide)) (fun k_ hk => ⟨trivial, hk.2⟩))) (fun _ h_ => h_)))
      (case aB => exact (by repeat (first | (with_reducible first | exact HB.out | apply below_alloc | apply pw_below_drewN | apply below_drew1 | refine below_set ?_ GE598.out | refine below_set ?_ GE599.out | refine below_set ?_ GE600.out | refine below_set ?_ GE604.out) | exact HB.out)))
      (case aF => exact (fun _ _ => trivial))
      (case aO => exact (by (with_reducible repeat (first | apply Kd.S_alloc | apply Kd.S_drewN | apply Kd.S_drew)); exact Kd.S_mono HO603.out (fun k_ hk => ⟨trivial, fun e_ => hk.2 e_⟩)))
      (case aS => exact (below_size (by repeat (first | (with_reducible first | exact HB.out | apply below_alloc | apply pw_below_drewN | apply below_drew1 | refine below_set ?_ GE598.out | refine below_set ?_ GE599.out | refine below_set ?_ GE600.out | refine below_set ?_ GE604.out) | exact HB.out))))
      (case aL => have := LMc6.out; omega)
      intro v612 w25 ho hb hg hat
      rw [← Ny611.out] at ho
      have n0_ := Aside0.mk (blk_grown (g := gb598) (o := .cells #[.slice A0_0 l0_0.length c0_0] 31 (0, 0)) (by (with_reducible repeat (first | refine blk_drewN ?_ _ | refine blk_drew ?_ | refine blk_alloc ?_ _)); exact BK598.out) hg (Kd.S_ne HO603.out BK598.out (by decide)))
      have n1_ := Aside0.mk (blk_grown (g := gb599) (o := .cells #[.slice none 0 0] 31 (0, 0)) (by (with_reducible repeat (first | refine blk_drewN ?_ _ | refine blk_drew ?_ | refine blk_alloc ?_ _)); exact BK599.out) hg (Kd.S_ne HO603.out BK599.out (by decide)))
      have n2_ := Aside0.mk (blk_grown (g := gb600) (o := .cells #[.int .i64 0, .int .i64 0, .int .i64 0, .int .i64 0] 32 (0, 0)) (by (with_reducible repeat (first | refine blk_drewN ?_ _ | refine blk_drew ?_ | refine blk_alloc ?_ _)); exact BK600.out) hg (Kd.S_ne HO603.out BK600.out (by decide)))
      have n3_ := Aside0.mk (blk_grown (g := gb604) (o := .cells #[.slice Ao15 t601.length co15] 31 (0, 0)) (by (with_reducible repeat (first | refine blk_drewN ?_ _ | refine blk_drew ?_ | refine blk_alloc ?_ _)); exact BK604.out) hg (Kd.S_ne HO603.out BK604.out (by decide)))
      have n4_ := Aside0.mk (hb)
      have n5_ := Aside0.mk (ho)
      clear BK598
      clear BK599
      clear BK600
      clear BK604
      clear HB
      clear HO603
      clear HO610
      have BK598 := n0_
      have BK599 := n1_
      have BK600 := n2_
      have BK604 := n3_
      have HB := n4_
      have HO613 := n5_
      clear n0_ n1_ n2_ n3_ n4_ n5_
      clear ho hb hg hat
      obtain ⟨Ao27, co27, eo27⟩ := Kd.S_slice HO613.out
      (first | subst eo27 | (injection eo27 with f1_ f2_ f3_; have f4_ := f1_.symm; have f5_ := f3_.symm; clear f1_ f2_ f3_; subst f4_; subst f5_))
      refine hK.out _ _ ((blk_cell BK604.out 0).trans rfl) (fun hHeld => ?_)
      clear hK K
      refine norm_ (a' := ?_) ?_ ?_
      rotate_left
      · show Act.put _ (some 17) _ = _
        simp only [Act.put, List.setIfInBounds_toArray, List.set_cons_zero, List.set_cons_succ, i64_w, i32_w]
        rfl
      refine pure_ (i := 7) (N := some 18) (v := ?_) (a' := ?_) #[true, true, true, true, true, true, true, true, false] rfl rfl (any_of HT_.out (by kernel_rfl)) (fun _ _ _ h => h) (Or.inl ⟨by rfl, ?_⟩) ?_ ?_
      rotate_left
      · intro w'
        go_simp
        with_reducible rfl
      rotate_left
      · simp only [Act.put, List.setIfInBounds_toArray, List.set_cons_zero, List.set_cons_succ, i64_w, i32_w]
        rfl
      refine last_ (i := 8) (N := none) #[true, true, true, true, true, true, true, true, true] rfl rfl (one_of HT_.out (by kernel_rfl)) (by decide) (fun K hK => ?_)
      have hs28 : w25.cell? ⟨gb604, 0, none⟩ = some (.slice Ao15 t601.length co15) := (blk_cell BK604.out 0).trans rfl
      have hfs28 := blk_frozen BK604.out 0
      have hns28_0 := NB598_604.out
      have hns28_1 := NB599_604.out
      have hns28_2 := NB600_604.out
      have hms28_0 := NB604_598.out
      have hms28_1 := NB604_599.out
      have hms28_2 := NB604_600.out
      refine skip_ (w1 := ?_) (by rfl) rfl ?_ ?_
      rotate_left
      · go_simp
        rfl
      refine hK.out _ _ ?_
      clear hK K
      refine done_ (done_of HT_.out (by kernel_rfl)) ?_
      try go_wp2
      have n0_ : Aside0 (Kd.S (Kd.slice 5 (Kd.int .u8)) 29 (w25.setCell ⟨gb604, 0, none⟩ (.slice Ao27 y611.length co27)) w.heap.size (fun _ => True) (.slice Ao27 y611.length co27) y611) := ⟨by (with_reducible repeat (first | apply Kd.S_alloc | apply Kd.S_drewN | apply Kd.S_drew)); exact Kd.S_mono (Kd.S_far (p := ⟨gb604, 0, none⟩) (Kd.S_types HO613.out BK604.out (by decide)) (fun _ hk => hk.2) (.slice Ao27 y611.length co27)) (fun _ hk => trivial)⟩
      have n1_ : Aside0 ((w25.setCell ⟨gb604, 0, none⟩ (.slice Ao27 y611.length co27)).heap[gb598]? = some (.cells #[.slice A0_0 l0_0.length c0_0] 31 (0, 0))) := ⟨by (with_reducible repeat (first | refine blk_drewN ?_ _ | refine blk_drew ?_ | refine blk_alloc ?_ _)); refine blk_far ?_ NB598_604.out _; (with_reducible repeat (first | refine blk_drewN ?_ _ | refine blk_drew ?_ | refine blk_alloc ?_ _)); exact BK598.out⟩
      have n2_ : Aside0 ((w25.setCell ⟨gb604, 0, none⟩ (.slice Ao27 y611.length co27)).heap[gb599]? = some (.cells #[.slice none 0 0] 31 (0, 0))) := ⟨by (with_reducible repeat (first | refine blk_drewN ?_ _ | refine blk_drew ?_ | refine blk_alloc ?_ _)); refine blk_far ?_ NB599_604.out _; (with_reducible repeat (first | refine blk_drewN ?_ _ | refine blk_drew ?_ | refine blk_alloc ?_ _)); exact BK599.out⟩
      have n3_ : Aside0 ((w25.setCell ⟨gb604, 0, none⟩ (.slice Ao27 y611.length co27)).heap[gb600]? = some (.cells #[.int .i64 0, .int .i64 0, .int .i64 0, .int .i64 0] 32 (0, 0))) := ⟨by (with_reducible repeat (first | refine blk_drewN ?_ _ | refine blk_drew ?_ | refine blk_alloc ?_ _)); refine blk_far ?_ NB600_604.out _; (with_reducible repeat (first | refine blk_drewN ?_ _ | refine blk_drew ?_ | refine blk_alloc ?_ _)); exact BK600.out⟩
      have n4_ : Aside0 ((w25.setCell ⟨gb604, 0, none⟩ (.slice Ao27 y611.length co27)).heap[gb604]? = some (.cells #[.slice Ao27 y611.length co27] 31 (0, 0))) := ⟨by (with_reducible repeat (first | refine blk_drewN ?_ _ | refine blk_drew ?_ | refine blk_alloc ?_ _)); refine blk_put (cs := #[.slice Ao15 t601.length co15]) ?_ 0 _ rfl; (with_reducible repeat (first | refine blk_drewN ?_ _ | refine blk_drew ?_ | refine blk_alloc ?_ _)); exact BK604.out⟩
      have n5_ : Aside0 (Below w.heap.size w (w25.setCell ⟨gb604, 0, none⟩ (.slice Ao27 y611.length co27))) := ⟨by repeat (first | (with_reducible first | exact HB.out | apply below_alloc | apply pw_below_drewN | apply below_drew1 | refine below_set ?_ GE598.out | refine below_set ?_ GE599.out | refine below_set ?_ GE600.out | refine below_set ?_ GE604.out) | exact HB.out)⟩
      (try clear HO613)
      (try clear BK598)
      (try clear BK599)
      (try clear BK600)
      (try clear BK604)
      (try clear HB)
      generalize (w25.setCell ⟨gb604, 0, none⟩ (.slice Ao27 y611.length co27)) = w29 at n0_ n1_ n2_ n3_ n4_ n5_ ⊢
      have HO613 := n0_
      have BK598 := n1_
      have BK599 := n2_
      have BK600 := n3_
      have BK604 := n4_
      have HB := n5_
      clear n0_ n1_ n2_ n3_ n4_ n5_
      have n0_ := Aside0.mk (Kd.S_drew HO613.out)
      have n1_ := Aside0.mk (blk_drew BK598.out)
      have n2_ := Aside0.mk (blk_drew BK599.out)
      have n3_ := Aside0.mk (blk_drew BK600.out)
      have n4_ := Aside0.mk (blk_drew BK604.out)
      have n5_ := Aside0.mk (below_drew1 HB.out)
      clear HO613
      clear BK598
      clear BK599
      clear BK600
      clear BK604
      clear HB
      have HO613 := n0_
      have BK598 := n1_
      have BK599 := n2_
      have BK600 := n3_
      have BK604 := n4_
      have HB := n5_
      clear n0_ n1_ n2_ n3_ n4_ n5_
      refine start_ (n := 10) (S := fun w' => w'.cell? ⟨gb604, 0, none⟩ = some (.slice Ao27 y611.length co27) ∧ w'.cell? ⟨gb598, 0, none⟩ = some (.slice A0_0 l0_0.length c0_0)) (ds := []) #[false, false, false, false, false, false, false, false, false, false] (by kernel_rfl) rfl rfl ⟨(blk_cell BK604.out 0).trans rfl, (blk_cell BK598.out 0).trans rfl⟩ (fun hHeld => ?_); refine with_tabW spec_l2New.tab3 spec_l2New.bits3 (fun HT_ HW_ => ?_)
      generalize w29.drew = w30 at HO613 BK598 BK599 BK600 BK604 HB hHeld ⊢
      refine pure_ (i := 1) (N := some 20) (v := ?_) (a' := ?_) #[false, true, false, false, false, false, false, false, false, false] rfl rfl (any_of HT_.out (by kernel_rfl)) (fun _ _ _ h => h) (Or.inl ⟨by rfl, ?_⟩) ?_ ?_
      rotate_left
      · intro w'
        go_simp
        with_reducible rfl
      rotate_left
      · simp only [Act.put, List.setIfInBounds_toArray, List.set_cons_zero, List.set_cons_succ, i64_w, i32_w]
        rfl
      refine pure_ (i := 4) (N := some 23) (v := ?_) (a' := ?_) #[false, true, false, false, true, false, false, false, false, false] rfl rfl (any_of HT_.out (by kernel_rfl)) (fun _ _ _ h => h) (Or.inl ⟨by rfl, ?_⟩) ?_ ?_
      rotate_left
      · intro w'
        go_simp
        with_reducible rfl
      rotate_left
      · simp only [Act.put, List.setIfInBounds_toArray, List.set_cons_zero, List.set_cons_succ, i64_w, i32_w]
        rfl
      refine pure_ (i := 5) (N := some 24) (v := ?_) (a' := ?_) #[false, true, false, false, true, true, false, false, false, false] rfl rfl (any_of HT_.out (by kernel_rfl)) (fun _ _ _ h => h) (Or.inl ⟨by rfl, ?_⟩) ?_ ?_
      rotate_left
      · intro w'
        go_simp
        with_reducible rfl
      rotate_left
      · simp only [Act.put, List.setIfInBounds_toArray, List.set_cons_zero, List.set_cons_succ, i64_w, i32_w]
        rfl
      refine pure_ (i := 6) (N := some 25) (v := ?_) (a' := ?_) #[false, true, false, false, true, true, true, false, false, false] rfl rfl (any_of HT_.out (by kernel_rfl)) (fun _ _ _ h => h) (Or.inl ⟨by rfl, ?_⟩) ?_ ?_
      rotate_left
      · intro w'
        go_simp
        with_reducible rfl
      rotate_left
      · simp only [Act.put, List.setIfInBounds_toArray, List.set_cons_zero, List.set_cons_succ, i64_w, i32_w]
        rfl
      refine take_ (i := 0) (N := some 19) (v := ?_) (a' := ?_) #[true, true, false, false, true, true, true, false, false, false] rfl rfl (take_ofW HT_.out HW_.out (by kernel_rfl)) (fun _ _ _ h => h) (Or.inl ⟨by rfl, ?_⟩) hHeld ?_ ?_
      rotate_left
      · rintro w' ⟨s0, s1⟩
        go_simp
        with_reducible rfl
      rotate_left
      · simp only [Act.put, List.setIfInBounds_toArray, List.set_cons_zero, List.set_cons_succ, i64_w, i32_w]
        rfl
      refine take_ (i := 2) (N := some 21) (v := ?_) (a' := ?_) #[true, true, true, false, true, true, true, false, false, false] rfl rfl (take_ofW HT_.out HW_.out (by kernel_rfl)) (fun _ _ _ h => h) (Or.inl ⟨by rfl, ?_⟩) hHeld ?_ ?_
      rotate_left
      · rintro w' ⟨s0, s1⟩
        go_simp
        with_reducible rfl
      rotate_left
      · simp only [Act.put, List.setIfInBounds_toArray, List.set_cons_zero, List.set_cons_succ, i64_w, i32_w]
        rfl
      refine pure_ (i := 3) (N := some 22) (v := ?_) (a' := ?_) #[true, true, true, true, true, true, true, false, false, false] rfl rfl (any_of HT_.out (by kernel_rfl)) (fun _ _ _ h => h) (Or.inl ⟨by rfl, ?_⟩) ?_ ?_
      rotate_left
      · intro w'
        go_simp
        with_reducible rfl
      rotate_left
      · simp only [Act.put, List.setIfInBounds_toArray, List.set_cons_zero, List.set_cons_succ, i64_w, i32_w]
        rfl
      refine pure_ (i := 7) (N := some 26) (v := ?_) (a' := ?_) #[true, true, true, true, true, true, true, true, false, false] rfl rfl (any_of HT_.out (by kernel_rfl)) (fun _ _ _ h => h) (Or.inl ⟨by rfl, ?_⟩) ?_ ?_
      rotate_left
      · intro w'
        go_simp
        with_reducible rfl
      rotate_left
      · simp only [Act.put, List.setIfInBounds_toArray, List.set_cons_zero, List.set_cons_succ, i64_w, i32_w]
        rfl
      refine one_ (i := 8) (N := none) #[true, true, true, true, true, true, true, true, true, false] rfl rfl (one_of HT_.out (by kernel_rfl)) (by decide) (fun K hK => ?_)
      have hs31 : w30.cell? ⟨gb599, 0, none⟩ = some (.slice none 0 0) := (blk_cell BK599.out 0).trans rfl
      have hfs31 := blk_frozen BK599.out 0
      have hns31_0 := NB598_599.out
      have hns31_2 := NB600_599.out
      have hns31_3 := NB604_599.out
      have hms31_0 := NB599_598.out
      have hms31_2 := NB599_600.out
      have hms31_3 := NB599_604.out
      refine skip_ (w1 := ?_) (by rfl) rfl ?_ ?_
      rotate_left
      · go_simp
        rfl
      refine hK.out _ _ ⟨((cell_far (p := ⟨gb599, _, none⟩) NB604_599.out _).trans (hHeld.1)), ((cell_far (p := ⟨gb599, _, none⟩) NB598_599.out _).trans (hHeld.2))⟩ (fun hHeld => ?_)
      clear hK K
      refine one_ (i := 9) (N := none) #[true, true, true, true, true, true, true, true, true, true] rfl rfl (one_of HT_.out (by kernel_rfl)) (by decide) (fun K hK => ?_)
      have hs32 : w30.cell? ⟨gb600, 0, none⟩ = some (.int .i64 0) := (blk_cell BK600.out 0).trans rfl
      have hfs32 := blk_frozen BK600.out 0
      have hns32_0 := NB598_600.out
      have hns32_1 := NB599_600.out
      have hns32_3 := NB604_600.out
      have hms32_0 := NB600_598.out
      have hms32_1 := NB600_599.out
      have hms32_3 := NB600_604.out
      have hs33 : w30.cell? ⟨gb600, 1, none⟩ = some (.int .i64 0) := (blk_cell BK600.out 1).trans rfl
      have hfs33 := blk_frozen BK600.out 1
      have hns33_0 := NB598_600.out
      have hns33_1 := NB599_600.out
      have hns33_3 := NB604_600.out
      have hms33_0 := NB600_598.out
      have hms33_1 := NB600_599.out
      have hms33_3 := NB600_604.out
      have hs34 : w30.cell? ⟨gb600, 2, none⟩ = some (.int .i64 0) := (blk_cell BK600.out 2).trans rfl
      have hfs34 := blk_frozen BK600.out 2
      have hns34_0 := NB598_600.out
      have hns34_1 := NB599_600.out
      have hns34_3 := NB604_600.out
      have hms34_0 := NB600_598.out
      have hms34_1 := NB600_599.out
      have hms34_3 := NB600_604.out
      have hs35 : w30.cell? ⟨gb600, 3, none⟩ = some (.int .i64 0) := (blk_cell BK600.out 3).trans rfl
      have hfs35 := blk_frozen BK600.out 3
      have hns35_0 := NB598_600.out
      have hns35_1 := NB599_600.out
      have hns35_3 := NB604_600.out
      have hms35_0 := NB600_598.out
      have hms35_1 := NB600_599.out
      have hms35_3 := NB600_604.out
      refine skip_ (w1 := ?_) (by rfl) rfl ?_ ?_
      rotate_left
      · go_simp
        rfl
      refine hK.out _ _ ⟨((cell_far (p := ⟨gb600, _, none⟩) NB604_600.out _).trans (((cell_far (p := ⟨gb600, _, none⟩) NB604_600.out _).trans (((cell_far (p := ⟨gb600, _, none⟩) NB604_600.out _).trans (((cell_far (p := ⟨gb600, _, none⟩) NB604_600.out _).trans (hHeld.1)))))))), ((cell_far (p := ⟨gb600, _, none⟩) NB598_600.out _).trans (((cell_far (p := ⟨gb600, _, none⟩) NB598_600.out _).trans (((cell_far (p := ⟨gb600, _, none⟩) NB598_600.out _).trans (((cell_far (p := ⟨gb600, _, none⟩) NB598_600.out _).trans (hHeld.2))))))))⟩ (fun hHeld => ?_)
      clear hK K
      refine done_ (done_of HT_.out (by kernel_rfl)) ?_
      try go_wp2
      refine bodyPost_ret (results_cc rfl _ _ gb599 gb600 31 32 #[.slice Ao27 y611.length co27] #[.int .i64 (l0_0.length : Int), .int .i64 0, .int .i64 a2, .int .i64 (l1.length : Int)] (0, 0) (0, 0) _ _ rfl (by (with_reducible repeat (first | refine blk_drewN ?_ _ | refine blk_drew ?_ | refine blk_alloc ?_ _)); refine blk_far ?_ NB599_600.out _; (with_reducible repeat (first | refine blk_drewN ?_ _ | refine blk_drew ?_ | refine blk_alloc ?_ _)); refine blk_far ?_ NB599_600.out _; (with_reducible repeat (first | refine blk_drewN ?_ _ | refine blk_drew ?_ | refine blk_alloc ?_ _)); refine blk_far ?_ NB599_600.out _; (with_reducible repeat (first | refine blk_drewN ?_ _ | refine blk_drew ?_ | refine blk_alloc ?_ _)); refine blk_far ?_ NB599_600.out _; (with_reducible repeat (first | refine blk_drewN ?_ _ | refine blk_drew ?_ | refine blk_alloc ?_ _)); refine blk_put (cs := #[.slice none 0 0]) ?_ 0 _ rfl; (with_reducible repeat (first | refine blk_drewN ?_ _ | refine blk_drew ?_ | refine blk_alloc ?_ _)); exact BK599.out) Try.underlying31 rfl (by kernel_rfl) rfl (by (with_reducible repeat (first | refine blk_drewN ?_ _ | refine blk_drew ?_ | refine blk_alloc ?_ _)); refine blk_put (cs := #[.int .i64 (l0_0.length : Int), .int .i64 0, .int .i64 a2, .int .i64 0]) ?_ 3 _ rfl; (with_reducible repeat (first | refine blk_drewN ?_ _ | refine blk_drew ?_ | refine blk_alloc ?_ _)); refine blk_put (cs := #[.int .i64 (l0_0.length : Int), .int .i64 0, .int .i64 0, .int .i64 0]) ?_ 2 _ rfl; (with_reducible repeat (first | refine blk_drewN ?_ _ | refine blk_drew ?_ | refine blk_alloc ?_ _)); refine blk_put (cs := #[.int .i64 (l0_0.length : Int), .int .i64 0, .int .i64 0, .int .i64 0]) ?_ 1 _ rfl; (with_reducible repeat (first | refine blk_drewN ?_ _ | refine blk_drew ?_ | refine blk_alloc ?_ _)); refine blk_put (cs := #[.int .i64 0, .int .i64 0, .int .i64 0, .int .i64 0]) ?_ 0 _ rfl; (with_reducible repeat (first | refine blk_drewN ?_ _ | refine blk_drew ?_ | refine blk_alloc ?_ _)); refine blk_far ?_ NB600_599.out _; (with_reducible repeat (first | refine blk_drewN ?_ _ | refine blk_drew ?_ | refine blk_alloc ?_ _)); exact BK600.out) Try.underlying32 rfl (by kernel_rfl)) rfl ?_
      exact ⟨_, by first | rfl | (simp [errW_none, errW_some] <;> rfl) | (simp [*, errW_none, errW_some] <;> rfl), by (with_reducible repeat (first | apply Kd.S_alloc | apply Kd.S_drewN | apply Kd.S_drew)); exact Kd.S_mono (Kd.S_far (p := ⟨gb600, 3, none⟩) (Kd.S_far (p := ⟨gb600, 2, none⟩) (Kd.S_far (p := ⟨gb600, 1, none⟩) (Kd.S_far (p := ⟨gb600, 0, none⟩) (Kd.S_far (p := ⟨gb599, 0, none⟩) (Kd.S_types (Kd.S_types HO613.out BK599.out (by decide)) BK600.out (by decide)) (fun _ hk => hk.1.2) (.slice Ao27 y611.length co27)) (fun _ hk => hk.2) (.int .i64 (l0_0.length : Int))) (fun _ hk => hk.2) (.int .i64 0)) (fun _ hk => hk.2) (.int .i64 a2)) (fun _ hk => hk.2) (.int .i64 (l1.length : Int))) (fun _ hk => trivial), by repeat (first | (with_reducible first | exact HB.out | apply below_alloc | apply pw_below_drewN | apply below_drew1 | refine below_set ?_ GE598.out | refine below_set ?_ GE599.out | refine below_set ?_ GE600.out | refine below_set ?_ GE604.out) | exact HB.out)⟩
    · rw [if_neg c6] at H
      exact absurd H (by simp)
  · rw [if_neg c5] at H
    exact absurd H (by simp)

end Go.Proofs.Ytaieobidkmihkaa.P


/- What NewArray comes to. -/
namespace Go.Proofs.Ytaieobidkmihkaa.P
open Go.RowKit Go.Proofs.YtaieobidkmihkaaW.PrintWords
set_option linter.unusedVariables false
theorem l2New_f (m : List (List Int)) (l : List Int) (n : Int) (h : okM m) (hl : l.length ≤ 1048576) : Ev (fun k => spec_l2New.f k m l n) (m ++ [l], (m.length : Int), 0, n, (l.length : Int)) := by
  refine Ev.bind (l2Own_f m h) ?_
  have h7 : m.length < 5864062014805 := by have := h.1; omega
  have h8 : ([] : List Int).length + l.length < 140737488355328 := by simp; omega
  simp only [Option.bind_some, if_pos h8, if_pos h7]
  exact Ev.now _
end Go.Proofs.Ytaieobidkmihkaa.P


namespace Go.Proofs.Ytaieobidkmihkaa.P
open Go.RowKit Go.Proofs.YtaieobidkmihkaaW.PrintWords Go.Proofs.YtaieobidkmihkaaW.PrintLast Go.Proofs.YtaieobidkmihkaaW.PrintMore
attribute [local go_sem] max2_int min2_int max_two min_two max_three min_three max_four min_four   -- for this text's walks alone
set_option linter.unusedVariables false
set_option linter.unusedSimpArgs false

def spec_l1Most.f (a0 : Int) (a1 : Int) : Option (Int) := if a0 > a1 then (some a0) else (some a1)
set_option maxHeartbeats 8000000 in
set_option maxRecDepth 100000 in
theorem spec_l1Most.calls (a0 : Int) (a1 : Int) (r : Int) (w : World) (h : spec_l1Most.f a0 a1 = some r) :
    Calls Try.prog 83 #[.int .i64 a0, .int .i64 a1] w fun e w' => e = .returned (.int .i64 r) ∧ Drawn0 w w' := by
  have H : (if a0 > a1 then (some a0) else (some a1)) = some r := h
  clear h
  by_cases c3 : a0 > a1
  · rw [if_pos c3] at H
    have c3b0 : decide (a1 < a0) = true := decide_eq_true c3
    clear c3
    obtain rfl := Option.some.inj H
    go_enter Try.func83, Try.ntmps83
    go_wp2
    go_ret
    exact ⟨by first | rfl | (simp; done) | (simp [*]; done), by repeat (first | exact Drawn0.refl _ | apply Drawn0.step)⟩
  · rw [if_neg c3] at H
    have c3b0 : decide (a1 < a0) = false := decide_eq_false c3
    clear c3
    obtain rfl := Option.some.inj H
    go_enter Try.func83, Try.ntmps83
    go_wp2
    go_ret
    exact ⟨by first | rfl | (simp; done) | (simp [*]; done), by repeat (first | exact Drawn0.refl _ | apply Drawn0.step)⟩

end Go.Proofs.Ytaieobidkmihkaa.P


namespace Go.Proofs.Ytaieobidkmihkaa.P
open Go.RowKit Go.Proofs.YtaieobidkmihkaaW.PrintWords Go.Proofs.YtaieobidkmihkaaW.PrintLast Go.Proofs.YtaieobidkmihkaaW.PrintMore
attribute [local go_sem] max2_int min2_int max_two min_two max_three min_three max_four min_four   -- for this text's walks alone
set_option linter.unusedVariables false
set_option linter.unusedSimpArgs false

def spec_l1Least.f (a0 : Int) (a1 : Int) : Option (Int) := if a0 < a1 then (some a0) else (some a1)
set_option maxHeartbeats 8000000 in
set_option maxRecDepth 100000 in
theorem spec_l1Least.calls (a0 : Int) (a1 : Int) (r : Int) (w : World) (h : spec_l1Least.f a0 a1 = some r) :
    Calls Try.prog 118 #[.int .i64 a0, .int .i64 a1] w fun e w' => e = .returned (.int .i64 r) ∧ Drawn0 w w' := by
  have H : (if a0 < a1 then (some a0) else (some a1)) = some r := h
  clear h
  by_cases c3 : a0 < a1
  · rw [if_pos c3] at H
    have c3b0 : decide (a0 < a1) = true := decide_eq_true c3
    clear c3
    obtain rfl := Option.some.inj H
    go_enter Try.func118, Try.ntmps118
    go_wp2
    go_ret
    exact ⟨by first | rfl | (simp; done) | (simp [*]; done), by repeat (first | exact Drawn0.refl _ | apply Drawn0.step)⟩
  · rw [if_neg c3] at H
    have c3b0 : decide (a0 < a1) = false := decide_eq_false c3
    clear c3
    obtain rfl := Option.some.inj H
    go_enter Try.func118, Try.ntmps118
    go_wp2
    go_ret
    exact ⟨by first | rfl | (simp; done) | (simp [*]; done), by repeat (first | exact Drawn0.refl _ | apply Drawn0.step)⟩

end Go.Proofs.Ytaieobidkmihkaa.P


namespace Go.Proofs.Ytaieobidkmihkaa.P
open Go.RowKit Go.Proofs.YtaieobidkmihkaaW.PrintWords Go.Proofs.YtaieobidkmihkaaW.PrintLast Go.Proofs.YtaieobidkmihkaaW.PrintMore
attribute [local go_sem] max2_int min2_int max_two min_two max_three min_three max_four min_four   -- for this text's walks alone
set_option linter.unusedVariables false
set_option linter.unusedSimpArgs false

def spec_l2Room.f (a0_0 : Int) (a0_1 : Int) (a0_2 : Int) (a0_3 : Int) : Option (Int) := some (wrap64 (a0_3 - a0_2))
set_option maxHeartbeats 8000000 in
set_option maxRecDepth 100000 in
theorem spec_l2Room.calls (a0_0 : Int) (a0_1 : Int) (a0_2 : Int) (a0_3 : Int) (r : Int) (w : World) (h : spec_l2Room.f a0_0 a0_1 a0_2 a0_3 = some r) :
    Calls Try.prog 123 #[.agg #[.int .i64 a0_0, .int .i64 a0_1, .int .i64 a0_2, .int .i64 a0_3]] w fun e w' => e = .returned (.int .i64 r) ∧ Below w.heap.size w w' := by
  have hu32 := Try.underlying32
  have HB := Aside0.mk (Below.refl w.heap.size w)
  have H : (some (wrap64 (a0_3 - a0_2))) = some r := h
  clear h
  obtain rfl := Option.some.inj H
  go_enter Try.func123, Try.ntmps123
  go_wp2_with (first | ((with_reducible refine gate_dst (N := 1) rfl ?_); refine box_event ?hg (N := 1) ?hd (cs := #[.int .i64 a0_0, .int .i64 a0_1, .int .i64 a0_2, .int .i64 a0_3]) (t := 32) ?hr ?_; (case hd => rfl); (case hg => rfl); (case hr => first | (go_simp; done) | (go_simp; rfl)); intro gb893 hg w2 hbox hb; have n0_ := Aside0.mk (below_step (by repeat (first | (with_reducible first | exact HB.out | apply below_alloc | apply pw_below_drewN | apply below_drew1) | exact HB.out)) hb); have n1_ := Aside0.mk (hbox); have n2_ := Aside0.mk ((by rw [hg]; exact (below_size (by repeat (first | (with_reducible first | exact HB.out | apply below_alloc | apply pw_below_drewN | apply below_drew1) | exact HB.out))) : w.heap.size ≤ gb893)); have n3_ := Aside0.mk ((by rw [hg]; exact (below_size (by repeat (first | (with_reducible first | exact HB.out | apply below_alloc | apply pw_below_drewN | apply below_drew1) | exact HB.out))) : w.heap.size ≤ gb893)); clear HB; have HB := n0_; have BK893 := n1_; have GW893 := n2_; have GE893 := n3_; clear n0_ n1_ n2_ n3_; clear hb hbox hg; have hcz3_0 : w2.cell? ⟨gb893, 0, none⟩ = some (.int .i64 a0_0) := (blk_cell BK893.out 0).trans rfl; have hcz3_1 : w2.cell? ⟨gb893, 1, none⟩ = some (.int .i64 a0_1) := (blk_cell BK893.out 1).trans rfl; have hcz3_2 : w2.cell? ⟨gb893, 2, none⟩ = some (.int .i64 a0_2) := (blk_cell BK893.out 2).trans rfl; have hcz3_3 : w2.cell? ⟨gb893, 3, none⟩ = some (.int .i64 a0_3) := (blk_cell BK893.out 3).trans rfl; have hfz3_0 := blk_frozen BK893.out 0; have hfz3_1 := blk_frozen BK893.out 1; have hfz3_2 := blk_frozen BK893.out 2; have hfz3_3 := blk_frozen BK893.out 3))
  go_ret
  exact ⟨by first | rfl | (simp [errW_none, errW_some] <;> rfl) | (simp [*, errW_none, errW_some] <;> rfl), by repeat (first | (with_reducible first | exact HB.out | apply below_alloc | apply pw_below_drewN | apply below_drew1 | refine below_set ?_ GE893.out) | exact HB.out)⟩

end Go.Proofs.Ytaieobidkmihkaa.P


namespace Go.Proofs.Ytaieobidkmihkaa.P
open Go.RowKit Go.Proofs.YtaieobidkmihkaaW.PrintWords Go.Proofs.YtaieobidkmihkaaW.PrintLast Go.Proofs.YtaieobidkmihkaaW.PrintMore
attribute [local go_sem] max2_int min2_int max_two min_two max_three min_three max_four min_four   -- for this text's walks alone
set_option linter.unusedVariables false
set_option linter.unusedSimpArgs false

def spec_l2Slice.f (a0_0 : Int) (a0_1 : Int) (a0_2 : Int) (a0_3 : Int) (a1 : Int) (a2 : Int) (a3 : Int) : Option (Int × Int × Int × Int) := some (a0_0, wrap64 (a0_1 + a1), wrap64 (a2 - a1), wrap64 (a3 - a1))
set_option maxHeartbeats 8000000 in
set_option maxRecDepth 100000 in
theorem spec_l2Slice.calls (a0_0 : Int) (a0_1 : Int) (a0_2 : Int) (a0_3 : Int) (a1 : Int) (a2 : Int) (a3 : Int) (r1 : Int) (r2 : Int) (r3 : Int) (r4 : Int) (w : World) (h : spec_l2Slice.f a0_0 a0_1 a0_2 a0_3 a1 a2 a3 = some (r1, r2, r3, r4)) :
    Calls Try.prog 124 #[.agg #[.int .i64 a0_0, .int .i64 a0_1, .int .i64 a0_2, .int .i64 a0_3], .int .i64 a1, .int .i64 a2, .int .i64 a3] w fun e w' => e = .returned (.agg #[.int .i64 r1, .int .i64 r2, .int .i64 r3, .int .i64 r4]) ∧ Below w.heap.size w w' := by
  have hu32 := Try.underlying32
  have HB := Aside0.mk (Below.refl w.heap.size w)
  have H : (some (a0_0, wrap64 (a0_1 + a1), wrap64 (a2 - a1), wrap64 (a3 - a1))) = some (r1, r2, r3, r4) := h
  clear h
  simp only [Option.some.injEq, Prod.mk.injEq] at H
  obtain ⟨rfl, rfl, rfl, rfl⟩ := H
  go_enter Try.func124, Try.ntmps124
  go_wp2_with (first | ((with_reducible refine gate_dst (N := 4) rfl ?_); refine box_event ?hg (N := 4) ?hd (cs := #[.int .i64 a0_0, .int .i64 a0_1, .int .i64 a0_2, .int .i64 a0_3]) (t := 32) ?hr ?_; (case hd => rfl); (case hg => rfl); (case hr => first | (go_simp; done) | (go_simp; rfl)); intro gb894 hg w5 hbox hb; have n0_ := Aside0.mk (below_step (by repeat (first | (with_reducible first | exact HB.out | apply below_alloc | apply pw_below_drewN | apply below_drew1) | exact HB.out)) hb); have n1_ := Aside0.mk (hbox); have n2_ := Aside0.mk ((by rw [hg]; exact (below_size (by repeat (first | (with_reducible first | exact HB.out | apply below_alloc | apply pw_below_drewN | apply below_drew1) | exact HB.out))) : w.heap.size ≤ gb894)); have n3_ := Aside0.mk ((by rw [hg]; exact (below_size (by repeat (first | (with_reducible first | exact HB.out | apply below_alloc | apply pw_below_drewN | apply below_drew1) | exact HB.out))) : w.heap.size ≤ gb894)); clear HB; have HB := n0_; have BK894 := n1_; have GW894 := n2_; have GE894 := n3_; clear n0_ n1_ n2_ n3_; clear hb hbox hg) | ((with_reducible refine gate_dst (N := 8) rfl ?_); refine box_event ?hg (N := 8) ?hd (cs := #[.int .i64 0, .int .i64 0, .int .i64 0, .int .i64 0]) (t := 32) ?hr ?_; (case hd => rfl); (case hg => rfl); (case hr => first | (go_simp; done) | (go_simp; rfl)); intro gb895 hg w6 hbox hb; have n0_ := Aside0.mk (blk_below (g := gb894) (o := .cells #[.int .i64 a0_0, .int .i64 a0_1, .int .i64 a0_2, .int .i64 a0_3] 32 (0, 0)) (by (with_reducible repeat (first | refine blk_drewN ?_ _ | refine blk_drew ?_ | refine blk_alloc ?_ _)); exact BK894.out) hb); have n1_ := Aside0.mk (below_step (by repeat (first | (with_reducible first | exact HB.out | apply below_alloc | apply pw_below_drewN | apply below_drew1 | refine below_set ?_ GE894.out) | exact HB.out)) hb); have n2_ := Aside0.mk (hbox); have n3_ := Aside0.mk ((by rw [hg]; exact (below_size (by repeat (first | (with_reducible first | exact HB.out | apply below_alloc | apply pw_below_drewN | apply below_drew1 | refine below_set ?_ GE894.out) | exact HB.out))) : w.heap.size ≤ gb895)); have n4_ := Aside0.mk ((by rw [hg]; exact (below_size (by repeat (first | (with_reducible first | exact HB.out | apply below_alloc | apply pw_below_drewN | apply below_drew1 | refine below_set ?_ GE894.out) | exact HB.out))) : w.heap.size ≤ gb895)); have n5_ := Aside0.mk ((by rw [hg]; exact Nat.ne_of_lt (blk_lt (g := gb894) (o := .cells #[.int .i64 a0_0, .int .i64 a0_1, .int .i64 a0_2, .int .i64 a0_3] 32 (0, 0)) (by (with_reducible repeat (first | refine blk_drewN ?_ _ | refine blk_drew ?_ | refine blk_alloc ?_ _)); exact BK894.out)) : gb894 ≠ gb895)); have n6_ := Aside0.mk ((by rw [hg]; exact Nat.ne_of_gt (blk_lt (g := gb894) (o := .cells #[.int .i64 a0_0, .int .i64 a0_1, .int .i64 a0_2, .int .i64 a0_3] 32 (0, 0)) (by (with_reducible repeat (first | refine blk_drewN ?_ _ | refine blk_drew ?_ | refine blk_alloc ?_ _)); exact BK894.out)) : gb895 ≠ gb894)); clear BK894; clear HB; have BK894 := n0_; have HB := n1_; have BK895 := n2_; have GW895 := n3_; have GE895 := n4_; have NB894_895 := n5_; have NB895_894 := n6_; clear n0_ n1_ n2_ n3_ n4_ n5_ n6_; clear hb hbox hg; have hnb7 := NB894_895.out; have hnc7 := NB895_894.out; have hcz8_0 : w6.cell? ⟨gb894, 0, none⟩ = some (.int .i64 a0_0) := (blk_cell BK894.out 0).trans rfl; have hcz8_1 : w6.cell? ⟨gb894, 1, none⟩ = some (.int .i64 a0_1) := (blk_cell BK894.out 1).trans rfl; have hcz8_2 : w6.cell? ⟨gb894, 2, none⟩ = some (.int .i64 a0_2) := (blk_cell BK894.out 2).trans rfl; have hcz8_3 : w6.cell? ⟨gb894, 3, none⟩ = some (.int .i64 a0_3) := (blk_cell BK894.out 3).trans rfl; have hfz8_0 := blk_frozen BK894.out 0; have hfz8_1 := blk_frozen BK894.out 1; have hfz8_2 := blk_frozen BK894.out 2; have hfz8_3 := blk_frozen BK894.out 3; have hcz9_0 : w6.cell? ⟨gb895, 0, none⟩ = some (.int .i64 0) := (blk_cell BK895.out 0).trans rfl; have hcz9_1 : w6.cell? ⟨gb895, 1, none⟩ = some (.int .i64 0) := (blk_cell BK895.out 1).trans rfl; have hcz9_2 : w6.cell? ⟨gb895, 2, none⟩ = some (.int .i64 0) := (blk_cell BK895.out 2).trans rfl; have hcz9_3 : w6.cell? ⟨gb895, 3, none⟩ = some (.int .i64 0) := (blk_cell BK895.out 3).trans rfl; have hfz9_0 := blk_frozen BK895.out 0; have hfz9_1 := blk_frozen BK895.out 1; have hfz9_2 := blk_frozen BK895.out 2; have hfz9_3 := blk_frozen BK895.out 3))
  refine bodyPost_ret (results_cell_row rfl _ _ gb895 32 #[.int .i64 a0_0, .int .i64 (wrap64 (a0_1 + a1)), .int .i64 (wrap64 (a2 - a1)), .int .i64 (wrap64 (a3 - a1))] (0, 0) _ rfl (by (with_reducible repeat (first | refine blk_drewN ?_ _ | refine blk_drew ?_ | refine blk_alloc ?_ _)); refine blk_put (cs := #[.int .i64 a0_0, .int .i64 (wrap64 (a0_1 + a1)), .int .i64 (wrap64 (a2 - a1)), .int .i64 0]) ?_ 3 _ rfl; (with_reducible repeat (first | refine blk_drewN ?_ _ | refine blk_drew ?_ | refine blk_alloc ?_ _)); refine blk_put (cs := #[.int .i64 a0_0, .int .i64 (wrap64 (a0_1 + a1)), .int .i64 0, .int .i64 0]) ?_ 2 _ rfl; (with_reducible repeat (first | refine blk_drewN ?_ _ | refine blk_drew ?_ | refine blk_alloc ?_ _)); refine blk_put (cs := #[.int .i64 a0_0, .int .i64 0, .int .i64 0, .int .i64 0]) ?_ 1 _ rfl; (with_reducible repeat (first | refine blk_drewN ?_ _ | refine blk_drew ?_ | refine blk_alloc ?_ _)); refine blk_put (cs := #[.int .i64 0, .int .i64 0, .int .i64 0, .int .i64 0]) ?_ 0 _ rfl; (with_reducible repeat (first | refine blk_drewN ?_ _ | refine blk_drew ?_ | refine blk_alloc ?_ _)); exact BK895.out) Try.underlying32 rfl (by kernel_rfl)) rfl ?_
  exact ⟨by first | rfl | (simp [errW_none, errW_some] <;> rfl) | (simp [*, errW_none, errW_some] <;> rfl), by repeat (first | (with_reducible first | exact HB.out | apply below_alloc | apply pw_below_drewN | apply below_drew1 | refine below_set ?_ GE894.out | refine below_set ?_ GE895.out) | exact HB.out)⟩

end Go.Proofs.Ytaieobidkmihkaa.P


namespace Go.Proofs.Ytaieobidkmihkaa.P
open Go.RowKit Go.Proofs.YtaieobidkmihkaaW.PrintWords Go.Proofs.YtaieobidkmihkaaW.PrintLast Go.Proofs.YtaieobidkmihkaaW.PrintMore
attribute [local go_sem] max2_int min2_int max_two min_two max_three min_three max_four min_four   -- for this text's walks alone
set_option linter.unusedVariables false
set_option linter.unusedSimpArgs false

mutual
def spec_l2Append.j0 : Nat → List Int → Bool → List (List Int) → Int → Int → Int → Int → Option ((List (List Int)) × Int × Int × Int × Int × Bool)
  | 0, _, _, _, _, _, _, _ => none
  | k + 1, x2, x44, x897000, x898000, x898001, x898002, x898003 => if x44 = true then (some (([] : List (List Int)), 0, 0, 0, 0, false)) else ((spec_l2Bytes.f k x897000 x898000 x898001 x898002 x898003).bind fun t908 => (if t908.length + x2.length < 140737488355328 then (spec_l2Append.l0 k (wrap64 (x898002 + (x2.length : Int))) (t908 ++ x2) x897000 x898000 x898001 x898002 x898003) else (none)))
def spec_l2Append.l0 : Nat → Int → List Int → List (List Int) → Int → Int → Int → Int → Option ((List (List Int)) × Int × Int × Int × Int × Bool)
  | 0, _, _, _, _, _, _, _ => none
  | k + 1, x9, x10, x897000, x898000, x898001, x898002, x898003 => (spec_l1Most.f (wrap64 (2 * x898003)) x9).bind fun t914 => ((spec_l1Least.f t914 64).bind fun t915 => (if (x10.length : Int) < t915 then (if x10.length < 140737488355328 then (spec_l2Append.l0 k x9 (x10 ++ [0]) x897000 x898000 x898001 x898002 x898003) else (none)) else ((spec_l2New.f k x897000 x10 x9).bind fun bt919 => (some (bt919.1, bt919.2.1, bt919.2.2.1, bt919.2.2.2.1, bt919.2.2.2.2, true)))))
end
def spec_l2Append.f (k : Nat) (l0_0 : List (List Int)) (a1_0 : Int) (a1_1 : Int) (a1_2 : Int) (a1_3 : Int) (l2 : List Int) : Option ((List (List Int)) × Int × Int × Int × Int × Bool) := (spec_l2Room.f a1_0 a1_1 a1_2 a1_3).bind fun t900 => (if (l2.length : Int) ≤ t900 then ((spec_l2Write.f k l0_0 a1_0 a1_1 a1_2 a1_3 a1_2 l2).bind fun t901 => ((spec_l2Slice.f a1_0 a1_1 a1_2 a1_3 0 (wrap64 (a1_2 + (l2.length : Int))) a1_3).bind fun bt904 => (some (t901, bt904.1, bt904.2.1, bt904.2.2.1, bt904.2.2.2, true)))) else (if (l2.length : Int) > (wrap64 (64 - a1_2)) then (spec_l2Append.j0 k l2 true l0_0 a1_0 a1_1 a1_2 a1_3) else (spec_l2Append.j0 k l2 ((l0_0.length : Int) == 16) l0_0 a1_0 a1_1 a1_2 a1_3)))
def spec_l2Append.T2 : Bool × List (List Nat × List Nat) := (true, [([], []), ([], []), ([], []), ([2], [2]), ([], []), ([0, 1, 3, 4], [0, 1, 3, 4]), ([], []), ([], []), ([7], [7]), ([], []), ([9], [9]), ([8, 10], [8, 10]), ([], []), ([12], [12]), ([6, 11, 13, 5], [6, 11, 13]), ([5, 14, 0, 1, 2, 3, 4, 5], [5]), ([14, 15, 0, 1, 2, 3, 4, 5, 6, 7, 8, 9, 10, 11, 12, 13, 14, 15], [14]), ([16, 0, 1, 2, 3, 4, 5, 6, 7, 8, 9, 10, 11, 12, 13, 14, 15, 16], [])])
def spec_l2Append.B2 : List Nat := [0, 0, 0, 4, 0, 31, 0, 0, 128, 0, 512, 1920, 0, 4096, 16383, 32767, 65535, 131071]
theorem spec_l2Append.tab2 : rtab .any (opsOf Try.f95 2) = spec_l2Append.T2 := by kernel_rfl
theorem spec_l2Append.bits2 : waitsOk spec_l2Append.T2.2 spec_l2Append.B2 = true := by kernel_rfl
set_option maxHeartbeats 8000000 in
set_option maxRecDepth 100000 in
theorem spec_l2Append.calls (k : Nat) (A0_0 : Option Addr) (c0_0 : Nat) (l0_0 : List (List Int)) (a1_0 : Int) (a1_1 : Int) (a1_2 : Int) (a1_3 : Int) (A2 : Option Addr) (c2 : Nat) (l2 : List Int) (r1 : List (List Int)) (r2 : Int) (r3 : Int) (r4 : Int) (r5 : Int) (r6 : Bool) (w : World) (hr0_0 : Kd.C (Kd.slice 5 (Kd.int .u8)) w A0_0 l0_0.length l0_0) (hc0_0 : l0_0.length ≤ c0_0) (hr2 : Kd.C (Kd.int .u8) w A2 l2.length l2) (hc2 : l2.length ≤ c2) (h : spec_l2Append.f k l0_0 a1_0 a1_1 a1_2 a1_3 l2 = some (r1, r2, r3, r4, r5, r6)) :
    Calls Try.prog 95 #[.agg #[.slice A0_0 l0_0.length c0_0], .agg #[.int .i64 a1_0, .int .i64 a1_1, .int .i64 a1_2, .int .i64 a1_3], .slice A2 l2.length c2] w fun e w' => ∃ v0_ : Value, e = .returned (.tuple #[.agg #[v0_], .agg #[.int .i64 r2, .int .i64 r3, .int .i64 r4, .int .i64 r5], .bool r6]) ∧ Kd.S (Kd.slice 5 (Kd.int .u8)) 29 w' w.heap.size (fun _ => True) v0_ r1 ∧ Below w.heap.size w w' := by
  have hu31 := Try.underlying31
  have hu32 := Try.underlying32
  have HR0_0 := Aside0.mk hr0_0
  have HC0_0 := Aside0.mk hc0_0
  clear hr0_0 hc0_0
  have HR2 := Aside0.mk hr2
  have HC2 := Aside0.mk hc2
  clear hr2 hc2
  have HB := Aside0.mk (Below.refl w.heap.size w)
  have H : ((spec_l2Room.f a1_0 a1_1 a1_2 a1_3).bind fun t900 => (if (l2.length : Int) ≤ t900 then ((spec_l2Write.f k l0_0 a1_0 a1_1 a1_2 a1_3 a1_2 l2).bind fun t901 => ((spec_l2Slice.f a1_0 a1_1 a1_2 a1_3 0 (wrap64 (a1_2 + (l2.length : Int))) a1_3).bind fun bt904 => (some (t901, bt904.1, bt904.2.1, bt904.2.2.1, bt904.2.2.2, true)))) else (if (l2.length : Int) > (wrap64 (64 - a1_2)) then (spec_l2Append.j0 k l2 true l0_0 a1_0 a1_1 a1_2 a1_3) else (spec_l2Append.j0 k l2 ((l0_0.length : Int) == 16) l0_0 a1_0 a1_1 a1_2 a1_3)))) = some (r1, r2, r3, r4, r5, r6) := h
  clear h
  replace H := Option.bind_eq_some_iff.mp H
  obtain ⟨t900, A40, H⟩ := H
  replace H : (if (l2.length : Int) ≤ t900 then ((spec_l2Write.f k l0_0 a1_0 a1_1 a1_2 a1_3 a1_2 l2).bind fun t901 => ((spec_l2Slice.f a1_0 a1_1 a1_2 a1_3 0 (wrap64 (a1_2 + (l2.length : Int))) a1_3).bind fun bt904 => (some (t901, bt904.1, bt904.2.1, bt904.2.2.1, bt904.2.2.2, true)))) else (if (l2.length : Int) > (wrap64 (64 - a1_2)) then (spec_l2Append.j0 k l2 true l0_0 a1_0 a1_1 a1_2 a1_3) else (spec_l2Append.j0 k l2 ((l0_0.length : Int) == 16) l0_0 a1_0 a1_1 a1_2 a1_3))) = some (r1, r2, r3, r4, r5, r6) := H
  have A4 := Aside0.mk A40
  clear A40
  by_cases c5 : (l2.length : Int) ≤ t900
  · rw [if_pos c5] at H
    have c5b0 : decide ((l2.length : Int) ≤ t900) = true := decide_eq_true c5
    clear c5
    replace H := Option.bind_eq_some_iff.mp H
    obtain ⟨t901, A60, H⟩ := H
    replace H : ((spec_l2Slice.f a1_0 a1_1 a1_2 a1_3 0 (wrap64 (a1_2 + (l2.length : Int))) a1_3).bind fun bt904 => (some (t901, bt904.1, bt904.2.1, bt904.2.2.1, bt904.2.2.2, true))) = some (r1, r2, r3, r4, r5, r6) := H
    have A6 := Aside0.mk A60
    clear A60
    replace H := Option.bind_eq_some_iff.mp H
    obtain ⟨⟨t904, t905, t906, t907⟩, A70, H⟩ := H
    replace H : (some (t901, t904, t905, t906, t907, true)) = some (r1, r2, r3, r4, r5, r6) := H
    have A7 := Aside0.mk A70
    clear A70
    simp only [Option.some.injEq, Prod.mk.injEq] at H
    obtain ⟨rfl, rfl, rfl, rfl, rfl, rfl⟩ := H
    go_enter Try.func95, Try.ntmps95
    try go_wp2_with (first | ((with_reducible refine gate_dst (N := 3) rfl ?_); (try (refine gate_guard (by rfl) ?_; dsimp only)); refine box_event ?hg (N := 3) ?hd (cs := #[.slice A0_0 l0_0.length c0_0]) (t := 31) ?hr ?_; (case hd => rfl); (case hg => rfl); (case hr => first | (go_simp; done) | (go_simp; rfl)); intro gb896 hg w8 hbox hb; have n0_ := Aside0.mk (below_step (by repeat (first | (with_reducible first | exact HB.out | apply below_alloc | apply pw_below_drewN | apply below_drew1) | exact HB.out)) hb); have n1_ := Aside0.mk (hbox); have n2_ := Aside0.mk ((by rw [hg]; exact (below_size (by repeat (first | (with_reducible first | exact HB.out | apply below_alloc | apply pw_below_drewN | apply below_drew1) | exact HB.out))) : w.heap.size ≤ gb896)); have n3_ := Aside0.mk ((by rw [hg]; exact (below_size (by repeat (first | (with_reducible first | exact HB.out | apply below_alloc | apply pw_below_drewN | apply below_drew1) | exact HB.out))) : w.heap.size ≤ gb896)); clear HB; have HB := n0_; have BK896 := n1_; have GW896 := n2_; have GE896 := n3_; clear n0_ n1_ n2_ n3_; clear hb hbox hg) | ((with_reducible refine gate_dst (N := 4) rfl ?_); (try (refine gate_guard (by rfl) ?_; dsimp only)); refine box_event ?hg (N := 4) ?hd (cs := #[.int .i64 a1_0, .int .i64 a1_1, .int .i64 a1_2, .int .i64 a1_3]) (t := 32) ?hr ?_; (case hd => rfl); (case hg => rfl); (case hr => first | (go_simp; done) | (go_simp; rfl)); intro gb897 hg w9 hbox hb; have n0_ := Aside0.mk (blk_below (g := gb896) (o := .cells #[.slice A0_0 l0_0.length c0_0] 31 (0, 0)) (by (with_reducible repeat (first | refine blk_drewN ?_ _ | refine blk_drew ?_ | refine blk_alloc ?_ _)); exact BK896.out) hb); have n1_ := Aside0.mk (below_step (by repeat (first | (with_reducible first | exact HB.out | apply below_alloc | apply pw_below_drewN | apply below_drew1 | refine below_set ?_ GE896.out) | exact HB.out)) hb); have n2_ := Aside0.mk (hbox); have n3_ := Aside0.mk ((by rw [hg]; exact (below_size (by repeat (first | (with_reducible first | exact HB.out | apply below_alloc | apply pw_below_drewN | apply below_drew1 | refine below_set ?_ GE896.out) | exact HB.out))) : w.heap.size ≤ gb897)); have n4_ := Aside0.mk ((by rw [hg]; exact (below_size (by repeat (first | (with_reducible first | exact HB.out | apply below_alloc | apply pw_below_drewN | apply below_drew1 | refine below_set ?_ GE896.out) | exact HB.out))) : w.heap.size ≤ gb897)); have n5_ := Aside0.mk ((by rw [hg]; exact Nat.ne_of_lt (blk_lt (g := gb896) (o := .cells #[.slice A0_0 l0_0.length c0_0] 31 (0, 0)) (by (with_reducible repeat (first | refine blk_drewN ?_ _ | refine blk_drew ?_ | refine blk_alloc ?_ _)); exact BK896.out)) : gb896 ≠ gb897)); have n6_ := Aside0.mk ((by rw [hg]; exact Nat.ne_of_gt (blk_lt (g := gb896) (o := .cells #[.slice A0_0 l0_0.length c0_0] 31 (0, 0)) (by (with_reducible repeat (first | refine blk_drewN ?_ _ | refine blk_drew ?_ | refine blk_alloc ?_ _)); exact BK896.out)) : gb897 ≠ gb896)); clear BK896; clear HB; have BK896 := n0_; have HB := n1_; have BK897 := n2_; have GW897 := n3_; have GE897 := n4_; have NB896_897 := n5_; have NB897_896 := n6_; clear n0_ n1_ n2_ n3_ n4_ n5_ n6_; clear hb hbox hg) | ((with_reducible refine gate_dst (N := 6) rfl ?_); (try (refine gate_guard (by rfl) ?_; dsimp only)); refine box_event ?hg (N := 6) ?hd (cs := #[.slice none 0 0]) (t := 31) ?hr ?_; (case hd => rfl); (case hg => rfl); (case hr => first | (go_simp; done) | (go_simp; rfl)); intro gb898 hg w10 hbox hb; have n0_ := Aside0.mk (blk_below (g := gb896) (o := .cells #[.slice A0_0 l0_0.length c0_0] 31 (0, 0)) (by (with_reducible repeat (first | refine blk_drewN ?_ _ | refine blk_drew ?_ | refine blk_alloc ?_ _)); exact BK896.out) hb); have n1_ := Aside0.mk (blk_below (g := gb897) (o := .cells #[.int .i64 a1_0, .int .i64 a1_1, .int .i64 a1_2, .int .i64 a1_3] 32 (0, 0)) (by (with_reducible repeat (first | refine blk_drewN ?_ _ | refine blk_drew ?_ | refine blk_alloc ?_ _)); exact BK897.out) hb); have n2_ := Aside0.mk (below_step (by repeat (first | (with_reducible first | exact HB.out | apply below_alloc | apply pw_below_drewN | apply below_drew1 | refine below_set ?_ GE896.out | refine below_set ?_ GE897.out) | exact HB.out)) hb); have n3_ := Aside0.mk (hbox); have n4_ := Aside0.mk ((by rw [hg]; exact (below_size (by repeat (first | (with_reducible first | exact HB.out | apply below_alloc | apply pw_below_drewN | apply below_drew1 | refine below_set ?_ GE896.out | refine below_set ?_ GE897.out) | exact HB.out))) : w.heap.size ≤ gb898)); have n5_ := Aside0.mk ((by rw [hg]; exact (below_size (by repeat (first | (with_reducible first | exact HB.out | apply below_alloc | apply pw_below_drewN | apply below_drew1 | refine below_set ?_ GE896.out | refine below_set ?_ GE897.out) | exact HB.out))) : w.heap.size ≤ gb898)); have n6_ := Aside0.mk ((by rw [hg]; exact Nat.ne_of_lt (blk_lt (g := gb896) (o := .cells #[.slice A0_0 l0_0.length c0_0] 31 (0, 0)) (by (with_reducible repeat (first | refine blk_drewN ?_ _ | refine blk_drew ?_ | refine blk_alloc ?_ _)); exact BK896.out)) : gb896 ≠ gb898)); have n7_ := Aside0.mk ((by rw [hg]; exact Nat.ne_of_gt (blk_lt (g := gb896) (o := .cells #[.slice A0_0 l0_0.length c0_0] 31 (0, 0)) (by (with_reducible repeat (first | refine blk_drewN ?_ _ | refine blk_drew ?_ | refine blk_alloc ?_ _)); exact BK896.out)) : gb898 ≠ gb896)); have n8_ := Aside0.mk ((by rw [hg]; exact Nat.ne_of_lt (blk_lt (g := gb897) (o := .cells #[.int .i64 a1_0, .int .i64 a1_1, .int .i64 a1_2, .int .i64 a1_3] 32 (0, 0)) (by (with_reducible repeat (first | refine blk_drewN ?_ _ | refine blk_drew ?_ | refine blk_alloc ?_ _)); exact BK897.out)) : gb897 ≠ gb898)); have n9_ := Aside0.mk ((by rw [hg]; exact Nat.ne_of_gt (blk_lt (g := gb897) (o := .cells #[.int .i64 a1_0, .int .i64 a1_1, .int .i64 a1_2, .int .i64 a1_3] 32 (0, 0)) (by (with_reducible repeat (first | refine blk_drewN ?_ _ | refine blk_drew ?_ | refine blk_alloc ?_ _)); exact BK897.out)) : gb898 ≠ gb897)); clear BK896; clear BK897; clear HB; have BK896 := n0_; have BK897 := n1_; have HB := n2_; have BK898 := n3_; have GW898 := n4_; have GE898 := n5_; have NB896_898 := n6_; have NB898_896 := n7_; have NB897_898 := n8_; have NB898_897 := n9_; clear n0_ n1_ n2_ n3_ n4_ n5_ n6_ n7_ n8_ n9_; clear hb hbox hg) | ((with_reducible refine gate_dst (N := 7) rfl ?_); (try (refine gate_guard (by rfl) ?_; dsimp only)); refine box_event ?hg (N := 7) ?hd (cs := #[.int .i64 0, .int .i64 0, .int .i64 0, .int .i64 0]) (t := 32) ?hr ?_; (case hd => rfl); (case hg => rfl); (case hr => first | (go_simp; done) | (go_simp; rfl)); intro gb899 hg w11 hbox hb; have n0_ := Aside0.mk (blk_below (g := gb896) (o := .cells #[.slice A0_0 l0_0.length c0_0] 31 (0, 0)) (by (with_reducible repeat (first | refine blk_drewN ?_ _ | refine blk_drew ?_ | refine blk_alloc ?_ _)); exact BK896.out) hb); have n1_ := Aside0.mk (blk_below (g := gb897) (o := .cells #[.int .i64 a1_0, .int .i64 a1_1, .int .i64 a1_2, .int .i64 a1_3] 32 (0, 0)) (by (with_reducible repeat (first | refine blk_drewN ?_ _ | refine blk_drew ?_ | refine blk_alloc ?_ _)); exact BK897.out) hb); have n2_ := Aside0.mk (blk_below (g := gb898) (o := .cells #[.slice none 0 0] 31 (0, 0)) (by (with_reducible repeat (first | refine blk_drewN ?_ _ | refine blk_drew ?_ | refine blk_alloc ?_ _)); exact BK898.out) hb); have n3_ := Aside0.mk (below_step (by repeat (first | (with_reducible first | exact HB.out | apply below_alloc | apply pw_below_drewN | apply below_drew1 | refine below_set ?_ GE896.out | refine below_set ?_ GE897.out | refine below_set ?_ GE898.out) | exact HB.out)) hb); have n4_ := Aside0.mk (hbox); have n5_ := Aside0.mk ((by rw [hg]; exact (below_size (by repeat (first | (with_reducible first | exact HB.out | apply below_alloc | apply pw_below_drewN | apply below_drew1 | refine below_set ?_ GE896.out | refine below_set ?_ GE897.out | refine below_set ?_ GE898.out) | exact HB.out))) : w.heap.size ≤ gb899)); have n6_ := Aside0.mk ((by rw [hg]; exact (below_size (by repeat (first | (with_reducible first | exact HB.out | apply below_alloc | apply pw_below_drewN | apply below_drew1 | refine below_set ?_ GE896.out | refine below_set ?_ GE897.out | refine below_set ?_ GE898.out) | exact HB.out))) : w.heap.size ≤ gb899)); have n7_ := Aside0.mk ((by rw [hg]; exact Nat.ne_of_lt (blk_lt (g := gb896) (o := .cells #[.slice A0_0 l0_0.length c0_0] 31 (0, 0)) (by (with_reducible repeat (first | refine blk_drewN ?_ _ | refine blk_drew ?_ | refine blk_alloc ?_ _)); exact BK896.out)) : gb896 ≠ gb899)); have n8_ := Aside0.mk ((by rw [hg]; exact Nat.ne_of_gt (blk_lt (g := gb896) (o := .cells #[.slice A0_0 l0_0.length c0_0] 31 (0, 0)) (by (with_reducible repeat (first | refine blk_drewN ?_ _ | refine blk_drew ?_ | refine blk_alloc ?_ _)); exact BK896.out)) : gb899 ≠ gb896)); have n9_ := Aside0.mk ((by rw [hg]; exact Nat.ne_of_lt (blk_lt (g := gb897) (o := .cells #[.int .i64 a1_0, .int .i64 a1_1, .int .i64 a1_2, .int .i64 a1_3] 32 (0, 0)) (by (with_reducible repeat (first | refine blk_drewN ?_ _ | refine blk_drew ?_ | refine blk_alloc ?_ _)); exact BK897.out)) : gb897 ≠ gb899)); have n10_ := Aside0.mk ((by rw [hg]; exact Nat.ne_of_gt (blk_lt (g := gb897) (o := .cells #[.int .i64 a1_0, .int .i64 a1_1, .int .i64 a1_2, .int .i64 a1_3] 32 (0, 0)) (by (with_reducible repeat (first | refine blk_drewN ?_ _ | refine blk_drew ?_ | refine blk_alloc ?_ _)); exact BK897.out)) : gb899 ≠ gb897)); have n11_ := Aside0.mk ((by rw [hg]; exact Nat.ne_of_lt (blk_lt (g := gb898) (o := .cells #[.slice none 0 0] 31 (0, 0)) (by (with_reducible repeat (first | refine blk_drewN ?_ _ | refine blk_drew ?_ | refine blk_alloc ?_ _)); exact BK898.out)) : gb898 ≠ gb899)); have n12_ := Aside0.mk ((by rw [hg]; exact Nat.ne_of_gt (blk_lt (g := gb898) (o := .cells #[.slice none 0 0] 31 (0, 0)) (by (with_reducible repeat (first | refine blk_drewN ?_ _ | refine blk_drew ?_ | refine blk_alloc ?_ _)); exact BK898.out)) : gb899 ≠ gb898)); clear BK896; clear BK897; clear BK898; clear HB; have BK896 := n0_; have BK897 := n1_; have BK898 := n2_; have HB := n3_; have BK899 := n4_; have GW899 := n5_; have GE899 := n6_; have NB896_899 := n7_; have NB899_896 := n8_; have NB897_899 := n9_; have NB899_897 := n10_; have NB898_899 := n11_; have NB899_898 := n12_; clear n0_ n1_ n2_ n3_ n4_ n5_ n6_ n7_ n8_ n9_ n10_ n11_ n12_; clear hb hbox hg; have hnb12 := NB897_896.out; have hnc12 := NB896_897.out; have hnb13 := NB897_898.out; have hnc13 := NB898_897.out; have hnb14 := NB897_899.out; have hnc14 := NB899_897.out; have hcz15_0 : w11.cell? ⟨gb897, 0, none⟩ = some (.int .i64 a1_0) := (blk_cell BK897.out 0).trans rfl; have hcz15_1 : w11.cell? ⟨gb897, 1, none⟩ = some (.int .i64 a1_1) := (blk_cell BK897.out 1).trans rfl; have hcz15_2 : w11.cell? ⟨gb897, 2, none⟩ = some (.int .i64 a1_2) := (blk_cell BK897.out 2).trans rfl; have hcz15_3 : w11.cell? ⟨gb897, 3, none⟩ = some (.int .i64 a1_3) := (blk_cell BK897.out 3).trans rfl; have hfz15_0 := blk_frozen BK897.out 0; have hfz15_1 := blk_frozen BK897.out 1; have hfz15_2 := blk_frozen BK897.out 2; have hfz15_3 := blk_frozen BK897.out 3) | ((with_reducible refine gate_callee (f := 123) rfl ?_); refine goesL_ (some 16) rfl rfl Try.func123 (by kernel_rfl) rfl #[.agg #[.int .i64 a1_0, .int .i64 a1_1, .int .i64 a1_2, .int .i64 a1_3]] rfl (by (try simp only [List.map_toArray, List.map_cons, List.map_nil]); first | done | rfl | (simp only [List.length_drop, List.length_take]; rfl)) ?_; (with_reducible refine (spec_l2Room.calls a1_0 a1_1 a1_2 a1_3 t900 _ A4.out).mono ?_); rintro e w16 ⟨rfl, hb⟩; refine ⟨_, rfl, ?_⟩; have n0_ := Aside0.mk (blk_below (g := gb896) (o := .cells #[.slice A0_0 l0_0.length c0_0] 31 (0, 0)) (by (with_reducible repeat (first | refine blk_drewN ?_ _ | refine blk_drew ?_ | refine blk_alloc ?_ _)); exact BK896.out) hb); have n1_ := Aside0.mk (blk_below (g := gb897) (o := .cells #[.int .i64 a1_0, .int .i64 a1_1, .int .i64 a1_2, .int .i64 a1_3] 32 (0, 0)) (by (with_reducible repeat (first | refine blk_drewN ?_ _ | refine blk_drew ?_ | refine blk_alloc ?_ _)); exact BK897.out) hb); have n2_ := Aside0.mk (blk_below (g := gb898) (o := .cells #[.slice none 0 0] 31 (0, 0)) (by (with_reducible repeat (first | refine blk_drewN ?_ _ | refine blk_drew ?_ | refine blk_alloc ?_ _)); exact BK898.out) hb); have n3_ := Aside0.mk (blk_below (g := gb899) (o := .cells #[.int .i64 0, .int .i64 0, .int .i64 0, .int .i64 0] 32 (0, 0)) (by (with_reducible repeat (first | refine blk_drewN ?_ _ | refine blk_drew ?_ | refine blk_alloc ?_ _)); exact BK899.out) hb); have n4_ := Aside0.mk (below_step (by repeat (first | (with_reducible first | exact HB.out | apply below_alloc | apply pw_below_drewN | apply below_drew1 | refine below_set ?_ GE896.out | refine below_set ?_ GE897.out | refine below_set ?_ GE898.out | refine below_set ?_ GE899.out) | exact HB.out)) hb); clear BK896; clear BK897; clear BK898; clear BK899; clear HB; have BK896 := n0_; have BK897 := n1_; have BK898 := n2_; have BK899 := n3_; have HB := n4_; clear n0_ n1_ n2_ n3_ n4_; (try clear hb); (try clear hb2); (try clear hk); (try clear hi)))
    have n0_ := Aside0.mk (blk_drew BK896.out)
    have n1_ := Aside0.mk (blk_drew BK897.out)
    have n2_ := Aside0.mk (blk_drew BK898.out)
    have n3_ := Aside0.mk (blk_drew BK899.out)
    have n4_ := Aside0.mk (below_drew1 HB.out)
    clear BK896
    clear BK897
    clear BK898
    clear BK899
    clear HB
    have BK896 := n0_
    have BK897 := n1_
    have BK898 := n2_
    have BK899 := n3_
    have HB := n4_
    clear n0_ n1_ n2_ n3_ n4_
    refine start_ (n := 18) (S := fun w' => w'.cell? ⟨gb896, 0, none⟩ = some (.slice A0_0 l0_0.length c0_0) ∧ w'.cell? ⟨gb897, 0, none⟩ = some (.int .i64 a1_0) ∧ w'.cell? ⟨gb897, 1, none⟩ = some (.int .i64 a1_1) ∧ w'.cell? ⟨gb897, 2, none⟩ = some (.int .i64 a1_2) ∧ w'.cell? ⟨gb897, 3, none⟩ = some (.int .i64 a1_3)) (ds := []) #[false, false, false, false, false, false, false, false, false, false, false, false, false, false, false, false, false, false] (by kernel_rfl) rfl rfl ⟨(blk_cell BK896.out 0).trans rfl, (blk_cell BK897.out 0).trans rfl, (blk_cell BK897.out 1).trans rfl, (blk_cell BK897.out 2).trans rfl, (blk_cell BK897.out 3).trans rfl⟩ (fun hHeld => ?_); refine with_tabW spec_l2Append.tab2 spec_l2Append.bits2 (fun HT_ HW_ => ?_)
    generalize w16.drew = w17 at BK896 BK897 BK898 BK899 HB hHeld ⊢
    refine pure_ (i := 2) (N := some 20) (v := ?_) (a' := ?_) #[false, false, true, false, false, false, false, false, false, false, false, false, false, false, false, false, false, false] rfl rfl (any_of HT_.out (by kernel_rfl)) (fun _ _ _ h => h) (Or.inl ⟨by rfl, ?_⟩) ?_ ?_
    rotate_left
    · intro w'
      go_simp
      with_reducible rfl
    rotate_left
    · simp only [Act.put, List.setIfInBounds_toArray, List.set_cons_zero, List.set_cons_succ, i64_w, i32_w]
      rfl
    refine pure_ (i := 4) (N := some 22) (v := ?_) (a' := ?_) #[false, false, true, false, true, false, false, false, false, false, false, false, false, false, false, false, false, false] rfl rfl (any_of HT_.out (by kernel_rfl)) (fun _ _ _ h => h) (Or.inl ⟨by rfl, ?_⟩) ?_ ?_
    rotate_left
    · intro w'
      go_simp
      with_reducible rfl
    rotate_left
    · simp only [Act.put, List.setIfInBounds_toArray, List.set_cons_zero, List.set_cons_succ, i64_w, i32_w]
      rfl
    refine pure_ (i := 7) (N := some 25) (v := ?_) (a' := ?_) #[false, false, true, false, true, false, false, true, false, false, false, false, false, false, false, false, false, false] rfl rfl (any_of HT_.out (by kernel_rfl)) (fun _ _ _ h => h) (Or.inl ⟨by rfl, ?_⟩) ?_ ?_
    rotate_left
    · intro w'
      go_simp
      with_reducible rfl
    rotate_left
    · simp only [Act.put, List.setIfInBounds_toArray, List.set_cons_zero, List.set_cons_succ, i64_w, i32_w]
      rfl
    refine pure_ (i := 9) (N := some 27) (v := ?_) (a' := ?_) #[false, false, true, false, true, false, false, true, false, true, false, false, false, false, false, false, false, false] rfl rfl (any_of HT_.out (by kernel_rfl)) (fun _ _ _ h => h) (Or.inl ⟨by rfl, ?_⟩) ?_ ?_
    rotate_left
    · intro w'
      go_simp
      with_reducible rfl
    rotate_left
    · simp only [Act.put, List.setIfInBounds_toArray, List.set_cons_zero, List.set_cons_succ, i64_w, i32_w]
      rfl
    refine pure_ (i := 10) (N := some 28) (v := ?_) (a' := ?_) #[false, false, true, false, true, false, false, true, false, true, true, false, false, false, false, false, false, false] rfl rfl (any_of HT_.out (by kernel_rfl)) (fun _ _ _ h => h) (Or.inl ⟨by rfl, ?_⟩) ?_ ?_
    rotate_left
    · intro w'
      go_simp
      with_reducible rfl
    rotate_left
    · simp only [Act.put, List.setIfInBounds_toArray, List.set_cons_zero, List.set_cons_succ, i64_w, i32_w]
      rfl
    refine pure_ (i := 12) (N := some 30) (v := ?_) (a' := ?_) #[false, false, true, false, true, false, false, true, false, true, true, false, true, false, false, false, false, false] rfl rfl (any_of HT_.out (by kernel_rfl)) (fun _ _ _ h => h) (Or.inl ⟨by rfl, ?_⟩) ?_ ?_
    rotate_left
    · intro w'
      go_simp
      with_reducible rfl
    rotate_left
    · simp only [Act.put, List.setIfInBounds_toArray, List.set_cons_zero, List.set_cons_succ, i64_w, i32_w]
      rfl
    refine take_ (i := 0) (N := some 18) (v := ?_) (a' := ?_) #[true, false, true, false, true, false, false, true, false, true, true, false, true, false, false, false, false, false] rfl rfl (take_ofW HT_.out HW_.out (by kernel_rfl)) (fun _ _ _ h => h) (Or.inl ⟨by rfl, ?_⟩) hHeld ?_ ?_
    rotate_left
    · rintro w' ⟨s0, s1, s2, s3, s4⟩
      go_simp
      with_reducible rfl
    rotate_left
    · simp only [Act.put, List.setIfInBounds_toArray, List.set_cons_zero, List.set_cons_succ, i64_w, i32_w]
      rfl
    refine take_ (i := 1) (N := some 19) (v := ?_) (a' := ?_) #[true, true, true, false, true, false, false, true, false, true, true, false, true, false, false, false, false, false] rfl rfl (take_ofW HT_.out HW_.out (by kernel_rfl)) (fun _ _ _ h => h) (Or.inl ⟨by rfl, ?_⟩) hHeld ?_ ?_
    rotate_left
    · rintro w' ⟨s0, s1, s2, s3, s4⟩
      go_simp
      with_reducible rfl
    rotate_left
    · simp only [Act.put, List.setIfInBounds_toArray, List.set_cons_zero, List.set_cons_succ, i64_w, i32_w]
      rfl
    refine take_ (i := 3) (N := some 21) (v := ?_) (a' := ?_) #[true, true, true, true, true, false, false, true, false, true, true, false, true, false, false, false, false, false] rfl rfl (take_ofW HT_.out HW_.out (by kernel_rfl)) (fun _ _ _ h => h) (Or.inl ⟨by rfl, ?_⟩) hHeld ?_ ?_
    rotate_left
    · rintro w' ⟨s0, s1, s2, s3, s4⟩
      go_simp
      with_reducible rfl
    rotate_left
    · simp only [Act.put, List.setIfInBounds_toArray, List.set_cons_zero, List.set_cons_succ, i64_w, i32_w]
      rfl
    refine take_ (i := 6) (N := some 24) (v := ?_) (a' := ?_) #[true, true, true, true, true, false, true, true, false, true, true, false, true, false, false, false, false, false] rfl rfl (take_ofW HT_.out HW_.out (by kernel_rfl)) (fun _ _ _ h => h) (Or.inl ⟨by rfl, ?_⟩) hHeld ?_ ?_
    rotate_left
    · rintro w' ⟨s0, s1, s2, s3, s4⟩
      go_simp
      with_reducible rfl
    rotate_left
    · simp only [Act.put, List.setIfInBounds_toArray, List.set_cons_zero, List.set_cons_succ, i64_w, i32_w]
      rfl
    refine take_ (i := 8) (N := some 26) (v := ?_) (a' := ?_) #[true, true, true, true, true, false, true, true, true, true, true, false, true, false, false, false, false, false] rfl rfl (take_ofW HT_.out HW_.out (by kernel_rfl)) (fun _ _ _ h => h) (Or.inl ⟨by rfl, ?_⟩) hHeld ?_ ?_
    rotate_left
    · rintro w' ⟨s0, s1, s2, s3, s4⟩
      go_simp
      with_reducible rfl
    rotate_left
    · simp only [Act.put, List.setIfInBounds_toArray, List.set_cons_zero, List.set_cons_succ, i64_w, i32_w]
      rfl
    refine pure_ (i := 11) (N := some 29) (v := ?_) (a' := ?_) #[true, true, true, true, true, false, true, true, true, true, true, true, true, false, false, false, false, false] rfl rfl (any_of HT_.out (by kernel_rfl)) (fun _ _ _ h => h) (Or.inl ⟨by rfl, ?_⟩) ?_ ?_
    rotate_left
    · intro w'
      go_simp
      with_reducible rfl
    rotate_left
    · simp only [Act.put, List.setIfInBounds_toArray, List.set_cons_zero, List.set_cons_succ, i64_w, i32_w]
      rfl
    refine take_ (i := 13) (N := some 31) (v := ?_) (a' := ?_) #[true, true, true, true, true, false, true, true, true, true, true, true, true, true, false, false, false, false] rfl rfl (take_ofW HT_.out HW_.out (by kernel_rfl)) (fun _ _ _ h => h) (Or.inl ⟨by rfl, ?_⟩) hHeld ?_ ?_
    rotate_left
    · rintro w' ⟨s0, s1, s2, s3, s4⟩
      go_simp
      with_reducible rfl
    rotate_left
    · simp only [Act.put, List.setIfInBounds_toArray, List.set_cons_zero, List.set_cons_succ, i64_w, i32_w]
      rfl
    refine one_ (i := 5) (N := some 23) #[true, true, true, true, true, true, true, true, true, true, true, true, true, true, false, false, false, false] rfl rfl (one_of HT_.out (by kernel_rfl)) (by decide) (fun K hK => ?_)
    refine goes_ Try.func100 (by kernel_rfl) rfl #[.agg #[.slice A0_0 l0_0.length c0_0], .agg #[.int .i64 a1_0, .int .i64 a1_1, .int .i64 a1_2, .int .i64 a1_3], .int .i64 a1_2, .slice A2 l2.length c2] (by rfl) rfl rfl (by (try simp only [List.map_toArray, List.map_cons, List.map_nil]); first | done | rfl | (simp only [List.length_drop, List.length_take]; rfl)) ?_
    with_reducible refine (spec_l2Write.calls k _ _ l0_0 a1_0 a1_1 a1_2 a1_3 a1_2 _ _ l2 t901 _ ?side1 ?side2 ?side3 ?side4 A6.out).mono ?_
    (case side1 => repeat (first | exact (Kd.C_below HR0_0.out HB.out) | (with_reducible refine Kd.C_alloc ?_ _) | (with_reducible refine Kd.C_drewN ?_ _) | (with_reducible refine Kd.C_drew ?_)))
    (case side2 => exact HC0_0.out)
    (case side3 => repeat (first | exact (Kd.C_below HR2.out HB.out) | (with_reducible refine Kd.C_alloc ?_ _) | (with_reducible refine Kd.C_drewN ?_ _) | (with_reducible refine Kd.C_drew ?_)))
    (case side4 => exact HC2.out)
    rintro e w18 ⟨v902, rfl, ho0, hb⟩
    refine ⟨_, rfl, ?_⟩
    have n0_ := Aside0.mk (Kd.S_lower ho0 (below_size (by repeat (first | (with_reducible first | exact HB.out | apply below_alloc | apply pw_below_drewN | apply below_drew1 | refine below_set ?_ GE896.out | refine below_set ?_ GE897.out | refine below_set ?_ GE898.out | refine below_set ?_ GE899.out) | exact HB.out))))
    have n1_ := Aside0.mk (blk_below (g := gb896) (o := .cells #[.slice A0_0 l0_0.length c0_0] 31 (0, 0)) (by (with_reducible repeat (first | refine blk_drewN ?_ _ | refine blk_drew ?_ | refine blk_alloc ?_ _)); exact BK896.out) hb)
    have n2_ := Aside0.mk (blk_below (g := gb897) (o := .cells #[.int .i64 a1_0, .int .i64 a1_1, .int .i64 a1_2, .int .i64 a1_3] 32 (0, 0)) (by (with_reducible repeat (first | refine blk_drewN ?_ _ | refine blk_drew ?_ | refine blk_alloc ?_ _)); exact BK897.out) hb)
    have n3_ := Aside0.mk (blk_below (g := gb898) (o := .cells #[.slice none 0 0] 31 (0, 0)) (by (with_reducible repeat (first | refine blk_drewN ?_ _ | refine blk_drew ?_ | refine blk_alloc ?_ _)); exact BK898.out) hb)
    have n4_ := Aside0.mk (blk_below (g := gb899) (o := .cells #[.int .i64 0, .int .i64 0, .int .i64 0, .int .i64 0] 32 (0, 0)) (by (with_reducible repeat (first | refine blk_drewN ?_ _ | refine blk_drew ?_ | refine blk_alloc ?_ _)); exact BK899.out) hb)
    have n5_ := Aside0.mk (below_step (by repeat (first | (with_reducible first | exact HB.out | apply below_alloc | apply pw_below_drewN | apply below_drew1 | refine below_set ?_ GE896.out | refine below_set ?_ GE897.out | refine below_set ?_ GE898.out | refine below_set ?_ GE899.out) | exact HB.out)) hb)
    clear BK896
    clear BK897
    clear BK898
    clear BK899
    clear HB
    have HO903 := n0_
    have BK896 := n1_
    have BK897 := n2_
    have BK898 := n3_
    have BK899 := n4_
    have HB := n5_
    clear n0_ n1_ n2_ n3_ n4_ n5_
    (try clear hb)
    (try clear hb2)
    (try clear hk)
    (try clear hi)
    (try clear ho0)
    refine hK.out _ _ ⟨(blk_cell BK896.out 0).trans rfl, (blk_cell BK897.out 0).trans rfl, (blk_cell BK897.out 1).trans rfl, (blk_cell BK897.out 2).trans rfl, (blk_cell BK897.out 3).trans rfl⟩ (fun hHeld => ?_)
    clear hK K
    refine norm_ (a' := ?_) ?_ ?_
    rotate_left
    · show Act.put _ (some 23) _ = _
      simp only [Act.put, List.setIfInBounds_toArray, List.set_cons_zero, List.set_cons_succ, i64_w, i32_w]
      rfl
    refine one_ (i := 14) (N := some 32) #[true, true, true, true, true, true, true, true, true, true, true, true, true, true, true, false, false, false] rfl rfl (one_of HT_.out (by kernel_rfl)) (by decide) (fun K hK => ?_)
    refine goes_ Try.func124 (by kernel_rfl) rfl #[.agg #[.int .i64 a1_0, .int .i64 a1_1, .int .i64 a1_2, .int .i64 a1_3], .int .i64 0, .int .i64 (wrap64 (a1_2 + (l2.length : Int))), .int .i64 a1_3] (by rfl) rfl rfl (by (try simp only [List.map_toArray, List.map_cons, List.map_nil]); first | done | rfl | (simp only [List.length_drop, List.length_take]; rfl)) ?_
    with_reducible refine (spec_l2Slice.calls a1_0 a1_1 a1_2 a1_3 0 (wrap64 (a1_2 + (l2.length : Int))) a1_3 t904 t905 t906 t907 _ A7.out).mono ?_
    rintro e w19 ⟨rfl, hb⟩
    refine ⟨_, rfl, ?_⟩
    have n0_ := Aside0.mk (Kd.S_below (by (with_reducible repeat (first | apply Kd.S_alloc | apply Kd.S_drewN | apply Kd.S_drew)); exact HO903.out) hb)
    have n1_ := Aside0.mk (blk_below (g := gb896) (o := .cells #[.slice A0_0 l0_0.length c0_0] 31 (0, 0)) (by (with_reducible repeat (first | refine blk_drewN ?_ _ | refine blk_drew ?_ | refine blk_alloc ?_ _)); exact BK896.out) hb)
    have n2_ := Aside0.mk (blk_below (g := gb897) (o := .cells #[.int .i64 a1_0, .int .i64 a1_1, .int .i64 a1_2, .int .i64 a1_3] 32 (0, 0)) (by (with_reducible repeat (first | refine blk_drewN ?_ _ | refine blk_drew ?_ | refine blk_alloc ?_ _)); exact BK897.out) hb)
    have n3_ := Aside0.mk (blk_below (g := gb898) (o := .cells #[.slice none 0 0] 31 (0, 0)) (by (with_reducible repeat (first | refine blk_drewN ?_ _ | refine blk_drew ?_ | refine blk_alloc ?_ _)); exact BK898.out) hb)
    have n4_ := Aside0.mk (blk_below (g := gb899) (o := .cells #[.int .i64 0, .int .i64 0, .int .i64 0, .int .i64 0] 32 (0, 0)) (by (with_reducible repeat (first | refine blk_drewN ?_ _ | refine blk_drew ?_ | refine blk_alloc ?_ _)); exact BK899.out) hb)
    have n5_ := Aside0.mk (below_step (by repeat (first | (with_reducible first | exact HB.out | apply below_alloc | apply pw_below_drewN | apply below_drew1 | refine below_set ?_ GE896.out | refine below_set ?_ GE897.out | refine below_set ?_ GE898.out | refine below_set ?_ GE899.out) | exact HB.out)) hb)
    clear HO903
    clear BK896
    clear BK897
    clear BK898
    clear BK899
    clear HB
    have HO903 := n0_
    have BK896 := n1_
    have BK897 := n2_
    have BK898 := n3_
    have BK899 := n4_
    have HB := n5_
    clear n0_ n1_ n2_ n3_ n4_ n5_
    (try clear hb)
    (try clear hb2)
    (try clear hk)
    (try clear hi)
    obtain ⟨Ao20, co20, eo20⟩ := Kd.S_slice HO903.out
    (first | subst eo20 | (injection eo20 with f1_ f2_ f3_; have f4_ := f1_.symm; have f5_ := f3_.symm; clear f1_ f2_ f3_; subst f4_; subst f5_))
    refine hK.out _ _ ⟨(blk_cell BK896.out 0).trans rfl, (blk_cell BK897.out 0).trans rfl, (blk_cell BK897.out 1).trans rfl, (blk_cell BK897.out 2).trans rfl, (blk_cell BK897.out 3).trans rfl⟩ (fun hHeld => ?_)
    clear hK K
    refine norm_ (a' := ?_) ?_ ?_
    rotate_left
    · show Act.put _ (some 32) _ = _
      simp only [Act.put, List.setIfInBounds_toArray, List.set_cons_zero, List.set_cons_succ, i64_w, i32_w]
      rfl
    refine one_ (i := 15) (N := none) #[true, true, true, true, true, true, true, true, true, true, true, true, true, true, true, true, false, false] rfl rfl (one_of HT_.out (by kernel_rfl)) (by decide) (fun K hK => ?_)
    have hs21 : w19.cell? ⟨gb898, 0, none⟩ = some (.slice none 0 0) := (blk_cell BK898.out 0).trans rfl
    have hfs21 := blk_frozen BK898.out 0
    have hns21_0 := NB896_898.out
    have hns21_1 := NB897_898.out
    have hns21_3 := NB899_898.out
    have hms21_0 := NB898_896.out
    have hms21_1 := NB898_897.out
    have hms21_3 := NB898_899.out
    refine skip_ (w1 := ?_) (by rfl) rfl ?_ ?_
    rotate_left
    · go_simp
      rfl
    refine hK.out _ _ ⟨((cell_far (p := ⟨gb898, _, none⟩) NB896_898.out _).trans (hHeld.1)), ((cell_far (p := ⟨gb898, _, none⟩) NB897_898.out _).trans (hHeld.2.1)), ((cell_far (p := ⟨gb898, _, none⟩) NB897_898.out _).trans (hHeld.2.2.1)), ((cell_far (p := ⟨gb898, _, none⟩) NB897_898.out _).trans (hHeld.2.2.2.1)), ((cell_far (p := ⟨gb898, _, none⟩) NB897_898.out _).trans (hHeld.2.2.2.2))⟩ (fun hHeld => ?_)
    clear hK K
    refine one_ (i := 16) (N := none) #[true, true, true, true, true, true, true, true, true, true, true, true, true, true, true, true, true, false] rfl rfl (one_of HT_.out (by kernel_rfl)) (by decide) (fun K hK => ?_)
    have hs22 : w19.cell? ⟨gb899, 0, none⟩ = some (.int .i64 0) := (blk_cell BK899.out 0).trans rfl
    have hfs22 := blk_frozen BK899.out 0
    have hns22_0 := NB896_899.out
    have hns22_1 := NB897_899.out
    have hns22_2 := NB898_899.out
    have hms22_0 := NB899_896.out
    have hms22_1 := NB899_897.out
    have hms22_2 := NB899_898.out
    have hs23 : w19.cell? ⟨gb899, 1, none⟩ = some (.int .i64 0) := (blk_cell BK899.out 1).trans rfl
    have hfs23 := blk_frozen BK899.out 1
    have hns23_0 := NB896_899.out
    have hns23_1 := NB897_899.out
    have hns23_2 := NB898_899.out
    have hms23_0 := NB899_896.out
    have hms23_1 := NB899_897.out
    have hms23_2 := NB899_898.out
    have hs24 : w19.cell? ⟨gb899, 2, none⟩ = some (.int .i64 0) := (blk_cell BK899.out 2).trans rfl
    have hfs24 := blk_frozen BK899.out 2
    have hns24_0 := NB896_899.out
    have hns24_1 := NB897_899.out
    have hns24_2 := NB898_899.out
    have hms24_0 := NB899_896.out
    have hms24_1 := NB899_897.out
    have hms24_2 := NB899_898.out
    have hs25 : w19.cell? ⟨gb899, 3, none⟩ = some (.int .i64 0) := (blk_cell BK899.out 3).trans rfl
    have hfs25 := blk_frozen BK899.out 3
    have hns25_0 := NB896_899.out
    have hns25_1 := NB897_899.out
    have hns25_2 := NB898_899.out
    have hms25_0 := NB899_896.out
    have hms25_1 := NB899_897.out
    have hms25_2 := NB899_898.out
    refine skip_ (w1 := ?_) (by rfl) rfl ?_ ?_
    rotate_left
    · go_simp
      rfl
    refine hK.out _ _ ⟨((cell_far (p := ⟨gb899, _, none⟩) NB896_899.out _).trans (((cell_far (p := ⟨gb899, _, none⟩) NB896_899.out _).trans (((cell_far (p := ⟨gb899, _, none⟩) NB896_899.out _).trans (((cell_far (p := ⟨gb899, _, none⟩) NB896_899.out _).trans (hHeld.1)))))))), ((cell_far (p := ⟨gb899, _, none⟩) NB897_899.out _).trans (((cell_far (p := ⟨gb899, _, none⟩) NB897_899.out _).trans (((cell_far (p := ⟨gb899, _, none⟩) NB897_899.out _).trans (((cell_far (p := ⟨gb899, _, none⟩) NB897_899.out _).trans (hHeld.2.1)))))))), ((cell_far (p := ⟨gb899, _, none⟩) NB897_899.out _).trans (((cell_far (p := ⟨gb899, _, none⟩) NB897_899.out _).trans (((cell_far (p := ⟨gb899, _, none⟩) NB897_899.out _).trans (((cell_far (p := ⟨gb899, _, none⟩) NB897_899.out _).trans (hHeld.2.2.1)))))))), ((cell_far (p := ⟨gb899, _, none⟩) NB897_899.out _).trans (((cell_far (p := ⟨gb899, _, none⟩) NB897_899.out _).trans (((cell_far (p := ⟨gb899, _, none⟩) NB897_899.out _).trans (((cell_far (p := ⟨gb899, _, none⟩) NB897_899.out _).trans (hHeld.2.2.2.1)))))))), ((cell_far (p := ⟨gb899, _, none⟩) NB897_899.out _).trans (((cell_far (p := ⟨gb899, _, none⟩) NB897_899.out _).trans (((cell_far (p := ⟨gb899, _, none⟩) NB897_899.out _).trans (((cell_far (p := ⟨gb899, _, none⟩) NB897_899.out _).trans (hHeld.2.2.2.2))))))))⟩ (fun hHeld => ?_)
    clear hK K
    refine pure_ (i := 17) (N := some 8) (v := ?_) (a' := ?_) #[true, true, true, true, true, true, true, true, true, true, true, true, true, true, true, true, true, true] rfl rfl (any_of HT_.out (by kernel_rfl)) (fun _ _ _ h => h) (Or.inl ⟨by rfl, ?_⟩) ?_ ?_
    rotate_left
    · intro w'
      go_simp
      with_reducible rfl
    rotate_left
    · simp only [Act.put, List.setIfInBounds_toArray, List.set_cons_zero, List.set_cons_succ, i64_w, i32_w]
      rfl
    refine done_ (done_of HT_.out (by kernel_rfl)) ?_
    try go_wp2
    refine bodyPost_ret (results_list (rs := [.cell 6 31, .cell 7 32, .tmp 8]) rfl (by simp) (.cell gb898 31 #[.slice Ao20 t901.length co20] (0, 0) _ rfl (by (with_reducible repeat (first | refine blk_drewN ?_ _ | refine blk_drew ?_ | refine blk_alloc ?_ _)); refine blk_far ?_ NB898_899.out _; (with_reducible repeat (first | refine blk_drewN ?_ _ | refine blk_drew ?_ | refine blk_alloc ?_ _)); refine blk_far ?_ NB898_899.out _; (with_reducible repeat (first | refine blk_drewN ?_ _ | refine blk_drew ?_ | refine blk_alloc ?_ _)); refine blk_far ?_ NB898_899.out _; (with_reducible repeat (first | refine blk_drewN ?_ _ | refine blk_drew ?_ | refine blk_alloc ?_ _)); refine blk_far ?_ NB898_899.out _; (with_reducible repeat (first | refine blk_drewN ?_ _ | refine blk_drew ?_ | refine blk_alloc ?_ _)); refine blk_put (cs := #[.slice none 0 0]) ?_ 0 _ rfl; (with_reducible repeat (first | refine blk_drewN ?_ _ | refine blk_drew ?_ | refine blk_alloc ?_ _)); exact BK898.out) Try.underlying31 rfl (by kernel_rfl) (.cell gb899 32 #[.int .i64 t904, .int .i64 t905, .int .i64 t906, .int .i64 t907] (0, 0) _ rfl (by (with_reducible repeat (first | refine blk_drewN ?_ _ | refine blk_drew ?_ | refine blk_alloc ?_ _)); refine blk_put (cs := #[.int .i64 t904, .int .i64 t905, .int .i64 t906, .int .i64 0]) ?_ 3 _ rfl; (with_reducible repeat (first | refine blk_drewN ?_ _ | refine blk_drew ?_ | refine blk_alloc ?_ _)); refine blk_put (cs := #[.int .i64 t904, .int .i64 t905, .int .i64 0, .int .i64 0]) ?_ 2 _ rfl; (with_reducible repeat (first | refine blk_drewN ?_ _ | refine blk_drew ?_ | refine blk_alloc ?_ _)); refine blk_put (cs := #[.int .i64 t904, .int .i64 0, .int .i64 0, .int .i64 0]) ?_ 1 _ rfl; (with_reducible repeat (first | refine blk_drewN ?_ _ | refine blk_drew ?_ | refine blk_alloc ?_ _)); refine blk_put (cs := #[.int .i64 0, .int .i64 0, .int .i64 0, .int .i64 0]) ?_ 0 _ rfl; (with_reducible repeat (first | refine blk_drewN ?_ _ | refine blk_drew ?_ | refine blk_alloc ?_ _)); refine blk_far ?_ NB899_898.out _; (with_reducible repeat (first | refine blk_drewN ?_ _ | refine blk_drew ?_ | refine blk_alloc ?_ _)); exact BK899.out) Try.underlying32 rfl (by kernel_rfl) (.tmp .nil)))) rfl ?_
    exact ⟨_, by first | rfl | (simp [errW_none, errW_some] <;> rfl) | (simp [*, errW_none, errW_some] <;> rfl), by (with_reducible repeat (first | apply Kd.S_alloc | apply Kd.S_drewN | apply Kd.S_drew)); exact Kd.S_mono (Kd.S_far (p := ⟨gb899, 3, none⟩) (Kd.S_far (p := ⟨gb899, 2, none⟩) (Kd.S_far (p := ⟨gb899, 1, none⟩) (Kd.S_far (p := ⟨gb899, 0, none⟩) (Kd.S_far (p := ⟨gb898, 0, none⟩) (Kd.S_types (Kd.S_types HO903.out BK898.out (by decide)) BK899.out (by decide)) (fun _ hk => hk.1.2) (.slice Ao20 t901.length co20)) (fun _ hk => hk.2) (.int .i64 t904)) (fun _ hk => hk.2) (.int .i64 t905)) (fun _ hk => hk.2) (.int .i64 t906)) (fun _ hk => hk.2) (.int .i64 t907)) (fun _ hk => trivial), by repeat (first | (with_reducible first | exact HB.out | apply below_alloc | apply pw_below_drewN | apply below_drew1 | refine below_set ?_ GE896.out | refine below_set ?_ GE897.out | refine below_set ?_ GE898.out | refine below_set ?_ GE899.out) | exact HB.out)⟩
  · rw [if_neg c5] at H
    have c5b0 : decide ((l2.length : Int) ≤ t900) = false := decide_eq_false c5
    clear c5
    have HC26 := Aside0.mk H
    clear H
    go_enter Try.func95, Try.ntmps95
    go_upto_region 3 with (first | ((with_reducible refine gate_dst (N := 3) rfl ?_); (try (refine gate_guard (by rfl) ?_; dsimp only)); refine box_event ?hg (N := 3) ?hd (cs := #[.slice A0_0 l0_0.length c0_0]) (t := 31) ?hr ?_; (case hd => rfl); (case hg => rfl); (case hr => first | (go_simp; done) | (go_simp; rfl)); intro gb896 hg w27 hbox hb; have n0_ := Aside0.mk (below_step (by repeat (first | (with_reducible first | exact HB.out | apply below_alloc | apply pw_below_drewN | apply below_drew1) | exact HB.out)) hb); have n1_ := Aside0.mk (hbox); have n2_ := Aside0.mk ((by rw [hg]; exact (below_size (by repeat (first | (with_reducible first | exact HB.out | apply below_alloc | apply pw_below_drewN | apply below_drew1) | exact HB.out))) : w.heap.size ≤ gb896)); have n3_ := Aside0.mk ((by rw [hg]; exact (below_size (by repeat (first | (with_reducible first | exact HB.out | apply below_alloc | apply pw_below_drewN | apply below_drew1) | exact HB.out))) : w.heap.size ≤ gb896)); clear HB; have HB := n0_; have BK896 := n1_; have GW896 := n2_; have GE896 := n3_; clear n0_ n1_ n2_ n3_; clear hb hbox hg) | ((with_reducible refine gate_dst (N := 4) rfl ?_); (try (refine gate_guard (by rfl) ?_; dsimp only)); refine box_event ?hg (N := 4) ?hd (cs := #[.int .i64 a1_0, .int .i64 a1_1, .int .i64 a1_2, .int .i64 a1_3]) (t := 32) ?hr ?_; (case hd => rfl); (case hg => rfl); (case hr => first | (go_simp; done) | (go_simp; rfl)); intro gb897 hg w28 hbox hb; have n0_ := Aside0.mk (blk_below (g := gb896) (o := .cells #[.slice A0_0 l0_0.length c0_0] 31 (0, 0)) (by (with_reducible repeat (first | refine blk_drewN ?_ _ | refine blk_drew ?_ | refine blk_alloc ?_ _)); exact BK896.out) hb); have n1_ := Aside0.mk (below_step (by repeat (first | (with_reducible first | exact HB.out | apply below_alloc | apply pw_below_drewN | apply below_drew1 | refine below_set ?_ GE896.out) | exact HB.out)) hb); have n2_ := Aside0.mk (hbox); have n3_ := Aside0.mk ((by rw [hg]; exact (below_size (by repeat (first | (with_reducible first | exact HB.out | apply below_alloc | apply pw_below_drewN | apply below_drew1 | refine below_set ?_ GE896.out) | exact HB.out))) : w.heap.size ≤ gb897)); have n4_ := Aside0.mk ((by rw [hg]; exact (below_size (by repeat (first | (with_reducible first | exact HB.out | apply below_alloc | apply pw_below_drewN | apply below_drew1 | refine below_set ?_ GE896.out) | exact HB.out))) : w.heap.size ≤ gb897)); have n5_ := Aside0.mk ((by rw [hg]; exact Nat.ne_of_lt (blk_lt (g := gb896) (o := .cells #[.slice A0_0 l0_0.length c0_0] 31 (0, 0)) (by (with_reducible repeat (first | refine blk_drewN ?_ _ | refine blk_drew ?_ | refine blk_alloc ?_ _)); exact BK896.out)) : gb896 ≠ gb897)); have n6_ := Aside0.mk ((by rw [hg]; exact Nat.ne_of_gt (blk_lt (g := gb896) (o := .cells #[.slice A0_0 l0_0.length c0_0] 31 (0, 0)) (by (with_reducible repeat (first | refine blk_drewN ?_ _ | refine blk_drew ?_ | refine blk_alloc ?_ _)); exact BK896.out)) : gb897 ≠ gb896)); clear BK896; clear HB; have BK896 := n0_; have HB := n1_; have BK897 := n2_; have GW897 := n3_; have GE897 := n4_; have NB896_897 := n5_; have NB897_896 := n6_; clear n0_ n1_ n2_ n3_ n4_ n5_ n6_; clear hb hbox hg) | ((with_reducible refine gate_dst (N := 6) rfl ?_); (try (refine gate_guard (by rfl) ?_; dsimp only)); refine box_event ?hg (N := 6) ?hd (cs := #[.slice none 0 0]) (t := 31) ?hr ?_; (case hd => rfl); (case hg => rfl); (case hr => first | (go_simp; done) | (go_simp; rfl)); intro gb898 hg w29 hbox hb; have n0_ := Aside0.mk (blk_below (g := gb896) (o := .cells #[.slice A0_0 l0_0.length c0_0] 31 (0, 0)) (by (with_reducible repeat (first | refine blk_drewN ?_ _ | refine blk_drew ?_ | refine blk_alloc ?_ _)); exact BK896.out) hb); have n1_ := Aside0.mk (blk_below (g := gb897) (o := .cells #[.int .i64 a1_0, .int .i64 a1_1, .int .i64 a1_2, .int .i64 a1_3] 32 (0, 0)) (by (with_reducible repeat (first | refine blk_drewN ?_ _ | refine blk_drew ?_ | refine blk_alloc ?_ _)); exact BK897.out) hb); have n2_ := Aside0.mk (below_step (by repeat (first | (with_reducible first | exact HB.out | apply below_alloc | apply pw_below_drewN | apply below_drew1 | refine below_set ?_ GE896.out | refine below_set ?_ GE897.out) | exact HB.out)) hb); have n3_ := Aside0.mk (hbox); have n4_ := Aside0.mk ((by rw [hg]; exact (below_size (by repeat (first | (with_reducible first | exact HB.out | apply below_alloc | apply pw_below_drewN | apply below_drew1 | refine below_set ?_ GE896.out | refine below_set ?_ GE897.out) | exact HB.out))) : w.heap.size ≤ gb898)); have n5_ := Aside0.mk ((by rw [hg]; exact (below_size (by repeat (first | (with_reducible first | exact HB.out | apply below_alloc | apply pw_below_drewN | apply below_drew1 | refine below_set ?_ GE896.out | refine below_set ?_ GE897.out) | exact HB.out))) : w.heap.size ≤ gb898)); have n6_ := Aside0.mk ((by rw [hg]; exact Nat.ne_of_lt (blk_lt (g := gb896) (o := .cells #[.slice A0_0 l0_0.length c0_0] 31 (0, 0)) (by (with_reducible repeat (first | refine blk_drewN ?_ _ | refine blk_drew ?_ | refine blk_alloc ?_ _)); exact BK896.out)) : gb896 ≠ gb898)); have n7_ := Aside0.mk ((by rw [hg]; exact Nat.ne_of_gt (blk_lt (g := gb896) (o := .cells #[.slice A0_0 l0_0.length c0_0] 31 (0, 0)) (by (with_reducible repeat (first | refine blk_drewN ?_ _ | refine blk_drew ?_ | refine blk_alloc ?_ _)); exact BK896.out)) : gb898 ≠ gb896)); have n8_ := Aside0.mk ((by rw [hg]; exact Nat.ne_of_lt (blk_lt (g := gb897) (o := .cells #[.int .i64 a1_0, .int .i64 a1_1, .int .i64 a1_2, .int .i64 a1_3] 32 (0, 0)) (by (with_reducible repeat (first | refine blk_drewN ?_ _ | refine blk_drew ?_ | refine blk_alloc ?_ _)); exact BK897.out)) : gb897 ≠ gb898)); have n9_ := Aside0.mk ((by rw [hg]; exact Nat.ne_of_gt (blk_lt (g := gb897) (o := .cells #[.int .i64 a1_0, .int .i64 a1_1, .int .i64 a1_2, .int .i64 a1_3] 32 (0, 0)) (by (with_reducible repeat (first | refine blk_drewN ?_ _ | refine blk_drew ?_ | refine blk_alloc ?_ _)); exact BK897.out)) : gb898 ≠ gb897)); clear BK896; clear BK897; clear HB; have BK896 := n0_; have BK897 := n1_; have HB := n2_; have BK898 := n3_; have GW898 := n4_; have GE898 := n5_; have NB896_898 := n6_; have NB898_896 := n7_; have NB897_898 := n8_; have NB898_897 := n9_; clear n0_ n1_ n2_ n3_ n4_ n5_ n6_ n7_ n8_ n9_; clear hb hbox hg) | ((with_reducible refine gate_dst (N := 7) rfl ?_); (try (refine gate_guard (by rfl) ?_; dsimp only)); refine box_event ?hg (N := 7) ?hd (cs := #[.int .i64 0, .int .i64 0, .int .i64 0, .int .i64 0]) (t := 32) ?hr ?_; (case hd => rfl); (case hg => rfl); (case hr => first | (go_simp; done) | (go_simp; rfl)); intro gb899 hg w30 hbox hb; have n0_ := Aside0.mk (blk_below (g := gb896) (o := .cells #[.slice A0_0 l0_0.length c0_0] 31 (0, 0)) (by (with_reducible repeat (first | refine blk_drewN ?_ _ | refine blk_drew ?_ | refine blk_alloc ?_ _)); exact BK896.out) hb); have n1_ := Aside0.mk (blk_below (g := gb897) (o := .cells #[.int .i64 a1_0, .int .i64 a1_1, .int .i64 a1_2, .int .i64 a1_3] 32 (0, 0)) (by (with_reducible repeat (first | refine blk_drewN ?_ _ | refine blk_drew ?_ | refine blk_alloc ?_ _)); exact BK897.out) hb); have n2_ := Aside0.mk (blk_below (g := gb898) (o := .cells #[.slice none 0 0] 31 (0, 0)) (by (with_reducible repeat (first | refine blk_drewN ?_ _ | refine blk_drew ?_ | refine blk_alloc ?_ _)); exact BK898.out) hb); have n3_ := Aside0.mk (below_step (by repeat (first | (with_reducible first | exact HB.out | apply below_alloc | apply pw_below_drewN | apply below_drew1 | refine below_set ?_ GE896.out | refine below_set ?_ GE897.out | refine below_set ?_ GE898.out) | exact HB.out)) hb); have n4_ := Aside0.mk (hbox); have n5_ := Aside0.mk ((by rw [hg]; exact (below_size (by repeat (first | (with_reducible first | exact HB.out | apply below_alloc | apply pw_below_drewN | apply below_drew1 | refine below_set ?_ GE896.out | refine below_set ?_ GE897.out | refine below_set ?_ GE898.out) | exact HB.out))) : w.heap.size ≤ gb899)); have n6_ := Aside0.mk ((by rw [hg]; exact (below_size (by repeat (first | (with_reducible first | exact HB.out | apply below_alloc | apply pw_below_drewN | apply below_drew1 | refine below_set ?_ GE896.out | refine below_set ?_ GE897.out | refine below_set ?_ GE898.out) | exact HB.out))) : w.heap.size ≤ gb899)); have n7_ := Aside0.mk ((by rw [hg]; exact Nat.ne_of_lt (blk_lt (g := gb896) (o := .cells #[.slice A0_0 l0_0.length c0_0] 31 (0, 0)) (by (with_reducible repeat (first | refine blk_drewN ?_ _ | refine blk_drew ?_ | refine blk_alloc ?_ _)); exact BK896.out)) : gb896 ≠ gb899)); have n8_ := Aside0.mk ((by rw [hg]; exact Nat.ne_of_gt (blk_lt (g := gb896) (o := .cells #[.slice A0_0 l0_0.length c0_0] 31 (0, 0)) (by (with_reducible repeat (first | refine blk_drewN ?_ _ | refine blk_drew ?_ | refine blk_alloc ?_ _)); exact BK896.out)) : gb899 ≠ gb896)); have n9_ := Aside0.mk ((by rw [hg]; exact Nat.ne_of_lt (blk_lt (g := gb897) (o := .cells #[.int .i64 a1_0, .int .i64 a1_1, .int .i64 a1_2, .int .i64 a1_3] 32 (0, 0)) (by (with_reducible repeat (first | refine blk_drewN ?_ _ | refine blk_drew ?_ | refine blk_alloc ?_ _)); exact BK897.out)) : gb897 ≠ gb899)); have n10_ := Aside0.mk ((by rw [hg]; exact Nat.ne_of_gt (blk_lt (g := gb897) (o := .cells #[.int .i64 a1_0, .int .i64 a1_1, .int .i64 a1_2, .int .i64 a1_3] 32 (0, 0)) (by (with_reducible repeat (first | refine blk_drewN ?_ _ | refine blk_drew ?_ | refine blk_alloc ?_ _)); exact BK897.out)) : gb899 ≠ gb897)); have n11_ := Aside0.mk ((by rw [hg]; exact Nat.ne_of_lt (blk_lt (g := gb898) (o := .cells #[.slice none 0 0] 31 (0, 0)) (by (with_reducible repeat (first | refine blk_drewN ?_ _ | refine blk_drew ?_ | refine blk_alloc ?_ _)); exact BK898.out)) : gb898 ≠ gb899)); have n12_ := Aside0.mk ((by rw [hg]; exact Nat.ne_of_gt (blk_lt (g := gb898) (o := .cells #[.slice none 0 0] 31 (0, 0)) (by (with_reducible repeat (first | refine blk_drewN ?_ _ | refine blk_drew ?_ | refine blk_alloc ?_ _)); exact BK898.out)) : gb899 ≠ gb898)); clear BK896; clear BK897; clear BK898; clear HB; have BK896 := n0_; have BK897 := n1_; have BK898 := n2_; have HB := n3_; have BK899 := n4_; have GW899 := n5_; have GE899 := n6_; have NB896_899 := n7_; have NB899_896 := n8_; have NB897_899 := n9_; have NB899_897 := n10_; have NB898_899 := n11_; have NB899_898 := n12_; clear n0_ n1_ n2_ n3_ n4_ n5_ n6_ n7_ n8_ n9_ n10_ n11_ n12_; clear hb hbox hg; have hnb31 := NB897_896.out; have hnc31 := NB896_897.out; have hnb32 := NB897_898.out; have hnc32 := NB898_897.out; have hnb33 := NB897_899.out; have hnc33 := NB899_897.out; have hcz34_0 : w30.cell? ⟨gb897, 0, none⟩ = some (.int .i64 a1_0) := (blk_cell BK897.out 0).trans rfl; have hcz34_1 : w30.cell? ⟨gb897, 1, none⟩ = some (.int .i64 a1_1) := (blk_cell BK897.out 1).trans rfl; have hcz34_2 : w30.cell? ⟨gb897, 2, none⟩ = some (.int .i64 a1_2) := (blk_cell BK897.out 2).trans rfl; have hcz34_3 : w30.cell? ⟨gb897, 3, none⟩ = some (.int .i64 a1_3) := (blk_cell BK897.out 3).trans rfl; have hfz34_0 := blk_frozen BK897.out 0; have hfz34_1 := blk_frozen BK897.out 1; have hfz34_2 := blk_frozen BK897.out 2; have hfz34_3 := blk_frozen BK897.out 3) | ((with_reducible refine gate_callee (f := 123) rfl ?_); refine goesL_ (some 16) rfl rfl Try.func123 (by kernel_rfl) rfl #[.agg #[.int .i64 a1_0, .int .i64 a1_1, .int .i64 a1_2, .int .i64 a1_3]] rfl (by (try simp only [List.map_toArray, List.map_cons, List.map_nil]); first | done | rfl | (simp only [List.length_drop, List.length_take]; rfl)) ?_; (with_reducible refine (spec_l2Room.calls a1_0 a1_1 a1_2 a1_3 t900 _ A4.out).mono ?_); rintro e w35 ⟨rfl, hb⟩; refine ⟨_, rfl, ?_⟩; have n0_ := Aside0.mk (blk_below (g := gb896) (o := .cells #[.slice A0_0 l0_0.length c0_0] 31 (0, 0)) (by (with_reducible repeat (first | refine blk_drewN ?_ _ | refine blk_drew ?_ | refine blk_alloc ?_ _)); exact BK896.out) hb); have n1_ := Aside0.mk (blk_below (g := gb897) (o := .cells #[.int .i64 a1_0, .int .i64 a1_1, .int .i64 a1_2, .int .i64 a1_3] 32 (0, 0)) (by (with_reducible repeat (first | refine blk_drewN ?_ _ | refine blk_drew ?_ | refine blk_alloc ?_ _)); exact BK897.out) hb); have n2_ := Aside0.mk (blk_below (g := gb898) (o := .cells #[.slice none 0 0] 31 (0, 0)) (by (with_reducible repeat (first | refine blk_drewN ?_ _ | refine blk_drew ?_ | refine blk_alloc ?_ _)); exact BK898.out) hb); have n3_ := Aside0.mk (blk_below (g := gb899) (o := .cells #[.int .i64 0, .int .i64 0, .int .i64 0, .int .i64 0] 32 (0, 0)) (by (with_reducible repeat (first | refine blk_drewN ?_ _ | refine blk_drew ?_ | refine blk_alloc ?_ _)); exact BK899.out) hb); have n4_ := Aside0.mk (below_step (by repeat (first | (with_reducible first | exact HB.out | apply below_alloc | apply pw_below_drewN | apply below_drew1 | refine below_set ?_ GE896.out | refine below_set ?_ GE897.out | refine below_set ?_ GE898.out | refine below_set ?_ GE899.out) | exact HB.out)) hb); clear BK896; clear BK897; clear BK898; clear BK899; clear HB; have BK896 := n0_; have BK897 := n1_; have BK898 := n2_; have BK899 := n3_; have HB := n4_; clear n0_ n1_ n2_ n3_ n4_; (try clear hb); (try clear hb2); (try clear hk); (try clear hi)))
    (try simp only [Act.put, List.setIfInBounds_toArray, List.set_cons_zero, List.set_cons_succ])
    go_cut [44] (fun v44 wc => ∃ (kq : Nat) (x44_25 : Bool), v44 = .bool x44_25 ∧ Aside0 (spec_l2Append.j0 kq l2 x44_25 l0_0 a1_0 a1_1 a1_2 a1_3 = some (r1, r2, r3, r4, r5, r6)) ∧ Aside0 (kq ≤ k) ∧ Aside0 (wc.heap[gb896]? = some (.cells #[(.slice A0_0 l0_0.length c0_0)] 31 (0, 0))) ∧ Aside0 (wc.heap[gb897]? = some (.cells #[.int .i64 a1_0, .int .i64 a1_1, .int .i64 a1_2, .int .i64 a1_3] 32 (0, 0))) ∧ Aside0 (wc.heap[gb898]? = some (.cells #[(.slice none 0 0)] 31 (0, 0))) ∧ Aside0 (wc.heap[gb899]? = some (.cells #[.int .i64 0, .int .i64 0, .int .i64 0, .int .i64 0] 32 (0, 0))) ∧ Aside0 (Below w.heap.size w wc))
    case first =>
      have H := HC26.out
      clear HC26
      by_cases c36 : (l2.length : Int) > (wrap64 (64 - a1_2))
      · rw [if_pos c36] at H
        have c36b0 : decide ((wrap64 (64 - a1_2)) < (l2.length : Int)) = true := decide_eq_true c36
        clear c36
        (first | rw [c36b0] | (simp only [i64_w, i32_w]; rw [c36b0]) | skip)
        have H' := Aside0.mk H
        clear H
        have hnb37 := NB897_896.out
        have hnc37 := NB896_897.out
        have hnb38 := NB897_898.out
        have hnc38 := NB898_897.out
        have hnb39 := NB897_899.out
        have hnc39 := NB899_897.out
        have hcz40_0 : w35.cell? ⟨gb897, 0, none⟩ = some (.int .i64 a1_0) := (blk_cell BK897.out 0).trans rfl
        have hcz40_1 : w35.cell? ⟨gb897, 1, none⟩ = some (.int .i64 a1_1) := (blk_cell BK897.out 1).trans rfl
        have hcz40_2 : w35.cell? ⟨gb897, 2, none⟩ = some (.int .i64 a1_2) := (blk_cell BK897.out 2).trans rfl
        have hcz40_3 : w35.cell? ⟨gb897, 3, none⟩ = some (.int .i64 a1_3) := (blk_cell BK897.out 3).trans rfl
        have hfz40_0 := blk_frozen BK897.out 0
        have hfz40_1 := blk_frozen BK897.out 1
        have hfz40_2 := blk_frozen BK897.out 2
        have hfz40_3 := blk_frozen BK897.out 3
        go_wp2
        go_meet
        case rel => exact ⟨_, (true), (by first | rfl | (simp; done) | (simp [*]; done)), H', ⟨by first | omega | exact Nat.le_refl _⟩, ⟨by (with_reducible repeat (first | refine blk_drewN ?_ _ | refine blk_drew ?_ | refine blk_alloc ?_ _)); exact BK896.out⟩, ⟨by (with_reducible repeat (first | refine blk_drewN ?_ _ | refine blk_drew ?_ | refine blk_alloc ?_ _)); exact BK897.out⟩, ⟨by (with_reducible repeat (first | refine blk_drewN ?_ _ | refine blk_drew ?_ | refine blk_alloc ?_ _)); exact BK898.out⟩, ⟨by (with_reducible repeat (first | refine blk_drewN ?_ _ | refine blk_drew ?_ | refine blk_alloc ?_ _)); exact BK899.out⟩, ⟨by repeat (first | (with_reducible first | exact HB.out | apply below_alloc | apply pw_below_drewN | apply below_drew1 | refine below_set ?_ GE896.out | refine below_set ?_ GE897.out | refine below_set ?_ GE898.out | refine below_set ?_ GE899.out) | exact HB.out)⟩⟩
      · rw [if_neg c36] at H
        have c36b0 : decide ((wrap64 (64 - a1_2)) < (l2.length : Int)) = false := decide_eq_false c36
        clear c36
        (first | rw [c36b0] | (simp only [i64_w, i32_w]; rw [c36b0]) | skip)
        have H' := Aside0.mk H
        clear H
        have hnb41 := NB897_896.out
        have hnc41 := NB896_897.out
        have hnb42 := NB897_898.out
        have hnc42 := NB898_897.out
        have hnb43 := NB897_899.out
        have hnc43 := NB899_897.out
        have hcz44_0 : w35.cell? ⟨gb897, 0, none⟩ = some (.int .i64 a1_0) := (blk_cell BK897.out 0).trans rfl
        have hcz44_1 : w35.cell? ⟨gb897, 1, none⟩ = some (.int .i64 a1_1) := (blk_cell BK897.out 1).trans rfl
        have hcz44_2 : w35.cell? ⟨gb897, 2, none⟩ = some (.int .i64 a1_2) := (blk_cell BK897.out 2).trans rfl
        have hcz44_3 : w35.cell? ⟨gb897, 3, none⟩ = some (.int .i64 a1_3) := (blk_cell BK897.out 3).trans rfl
        have hfz44_0 := blk_frozen BK897.out 0
        have hfz44_1 := blk_frozen BK897.out 1
        have hfz44_2 := blk_frozen BK897.out 2
        have hfz44_3 := blk_frozen BK897.out 3
        have hnb45 := NB896_898.out
        have hnc45 := NB898_896.out
        have hnb46 := NB896_899.out
        have hnc46 := NB899_896.out
        have hcz47_0 : w35.cell? ⟨gb896, 0, none⟩ = some (.slice A0_0 l0_0.length c0_0) := (blk_cell BK896.out 0).trans rfl
        have hfz47_0 := blk_frozen BK896.out 0
        go_wp2
        go_meet
        case rel => exact ⟨_, (((l0_0.length : Int) == 16)), (by first | rfl | (simp; done) | (simp [*]; done)), H', ⟨by first | omega | exact Nat.le_refl _⟩, ⟨by (with_reducible repeat (first | refine blk_drewN ?_ _ | refine blk_drew ?_ | refine blk_alloc ?_ _)); exact BK896.out⟩, ⟨by (with_reducible repeat (first | refine blk_drewN ?_ _ | refine blk_drew ?_ | refine blk_alloc ?_ _)); exact BK897.out⟩, ⟨by (with_reducible repeat (first | refine blk_drewN ?_ _ | refine blk_drew ?_ | refine blk_alloc ?_ _)); exact BK898.out⟩, ⟨by (with_reducible repeat (first | refine blk_drewN ?_ _ | refine blk_drew ?_ | refine blk_alloc ?_ _)); exact BK899.out⟩, ⟨by repeat (first | (with_reducible first | exact HB.out | apply below_alloc | apply pw_below_drewN | apply below_drew1 | refine below_set ?_ GE896.out | refine below_set ?_ GE897.out | refine below_set ?_ GE898.out | refine below_set ?_ GE899.out) | exact HB.out)⟩⟩
    case rest =>
      clear HC26
      try clear c1
      try clear c2
      try clear p2
      try clear c3
      try clear c4
      try clear c5
      try clear c5b0
      try clear p6
      try clear c9
      try clear c10
      try clear c12
      try clear c13
      try clear c14
      try clear c31
      try clear c32
      try clear c33
      try clear c36
      try clear c36b0
      try clear c37
      try clear c38
      try clear c39
      try clear c41
      try clear c42
      try clear c43
      try clear c45
      try clear c46
      try clear hcz15_0
      try clear hcz15_1
      try clear hcz15_2
      try clear hcz15_3
      try clear hcz34_0
      try clear hcz34_1
      try clear hcz34_2
      try clear hcz34_3
      try clear hcz40_0
      try clear hcz40_1
      try clear hcz40_2
      try clear hcz40_3
      try clear hcz44_0
      try clear hcz44_1
      try clear hcz44_2
      try clear hcz44_3
      try clear hcz47_0
      try clear hfz15_0
      try clear hfz15_1
      try clear hfz15_2
      try clear hfz15_3
      try clear hfz34_0
      try clear hfz34_1
      try clear hfz34_2
      try clear hfz34_3
      try clear hfz40_0
      try clear hfz40_1
      try clear hfz40_2
      try clear hfz40_3
      try clear hfz44_0
      try clear hfz44_1
      try clear hfz44_2
      try clear hfz44_3
      try clear hfz47_0
      obtain ⟨kq, x44_25, rfl, HA, HJ25, BK896, BK897, BK898, BK899, HB⟩ := hcut
      cases kq with
      | zero => exact absurd HA.out (by simp [spec_l2Append.j0])
      | succ kj25 =>
        have H := HA.out
        clear HA
        simp only [spec_l2Append.j0] at H
        by_cases c48 : x44_25 = true
        · subst c48
          have H1 : (some (([] : List (List Int)), 0, 0, 0, 0, false)) = some (r1, r2, r3, r4, r5, r6) := by rw [if_pos rfl] at H; exact H
          clear H
          have H := H1
          clear H1
          simp only [Option.some.injEq, Prod.mk.injEq] at H
          obtain ⟨rfl, rfl, rfl, rfl, rfl, rfl⟩ := H
          have hnb49 := NB898_896.out
          have hnc49 := NB896_898.out
          have hnb50 := NB898_897.out
          have hnc50 := NB897_898.out
          have hnb51 := NB898_899.out
          have hnc51 := NB899_898.out
          have hcz52_0 : wc.cell? ⟨gb898, 0, none⟩ = some (.slice none 0 0) := (blk_cell BK898.out 0).trans rfl
          have hfz52_0 := blk_frozen BK898.out 0
          have hnb53 := NB899_896.out
          have hnc53 := NB896_899.out
          have hnb54 := NB899_897.out
          have hnc54 := NB897_899.out
          have hcz55_0 : wc.cell? ⟨gb899, 0, none⟩ = some (.int .i64 0) := (blk_cell BK899.out 0).trans rfl
          have hcz55_1 : wc.cell? ⟨gb899, 1, none⟩ = some (.int .i64 0) := (blk_cell BK899.out 1).trans rfl
          have hcz55_2 : wc.cell? ⟨gb899, 2, none⟩ = some (.int .i64 0) := (blk_cell BK899.out 2).trans rfl
          have hcz55_3 : wc.cell? ⟨gb899, 3, none⟩ = some (.int .i64 0) := (blk_cell BK899.out 3).trans rfl
          have hfz55_0 := blk_frozen BK899.out 0
          have hfz55_1 := blk_frozen BK899.out 1
          have hfz55_2 := blk_frozen BK899.out 2
          have hfz55_3 := blk_frozen BK899.out 3
          go_wp2
          refine bodyPost_ret (results_list (rs := [.cell 6 31, .cell 7 32, .tmp 8]) rfl (by simp) (.cell gb898 31 #[.slice none 0 0] (0, 0) _ rfl (by (with_reducible repeat (first | refine blk_drewN ?_ _ | refine blk_drew ?_ | refine blk_alloc ?_ _)); refine blk_far ?_ NB898_899.out _; (with_reducible repeat (first | refine blk_drewN ?_ _ | refine blk_drew ?_ | refine blk_alloc ?_ _)); refine blk_far ?_ NB898_899.out _; (with_reducible repeat (first | refine blk_drewN ?_ _ | refine blk_drew ?_ | refine blk_alloc ?_ _)); refine blk_far ?_ NB898_899.out _; (with_reducible repeat (first | refine blk_drewN ?_ _ | refine blk_drew ?_ | refine blk_alloc ?_ _)); refine blk_far ?_ NB898_899.out _; (with_reducible repeat (first | refine blk_drewN ?_ _ | refine blk_drew ?_ | refine blk_alloc ?_ _)); refine blk_put (cs := #[.slice none 0 0]) ?_ 0 _ rfl; (with_reducible repeat (first | refine blk_drewN ?_ _ | refine blk_drew ?_ | refine blk_alloc ?_ _)); exact BK898.out) Try.underlying31 rfl (by kernel_rfl) (.cell gb899 32 #[.int .i64 0, .int .i64 0, .int .i64 0, .int .i64 0] (0, 0) _ rfl (by (with_reducible repeat (first | refine blk_drewN ?_ _ | refine blk_drew ?_ | refine blk_alloc ?_ _)); refine blk_put (cs := #[.int .i64 0, .int .i64 0, .int .i64 0, .int .i64 0]) ?_ 3 _ rfl; (with_reducible repeat (first | refine blk_drewN ?_ _ | refine blk_drew ?_ | refine blk_alloc ?_ _)); refine blk_put (cs := #[.int .i64 0, .int .i64 0, .int .i64 0, .int .i64 0]) ?_ 2 _ rfl; (with_reducible repeat (first | refine blk_drewN ?_ _ | refine blk_drew ?_ | refine blk_alloc ?_ _)); refine blk_put (cs := #[.int .i64 0, .int .i64 0, .int .i64 0, .int .i64 0]) ?_ 1 _ rfl; (with_reducible repeat (first | refine blk_drewN ?_ _ | refine blk_drew ?_ | refine blk_alloc ?_ _)); refine blk_put (cs := #[.int .i64 0, .int .i64 0, .int .i64 0, .int .i64 0]) ?_ 0 _ rfl; (with_reducible repeat (first | refine blk_drewN ?_ _ | refine blk_drew ?_ | refine blk_alloc ?_ _)); refine blk_far ?_ NB899_898.out _; (with_reducible repeat (first | refine blk_drewN ?_ _ | refine blk_drew ?_ | refine blk_alloc ?_ _)); exact BK899.out) Try.underlying32 rfl (by kernel_rfl) (.tmp .nil)))) rfl ?_
          exact ⟨_, by first | rfl | (simp [errW_none, errW_some] <;> rfl) | (simp [*, errW_none, errW_some] <;> rfl), by first | exact Kd.S_nil _ _ _ _ _ | exact Kd.N_nil _ _ _ _ _ | exact Kd.V_nil _ _ _ _ _ | exact Kd.Q_nil _ _ _ _ _ | exact Kd.R_nil _ _ _ _ _, by repeat (first | (with_reducible first | exact HB.out | apply below_alloc | apply pw_below_drewN | apply below_drew1 | refine below_set ?_ GE896.out | refine below_set ?_ GE897.out | refine below_set ?_ GE898.out | refine below_set ?_ GE899.out) | exact HB.out)⟩
        · replace c48 := Bool.eq_false_iff.mpr c48
          subst c48
          have H1 : ((spec_l2Bytes.f kj25 l0_0 a1_0 a1_1 a1_2 a1_3).bind fun t908 => (if t908.length + l2.length < 140737488355328 then (spec_l2Append.l0 kj25 (wrap64 (a1_2 + (l2.length : Int))) (t908 ++ l2) l0_0 a1_0 a1_1 a1_2 a1_3) else (none))) = some (r1, r2, r3, r4, r5, r6) := by rw [if_neg (show ¬ (false = true) by decide)] at H; exact H
          clear H
          have H := H1
          clear H1
          replace H := Option.bind_eq_some_iff.mp H
          obtain ⟨t908, A560, H⟩ := H
          replace H : (if t908.length + l2.length < 140737488355328 then (spec_l2Append.l0 kj25 (wrap64 (a1_2 + (l2.length : Int))) (t908 ++ l2) l0_0 a1_0 a1_1 a1_2 a1_3) else (none)) = some (r1, r2, r3, r4, r5, r6) := H
          have A56 := Aside0.mk A560
          clear A560
          by_cases c57 : t908.length + l2.length < 140737488355328
          · rw [if_pos c57] at H
            have LMc57 := Aside0.mk c57
            clear c57
            obtain ⟨y911, hy911⟩ : ∃ y_ : List Int, y_ = (t908 ++ l2) := ⟨_, rfl⟩
            replace H : (spec_l2Append.l0 kj25 (wrap64 (a1_2 + (l2.length : Int))) y911 l0_0 a1_0 a1_1 a1_2 a1_3) = some (r1, r2, r3, r4, r5, r6) := by first | (rw [hy911]; with_reducible exact H) | (have H2_ := (Option.bind_some _ _).symm.trans H; rw [hy911]; with_reducible exact H2_) | (have H2_ := (Option.bind_some _ _).symm.trans H; with_reducible exact H2_) | with_reducible exact H | (rw [hy911]; exact H) | exact H
            have Ny911 := Aside0.mk hy911
            clear hy911
            have H' := Aside0.mk H
            clear H
            have hnb58 := NB897_896.out
            have hnc58 := NB896_897.out
            have hnb59 := NB897_898.out
            have hnc59 := NB898_897.out
            have hnb60 := NB897_899.out
            have hnc60 := NB899_897.out
            have hcz61_0 : wc.cell? ⟨gb897, 0, none⟩ = some (.int .i64 a1_0) := (blk_cell BK897.out 0).trans rfl
            have hcz61_1 : wc.cell? ⟨gb897, 1, none⟩ = some (.int .i64 a1_1) := (blk_cell BK897.out 1).trans rfl
            have hcz61_2 : wc.cell? ⟨gb897, 2, none⟩ = some (.int .i64 a1_2) := (blk_cell BK897.out 2).trans rfl
            have hcz61_3 : wc.cell? ⟨gb897, 3, none⟩ = some (.int .i64 a1_3) := (blk_cell BK897.out 3).trans rfl
            have hfz61_0 := blk_frozen BK897.out 0
            have hfz61_1 := blk_frozen BK897.out 1
            have hfz61_2 := blk_frozen BK897.out 2
            have hfz61_3 := blk_frozen BK897.out 3
            have hnb62 := NB896_898.out
            have hnc62 := NB898_896.out
            have hnb63 := NB896_899.out
            have hnc63 := NB899_896.out
            have hcz64_0 : wc.cell? ⟨gb896, 0, none⟩ = some (.slice A0_0 l0_0.length c0_0) := (blk_cell BK896.out 0).trans rfl
            have hfz64_0 := blk_frozen BK896.out 0
            go_wp2_with (first | ((with_reducible refine gate_callee (f := 98) rfl ?_); refine goesL_ (some 54) rfl rfl Try.func98 (by kernel_rfl) rfl #[.agg #[.slice A0_0 l0_0.length c0_0], .agg #[.int .i64 a1_0, .int .i64 a1_1, .int .i64 a1_2, .int .i64 a1_3]] rfl (by (try simp only [List.map_toArray, List.map_cons, List.map_nil]); first | done | rfl | (simp only [List.length_drop, List.length_take]; rfl)) ?_; (with_reducible refine (spec_l2Bytes.calls kj25 _ _ l0_0 a1_0 a1_1 a1_2 a1_3 t908 _ ?side1 ?side2 A56.out).mono ?_); (case side1 => repeat (first | exact (Kd.C_below HR0_0.out HB.out) | (with_reducible refine Kd.C_alloc ?_ _) | (with_reducible refine Kd.C_drewN ?_ _) | (with_reducible refine Kd.C_drew ?_))); (case side2 => exact HC0_0.out); rintro e w65 ⟨v909, rfl, ho0, hb⟩; refine ⟨_, rfl, ?_⟩; have n0_ := Aside0.mk (Kd.R_lower ho0 (below_size (by repeat (first | (with_reducible first | exact HB.out | apply below_alloc | apply pw_below_drewN | apply below_drew1 | refine below_set ?_ GE896.out | refine below_set ?_ GE897.out | refine below_set ?_ GE898.out | refine below_set ?_ GE899.out) | exact HB.out)))); have n1_ := Aside0.mk (blk_below (g := gb896) (o := .cells #[.slice A0_0 l0_0.length c0_0] 31 (0, 0)) (by (with_reducible repeat (first | refine blk_drewN ?_ _ | refine blk_drew ?_ | refine blk_alloc ?_ _)); exact BK896.out) hb); have n2_ := Aside0.mk (blk_below (g := gb897) (o := .cells #[.int .i64 a1_0, .int .i64 a1_1, .int .i64 a1_2, .int .i64 a1_3] 32 (0, 0)) (by (with_reducible repeat (first | refine blk_drewN ?_ _ | refine blk_drew ?_ | refine blk_alloc ?_ _)); exact BK897.out) hb); have n3_ := Aside0.mk (blk_below (g := gb898) (o := .cells #[.slice none 0 0] 31 (0, 0)) (by (with_reducible repeat (first | refine blk_drewN ?_ _ | refine blk_drew ?_ | refine blk_alloc ?_ _)); exact BK898.out) hb); have n4_ := Aside0.mk (blk_below (g := gb899) (o := .cells #[.int .i64 0, .int .i64 0, .int .i64 0, .int .i64 0] 32 (0, 0)) (by (with_reducible repeat (first | refine blk_drewN ?_ _ | refine blk_drew ?_ | refine blk_alloc ?_ _)); exact BK899.out) hb); have n5_ := Aside0.mk (below_step (by repeat (first | (with_reducible first | exact HB.out | apply below_alloc | apply pw_below_drewN | apply below_drew1 | refine below_set ?_ GE896.out | refine below_set ?_ GE897.out | refine below_set ?_ GE898.out | refine below_set ?_ GE899.out) | exact HB.out)) hb); clear BK896; clear BK897; clear BK898; clear BK899; clear HB; have HO910 := n0_; have BK896 := n1_; have BK897 := n2_; have BK898 := n3_; have BK899 := n4_; have HB := n5_; clear n0_ n1_ n2_ n3_ n4_ n5_; (try clear hb); (try clear hb2); (try clear hk); (try clear hi); (try clear ho0)) | ((with_reducible refine gate_builtin (b := .append) (xs := #[.tmp 54, .tmp 55]) rfl ?_); (try (refine gate_guard (by rfl) ?_; dsimp only)); at_builtin; refine Kd.R_append_rows (Kd.int .u8) (w0 := w) w.heap.size rfl (.tmp 54) (.tmp 55) 29 5 (.int .u8 0) 1 rfl Try.underlying29 info5 rfl (by decide) (by omega) v909 t908 l2 _ _ _ (fun _ => True) (fun _ => False) rfl rfl ?aO ?aR (fun _ _ h => h) (fun _ h => h.elim) ?aF ?aB ?aS ?aL ?_; (case aR => repeat (first | exact (Kd.C_below HR2.out HB.out) | (with_reducible refine Kd.C_alloc ?_ _) | (with_reducible refine Kd.C_drewN ?_ _) | (with_reducible refine Kd.C_drew ?_))); (case aB => exact (by repeat (first | (with_reducible first | exact HB.out | apply below_alloc | apply pw_below_drewN | apply below_drew1 | refine below_set ?_ GE896.out | refine below_set ?_ GE897.out | refine below_set ?_ GE898.out | refine below_set ?_ GE899.out) | exact HB.out))); (case aF => exact (fun _ _ => trivial)); (case aO => exact (by (with_reducible repeat (first | apply Kd.R_alloc | apply Kd.R_drewN | apply Kd.R_drew)); exact HO910.out)); (case aS => exact (below_size (by repeat (first | (with_reducible first | exact HB.out | apply below_alloc | apply pw_below_drewN | apply below_drew1 | refine below_set ?_ GE896.out | refine below_set ?_ GE897.out | refine below_set ?_ GE898.out | refine below_set ?_ GE899.out) | exact HB.out)))); (case aL => have := LMc57.out; omega); intro v912 w66 ho hb hg hat; rw [← Ny911.out] at ho; have n0_ := Aside0.mk (blk_grown (g := gb896) (o := .cells #[.slice A0_0 l0_0.length c0_0] 31 (0, 0)) (by (with_reducible repeat (first | refine blk_drewN ?_ _ | refine blk_drew ?_ | refine blk_alloc ?_ _)); exact BK896.out) hg (Kd.R_ne HO910.out BK896.out (by decide))); have n1_ := Aside0.mk (blk_grown (g := gb897) (o := .cells #[.int .i64 a1_0, .int .i64 a1_1, .int .i64 a1_2, .int .i64 a1_3] 32 (0, 0)) (by (with_reducible repeat (first | refine blk_drewN ?_ _ | refine blk_drew ?_ | refine blk_alloc ?_ _)); exact BK897.out) hg (Kd.R_ne HO910.out BK897.out (by decide))); have n2_ := Aside0.mk (blk_grown (g := gb898) (o := .cells #[.slice none 0 0] 31 (0, 0)) (by (with_reducible repeat (first | refine blk_drewN ?_ _ | refine blk_drew ?_ | refine blk_alloc ?_ _)); exact BK898.out) hg (Kd.R_ne HO910.out BK898.out (by decide))); have n3_ := Aside0.mk (blk_grown (g := gb899) (o := .cells #[.int .i64 0, .int .i64 0, .int .i64 0, .int .i64 0] 32 (0, 0)) (by (with_reducible repeat (first | refine blk_drewN ?_ _ | refine blk_drew ?_ | refine blk_alloc ?_ _)); exact BK899.out) hg (Kd.R_ne HO910.out BK899.out (by decide))); have n4_ := Aside0.mk (hb); have n5_ := Aside0.mk (ho); clear BK896; clear BK897; clear BK898; clear BK899; clear HB; clear HO910; have BK896 := n0_; have BK897 := n1_; have BK898 := n2_; have BK899 := n3_; have HB := n4_; have HO913 := n5_; clear n0_ n1_ n2_ n3_ n4_ n5_; clear ho hb hg hat))
            go_loopg [10] kj25 (fun kq v10 w' => ∃ (x10_2 : List Int), Aside0 (spec_l2Append.l0 kq (wrap64 (a1_2 + (l2.length : Int))) x10_2 l0_0 a1_0 a1_1 a1_2 a1_3 = some (r1, r2, r3, r4, r5, r6)) ∧ Aside0 (kq ≤ kj25) ∧ Aside0 (Kd.R (Kd.int .u8) 5 w' w.heap.size (fun _ => True) v10 x10_2) ∧ Aside0 (w'.heap[gb896]? = some (.cells #[(.slice A0_0 l0_0.length c0_0)] 31 (0, 0))) ∧ Aside0 (w'.heap[gb897]? = some (.cells #[.int .i64 a1_0, .int .i64 a1_1, .int .i64 a1_2, .int .i64 a1_3] 32 (0, 0))) ∧ Aside0 (w'.heap[gb898]? = some (.cells #[(.slice none 0 0)] 31 (0, 0))) ∧ Aside0 (w'.heap[gb899]? = some (.cells #[.int .i64 0, .int .i64 0, .int .i64 0, .int .i64 0] 32 (0, 0))) ∧ Aside0 (Below w.heap.size w w'))
            case atStart => exact ⟨(y911), H', ⟨Nat.le_refl _⟩, ⟨by (with_reducible repeat (first | apply Kd.R_alloc | apply Kd.R_drewN | apply Kd.R_drew)); exact HO913.out⟩, ⟨by (with_reducible repeat (first | refine blk_drewN ?_ _ | refine blk_drew ?_ | refine blk_alloc ?_ _)); exact BK896.out⟩, ⟨by (with_reducible repeat (first | refine blk_drewN ?_ _ | refine blk_drew ?_ | refine blk_alloc ?_ _)); exact BK897.out⟩, ⟨by (with_reducible repeat (first | refine blk_drewN ?_ _ | refine blk_drew ?_ | refine blk_alloc ?_ _)); exact BK898.out⟩, ⟨by (with_reducible repeat (first | refine blk_drewN ?_ _ | refine blk_drew ?_ | refine blk_alloc ?_ _)); exact BK899.out⟩, ⟨by repeat (first | (with_reducible first | exact HB.out | apply below_alloc | apply pw_below_drewN | apply below_drew1 | refine below_set ?_ GE896.out | refine below_set ?_ GE897.out | refine below_set ?_ GE898.out | refine below_set ?_ GE899.out) | exact HB.out)⟩⟩
            case round =>
              clear H'
              try clear c1
              try clear c2
              try clear p2
              try clear c3
              try clear c4
              try clear c5
              try clear c5b0
              try clear c6
              try clear p6
              try clear c9
              try clear c10
              try clear c12
              try clear c13
              try clear c14
              try clear c31
              try clear c32
              try clear c33
              try clear c36
              try clear c36b0
              try clear c37
              try clear c38
              try clear c39
              try clear c41
              try clear c42
              try clear c43
              try clear c45
              try clear c46
              try clear c48
              try clear c49
              try clear c50
              try clear c51
              try clear c53
              try clear c54
              try clear c57
              try clear c58
              try clear c59
              try clear c60
              try clear c62
              try clear c63
              try clear p64
              try clear hcz15_0
              try clear hcz15_1
              try clear hcz15_2
              try clear hcz15_3
              try clear hcz34_0
              try clear hcz34_1
              try clear hcz34_2
              try clear hcz34_3
              try clear hcz40_0
              try clear hcz40_1
              try clear hcz40_2
              try clear hcz40_3
              try clear hcz44_0
              try clear hcz44_1
              try clear hcz44_2
              try clear hcz44_3
              try clear hcz47_0
              try clear hcz52_0
              try clear hcz55_0
              try clear hcz55_1
              try clear hcz55_2
              try clear hcz55_3
              try clear hcz61_0
              try clear hcz61_1
              try clear hcz61_2
              try clear hcz61_3
              try clear hcz64_0
              try clear hfz15_0
              try clear hfz15_1
              try clear hfz15_2
              try clear hfz15_3
              try clear hfz34_0
              try clear hfz34_1
              try clear hfz34_2
              try clear hfz34_3
              try clear hfz40_0
              try clear hfz40_1
              try clear hfz40_2
              try clear hfz40_3
              try clear hfz44_0
              try clear hfz44_1
              try clear hfz44_2
              try clear hfz44_3
              try clear hfz47_0
              try clear hfz52_0
              try clear hfz55_0
              try clear hfz55_1
              try clear hfz55_2
              try clear hfz55_3
              try clear hfz61_0
              try clear hfz61_1
              try clear hfz61_2
              try clear hfz61_3
              try clear hfz64_0
              try clear p2
              try clear p6
              obtain ⟨x10_2, HA, HK2, HO_10, BK896, BK897, BK898, BK899, HB⟩ := hrel
              cases gk with
              | zero => exact absurd HA.out (by simp [spec_l2Append.l0])
              | succ k2 =>
                have H := HA.out
                clear HA
                simp only [spec_l2Append.l0] at H
                replace H := Option.bind_eq_some_iff.mp H
                obtain ⟨t914, A670, H⟩ := H
                replace H : ((spec_l1Least.f t914 64).bind fun t915 => (if (x10_2.length : Int) < t915 then (if x10_2.length < 140737488355328 then (spec_l2Append.l0 k2 (wrap64 (a1_2 + (l2.length : Int))) (x10_2 ++ [0]) l0_0 a1_0 a1_1 a1_2 a1_3) else (none)) else ((spec_l2New.f k2 l0_0 x10_2 (wrap64 (a1_2 + (l2.length : Int)))).bind fun bt919 => (some (bt919.1, bt919.2.1, bt919.2.2.1, bt919.2.2.2.1, bt919.2.2.2.2, true))))) = some (r1, r2, r3, r4, r5, r6) := H
                have A67 := Aside0.mk A670
                clear A670
                replace H := Option.bind_eq_some_iff.mp H
                obtain ⟨t915, A680, H⟩ := H
                replace H : (if (x10_2.length : Int) < t915 then (if x10_2.length < 140737488355328 then (spec_l2Append.l0 k2 (wrap64 (a1_2 + (l2.length : Int))) (x10_2 ++ [0]) l0_0 a1_0 a1_1 a1_2 a1_3) else (none)) else ((spec_l2New.f k2 l0_0 x10_2 (wrap64 (a1_2 + (l2.length : Int)))).bind fun bt919 => (some (bt919.1, bt919.2.1, bt919.2.2.1, bt919.2.2.2.1, bt919.2.2.2.2, true)))) = some (r1, r2, r3, r4, r5, r6) := H
                have A68 := Aside0.mk A680
                clear A680
                by_cases c69 : (x10_2.length : Int) < t915
                · rw [if_pos c69] at H
                  have c69b0 : decide ((x10_2.length : Int) < t915) = true := decide_eq_true c69
                  clear c69
                  by_cases c70 : x10_2.length < 140737488355328
                  · rw [if_pos c70] at H
                    have LMc70 := Aside0.mk c70
                    clear c70
                    obtain ⟨y916, hy916⟩ : ∃ y_ : List Int, y_ = (x10_2 ++ [0]) := ⟨_, rfl⟩
                    replace H : (spec_l2Append.l0 k2 (wrap64 (a1_2 + (l2.length : Int))) y916 l0_0 a1_0 a1_1 a1_2 a1_3) = some (r1, r2, r3, r4, r5, r6) := by first | (rw [hy916]; with_reducible exact H) | (have H2_ := (Option.bind_some _ _).symm.trans H; rw [hy916]; with_reducible exact H2_) | (have H2_ := (Option.bind_some _ _).symm.trans H; with_reducible exact H2_) | with_reducible exact H | (rw [hy916]; exact H) | exact H
                    have Ny916 := Aside0.mk hy916
                    clear hy916
                    have H' := Aside0.mk H
                    clear H
                    obtain ⟨Ao71, co71, eo71⟩ := Kd.R_slice HO_10.out
                    subst eo71
                    have hnb72 := NB897_896.out
                    have hnc72 := NB896_897.out
                    have hnb73 := NB897_898.out
                    have hnc73 := NB898_897.out
                    have hnb74 := NB897_899.out
                    have hnc74 := NB899_897.out
                    have hcz75_0 : wr.cell? ⟨gb897, 0, none⟩ = some (.int .i64 a1_0) := (blk_cell BK897.out 0).trans rfl
                    have hcz75_1 : wr.cell? ⟨gb897, 1, none⟩ = some (.int .i64 a1_1) := (blk_cell BK897.out 1).trans rfl
                    have hcz75_2 : wr.cell? ⟨gb897, 2, none⟩ = some (.int .i64 a1_2) := (blk_cell BK897.out 2).trans rfl
                    have hcz75_3 : wr.cell? ⟨gb897, 3, none⟩ = some (.int .i64 a1_3) := (blk_cell BK897.out 3).trans rfl
                    have hfz75_0 := blk_frozen BK897.out 0
                    have hfz75_1 := blk_frozen BK897.out 1
                    have hfz75_2 := blk_frozen BK897.out 2
                    have hfz75_3 := blk_frozen BK897.out 3
                    go_wp2_with (first | ((with_reducible refine gate_callee (f := 83) rfl ?_); refine goesL_ (some 63) rfl rfl Try.func83 (by kernel_rfl) rfl #[.int .i64 (wrap64 (2 * a1_3)), .int .i64 (wrap64 (a1_2 + (l2.length : Int)))] rfl (by (try simp only [List.map_toArray, List.map_cons, List.map_nil]); first | done | rfl | (simp only [List.length_drop, List.length_take]; rfl)) ?_; (with_reducible refine (spec_l1Most.calls (wrap64 (2 * a1_3)) (wrap64 (a1_2 + (l2.length : Int))) t914 _ A67.out).mono ?_); rintro e w' ⟨rfl, ⟨nd, rfl⟩⟩; refine ⟨_, rfl, ?_⟩) | ((with_reducible refine gate_callee (f := 118) rfl ?_); refine goesL_ (some 64) rfl rfl Try.func118 (by kernel_rfl) rfl #[.int .i64 t914, .int .i64 64] rfl (by (try simp only [List.map_toArray, List.map_cons, List.map_nil]); first | done | rfl | (simp only [List.length_drop, List.length_take]; rfl)) ?_; (with_reducible refine (spec_l1Least.calls t914 64 t915 _ A68.out).mono ?_); rintro e w' ⟨rfl, ⟨nd, rfl⟩⟩; refine ⟨_, rfl, ?_⟩) | ((with_reducible refine gate_builtin (b := .append) (xs := #[.tmp 66, .tmp 67]) rfl ?_); (try (refine gate_guard (by rfl) ?_; dsimp only)); at_builtin; refine Kd.R_append (Kd.int .u8) (w0 := w) w.heap.size rfl (.tmp 66) (.tmp 67) 29 5 (.int .u8 0) 1 rfl Try.underlying29 info5 rfl (by decide) (by omega) (.slice Ao71 x10_2.length co71) x10_2 0 [.int .u8 0] (fun _ => True) (fun _ => False) rfl rfl ?aP (fun _ hk => hk.elim) ?aF ?aO ?aB ?aS ?aL ?_; (case aP => exact rfl); (case aB => exact (by repeat (first | (with_reducible first | exact HB.out | apply below_alloc | apply pw_below_drewN | apply below_drew1 | refine below_set ?_ GE896.out | refine below_set ?_ GE897.out | refine below_set ?_ GE898.out | refine below_set ?_ GE899.out) | exact HB.out))); (case aF => exact (fun _ _ => trivial)); (case aO => exact (by (with_reducible repeat (first | apply Kd.R_alloc | apply Kd.R_drewN | apply Kd.R_drew)); exact HO_10.out)); (case aS => exact (below_size (by repeat (first | (with_reducible first | exact HB.out | apply below_alloc | apply pw_below_drewN | apply below_drew1 | refine below_set ?_ GE896.out | refine below_set ?_ GE897.out | refine below_set ?_ GE898.out | refine below_set ?_ GE899.out) | exact HB.out)))); (case aL => have := LMc70.out; omega); intro v917 w76 ho hb hg hat; rw [← Ny916.out] at ho; have n0_ := Aside0.mk (blk_grown (g := gb896) (o := .cells #[.slice A0_0 l0_0.length c0_0] 31 (0, 0)) (by (with_reducible repeat (first | refine blk_drewN ?_ _ | refine blk_drew ?_ | refine blk_alloc ?_ _)); exact BK896.out) hg (Kd.R_ne HO_10.out BK896.out (by decide))); have n1_ := Aside0.mk (blk_grown (g := gb897) (o := .cells #[.int .i64 a1_0, .int .i64 a1_1, .int .i64 a1_2, .int .i64 a1_3] 32 (0, 0)) (by (with_reducible repeat (first | refine blk_drewN ?_ _ | refine blk_drew ?_ | refine blk_alloc ?_ _)); exact BK897.out) hg (Kd.R_ne HO_10.out BK897.out (by decide))); have n2_ := Aside0.mk (blk_grown (g := gb898) (o := .cells #[.slice none 0 0] 31 (0, 0)) (by (with_reducible repeat (first | refine blk_drewN ?_ _ | refine blk_drew ?_ | refine blk_alloc ?_ _)); exact BK898.out) hg (Kd.R_ne HO_10.out BK898.out (by decide))); have n3_ := Aside0.mk (blk_grown (g := gb899) (o := .cells #[.int .i64 0, .int .i64 0, .int .i64 0, .int .i64 0] 32 (0, 0)) (by (with_reducible repeat (first | refine blk_drewN ?_ _ | refine blk_drew ?_ | refine blk_alloc ?_ _)); exact BK899.out) hg (Kd.R_ne HO_10.out BK899.out (by decide))); have n4_ := Aside0.mk (hb); have n5_ := Aside0.mk (ho); clear BK896; clear BK897; clear BK898; clear BK899; clear HB; clear HO_10; have BK896 := n0_; have BK897 := n1_; have BK898 := n2_; have BK899 := n3_; have HB := n4_; have HO918 := n5_; clear n0_ n1_ n2_ n3_ n4_ n5_; clear ho hb hg hat))
                    go_roundg k2
                    case measure => have := HJ25.out; have := HK2.out; omega
                    case rel => exact ⟨(y916), H', ⟨by have := HJ25.out; have := HK2.out; omega⟩, ⟨by (with_reducible repeat (first | apply Kd.R_alloc | apply Kd.R_drewN | apply Kd.R_drew)); exact HO918.out⟩, ⟨by (with_reducible repeat (first | refine blk_drewN ?_ _ | refine blk_drew ?_ | refine blk_alloc ?_ _)); exact BK896.out⟩, ⟨by (with_reducible repeat (first | refine blk_drewN ?_ _ | refine blk_drew ?_ | refine blk_alloc ?_ _)); exact BK897.out⟩, ⟨by (with_reducible repeat (first | refine blk_drewN ?_ _ | refine blk_drew ?_ | refine blk_alloc ?_ _)); exact BK898.out⟩, ⟨by (with_reducible repeat (first | refine blk_drewN ?_ _ | refine blk_drew ?_ | refine blk_alloc ?_ _)); exact BK899.out⟩, ⟨by repeat (first | (with_reducible first | exact HB.out | apply below_alloc | apply pw_below_drewN | apply below_drew1 | refine below_set ?_ GE896.out | refine below_set ?_ GE897.out | refine below_set ?_ GE898.out | refine below_set ?_ GE899.out) | exact HB.out)⟩⟩
                  · rw [if_neg c70] at H
                    exact absurd H (by simp)
                · rw [if_neg c69] at H
                  have c69b0 : decide ((x10_2.length : Int) < t915) = false := decide_eq_false c69
                  clear c69
                  replace H := Option.bind_eq_some_iff.mp H
                  obtain ⟨⟨t919, t922, t923, t924, t925⟩, A770, H⟩ := H
                  replace H : (some (t919, t922, t923, t924, t925, true)) = some (r1, r2, r3, r4, r5, r6) := H
                  have A77 := Aside0.mk A770
                  clear A770
                  simp only [Option.some.injEq, Prod.mk.injEq] at H
                  obtain ⟨rfl, rfl, rfl, rfl, rfl, rfl⟩ := H
                  obtain ⟨Ao78, co78, eo78⟩ := Kd.R_slice HO_10.out
                  subst eo78
                  have hnb79 := NB897_896.out
                  have hnc79 := NB896_897.out
                  have hnb80 := NB897_898.out
                  have hnc80 := NB898_897.out
                  have hnb81 := NB897_899.out
                  have hnc81 := NB899_897.out
                  have hcz82_0 : wr.cell? ⟨gb897, 0, none⟩ = some (.int .i64 a1_0) := (blk_cell BK897.out 0).trans rfl
                  have hcz82_1 : wr.cell? ⟨gb897, 1, none⟩ = some (.int .i64 a1_1) := (blk_cell BK897.out 1).trans rfl
                  have hcz82_2 : wr.cell? ⟨gb897, 2, none⟩ = some (.int .i64 a1_2) := (blk_cell BK897.out 2).trans rfl
                  have hcz82_3 : wr.cell? ⟨gb897, 3, none⟩ = some (.int .i64 a1_3) := (blk_cell BK897.out 3).trans rfl
                  have hfz82_0 := blk_frozen BK897.out 0
                  have hfz82_1 := blk_frozen BK897.out 1
                  have hfz82_2 := blk_frozen BK897.out 2
                  have hfz82_3 := blk_frozen BK897.out 3
                  try go_wp2_with (first | ((with_reducible refine gate_callee (f := 83) rfl ?_); refine goesL_ (some 63) rfl rfl Try.func83 (by kernel_rfl) rfl #[.int .i64 (wrap64 (2 * a1_3)), .int .i64 (wrap64 (a1_2 + (l2.length : Int)))] rfl (by (try simp only [List.map_toArray, List.map_cons, List.map_nil]); first | done | rfl | (simp only [List.length_drop, List.length_take]; rfl)) ?_; (with_reducible refine (spec_l1Most.calls (wrap64 (2 * a1_3)) (wrap64 (a1_2 + (l2.length : Int))) t914 _ A67.out).mono ?_); rintro e w' ⟨rfl, ⟨nd, rfl⟩⟩; refine ⟨_, rfl, ?_⟩; (try (rw [drewN_self wr]; generalize hq_ : World.drewN wr _ = wr; have n0_ : Aside0 (Kd.R (Kd.int .u8) 5 wr w.heap.size (fun _ => True) (.slice Ao78 x10_2.length co78) x10_2) := ⟨by rw [← hq_]; exact (by (with_reducible repeat (first | apply Kd.R_alloc | apply Kd.R_drewN | apply Kd.R_drew)); exact HO_10.out)⟩; have n1_ : Aside0 (wr.heap[gb896]? = some (.cells #[.slice A0_0 l0_0.length c0_0] 31 (0, 0))) := ⟨by rw [← hq_]; exact (by (with_reducible repeat (first | refine blk_drewN ?_ _ | refine blk_drew ?_ | refine blk_alloc ?_ _)); exact BK896.out)⟩; have n2_ : Aside0 (wr.heap[gb897]? = some (.cells #[.int .i64 a1_0, .int .i64 a1_1, .int .i64 a1_2, .int .i64 a1_3] 32 (0, 0))) := ⟨by rw [← hq_]; exact (by (with_reducible repeat (first | refine blk_drewN ?_ _ | refine blk_drew ?_ | refine blk_alloc ?_ _)); exact BK897.out)⟩; have n3_ : Aside0 (wr.heap[gb898]? = some (.cells #[.slice none 0 0] 31 (0, 0))) := ⟨by rw [← hq_]; exact (by (with_reducible repeat (first | refine blk_drewN ?_ _ | refine blk_drew ?_ | refine blk_alloc ?_ _)); exact BK898.out)⟩; have n4_ : Aside0 (wr.heap[gb899]? = some (.cells #[.int .i64 0, .int .i64 0, .int .i64 0, .int .i64 0] 32 (0, 0))) := ⟨by rw [← hq_]; exact (by (with_reducible repeat (first | refine blk_drewN ?_ _ | refine blk_drew ?_ | refine blk_alloc ?_ _)); exact BK899.out)⟩; have n5_ : Aside0 (Below w.heap.size w wr) := ⟨by rw [← hq_]; exact (by repeat (first | (with_reducible first | exact HB.out | apply below_alloc | apply pw_below_drewN | apply below_drew1 | refine below_set ?_ GE896.out | refine below_set ?_ GE897.out | refine below_set ?_ GE898.out | refine below_set ?_ GE899.out) | exact HB.out))⟩; clear HO_10 BK896 BK897 BK898 BK899 HB hq_; have HO_10 := n0_; have BK896 := n1_; have BK897 := n2_; have BK898 := n3_; have BK899 := n4_; have HB := n5_; clear n0_ n1_ n2_ n3_ n4_ n5_))) | ((with_reducible refine gate_callee (f := 118) rfl ?_); refine goesL_ (some 64) rfl rfl Try.func118 (by kernel_rfl) rfl #[.int .i64 t914, .int .i64 64] rfl (by (try simp only [List.map_toArray, List.map_cons, List.map_nil]); first | done | rfl | (simp only [List.length_drop, List.length_take]; rfl)) ?_; (with_reducible refine (spec_l1Least.calls t914 64 t915 _ A68.out).mono ?_); rintro e w' ⟨rfl, ⟨nd, rfl⟩⟩; refine ⟨_, rfl, ?_⟩; (try (rw [drewN_self wr]; generalize hq_ : World.drewN wr _ = wr; have n0_ : Aside0 (Kd.R (Kd.int .u8) 5 wr w.heap.size (fun _ => True) (.slice Ao78 x10_2.length co78) x10_2) := ⟨by rw [← hq_]; exact (by (with_reducible repeat (first | apply Kd.R_alloc | apply Kd.R_drewN | apply Kd.R_drew)); exact HO_10.out)⟩; have n1_ : Aside0 (wr.heap[gb896]? = some (.cells #[.slice A0_0 l0_0.length c0_0] 31 (0, 0))) := ⟨by rw [← hq_]; exact (by (with_reducible repeat (first | refine blk_drewN ?_ _ | refine blk_drew ?_ | refine blk_alloc ?_ _)); exact BK896.out)⟩; have n2_ : Aside0 (wr.heap[gb897]? = some (.cells #[.int .i64 a1_0, .int .i64 a1_1, .int .i64 a1_2, .int .i64 a1_3] 32 (0, 0))) := ⟨by rw [← hq_]; exact (by (with_reducible repeat (first | refine blk_drewN ?_ _ | refine blk_drew ?_ | refine blk_alloc ?_ _)); exact BK897.out)⟩; have n3_ : Aside0 (wr.heap[gb898]? = some (.cells #[.slice none 0 0] 31 (0, 0))) := ⟨by rw [← hq_]; exact (by (with_reducible repeat (first | refine blk_drewN ?_ _ | refine blk_drew ?_ | refine blk_alloc ?_ _)); exact BK898.out)⟩; have n4_ : Aside0 (wr.heap[gb899]? = some (.cells #[.int .i64 0, .int .i64 0, .int .i64 0, .int .i64 0] 32 (0, 0))) := ⟨by rw [← hq_]; exact (by (with_reducible repeat (first | refine blk_drewN ?_ _ | refine blk_drew ?_ | refine blk_alloc ?_ _)); exact BK899.out)⟩; have n5_ : Aside0 (Below w.heap.size w wr) := ⟨by rw [← hq_]; exact (by repeat (first | (with_reducible first | exact HB.out | apply below_alloc | apply pw_below_drewN | apply below_drew1 | refine below_set ?_ GE896.out | refine below_set ?_ GE897.out | refine below_set ?_ GE898.out | refine below_set ?_ GE899.out) | exact HB.out))⟩; clear HO_10 BK896 BK897 BK898 BK899 HB hq_; have HO_10 := n0_; have BK896 := n1_; have BK897 := n2_; have BK898 := n3_; have BK899 := n4_; have HB := n5_; clear n0_ n1_ n2_ n3_ n4_ n5_)); have hnb83 := NB896_898.out; have hnc83 := NB898_896.out; have hnb84 := NB896_899.out; have hnc84 := NB899_896.out; have hcz85_0 : wr.cell? ⟨gb896, 0, none⟩ = some (.slice A0_0 l0_0.length c0_0) := (blk_cell BK896.out 0).trans rfl; have hfz85_0 := blk_frozen BK896.out 0) | ((with_reducible refine gate_callee (f := 85) rfl ?_); refine goesL_ (some 73) rfl rfl Try.func85 (by kernel_rfl) rfl #[.agg #[.slice A0_0 l0_0.length c0_0], .slice Ao78 x10_2.length co78, .int .i64 (wrap64 (a1_2 + (l2.length : Int)))] rfl (by (try simp only [List.map_toArray, List.map_cons, List.map_nil]); first | done | rfl | (simp only [List.length_drop, List.length_take]; rfl)) ?_; (with_reducible refine (spec_l2New.calls k2 _ _ l0_0 _ _ x10_2 (wrap64 (a1_2 + (l2.length : Int))) t919 t922 t923 t924 t925 _ ?side1 ?side2 ?side3 ?side4 A77.out).mono ?_); (case side1 => repeat (first | exact (Kd.C_below HR0_0.out HB.out) | (with_reducible refine Kd.C_alloc ?_ _) | (with_reducible refine Kd.C_drewN ?_ _) | (with_reducible refine Kd.C_drew ?_))); (case side2 => exact HC0_0.out); (case side3 => repeat (first | exact (Kd.R_reads' HO_10.out).2.2 | (with_reducible refine Kd.C_alloc ?_ _) | (with_reducible refine Kd.C_drewN ?_ _) | (with_reducible refine Kd.C_drew ?_))); (case side4 => exact (Kd.R_reads' HO_10.out).2.1); rintro e w86 ⟨v920, rfl, ho0, hb⟩; refine ⟨_, rfl, ?_⟩; have n0_ := Aside0.mk (Kd.R_below (by (with_reducible repeat (first | apply Kd.R_alloc | apply Kd.R_drewN | apply Kd.R_drew)); exact HO_10.out) hb); have n1_ := Aside0.mk (Kd.S_lower (Kd.S_new' ho0 (Kd.R_lt (by (with_reducible repeat (first | apply Kd.R_alloc | apply Kd.R_drewN | apply Kd.R_drew)); exact HO_10.out))) (below_size (by repeat (first | (with_reducible first | exact HB.out | apply below_alloc | apply pw_below_drewN | apply below_drew1 | refine below_set ?_ GE896.out | refine below_set ?_ GE897.out | refine below_set ?_ GE898.out | refine below_set ?_ GE899.out) | exact HB.out)))); have n2_ := Aside0.mk (blk_below (g := gb896) (o := .cells #[.slice A0_0 l0_0.length c0_0] 31 (0, 0)) (by (with_reducible repeat (first | refine blk_drewN ?_ _ | refine blk_drew ?_ | refine blk_alloc ?_ _)); exact BK896.out) hb); have n3_ := Aside0.mk (blk_below (g := gb897) (o := .cells #[.int .i64 a1_0, .int .i64 a1_1, .int .i64 a1_2, .int .i64 a1_3] 32 (0, 0)) (by (with_reducible repeat (first | refine blk_drewN ?_ _ | refine blk_drew ?_ | refine blk_alloc ?_ _)); exact BK897.out) hb); have n4_ := Aside0.mk (blk_below (g := gb898) (o := .cells #[.slice none 0 0] 31 (0, 0)) (by (with_reducible repeat (first | refine blk_drewN ?_ _ | refine blk_drew ?_ | refine blk_alloc ?_ _)); exact BK898.out) hb); have n5_ := Aside0.mk (blk_below (g := gb899) (o := .cells #[.int .i64 0, .int .i64 0, .int .i64 0, .int .i64 0] 32 (0, 0)) (by (with_reducible repeat (first | refine blk_drewN ?_ _ | refine blk_drew ?_ | refine blk_alloc ?_ _)); exact BK899.out) hb); have n6_ := Aside0.mk (below_step (by repeat (first | (with_reducible first | exact HB.out | apply below_alloc | apply pw_below_drewN | apply below_drew1 | refine below_set ?_ GE896.out | refine below_set ?_ GE897.out | refine below_set ?_ GE898.out | refine below_set ?_ GE899.out) | exact HB.out)) hb); clear HO_10; clear BK896; clear BK897; clear BK898; clear BK899; clear HB; have HO_10 := n0_; have HO921 := n1_; have BK896 := n2_; have BK897 := n3_; have BK898 := n4_; have BK899 := n5_; have HB := n6_; clear n0_ n1_ n2_ n3_ n4_ n5_ n6_; (try clear hb); (try clear hb2); (try clear hk); (try clear hi); (try clear ho0)) | ((with_reducible refine gate_dst (N := 11) rfl ?_); (try (refine gate_guard (by rfl) ?_; dsimp only)); refine box_event ?hg (N := 11) ?hd (cs := #[.slice none 0 0]) (t := 31) ?hr ?_; (case hd => rfl); (case hg => rfl); (case hr => first | (go_simp; done) | (go_simp; rfl)); intro gb926 hg w87 hbox hb; have n0_ := Aside0.mk (Kd.R_below (by (with_reducible repeat (first | apply Kd.R_alloc | apply Kd.R_drewN | apply Kd.R_drew)); exact HO_10.out) hb); have n1_ := Aside0.mk (Kd.S_below (by (with_reducible repeat (first | apply Kd.S_alloc | apply Kd.S_drewN | apply Kd.S_drew)); exact HO921.out) hb); have n2_ := Aside0.mk (blk_below (g := gb896) (o := .cells #[.slice A0_0 l0_0.length c0_0] 31 (0, 0)) (by (with_reducible repeat (first | refine blk_drewN ?_ _ | refine blk_drew ?_ | refine blk_alloc ?_ _)); exact BK896.out) hb); have n3_ := Aside0.mk (blk_below (g := gb897) (o := .cells #[.int .i64 a1_0, .int .i64 a1_1, .int .i64 a1_2, .int .i64 a1_3] 32 (0, 0)) (by (with_reducible repeat (first | refine blk_drewN ?_ _ | refine blk_drew ?_ | refine blk_alloc ?_ _)); exact BK897.out) hb); have n4_ := Aside0.mk (blk_below (g := gb898) (o := .cells #[.slice none 0 0] 31 (0, 0)) (by (with_reducible repeat (first | refine blk_drewN ?_ _ | refine blk_drew ?_ | refine blk_alloc ?_ _)); exact BK898.out) hb); have n5_ := Aside0.mk (blk_below (g := gb899) (o := .cells #[.int .i64 0, .int .i64 0, .int .i64 0, .int .i64 0] 32 (0, 0)) (by (with_reducible repeat (first | refine blk_drewN ?_ _ | refine blk_drew ?_ | refine blk_alloc ?_ _)); exact BK899.out) hb); have n6_ := Aside0.mk (below_step (by repeat (first | (with_reducible first | exact HB.out | apply below_alloc | apply pw_below_drewN | apply below_drew1 | refine below_set ?_ GE896.out | refine below_set ?_ GE897.out | refine below_set ?_ GE898.out | refine below_set ?_ GE899.out) | exact HB.out)) hb); have n7_ := Aside0.mk (hbox); have n8_ := Aside0.mk ((by rw [hg]; exact (below_size (by repeat (first | (with_reducible first | exact HB.out | apply below_alloc | apply pw_below_drewN | apply below_drew1 | refine below_set ?_ GE896.out | refine below_set ?_ GE897.out | refine below_set ?_ GE898.out | refine below_set ?_ GE899.out) | exact HB.out))) : w.heap.size ≤ gb926)); have n9_ := Aside0.mk ((by rw [hg]; exact (below_size (by repeat (first | (with_reducible first | exact HB.out | apply below_alloc | apply pw_below_drewN | apply below_drew1 | refine below_set ?_ GE896.out | refine below_set ?_ GE897.out | refine below_set ?_ GE898.out | refine below_set ?_ GE899.out) | exact HB.out))) : w.heap.size ≤ gb926)); have n10_ := Aside0.mk ((by rw [hg]; exact Nat.ne_of_lt (blk_lt (g := gb896) (o := .cells #[.slice A0_0 l0_0.length c0_0] 31 (0, 0)) (by (with_reducible repeat (first | refine blk_drewN ?_ _ | refine blk_drew ?_ | refine blk_alloc ?_ _)); exact BK896.out)) : gb896 ≠ gb926)); have n11_ := Aside0.mk ((by rw [hg]; exact Nat.ne_of_gt (blk_lt (g := gb896) (o := .cells #[.slice A0_0 l0_0.length c0_0] 31 (0, 0)) (by (with_reducible repeat (first | refine blk_drewN ?_ _ | refine blk_drew ?_ | refine blk_alloc ?_ _)); exact BK896.out)) : gb926 ≠ gb896)); have n12_ := Aside0.mk ((by rw [hg]; exact Nat.ne_of_lt (blk_lt (g := gb897) (o := .cells #[.int .i64 a1_0, .int .i64 a1_1, .int .i64 a1_2, .int .i64 a1_3] 32 (0, 0)) (by (with_reducible repeat (first | refine blk_drewN ?_ _ | refine blk_drew ?_ | refine blk_alloc ?_ _)); exact BK897.out)) : gb897 ≠ gb926)); have n13_ := Aside0.mk ((by rw [hg]; exact Nat.ne_of_gt (blk_lt (g := gb897) (o := .cells #[.int .i64 a1_0, .int .i64 a1_1, .int .i64 a1_2, .int .i64 a1_3] 32 (0, 0)) (by (with_reducible repeat (first | refine blk_drewN ?_ _ | refine blk_drew ?_ | refine blk_alloc ?_ _)); exact BK897.out)) : gb926 ≠ gb897)); have n14_ := Aside0.mk ((by rw [hg]; exact Nat.ne_of_lt (blk_lt (g := gb898) (o := .cells #[.slice none 0 0] 31 (0, 0)) (by (with_reducible repeat (first | refine blk_drewN ?_ _ | refine blk_drew ?_ | refine blk_alloc ?_ _)); exact BK898.out)) : gb898 ≠ gb926)); have n15_ := Aside0.mk ((by rw [hg]; exact Nat.ne_of_gt (blk_lt (g := gb898) (o := .cells #[.slice none 0 0] 31 (0, 0)) (by (with_reducible repeat (first | refine blk_drewN ?_ _ | refine blk_drew ?_ | refine blk_alloc ?_ _)); exact BK898.out)) : gb926 ≠ gb898)); have n16_ := Aside0.mk ((by rw [hg]; exact Nat.ne_of_lt (blk_lt (g := gb899) (o := .cells #[.int .i64 0, .int .i64 0, .int .i64 0, .int .i64 0] 32 (0, 0)) (by (with_reducible repeat (first | refine blk_drewN ?_ _ | refine blk_drew ?_ | refine blk_alloc ?_ _)); exact BK899.out)) : gb899 ≠ gb926)); have n17_ := Aside0.mk ((by rw [hg]; exact Nat.ne_of_gt (blk_lt (g := gb899) (o := .cells #[.int .i64 0, .int .i64 0, .int .i64 0, .int .i64 0] 32 (0, 0)) (by (with_reducible repeat (first | refine blk_drewN ?_ _ | refine blk_drew ?_ | refine blk_alloc ?_ _)); exact BK899.out)) : gb926 ≠ gb899)); clear HO_10; clear HO921; clear BK896; clear BK897; clear BK898; clear BK899; clear HB; have HO_10 := n0_; have HO921 := n1_; have BK896 := n2_; have BK897 := n3_; have BK898 := n4_; have BK899 := n5_; have HB := n6_; have BK926 := n7_; have GW926 := n8_; have GE926 := n9_; have NB896_926 := n10_; have NB926_896 := n11_; have NB897_926 := n12_; have NB926_897 := n13_; have NB898_926 := n14_; have NB926_898 := n15_; have NB899_926 := n16_; have NB926_899 := n17_; clear n0_ n1_ n2_ n3_ n4_ n5_ n6_ n7_ n8_ n9_ n10_ n11_ n12_ n13_ n14_ n15_ n16_ n17_; clear hb hbox hg) | ((with_reducible refine gate_dst (N := 12) rfl ?_); (try (refine gate_guard (by rfl) ?_; dsimp only)); refine box_event ?hg (N := 12) ?hd (cs := #[.int .i64 0, .int .i64 0, .int .i64 0, .int .i64 0]) (t := 32) ?hr ?_; (case hd => rfl); (case hg => rfl); (case hr => first | (go_simp; done) | (go_simp; rfl)); intro gb927 hg w88 hbox hb; have n0_ := Aside0.mk (Kd.R_below (by (with_reducible repeat (first | apply Kd.R_alloc | apply Kd.R_drewN | apply Kd.R_drew)); exact HO_10.out) hb); have n1_ := Aside0.mk (Kd.S_below (by (with_reducible repeat (first | apply Kd.S_alloc | apply Kd.S_drewN | apply Kd.S_drew)); exact HO921.out) hb); have n2_ := Aside0.mk (blk_below (g := gb896) (o := .cells #[.slice A0_0 l0_0.length c0_0] 31 (0, 0)) (by (with_reducible repeat (first | refine blk_drewN ?_ _ | refine blk_drew ?_ | refine blk_alloc ?_ _)); exact BK896.out) hb); have n3_ := Aside0.mk (blk_below (g := gb897) (o := .cells #[.int .i64 a1_0, .int .i64 a1_1, .int .i64 a1_2, .int .i64 a1_3] 32 (0, 0)) (by (with_reducible repeat (first | refine blk_drewN ?_ _ | refine blk_drew ?_ | refine blk_alloc ?_ _)); exact BK897.out) hb); have n4_ := Aside0.mk (blk_below (g := gb898) (o := .cells #[.slice none 0 0] 31 (0, 0)) (by (with_reducible repeat (first | refine blk_drewN ?_ _ | refine blk_drew ?_ | refine blk_alloc ?_ _)); exact BK898.out) hb); have n5_ := Aside0.mk (blk_below (g := gb899) (o := .cells #[.int .i64 0, .int .i64 0, .int .i64 0, .int .i64 0] 32 (0, 0)) (by (with_reducible repeat (first | refine blk_drewN ?_ _ | refine blk_drew ?_ | refine blk_alloc ?_ _)); exact BK899.out) hb); have n6_ := Aside0.mk (blk_below (g := gb926) (o := .cells #[.slice none 0 0] 31 (0, 0)) (by (with_reducible repeat (first | refine blk_drewN ?_ _ | refine blk_drew ?_ | refine blk_alloc ?_ _)); exact BK926.out) hb); have n7_ := Aside0.mk (below_step (by repeat (first | (with_reducible first | exact HB.out | apply below_alloc | apply pw_below_drewN | apply below_drew1 | refine below_set ?_ GE896.out | refine below_set ?_ GE897.out | refine below_set ?_ GE898.out | refine below_set ?_ GE899.out | refine below_set ?_ GE926.out) | exact HB.out)) hb); have n8_ := Aside0.mk (hbox); have n9_ := Aside0.mk ((by rw [hg]; exact (below_size (by repeat (first | (with_reducible first | exact HB.out | apply below_alloc | apply pw_below_drewN | apply below_drew1 | refine below_set ?_ GE896.out | refine below_set ?_ GE897.out | refine below_set ?_ GE898.out | refine below_set ?_ GE899.out | refine below_set ?_ GE926.out) | exact HB.out))) : w.heap.size ≤ gb927)); have n10_ := Aside0.mk ((by rw [hg]; exact (below_size (by repeat (first | (with_reducible first | exact HB.out | apply below_alloc | apply pw_below_drewN | apply below_drew1 | refine below_set ?_ GE896.out | refine below_set ?_ GE897.out | refine below_set ?_ GE898.out | refine below_set ?_ GE899.out | refine below_set ?_ GE926.out) | exact HB.out))) : w.heap.size ≤ gb927)); have n11_ := Aside0.mk ((by rw [hg]; exact Nat.ne_of_lt (blk_lt (g := gb896) (o := .cells #[.slice A0_0 l0_0.length c0_0] 31 (0, 0)) (by (with_reducible repeat (first | refine blk_drewN ?_ _ | refine blk_drew ?_ | refine blk_alloc ?_ _)); exact BK896.out)) : gb896 ≠ gb927)); have n12_ := Aside0.mk ((by rw [hg]; exact Nat.ne_of_gt (blk_lt (g := gb896) (o := .cells #[.slice A0_0 l0_0.length c0_0] 31 (0, 0)) (by (with_reducible repeat (first | refine blk_drewN ?_ _ | refine blk_drew ?_ | refine blk_alloc ?_ _)); exact BK896.out)) : gb927 ≠ gb896)); have n13_ := Aside0.mk ((by rw [hg]; exact Nat.ne_of_lt (blk_lt (g := gb897) (o := .cells #[.int .i64 a1_0, .int .i64 a1_1, .int .i64 a1_2, .int .i64 a1_3] 32 (0, 0)) (by (with_reducible repeat (first | refine blk_drewN ?_ _ | refine blk_drew ?_ | refine blk_alloc ?_ _)); exact BK897.out)) : gb897 ≠ gb927)); have n14_ := Aside0.mk ((by rw [hg]; exact Nat.ne_of_gt (blk_lt (g := gb897) (o := .cells #[.int .i64 a1_0, .int .i64 a1_1, .int .i64 a1_2, .int .i64 a1_3] 32 (0, 0)) (by (with_reducible repeat (first | refine blk_drewN ?_ _ | refine blk_drew ?_ | refine blk_alloc ?_ _)); exact BK897.out)) : gb927 ≠ gb897)); have n15_ := Aside0.mk ((by rw [hg]; exact Nat.ne_of_lt (blk_lt (g := gb898) (o := .cells #[.slice none 0 0] 31 (0, 0)) (by (with_reducible repeat (first | refine blk_drewN ?_ _ | refine blk_drew ?_ | refine blk_alloc ?_ _)); exact BK898.out)) : gb898 ≠ gb927)); have n16_ := Aside0.mk ((by rw [hg]; exact Nat.ne_of_gt (blk_lt (g := gb898) (o := .cells #[.slice none 0 0] 31 (0, 0)) (by (with_reducible repeat (first | refine blk_drewN ?_ _ | refine blk_drew ?_ | refine blk_alloc ?_ _)); exact BK898.out)) : gb927 ≠ gb898)); have n17_ := Aside0.mk ((by rw [hg]; exact Nat.ne_of_lt (blk_lt (g := gb899) (o := .cells #[.int .i64 0, .int .i64 0, .int .i64 0, .int .i64 0] 32 (0, 0)) (by (with_reducible repeat (first | refine blk_drewN ?_ _ | refine blk_drew ?_ | refine blk_alloc ?_ _)); exact BK899.out)) : gb899 ≠ gb927)); have n18_ := Aside0.mk ((by rw [hg]; exact Nat.ne_of_gt (blk_lt (g := gb899) (o := .cells #[.int .i64 0, .int .i64 0, .int .i64 0, .int .i64 0] 32 (0, 0)) (by (with_reducible repeat (first | refine blk_drewN ?_ _ | refine blk_drew ?_ | refine blk_alloc ?_ _)); exact BK899.out)) : gb927 ≠ gb899)); have n19_ := Aside0.mk ((by rw [hg]; exact Nat.ne_of_lt (blk_lt (g := gb926) (o := .cells #[.slice none 0 0] 31 (0, 0)) (by (with_reducible repeat (first | refine blk_drewN ?_ _ | refine blk_drew ?_ | refine blk_alloc ?_ _)); exact BK926.out)) : gb926 ≠ gb927)); have n20_ := Aside0.mk ((by rw [hg]; exact Nat.ne_of_gt (blk_lt (g := gb926) (o := .cells #[.slice none 0 0] 31 (0, 0)) (by (with_reducible repeat (first | refine blk_drewN ?_ _ | refine blk_drew ?_ | refine blk_alloc ?_ _)); exact BK926.out)) : gb927 ≠ gb926)); clear HO_10; clear HO921; clear BK896; clear BK897; clear BK898; clear BK899; clear BK926; clear HB; have HO_10 := n0_; have HO921 := n1_; have BK896 := n2_; have BK897 := n3_; have BK898 := n4_; have BK899 := n5_; have BK926 := n6_; have HB := n7_; have BK927 := n8_; have GW927 := n9_; have GE927 := n10_; have NB896_927 := n11_; have NB927_896 := n12_; have NB897_927 := n13_; have NB927_897 := n14_; have NB898_927 := n15_; have NB927_898 := n16_; have NB899_927 := n17_; have NB927_899 := n18_; have NB926_927 := n19_; have NB927_926 := n20_; clear n0_ n1_ n2_ n3_ n4_ n5_ n6_ n7_ n8_ n9_ n10_ n11_ n12_ n13_ n14_ n15_ n16_ n17_ n18_ n19_ n20_; clear hb hbox hg; obtain ⟨Ao89, co89, eo89⟩ := Kd.S_slice HO921.out; subst eo89; have hnb90 := NB926_896.out; have hnc90 := NB896_926.out; have hnb91 := NB926_897.out; have hnc91 := NB897_926.out; have hnb92 := NB926_898.out; have hnc92 := NB898_926.out; have hnb93 := NB926_899.out; have hnc93 := NB899_926.out; have hnb94 := NB926_927.out; have hnc94 := NB927_926.out; have hcz95_0 : w88.cell? ⟨gb926, 0, none⟩ = some (.slice none 0 0) := (blk_cell BK926.out 0).trans rfl; have hfz95_0 := blk_frozen BK926.out 0; have hnb96 := NB927_896.out; have hnc96 := NB896_927.out; have hnb97 := NB927_897.out; have hnc97 := NB897_927.out; have hnb98 := NB927_898.out; have hnc98 := NB898_927.out; have hnb99 := NB927_899.out; have hnc99 := NB899_927.out; have hcz100_0 : w88.cell? ⟨gb927, 0, none⟩ = some (.int .i64 0) := (blk_cell BK927.out 0).trans rfl; have hcz100_1 : w88.cell? ⟨gb927, 1, none⟩ = some (.int .i64 0) := (blk_cell BK927.out 1).trans rfl; have hcz100_2 : w88.cell? ⟨gb927, 2, none⟩ = some (.int .i64 0) := (blk_cell BK927.out 2).trans rfl; have hcz100_3 : w88.cell? ⟨gb927, 3, none⟩ = some (.int .i64 0) := (blk_cell BK927.out 3).trans rfl; have hfz100_0 := blk_frozen BK927.out 0; have hfz100_1 := blk_frozen BK927.out 1; have hfz100_2 := blk_frozen BK927.out 2; have hfz100_3 := blk_frozen BK927.out 3))
                  have n0_ : Aside0 (Kd.R (Kd.int .u8) 5 (((((w88.setCell ⟨gb926, 0, none⟩ (.slice Ao89 t919.length co89)).setCell ⟨gb927, 0, none⟩ (.int .i64 t922)).setCell ⟨gb927, 1, none⟩ (.int .i64 t923)).setCell ⟨gb927, 2, none⟩ (.int .i64 t924)).setCell ⟨gb927, 3, none⟩ (.int .i64 t925)) w.heap.size (fun _ => True) (.slice Ao78 x10_2.length co78) x10_2) := ⟨by (with_reducible repeat (first | apply Kd.R_alloc | apply Kd.R_drewN | apply Kd.R_drew)); exact Kd.R_mono (Kd.R_far (p := ⟨gb927, 3, none⟩) (Kd.R_far (p := ⟨gb927, 2, none⟩) (Kd.R_far (p := ⟨gb927, 1, none⟩) (Kd.R_far (p := ⟨gb927, 0, none⟩) (Kd.R_far (p := ⟨gb926, 0, none⟩) (Kd.R_types (Kd.R_types HO_10.out BK926.out (by decide)) BK927.out (by decide)) (fun _ hk => hk.1.2) (.slice Ao89 t919.length co89)) (fun _ hk => hk.2) (.int .i64 t922)) (fun _ hk => hk.2) (.int .i64 t923)) (fun _ hk => hk.2) (.int .i64 t924)) (fun _ hk => hk.2) (.int .i64 t925)) (fun _ hk => trivial)⟩
                  have n1_ : Aside0 (Kd.S (Kd.slice 5 (Kd.int .u8)) 29 (((((w88.setCell ⟨gb926, 0, none⟩ (.slice Ao89 t919.length co89)).setCell ⟨gb927, 0, none⟩ (.int .i64 t922)).setCell ⟨gb927, 1, none⟩ (.int .i64 t923)).setCell ⟨gb927, 2, none⟩ (.int .i64 t924)).setCell ⟨gb927, 3, none⟩ (.int .i64 t925)) w.heap.size (fun k_ => some k_ ≠ (.slice Ao78 x10_2.length co78 : Value).ownBlock) (.slice Ao89 t919.length co89) t919) := ⟨by (with_reducible repeat (first | apply Kd.S_alloc | apply Kd.S_drewN | apply Kd.S_drew)); exact Kd.S_mono (Kd.S_far (p := ⟨gb927, 3, none⟩) (Kd.S_far (p := ⟨gb927, 2, none⟩) (Kd.S_far (p := ⟨gb927, 1, none⟩) (Kd.S_far (p := ⟨gb927, 0, none⟩) (Kd.S_far (p := ⟨gb926, 0, none⟩) (Kd.S_types (Kd.S_types HO921.out BK926.out (by decide)) BK927.out (by decide)) (fun _ hk => hk.1.2) (.slice Ao89 t919.length co89)) (fun _ hk => hk.2) (.int .i64 t922)) (fun _ hk => hk.2) (.int .i64 t923)) (fun _ hk => hk.2) (.int .i64 t924)) (fun _ hk => hk.2) (.int .i64 t925)) (fun _ hk => hk.1.1.2)⟩
                  have n2_ : Aside0 ((((((w88.setCell ⟨gb926, 0, none⟩ (.slice Ao89 t919.length co89)).setCell ⟨gb927, 0, none⟩ (.int .i64 t922)).setCell ⟨gb927, 1, none⟩ (.int .i64 t923)).setCell ⟨gb927, 2, none⟩ (.int .i64 t924)).setCell ⟨gb927, 3, none⟩ (.int .i64 t925)).heap[gb896]? = some (.cells #[.slice A0_0 l0_0.length c0_0] 31 (0, 0))) := ⟨by (with_reducible repeat (first | refine blk_drewN ?_ _ | refine blk_drew ?_ | refine blk_alloc ?_ _)); refine blk_far ?_ NB896_927.out _; (with_reducible repeat (first | refine blk_drewN ?_ _ | refine blk_drew ?_ | refine blk_alloc ?_ _)); refine blk_far ?_ NB896_927.out _; (with_reducible repeat (first | refine blk_drewN ?_ _ | refine blk_drew ?_ | refine blk_alloc ?_ _)); refine blk_far ?_ NB896_927.out _; (with_reducible repeat (first | refine blk_drewN ?_ _ | refine blk_drew ?_ | refine blk_alloc ?_ _)); refine blk_far ?_ NB896_927.out _; (with_reducible repeat (first | refine blk_drewN ?_ _ | refine blk_drew ?_ | refine blk_alloc ?_ _)); refine blk_far ?_ NB896_926.out _; (with_reducible repeat (first | refine blk_drewN ?_ _ | refine blk_drew ?_ | refine blk_alloc ?_ _)); exact BK896.out⟩
                  have n3_ : Aside0 ((((((w88.setCell ⟨gb926, 0, none⟩ (.slice Ao89 t919.length co89)).setCell ⟨gb927, 0, none⟩ (.int .i64 t922)).setCell ⟨gb927, 1, none⟩ (.int .i64 t923)).setCell ⟨gb927, 2, none⟩ (.int .i64 t924)).setCell ⟨gb927, 3, none⟩ (.int .i64 t925)).heap[gb897]? = some (.cells #[.int .i64 a1_0, .int .i64 a1_1, .int .i64 a1_2, .int .i64 a1_3] 32 (0, 0))) := ⟨by (with_reducible repeat (first | refine blk_drewN ?_ _ | refine blk_drew ?_ | refine blk_alloc ?_ _)); refine blk_far ?_ NB897_927.out _; (with_reducible repeat (first | refine blk_drewN ?_ _ | refine blk_drew ?_ | refine blk_alloc ?_ _)); refine blk_far ?_ NB897_927.out _; (with_reducible repeat (first | refine blk_drewN ?_ _ | refine blk_drew ?_ | refine blk_alloc ?_ _)); refine blk_far ?_ NB897_927.out _; (with_reducible repeat (first | refine blk_drewN ?_ _ | refine blk_drew ?_ | refine blk_alloc ?_ _)); refine blk_far ?_ NB897_927.out _; (with_reducible repeat (first | refine blk_drewN ?_ _ | refine blk_drew ?_ | refine blk_alloc ?_ _)); refine blk_far ?_ NB897_926.out _; (with_reducible repeat (first | refine blk_drewN ?_ _ | refine blk_drew ?_ | refine blk_alloc ?_ _)); exact BK897.out⟩
                  have n4_ : Aside0 ((((((w88.setCell ⟨gb926, 0, none⟩ (.slice Ao89 t919.length co89)).setCell ⟨gb927, 0, none⟩ (.int .i64 t922)).setCell ⟨gb927, 1, none⟩ (.int .i64 t923)).setCell ⟨gb927, 2, none⟩ (.int .i64 t924)).setCell ⟨gb927, 3, none⟩ (.int .i64 t925)).heap[gb898]? = some (.cells #[.slice none 0 0] 31 (0, 0))) := ⟨by (with_reducible repeat (first | refine blk_drewN ?_ _ | refine blk_drew ?_ | refine blk_alloc ?_ _)); refine blk_far ?_ NB898_927.out _; (with_reducible repeat (first | refine blk_drewN ?_ _ | refine blk_drew ?_ | refine blk_alloc ?_ _)); refine blk_far ?_ NB898_927.out _; (with_reducible repeat (first | refine blk_drewN ?_ _ | refine blk_drew ?_ | refine blk_alloc ?_ _)); refine blk_far ?_ NB898_927.out _; (with_reducible repeat (first | refine blk_drewN ?_ _ | refine blk_drew ?_ | refine blk_alloc ?_ _)); refine blk_far ?_ NB898_927.out _; (with_reducible repeat (first | refine blk_drewN ?_ _ | refine blk_drew ?_ | refine blk_alloc ?_ _)); refine blk_far ?_ NB898_926.out _; (with_reducible repeat (first | refine blk_drewN ?_ _ | refine blk_drew ?_ | refine blk_alloc ?_ _)); exact BK898.out⟩
                  have n5_ : Aside0 ((((((w88.setCell ⟨gb926, 0, none⟩ (.slice Ao89 t919.length co89)).setCell ⟨gb927, 0, none⟩ (.int .i64 t922)).setCell ⟨gb927, 1, none⟩ (.int .i64 t923)).setCell ⟨gb927, 2, none⟩ (.int .i64 t924)).setCell ⟨gb927, 3, none⟩ (.int .i64 t925)).heap[gb899]? = some (.cells #[.int .i64 0, .int .i64 0, .int .i64 0, .int .i64 0] 32 (0, 0))) := ⟨by (with_reducible repeat (first | refine blk_drewN ?_ _ | refine blk_drew ?_ | refine blk_alloc ?_ _)); refine blk_far ?_ NB899_927.out _; (with_reducible repeat (first | refine blk_drewN ?_ _ | refine blk_drew ?_ | refine blk_alloc ?_ _)); refine blk_far ?_ NB899_927.out _; (with_reducible repeat (first | refine blk_drewN ?_ _ | refine blk_drew ?_ | refine blk_alloc ?_ _)); refine blk_far ?_ NB899_927.out _; (with_reducible repeat (first | refine blk_drewN ?_ _ | refine blk_drew ?_ | refine blk_alloc ?_ _)); refine blk_far ?_ NB899_927.out _; (with_reducible repeat (first | refine blk_drewN ?_ _ | refine blk_drew ?_ | refine blk_alloc ?_ _)); refine blk_far ?_ NB899_926.out _; (with_reducible repeat (first | refine blk_drewN ?_ _ | refine blk_drew ?_ | refine blk_alloc ?_ _)); exact BK899.out⟩
                  have n6_ : Aside0 ((((((w88.setCell ⟨gb926, 0, none⟩ (.slice Ao89 t919.length co89)).setCell ⟨gb927, 0, none⟩ (.int .i64 t922)).setCell ⟨gb927, 1, none⟩ (.int .i64 t923)).setCell ⟨gb927, 2, none⟩ (.int .i64 t924)).setCell ⟨gb927, 3, none⟩ (.int .i64 t925)).heap[gb926]? = some (.cells #[.slice Ao89 t919.length co89] 31 (0, 0))) := ⟨by (with_reducible repeat (first | refine blk_drewN ?_ _ | refine blk_drew ?_ | refine blk_alloc ?_ _)); refine blk_far ?_ NB926_927.out _; (with_reducible repeat (first | refine blk_drewN ?_ _ | refine blk_drew ?_ | refine blk_alloc ?_ _)); refine blk_far ?_ NB926_927.out _; (with_reducible repeat (first | refine blk_drewN ?_ _ | refine blk_drew ?_ | refine blk_alloc ?_ _)); refine blk_far ?_ NB926_927.out _; (with_reducible repeat (first | refine blk_drewN ?_ _ | refine blk_drew ?_ | refine blk_alloc ?_ _)); refine blk_far ?_ NB926_927.out _; (with_reducible repeat (first | refine blk_drewN ?_ _ | refine blk_drew ?_ | refine blk_alloc ?_ _)); refine blk_put (cs := #[.slice none 0 0]) ?_ 0 _ rfl; (with_reducible repeat (first | refine blk_drewN ?_ _ | refine blk_drew ?_ | refine blk_alloc ?_ _)); exact BK926.out⟩
                  have n7_ : Aside0 ((((((w88.setCell ⟨gb926, 0, none⟩ (.slice Ao89 t919.length co89)).setCell ⟨gb927, 0, none⟩ (.int .i64 t922)).setCell ⟨gb927, 1, none⟩ (.int .i64 t923)).setCell ⟨gb927, 2, none⟩ (.int .i64 t924)).setCell ⟨gb927, 3, none⟩ (.int .i64 t925)).heap[gb927]? = some (.cells #[.int .i64 t922, .int .i64 t923, .int .i64 t924, .int .i64 t925] 32 (0, 0))) := ⟨by (with_reducible repeat (first | refine blk_drewN ?_ _ | refine blk_drew ?_ | refine blk_alloc ?_ _)); refine blk_put (cs := #[.int .i64 t922, .int .i64 t923, .int .i64 t924, .int .i64 0]) ?_ 3 _ rfl; (with_reducible repeat (first | refine blk_drewN ?_ _ | refine blk_drew ?_ | refine blk_alloc ?_ _)); refine blk_put (cs := #[.int .i64 t922, .int .i64 t923, .int .i64 0, .int .i64 0]) ?_ 2 _ rfl; (with_reducible repeat (first | refine blk_drewN ?_ _ | refine blk_drew ?_ | refine blk_alloc ?_ _)); refine blk_put (cs := #[.int .i64 t922, .int .i64 0, .int .i64 0, .int .i64 0]) ?_ 1 _ rfl; (with_reducible repeat (first | refine blk_drewN ?_ _ | refine blk_drew ?_ | refine blk_alloc ?_ _)); refine blk_put (cs := #[.int .i64 0, .int .i64 0, .int .i64 0, .int .i64 0]) ?_ 0 _ rfl; (with_reducible repeat (first | refine blk_drewN ?_ _ | refine blk_drew ?_ | refine blk_alloc ?_ _)); refine blk_far ?_ NB927_926.out _; (with_reducible repeat (first | refine blk_drewN ?_ _ | refine blk_drew ?_ | refine blk_alloc ?_ _)); exact BK927.out⟩
                  have n8_ : Aside0 (Below w.heap.size w (((((w88.setCell ⟨gb926, 0, none⟩ (.slice Ao89 t919.length co89)).setCell ⟨gb927, 0, none⟩ (.int .i64 t922)).setCell ⟨gb927, 1, none⟩ (.int .i64 t923)).setCell ⟨gb927, 2, none⟩ (.int .i64 t924)).setCell ⟨gb927, 3, none⟩ (.int .i64 t925))) := ⟨by repeat (first | (with_reducible first | exact HB.out | apply below_alloc | apply pw_below_drewN | apply below_drew1 | refine below_set ?_ GE896.out | refine below_set ?_ GE897.out | refine below_set ?_ GE898.out | refine below_set ?_ GE899.out | refine below_set ?_ GE926.out | refine below_set ?_ GE927.out) | exact HB.out)⟩
                  (try clear HO_10)
                  (try clear HO921)
                  (try clear BK896)
                  (try clear BK897)
                  (try clear BK898)
                  (try clear BK899)
                  (try clear BK926)
                  (try clear BK927)
                  (try clear HB)
                  generalize (((((w88.setCell ⟨gb926, 0, none⟩ (.slice Ao89 t919.length co89)).setCell ⟨gb927, 0, none⟩ (.int .i64 t922)).setCell ⟨gb927, 1, none⟩ (.int .i64 t923)).setCell ⟨gb927, 2, none⟩ (.int .i64 t924)).setCell ⟨gb927, 3, none⟩ (.int .i64 t925)) = w101 at n0_ n1_ n2_ n3_ n4_ n5_ n6_ n7_ n8_ ⊢
                  have HO_10 := n0_
                  have HO921 := n1_
                  have BK896 := n2_
                  have BK897 := n3_
                  have BK898 := n4_
                  have BK899 := n5_
                  have BK926 := n6_
                  have BK927 := n7_
                  have HB := n8_
                  clear n0_ n1_ n2_ n3_ n4_ n5_ n6_ n7_ n8_
                  have n0_ := Aside0.mk (Kd.R_drew HO_10.out)
                  have n1_ := Aside0.mk (Kd.S_drew HO921.out)
                  have n2_ := Aside0.mk (blk_drew BK896.out)
                  have n3_ := Aside0.mk (blk_drew BK897.out)
                  have n4_ := Aside0.mk (blk_drew BK898.out)
                  have n5_ := Aside0.mk (blk_drew BK899.out)
                  have n6_ := Aside0.mk (blk_drew BK926.out)
                  have n7_ := Aside0.mk (blk_drew BK927.out)
                  have n8_ := Aside0.mk (below_drew1 HB.out)
                  clear HO_10
                  clear HO921
                  clear BK896
                  clear BK897
                  clear BK898
                  clear BK899
                  clear BK926
                  clear BK927
                  clear HB
                  have HO_10 := n0_
                  have HO921 := n1_
                  have BK896 := n2_
                  have BK897 := n3_
                  have BK898 := n4_
                  have BK899 := n5_
                  have BK926 := n6_
                  have BK927 := n7_
                  have HB := n8_
                  clear n0_ n1_ n2_ n3_ n4_ n5_ n6_ n7_ n8_
                  refine start_ (n := 5) (S := fun w' => w'.cell? ⟨gb926, 0, none⟩ = some (.slice Ao89 t919.length co89) ∧ w'.cell? ⟨gb927, 0, none⟩ = some (.int .i64 t922) ∧ w'.cell? ⟨gb927, 1, none⟩ = some (.int .i64 t923) ∧ w'.cell? ⟨gb927, 2, none⟩ = some (.int .i64 t924) ∧ w'.cell? ⟨gb927, 3, none⟩ = some (.int .i64 t925)) (ds := []) #[false, false, false, false, false] (by kernel_rfl) rfl rfl ⟨(blk_cell BK926.out 0).trans rfl, (blk_cell BK927.out 0).trans rfl, (blk_cell BK927.out 1).trans rfl, (blk_cell BK927.out 2).trans rfl, (blk_cell BK927.out 3).trans rfl⟩ (fun hHeld => ?_)
                  generalize w101.drew = w102 at HO_10 HO921 BK896 BK897 BK898 BK899 BK926 BK927 HB hHeld ⊢
                  refine take_ (i := 0) (N := some 76) (v := ?_) (a' := ?_) #[true, false, false, false, false] rfl rfl (by kernel_rfl) (fun _ _ _ h => h) (Or.inl ⟨by rfl, ?_⟩) hHeld ?_ ?_
                  rotate_left
                  · rintro w' ⟨s0, s1, s2, s3, s4⟩
                    go_simp
                    with_reducible rfl
                  rotate_left
                  · simp only [Act.put, List.setIfInBounds_toArray, List.set_cons_zero, List.set_cons_succ, i64_w, i32_w]
                    rfl
                  refine take_ (i := 1) (N := some 77) (v := ?_) (a' := ?_) #[true, true, false, false, false] rfl rfl (by kernel_rfl) (fun _ _ _ h => h) (Or.inl ⟨by rfl, ?_⟩) hHeld ?_ ?_
                  rotate_left
                  · rintro w' ⟨s0, s1, s2, s3, s4⟩
                    go_simp
                    with_reducible rfl
                  rotate_left
                  · simp only [Act.put, List.setIfInBounds_toArray, List.set_cons_zero, List.set_cons_succ, i64_w, i32_w]
                    rfl
                  refine one_ (i := 2) (N := none) #[true, true, true, false, false] rfl rfl (by kernel_rfl) (by decide) (fun K hK => ?_)
                  have hs103 : w102.cell? ⟨gb898, 0, none⟩ = some (.slice none 0 0) := (blk_cell BK898.out 0).trans rfl
                  have hfs103 := blk_frozen BK898.out 0
                  have hns103_0 := NB896_898.out
                  have hns103_1 := NB897_898.out
                  have hns103_3 := NB899_898.out
                  have hns103_4 := NB926_898.out
                  have hns103_5 := NB927_898.out
                  have hms103_0 := NB898_896.out
                  have hms103_1 := NB898_897.out
                  have hms103_3 := NB898_899.out
                  have hms103_4 := NB898_926.out
                  have hms103_5 := NB898_927.out
                  refine skip_ (w1 := ?_) (by rfl) rfl ?_ ?_
                  rotate_left
                  · go_simp
                    rfl
                  refine hK.out _ _ ⟨((cell_far (p := ⟨gb898, _, none⟩) NB926_898.out _).trans (hHeld.1)), ((cell_far (p := ⟨gb898, _, none⟩) NB927_898.out _).trans (hHeld.2.1)), ((cell_far (p := ⟨gb898, _, none⟩) NB927_898.out _).trans (hHeld.2.2.1)), ((cell_far (p := ⟨gb898, _, none⟩) NB927_898.out _).trans (hHeld.2.2.2.1)), ((cell_far (p := ⟨gb898, _, none⟩) NB927_898.out _).trans (hHeld.2.2.2.2))⟩ (fun hHeld => ?_)
                  clear hK K
                  refine one_ (i := 3) (N := none) #[true, true, true, true, false] rfl rfl (by kernel_rfl) (by decide) (fun K hK => ?_)
                  have hs104 : w102.cell? ⟨gb899, 0, none⟩ = some (.int .i64 0) := (blk_cell BK899.out 0).trans rfl
                  have hfs104 := blk_frozen BK899.out 0
                  have hns104_0 := NB896_899.out
                  have hns104_1 := NB897_899.out
                  have hns104_2 := NB898_899.out
                  have hns104_4 := NB926_899.out
                  have hns104_5 := NB927_899.out
                  have hms104_0 := NB899_896.out
                  have hms104_1 := NB899_897.out
                  have hms104_2 := NB899_898.out
                  have hms104_4 := NB899_926.out
                  have hms104_5 := NB899_927.out
                  have hs105 : w102.cell? ⟨gb899, 1, none⟩ = some (.int .i64 0) := (blk_cell BK899.out 1).trans rfl
                  have hfs105 := blk_frozen BK899.out 1
                  have hns105_0 := NB896_899.out
                  have hns105_1 := NB897_899.out
                  have hns105_2 := NB898_899.out
                  have hns105_4 := NB926_899.out
                  have hns105_5 := NB927_899.out
                  have hms105_0 := NB899_896.out
                  have hms105_1 := NB899_897.out
                  have hms105_2 := NB899_898.out
                  have hms105_4 := NB899_926.out
                  have hms105_5 := NB899_927.out
                  have hs106 : w102.cell? ⟨gb899, 2, none⟩ = some (.int .i64 0) := (blk_cell BK899.out 2).trans rfl
                  have hfs106 := blk_frozen BK899.out 2
                  have hns106_0 := NB896_899.out
                  have hns106_1 := NB897_899.out
                  have hns106_2 := NB898_899.out
                  have hns106_4 := NB926_899.out
                  have hns106_5 := NB927_899.out
                  have hms106_0 := NB899_896.out
                  have hms106_1 := NB899_897.out
                  have hms106_2 := NB899_898.out
                  have hms106_4 := NB899_926.out
                  have hms106_5 := NB899_927.out
                  have hs107 : w102.cell? ⟨gb899, 3, none⟩ = some (.int .i64 0) := (blk_cell BK899.out 3).trans rfl
                  have hfs107 := blk_frozen BK899.out 3
                  have hns107_0 := NB896_899.out
                  have hns107_1 := NB897_899.out
                  have hns107_2 := NB898_899.out
                  have hns107_4 := NB926_899.out
                  have hns107_5 := NB927_899.out
                  have hms107_0 := NB899_896.out
                  have hms107_1 := NB899_897.out
                  have hms107_2 := NB899_898.out
                  have hms107_4 := NB899_926.out
                  have hms107_5 := NB899_927.out
                  refine skip_ (w1 := ?_) (by rfl) rfl ?_ ?_
                  rotate_left
                  · go_simp
                    rfl
                  refine hK.out _ _ ⟨((cell_far (p := ⟨gb899, _, none⟩) NB926_899.out _).trans (((cell_far (p := ⟨gb899, _, none⟩) NB926_899.out _).trans (((cell_far (p := ⟨gb899, _, none⟩) NB926_899.out _).trans (((cell_far (p := ⟨gb899, _, none⟩) NB926_899.out _).trans (hHeld.1)))))))), ((cell_far (p := ⟨gb899, _, none⟩) NB927_899.out _).trans (((cell_far (p := ⟨gb899, _, none⟩) NB927_899.out _).trans (((cell_far (p := ⟨gb899, _, none⟩) NB927_899.out _).trans (((cell_far (p := ⟨gb899, _, none⟩) NB927_899.out _).trans (hHeld.2.1)))))))), ((cell_far (p := ⟨gb899, _, none⟩) NB927_899.out _).trans (((cell_far (p := ⟨gb899, _, none⟩) NB927_899.out _).trans (((cell_far (p := ⟨gb899, _, none⟩) NB927_899.out _).trans (((cell_far (p := ⟨gb899, _, none⟩) NB927_899.out _).trans (hHeld.2.2.1)))))))), ((cell_far (p := ⟨gb899, _, none⟩) NB927_899.out _).trans (((cell_far (p := ⟨gb899, _, none⟩) NB927_899.out _).trans (((cell_far (p := ⟨gb899, _, none⟩) NB927_899.out _).trans (((cell_far (p := ⟨gb899, _, none⟩) NB927_899.out _).trans (hHeld.2.2.2.1)))))))), ((cell_far (p := ⟨gb899, _, none⟩) NB927_899.out _).trans (((cell_far (p := ⟨gb899, _, none⟩) NB927_899.out _).trans (((cell_far (p := ⟨gb899, _, none⟩) NB927_899.out _).trans (((cell_far (p := ⟨gb899, _, none⟩) NB927_899.out _).trans (hHeld.2.2.2.2))))))))⟩ (fun hHeld => ?_)
                  clear hK K
                  refine pure_ (i := 4) (N := some 8) (v := ?_) (a' := ?_) #[true, true, true, true, true] rfl rfl (by kernel_rfl) (fun _ _ _ h => h) (Or.inl ⟨by rfl, ?_⟩) ?_ ?_
                  rotate_left
                  · intro w'
                    go_simp
                    with_reducible rfl
                  rotate_left
                  · simp only [Act.put, List.setIfInBounds_toArray, List.set_cons_zero, List.set_cons_succ, i64_w, i32_w]
                    rfl
                  refine done_ (by kernel_rfl) ?_
                  try go_wp2
                  refine bodyPost_ret (results_list (rs := [.cell 6 31, .cell 7 32, .tmp 8]) rfl (by simp) (.cell gb898 31 #[.slice Ao89 t919.length co89] (0, 0) _ rfl (by (with_reducible repeat (first | refine blk_drewN ?_ _ | refine blk_drew ?_ | refine blk_alloc ?_ _)); refine blk_far ?_ NB898_899.out _; (with_reducible repeat (first | refine blk_drewN ?_ _ | refine blk_drew ?_ | refine blk_alloc ?_ _)); refine blk_far ?_ NB898_899.out _; (with_reducible repeat (first | refine blk_drewN ?_ _ | refine blk_drew ?_ | refine blk_alloc ?_ _)); refine blk_far ?_ NB898_899.out _; (with_reducible repeat (first | refine blk_drewN ?_ _ | refine blk_drew ?_ | refine blk_alloc ?_ _)); refine blk_far ?_ NB898_899.out _; (with_reducible repeat (first | refine blk_drewN ?_ _ | refine blk_drew ?_ | refine blk_alloc ?_ _)); refine blk_put (cs := #[.slice none 0 0]) ?_ 0 _ rfl; (with_reducible repeat (first | refine blk_drewN ?_ _ | refine blk_drew ?_ | refine blk_alloc ?_ _)); exact BK898.out) Try.underlying31 rfl (by kernel_rfl) (.cell gb899 32 #[.int .i64 t922, .int .i64 t923, .int .i64 t924, .int .i64 t925] (0, 0) _ rfl (by (with_reducible repeat (first | refine blk_drewN ?_ _ | refine blk_drew ?_ | refine blk_alloc ?_ _)); refine blk_put (cs := #[.int .i64 t922, .int .i64 t923, .int .i64 t924, .int .i64 0]) ?_ 3 _ rfl; (with_reducible repeat (first | refine blk_drewN ?_ _ | refine blk_drew ?_ | refine blk_alloc ?_ _)); refine blk_put (cs := #[.int .i64 t922, .int .i64 t923, .int .i64 0, .int .i64 0]) ?_ 2 _ rfl; (with_reducible repeat (first | refine blk_drewN ?_ _ | refine blk_drew ?_ | refine blk_alloc ?_ _)); refine blk_put (cs := #[.int .i64 t922, .int .i64 0, .int .i64 0, .int .i64 0]) ?_ 1 _ rfl; (with_reducible repeat (first | refine blk_drewN ?_ _ | refine blk_drew ?_ | refine blk_alloc ?_ _)); refine blk_put (cs := #[.int .i64 0, .int .i64 0, .int .i64 0, .int .i64 0]) ?_ 0 _ rfl; (with_reducible repeat (first | refine blk_drewN ?_ _ | refine blk_drew ?_ | refine blk_alloc ?_ _)); refine blk_far ?_ NB899_898.out _; (with_reducible repeat (first | refine blk_drewN ?_ _ | refine blk_drew ?_ | refine blk_alloc ?_ _)); exact BK899.out) Try.underlying32 rfl (by kernel_rfl) (.tmp .nil)))) rfl ?_
                  exact ⟨_, by first | rfl | (simp [errW_none, errW_some] <;> rfl) | (simp [*, errW_none, errW_some] <;> rfl), by (with_reducible repeat (first | apply Kd.S_alloc | apply Kd.S_drewN | apply Kd.S_drew)); exact Kd.S_mono (Kd.S_far (p := ⟨gb899, 3, none⟩) (Kd.S_far (p := ⟨gb899, 2, none⟩) (Kd.S_far (p := ⟨gb899, 1, none⟩) (Kd.S_far (p := ⟨gb899, 0, none⟩) (Kd.S_far (p := ⟨gb898, 0, none⟩) (Kd.S_types (Kd.S_types HO921.out BK898.out (by decide)) BK899.out (by decide)) (fun _ hk => hk.1.2) (.slice Ao89 t919.length co89)) (fun _ hk => hk.2) (.int .i64 t922)) (fun _ hk => hk.2) (.int .i64 t923)) (fun _ hk => hk.2) (.int .i64 t924)) (fun _ hk => hk.2) (.int .i64 t925)) (fun _ hk => trivial), by repeat (first | (with_reducible first | exact HB.out | apply below_alloc | apply pw_below_drewN | apply below_drew1 | refine below_set ?_ GE896.out | refine below_set ?_ GE897.out | refine below_set ?_ GE898.out | refine below_set ?_ GE899.out | refine below_set ?_ GE926.out | refine below_set ?_ GE927.out) | exact HB.out)⟩
          · rw [if_neg c57] at H
            exact absurd H (by simp)

end Go.Proofs.Ytaieobidkmihkaa.P


/- l2Append: what it comes to. -/
namespace Go.Proofs.Ytaieobidkmihkaa.P
open Go.RowKit Go.Proofs.YtaieobidkmihkaaW.PrintWords Go.Proofs.YtaieobidkmihkaaW.PrintMore Go.Proofs.YtaieobidkmihkaaW.Mine
set_option linter.unusedVariables false
set_option linter.unusedSimpArgs false
def appendF (m : List (List Int)) (a s n c : Int) (l : List Int) : List (List Int) × Int × Int × Int × Int × Bool := if (appendP m a s n c l).2.2.2.2.2 = true then appendP m a s n c l else ([], 0, 0, 0, 0, false)
theorem room_eq {n c : Int} {l : List Int} (h1 : ¬ n + (l.length : Int) > 64) (hn : 0 ≤ n) : n + (l.length : Int) ≤ roomP n c l ∧ roomP n c l ≤ 64 := by
  unfold roomP mn mx
  split <;> split <;> omega
theorem growRow_eq {row : List Int} {s n : Int} {N : Nat} {l : List Int} (hs : 0 ≤ s) (hn : 0 ≤ n) (hr : s + n ≤ (row.length : Int)) (hN : n + (l.length : Int) ≤ N) :
    growRow row s n N l = (((row.drop s.toNat).take n.toNat) ++ l) ++ List.replicate (N - (n.toNat + l.length)) 0 := by
  have hl : ((row.drop s.toNat).take n.toNat).length = n.toNat := by simp; omega
  unfold growRow
  generalize (row.drop s.toNat).take n.toNat = E at hl ⊢
  rw [List.take_of_length_le (show E.length ≤ N by omega), List.take_of_length_le (show l.length ≤ N - n.toNat by omega)]
  unfold spl
  rw [List.take_zero, List.nil_append, Nat.zero_add, Nat.zero_add, hl, List.drop_replicate, List.take_left' hl, List.append_assoc]
  congr 1
  congr 1
  rw [List.drop_append, hl, List.drop_eq_nil_of_le (by omega), List.nil_append, List.drop_replicate]
  congr 1
  omega
theorem growRow_length {row : List Int} {s n : Int} {N : Nat} {l : List Int} (hs : 0 ≤ s) (hn : 0 ≤ n) (hr : s + n ≤ (row.length : Int)) (hN : n + (l.length : Int) ≤ N) : (growRow row s n N l).length = N := by
  rw [growRow_eq hs hn hr hN]
  simp
  omega
theorem mostA_f (a b : Int) : spec_l1Most.f a b = some (mx a b) := by
  unfold spec_l1Most.f mx
  by_cases h : a > b
  · rw [if_pos h, if_neg (by omega)]
  · rw [if_neg h]
    by_cases h2 : a < b
    · rw [if_pos h2]
    · rw [if_neg h2, show a = b by omega]
theorem leastA_f (a : Int) : spec_l1Least.f a 64 = some (mn 64 a) := by
  unfold spec_l1Least.f mn
  by_cases h : a < 64
  · rw [if_pos h, if_pos h]
  · rw [if_neg h, if_neg h]
theorem padA_ev (m : List (List Int)) (a s n c : Int) (l : List Int) (h : okM m) (hc : 0 ≤ c ∧ c ≤ 64) (hn : 0 ≤ n) (h64 : n + (l.length : Int) ≤ 64) (E : List Int) : ∀ (j i : Nat), E.length + i + j = (roomP n c l).toNat →
    Ev (fun q => spec_l2Append.l0 q (n + (l.length : Int)) (E ++ List.replicate i 0) m a s n c) (m ++ [E ++ List.replicate ((roomP n c l).toNat - E.length) 0], (m.length : Int), 0, n + (l.length : Int), ((E ++ List.replicate ((roomP n c l).toNat - E.length) (0 : Int)).length : Int), true) := by
  have hN := room_eq (c := c) (l := l) (n := n) (by omega) hn
  have hroom : mn 64 (mx (2 * c) (n + (l.length : Int))) = roomP n c l := rfl
  intro j
  induction j with
  | zero =>
    intro i hi
    have e1 : i = (roomP n c l).toNat - E.length := by omega
    subst e1
    have hn := l2New_f m (E ++ List.replicate ((roomP n c l).toNat - E.length) 0) (n + (l.length : Int)) h (by simp; omega)
    refine Ev.step (f := fun q => (spec_l2New.f q m (E ++ List.replicate ((roomP n c l).toNat - E.length) 0) (n + (l.length : Int))).bind fun t => some (t.1, t.2.1, t.2.2.1, t.2.2.2.1, t.2.2.2.2, true)) (fun q => ?_) (Ev.bind hn (Ev.now _))
    simp only [spec_l2Append.l0, mostA_f, leastA_f, Option.bind_some, wrap_ok (x := 2 * c) (by omega) (by omega), hroom]
    rw [if_neg (by simp; omega)]
  | succ j ih =>
    intro i hi
    refine Ev.step (f := fun q => spec_l2Append.l0 q (n + (l.length : Int)) (E ++ List.replicate (i + 1) 0) m a s n c) (fun q => ?_) (ih (i + 1) (by omega))
    simp only [spec_l2Append.l0, mostA_f, leastA_f, Option.bind_some, wrap_ok (x := 2 * c) (by omega) (by omega), hroom]
    rw [if_pos (by simp; omega), if_pos (by simp; omega), List.append_assoc, ← List.replicate_succ']
theorem l2Append_f (m : List (List Int)) (a s n c : Int) (l : List Int) (h : okM m) (hw : WinOk m a s n c) (hl : l.length ≤ 1048576) : Ev (fun k => spec_l2Append.f k m a s n c l) (appendF m a s n c l) := by
  have h1 := hw.s0; have h2 := hw.n0; have h3 := hw.s1; have h4 := hw.n1; have h5 := hw.c1; have h6 := hw.r1
  simp only [spec_l2Append.f, spec_l2Room.f, Option.bind_some, wrap_ok (x := c - n) (by omega) (by omega), wrap_ok (x := 64 - n) (by omega) (by omega)]
  by_cases hfit : n + (l.length : Int) ≤ c
  · have hP : appendF m a s n c l = (putRow m a (spl (rowB m a) (s.toNat + n.toNat) l), a, s, n + (l.length : Int), c, true) := by
      unfold appendF appendP
      rw [if_pos hfit, if_pos rfl, show (s + n).toNat = s.toNat + n.toNat by omega]
    rw [hP]
    simp only [if_pos (show (l.length : Int) ≤ c - n by omega)]
    refine Ev.bind (l2Write_f m a s n c n l h hw h2 (by omega)) ?_
    simp only [spec_l2Slice.f, Option.bind_some, Int.sub_zero, Int.add_zero, wrap_ok (x := n + (l.length : Int)) (by omega) (by omega), wrap_ok (x := c) (by omega) (by omega), wrap_ok (x := s) (by omega) (by omega)]
    exact Ev.now _
  · simp only [if_neg (show ¬ (l.length : Int) ≤ c - n by omega)]
    by_cases h64 : n + (l.length : Int) > 64
    · have hP : appendF m a s n c l = ([], 0, 0, 0, 0, false) := by
        unfold appendF appendP
        rw [if_neg hfit, if_pos (Or.inl h64), if_neg (by simp)]
      rw [hP]
      simp only [if_pos (show (l.length : Int) > 64 - n by omega)]
      refine Ev.step (fun k => ?_) (Ev.now _)
      simp only [spec_l2Append.j0, if_true]
    · simp only [if_neg (show ¬ (l.length : Int) > 64 - n by omega)]
      by_cases h16 : (m.length : Int) = 16
      · have hP : appendF m a s n c l = ([], 0, 0, 0, 0, false) := by
          unfold appendF appendP
          rw [if_neg hfit, if_pos (Or.inr h16), if_neg (by simp)]
        rw [hP, beq_iff_eq.2 h16]
        refine Ev.step (fun k => ?_) (Ev.now _)
        simp only [spec_l2Append.j0, if_true]
      · have hN := room_eq (c := c) h64 h2
        have hgl := growRow_length (N := (roomP n c l).toNat) h1 h2 (show s + n ≤ ((rowB m a).length : Int) by omega) (show n + (l.length : Int) ≤ ((roomP n c l).toNat : Int) by omega)
        have hge := growRow_eq (N := (roomP n c l).toNat) h1 h2 (show s + n ≤ ((rowB m a).length : Int) by omega) (show n + (l.length : Int) ≤ ((roomP n c l).toNat : Int) by omega)
        have hP : appendF m a s n c l = (m ++ [growRow (rowB m a) s n (roomP n c l).toNat l], (m.length : Int), 0, n + (l.length : Int), ((roomP n c l).toNat : Int), true) := by
          have hb : ¬ (n + (l.length : Int) > 64 ∨ (m.length : Int) = 16) := by rintro (h | h); exact h64 h; exact h16 h
          unfold appendF appendP
          rw [if_neg hfit, if_neg hb, if_pos rfl]
        rw [hP, beq_eq_false_iff_ne.2 h16]
        have hsl := seeB_length hw
        have hE : (seeB m a s n ++ l).length = n.toNat + l.length := by rw [List.length_append]; omega
        refine Ev.step (f := fun k => (spec_l2Bytes.f k m a s n c).bind fun t => if t.length + l.length < 140737488355328 then spec_l2Append.l0 k (wrap64 (n + (l.length : Int))) (t ++ l) m a s n c else none) (fun k => ?_) ?_
        · simp only [spec_l2Append.j0]
          rw [if_neg (by decide)]
        · refine Ev.bind (l2Bytes_f hw) ?_
          simp only [if_pos (show (seeB m a s n).length + l.length < 140737488355328 by omega), wrap_ok (x := n + (l.length : Int)) (by omega) (by omega)]
          have hp := padA_ev m a s n c l h ⟨hw.c0, h5⟩ h2 (by omega) (seeB m a s n ++ l) ((roomP n c l).toNat - (seeB m a s n ++ l).length) 0 (by omega)
          rw [List.replicate_zero, List.append_nil, hE] at hp
          have hsee : seeB m a s n = ((rowB m a).drop s.toNat).take n.toNat := rfl
          rw [← hsee] at hge
          rw [← hge, hgl] at hp
          exact hp
theorem memB_of {m : List (List Int)} (h : m.length ≤ 16) (hr : ∀ x ∈ m, 1 ≤ x.length ∧ x.length ≤ 64) : memB m = true := by
  unfold memB
  rw [Bool.and_eq_true]
  exact ⟨List.all_eq_true.2 (fun x hx => decide_eq_true (hr x hx)), decide_eq_true h⟩
theorem appendP_memB {m M : List (List Int)} {a s n cp x0 x1 x2 x3 : Int} {l : List Int} (hm : memB m = true) (hw : WinOk m a s n cp) (hP : appendP m a s n cp l = (M, x0, x1, x2, x3, true)) : memB M = true := by
  have h1 := hw.s0; have h2 := hw.n0; have h3 := hw.s1; have h4 := hw.n1; have h5 := hw.c0
  unfold appendP at hP
  split at hP
  · cases hP
    have hl := spl_length (rowB m a) (s + n).toNat l (by omega)
    exact putRow_memB hm (by rw [hl]; exact hw.r0) (by rw [hl]; exact hw.r1)
  · split at hP
    · cases hP
    · rename_i h6 hb
      cases hP
      have hb1 : ¬ n + (l.length : Int) > 64 := fun h => hb (.inl h)
      have hb2 : ¬ (m.length : Int) = 16 := fun h => hb (.inr h)
      have hN := room_eq (c := cp) hb1 h2
      have hm16 := memB_len hm
      refine memB_of (by simp; omega) (fun x hx => ?_)
      rcases List.mem_append.1 hx with hx | hx
      · exact memB_rows hm x hx
      · rw [List.mem_singleton] at hx
        subst hx
        rw [growRow_length h1 h2 (by omega) (by omega)]
        omega
end Go.Proofs.Ytaieobidkmihkaa.P


